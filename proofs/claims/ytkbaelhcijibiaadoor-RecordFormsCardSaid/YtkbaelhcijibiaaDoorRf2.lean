/- Texts of this claim, one behind the other: Pxxtermcut, PxxtermMay, PxxtermAll, Plain1, Pxxrecordlow, Pxxrecordtext, Given3, PxxrecordPut, Plain2, Pxxrecordtakertake, Given2, Pxxrecordtakertext. -/
import Derived.Test.YtkbaelhcijibiaaDoorRf1
import Derived.Lib.Hide
import Derived.BigQuiet
import Derived.Deep.QuietTactic
import Derived.Lib.ConvBytes
import Derived.Lib.AtoiErrMem

/- Of each function of this text: a plain Lean function and a proof that the machine's call comes to its answers; printed by this session's program. -/
namespace Go.Proofs.YtkbaelhcijibiaaDoor.Px
open Go.RowKit Go.Proofs.YtkbaelhcijibiaaDoorW.PrintWords Go.Proofs.YtkbaelhcijibiaaDoorW.PrintLast Go.Proofs.YtkbaelhcijibiaaDoorW.PrintMore
attribute [local go_sem] max2_int min2_int max_two min_two max_three min_three max_four min_four   -- for this text's walks alone
set_option linter.unusedVariables false
set_option linter.unusedSimpArgs false

/-! ### term_cut: function 90 -/
mutual
def term_cut.j0 : Nat → ByteArray → Int → Bool → Bool → Option (Int × Int × List ByteArray × ByteArray × Bool)
  | 0, _, _, _, _ => none
  | k + 1, x8, x11, x12, x52 => if x52 = true then (some (2, x11, ([] : List ByteArray), x8, x12)) else (term_cut.l0 k x8 x11 ([] : List ByteArray))
def term_cut.l0 : Nat → ByteArray → Int → List ByteArray → Option (Int × Int × List ByteArray × ByteArray × Bool)
  | 0, _, _, _ => none
  | k + 1, x8, x11, x13 => if (x13.length : Int) < 3 then (if 1 ≤ (x8.size : Int) then ((term_cut.f k (x8.extract 1 x8.size)).bind fun bt118 => (if bt118.2.2.2.2 = true then (if 0 ≤ (wrap64 (((x8.extract 1 x8.size).size : Int) - (bt118.2.2.2.1.size : Int))) then (if (wrap64 (((x8.extract 1 x8.size).size : Int) - (bt118.2.2.2.1.size : Int))) ≤ ((x8.extract 1 x8.size).size : Int) then (if x13.length < 8796093022208 then ((some (x13 ++ [(x8.extract 1 x8.size).extract 0 ((wrap64 (((x8.extract 1 x8.size).size : Int) - (bt118.2.2.2.1.size : Int))) : Int).toNat] : List ByteArray)).bind fun y125 => ((strings_HasPrefix.f bt118.2.2.2.1 (⟨#[32]⟩ : ByteArray)).bind fun t128 => (if t128 = true then (term_cut.l0 k bt118.2.2.2.1 x11 y125) else ((strings_CutPrefix.f bt118.2.2.2.1 (⟨#[41]⟩ : ByteArray)).bind fun bt129 => (some (2, x11, y125, bt129.1, bt129.2)))))) else (none)) else (none)) else (none)) else (some (0, 0, ([] : List ByteArray), (⟨#[]⟩ : ByteArray), false)))) else (none)) else ((strings_CutPrefix.f x8 (⟨#[41]⟩ : ByteArray)).bind fun bt116 => (some (2, x11, x13, bt116.1, bt116.2)))
def term_cut.f : Nat → ByteArray → Option (Int × Int × List ByteArray × ByteArray × Bool)
  | 0, _ => none
  | k + 1, a0 => (term_word.f a0).bind fun bt109 => (if bt109.1.toList = ([95] : List UInt8) then (some (0, 0, ([] : List ByteArray), bt109.2, true)) else (if bt109.1.toList = ([33] : List UInt8) then (some (3, 0, ([] : List ByteArray), bt109.2, true)) else ((term_Number.f bt109.1).bind fun bt111 => (if bt111.2 = true then (some (1, bt111.1, ([] : List ByteArray), bt109.2, true)) else ((term_Tag.f bt109.1).bind fun bt113 => (if bt113.2 = true then ((strings_HasPrefix.f bt109.2 (⟨#[40]⟩ : ByteArray)).bind fun t115 => (term_cut.j0 k bt109.2 bt113.1 bt113.2 (!t115))) else (term_cut.j0 k bt109.2 bt113.1 bt113.2 true)))))))
end
theorem term_cut.mono_l : ∀ k, (∀ y0, LeO (term_cut.f k y0) (term_cut.f (k + 1) y0)) ∧ (∀ y0 y1 y2 y3, LeO (term_cut.j0 k y0 y1 y2 y3) (term_cut.j0 (k + 1) y0 y1 y2 y3)) ∧ (∀ y0 y1 y2, LeO (term_cut.l0 k y0 y1 y2) (term_cut.l0 (k + 1) y0 y1 y2))
  | 0 => ⟨fun _ r h => by simp [term_cut.f] at h, fun _ _ _ _ r h => by simp [term_cut.j0] at h, fun _ _ _ r h => by simp [term_cut.l0] at h⟩
  | k + 1 => by
    obtain ⟨ih0, ih1, ih2⟩ := term_cut.mono_l k
    refine ⟨?_, ?_, ?_⟩
    · intro y0
      unfold term_cut.f
      repeat' first
      | (with_reducible exact ih0 _)
      | (with_reducible exact ih1 _ _ _ _)
      | (with_reducible exact ih2 _ _ _)
      | (with_reducible exact LeO.refl _)
      | (with_reducible exact LeO.none _)
      | (with_reducible refine LeO.ite ?_ ?_)
      | (with_reducible refine LeO.bind ?_ (fun _ => ?_))
      | exact ih0 _
      | exact ih1 _ _ _ _
      | exact ih2 _ _ _
      | exact LeO.none _
      | refine LeO.ite ?_ ?_
      | refine LeO.bind ?_ (fun _ => ?_)
    · intro y0 y1 y2 y3
      unfold term_cut.j0
      repeat' first
      | (with_reducible exact ih0 _)
      | (with_reducible exact ih1 _ _ _ _)
      | (with_reducible exact ih2 _ _ _)
      | (with_reducible exact LeO.refl _)
      | (with_reducible exact LeO.none _)
      | (with_reducible refine LeO.ite ?_ ?_)
      | (with_reducible refine LeO.bind ?_ (fun _ => ?_))
      | exact ih0 _
      | exact ih1 _ _ _ _
      | exact ih2 _ _ _
      | exact LeO.none _
      | refine LeO.ite ?_ ?_
      | refine LeO.bind ?_ (fun _ => ?_)
    · intro y0 y1 y2
      unfold term_cut.l0
      repeat' first
      | (with_reducible exact ih0 _)
      | (with_reducible exact ih1 _ _ _ _)
      | (with_reducible exact ih2 _ _ _)
      | (with_reducible exact LeO.refl _)
      | (with_reducible exact LeO.none _)
      | (with_reducible refine LeO.ite ?_ ?_)
      | (with_reducible refine LeO.bind ?_ (fun _ => ?_))
      | exact ih0 _
      | exact ih1 _ _ _ _
      | exact ih2 _ _ _
      | exact LeO.none _
      | refine LeO.ite ?_ ?_
      | refine LeO.bind ?_ (fun _ => ?_)
theorem term_cut.mono : ∀ a0 k, LeO (term_cut.f k a0) (term_cut.f (k + 1) a0) := by
  intro a0 k
  obtain ⟨ih0, ih1, ih2⟩ := term_cut.mono_l k
  exact ih0 a0
set_option maxHeartbeats 8000000 in
set_option maxRecDepth 100000 in
theorem term_cut.calls (k : Nat) : ∀ (a0 : ByteArray) (r1 : Int) (r2 : Int) (r3 : List ByteArray) (r4 : ByteArray) (r5 : Bool) (w : World) (hL : Laid w) (h : term_cut.f k a0 = some (r1, r2, r3, r4, r5)),
    Calls Tryd.prog 90 #[.string a0] w fun e w' => ∃ v2_ : Value, e = .returned (.tuple #[.int .i64 r1, .int .i64 r2, v2_, .string r4, .bool r5]) ∧ Kd.R Kd.string 9 w' w.heap.size (fun _ => True) v2_ r3 ∧ Below w.heap.size w w' := by
  induction k using Nat.strongRecOn with
  | _ k ih =>
  intro a0 r1 r2 r3 r4 r5 w hL h
  cases k with
  | zero => exact absurd h (by simp [term_cut.f])
  | succ k =>
  simp only [term_cut.f] at h
  have HLaid := Aside0.mk hL
  clear hL
  have HB := Aside0.mk (Below.refl w.heap.size w)
  have H : ((term_word.f a0).bind fun bt109 => (if bt109.1.toList = ([95] : List UInt8) then (some (0, 0, ([] : List ByteArray), bt109.2, true)) else (if bt109.1.toList = ([33] : List UInt8) then (some (3, 0, ([] : List ByteArray), bt109.2, true)) else ((term_Number.f bt109.1).bind fun bt111 => (if bt111.2 = true then (some (1, bt111.1, ([] : List ByteArray), bt109.2, true)) else ((term_Tag.f bt109.1).bind fun bt113 => (if bt113.2 = true then ((strings_HasPrefix.f bt109.2 (⟨#[40]⟩ : ByteArray)).bind fun t115 => (term_cut.j0 k bt109.2 bt113.1 bt113.2 (!t115))) else (term_cut.j0 k bt109.2 bt113.1 bt113.2 true)))))))) = some (r1, r2, r3, r4, r5) := h
  clear h
  replace H := Option.bind_eq_some_iff.mp H
  obtain ⟨⟨t109, t110⟩, A20, H⟩ := H
  replace H : (if t109.toList = ([95] : List UInt8) then (some (0, 0, ([] : List ByteArray), t110, true)) else (if t109.toList = ([33] : List UInt8) then (some (3, 0, ([] : List ByteArray), t110, true)) else ((term_Number.f t109).bind fun bt111 => (if bt111.2 = true then (some (1, bt111.1, ([] : List ByteArray), t110, true)) else ((term_Tag.f t109).bind fun bt113 => (if bt113.2 = true then ((strings_HasPrefix.f t110 (⟨#[40]⟩ : ByteArray)).bind fun t115 => (term_cut.j0 k t110 bt113.1 bt113.2 (!t115))) else (term_cut.j0 k t110 bt113.1 bt113.2 true))))))) = some (r1, r2, r3, r4, r5) := H
  have A2 := Aside0.mk A20
  clear A20
  by_cases c3 : t109.toList = ([95] : List UInt8)
  · rw [if_pos c3] at H
    have c3b0 : (t109.toList == ([95] : List UInt8)) = true := beq_iff_eq.mpr c3
    have c3b1 : (t109.toList != ([95] : List UInt8)) = false := bne_eq_false_iff_eq.mpr c3
    clear c3
    simp only [Option.some.injEq, Prod.mk.injEq] at H
    obtain ⟨rfl, rfl, rfl, rfl, rfl⟩ := H
    go_enter Tryd.func90, Tryd.ntmps90
    go_wp2_with (first | ((with_reducible refine gate_callee (f := 94) rfl ?_); refine goesL_ (some 24) rfl rfl Tryd.func94 (by kernel_rfl) rfl #[.string a0] rfl (by (try simp only [List.map_toArray, List.map_cons, List.map_nil]); first | done | rfl | (simp only [List.length_drop, List.length_take]; rfl)) ?_; (with_reducible refine (term_word.calls a0 t109 t110 _ A2.out).mono ?_); rintro e w4 ⟨rfl, hb⟩; refine ⟨_, rfl, ?_⟩; have n0_ := Aside0.mk (below_step (by repeat (first | (with_reducible first | exact HB.out | apply below_alloc | apply pw_below_drewN | apply below_drew1) | exact HB.out)) hb); clear HB; have HB := n0_; clear n0_; (try clear hb); (try clear hb2); (try clear hk); (try clear hi)))
    refine bodyPost_ret (results_list (rs := [.tmp 2, .tmp 3, .tmp 4, .tmp 5, .tmp 6]) rfl (by simp) (.tmp (.tmp (.tmp (.tmp (.tmp .nil)))))) rfl ?_
    exact ⟨_, by first | rfl | (simp [errW_none, errW_some] <;> rfl) | (simp [*, errW_none, errW_some] <;> rfl), by first | exact Kd.R_nil _ _ _ _ _ | exact Kd.N_nil _ _ _ _ _ | exact Kd.V_nil _ _ _ _ _ | exact Kd.Q_nil _ _ _ _ _ | exact Kd.S_nil _ _ _ _ _, by repeat (first | (with_reducible first | exact HB.out | apply below_alloc | apply pw_below_drewN | apply below_drew1) | exact HB.out)⟩
  · rw [if_neg c3] at H
    have c3b0 : (t109.toList == ([95] : List UInt8)) = false := beq_eq_false_iff_ne.mpr c3
    have c3b1 : (t109.toList != ([95] : List UInt8)) = true := bne_iff_ne.mpr c3
    by_cases c5 : t109.toList = ([33] : List UInt8)
    · rw [if_pos c5] at H
      have c5b0 : (t109.toList == ([33] : List UInt8)) = true := beq_iff_eq.mpr c5
      have c5b1 : (t109.toList != ([33] : List UInt8)) = false := bne_eq_false_iff_eq.mpr c5
      clear c5
      simp only [Option.some.injEq, Prod.mk.injEq] at H
      obtain ⟨rfl, rfl, rfl, rfl, rfl⟩ := H
      go_enter Tryd.func90, Tryd.ntmps90
      go_wp2_with (first | ((with_reducible refine gate_callee (f := 94) rfl ?_); refine goesL_ (some 24) rfl rfl Tryd.func94 (by kernel_rfl) rfl #[.string a0] rfl (by (try simp only [List.map_toArray, List.map_cons, List.map_nil]); first | done | rfl | (simp only [List.length_drop, List.length_take]; rfl)) ?_; (with_reducible refine (term_word.calls a0 t109 t110 _ A2.out).mono ?_); rintro e w6 ⟨rfl, hb⟩; refine ⟨_, rfl, ?_⟩; have n0_ := Aside0.mk (below_step (by repeat (first | (with_reducible first | exact HB.out | apply below_alloc | apply pw_below_drewN | apply below_drew1) | exact HB.out)) hb); clear HB; have HB := n0_; clear n0_; (try clear hb); (try clear hb2); (try clear hk); (try clear hi)))
      refine bodyPost_ret (results_list (rs := [.tmp 2, .tmp 3, .tmp 4, .tmp 5, .tmp 6]) rfl (by simp) (.tmp (.tmp (.tmp (.tmp (.tmp .nil)))))) rfl ?_
      exact ⟨_, by first | rfl | (simp [errW_none, errW_some] <;> rfl) | (simp [*, errW_none, errW_some] <;> rfl), by first | exact Kd.R_nil _ _ _ _ _ | exact Kd.N_nil _ _ _ _ _ | exact Kd.V_nil _ _ _ _ _ | exact Kd.Q_nil _ _ _ _ _ | exact Kd.S_nil _ _ _ _ _, by repeat (first | (with_reducible first | exact HB.out | apply below_alloc | apply pw_below_drewN | apply below_drew1) | exact HB.out)⟩
    · rw [if_neg c5] at H
      have c5b0 : (t109.toList == ([33] : List UInt8)) = false := beq_eq_false_iff_ne.mpr c5
      have c5b1 : (t109.toList != ([33] : List UInt8)) = true := bne_iff_ne.mpr c5
      replace H := Option.bind_eq_some_iff.mp H
      obtain ⟨⟨t111, t112⟩, A70, H⟩ := H
      replace H : (if t112 = true then (some (1, t111, ([] : List ByteArray), t110, true)) else ((term_Tag.f t109).bind fun bt113 => (if bt113.2 = true then ((strings_HasPrefix.f t110 (⟨#[40]⟩ : ByteArray)).bind fun t115 => (term_cut.j0 k t110 bt113.1 bt113.2 (!t115))) else (term_cut.j0 k t110 bt113.1 bt113.2 true)))) = some (r1, r2, r3, r4, r5) := H
      have A7 := Aside0.mk A70
      clear A70
      by_cases c8 : t112 = true
      · subst c8
        have H1 : (some (1, t111, ([] : List ByteArray), t110, true)) = some (r1, r2, r3, r4, r5) := by rw [if_pos rfl] at H; exact H
        clear H
        have H := H1
        clear H1
        simp only [Option.some.injEq, Prod.mk.injEq] at H
        obtain ⟨rfl, rfl, rfl, rfl, rfl⟩ := H
        go_enter Tryd.func90, Tryd.ntmps90
        go_wp2_with (first | ((with_reducible refine gate_callee (f := 94) rfl ?_); refine goesL_ (some 24) rfl rfl Tryd.func94 (by kernel_rfl) rfl #[.string a0] rfl (by (try simp only [List.map_toArray, List.map_cons, List.map_nil]); first | done | rfl | (simp only [List.length_drop, List.length_take]; rfl)) ?_; (with_reducible refine (term_word.calls a0 t109 t110 _ A2.out).mono ?_); rintro e w9 ⟨rfl, hb⟩; refine ⟨_, rfl, ?_⟩; have n0_ := Aside0.mk (below_step (by repeat (first | (with_reducible first | exact HB.out | apply below_alloc | apply pw_below_drewN | apply below_drew1) | exact HB.out)) hb); clear HB; have HB := n0_; clear n0_; (try clear hb); (try clear hb2); (try clear hk); (try clear hi)) | ((with_reducible refine gate_callee (f := 95) rfl ?_); refine goesL_ (some 35) rfl rfl Tryd.func95 (by kernel_rfl) rfl #[.string t109] rfl (by (try simp only [List.map_toArray, List.map_cons, List.map_nil]); first | done | rfl | (simp only [List.length_drop, List.length_take]; rfl)) ?_; (with_reducible refine (term_Number.calls t109 t111 true _ ?side1 A7.out).mono ?_); (case side1 => exact Laid.below HLaid.out (by repeat (first | (with_reducible first | exact HB.out | apply below_alloc | apply pw_below_drewN | apply below_drew1) | exact HB.out))); rintro e w10 ⟨rfl, hb⟩; refine ⟨_, rfl, ?_⟩; have n0_ := Aside0.mk (below_step (by repeat (first | (with_reducible first | exact HB.out | apply below_alloc | apply pw_below_drewN | apply below_drew1) | exact HB.out)) hb); clear HB; have HB := n0_; clear n0_; (try clear hb); (try clear hb2); (try clear hk); (try clear hi)))
        refine bodyPost_ret (results_list (rs := [.tmp 2, .tmp 3, .tmp 4, .tmp 5, .tmp 6]) rfl (by simp) (.tmp (.tmp (.tmp (.tmp (.tmp .nil)))))) rfl ?_
        exact ⟨_, by first | rfl | (simp [errW_none, errW_some] <;> rfl) | (simp [*, errW_none, errW_some] <;> rfl), by first | exact Kd.R_nil _ _ _ _ _ | exact Kd.N_nil _ _ _ _ _ | exact Kd.V_nil _ _ _ _ _ | exact Kd.Q_nil _ _ _ _ _ | exact Kd.S_nil _ _ _ _ _, by repeat (first | (with_reducible first | exact HB.out | apply below_alloc | apply pw_below_drewN | apply below_drew1) | exact HB.out)⟩
      · replace c8 := Bool.eq_false_iff.mpr c8
        subst c8
        have H1 : ((term_Tag.f t109).bind fun bt113 => (if bt113.2 = true then ((strings_HasPrefix.f t110 (⟨#[40]⟩ : ByteArray)).bind fun t115 => (term_cut.j0 k t110 bt113.1 bt113.2 (!t115))) else (term_cut.j0 k t110 bt113.1 bt113.2 true))) = some (r1, r2, r3, r4, r5) := by rw [if_neg (show ¬ (false = true) by decide)] at H; exact H
        clear H
        have H := H1
        clear H1
        replace H := Option.bind_eq_some_iff.mp H
        obtain ⟨⟨t113, t114⟩, A110, H⟩ := H
        replace H : (if t114 = true then ((strings_HasPrefix.f t110 (⟨#[40]⟩ : ByteArray)).bind fun t115 => (term_cut.j0 k t110 t113 t114 (!t115))) else (term_cut.j0 k t110 t113 t114 true)) = some (r1, r2, r3, r4, r5) := H
        have A11 := Aside0.mk A110
        clear A110
        have HC12 := Aside0.mk H
        clear H
        go_enter Tryd.func90, Tryd.ntmps90
        go_upto_region 10 with (first | ((with_reducible refine gate_callee (f := 94) rfl ?_); refine goesL_ (some 24) rfl rfl Tryd.func94 (by kernel_rfl) rfl #[.string a0] rfl (by (try simp only [List.map_toArray, List.map_cons, List.map_nil]); first | done | rfl | (simp only [List.length_drop, List.length_take]; rfl)) ?_; (with_reducible refine (term_word.calls a0 t109 t110 _ A2.out).mono ?_); rintro e w13 ⟨rfl, hb⟩; refine ⟨_, rfl, ?_⟩; have n0_ := Aside0.mk (below_step (by repeat (first | (with_reducible first | exact HB.out | apply below_alloc | apply pw_below_drewN | apply below_drew1) | exact HB.out)) hb); clear HB; have HB := n0_; clear n0_; (try clear hb); (try clear hb2); (try clear hk); (try clear hi)) | ((with_reducible refine gate_callee (f := 95) rfl ?_); refine goesL_ (some 35) rfl rfl Tryd.func95 (by kernel_rfl) rfl #[.string t109] rfl (by (try simp only [List.map_toArray, List.map_cons, List.map_nil]); first | done | rfl | (simp only [List.length_drop, List.length_take]; rfl)) ?_; (with_reducible refine (term_Number.calls t109 t111 false _ ?side1 A7.out).mono ?_); (case side1 => exact Laid.below HLaid.out (by repeat (first | (with_reducible first | exact HB.out | apply below_alloc | apply pw_below_drewN | apply below_drew1) | exact HB.out))); rintro e w14 ⟨rfl, hb⟩; refine ⟨_, rfl, ?_⟩; have n0_ := Aside0.mk (below_step (by repeat (first | (with_reducible first | exact HB.out | apply below_alloc | apply pw_below_drewN | apply below_drew1) | exact HB.out)) hb); clear HB; have HB := n0_; clear n0_; (try clear hb); (try clear hb2); (try clear hk); (try clear hi)) | ((with_reducible refine gate_callee (f := 96) rfl ?_); refine goesL_ (some 43) rfl rfl Tryd.func96 (by kernel_rfl) rfl #[.string t109] rfl (by (try simp only [List.map_toArray, List.map_cons, List.map_nil]); first | done | rfl | (simp only [List.length_drop, List.length_take]; rfl)) ?_; (with_reducible refine (term_Tag.calls t109 t113 t114 _ ?side1 A11.out).mono ?_); (case side1 => exact Laid.below HLaid.out (by repeat (first | (with_reducible first | exact HB.out | apply below_alloc | apply pw_below_drewN | apply below_drew1) | exact HB.out))); rintro e w15 ⟨rfl, hb⟩; refine ⟨_, rfl, ?_⟩; have n0_ := Aside0.mk (below_step (by repeat (first | (with_reducible first | exact HB.out | apply below_alloc | apply pw_below_drewN | apply below_drew1) | exact HB.out)) hb); clear HB; have HB := n0_; clear n0_; (try clear hb); (try clear hb2); (try clear hk); (try clear hi)))
        (try simp only [Act.put, List.setIfInBounds_toArray, List.set_cons_zero, List.set_cons_succ])
        go_cut [52] (fun v52 wc => ∃ (kq : Nat) (x52_11 : Bool), v52 = .bool x52_11 ∧ Aside0 (term_cut.j0 kq t110 t113 t114 x52_11 = some (r1, r2, r3, r4, r5)) ∧ Aside0 (kq ≤ k) ∧ Aside0 (Below w.heap.size w wc))
        case first =>
          have H := HC12.out
          clear HC12
          by_cases c16 : t114 = true
          · subst c16
            have H1 : ((strings_HasPrefix.f t110 (⟨#[40]⟩ : ByteArray)).bind fun t115 => (term_cut.j0 k t110 t113 true (!t115))) = some (r1, r2, r3, r4, r5) := by rw [if_pos rfl] at H; exact H
            clear H
            have H := H1
            clear H1
            replace H := Option.bind_eq_some_iff.mp H
            obtain ⟨t115, A170, H⟩ := H
            replace H : (term_cut.j0 k t110 t113 true (!t115)) = some (r1, r2, r3, r4, r5) := H
            have A17 := Aside0.mk A170
            clear A170
            have H' := Aside0.mk H
            clear H
            go_wp2_with (first | (go_at_call 97; (with_reducible refine (strings_HasPrefix.calls t110 (⟨#[40]⟩ : ByteArray) t115 _ A17.out).mono ?_); rintro e w' ⟨rfl, ⟨nd, rfl⟩⟩))
            go_meet
            case rel => exact ⟨_, (!t115), (by first | rfl | (simp; done) | (simp [*]; done)), H', ⟨by first | omega | exact Nat.le_refl _⟩, ⟨by repeat (first | (with_reducible first | exact HB.out | apply below_alloc | apply pw_below_drewN | apply below_drew1) | exact HB.out)⟩⟩
          · replace c16 := Bool.eq_false_iff.mpr c16
            subst c16
            have H1 : (term_cut.j0 k t110 t113 false true) = some (r1, r2, r3, r4, r5) := by rw [if_neg (show ¬ (false = true) by decide)] at H; exact H
            clear H
            have H := H1
            clear H1
            have H' := Aside0.mk H
            clear H
            go_wp2
            go_meet
            case rel => exact ⟨_, (true), (by first | rfl | (simp; done) | (simp [*]; done)), H', ⟨by first | omega | exact Nat.le_refl _⟩, ⟨by repeat (first | (with_reducible first | exact HB.out | apply below_alloc | apply pw_below_drewN | apply below_drew1) | exact HB.out)⟩⟩
        case rest =>
          clear HC12
          try clear c1
          try clear p2
          try clear c3
          try clear c3b0
          try clear c3b1
          try clear c5
          try clear c5b0
          try clear c5b1
          try clear c8
          try clear c9
          try clear c16
          obtain ⟨kq, x52_11, rfl, HA, HJ11, HB⟩ := hcut
          cases kq with
          | zero => exact absurd HA.out (by simp [term_cut.j0])
          | succ kj11 =>
            have H := HA.out
            clear HA
            simp only [term_cut.j0] at H
            by_cases c18 : x52_11 = true
            · subst c18
              have H1 : (some (2, t113, ([] : List ByteArray), t110, t114)) = some (r1, r2, r3, r4, r5) := by rw [if_pos rfl] at H; exact H
              clear H
              have H := H1
              clear H1
              simp only [Option.some.injEq, Prod.mk.injEq] at H
              obtain ⟨rfl, rfl, rfl, rfl, rfl⟩ := H
              go_wp2
              refine bodyPost_ret (results_list (rs := [.tmp 2, .tmp 3, .tmp 4, .tmp 5, .tmp 6]) rfl (by simp) (.tmp (.tmp (.tmp (.tmp (.tmp .nil)))))) rfl ?_
              exact ⟨_, by first | rfl | (simp [errW_none, errW_some] <;> rfl) | (simp [*, errW_none, errW_some] <;> rfl), by first | exact Kd.R_nil _ _ _ _ _ | exact Kd.N_nil _ _ _ _ _ | exact Kd.V_nil _ _ _ _ _ | exact Kd.Q_nil _ _ _ _ _ | exact Kd.S_nil _ _ _ _ _, by repeat (first | (with_reducible first | exact HB.out | apply below_alloc | apply pw_below_drewN | apply below_drew1) | exact HB.out)⟩
            · replace c18 := Bool.eq_false_iff.mpr c18
              subst c18
              have H1 : (term_cut.l0 kj11 t110 t113 ([] : List ByteArray)) = some (r1, r2, r3, r4, r5) := by rw [if_neg (show ¬ (false = true) by decide)] at H; exact H
              clear H
              have H := H1
              clear H1
              have H' := Aside0.mk H
              clear H
              go_wp2
              (try simp only [Act.put, List.setIfInBounds_toArray, List.set_cons_zero, List.set_cons_succ])
              go_loopg [8, 13] kj11 (fun kq v8 v13 w' => ∃ (x8_2 : ByteArray) (x13_2 : List ByteArray), v8 = .string x8_2 ∧ Aside0 (term_cut.l0 kq x8_2 t113 x13_2 = some (r1, r2, r3, r4, r5)) ∧ Aside0 (kq ≤ kj11) ∧ Aside0 (Kd.R Kd.string 9 w' w.heap.size (fun _ => True) v13 x13_2) ∧ Aside0 (Below w.heap.size w w'))
              case atStart => exact ⟨(t110), (([] : List ByteArray)), (by first | rfl | (simp; done) | (simp [*]; done)), H', ⟨Nat.le_refl _⟩, ⟨by first | exact Kd.R_nil _ _ _ _ _ | exact Kd.N_nil _ _ _ _ _ | exact Kd.V_nil _ _ _ _ _ | exact Kd.Q_nil _ _ _ _ _ | exact Kd.S_nil _ _ _ _ _⟩, ⟨by repeat (first | (with_reducible first | exact HB.out | apply below_alloc | apply pw_below_drewN | apply below_drew1) | exact HB.out)⟩⟩
              case round =>
                clear H'
                try clear c1
                try clear p2
                try clear c3
                try clear c3b0
                try clear c3b1
                try clear c5
                try clear c5b0
                try clear c5b1
                try clear c8
                try clear c9
                try clear c16
                try clear c18
                try clear p2
                obtain ⟨x8_2, x13_2, rfl, HA, HK2, HO_13, HB⟩ := hrel
                cases gk with
                | zero => exact absurd HA.out (by simp [term_cut.l0])
                | succ k2 =>
                  have H := HA.out
                  clear HA
                  simp only [term_cut.l0] at H
                  by_cases c19 : (x13_2.length : Int) < 3
                  · rw [if_pos c19] at H
                    have c19b0 : decide ((x13_2.length : Int) < 3) = true := decide_eq_true c19
                    have c19b1 : decide (x13_2.length < 3) = true := decide_eq_true (by omega)
                    clear c19
                    by_cases c20 : 1 ≤ (x8_2.size : Int)
                    · rw [if_pos c20] at H
                      have c20b0 := eq_true c20
                      have c20b1 : decide (1 ≤ (x8_2.size : Int)) = true := decide_eq_true c20
                      clear c20
                      replace H := Option.bind_eq_some_iff.mp H
                      obtain ⟨⟨t118, t119, t120, t121, t122⟩, A210, H⟩ := H
                      replace H : (if t122 = true then (if 0 ≤ (wrap64 (((x8_2.extract 1 x8_2.size).size : Int) - (t121.size : Int))) then (if (wrap64 (((x8_2.extract 1 x8_2.size).size : Int) - (t121.size : Int))) ≤ ((x8_2.extract 1 x8_2.size).size : Int) then (if x13_2.length < 8796093022208 then ((some (x13_2 ++ [(x8_2.extract 1 x8_2.size).extract 0 ((wrap64 (((x8_2.extract 1 x8_2.size).size : Int) - (t121.size : Int))) : Int).toNat] : List ByteArray)).bind fun y125 => ((strings_HasPrefix.f t121 (⟨#[32]⟩ : ByteArray)).bind fun t128 => (if t128 = true then (term_cut.l0 k2 t121 t113 y125) else ((strings_CutPrefix.f t121 (⟨#[41]⟩ : ByteArray)).bind fun bt129 => (some (2, t113, y125, bt129.1, bt129.2)))))) else (none)) else (none)) else (none)) else (some (0, 0, ([] : List ByteArray), (⟨#[]⟩ : ByteArray), false))) = some (r1, r2, r3, r4, r5) := H
                      have A21 := Aside0.mk A210
                      clear A210
                      by_cases c22 : t122 = true
                      · subst c22
                        have H1 : (if 0 ≤ (wrap64 (((x8_2.extract 1 x8_2.size).size : Int) - (t121.size : Int))) then (if (wrap64 (((x8_2.extract 1 x8_2.size).size : Int) - (t121.size : Int))) ≤ ((x8_2.extract 1 x8_2.size).size : Int) then (if x13_2.length < 8796093022208 then ((some (x13_2 ++ [(x8_2.extract 1 x8_2.size).extract 0 ((wrap64 (((x8_2.extract 1 x8_2.size).size : Int) - (t121.size : Int))) : Int).toNat] : List ByteArray)).bind fun y125 => ((strings_HasPrefix.f t121 (⟨#[32]⟩ : ByteArray)).bind fun t128 => (if t128 = true then (term_cut.l0 k2 t121 t113 y125) else ((strings_CutPrefix.f t121 (⟨#[41]⟩ : ByteArray)).bind fun bt129 => (some (2, t113, y125, bt129.1, bt129.2)))))) else (none)) else (none)) else (none)) = some (r1, r2, r3, r4, r5) := by rw [if_pos rfl] at H; exact H
                        clear H
                        have H := H1
                        clear H1
                        obtain ⟨ji23, hji23⟩ : ∃ j_ : Int, (wrap64 (((x8_2.extract 1 x8_2.size).size : Int) - (t121.size : Int))) = j_ := ⟨_, rfl⟩
                        replace H : (if 0 ≤ (ji23) then (if (ji23) ≤ ((x8_2.extract 1 x8_2.size).size : Int) then (if x13_2.length < 8796093022208 then ((some (x13_2 ++ [(x8_2.extract 1 x8_2.size).extract 0 ((ji23) : Int).toNat] : List ByteArray)).bind fun y125 => ((strings_HasPrefix.f t121 (⟨#[32]⟩ : ByteArray)).bind fun t128 => (if t128 = true then (term_cut.l0 k2 t121 t113 y125) else ((strings_CutPrefix.f t121 (⟨#[41]⟩ : ByteArray)).bind fun bt129 => (some (2, t113, y125, bt129.1, bt129.2)))))) else (none)) else (none)) else (none)) = some (r1, r2, r3, r4, r5) := by first | (rw [hji23] at H; exact H) | (simp only [hji23] at H ⊢; exact H)
                        (try rw [hji23] at A21)
                        have hji23w : (IntKind.i64.wrap (((x8_2.extract 1 x8_2.size).size : Int) - (t121.size : Int))) = ji23 := (i64_w _).trans hji23
                        (try simp only [ByteArray.size_extract, Nat.min_self] at hji23)
                        (try simp only [ByteArray.size_extract, Nat.min_self] at hji23w)
                        by_cases c24 : 0 ≤ (ji23)
                        · rw [if_pos c24] at H
                          have c24b0 := eq_true c24
                          have c24b1 : decide (0 ≤ (ji23)) = true := decide_eq_true c24
                          clear c24
                          by_cases c25 : (ji23) ≤ ((x8_2.extract 1 x8_2.size).size : Int)
                          · rw [if_pos c25] at H
                            have c25b0 := eq_true c25
                            have c25b1 : decide ((ji23) ≤ ((x8_2.extract 1 x8_2.size).size : Int)) = true := decide_eq_true c25
                            (try simp only [ByteArray.size_extract, Nat.min_self] at c25b0)
                            (try simp only [ByteArray.size_extract, Nat.min_self] at c25b1)
                            clear c25
                            by_cases c26 : x13_2.length < 8796093022208
                            · rw [if_pos c26] at H
                              have LMc26 := Aside0.mk c26
                              clear c26
                              obtain ⟨y125, hy125⟩ : ∃ y_ : List ByteArray, y_ = (x13_2 ++ [(x8_2.extract 1 x8_2.size).extract 0 ((ji23) : Int).toNat]) := ⟨_, rfl⟩
                              replace H : ((strings_HasPrefix.f t121 (⟨#[32]⟩ : ByteArray)).bind fun t128 => (if t128 = true then (term_cut.l0 k2 t121 t113 y125) else ((strings_CutPrefix.f t121 (⟨#[41]⟩ : ByteArray)).bind fun bt129 => (some (2, t113, y125, bt129.1, bt129.2))))) = some (r1, r2, r3, r4, r5) := by first | (rw [hy125]; with_reducible exact H) | (have H2_ := (Option.bind_some _ _).symm.trans H; rw [hy125]; with_reducible exact H2_) | (have H2_ := (Option.bind_some _ _).symm.trans H; with_reducible exact H2_) | with_reducible exact H | (rw [hy125]; exact H) | exact H
                              have Ny125 := Aside0.mk hy125
                              clear hy125
                              replace H := Option.bind_eq_some_iff.mp H
                              obtain ⟨t128, A270, H⟩ := H
                              replace H : (if t128 = true then (term_cut.l0 k2 t121 t113 y125) else ((strings_CutPrefix.f t121 (⟨#[41]⟩ : ByteArray)).bind fun bt129 => (some (2, t113, y125, bt129.1, bt129.2)))) = some (r1, r2, r3, r4, r5) := H
                              have A27 := Aside0.mk A270
                              clear A270
                              by_cases c28 : t128 = true
                              · subst c28
                                have H1 : (term_cut.l0 k2 t121 t113 y125) = some (r1, r2, r3, r4, r5) := by rw [if_pos rfl] at H; exact H
                                clear H
                                have H := H1
                                clear H1
                                have H' := Aside0.mk H
                                clear H
                                obtain ⟨Ao29, co29, eo29⟩ := Kd.R_slice HO_13.out
                                subst eo29
                                go_wp2_with (first | ((with_reducible refine gate_callee (f := 90) rfl ?_); refine goesL_ (some 63) rfl rfl Tryd.func90 (by kernel_rfl) rfl #[.string (x8_2.extract 1 x8_2.size)] rfl (by (try simp only [List.map_toArray, List.map_cons, List.map_nil]); first | done | rfl | (simp only [List.length_drop, List.length_take]; rfl)) ?_; (with_reducible refine (ih k2 (by have := HJ11.out; have := HK2.out; omega) (x8_2.extract 1 x8_2.size) t118 t119 t120 t121 true _ ?side1 A21.out).mono ?_); (case side1 => exact Laid.below HLaid.out (by repeat (first | (with_reducible first | exact HB.out | apply below_alloc | apply pw_below_drewN | apply below_drew1) | exact HB.out))); rintro e w30 ⟨v123, rfl, ho0, hb⟩; refine ⟨_, rfl, ?_⟩; have n0_ := Aside0.mk (Kd.R_elder' (by (with_reducible repeat (first | apply Kd.R_alloc | apply Kd.R_drewN | apply Kd.R_drew)); exact HO_13.out) (Kd.R_base ho0) hb); have n1_ := Aside0.mk (Kd.R_lower (Kd.R_new' ho0 (Kd.R_lt (by (with_reducible repeat (first | apply Kd.R_alloc | apply Kd.R_drewN | apply Kd.R_drew)); exact HO_13.out))) (below_size (by repeat (first | (with_reducible first | exact HB.out | apply below_alloc | apply pw_below_drewN | apply below_drew1) | exact HB.out)))); have n2_ := Aside0.mk (below_step (by repeat (first | (with_reducible first | exact HB.out | apply below_alloc | apply pw_below_drewN | apply below_drew1) | exact HB.out)) hb); clear HO_13; clear HB; have HO_13 := n0_; have HO124 := n1_; have HB := n2_; clear n0_ n1_ n2_; (try clear hb); (try clear hb2); (try clear hk); (try clear hi); (try clear ho0)) | ((with_reducible refine gate_builtin (b := .append) (xs := #[.tmp 71, .tmp 79]) rfl ?_); at_builtin; refine Kd.R_append Kd.string (w0 := w) w.heap.size rfl (.tmp 71) (.tmp 79) 22 9 (.string ⟨#[]⟩) 16 rfl Tryd.underlying22 info9 rfl (by decide) (by omega) (.slice Ao29 x13_2.length co29) x13_2 ((x8_2.extract 1 x8_2.size).extract 0 ((ji23) : Int).toNat) [.string ((x8_2.extract 1 x8_2.size).extract 0 ((ji23) : Int).toNat)] (fun k_ => some k_ ≠ (v123 : Value).ownBlock) (fun _ => False) rfl rfl ?aP (fun _ hk => hk.elim) ?aF ?aO ?aB ?aS ?aL ?_; (case aP => exact rfl); (case aB => exact (by repeat (first | (with_reducible first | exact HB.out | apply below_alloc | apply pw_below_drewN | apply below_drew1) | exact HB.out))); (case aF => exact (fun k_ hk => Kd.fresh' (Kd.R_lt (by (with_reducible repeat (first | apply Kd.R_alloc | apply Kd.R_drewN | apply Kd.R_drew)); exact HO124.out)) k_ hk)); (case aO => exact (by (with_reducible repeat (first | apply Kd.R_alloc | apply Kd.R_drewN | apply Kd.R_drew)); exact Kd.R_mono HO_13.out (fun _ hk => hk.2))); (case aS => exact (below_size (by repeat (first | (with_reducible first | exact HB.out | apply below_alloc | apply pw_below_drewN | apply below_drew1) | exact HB.out)))); (case aL => have := LMc26.out; omega); intro v126 w31 ho hb hg hat; rw [← Ny125.out] at ho; have n0_ := Aside0.mk (Kd.R_after (ok := (fun _ => True)) (by (with_reducible repeat (first | apply Kd.R_alloc | apply Kd.R_drewN | apply Kd.R_drew)); exact HO124.out) hg hat); have n1_ := Aside0.mk (hb); have n2_ := Aside0.mk (ho); clear HO124; clear HB; clear HO_13; have HO124 := n0_; have HB := n1_; have HO127 := n2_; clear n0_ n1_ n2_; clear ho hb hg hat) | ((with_reducible refine gate_callee (f := 97) rfl ?_); refine goesL_ (some 83) rfl rfl Tryd.func97 (by kernel_rfl) rfl #[.string t121, .string (⟨#[32]⟩ : ByteArray)] rfl (by (try simp only [List.map_toArray, List.map_cons, List.map_nil]); first | done | rfl | (simp only [List.length_drop, List.length_take]; rfl)) ?_; (with_reducible refine (strings_HasPrefix.calls t121 (⟨#[32]⟩ : ByteArray) true _ A27.out).mono ?_); rintro e w' ⟨rfl, ⟨nd, rfl⟩⟩; refine ⟨_, rfl, ?_⟩))
                                go_roundg k2
                                case measure => have := HJ11.out; have := HK2.out; omega
                                case rel => exact ⟨(t121), (y125), (by first | rfl | (simp; done) | (simp [*]; done)), H', ⟨by have := HJ11.out; have := HK2.out; omega⟩, ⟨by (with_reducible repeat (first | apply Kd.R_alloc | apply Kd.R_drewN | apply Kd.R_drew)); exact Kd.R_mono HO127.out (fun _ hk => trivial)⟩, ⟨by repeat (first | (with_reducible first | exact HB.out | apply below_alloc | apply pw_below_drewN | apply below_drew1) | exact HB.out)⟩⟩
                              · replace c28 := Bool.eq_false_iff.mpr c28
                                subst c28
                                have H1 : ((strings_CutPrefix.f t121 (⟨#[41]⟩ : ByteArray)).bind fun bt129 => (some (2, t113, y125, bt129.1, bt129.2))) = some (r1, r2, r3, r4, r5) := by rw [if_neg (show ¬ (false = true) by decide)] at H; exact H
                                clear H
                                have H := H1
                                clear H1
                                replace H := Option.bind_eq_some_iff.mp H
                                obtain ⟨⟨t129, t130⟩, A320, H⟩ := H
                                replace H : (some (2, t113, y125, t129, t130)) = some (r1, r2, r3, r4, r5) := H
                                have A32 := Aside0.mk A320
                                clear A320
                                simp only [Option.some.injEq, Prod.mk.injEq] at H
                                obtain ⟨rfl, rfl, rfl, rfl, rfl⟩ := H
                                obtain ⟨Ao33, co33, eo33⟩ := Kd.R_slice HO_13.out
                                subst eo33
                                go_wp2_with (first | ((with_reducible refine gate_callee (f := 90) rfl ?_); refine goesL_ (some 63) rfl rfl Tryd.func90 (by kernel_rfl) rfl #[.string (x8_2.extract 1 x8_2.size)] rfl (by (try simp only [List.map_toArray, List.map_cons, List.map_nil]); first | done | rfl | (simp only [List.length_drop, List.length_take]; rfl)) ?_; (with_reducible refine (ih k2 (by have := HJ11.out; have := HK2.out; omega) (x8_2.extract 1 x8_2.size) t118 t119 t120 t121 true _ ?side1 A21.out).mono ?_); (case side1 => exact Laid.below HLaid.out (by repeat (first | (with_reducible first | exact HB.out | apply below_alloc | apply pw_below_drewN | apply below_drew1) | exact HB.out))); rintro e w34 ⟨v123, rfl, ho0, hb⟩; refine ⟨_, rfl, ?_⟩; have n0_ := Aside0.mk (Kd.R_elder' (by (with_reducible repeat (first | apply Kd.R_alloc | apply Kd.R_drewN | apply Kd.R_drew)); exact HO_13.out) (Kd.R_base ho0) hb); have n1_ := Aside0.mk (Kd.R_lower (Kd.R_new' ho0 (Kd.R_lt (by (with_reducible repeat (first | apply Kd.R_alloc | apply Kd.R_drewN | apply Kd.R_drew)); exact HO_13.out))) (below_size (by repeat (first | (with_reducible first | exact HB.out | apply below_alloc | apply pw_below_drewN | apply below_drew1) | exact HB.out)))); have n2_ := Aside0.mk (below_step (by repeat (first | (with_reducible first | exact HB.out | apply below_alloc | apply pw_below_drewN | apply below_drew1) | exact HB.out)) hb); clear HO_13; clear HB; have HO_13 := n0_; have HO124 := n1_; have HB := n2_; clear n0_ n1_ n2_; (try clear hb); (try clear hb2); (try clear hk); (try clear hi); (try clear ho0)) | ((with_reducible refine gate_builtin (b := .append) (xs := #[.tmp 71, .tmp 79]) rfl ?_); at_builtin; refine Kd.R_append Kd.string (w0 := w) w.heap.size rfl (.tmp 71) (.tmp 79) 22 9 (.string ⟨#[]⟩) 16 rfl Tryd.underlying22 info9 rfl (by decide) (by omega) (.slice Ao33 x13_2.length co33) x13_2 ((x8_2.extract 1 x8_2.size).extract 0 ((ji23) : Int).toNat) [.string ((x8_2.extract 1 x8_2.size).extract 0 ((ji23) : Int).toNat)] (fun k_ => some k_ ≠ (v123 : Value).ownBlock) (fun _ => False) rfl rfl ?aP (fun _ hk => hk.elim) ?aF ?aO ?aB ?aS ?aL ?_; (case aP => exact rfl); (case aB => exact (by repeat (first | (with_reducible first | exact HB.out | apply below_alloc | apply pw_below_drewN | apply below_drew1) | exact HB.out))); (case aF => exact (fun k_ hk => Kd.fresh' (Kd.R_lt (by (with_reducible repeat (first | apply Kd.R_alloc | apply Kd.R_drewN | apply Kd.R_drew)); exact HO124.out)) k_ hk)); (case aO => exact (by (with_reducible repeat (first | apply Kd.R_alloc | apply Kd.R_drewN | apply Kd.R_drew)); exact Kd.R_mono HO_13.out (fun _ hk => hk.2))); (case aS => exact (below_size (by repeat (first | (with_reducible first | exact HB.out | apply below_alloc | apply pw_below_drewN | apply below_drew1) | exact HB.out)))); (case aL => have := LMc26.out; omega); intro v126 w35 ho hb hg hat; rw [← Ny125.out] at ho; have n0_ := Aside0.mk (Kd.R_after (ok := (fun _ => True)) (by (with_reducible repeat (first | apply Kd.R_alloc | apply Kd.R_drewN | apply Kd.R_drew)); exact HO124.out) hg hat); have n1_ := Aside0.mk (hb); have n2_ := Aside0.mk (ho); clear HO124; clear HB; clear HO_13; have HO124 := n0_; have HB := n1_; have HO127 := n2_; clear n0_ n1_ n2_; clear ho hb hg hat) | ((with_reducible refine gate_callee (f := 97) rfl ?_); refine goesL_ (some 83) rfl rfl Tryd.func97 (by kernel_rfl) rfl #[.string t121, .string (⟨#[32]⟩ : ByteArray)] rfl (by (try simp only [List.map_toArray, List.map_cons, List.map_nil]); first | done | rfl | (simp only [List.length_drop, List.length_take]; rfl)) ?_; (with_reducible refine (strings_HasPrefix.calls t121 (⟨#[32]⟩ : ByteArray) false _ A27.out).mono ?_); rintro e w' ⟨rfl, ⟨nd, rfl⟩⟩; refine ⟨_, rfl, ?_⟩) | ((with_reducible refine gate_callee (f := 98) rfl ?_); refine goesL_ (some 87) rfl rfl Tryd.func98 (by kernel_rfl) rfl #[.string t121, .string (⟨#[41]⟩ : ByteArray)] rfl (by (try simp only [List.map_toArray, List.map_cons, List.map_nil]); first | done | rfl | (simp only [List.length_drop, List.length_take]; rfl)) ?_; (with_reducible refine (strings_CutPrefix.calls t121 (⟨#[41]⟩ : ByteArray) t129 t130 _ A32.out).mono ?_); rintro e w' ⟨rfl, ⟨nd, rfl⟩⟩; refine ⟨_, rfl, ?_⟩))
                                refine bodyPost_ret (results_list (rs := [.tmp 2, .tmp 3, .tmp 4, .tmp 5, .tmp 6]) rfl (by simp) (.tmp (.tmp (.tmp (.tmp (.tmp .nil)))))) rfl ?_
                                exact ⟨_, by first | rfl | (simp [errW_none, errW_some] <;> rfl) | (simp only [← hji23]; first | rfl | (simp [errW_none, errW_some] <;> rfl)) | (simp [*, errW_none, errW_some] <;> rfl), by (with_reducible repeat (first | apply Kd.R_alloc | apply Kd.R_drewN | apply Kd.R_drew)); exact Kd.R_mono HO127.out (fun _ hk => trivial), by repeat (first | (with_reducible first | exact HB.out | apply below_alloc | apply pw_below_drewN | apply below_drew1) | exact HB.out)⟩
                            · rw [if_neg c26] at H
                              exact absurd H (by simp)
                          · rw [if_neg c25] at H
                            exact absurd H (by simp)
                        · rw [if_neg c24] at H
                          exact absurd H (by simp)
                      · replace c22 := Bool.eq_false_iff.mpr c22
                        subst c22
                        have H1 : (some (0, 0, ([] : List ByteArray), (⟨#[]⟩ : ByteArray), false)) = some (r1, r2, r3, r4, r5) := by rw [if_neg (show ¬ (false = true) by decide)] at H; exact H
                        clear H
                        have H := H1
                        clear H1
                        simp only [Option.some.injEq, Prod.mk.injEq] at H
                        obtain ⟨rfl, rfl, rfl, rfl, rfl⟩ := H
                        obtain ⟨Ao36, co36, eo36⟩ := Kd.R_slice HO_13.out
                        subst eo36
                        go_wp2_with (first | ((with_reducible refine gate_callee (f := 90) rfl ?_); refine goesL_ (some 63) rfl rfl Tryd.func90 (by kernel_rfl) rfl #[.string (x8_2.extract 1 x8_2.size)] rfl (by (try simp only [List.map_toArray, List.map_cons, List.map_nil]); first | done | rfl | (simp only [List.length_drop, List.length_take]; rfl)) ?_; (with_reducible refine (ih k2 (by have := HJ11.out; have := HK2.out; omega) (x8_2.extract 1 x8_2.size) t118 t119 t120 t121 false _ ?side1 A21.out).mono ?_); (case side1 => exact Laid.below HLaid.out (by repeat (first | (with_reducible first | exact HB.out | apply below_alloc | apply pw_below_drewN | apply below_drew1) | exact HB.out))); rintro e w37 ⟨v123, rfl, ho0, hb⟩; refine ⟨_, rfl, ?_⟩; have n0_ := Aside0.mk (Kd.R_elder' (by (with_reducible repeat (first | apply Kd.R_alloc | apply Kd.R_drewN | apply Kd.R_drew)); exact HO_13.out) (Kd.R_base ho0) hb); have n1_ := Aside0.mk (Kd.R_lower (Kd.R_new' ho0 (Kd.R_lt (by (with_reducible repeat (first | apply Kd.R_alloc | apply Kd.R_drewN | apply Kd.R_drew)); exact HO_13.out))) (below_size (by repeat (first | (with_reducible first | exact HB.out | apply below_alloc | apply pw_below_drewN | apply below_drew1) | exact HB.out)))); have n2_ := Aside0.mk (below_step (by repeat (first | (with_reducible first | exact HB.out | apply below_alloc | apply pw_below_drewN | apply below_drew1) | exact HB.out)) hb); clear HO_13; clear HB; have HO_13 := n0_; have HO124 := n1_; have HB := n2_; clear n0_ n1_ n2_; (try clear hb); (try clear hb2); (try clear hk); (try clear hi); (try clear ho0)))
                        refine bodyPost_ret (results_list (rs := [.tmp 2, .tmp 3, .tmp 4, .tmp 5, .tmp 6]) rfl (by simp) (.tmp (.tmp (.tmp (.tmp (.tmp .nil)))))) rfl ?_
                        exact ⟨_, by first | rfl | (simp [errW_none, errW_some] <;> rfl) | (simp [*, errW_none, errW_some] <;> rfl), by first | exact Kd.R_nil _ _ _ _ _ | exact Kd.N_nil _ _ _ _ _ | exact Kd.V_nil _ _ _ _ _ | exact Kd.Q_nil _ _ _ _ _ | exact Kd.S_nil _ _ _ _ _, by repeat (first | (with_reducible first | exact HB.out | apply below_alloc | apply pw_below_drewN | apply below_drew1) | exact HB.out)⟩
                    · rw [if_neg c20] at H
                      exact absurd H (by simp)
                  · rw [if_neg c19] at H
                    have c19b0 : decide ((x13_2.length : Int) < 3) = false := decide_eq_false c19
                    have c19b1 : decide (x13_2.length < 3) = false := decide_eq_false (by omega)
                    clear c19
                    replace H := Option.bind_eq_some_iff.mp H
                    obtain ⟨⟨t116, t117⟩, A380, H⟩ := H
                    replace H : (some (2, t113, x13_2, t116, t117)) = some (r1, r2, r3, r4, r5) := H
                    have A38 := Aside0.mk A380
                    clear A380
                    simp only [Option.some.injEq, Prod.mk.injEq] at H
                    obtain ⟨rfl, rfl, rfl, rfl, rfl⟩ := H
                    obtain ⟨Ao39, co39, eo39⟩ := Kd.R_slice HO_13.out
                    subst eo39
                    go_wp2_with (first | ((with_reducible refine gate_callee (f := 98) rfl ?_); refine goesL_ (some 87) rfl rfl Tryd.func98 (by kernel_rfl) rfl #[.string x8_2, .string (⟨#[41]⟩ : ByteArray)] rfl (by (try simp only [List.map_toArray, List.map_cons, List.map_nil]); first | done | rfl | (simp only [List.length_drop, List.length_take]; rfl)) ?_; (with_reducible refine (strings_CutPrefix.calls x8_2 (⟨#[41]⟩ : ByteArray) t116 t117 _ A38.out).mono ?_); rintro e w' ⟨rfl, ⟨nd, rfl⟩⟩; refine ⟨_, rfl, ?_⟩))
                    refine bodyPost_ret (results_list (rs := [.tmp 2, .tmp 3, .tmp 4, .tmp 5, .tmp 6]) rfl (by simp) (.tmp (.tmp (.tmp (.tmp (.tmp .nil)))))) rfl ?_
                    exact ⟨_, by first | rfl | (simp [errW_none, errW_some] <;> rfl) | (simp [*, errW_none, errW_some] <;> rfl), by (with_reducible repeat (first | apply Kd.R_alloc | apply Kd.R_drewN | apply Kd.R_drew)); exact HO_13.out, by repeat (first | (with_reducible first | exact HB.out | apply below_alloc | apply pw_below_drewN | apply below_drew1) | exact HB.out)⟩

end Go.Proofs.YtkbaelhcijibiaaDoor.Px

/- Of each function of this text: a plain Lean function and a proof that the machine's call comes to its answers; printed by this session's program. -/
namespace Go.Proofs.YtkbaelhcijibiaaDoor.Px
open Go.RowKit Go.Proofs.YtkbaelhcijibiaaDoorW.PrintWords Go.Proofs.YtkbaelhcijibiaaDoorW.PrintLast Go.Proofs.YtkbaelhcijibiaaDoorW.PrintMore
attribute [local go_sem] max2_int min2_int max_two min_two max_three min_three max_four min_four   -- for this text's walks alone
set_option linter.unusedVariables false
set_option linter.unusedSimpArgs false

/-! ### term_May: function 72 -/
def term_May.f (k : Nat) (a0 : ByteArray) : Option (Bool) := if (a0.size : Int) > 1024 then (some false) else ((term_cut.f k a0).bind fun bt131 => (if bt131.2.2.2.2 = true then (some (bt131.2.2.2.1.toList == ([] : List UInt8))) else (some false)))
theorem term_May.mono : ∀ a0 k, LeO (term_May.f k a0) (term_May.f (k + 1) a0) := by
  intro a0 k
  unfold term_May.f
  repeat' first
      | (with_reducible exact term_cut.mono _ _)
      | (with_reducible exact LeO.refl _)
      | (with_reducible exact LeO.none _)
      | (with_reducible refine LeO.ite ?_ ?_)
      | (with_reducible refine LeO.bind ?_ (fun _ => ?_))
      | exact term_cut.mono _ _
      | exact LeO.none _
      | refine LeO.ite ?_ ?_
      | refine LeO.bind ?_ (fun _ => ?_)
set_option maxHeartbeats 8000000 in
set_option maxRecDepth 100000 in
theorem term_May.calls (k : Nat) (a0 : ByteArray) (r : Bool) (w : World) (hL : Laid w) (h : term_May.f k a0 = some r) :
    Calls Tryd.prog 72 #[.string a0] w fun e w' => e = .returned (.bool r) ∧ Below w.heap.size w w' := by
  have HLaid := Aside0.mk hL
  clear hL
  have HB := Aside0.mk (Below.refl w.heap.size w)
  have H : (if (a0.size : Int) > 1024 then (some false) else ((term_cut.f k a0).bind fun bt131 => (if bt131.2.2.2.2 = true then (some (bt131.2.2.2.1.toList == ([] : List UInt8))) else (some false)))) = some r := h
  clear h
  by_cases c2 : (a0.size : Int) > 1024
  · rw [if_pos c2] at H
    have c2b0 : decide (1024 < (a0.size : Int)) = true := decide_eq_true c2
    have c2b1 : decide (1024 < a0.size) = true := decide_eq_true (by omega)
    clear c2
    obtain rfl := Option.some.inj H
    go_enter Tryd.func72, Tryd.ntmps72
    go_wp2
    go_ret
    exact ⟨by first | rfl | (simp [errW_none, errW_some] <;> rfl) | (simp [*, errW_none, errW_some] <;> rfl), by repeat (first | (with_reducible first | exact HB.out | apply below_alloc | apply pw_below_drewN | apply below_drew1) | exact HB.out)⟩
  · rw [if_neg c2] at H
    have c2b0 : decide (1024 < (a0.size : Int)) = false := decide_eq_false c2
    have c2b1 : decide (1024 < a0.size) = false := decide_eq_false (by omega)
    clear c2
    replace H := Option.bind_eq_some_iff.mp H
    obtain ⟨⟨t131, t132, t133, t134, t135⟩, A30, H⟩ := H
    replace H : (if t135 = true then (some (t134.toList == ([] : List UInt8))) else (some false)) = some r := H
    have A3 := Aside0.mk A30
    clear A30
    by_cases c4 : t135 = true
    · subst c4
      have H1 : (some (t134.toList == ([] : List UInt8))) = some r := by rw [if_pos rfl] at H; exact H
      clear H
      have H := H1
      clear H1
      obtain rfl := Option.some.inj H
      go_enter Tryd.func72, Tryd.ntmps72
      go_wp2_with (first | ((with_reducible refine gate_callee (f := 90) rfl ?_); refine goesL_ (some 13) rfl rfl Tryd.func90 (by kernel_rfl) rfl #[.string a0] rfl (by (try simp only [List.map_toArray, List.map_cons, List.map_nil]); first | done | rfl | (simp only [List.length_drop, List.length_take]; rfl)) ?_; (with_reducible refine (term_cut.calls k a0 t131 t132 t133 t134 true _ ?side1 A3.out).mono ?_); (case side1 => exact Laid.below HLaid.out (by repeat (first | (with_reducible first | exact HB.out | apply below_alloc | apply pw_below_drewN | apply below_drew1) | exact HB.out))); rintro e w5 ⟨v136, rfl, ho0, hb⟩; refine ⟨_, rfl, ?_⟩; have n0_ := Aside0.mk (Kd.R_lower ho0 (below_size (by repeat (first | (with_reducible first | exact HB.out | apply below_alloc | apply pw_below_drewN | apply below_drew1) | exact HB.out)))); have n1_ := Aside0.mk (below_step (by repeat (first | (with_reducible first | exact HB.out | apply below_alloc | apply pw_below_drewN | apply below_drew1) | exact HB.out)) hb); clear HB; have HO137 := n0_; have HB := n1_; clear n0_ n1_; (try clear hb); (try clear hb2); (try clear hk); (try clear hi); (try clear ho0)))
      go_ret
      exact ⟨by first | rfl | (simp [errW_none, errW_some] <;> rfl) | (simp [*, errW_none, errW_some] <;> rfl), by repeat (first | (with_reducible first | exact HB.out | apply below_alloc | apply pw_below_drewN | apply below_drew1) | exact HB.out)⟩
    · replace c4 := Bool.eq_false_iff.mpr c4
      subst c4
      have H1 : (some false) = some r := by rw [if_neg (show ¬ (false = true) by decide)] at H; exact H
      clear H
      have H := H1
      clear H1
      obtain rfl := Option.some.inj H
      go_enter Tryd.func72, Tryd.ntmps72
      go_wp2_with (first | ((with_reducible refine gate_callee (f := 90) rfl ?_); refine goesL_ (some 13) rfl rfl Tryd.func90 (by kernel_rfl) rfl #[.string a0] rfl (by (try simp only [List.map_toArray, List.map_cons, List.map_nil]); first | done | rfl | (simp only [List.length_drop, List.length_take]; rfl)) ?_; (with_reducible refine (term_cut.calls k a0 t131 t132 t133 t134 false _ ?side1 A3.out).mono ?_); (case side1 => exact Laid.below HLaid.out (by repeat (first | (with_reducible first | exact HB.out | apply below_alloc | apply pw_below_drewN | apply below_drew1) | exact HB.out))); rintro e w6 ⟨v136, rfl, ho0, hb⟩; refine ⟨_, rfl, ?_⟩; have n0_ := Aside0.mk (Kd.R_lower ho0 (below_size (by repeat (first | (with_reducible first | exact HB.out | apply below_alloc | apply pw_below_drewN | apply below_drew1) | exact HB.out)))); have n1_ := Aside0.mk (below_step (by repeat (first | (with_reducible first | exact HB.out | apply below_alloc | apply pw_below_drewN | apply below_drew1) | exact HB.out)) hb); clear HB; have HO137 := n0_; have HB := n1_; clear n0_ n1_; (try clear hb); (try clear hb2); (try clear hk); (try clear hi); (try clear ho0)))
      go_ret
      exact ⟨by first | rfl | (simp [errW_none, errW_some] <;> rfl) | (simp [*, errW_none, errW_some] <;> rfl), by repeat (first | (with_reducible first | exact HB.out | apply below_alloc | apply pw_below_drewN | apply below_drew1) | exact HB.out)⟩

end Go.Proofs.YtkbaelhcijibiaaDoor.Px

/- Of each function of this text: a plain Lean function and a proof that the machine's call comes to its answers; printed by this session's program. -/
namespace Go.Proofs.YtkbaelhcijibiaaDoor.Px
open Go.RowKit Go.Proofs.YtkbaelhcijibiaaDoorW.PrintWords Go.Proofs.YtkbaelhcijibiaaDoorW.PrintLast Go.Proofs.YtkbaelhcijibiaaDoorW.PrintMore
attribute [local go_sem] max2_int min2_int max_two min_two max_three min_three max_four min_four   -- for this text's walks alone
set_option linter.unusedVariables false
set_option linter.unusedSimpArgs false

/-! ### term_All: function 71 -/
def term_All.l0 : Nat → List ByteArray → Int → Int → Option (Bool)
  | 0, _, _, _ => none
  | k + 1, x5, x6, x7 => if x7 < x6 then (if 0 ≤ x7 then (if x7 < (x5.length : Int) then ((term_May.f k (rdOf ByteArray.empty x5 x7)).bind fun t139 => (if t139 = true then (term_All.l0 k x5 x6 (wrap64 (x7 + 1))) else (some false))) else (none)) else (none)) else (some true)
def term_All.f (k : Nat) (l0 : List ByteArray) : Option (Bool) := term_All.l0 k l0 (l0.length : Int) 0
theorem term_All.mono_l : ∀ k, (∀ y0 y1 y2, LeO (term_All.l0 k y0 y1 y2) (term_All.l0 (k + 1) y0 y1 y2))
  | 0 => fun _ _ _ r h => by simp [term_All.l0] at h
  | k + 1 => by
    have ih0 := term_All.mono_l k
    · intro y0 y1 y2
      unfold term_All.l0
      repeat' first
      | (with_reducible exact ih0 _ _ _)
      | (with_reducible exact term_May.mono _ _)
      | (with_reducible exact LeO.refl _)
      | (with_reducible exact LeO.none _)
      | (with_reducible refine LeO.ite ?_ ?_)
      | (with_reducible refine LeO.bind ?_ (fun _ => ?_))
      | exact ih0 _ _ _
      | exact term_May.mono _ _
      | exact LeO.none _
      | refine LeO.ite ?_ ?_
      | refine LeO.bind ?_ (fun _ => ?_)
theorem term_All.mono : ∀ a0 k, LeO (term_All.f k a0) (term_All.f (k + 1) a0) := by
  intro a0 k
  have ih0 := term_All.mono_l k
  unfold term_All.f
  repeat' first
      | (with_reducible exact ih0 _ _ _)
      | (with_reducible exact term_May.mono _ _)
      | (with_reducible exact LeO.refl _)
      | (with_reducible exact LeO.none _)
      | (with_reducible refine LeO.ite ?_ ?_)
      | (with_reducible refine LeO.bind ?_ (fun _ => ?_))
      | exact ih0 _ _ _
      | exact term_May.mono _ _
      | exact LeO.none _
      | refine LeO.ite ?_ ?_
      | refine LeO.bind ?_ (fun _ => ?_)
set_option maxHeartbeats 8000000 in
set_option maxRecDepth 100000 in
theorem term_All.calls (k : Nat) (A0 : Option Addr) (c0 : Nat) (l0 : List ByteArray) (r : Bool) (w : World) (hr0 : Kd.C Kd.string w A0 l0.length l0) (hc0 : l0.length ≤ c0) (hL : Laid w) (h : term_All.f k l0 = some r) :
    Calls Tryd.prog 71 #[.slice A0 l0.length c0] w fun e w' => e = .returned (.bool r) ∧ Below w.heap.size w w' := by
  have HR0 := Aside0.mk hr0
  have HC0 := Aside0.mk hc0
  clear hr0 hc0
  have HLaid := Aside0.mk hL
  clear hL
  have HB := Aside0.mk (Below.refl w.heap.size w)
  have H : (term_All.l0 k l0 (l0.length : Int) 0) = some r := h
  clear h
  have H' := Aside0.mk H
  clear H
  go_enter Tryd.func71, Tryd.ntmps71
  go_wp2
  (try simp only [Act.put, List.setIfInBounds_toArray, List.set_cons_zero, List.set_cons_succ])
  go_loopg [7] k (fun kq v7 w' => ∃ (x7_1 : Int), v7 = .int .i64 x7_1 ∧ Aside0 (term_All.l0 kq l0 (l0.length : Int) x7_1 = some r) ∧ Aside0 (kq ≤ k) ∧ Aside0 (Below w.heap.size w w'))
  case atStart => exact ⟨(0), (by first | rfl | (simp; done) | (simp [*]; done)), H', ⟨Nat.le_refl _⟩, ⟨by repeat (first | (with_reducible first | exact HB.out | apply below_alloc | apply pw_below_drewN | apply below_drew1) | exact HB.out)⟩⟩
  case round =>
    clear H'
    obtain ⟨x7_1, rfl, HA, HK1, HB⟩ := hrel
    cases gk with
    | zero => exact absurd HA.out (by simp [term_All.l0])
    | succ k1 =>
      have H := HA.out
      clear HA
      simp only [term_All.l0] at H
      by_cases c2 : x7_1 < (l0.length : Int)
      · rw [if_pos c2] at H
        have c2b0 : decide (x7_1 < (l0.length : Int)) = true := decide_eq_true c2
        clear c2
        by_cases c3 : 0 ≤ x7_1
        · rw [if_pos c3] at H
          have c3b0 : decide (0 ≤ x7_1) = true := decide_eq_true c3
          clear c3
          by_cases c4 : x7_1 < (l0.length : Int)
          · rw [if_pos c4] at H
            have c4b0 : decide (x7_1 < (l0.length : Int)) = true := decide_eq_true c4
            clear c4
            replace H := Option.bind_eq_some_iff.mp H
            obtain ⟨t139, A50, H⟩ := H
            replace H : (if t139 = true then (term_All.l0 k1 l0 (l0.length : Int) (wrap64 (x7_1 + 1))) else (some false)) = some r := H
            have A5 := Aside0.mk A50
            clear A50
            by_cases c6 : t139 = true
            · subst c6
              have H1 : (term_All.l0 k1 l0 (l0.length : Int) (wrap64 (x7_1 + 1))) = some r := by rw [if_pos rfl] at H; exact H
              clear H
              have H := H1
              clear H1
              have H' := Aside0.mk H
              clear H
              have p138 : 0 ≤ (x7_1 : Int) := of_decide_eq_true (by first | (with_reducible assumption) | assumption)
              have q138 : x7_1 < (l0.length : Int) := of_decide_eq_true (by first | (with_reducible assumption) | assumption)
              obtain ⟨ad138, e138, hx138_0⟩ := Kd.at_string HR0.out x7_1 p138 q138
              cases e138
              replace hx138_0 := (HB.out.cell (World.block_lt_of_cell? w _ hx138_0)).trans hx138_0
              replace p138 := eq_true p138
              replace q138 := eq_true q138
              go_wp2_with (first | ((with_reducible refine gate_callee (f := 72) rfl ?_); refine goesL_ (some 12) rfl rfl Tryd.func72 (by kernel_rfl) rfl #[.string (rdOf ByteArray.empty l0 x7_1)] rfl (by (try simp only [List.map_toArray, List.map_cons, List.map_nil]); first | done | rfl | (simp only [List.length_drop, List.length_take]; rfl)) ?_; (with_reducible refine (term_May.calls k1 (rdOf ByteArray.empty l0 x7_1) true _ ?side1 A5.out).mono ?_); (case side1 => exact Laid.below HLaid.out (by repeat (first | (with_reducible first | exact HB.out | apply below_alloc | apply pw_below_drewN | apply below_drew1) | exact HB.out))); rintro e w7 ⟨rfl, hb⟩; refine ⟨_, rfl, ?_⟩; have n0_ := Aside0.mk (below_step (by repeat (first | (with_reducible first | exact HB.out | apply below_alloc | apply pw_below_drewN | apply below_drew1) | exact HB.out)) hb); clear HB; have HB := n0_; clear n0_; (try clear hb); (try clear hb2); (try clear hk); (try clear hi)))
              go_roundg k1
              case measure => have := HK1.out; omega
              case rel => exact ⟨(wrap64 (x7_1 + 1)), (by first | rfl | (simp; done) | (simp [*]; done)), H', ⟨by have := HK1.out; omega⟩, ⟨by repeat (first | (with_reducible first | exact HB.out | apply below_alloc | apply pw_below_drewN | apply below_drew1) | exact HB.out)⟩⟩
            · replace c6 := Bool.eq_false_iff.mpr c6
              subst c6
              have H1 : (some false) = some r := by rw [if_neg (show ¬ (false = true) by decide)] at H; exact H
              clear H
              have H := H1
              clear H1
              obtain rfl := Option.some.inj H
              have p138 : 0 ≤ (x7_1 : Int) := of_decide_eq_true (by first | (with_reducible assumption) | assumption)
              have q138 : x7_1 < (l0.length : Int) := of_decide_eq_true (by first | (with_reducible assumption) | assumption)
              obtain ⟨ad138, e138, hx138_0⟩ := Kd.at_string HR0.out x7_1 p138 q138
              cases e138
              replace hx138_0 := (HB.out.cell (World.block_lt_of_cell? w _ hx138_0)).trans hx138_0
              replace p138 := eq_true p138
              replace q138 := eq_true q138
              go_wp2_with (first | ((with_reducible refine gate_callee (f := 72) rfl ?_); refine goesL_ (some 12) rfl rfl Tryd.func72 (by kernel_rfl) rfl #[.string (rdOf ByteArray.empty l0 x7_1)] rfl (by (try simp only [List.map_toArray, List.map_cons, List.map_nil]); first | done | rfl | (simp only [List.length_drop, List.length_take]; rfl)) ?_; (with_reducible refine (term_May.calls k1 (rdOf ByteArray.empty l0 x7_1) false _ ?side1 A5.out).mono ?_); (case side1 => exact Laid.below HLaid.out (by repeat (first | (with_reducible first | exact HB.out | apply below_alloc | apply pw_below_drewN | apply below_drew1) | exact HB.out))); rintro e w8 ⟨rfl, hb⟩; refine ⟨_, rfl, ?_⟩; have n0_ := Aside0.mk (below_step (by repeat (first | (with_reducible first | exact HB.out | apply below_alloc | apply pw_below_drewN | apply below_drew1) | exact HB.out)) hb); clear HB; have HB := n0_; clear n0_; (try clear hb); (try clear hb2); (try clear hk); (try clear hi)))
              go_ret
              exact ⟨by first | rfl | (simp [errW_none, errW_some] <;> rfl) | (simp [*, errW_none, errW_some] <;> rfl), by repeat (first | (with_reducible first | exact HB.out | apply below_alloc | apply pw_below_drewN | apply below_drew1) | exact HB.out)⟩
          · rw [if_neg c4] at H
            exact absurd H (by simp)
        · rw [if_neg c3] at H
          exact absurd H (by simp)
      · rw [if_neg c2] at H
        have c2b0 : decide (x7_1 < (l0.length : Int)) = false := decide_eq_false c2
        clear c2
        obtain rfl := Option.some.inj H
        go_wp2
        go_ret
        exact ⟨by first | rfl | (simp [errW_none, errW_some] <;> rfl) | (simp [*, errW_none, errW_some] <;> rfl), by repeat (first | (with_reducible first | exact HB.out | apply below_alloc | apply pw_below_drewN | apply below_drew1) | exact HB.out)⟩

end Go.Proofs.YtkbaelhcijibiaaDoor.Px

/-
  What the cutter of terms answers: always something, in so many rounds; what it leaves is no longer than what came in.
-/
namespace Go.Proofs.YtkbaelhcijibiaaDoor.Px
open Go.RowKit Go.Proofs.YtkbaelhcijibiaaDoorW.PrintWords Go.Proofs.YtkbaelhcijibiaaDoorW.PrintLast Go.Proofs.YtkbaelhcijibiaaDoorW.PrintMore
set_option linter.unusedVariables false
set_option linter.unusedSimpArgs false

theorem wrap64_of {x : Int} (h1 : -9223372036854775808 ≤ x) (h2 : x ≤ 9223372036854775807) : wrap64 x = x := by
  unfold wrap64
  omega

theorem sh_some (a b : ByteArray) : ∃ t, stringslite_HasPrefix.f a b = some t ∧ (t = true → b.size ≤ a.size) := by
  unfold stringslite_HasPrefix.f
  split
  · rename_i h
    repeat rw [if_pos (by omega)]
    exact ⟨_, rfl, fun _ => by omega⟩
  · exact ⟨_, rfl, fun h => by cases h⟩
theorem hp_some (a b : ByteArray) : ∃ t, strings_HasPrefix.f a b = some t ∧ (t = true → b.size ≤ a.size) := by
  obtain ⟨t, h, h2⟩ := sh_some a b
  exact ⟨t, by unfold strings_HasPrefix.f; rw [h]; rfl, h2⟩
theorem cp_some (a b : ByteArray) : ∃ r, strings_CutPrefix.f a b = some r ∧ r.1.size ≤ a.size := by
  obtain ⟨t, h, h2⟩ := sh_some a b
  unfold strings_CutPrefix.f stringslite_CutPrefix.f
  rw [h]
  cases t
  · exact ⟨_, rfl, Nat.le_refl _⟩
  · have := h2 rfl
    refine ⟨(a.extract b.size a.size, true), ?_, ?_⟩
    · simp only [Option.bind_some, if_pos, Int.toNat_natCast]
      rw [if_pos (by omega), if_pos (by omega)]
      rfl
    · simp [ByteArray.size_extract]

theorem word_some (s : ByteArray) (h : s.size < 4294967281) : ∃ a b, term_word.f s = some (a, b) ∧ a.size ≤ s.size ∧ b.size ≤ s.size := by
  unfold term_word.f
  rw [if_pos h]
  refine ⟨_, _, rfl, ?_, ?_⟩ <;> simp only [ByteArray.size_extract] <;> omega
theorem digits_some (s : ByteArray) (m : Int) (h : s.size ≤ 281474976710656) : ∃ r, term_Digits.f s m = some r := by
  unfold term_Digits.f; rw [if_pos h]; exact ⟨_, rfl⟩
theorem number_some (s : ByteArray) (h : s.size ≤ 281474976710656) : ∃ r, term_Number.f s = some r := by
  unfold term_Number.f; rw [if_pos h]; exact ⟨_, rfl⟩
theorem tag_some (s : ByteArray) (h : s.size ≤ 281474976710656) : ∃ r, term_Tag.f s = some r := by
  unfold term_Tag.f
  obtain ⟨r, hr, hs⟩ := cp_some s (⟨#[64]⟩ : ByteArray)
  obtain ⟨d, hd⟩ := digits_some r.1 99 (by omega)
  rw [hr]
  simp only [Option.bind_some]
  rw [hd]
  simp only [Option.bind_some]
  split <;> exact ⟨_, rfl⟩

/-- The cutter answers. -/
theorem cut_all : ∀ n : Nat, n ≤ 4000000000 →
    (∀ k s, s.size ≤ n → 3 * n + 4 ≤ k → ∃ r, term_cut.f k s = some r ∧ r.2.2.2.1.size ≤ s.size) ∧
    (∀ k (s : ByteArray) x xs, 1 ≤ s.size → s.size ≤ n → xs.length ≤ 3 → 3 * n + 2 ≤ k → ∃ r, term_cut.l0 k s x xs = some r ∧ r.2.2.2.1.size ≤ s.size)
  | n => by
    intro hn
    have IH : ∀ m, m < n → _ := fun m hm => cut_all m (by omega)
    have hl : ∀ k (s : ByteArray) x xs, 1 ≤ s.size → s.size ≤ n → xs.length ≤ 3 → 3 * n + 2 ≤ k → ∃ r, term_cut.l0 k s x xs = some r ∧ r.2.2.2.1.size ≤ s.size := by
      intro k s x xs h1 h2 h3 h4
      obtain ⟨k, rfl⟩ : ∃ j, k = j + 1 := ⟨k - 1, by omega⟩
      unfold term_cut.l0
      split
      · rename_i hc
        rw [if_pos (by omega)]
        have hsz : (s.extract 1 s.size).size = s.size - 1 := by simp [ByteArray.size_extract]
        obtain ⟨r, hr, hrs⟩ := (IH (n - 1) (by omega)).1 k (s.extract 1 s.size) (by omega) (by omega)
        rw [hr]
        simp only [Option.bind_some]
        split
        · rw [wrap64_of (by omega) (by omega), if_pos (by omega), if_pos (by omega), if_pos (by omega)]
          obtain ⟨t, ht, ht2⟩ := hp_some r.2.2.2.1 (⟨#[32]⟩ : ByteArray)
          rw [ht]
          simp only [Option.bind_some]
          split
          · rename_i htt
            have h32 := ht2 htt
            simp only [show (⟨#[32]⟩ : ByteArray).size = 1 from rfl] at h32
            obtain ⟨q, hq, hqs⟩ := (IH (n - 1) (by omega)).2 k r.2.2.2.1 x (xs ++ [(s.extract 1 s.size).extract 0 ((((s.extract 1 s.size).size : Int) - (r.2.2.2.1.size : Int)) : Int).toNat]) h32 (by omega) (by simp; omega) (by omega)
            exact ⟨q, hq, by omega⟩
          · obtain ⟨q, hq, hqs⟩ := cp_some r.2.2.2.1 (⟨#[41]⟩ : ByteArray)
            rw [hq]
            exact ⟨_, rfl, by show q.1.size ≤ _; omega⟩
        · exact ⟨_, rfl, Nat.zero_le _⟩
      · obtain ⟨q, hq, hqs⟩ := cp_some s (⟨#[41]⟩ : ByteArray)
        rw [hq]
        exact ⟨_, rfl, by simpa using hqs⟩
    refine ⟨?_, hl⟩
    intro k s h2 h4
    obtain ⟨k, rfl⟩ : ∃ j, k = j + 2 := ⟨k - 2, by omega⟩
    unfold term_cut.f
    obtain ⟨a, b, hw, ha, hb⟩ := word_some s (by omega)
    rw [hw]
    simp only [Option.bind_some]
    split
    · exact ⟨_, rfl, hb⟩
    split
    · exact ⟨_, rfl, hb⟩
    obtain ⟨u, hu⟩ := number_some a (by omega)
    rw [hu]
    simp only [Option.bind_some]
    split
    · exact ⟨_, rfl, hb⟩
    obtain ⟨v, hv⟩ := tag_some a (by omega)
    rw [hv]
    simp only [Option.bind_some]
    have j1 : ∀ x y, ∃ r, term_cut.j0 (k + 1) b x y true = some r ∧ r.2.2.2.1.size ≤ s.size := by
      intro x y
      unfold term_cut.j0
      rw [if_pos rfl]
      exact ⟨_, rfl, hb⟩
    split
    · obtain ⟨t, ht, ht2⟩ := hp_some b (⟨#[40]⟩ : ByteArray)
      rw [ht]
      simp only [Option.bind_some]
      cases t
      · exact j1 _ _
      · have := ht2 rfl
        simp only [show (⟨#[40]⟩ : ByteArray).size = 1 from rfl] at this
        unfold term_cut.j0
        rw [if_neg (by simp)]
        obtain ⟨r, hr, hrs⟩ := hl k b v.1 [] this (by omega) (by simp) (by omega)
        exact ⟨r, hr, by omega⟩
    · exact j1 _ _

theorem may_some (k : Nat) (hk : 3100 ≤ k) (s : ByteArray) : ∃ t, term_May.f k s = some t ∧ (t = true → s.size ≤ 1024) := by
  unfold term_May.f
  split
  · exact ⟨_, rfl, fun h => by cases h⟩
  · obtain ⟨r, hr, _⟩ := (cut_all 1024 (by omega)).1 k s (by omega) (by omega)
    rw [hr]
    simp only [Option.bind_some]
    split
    · exact ⟨_, rfl, fun _ => by omega⟩
    · exact ⟨_, rfl, fun _ => by omega⟩
end Go.Proofs.YtkbaelhcijibiaaDoor.Px

/- Of each function of this text: a plain Lean function and a proof that the machine's call comes to its answers; printed by this session's program. -/
namespace Go.Proofs.YtkbaelhcijibiaaDoor.Px
open Go.RowKit Go.Proofs.YtkbaelhcijibiaaDoorW.PrintWords Go.Proofs.YtkbaelhcijibiaaDoorW.PrintLast Go.Proofs.YtkbaelhcijibiaaDoorW.PrintMore
attribute [local go_sem] max2_int min2_int max_two min_two max_three min_three max_four min_four   -- for this text's walks alone
set_option linter.unusedVariables false
set_option linter.unusedSimpArgs false

/-! ### record_low: function 40 -/
def record_low.l0 : Nat → Int → List Int → Int → Int → Option (ByteArray)
  | 0, _, _, _, _ => none
  | k + 1, x0, x5, x10, x11 => if x11 < x10 then (if 0 ≤ (wrap64 (8 * x11)) then (if 0 ≤ x11 then (if x11 < (x5.length : Int) then (record_low.l0 k x0 (x5.set (x11 : Int).toNat ((shr .i64 x0 (wrap64 (8 * x11))) % 256)) x10 (wrap64 (x11 + 1))) else (none)) else (none)) else (none)) else (some (strOfNums x5))
def record_low.f (k : Nat) (a0 : Int) (a1 : Int) : Option (ByteArray) := if 0 ≤ a1 then (if (a1 : Int).toNat ≤ 281474976710656 then ((some (List.replicate (a1 : Int).toNat 0 : List Int)).bind fun y153 => (record_low.l0 k a0 y153 (y153.length : Int) 0)) else (none)) else (none)
theorem record_low.mono_l : ∀ k, (∀ y0 y1 y2 y3, LeO (record_low.l0 k y0 y1 y2 y3) (record_low.l0 (k + 1) y0 y1 y2 y3))
  | 0 => fun _ _ _ _ r h => by simp [record_low.l0] at h
  | k + 1 => by
    have ih0 := record_low.mono_l k
    · intro y0 y1 y2 y3
      unfold record_low.l0
      repeat' first
      | (with_reducible exact ih0 _ _ _ _)
      | (with_reducible exact LeO.refl _)
      | (with_reducible exact LeO.none _)
      | (with_reducible refine LeO.ite ?_ ?_)
      | (with_reducible refine LeO.bind ?_ (fun _ => ?_))
      | exact ih0 _ _ _ _
      | exact LeO.none _
      | refine LeO.ite ?_ ?_
      | refine LeO.bind ?_ (fun _ => ?_)
theorem record_low.mono : ∀ a0 a1 k, LeO (record_low.f k a0 a1) (record_low.f (k + 1) a0 a1) := by
  intro a0 a1 k
  have ih0 := record_low.mono_l k
  unfold record_low.f
  repeat' first
      | (with_reducible exact ih0 _ _ _ _)
      | (with_reducible exact LeO.refl _)
      | (with_reducible exact LeO.none _)
      | (with_reducible refine LeO.ite ?_ ?_)
      | (with_reducible refine LeO.bind ?_ (fun _ => ?_))
      | exact ih0 _ _ _ _
      | exact LeO.none _
      | refine LeO.ite ?_ ?_
      | refine LeO.bind ?_ (fun _ => ?_)
set_option maxHeartbeats 8000000 in
set_option maxRecDepth 100000 in
theorem record_low.calls (k : Nat) (a0 : Int) (a1 : Int) (r : ByteArray) (w : World) (h : record_low.f k a0 a1 = some r) :
    Calls Tryd.prog 40 #[.int .i64 a0, .int .i64 a1] w fun e w' => e = .returned (.string r) ∧ Below w.heap.size w w' := by
  have HB := Aside0.mk (Below.refl w.heap.size w)
  have H : (if 0 ≤ a1 then (if (a1 : Int).toNat ≤ 281474976710656 then ((some (List.replicate (a1 : Int).toNat 0 : List Int)).bind fun y153 => (record_low.l0 k a0 y153 (y153.length : Int) 0)) else (none)) else (none)) = some r := h
  clear h
  by_cases c3 : 0 ≤ a1
  · rw [if_pos c3] at H
    have c3b0 := eq_true c3
    have c3b1 : decide (0 ≤ a1) = true := decide_eq_true c3
    clear c3
    by_cases c4 : (a1 : Int).toNat ≤ 281474976710656
    · rw [if_pos c4] at H
      have c4b0 := eq_true c4
      have c4b1 : decide ((a1 : Int).toNat ≤ 281474976710656) = true := decide_eq_true c4
      clear c4
      obtain ⟨y153, hy153⟩ : ∃ y_ : List Int, y_ = (List.replicate (a1 : Int).toNat 0) := ⟨_, rfl⟩
      replace H : (record_low.l0 k a0 y153 (y153.length : Int) 0) = some r := by first | (rw [hy153]; with_reducible exact H) | (have H2_ := (Option.bind_some _ _).symm.trans H; rw [hy153]; with_reducible exact H2_) | (have H2_ := (Option.bind_some _ _).symm.trans H; with_reducible exact H2_) | with_reducible exact H | (rw [hy153]; exact H) | exact H
      have Ny153 := Aside0.mk hy153
      clear hy153
      have H' := Aside0.mk H
      clear H
      go_enter Tryd.func40, Tryd.ntmps40
      go_wp2_with (first | ((with_reducible refine gate_dst (N := 8) rfl ?_); refine Kd.R_make (Kd.int .u8) _ 5 rfl (N := 8) rfl 89 _ _ rfl a1 rfl rfl Tryd.underlying89 (.int .u8 0) 1 info5 rfl (by decide) (by omega) 0 (ok := fun _ => True) (okp := fun _ => True) rfl (fun _ hk => hk) trivial (of_decide_eq_true (by first | (with_reducible assumption) | assumption)) (Nat.le_trans (Nat.mul_le_mul_right _ (of_decide_eq_true (by first | (with_reducible assumption) | assumption) : a1.toNat ≤ 281474976710656)) (by omega)) (Below.refl _ _) (Nat.le_refl _) ?_; intro v154 w5 ho6 hb hg_ hnew_; clear hg_ hnew_; (first | rw [← Ny153.out] at ho6 | (simp only [Int.reduceToNat] at ho6; rw [← Ny153.out] at ho6)); have n0_ := Aside0.mk (Kd.R_lower ho6 (below_size (by repeat (first | (with_reducible first | exact HB.out | apply below_alloc | apply pw_below_drewN | apply below_drew1) | exact HB.out)))); have n1_ := Aside0.mk (below_step (by repeat (first | (with_reducible first | exact HB.out | apply below_alloc | apply pw_below_drewN | apply below_drew1) | exact HB.out)) hb); clear HB; have HO155 := n0_; have HB := n1_; clear n0_ n1_; clear hb ho6; obtain ⟨Ao7, co7, eo7⟩ := Kd.R_slice HO155.out; subst eo7))
      (try simp only [Act.put, List.setIfInBounds_toArray, List.set_cons_zero, List.set_cons_succ])
      go_loopg [11] k (fun kq v11 w' => ∃ (x5_1 : List Int) (x11_1 : Int), v11 = .int .i64 x11_1 ∧ Aside0 (record_low.l0 kq a0 x5_1 (y153.length : Int) x11_1 = some r) ∧ Aside0 (kq ≤ k) ∧ Aside0 (Kd.R (Kd.int .u8) 5 w' w.heap.size (fun _ => True) (.slice Ao7 y153.length co7) x5_1) ∧ Aside0 (Below w.heap.size w w'))
      case atStart => exact ⟨(y153), (0), (by first | rfl | (simp; done) | (simp [*]; done)), H', ⟨Nat.le_refl _⟩, ⟨by (with_reducible repeat (first | apply Kd.R_alloc | apply Kd.R_drewN | apply Kd.R_drew)); exact HO155.out⟩, ⟨by repeat (first | (with_reducible first | exact HB.out | apply below_alloc | apply pw_below_drewN | apply below_drew1) | exact HB.out)⟩⟩
      case round =>
        clear H'
        try clear p2
        try clear c3
        try clear c3b0
        try clear c3b1
        try clear c4
        try clear c4b0
        try clear c4b1
        obtain ⟨x5_1, x11_1, rfl, HA, HK1, HO_5, HB⟩ := hrel
        have hl5_1 := (Kd.R_reads' HO_5.out).1
        rw [hl5_1] at HO_5
        (try simp only [hl5_1])
        cases gk with
        | zero => exact absurd HA.out (by simp [record_low.l0])
        | succ k1 =>
          have H := HA.out
          clear HA
          simp only [record_low.l0] at H
          by_cases c8 : x11_1 < (y153.length : Int)
          · rw [if_pos c8] at H
            have c8b0 : decide (x11_1 < (y153.length : Int)) = true := decide_eq_true c8
            clear c8
            obtain ⟨ji9, hji9⟩ : ∃ j_ : Int, (wrap64 (8 * x11_1)) = j_ := ⟨_, rfl⟩
            replace H : (if 0 ≤ (ji9) then (if 0 ≤ x11_1 then (if x11_1 < (x5_1.length : Int) then (record_low.l0 k1 a0 (x5_1.set (x11_1 : Int).toNat ((shr .i64 a0 (ji9)) % 256)) (y153.length : Int) (wrap64 (x11_1 + 1))) else (none)) else (none)) else (none)) = some r := by first | (rw [hji9] at H; exact H) | (simp only [hji9] at H ⊢; exact H)
            have hji9w : (IntKind.i64.wrap (8 * x11_1)) = ji9 := (i64_w _).trans hji9
            by_cases c10 : 0 ≤ (ji9)
            · rw [if_pos c10] at H
              have c10b0 := eq_true c10
              have c10b1 : decide (0 ≤ (ji9)) = true := decide_eq_true c10
              clear c10
              obtain ⟨ji11, hji11⟩ : ∃ j_ : Int, (shr .i64 a0 (ji9)) = j_ := ⟨_, rfl⟩
              replace H : (if 0 ≤ x11_1 then (if x11_1 < (x5_1.length : Int) then (record_low.l0 k1 a0 (x5_1.set (x11_1 : Int).toNat ((ji11) % 256)) (y153.length : Int) (wrap64 (x11_1 + 1))) else (none)) else (none)) = some r := by first | (rw [hji11] at H; exact H) | (simp only [hji11] at H ⊢; exact H)
              have hji11_ : (a0 / 2 ^ min (ji9).toNat 64) = ji11 := hji11
              have hji11z : (ji9) ≤ 64 → (a0 / 2 ^ (ji9).toNat) = ji11 := shr_small hji11
              by_cases c12 : 0 ≤ x11_1
              · rw [if_pos c12] at H
                have c12b0 : decide (0 ≤ x11_1) = true := decide_eq_true c12
                clear c12
                by_cases c13 : x11_1 < (x5_1.length : Int)
                · rw [if_pos c13] at H
                  have c13b0 : decide (x11_1 < (x5_1.length : Int)) = true := decide_eq_true c13
                  clear c13
                  obtain ⟨y156, hy156⟩ : ∃ y_ : List Int, y_ = (x5_1.set (x11_1 : Int).toNat ((ji11) % 256)) := ⟨_, rfl⟩
                  replace H : (record_low.l0 k1 a0 y156 (y153.length : Int) (wrap64 (x11_1 + 1))) = some r := by first | (rw [hy156]; with_reducible exact H) | (have H2_ := (Option.bind_some _ _).symm.trans H; rw [hy156]; with_reducible exact H2_) | (have H2_ := (Option.bind_some _ _).symm.trans H; with_reducible exact H2_) | with_reducible exact H | (rw [hy156]; exact H) | exact H
                  have Ny156 := Aside0.mk hy156
                  clear hy156
                  have H' := Aside0.mk H
                  clear H
                  have p14 : 0 ≤ (x11_1 : Int) := of_decide_eq_true (by first | (with_reducible assumption) | assumption)
                  have q14 : (x11_1 : Int) < ((x5_1.length : Int) : Int) := of_decide_eq_true (by first | (with_reducible assumption) | assumption)
                  obtain ⟨go14, co14, eo14, gb14, gl14, cl14, HG14⟩ := Kd.R_form HO_5.out (by omega)
                  (first | cases eo14 | (injection eo14 with ea_ en_ ec_; (first | subst ea_ | (injection ea_ with ea_; subst ea_)); subst ec_; clear en_))
                  have GB14 := Aside0.mk gb14
                  have GG14 := Aside0.mk HG14
                  clear gb14 gl14 HG14
                  obtain ⟨hx14_0, hf14_0⟩ := Kd.R_celln 0 HO_5.out (x11_1 : Int) p14 q14
                  replace p14 := eq_true p14
                  replace q14 := eq_true q14
                  have HP15 := Kd.R_putg HO_5.out (x11_1 : Int) ((ji11) % 256)
                  go_wp2_with (first | ((with_reducible refine gate_store (t := 5) (p := 21) rfl ?_); refine store_event (t := 5) (p := 21) (v := ?vo_w16) (w1 := (wr.setCell ⟨go14, (x11_1 : Int).toNat, none⟩ (.int .u8 ((ji11) % 256)))) ?hg ?ho ?hn ?hr ?_; (case ho => rfl); (case hg => rfl); (case hn => rfl); (case hr => first | (go_simp; done) | (go_simp; rfl)); intro w16 hw; have hg : wr.grownBy w16 (some go14) := (by rw [hw]; exact HP15.2); have hp_ : Kd.R (Kd.int .u8) 5 w16 w.heap.size (fun _ => True) (.slice (some ⟨go14, 0, none⟩) x5_1.length co7) y156 := (by rw [hw, Ny156.out]; exact HP15.1); clear HP15; have n0_ := Aside0.mk (hp_); have n1_ := Aside0.mk ((by rw [hw]; exact below_set (HB.out) GB14.out : Below w.heap.size w w16)); clear HO_5; clear HB; have HO_5 := n0_; have HB := n1_; clear n0_ n1_; clear hg hw hp_))
                  (try simp only [← hl5_1])
                  go_roundg k1
                  case measure => have := HK1.out; omega
                  case rel => exact ⟨(y156), (wrap64 (x11_1 + 1)), (by first | rfl | (simp; done) | (simp [*]; done)), H', ⟨by have := HK1.out; omega⟩, ⟨by (try simp only [hl5_1]); (with_reducible repeat (first | apply Kd.R_alloc | apply Kd.R_drewN | apply Kd.R_drew)); exact HO_5.out⟩, ⟨by repeat (first | (with_reducible first | exact HB.out | apply below_alloc | apply pw_below_drewN | apply below_drew1) | exact HB.out)⟩⟩
                · rw [if_neg c13] at H
                  exact absurd H (by simp)
              · rw [if_neg c12] at H
                exact absurd H (by simp)
            · rw [if_neg c10] at H
              exact absurd H (by simp)
          · rw [if_neg c8] at H
            have c8b0 : decide (x11_1 < (y153.length : Int)) = false := decide_eq_false c8
            (try simp only [hl5_1] at c8b0)
            clear c8
            obtain rfl := Option.some.inj H
            have hcv17 := own_string (P := Tryd.prog) Tryd.underlying89 Tryd.underlying5 Tryd.underlying9 (Kd.own_of_R HO_5.out)
            go_wp2
            go_ret
            exact ⟨by first | rfl | (simp [errW_none, errW_some] <;> rfl) | (simp [*, errW_none, errW_some] <;> rfl), by repeat (first | (with_reducible first | exact HB.out | apply below_alloc | apply pw_below_drewN | apply below_drew1) | exact HB.out)⟩
    · rw [if_neg c4] at H
      exact absurd H (by simp)
  · rw [if_neg c3] at H
    exact absurd H (by simp)

end Go.Proofs.YtkbaelhcijibiaaDoor.Px

/- Of each function of this text: a plain Lean function and a proof that the machine's call comes to its answers; printed by this session's program. -/
namespace Go.Proofs.YtkbaelhcijibiaaDoor.Px
open Go.RowKit Go.Proofs.YtkbaelhcijibiaaDoorW.PrintWords Go.Proofs.YtkbaelhcijibiaaDoorW.PrintLast Go.Proofs.YtkbaelhcijibiaaDoorW.PrintMore
attribute [local go_sem] max2_int min2_int max_two min_two max_three min_three max_four min_four   -- for this text's walks alone
set_option linter.unusedVariables false
set_option linter.unusedSimpArgs false

/-! ### record_text: function 41 -/
def record_text.f (k : Nat) (a0 : ByteArray) : Option (ByteArray) := (record_low.f k (a0.size : Int) 2).bind fun t157 => (if t157.size + a0.size ≤ 9223372036854775807 then (some (t157 ++ a0)) else (none))
theorem record_text.mono : ∀ a0 k, LeO (record_text.f k a0) (record_text.f (k + 1) a0) := by
  intro a0 k
  unfold record_text.f
  repeat' first
      | (with_reducible exact record_low.mono _ _ _)
      | (with_reducible exact LeO.refl _)
      | (with_reducible exact LeO.none _)
      | (with_reducible refine LeO.ite ?_ ?_)
      | (with_reducible refine LeO.bind ?_ (fun _ => ?_))
      | exact record_low.mono _ _ _
      | exact LeO.none _
      | refine LeO.ite ?_ ?_
      | refine LeO.bind ?_ (fun _ => ?_)
set_option maxHeartbeats 8000000 in
set_option maxRecDepth 100000 in
theorem record_text.calls (k : Nat) (a0 : ByteArray) (r : ByteArray) (w : World) (h : record_text.f k a0 = some r) :
    Calls Tryd.prog 41 #[.string a0] w fun e w' => e = .returned (.string r) ∧ Below w.heap.size w w' := by
  have HB := Aside0.mk (Below.refl w.heap.size w)
  have H : ((record_low.f k (a0.size : Int) 2).bind fun t157 => (if t157.size + a0.size ≤ 9223372036854775807 then (some (t157 ++ a0)) else (none))) = some r := h
  clear h
  replace H := Option.bind_eq_some_iff.mp H
  obtain ⟨t157, A20, H⟩ := H
  replace H : (if t157.size + a0.size ≤ 9223372036854775807 then (some (t157 ++ a0)) else (none)) = some r := H
  have A2 := Aside0.mk A20
  clear A20
  by_cases c3 : t157.size + a0.size ≤ 9223372036854775807
  · rw [if_pos c3] at H
    have c3b0 := eq_true c3
    have c3b1 : decide (t157.size + a0.size ≤ 9223372036854775807) = true := decide_eq_true c3
    try have c3b2 : (9223372036854775807 < t157.size + a0.size) = False := eq_false (Nat.not_lt.2 c3)
    obtain rfl := Option.some.inj H
    go_enter Tryd.func41, Tryd.ntmps41
    go_wp2_with (first | ((with_reducible refine gate_callee (f := 40) rfl ?_); refine goesL_ (some 5) rfl rfl Tryd.func40 (by kernel_rfl) rfl #[.int .i64 (a0.size : Int), .int .i64 2] rfl (by (try simp only [List.map_toArray, List.map_cons, List.map_nil]); first | done | rfl | (simp only [List.length_drop, List.length_take]; rfl)) ?_; (with_reducible refine (record_low.calls k (a0.size : Int) 2 t157 _ A2.out).mono ?_); rintro e w4 ⟨rfl, hb⟩; refine ⟨_, rfl, ?_⟩; have n0_ := Aside0.mk (below_step (by repeat (first | (with_reducible first | exact HB.out | apply below_alloc | apply pw_below_drewN | apply below_drew1) | exact HB.out)) hb); clear HB; have HB := n0_; clear n0_; (try clear hb); (try clear hb2); (try clear hk); (try clear hi)))
    go_ret
    exact ⟨by first | rfl | (simp [errW_none, errW_some] <;> rfl) | (simp [*, errW_none, errW_some] <;> rfl), by repeat (first | (with_reducible first | exact HB.out | apply below_alloc | apply pw_below_drewN | apply below_drew1) | exact HB.out)⟩
  · rw [if_neg c3] at H
    exact absurd H (by simp)

end Go.Proofs.YtkbaelhcijibiaaDoor.Px

/-
  Of trail.Equation and trail.Next, which look at a node through a pointer: a plain Lean function each, and the proof that the machine's call comes to its answers.
-/
namespace Go.Proofs.YtkbaelhcijibiaaDoor.Px
open Go.RowKit Go.Proofs.YtkbaelhcijibiaaDoorW.PrintWords Go.Proofs.YtkbaelhcijibiaaDoorW.PrintLast Go.Proofs.YtkbaelhcijibiaaDoorW.PrintMore
set_option linter.unusedVariables false
set_option linter.unusedSimpArgs false

/-- The rounds that every term's reading stays within. -/
def RR : Nat := 5000
/-- A node lies at p. -/
def Peek24 (w : World) (p : Addr) (f0 f1 : Int) (A2 : Option Addr) (c2 : Nat) (l2 : List ByteArray) (f3 : ByteArray) : Prop :=
  w.cell? p = some (.int .i64 f0) ∧ w.cell? ⟨p.block, p.off + 1, none⟩ = some (.int .i64 f1) ∧ w.cell? ⟨p.block, p.off + 2, none⟩ = some (.slice A2 l2.length c2) ∧ w.cell? ⟨p.block, p.off + 3, none⟩ = some (.string f3)
theorem Peek24.below {w w' : World} {p : Addr} {f0 f1 : Int} {A2 : Option Addr} {c2 : Nat} {l2 : List ByteArray} {f3 : ByteArray} (h : Peek24 w p f0 f1 A2 c2 l2 f3) (hb : Below w.heap.size w w') : Peek24 w' p f0 f1 A2 c2 l2 f3 :=
  ⟨pw_cell_below hb h.1, pw_cell_below hb h.2.1, pw_cell_below hb h.2.2.1, pw_cell_below hb h.2.2.2⟩

/-! ### trail.Equation -/
def trail_Equation.f (a0_0 : Int) (a0_1 : Int) (l0_2 : List ByteArray) (a0_3 : ByteArray) : Option Bool :=
  if 0 ≤ a0_0 then if a0_0 < 8 then if (l0_2.length : Int) ≤ 3 then (term_All.f RR l0_2).bind fun t => if t = true then term_May.f RR a0_3 else some false else some false else some false else some false
set_option maxHeartbeats 2000000 in
theorem trail_Equation.calls (ad : Addr) (a0_0 : Int) (a0_1 : Int) (A0_2 : Option Addr) (c0_2 : Nat) (l0_2 : List ByteArray) (a0_3 : ByteArray) (r : Bool) (w : World) (hp : Peek24 w ad a0_0 a0_1 A0_2 c0_2 l0_2 a0_3) (hr : Kd.C Kd.string w A0_2 l0_2.length l0_2) (hc : l0_2.length ≤ c0_2) (hL : Laid w) (h : trail_Equation.f a0_0 a0_1 l0_2 a0_3 = some r) :
    Calls Tryd.prog 39 #[.pointer (some ad)] w fun e w' => e = .returned (.bool r) ∧ Below w.heap.size w w' := by
  obtain ⟨p0, p1, p2, p3⟩ := hp
  have HR := Lib.hid hr
  have HC := Lib.hid hc
  have HL := Lib.hid hL
  have P3 := Lib.hid p3
  have hlen : (l0_2.length : Int) ≤ 9223372036854775807 := by have := hr.2.1; omega
  clear hr hc hL
  unfold trail_Equation.f at h
  by_cases c0 : 0 ≤ a0_0
  · rw [if_pos c0] at h
    have d0 : decide (0 ≤ a0_0) = true := decide_eq_true c0
    by_cases c1 : a0_0 < 8
    · rw [if_pos c1] at h
      have d1 : decide (a0_0 < 8) = true := decide_eq_true c1
      by_cases c2 : (l0_2.length : Int) ≤ 3
      · rw [if_pos c2] at h
        have d2 : decide ((l0_2.length : Int) ≤ 3) = true := decide_eq_true c2
        obtain ⟨t, ht, h⟩ := Option.bind_eq_some_iff.1 h
        have HT := Lib.hid ht
        clear ht
        cases t with
        | true =>
          have h : term_May.f RR a0_3 = some r := h
          have H := Lib.hid h
          clear h
          go_enter Tryd.func39, Tryd.ntmps39
          go_wp2_with (first | (go_at_call 71; refine (term_All.calls RR _ _ l0_2 true w HR.out HC.out HL.out HT.out).mono ?_; rintro e w1 ⟨rfl, hb⟩; have HB := Lib.hid hb; have q3 := pw_cell_below hb P3.out; clear hb) | (go_at_call 72; refine (term_May.calls RR a0_3 r _ (HL.out.below HB.out) H.out).mono ?_; rintro e w2 ⟨rfl, hb2⟩; have HB2 := Lib.hid hb2; clear hb2))
          go_ret
          exact ⟨by simp, HB.out.trans (HB2.out.mono HB.out.size)⟩
        | false =>
          obtain rfl : false = r := Option.some.inj h
          go_enter Tryd.func39, Tryd.ntmps39
          go_wp2_with (first | (go_at_call 71; refine (term_All.calls RR _ _ l0_2 false w HR.out HC.out HL.out HT.out).mono ?_; rintro e w1 ⟨rfl, hb⟩; have HB := Lib.hid hb; clear hb))
          go_ret
          exact ⟨rfl, HB.out⟩
      · rw [if_neg c2] at h
        obtain rfl := Option.some.inj h
        have d2 : decide ((l0_2.length : Int) ≤ 3) = false := decide_eq_false c2
        go_enter Tryd.func39, Tryd.ntmps39
        go_wp2
        go_ret
        exact ⟨rfl, Below.refl _ _⟩
    · rw [if_neg c1] at h
      obtain rfl := Option.some.inj h
      have d1 : decide (a0_0 < 8) = false := decide_eq_false c1
      go_enter Tryd.func39, Tryd.ntmps39
      go_wp2
      go_ret
      exact ⟨rfl, Below.refl _ _⟩
  · rw [if_neg c0] at h
    obtain rfl := Option.some.inj h
    have d0 : decide (0 ≤ a0_0) = false := decide_eq_false c0
    go_enter Tryd.func39, Tryd.ntmps39
    go_wp2
    go_ret
    exact ⟨rfl, Below.refl _ _⟩

/-! ### trail.Next -/
def trail_Next.f (a0_0 : Int) (a0_1 : Int) (l0_2 : List ByteArray) (a0_3 : ByteArray) (a1 : Int) : Option Bool :=
  if a1 < 512 then if (0 ≤ a0_1 ∧ a0_1 < a1) ∨ (a1 = 0 ∧ a0_1 = -1) then trail_Equation.f a0_0 a0_1 l0_2 a0_3 else some false else some false
set_option maxHeartbeats 4000000 in
theorem trail_Next.calls (ad : Addr) (a0_0 : Int) (a0_1 : Int) (A0_2 : Option Addr) (c0_2 : Nat) (l0_2 : List ByteArray) (a0_3 : ByteArray) (a1 : Int) (r : Bool) (w : World) (hp : Peek24 w ad a0_0 a0_1 A0_2 c0_2 l0_2 a0_3) (hr : Kd.C Kd.string w A0_2 l0_2.length l0_2) (hc : l0_2.length ≤ c0_2) (hL : Laid w) (h : trail_Next.f a0_0 a0_1 l0_2 a0_3 a1 = some r) :
    Calls Tryd.prog 70 #[.pointer (some ad), .int .i64 a1] w fun e w' => e = .returned (.bool r) ∧ Below w.heap.size w w' := by
  have HP := Lib.hid hp
  obtain ⟨p0, p1, p2, p3⟩ := hp
  have HR := Lib.hid hr
  have HC := Lib.hid hc
  have HL := Lib.hid hL
  clear hr hc hL p0 p2 p3
  unfold trail_Next.f at h
  by_cases c0 : 0 ≤ a0_1
  · have d0 : decide (0 ≤ a0_1) = true := decide_eq_true c0
    have e1 : (a0_1 == -1) = false := beq_eq_false_iff_ne.mpr (by omega)
    by_cases c1 : a0_1 < a1
    · have d1 : decide (a0_1 < a1) = true := decide_eq_true c1
      by_cases c2 : a1 < 512
      · have d2 : decide (a1 < 512) = true := decide_eq_true c2
        rw [if_pos c2, if_pos (.inl ⟨c0, c1⟩)] at h
        have H := Lib.hid h
        clear h
        go_enter Tryd.func70, Tryd.ntmps70
        go_wp2_with (go_at_call 39; refine (trail_Equation.calls ad a0_0 a0_1 A0_2 c0_2 l0_2 a0_3 r w HP.out HR.out HC.out HL.out H.out).mono ?_; rintro e w1 ⟨rfl, hb⟩; have HB := Lib.hid hb; clear hb)
        go_ret
        exact ⟨by simp, HB.out⟩
      · have d2 : decide (a1 < 512) = false := decide_eq_false c2
        rw [if_neg c2] at h
        obtain rfl := Option.some.inj h
        clear h
        go_enter Tryd.func70, Tryd.ntmps70
        go_wp2
        go_ret
        exact ⟨rfl, Below.refl _ _⟩
    · have d1 : decide (a0_1 < a1) = false := decide_eq_false c1
      have hn : ¬ ((0 ≤ a0_1 ∧ a0_1 < a1) ∨ (a1 = 0 ∧ a0_1 = -1)) := by omega
      by_cases c3 : a1 = 0
      · subst c3
        rw [if_pos (by decide), if_neg hn] at h
        obtain rfl := Option.some.inj h
        clear h
        go_enter Tryd.func70, Tryd.ntmps70
        go_wp2
        go_ret
        exact ⟨rfl, Below.refl _ _⟩
      · have d3 : (a1 == 0) = false := beq_eq_false_iff_ne.mpr c3
        by_cases c2 : a1 < 512
        · have d2 : decide (a1 < 512) = true := decide_eq_true c2
          rw [if_pos c2, if_neg hn] at h
          obtain rfl := Option.some.inj h
          clear h
          go_enter Tryd.func70, Tryd.ntmps70
          go_wp2
          go_ret
          exact ⟨rfl, Below.refl _ _⟩
        · have d2 : decide (a1 < 512) = false := decide_eq_false c2
          rw [if_neg c2] at h
          obtain rfl := Option.some.inj h
          clear h
          go_enter Tryd.func70, Tryd.ntmps70
          go_wp2
          go_ret
          exact ⟨rfl, Below.refl _ _⟩
  · have d0 : decide (0 ≤ a0_1) = false := decide_eq_false c0
    by_cases c3 : a1 = 0
    · subst c3
      by_cases c4 : a0_1 = -1
      · subst c4
        rw [if_pos (by decide), if_pos (.inr ⟨rfl, rfl⟩)] at h
        have H := Lib.hid h
        clear h
        go_enter Tryd.func70, Tryd.ntmps70
        go_wp2_with (go_at_call 39; refine (trail_Equation.calls ad a0_0 (-1) A0_2 c0_2 l0_2 a0_3 r w HP.out HR.out HC.out HL.out H.out).mono ?_; rintro e w1 ⟨rfl, hb⟩; have HB := Lib.hid hb; clear hb)
        go_ret
        exact ⟨by simp, HB.out⟩
      · have d4 : (a0_1 == -1) = false := beq_eq_false_iff_ne.mpr c4
        have hn : ¬ ((0 ≤ a0_1 ∧ a0_1 < 0) ∨ ((0 : Int) = 0 ∧ a0_1 = -1)) := by omega
        rw [if_pos (by decide), if_neg hn] at h
        obtain rfl := Option.some.inj h
        clear h
        go_enter Tryd.func70, Tryd.ntmps70
        go_wp2
        go_ret
        exact ⟨rfl, Below.refl _ _⟩
    · have d3 : (a1 == 0) = false := beq_eq_false_iff_ne.mpr c3
      have hn : ¬ ((0 ≤ a0_1 ∧ a0_1 < a1) ∨ (a1 = 0 ∧ a0_1 = -1)) := by omega
      by_cases c2 : a1 < 512
      · have d2 : decide (a1 < 512) = true := decide_eq_true c2
        rw [if_pos c2, if_neg hn] at h
        obtain rfl := Option.some.inj h
        clear h
        go_enter Tryd.func70, Tryd.ntmps70
        go_wp2
        go_ret
        exact ⟨rfl, Below.refl _ _⟩
      · have d2 : decide (a1 < 512) = false := decide_eq_false c2
        rw [if_neg c2] at h
        obtain rfl := Option.some.inj h
        clear h
        go_enter Tryd.func70, Tryd.ntmps70
        go_wp2
        go_ret
        exact ⟨rfl, Below.refl _ _⟩
end Go.Proofs.YtkbaelhcijibiaaDoor.Px

/- Of each function of this text: a plain Lean function and a proof that the machine's call comes to its answers; printed by this session's program. -/
namespace Go.Proofs.YtkbaelhcijibiaaDoor.Px
open Go.RowKit Go.Proofs.YtkbaelhcijibiaaDoorW.PrintWords Go.Proofs.YtkbaelhcijibiaaDoorW.PrintLast Go.Proofs.YtkbaelhcijibiaaDoorW.PrintMore
attribute [local go_sem] max2_int min2_int max_two min_two max_three min_three max_four min_four   -- for this text's walks alone
set_option linter.unusedVariables false
set_option linter.unusedSimpArgs false

/-! ### record_Put: function 15 -/
mutual
def record_Put.j0 : Nat → Bool → Int → Int → List ByteArray → ByteArray → Option (ByteArray × Int)
  | 0, _, _, _, _, _ => none
  | k + 1, x18, x159000, x159001, x159002, x159003 => if x18 = true then (some ((⟨#[]⟩ : ByteArray), 1500)) else ((record_low.f k x159000 1).bind fun t160 => ((record_low.f k (wrap64 (x159001 + 1)) 2).bind fun t161 => (if t160.size + t161.size ≤ 9223372036854775807 then ((record_low.f k (x159002.length : Int) 1).bind fun t162 => (if (t160 ++ t161).size + t162.size ≤ 9223372036854775807 then (record_Put.l0 k ((t160 ++ t161) ++ t162) x159002 (x159002.length : Int) 0 x159000 x159001 x159002 x159003) else (none))) else (none))))
def record_Put.l0 : Nat → ByteArray → List ByteArray → Int → Int → Int → Int → List ByteArray → ByteArray → Option (ByteArray × Int)
  | 0, _, _, _, _, _, _, _, _ => none
  | k + 1, x4, x33, x34, x35, x159000, x159001, x159002, x159003 => if x35 < x34 then (if 0 ≤ x35 then (if x35 < (x33.length : Int) then ((record_text.f k (rdOf ByteArray.empty x33 x35)).bind fun t164 => (if x4.size + t164.size ≤ 9223372036854775807 then (record_Put.l0 k (x4 ++ t164) x33 x34 (wrap64 (x35 + 1)) x159000 x159001 x159002 x159003) else (none))) else (none)) else (none)) else ((record_text.f k x159003).bind fun t165 => (if x4.size + t165.size ≤ 9223372036854775807 then (some (x4 ++ t165, 0)) else (none)))
end
def record_Put.f (k : Nat) (a0_0 : Int) (a0_1 : Int) (l0_2 : List ByteArray) (a0_3 : ByteArray) : Option (ByteArray × Int) := (trail_Equation.f a0_0 a0_1 l0_2 a0_3).bind fun t159 => (if t159 = true then (if a0_1 < (-1) then (record_Put.j0 k true a0_0 a0_1 l0_2 a0_3) else (record_Put.j0 k (decide (a0_1 ≥ 512)) a0_0 a0_1 l0_2 a0_3)) else (record_Put.j0 k true a0_0 a0_1 l0_2 a0_3))
theorem record_Put.mono_l : ∀ k, (∀ y0 y1 y2 y3 y4, LeO (record_Put.j0 k y0 y1 y2 y3 y4) (record_Put.j0 (k + 1) y0 y1 y2 y3 y4)) ∧ (∀ y0 y1 y2 y3 y4 y5 y6 y7, LeO (record_Put.l0 k y0 y1 y2 y3 y4 y5 y6 y7) (record_Put.l0 (k + 1) y0 y1 y2 y3 y4 y5 y6 y7))
  | 0 => ⟨fun _ _ _ _ _ r h => by simp [record_Put.j0] at h, fun _ _ _ _ _ _ _ _ r h => by simp [record_Put.l0] at h⟩
  | k + 1 => by
    obtain ⟨ih0, ih1⟩ := record_Put.mono_l k
    refine ⟨?_, ?_⟩
    · intro y0 y1 y2 y3 y4
      unfold record_Put.j0
      repeat' first
      | (with_reducible exact ih0 _ _ _ _ _)
      | (with_reducible exact ih1 _ _ _ _ _ _ _ _)
      | (with_reducible exact record_low.mono _ _ _)
      | (with_reducible exact record_text.mono _ _)
      | (with_reducible exact LeO.refl _)
      | (with_reducible exact LeO.none _)
      | (with_reducible refine LeO.ite ?_ ?_)
      | (with_reducible refine LeO.bind ?_ (fun _ => ?_))
      | exact ih0 _ _ _ _ _
      | exact ih1 _ _ _ _ _ _ _ _
      | exact record_low.mono _ _ _
      | exact record_text.mono _ _
      | exact LeO.none _
      | refine LeO.ite ?_ ?_
      | refine LeO.bind ?_ (fun _ => ?_)
    · intro y0 y1 y2 y3 y4 y5 y6 y7
      unfold record_Put.l0
      repeat' first
      | (with_reducible exact ih0 _ _ _ _ _)
      | (with_reducible exact ih1 _ _ _ _ _ _ _ _)
      | (with_reducible exact record_low.mono _ _ _)
      | (with_reducible exact record_text.mono _ _)
      | (with_reducible exact LeO.refl _)
      | (with_reducible exact LeO.none _)
      | (with_reducible refine LeO.ite ?_ ?_)
      | (with_reducible refine LeO.bind ?_ (fun _ => ?_))
      | exact ih0 _ _ _ _ _
      | exact ih1 _ _ _ _ _ _ _ _
      | exact record_low.mono _ _ _
      | exact record_text.mono _ _
      | exact LeO.none _
      | refine LeO.ite ?_ ?_
      | refine LeO.bind ?_ (fun _ => ?_)
theorem record_Put.mono : ∀ a0 a1 a2 a3 k, LeO (record_Put.f k a0 a1 a2 a3) (record_Put.f (k + 1) a0 a1 a2 a3) := by
  intro a0 a1 a2 a3 k
  obtain ⟨ih0, ih1⟩ := record_Put.mono_l k
  unfold record_Put.f
  repeat' first
      | (with_reducible exact ih0 _ _ _ _ _)
      | (with_reducible exact ih1 _ _ _ _ _ _ _ _)
      | (with_reducible exact record_low.mono _ _ _)
      | (with_reducible exact record_text.mono _ _)
      | (with_reducible exact LeO.refl _)
      | (with_reducible exact LeO.none _)
      | (with_reducible refine LeO.ite ?_ ?_)
      | (with_reducible refine LeO.bind ?_ (fun _ => ?_))
      | exact ih0 _ _ _ _ _
      | exact ih1 _ _ _ _ _ _ _ _
      | exact record_low.mono _ _ _
      | exact record_text.mono _ _
      | exact LeO.none _
      | refine LeO.ite ?_ ?_
      | refine LeO.bind ?_ (fun _ => ?_)
def record_Put.T3 : Bool × List (List Nat × List Nat) := (true, [([], []), ([0], [0]), ([1], [1]), ([], []), ([3], [3]), ([4], [4]), ([5, 2], [5]), ([2, 6], [2, 6]), ([], []), ([8], [8]), ([9], [9]), ([10, 6], [10]), ([7, 11], [7, 11]), ([12, 11, 0, 1, 2, 3, 4, 5, 6, 7, 8, 9, 10, 11, 12], [12])])
def record_Put.B3 : List Nat := [0, 1, 3, 0, 8, 24, 63, 127, 0, 256, 768, 1919, 4095, 8191]
theorem record_Put.tab3 : rtab .any (opsOf Tryd.f15 3) = record_Put.T3 := by kernel_rfl
theorem record_Put.bits3 : waitsOk record_Put.T3.2 record_Put.B3 = true := by kernel_rfl
set_option maxHeartbeats 8000000 in
set_option maxRecDepth 100000 in
theorem record_Put.calls (k : Nat) (a0_0 : Int) (a0_1 : Int) (A0_2 : Option Addr) (c0_2 : Nat) (l0_2 : List ByteArray) (a0_3 : ByteArray) (r1 : ByteArray) (r2 : Int) (w : World) (hr0_2 : Kd.C Kd.string w A0_2 l0_2.length l0_2) (hc0_2 : l0_2.length ≤ c0_2) (hL : Laid w) (h : record_Put.f k a0_0 a0_1 l0_2 a0_3 = some (r1, r2)) :
    Calls Tryd.prog 15 #[.agg #[.int .i64 a0_0, .int .i64 a0_1, .slice A0_2 l0_2.length c0_2, .string a0_3]] w fun e w' => e = .returned (.tuple #[.string r1, .int .i64 r2]) ∧ Below w.heap.size w w' := by
  have hu24 := Tryd.underlying24
  have HR0_2 := Aside0.mk hr0_2
  have HC0_2 := Aside0.mk hc0_2
  clear hr0_2 hc0_2
  have HLaid := Aside0.mk hL
  clear hL
  have HB := Aside0.mk (Below.refl w.heap.size w)
  have H : ((trail_Equation.f a0_0 a0_1 l0_2 a0_3).bind fun t159 => (if t159 = true then (if a0_1 < (-1) then (record_Put.j0 k true a0_0 a0_1 l0_2 a0_3) else (record_Put.j0 k (decide (a0_1 ≥ 512)) a0_0 a0_1 l0_2 a0_3)) else (record_Put.j0 k true a0_0 a0_1 l0_2 a0_3))) = some (r1, r2) := h
  clear h
  have HC2 := Aside0.mk H
  clear H
  go_enter Tryd.func15, Tryd.ntmps15
  go_upto_region 1 with (first | ((with_reducible refine gate_dst (N := 1) rfl ?_); refine box_event ?hg (N := 1) ?hd (cs := #[.int .i64 a0_0, .int .i64 a0_1, .slice A0_2 l0_2.length c0_2, .string a0_3]) (t := 24) ?hr ?_; (case hd => rfl); (case hg => rfl); (case hr => first | (go_simp; done) | (go_simp; rfl)); intro gb158 hg w3 hbox hb; have n0_ := Aside0.mk (below_step (by repeat (first | (with_reducible first | exact HB.out | apply below_alloc | apply pw_below_drewN | apply below_drew1) | exact HB.out)) hb); have n1_ := Aside0.mk (hbox); have n2_ := Aside0.mk ((by rw [hg]; exact (below_size (by repeat (first | (with_reducible first | exact HB.out | apply below_alloc | apply pw_below_drewN | apply below_drew1) | exact HB.out))) : w.heap.size ≤ gb158)); have n3_ := Aside0.mk ((by rw [hg]; exact (below_size (by repeat (first | (with_reducible first | exact HB.out | apply below_alloc | apply pw_below_drewN | apply below_drew1) | exact HB.out))) : w.heap.size ≤ gb158)); clear HB; have HB := n0_; have BK158 := n1_; have GW158 := n2_; have GE158 := n3_; clear n0_ n1_ n2_ n3_; clear hb hbox hg))
  (try simp only [Act.put, List.setIfInBounds_toArray, List.set_cons_zero, List.set_cons_succ])
  go_cut [18] (fun v18 wc => ∃ (kq : Nat) (x18_1 : Bool) (x159000_1 : Int) (x159001_1 : Int) (x159003_1 : ByteArray), v18 = .bool x18_1 ∧ Aside0 (record_Put.j0 kq x18_1 x159000_1 x159001_1 l0_2 x159003_1 = some (r1, r2)) ∧ Aside0 (kq ≤ k) ∧ Aside0 (wc.heap[gb158]? = some (.cells #[.int .i64 x159000_1, .int .i64 x159001_1, (.slice A0_2 l0_2.length c0_2), .string x159003_1] 24 (0, 0))) ∧ Aside0 (Below w.heap.size w wc))
  case first =>
    have H := HC2.out
    clear HC2
    replace H := Option.bind_eq_some_iff.mp H
    obtain ⟨t159, A40, H⟩ := H
    replace H : (if t159 = true then (if a0_1 < (-1) then (record_Put.j0 k true a0_0 a0_1 l0_2 a0_3) else (record_Put.j0 k (decide (a0_1 ≥ 512)) a0_0 a0_1 l0_2 a0_3)) else (record_Put.j0 k true a0_0 a0_1 l0_2 a0_3)) = some (r1, r2) := H
    have A4 := Aside0.mk A40
    clear A40
    by_cases c5 : t159 = true
    · subst c5
      have H1 : (if a0_1 < (-1) then (record_Put.j0 k true a0_0 a0_1 l0_2 a0_3) else (record_Put.j0 k (decide (a0_1 ≥ 512)) a0_0 a0_1 l0_2 a0_3)) = some (r1, r2) := by rw [if_pos rfl] at H; exact H
      clear H
      have H := H1
      clear H1
      by_cases c6 : a0_1 < (-1)
      · rw [if_pos c6] at H
        have c6b0 : decide (a0_1 < (-1)) = true := decide_eq_true c6
        clear c6
        (first | rw [c6b0] | (simp only [i64_w, i32_w]; rw [c6b0]) | skip)
        have H' := Aside0.mk H
        clear H
        have hcz7_0 : w3.cell? ⟨gb158, 0, none⟩ = some (.int .i64 a0_0) := (blk_cell BK158.out 0).trans rfl
        have hcz7_1 : w3.cell? ⟨gb158, 1, none⟩ = some (.int .i64 a0_1) := (blk_cell BK158.out 1).trans rfl
        have hcz7_2 : w3.cell? ⟨gb158, 2, none⟩ = some (.slice A0_2 l0_2.length c0_2) := (blk_cell BK158.out 2).trans rfl
        have hcz7_3 : w3.cell? ⟨gb158, 3, none⟩ = some (.string a0_3) := (blk_cell BK158.out 3).trans rfl
        have hfz7_0 := blk_frozen BK158.out 0
        have hfz7_1 := blk_frozen BK158.out 1
        have hfz7_2 := blk_frozen BK158.out 2
        have hfz7_3 := blk_frozen BK158.out 3
        go_wp2_with (first | (go_at_call 39; (with_reducible refine (trail_Equation.calls _ a0_0 a0_1 A0_2 c0_2 l0_2 a0_3 true _ ?side3 ?side1 ?side2 ?side4 A4.out).mono ?_); (case side1 => repeat (first | exact (Kd.C_below HR0_2.out HB.out) | (with_reducible refine Kd.C_alloc ?_ _) | (with_reducible refine Kd.C_drewN ?_ _) | (with_reducible refine Kd.C_drew ?_))); (case side2 => exact HC0_2.out); (case side3 => (first | exact by (unfold Peek24; refine ⟨(by first | (with_reducible assumption) | (go_simp; done) | assumption), (by first | (with_reducible assumption) | (go_simp; done) | assumption), (by first | (with_reducible assumption) | (go_simp; done) | assumption), (by first | (with_reducible assumption) | (go_simp; done) | assumption)⟩) | (unfold Peek24; (repeat (refine And.intro ?_ ?_)) <;> (first | (with_reducible assumption) | (go_simp; done) | (go_simp; with_reducible assumption) | assumption)))); (case side4 => exact Laid.below HLaid.out (by repeat (first | (with_reducible first | exact HB.out | apply below_alloc | apply pw_below_drewN | apply below_drew1 | refine below_set ?_ GE158.out) | exact HB.out))); rintro e w8 ⟨rfl, hb⟩; have n0_ := Aside0.mk (blk_below (g := gb158) (o := .cells #[.int .i64 a0_0, .int .i64 a0_1, .slice A0_2 l0_2.length c0_2, .string a0_3] 24 (0, 0)) (by (with_reducible repeat (first | refine blk_drewN ?_ _ | refine blk_drew ?_ | refine blk_alloc ?_ _)); exact BK158.out) hb); have n1_ := Aside0.mk (below_step (by repeat (first | (with_reducible first | exact HB.out | apply below_alloc | apply pw_below_drewN | apply below_drew1 | refine below_set ?_ GE158.out) | exact HB.out)) hb); clear BK158; clear HB; have BK158 := n0_; have HB := n1_; clear n0_ n1_; (try clear hb); (try clear hb2); (try clear hk); (try clear hi); have hcz9_0 : w8.cell? ⟨gb158, 0, none⟩ = some (.int .i64 a0_0) := (blk_cell BK158.out 0).trans rfl; have hcz9_1 : w8.cell? ⟨gb158, 1, none⟩ = some (.int .i64 a0_1) := (blk_cell BK158.out 1).trans rfl; have hcz9_2 : w8.cell? ⟨gb158, 2, none⟩ = some (.slice A0_2 l0_2.length c0_2) := (blk_cell BK158.out 2).trans rfl; have hcz9_3 : w8.cell? ⟨gb158, 3, none⟩ = some (.string a0_3) := (blk_cell BK158.out 3).trans rfl; have hfz9_0 := blk_frozen BK158.out 0; have hfz9_1 := blk_frozen BK158.out 1; have hfz9_2 := blk_frozen BK158.out 2; have hfz9_3 := blk_frozen BK158.out 3))
        go_meet
        case rel => exact ⟨_, (true), (a0_0), (a0_1), (a0_3), (by first | rfl | (simp; done) | (simp [*]; done)), H', ⟨by first | omega | exact Nat.le_refl _⟩, ⟨by (with_reducible repeat (first | refine blk_drewN ?_ _ | refine blk_drew ?_ | refine blk_alloc ?_ _)); exact BK158.out⟩, ⟨by repeat (first | (with_reducible first | exact HB.out | apply below_alloc | apply pw_below_drewN | apply below_drew1 | refine below_set ?_ GE158.out) | exact HB.out)⟩⟩
      · rw [if_neg c6] at H
        have c6b0 : decide (a0_1 < (-1)) = false := decide_eq_false c6
        clear c6
        (first | rw [c6b0] | (simp only [i64_w, i32_w]; rw [c6b0]) | skip)
        have H' := Aside0.mk H
        clear H
        have hcz10_0 : w3.cell? ⟨gb158, 0, none⟩ = some (.int .i64 a0_0) := (blk_cell BK158.out 0).trans rfl
        have hcz10_1 : w3.cell? ⟨gb158, 1, none⟩ = some (.int .i64 a0_1) := (blk_cell BK158.out 1).trans rfl
        have hcz10_2 : w3.cell? ⟨gb158, 2, none⟩ = some (.slice A0_2 l0_2.length c0_2) := (blk_cell BK158.out 2).trans rfl
        have hcz10_3 : w3.cell? ⟨gb158, 3, none⟩ = some (.string a0_3) := (blk_cell BK158.out 3).trans rfl
        have hfz10_0 := blk_frozen BK158.out 0
        have hfz10_1 := blk_frozen BK158.out 1
        have hfz10_2 := blk_frozen BK158.out 2
        have hfz10_3 := blk_frozen BK158.out 3
        go_wp2_with (first | (go_at_call 39; (with_reducible refine (trail_Equation.calls _ a0_0 a0_1 A0_2 c0_2 l0_2 a0_3 true _ ?side3 ?side1 ?side2 ?side4 A4.out).mono ?_); (case side1 => repeat (first | exact (Kd.C_below HR0_2.out HB.out) | (with_reducible refine Kd.C_alloc ?_ _) | (with_reducible refine Kd.C_drewN ?_ _) | (with_reducible refine Kd.C_drew ?_))); (case side2 => exact HC0_2.out); (case side3 => (first | exact by (unfold Peek24; refine ⟨(by first | (with_reducible assumption) | (go_simp; done) | assumption), (by first | (with_reducible assumption) | (go_simp; done) | assumption), (by first | (with_reducible assumption) | (go_simp; done) | assumption), (by first | (with_reducible assumption) | (go_simp; done) | assumption)⟩) | (unfold Peek24; (repeat (refine And.intro ?_ ?_)) <;> (first | (with_reducible assumption) | (go_simp; done) | (go_simp; with_reducible assumption) | assumption)))); (case side4 => exact Laid.below HLaid.out (by repeat (first | (with_reducible first | exact HB.out | apply below_alloc | apply pw_below_drewN | apply below_drew1 | refine below_set ?_ GE158.out) | exact HB.out))); rintro e w11 ⟨rfl, hb⟩; have n0_ := Aside0.mk (blk_below (g := gb158) (o := .cells #[.int .i64 a0_0, .int .i64 a0_1, .slice A0_2 l0_2.length c0_2, .string a0_3] 24 (0, 0)) (by (with_reducible repeat (first | refine blk_drewN ?_ _ | refine blk_drew ?_ | refine blk_alloc ?_ _)); exact BK158.out) hb); have n1_ := Aside0.mk (below_step (by repeat (first | (with_reducible first | exact HB.out | apply below_alloc | apply pw_below_drewN | apply below_drew1 | refine below_set ?_ GE158.out) | exact HB.out)) hb); clear BK158; clear HB; have BK158 := n0_; have HB := n1_; clear n0_ n1_; (try clear hb); (try clear hb2); (try clear hk); (try clear hi); have hcz12_0 : w11.cell? ⟨gb158, 0, none⟩ = some (.int .i64 a0_0) := (blk_cell BK158.out 0).trans rfl; have hcz12_1 : w11.cell? ⟨gb158, 1, none⟩ = some (.int .i64 a0_1) := (blk_cell BK158.out 1).trans rfl; have hcz12_2 : w11.cell? ⟨gb158, 2, none⟩ = some (.slice A0_2 l0_2.length c0_2) := (blk_cell BK158.out 2).trans rfl; have hcz12_3 : w11.cell? ⟨gb158, 3, none⟩ = some (.string a0_3) := (blk_cell BK158.out 3).trans rfl; have hfz12_0 := blk_frozen BK158.out 0; have hfz12_1 := blk_frozen BK158.out 1; have hfz12_2 := blk_frozen BK158.out 2; have hfz12_3 := blk_frozen BK158.out 3))
        go_meet
        case rel => exact ⟨_, (decide (a0_1 ≥ 512)), (a0_0), (a0_1), (a0_3), (by first | rfl | (simp; done) | (simp [*]; done)), H', ⟨by first | omega | exact Nat.le_refl _⟩, ⟨by (with_reducible repeat (first | refine blk_drewN ?_ _ | refine blk_drew ?_ | refine blk_alloc ?_ _)); exact BK158.out⟩, ⟨by repeat (first | (with_reducible first | exact HB.out | apply below_alloc | apply pw_below_drewN | apply below_drew1 | refine below_set ?_ GE158.out) | exact HB.out)⟩⟩
    · replace c5 := Bool.eq_false_iff.mpr c5
      subst c5
      have H1 : (record_Put.j0 k true a0_0 a0_1 l0_2 a0_3) = some (r1, r2) := by rw [if_neg (show ¬ (false = true) by decide)] at H; exact H
      clear H
      have H := H1
      clear H1
      have H' := Aside0.mk H
      clear H
      have hcz13_0 : w3.cell? ⟨gb158, 0, none⟩ = some (.int .i64 a0_0) := (blk_cell BK158.out 0).trans rfl
      have hcz13_1 : w3.cell? ⟨gb158, 1, none⟩ = some (.int .i64 a0_1) := (blk_cell BK158.out 1).trans rfl
      have hcz13_2 : w3.cell? ⟨gb158, 2, none⟩ = some (.slice A0_2 l0_2.length c0_2) := (blk_cell BK158.out 2).trans rfl
      have hcz13_3 : w3.cell? ⟨gb158, 3, none⟩ = some (.string a0_3) := (blk_cell BK158.out 3).trans rfl
      have hfz13_0 := blk_frozen BK158.out 0
      have hfz13_1 := blk_frozen BK158.out 1
      have hfz13_2 := blk_frozen BK158.out 2
      have hfz13_3 := blk_frozen BK158.out 3
      go_wp2_with (first | (go_at_call 39; (with_reducible refine (trail_Equation.calls _ a0_0 a0_1 A0_2 c0_2 l0_2 a0_3 false _ ?side3 ?side1 ?side2 ?side4 A4.out).mono ?_); (case side1 => repeat (first | exact (Kd.C_below HR0_2.out HB.out) | (with_reducible refine Kd.C_alloc ?_ _) | (with_reducible refine Kd.C_drewN ?_ _) | (with_reducible refine Kd.C_drew ?_))); (case side2 => exact HC0_2.out); (case side3 => (first | exact by (unfold Peek24; refine ⟨(by first | (with_reducible assumption) | (go_simp; done) | assumption), (by first | (with_reducible assumption) | (go_simp; done) | assumption), (by first | (with_reducible assumption) | (go_simp; done) | assumption), (by first | (with_reducible assumption) | (go_simp; done) | assumption)⟩) | (unfold Peek24; (repeat (refine And.intro ?_ ?_)) <;> (first | (with_reducible assumption) | (go_simp; done) | (go_simp; with_reducible assumption) | assumption)))); (case side4 => exact Laid.below HLaid.out (by repeat (first | (with_reducible first | exact HB.out | apply below_alloc | apply pw_below_drewN | apply below_drew1 | refine below_set ?_ GE158.out) | exact HB.out))); rintro e w14 ⟨rfl, hb⟩; have n0_ := Aside0.mk (blk_below (g := gb158) (o := .cells #[.int .i64 a0_0, .int .i64 a0_1, .slice A0_2 l0_2.length c0_2, .string a0_3] 24 (0, 0)) (by (with_reducible repeat (first | refine blk_drewN ?_ _ | refine blk_drew ?_ | refine blk_alloc ?_ _)); exact BK158.out) hb); have n1_ := Aside0.mk (below_step (by repeat (first | (with_reducible first | exact HB.out | apply below_alloc | apply pw_below_drewN | apply below_drew1 | refine below_set ?_ GE158.out) | exact HB.out)) hb); clear BK158; clear HB; have BK158 := n0_; have HB := n1_; clear n0_ n1_; (try clear hb); (try clear hb2); (try clear hk); (try clear hi)))
      go_meet
      case rel => exact ⟨_, (true), (a0_0), (a0_1), (a0_3), (by first | rfl | (simp; done) | (simp [*]; done)), H', ⟨by first | omega | exact Nat.le_refl _⟩, ⟨by (with_reducible repeat (first | refine blk_drewN ?_ _ | refine blk_drew ?_ | refine blk_alloc ?_ _)); exact BK158.out⟩, ⟨by repeat (first | (with_reducible first | exact HB.out | apply below_alloc | apply pw_below_drewN | apply below_drew1 | refine below_set ?_ GE158.out) | exact HB.out)⟩⟩
  case rest =>
    clear HC2
    try clear c1
    try clear p2
    try clear c5
    try clear c6
    try clear c6b0
    try clear hcz10_0
    try clear hcz10_1
    try clear hcz10_2
    try clear hcz10_3
    try clear hcz12_0
    try clear hcz12_1
    try clear hcz12_2
    try clear hcz12_3
    try clear hcz13_0
    try clear hcz13_1
    try clear hcz13_2
    try clear hcz13_3
    try clear hcz7_0
    try clear hcz7_1
    try clear hcz7_2
    try clear hcz7_3
    try clear hcz9_0
    try clear hcz9_1
    try clear hcz9_2
    try clear hcz9_3
    try clear hfz10_0
    try clear hfz10_1
    try clear hfz10_2
    try clear hfz10_3
    try clear hfz12_0
    try clear hfz12_1
    try clear hfz12_2
    try clear hfz12_3
    try clear hfz13_0
    try clear hfz13_1
    try clear hfz13_2
    try clear hfz13_3
    try clear hfz7_0
    try clear hfz7_1
    try clear hfz7_2
    try clear hfz7_3
    try clear hfz9_0
    try clear hfz9_1
    try clear hfz9_2
    try clear hfz9_3
    obtain ⟨kq, x18_1, x159000_1, x159001_1, x159003_1, rfl, HA, HJ1, BK158, HB⟩ := hcut
    cases kq with
    | zero => exact absurd HA.out (by simp [record_Put.j0])
    | succ kj1 =>
      have H := HA.out
      clear HA
      simp only [record_Put.j0] at H
      by_cases c15 : x18_1 = true
      · subst c15
        have H1 : (some ((⟨#[]⟩ : ByteArray), 1500)) = some (r1, r2) := by rw [if_pos rfl] at H; exact H
        clear H
        have H := H1
        clear H1
        simp only [Option.some.injEq, Prod.mk.injEq] at H
        obtain ⟨rfl, rfl⟩ := H
        go_wp2
        go_ret2
        exact ⟨by first | rfl | (simp [errW_none, errW_some] <;> rfl) | (simp [*, errW_none, errW_some] <;> rfl), by repeat (first | (with_reducible first | exact HB.out | apply below_alloc | apply pw_below_drewN | apply below_drew1 | refine below_set ?_ GE158.out) | exact HB.out)⟩
      · replace c15 := Bool.eq_false_iff.mpr c15
        subst c15
        have H1 : ((record_low.f kj1 x159000_1 1).bind fun t160 => ((record_low.f kj1 (wrap64 (x159001_1 + 1)) 2).bind fun t161 => (if t160.size + t161.size ≤ 9223372036854775807 then ((record_low.f kj1 (l0_2.length : Int) 1).bind fun t162 => (if (t160 ++ t161).size + t162.size ≤ 9223372036854775807 then (record_Put.l0 kj1 ((t160 ++ t161) ++ t162) l0_2 (l0_2.length : Int) 0 x159000_1 x159001_1 l0_2 x159003_1) else (none))) else (none)))) = some (r1, r2) := by rw [if_neg (show ¬ (false = true) by decide)] at H; exact H
        clear H
        have H := H1
        clear H1
        replace H := Option.bind_eq_some_iff.mp H
        obtain ⟨t160, A160, H⟩ := H
        replace H : ((record_low.f kj1 (wrap64 (x159001_1 + 1)) 2).bind fun t161 => (if t160.size + t161.size ≤ 9223372036854775807 then ((record_low.f kj1 (l0_2.length : Int) 1).bind fun t162 => (if (t160 ++ t161).size + t162.size ≤ 9223372036854775807 then (record_Put.l0 kj1 ((t160 ++ t161) ++ t162) l0_2 (l0_2.length : Int) 0 x159000_1 x159001_1 l0_2 x159003_1) else (none))) else (none))) = some (r1, r2) := H
        have A16 := Aside0.mk A160
        clear A160
        replace H := Option.bind_eq_some_iff.mp H
        obtain ⟨t161, A170, H⟩ := H
        replace H : (if t160.size + t161.size ≤ 9223372036854775807 then ((record_low.f kj1 (l0_2.length : Int) 1).bind fun t162 => (if (t160 ++ t161).size + t162.size ≤ 9223372036854775807 then (record_Put.l0 kj1 ((t160 ++ t161) ++ t162) l0_2 (l0_2.length : Int) 0 x159000_1 x159001_1 l0_2 x159003_1) else (none))) else (none)) = some (r1, r2) := H
        have A17 := Aside0.mk A170
        clear A170
        by_cases c18 : t160.size + t161.size ≤ 9223372036854775807
        · rw [if_pos c18] at H
          have c18b0 := eq_true c18
          have c18b1 : decide (t160.size + t161.size ≤ 9223372036854775807) = true := decide_eq_true c18
          try have c18b2 : (9223372036854775807 < t160.size + t161.size) = False := eq_false (Nat.not_lt.2 c18)
          replace H := Option.bind_eq_some_iff.mp H
          obtain ⟨t162, A190, H⟩ := H
          replace H : (if (t160 ++ t161).size + t162.size ≤ 9223372036854775807 then (record_Put.l0 kj1 ((t160 ++ t161) ++ t162) l0_2 (l0_2.length : Int) 0 x159000_1 x159001_1 l0_2 x159003_1) else (none)) = some (r1, r2) := H
          have A19 := Aside0.mk A190
          clear A190
          by_cases c20 : (t160 ++ t161).size + t162.size ≤ 9223372036854775807
          · rw [if_pos c20] at H
            have c20b0 := eq_true c20
            have c20b1 : decide ((t160 ++ t161).size + t162.size ≤ 9223372036854775807) = true := decide_eq_true c20
            try have c20b2 : (9223372036854775807 < (t160 ++ t161).size + t162.size) = False := eq_false (Nat.not_lt.2 c20)
            (try simp only [ByteArray.size_append] at c20b0 c20b1 c20b2)
            have H' := Aside0.mk H
            clear H
            try go_wp2
            have n0_ := Aside0.mk (blk_drew BK158.out)
            have n1_ := Aside0.mk (below_drew1 HB.out)
            clear BK158
            clear HB
            have BK158 := n0_
            have HB := n1_
            clear n0_ n1_
            refine start_ (n := 14) (S := fun w' => w'.cell? ⟨gb158, 0, none⟩ = some (.int .i64 x159000_1) ∧ w'.cell? ⟨gb158, 1, none⟩ = some (.int .i64 x159001_1) ∧ w'.cell? ⟨gb158, 2, none⟩ = some (.slice A0_2 l0_2.length c0_2) ∧ w'.cell? ⟨gb158, 3, none⟩ = some (.string x159003_1)) (ds := []) #[false, false, false, false, false, false, false, false, false, false, false, false, false, false] (by kernel_rfl) rfl rfl ⟨(blk_cell BK158.out 0).trans rfl, (blk_cell BK158.out 1).trans rfl, (blk_cell BK158.out 2).trans rfl, (blk_cell BK158.out 3).trans rfl⟩ (fun hHeld => ?_); refine with_tabW record_Put.tab3 record_Put.bits3 (fun HT_ HW_ => ?_)
            generalize wc.drew = w21 at BK158 HB hHeld ⊢
            refine pure_ (i := 0) (N := some 19) (v := ?_) (a' := ?_) #[true, false, false, false, false, false, false, false, false, false, false, false, false, false] rfl rfl (any_of HT_.out (by kernel_rfl)) (fun _ _ _ h => h) (Or.inl ⟨by rfl, ?_⟩) ?_ ?_
            rotate_left
            · intro w'
              go_simp
              with_reducible rfl
            rotate_left
            · simp only [Act.put, List.setIfInBounds_toArray, List.set_cons_zero, List.set_cons_succ, i64_w, i32_w]
              rfl
            refine pure_ (i := 3) (N := some 22) (v := ?_) (a' := ?_) #[true, false, false, true, false, false, false, false, false, false, false, false, false, false] rfl rfl (any_of HT_.out (by kernel_rfl)) (fun _ _ _ h => h) (Or.inl ⟨by rfl, ?_⟩) ?_ ?_
            rotate_left
            · intro w'
              go_simp
              with_reducible rfl
            rotate_left
            · simp only [Act.put, List.setIfInBounds_toArray, List.set_cons_zero, List.set_cons_succ, i64_w, i32_w]
              rfl
            refine pure_ (i := 8) (N := some 27) (v := ?_) (a' := ?_) #[true, false, false, true, false, false, false, false, true, false, false, false, false, false] rfl rfl (any_of HT_.out (by kernel_rfl)) (fun _ _ _ h => h) (Or.inl ⟨by rfl, ?_⟩) ?_ ?_
            rotate_left
            · intro w'
              go_simp
              with_reducible rfl
            rotate_left
            · simp only [Act.put, List.setIfInBounds_toArray, List.set_cons_zero, List.set_cons_succ, i64_w, i32_w]
              rfl
            refine take_ (i := 1) (N := some 20) (v := ?_) (a' := ?_) #[true, true, false, true, false, false, false, false, true, false, false, false, false, false] rfl rfl (take_ofW HT_.out HW_.out (by kernel_rfl)) (fun _ _ _ h => h) (Or.inl ⟨by rfl, ?_⟩) hHeld ?_ ?_
            rotate_left
            · rintro w' ⟨s0, s1, s2, s3⟩
              go_simp
              with_reducible rfl
            rotate_left
            · simp only [Act.put, List.setIfInBounds_toArray, List.set_cons_zero, List.set_cons_succ, i64_w, i32_w]
              rfl
            refine take_ (i := 4) (N := some 23) (v := ?_) (a' := ?_) #[true, true, false, true, true, false, false, false, true, false, false, false, false, false] rfl rfl (take_ofW HT_.out HW_.out (by kernel_rfl)) (fun _ _ _ h => h) (Or.inl ⟨by rfl, ?_⟩) hHeld ?_ ?_
            rotate_left
            · rintro w' ⟨s0, s1, s2, s3⟩
              go_simp
              with_reducible rfl
            rotate_left
            · simp only [Act.put, List.setIfInBounds_toArray, List.set_cons_zero, List.set_cons_succ, i64_w, i32_w]
              rfl
            refine pure_ (i := 5) (N := some 24) (v := ?_) (a' := ?_) #[true, true, false, true, true, true, false, false, true, false, false, false, false, false] rfl rfl (any_of HT_.out (by kernel_rfl)) (fun _ _ _ h => h) (Or.inl ⟨by rfl, ?_⟩) ?_ ?_
            rotate_left
            · intro w'
              go_simp
              with_reducible rfl
            rotate_left
            · simp only [Act.put, List.setIfInBounds_toArray, List.set_cons_zero, List.set_cons_succ, i64_w, i32_w]
              rfl
            refine take_ (i := 9) (N := some 28) (v := ?_) (a' := ?_) #[true, true, false, true, true, true, false, false, true, true, false, false, false, false] rfl rfl (take_ofW HT_.out HW_.out (by kernel_rfl)) (fun _ _ _ h => h) (Or.inl ⟨by rfl, ?_⟩) hHeld ?_ ?_
            rotate_left
            · rintro w' ⟨s0, s1, s2, s3⟩
              go_simp
              with_reducible rfl
            rotate_left
            · simp only [Act.put, List.setIfInBounds_toArray, List.set_cons_zero, List.set_cons_succ, i64_w, i32_w]
              rfl
            refine pure_ (i := 10) (N := some 29) (v := ?_) (a' := ?_) #[true, true, false, true, true, true, false, false, true, true, true, false, false, false] rfl rfl (any_of HT_.out (by kernel_rfl)) (fun _ _ _ h => h) (Or.inl ⟨by rfl, ?_⟩) ?_ ?_
            rotate_left
            · intro w'
              go_simp
              with_reducible rfl
            rotate_left
            · simp only [Act.put, List.setIfInBounds_toArray, List.set_cons_zero, List.set_cons_succ, i64_w, i32_w]
              rfl
            refine one_ (i := 2) (N := some 21) #[true, true, true, true, true, true, false, false, true, true, true, false, false, false] rfl rfl (one_of HT_.out (by kernel_rfl)) (by decide) (fun K hK => ?_)
            refine goes_ Tryd.func40 (by kernel_rfl) rfl #[.int .i64 x159000_1, .int .i64 1] (by rfl) rfl rfl (by (try simp only [List.map_toArray, List.map_cons, List.map_nil]); first | done | rfl | (simp only [List.length_drop, List.length_take]; rfl)) ?_
            with_reducible refine (record_low.calls kj1 x159000_1 1 t160 _ A16.out).mono ?_
            rintro e w22 ⟨rfl, hb⟩
            refine ⟨_, rfl, ?_⟩
            have n0_ := Aside0.mk (blk_below (g := gb158) (o := .cells #[.int .i64 x159000_1, .int .i64 x159001_1, .slice A0_2 l0_2.length c0_2, .string x159003_1] 24 (0, 0)) (by (with_reducible repeat (first | refine blk_drewN ?_ _ | refine blk_drew ?_ | refine blk_alloc ?_ _)); exact BK158.out) hb)
            have n1_ := Aside0.mk (below_step (by repeat (first | (with_reducible first | exact HB.out | apply below_alloc | apply pw_below_drewN | apply below_drew1 | refine below_set ?_ GE158.out) | exact HB.out)) hb)
            clear BK158
            clear HB
            have BK158 := n0_
            have HB := n1_
            clear n0_ n1_
            (try clear hb)
            (try clear hb2)
            (try clear hk)
            (try clear hi)
            refine hK.out _ _ ⟨(blk_cell BK158.out 0).trans rfl, (blk_cell BK158.out 1).trans rfl, (blk_cell BK158.out 2).trans rfl, (blk_cell BK158.out 3).trans rfl⟩ (fun hHeld => ?_)
            clear hK K
            refine norm_ (a' := ?_) ?_ ?_
            rotate_left
            · show Act.put _ (some 21) _ = _
              simp only [Act.put, List.setIfInBounds_toArray, List.set_cons_zero, List.set_cons_succ, i64_w, i32_w]
              rfl
            refine one_ (i := 6) (N := some 25) #[true, true, true, true, true, true, true, false, true, true, true, false, false, false] rfl rfl (one_of HT_.out (by kernel_rfl)) (by decide) (fun K hK => ?_)
            refine goes_ Tryd.func40 (by kernel_rfl) rfl #[.int .i64 (wrap64 (x159001_1 + 1)), .int .i64 2] (by rfl) rfl rfl (by (try simp only [List.map_toArray, List.map_cons, List.map_nil]); first | done | rfl | (simp only [List.length_drop, List.length_take]; rfl)) ?_
            with_reducible refine (record_low.calls kj1 (wrap64 (x159001_1 + 1)) 2 t161 _ A17.out).mono ?_
            rintro e w23 ⟨rfl, hb⟩
            refine ⟨_, rfl, ?_⟩
            have n0_ := Aside0.mk (blk_below (g := gb158) (o := .cells #[.int .i64 x159000_1, .int .i64 x159001_1, .slice A0_2 l0_2.length c0_2, .string x159003_1] 24 (0, 0)) (by (with_reducible repeat (first | refine blk_drewN ?_ _ | refine blk_drew ?_ | refine blk_alloc ?_ _)); exact BK158.out) hb)
            have n1_ := Aside0.mk (below_step (by repeat (first | (with_reducible first | exact HB.out | apply below_alloc | apply pw_below_drewN | apply below_drew1 | refine below_set ?_ GE158.out) | exact HB.out)) hb)
            clear BK158
            clear HB
            have BK158 := n0_
            have HB := n1_
            clear n0_ n1_
            (try clear hb)
            (try clear hb2)
            (try clear hk)
            (try clear hi)
            refine hK.out _ _ ⟨(blk_cell BK158.out 0).trans rfl, (blk_cell BK158.out 1).trans rfl, (blk_cell BK158.out 2).trans rfl, (blk_cell BK158.out 3).trans rfl⟩ (fun hHeld => ?_)
            clear hK K
            refine norm_ (a' := ?_) ?_ ?_
            rotate_left
            · show Act.put _ (some 25) _ = _
              simp only [Act.put, List.setIfInBounds_toArray, List.set_cons_zero, List.set_cons_succ, i64_w, i32_w]
              rfl
            refine pure_ (i := 7) (N := some 26) (v := ?_) (a' := ?_) #[true, true, true, true, true, true, true, true, true, true, true, false, false, false] rfl rfl (any_of HT_.out (by kernel_rfl)) (fun _ _ _ h => h) (Or.inl ⟨by rfl, ?_⟩) ?_ ?_
            rotate_left
            · intro w'
              go_simp
              with_reducible rfl
            rotate_left
            · simp only [Act.put, List.setIfInBounds_toArray, List.set_cons_zero, List.set_cons_succ, i64_w, i32_w]
              rfl
            refine one_ (i := 11) (N := some 30) #[true, true, true, true, true, true, true, true, true, true, true, true, false, false] rfl rfl (one_of HT_.out (by kernel_rfl)) (by decide) (fun K hK => ?_)
            refine goes_ Tryd.func40 (by kernel_rfl) rfl #[.int .i64 (l0_2.length : Int), .int .i64 1] (by rfl) rfl rfl (by (try simp only [List.map_toArray, List.map_cons, List.map_nil]); first | done | rfl | (simp only [List.length_drop, List.length_take]; rfl)) ?_
            with_reducible refine (record_low.calls kj1 (l0_2.length : Int) 1 t162 _ A19.out).mono ?_
            rintro e w24 ⟨rfl, hb⟩
            refine ⟨_, rfl, ?_⟩
            have n0_ := Aside0.mk (blk_below (g := gb158) (o := .cells #[.int .i64 x159000_1, .int .i64 x159001_1, .slice A0_2 l0_2.length c0_2, .string x159003_1] 24 (0, 0)) (by (with_reducible repeat (first | refine blk_drewN ?_ _ | refine blk_drew ?_ | refine blk_alloc ?_ _)); exact BK158.out) hb)
            have n1_ := Aside0.mk (below_step (by repeat (first | (with_reducible first | exact HB.out | apply below_alloc | apply pw_below_drewN | apply below_drew1 | refine below_set ?_ GE158.out) | exact HB.out)) hb)
            clear BK158
            clear HB
            have BK158 := n0_
            have HB := n1_
            clear n0_ n1_
            (try clear hb)
            (try clear hb2)
            (try clear hk)
            (try clear hi)
            refine hK.out _ _ ⟨(blk_cell BK158.out 0).trans rfl, (blk_cell BK158.out 1).trans rfl, (blk_cell BK158.out 2).trans rfl, (blk_cell BK158.out 3).trans rfl⟩ (fun hHeld => ?_)
            clear hK K
            refine norm_ (a' := ?_) ?_ ?_
            rotate_left
            · show Act.put _ (some 30) _ = _
              simp only [Act.put, List.setIfInBounds_toArray, List.set_cons_zero, List.set_cons_succ, i64_w, i32_w]
              rfl
            refine pure_ (i := 12) (N := some 31) (v := ?_) (a' := ?_) #[true, true, true, true, true, true, true, true, true, true, true, true, true, false] rfl rfl (any_of HT_.out (by kernel_rfl)) (fun _ _ _ h => h) (Or.inl ⟨by rfl, ?_⟩) ?_ ?_
            rotate_left
            · intro w'
              go_simp
              with_reducible rfl
            rotate_left
            · simp only [Act.put, List.setIfInBounds_toArray, List.set_cons_zero, List.set_cons_succ, i64_w, i32_w]
              rfl
            refine pure_ (i := 13) (N := some 4) (v := ?_) (a' := ?_) #[true, true, true, true, true, true, true, true, true, true, true, true, true, true] rfl rfl (any_of HT_.out (by kernel_rfl)) (fun _ _ _ h => h) (Or.inl ⟨by rfl, ?_⟩) ?_ ?_
            rotate_left
            · intro w'
              go_simp
              with_reducible rfl
            rotate_left
            · simp only [Act.put, List.setIfInBounds_toArray, List.set_cons_zero, List.set_cons_succ, i64_w, i32_w]
              rfl
            refine done_ (done_of HT_.out (by kernel_rfl)) ?_
            have hcz25_0 : w24.cell? ⟨gb158, 0, none⟩ = some (.int .i64 x159000_1) := (blk_cell BK158.out 0).trans rfl
            have hcz25_1 : w24.cell? ⟨gb158, 1, none⟩ = some (.int .i64 x159001_1) := (blk_cell BK158.out 1).trans rfl
            have hcz25_2 : w24.cell? ⟨gb158, 2, none⟩ = some (.slice A0_2 l0_2.length c0_2) := (blk_cell BK158.out 2).trans rfl
            have hcz25_3 : w24.cell? ⟨gb158, 3, none⟩ = some (.string x159003_1) := (blk_cell BK158.out 3).trans rfl
            have hfz25_0 := blk_frozen BK158.out 0
            have hfz25_1 := blk_frozen BK158.out 1
            have hfz25_2 := blk_frozen BK158.out 2
            have hfz25_3 := blk_frozen BK158.out 3
            try go_wp2
            (try simp only [Act.put, List.setIfInBounds_toArray, List.set_cons_zero, List.set_cons_succ])
            go_loopg [4, 35] kj1 (fun kq v4 v35 w' => ∃ (x4_2 : ByteArray) (x35_2 : Int), v4 = .string x4_2 ∧ v35 = .int .i64 x35_2 ∧ Aside0 (record_Put.l0 kq x4_2 l0_2 (l0_2.length : Int) x35_2 x159000_1 x159001_1 l0_2 x159003_1 = some (r1, r2)) ∧ Aside0 (kq ≤ kj1) ∧ Aside0 (w'.heap[gb158]? = some (.cells #[.int .i64 x159000_1, .int .i64 x159001_1, (.slice A0_2 l0_2.length c0_2), .string x159003_1] 24 (0, 0))) ∧ Aside0 (Below w.heap.size w w'))
            case atStart => exact ⟨((t160 ++ t161) ++ t162), (0), (by first | rfl | (simp; done) | (simp [*]; done)), (by first | rfl | (simp; done) | (simp [*]; done)), H', ⟨Nat.le_refl _⟩, ⟨by (with_reducible repeat (first | refine blk_drewN ?_ _ | refine blk_drew ?_ | refine blk_alloc ?_ _)); exact BK158.out⟩, ⟨by repeat (first | (with_reducible first | exact HB.out | apply below_alloc | apply pw_below_drewN | apply below_drew1 | refine below_set ?_ GE158.out) | exact HB.out)⟩⟩
            case round =>
              clear H'
              try clear c1
              try clear c2
              try clear p2
              try clear c4
              try clear c5
              try clear c6
              try clear c6b0
              try clear p6
              try clear c15
              try clear c18
              try clear c18b0
              try clear c18b1
              try clear c18b2
              try clear c20
              try clear c20b0
              try clear c20b1
              try clear c20b2
              try clear hcz10_0
              try clear hcz10_1
              try clear hcz10_2
              try clear hcz10_3
              try clear hcz12_0
              try clear hcz12_1
              try clear hcz12_2
              try clear hcz12_3
              try clear hcz13_0
              try clear hcz13_1
              try clear hcz13_2
              try clear hcz13_3
              try clear hcz25_0
              try clear hcz25_1
              try clear hcz25_2
              try clear hcz25_3
              try clear hcz7_0
              try clear hcz7_1
              try clear hcz7_2
              try clear hcz7_3
              try clear hcz9_0
              try clear hcz9_1
              try clear hcz9_2
              try clear hcz9_3
              try clear hfz10_0
              try clear hfz10_1
              try clear hfz10_2
              try clear hfz10_3
              try clear hfz12_0
              try clear hfz12_1
              try clear hfz12_2
              try clear hfz12_3
              try clear hfz13_0
              try clear hfz13_1
              try clear hfz13_2
              try clear hfz13_3
              try clear hfz25_0
              try clear hfz25_1
              try clear hfz25_2
              try clear hfz25_3
              try clear hfz7_0
              try clear hfz7_1
              try clear hfz7_2
              try clear hfz7_3
              try clear hfz9_0
              try clear hfz9_1
              try clear hfz9_2
              try clear hfz9_3
              try clear p2
              obtain ⟨x4_2, x35_2, rfl, rfl, HA, HK2, BK158, HB⟩ := hrel
              cases gk with
              | zero => exact absurd HA.out (by simp [record_Put.l0])
              | succ k2 =>
                have H := HA.out
                clear HA
                simp only [record_Put.l0] at H
                by_cases c26 : x35_2 < (l0_2.length : Int)
                · rw [if_pos c26] at H
                  have c26b0 : decide (x35_2 < (l0_2.length : Int)) = true := decide_eq_true c26
                  clear c26
                  by_cases c27 : 0 ≤ x35_2
                  · rw [if_pos c27] at H
                    have c27b0 : decide (0 ≤ x35_2) = true := decide_eq_true c27
                    clear c27
                    by_cases c28 : x35_2 < (l0_2.length : Int)
                    · rw [if_pos c28] at H
                      have c28b0 : decide (x35_2 < (l0_2.length : Int)) = true := decide_eq_true c28
                      clear c28
                      replace H := Option.bind_eq_some_iff.mp H
                      obtain ⟨t164, A290, H⟩ := H
                      replace H : (if x4_2.size + t164.size ≤ 9223372036854775807 then (record_Put.l0 k2 (x4_2 ++ t164) l0_2 (l0_2.length : Int) (wrap64 (x35_2 + 1)) x159000_1 x159001_1 l0_2 x159003_1) else (none)) = some (r1, r2) := H
                      have A29 := Aside0.mk A290
                      clear A290
                      by_cases c30 : x4_2.size + t164.size ≤ 9223372036854775807
                      · rw [if_pos c30] at H
                        have c30b0 := eq_true c30
                        have c30b1 : decide (x4_2.size + t164.size ≤ 9223372036854775807) = true := decide_eq_true c30
                        try have c30b2 : (9223372036854775807 < x4_2.size + t164.size) = False := eq_false (Nat.not_lt.2 c30)
                        have H' := Aside0.mk H
                        clear H
                        have p163 : 0 ≤ (x35_2 : Int) := of_decide_eq_true (by first | (with_reducible assumption) | assumption)
                        have q163 : x35_2 < (l0_2.length : Int) := of_decide_eq_true (by first | (with_reducible assumption) | assumption)
                        obtain ⟨ad163, e163, hx163_0⟩ := Kd.at_string HR0_2.out x35_2 p163 q163
                        cases e163
                        replace hx163_0 := (HB.out.cell (World.block_lt_of_cell? w _ hx163_0)).trans hx163_0
                        replace p163 := eq_true p163
                        replace q163 := eq_true q163
                        go_wp2_with (first | ((with_reducible refine gate_callee (f := 41) rfl ?_); refine goesL_ (some 41) rfl rfl Tryd.func41 (by kernel_rfl) rfl #[.string (rdOf ByteArray.empty l0_2 x35_2)] rfl (by (try simp only [List.map_toArray, List.map_cons, List.map_nil]); first | done | rfl | (simp only [List.length_drop, List.length_take]; rfl)) ?_; (with_reducible refine (record_text.calls k2 (rdOf ByteArray.empty l0_2 x35_2) t164 _ A29.out).mono ?_); rintro e w31 ⟨rfl, hb⟩; refine ⟨_, rfl, ?_⟩; have n0_ := Aside0.mk (blk_below (g := gb158) (o := .cells #[.int .i64 x159000_1, .int .i64 x159001_1, .slice (some ad163) l0_2.length c0_2, .string x159003_1] 24 (0, 0)) (by (with_reducible repeat (first | refine blk_drewN ?_ _ | refine blk_drew ?_ | refine blk_alloc ?_ _)); exact BK158.out) hb); have n1_ := Aside0.mk (below_step (by repeat (first | (with_reducible first | exact HB.out | apply below_alloc | apply pw_below_drewN | apply below_drew1 | refine below_set ?_ GE158.out) | exact HB.out)) hb); clear BK158; clear HB; have BK158 := n0_; have HB := n1_; clear n0_ n1_; (try clear hb); (try clear hb2); (try clear hk); (try clear hi)))
                        go_roundg k2
                        case measure => have := HJ1.out; have := HK2.out; omega
                        case rel => exact ⟨(x4_2 ++ t164), (wrap64 (x35_2 + 1)), (by first | rfl | (simp; done) | (simp [*]; done)), (by first | rfl | (simp; done) | (simp [*]; done)), H', ⟨by have := HJ1.out; have := HK2.out; omega⟩, ⟨by (with_reducible repeat (first | refine blk_drewN ?_ _ | refine blk_drew ?_ | refine blk_alloc ?_ _)); exact BK158.out⟩, ⟨by repeat (first | (with_reducible first | exact HB.out | apply below_alloc | apply pw_below_drewN | apply below_drew1 | refine below_set ?_ GE158.out) | exact HB.out)⟩⟩
                      · rw [if_neg c30] at H
                        exact absurd H (by simp)
                    · rw [if_neg c28] at H
                      exact absurd H (by simp)
                  · rw [if_neg c27] at H
                    exact absurd H (by simp)
                · rw [if_neg c26] at H
                  have c26b0 : decide (x35_2 < (l0_2.length : Int)) = false := decide_eq_false c26
                  clear c26
                  replace H := Option.bind_eq_some_iff.mp H
                  obtain ⟨t165, A320, H⟩ := H
                  replace H : (if x4_2.size + t165.size ≤ 9223372036854775807 then (some (x4_2 ++ t165, 0)) else (none)) = some (r1, r2) := H
                  have A32 := Aside0.mk A320
                  clear A320
                  by_cases c33 : x4_2.size + t165.size ≤ 9223372036854775807
                  · rw [if_pos c33] at H
                    have c33b0 := eq_true c33
                    have c33b1 : decide (x4_2.size + t165.size ≤ 9223372036854775807) = true := decide_eq_true c33
                    try have c33b2 : (9223372036854775807 < x4_2.size + t165.size) = False := eq_false (Nat.not_lt.2 c33)
                    simp only [Option.some.injEq, Prod.mk.injEq] at H
                    obtain ⟨rfl, rfl⟩ := H
                    have hcz34_0 : wr.cell? ⟨gb158, 0, none⟩ = some (.int .i64 x159000_1) := (blk_cell BK158.out 0).trans rfl
                    have hcz34_1 : wr.cell? ⟨gb158, 1, none⟩ = some (.int .i64 x159001_1) := (blk_cell BK158.out 1).trans rfl
                    have hcz34_2 : wr.cell? ⟨gb158, 2, none⟩ = some (.slice A0_2 l0_2.length c0_2) := (blk_cell BK158.out 2).trans rfl
                    have hcz34_3 : wr.cell? ⟨gb158, 3, none⟩ = some (.string x159003_1) := (blk_cell BK158.out 3).trans rfl
                    have hfz34_0 := blk_frozen BK158.out 0
                    have hfz34_1 := blk_frozen BK158.out 1
                    have hfz34_2 := blk_frozen BK158.out 2
                    have hfz34_3 := blk_frozen BK158.out 3
                    go_wp2_with (first | ((with_reducible refine gate_callee (f := 41) rfl ?_); refine goesL_ (some 47) rfl rfl Tryd.func41 (by kernel_rfl) rfl #[.string x159003_1] rfl (by (try simp only [List.map_toArray, List.map_cons, List.map_nil]); first | done | rfl | (simp only [List.length_drop, List.length_take]; rfl)) ?_; (with_reducible refine (record_text.calls k2 x159003_1 t165 _ A32.out).mono ?_); rintro e w35 ⟨rfl, hb⟩; refine ⟨_, rfl, ?_⟩; have n0_ := Aside0.mk (blk_below (g := gb158) (o := .cells #[.int .i64 x159000_1, .int .i64 x159001_1, .slice A0_2 l0_2.length c0_2, .string x159003_1] 24 (0, 0)) (by (with_reducible repeat (first | refine blk_drewN ?_ _ | refine blk_drew ?_ | refine blk_alloc ?_ _)); exact BK158.out) hb); have n1_ := Aside0.mk (below_step (by repeat (first | (with_reducible first | exact HB.out | apply below_alloc | apply pw_below_drewN | apply below_drew1 | refine below_set ?_ GE158.out) | exact HB.out)) hb); clear BK158; clear HB; have BK158 := n0_; have HB := n1_; clear n0_ n1_; (try clear hb); (try clear hb2); (try clear hk); (try clear hi)))
                    go_ret2
                    exact ⟨by first | rfl | (simp [errW_none, errW_some] <;> rfl) | (simp [*, errW_none, errW_some] <;> rfl), by repeat (first | (with_reducible first | exact HB.out | apply below_alloc | apply pw_below_drewN | apply below_drew1 | refine below_set ?_ GE158.out) | exact HB.out)⟩
                  · rw [if_neg c33] at H
                    exact absurd H (by simp)
          · rw [if_neg c20] at H
            exact absurd H (by simp)
        · rw [if_neg c18] at H
          exact absurd H (by simp)

end Go.Proofs.YtkbaelhcijibiaaDoor.Px

/-
  What the record's writer answers, in closed form.
-/
namespace Go.Proofs.YtkbaelhcijibiaaDoor.Px
open Go.RowKit Go.Proofs.YtkbaelhcijibiaaDoorW.PrintWords Go.Proofs.YtkbaelhcijibiaaDoorW.PrintLast Go.Proofs.YtkbaelhcijibiaaDoorW.PrintMore
set_option linter.unusedVariables false
set_option linter.unusedSimpArgs false

theorem alll_some (args : List ByteArray) (hl : args.length ≤ 1000) : ∀ (m k i : Nat), i + m = args.length → 3110 + m ≤ k →
    ∃ t, term_All.l0 k args (args.length : Int) (i : Int) = some t ∧ (t = true → ∀ s ∈ args.drop i, s.size ≤ 1024)
  | 0, k, i, hi, hk => by
    obtain ⟨k, rfl⟩ : ∃ j, k = j + 1 := ⟨k - 1, by omega⟩
    unfold term_All.l0
    rw [if_neg (by omega)]
    refine ⟨true, rfl, fun _ s hs => ?_⟩
    rw [List.drop_of_length_le (by omega)] at hs
    cases hs
  | m + 1, k, i, hi, hk => by
    obtain ⟨k, rfl⟩ : ∃ j, k = j + 1 := ⟨k - 1, by omega⟩
    unfold term_All.l0
    rw [if_pos (by omega), if_pos (by omega), if_pos (by omega)]
    obtain ⟨t, ht, hts⟩ := may_some k (by omega) (rdOf ByteArray.empty args (i : Int))
    rw [ht]
    simp only [Option.bind_some]
    split
    · rename_i h
      rw [wrap64_of (by omega) (by omega), show (i : Int) + 1 = ((i + 1 : Nat) : Int) by omega]
      obtain ⟨q, hq, hqs⟩ := alll_some args hl m k (i + 1) (by omega) (by omega)
      refine ⟨q, hq, fun hh s hs => ?_⟩
      rw [List.drop_eq_getElem_cons (by omega)] at hs
      rcases List.mem_cons.1 hs with rfl | hs
      · have := hts h
        simpa [rdOf, List.getD_eq_getElem?_getD, List.getElem?_eq_getElem (show i < args.length by omega)] using this
      · exact hqs hh s hs
    · exact ⟨_, rfl, fun h => by cases h⟩

theorem all_some (args : List ByteArray) (hl : args.length ≤ 1000) (k : Nat) (hk : 4200 ≤ k) : ∃ t, term_All.f k args = some t ∧ (t = true → ∀ s ∈ args, s.size ≤ 1024) := by
  obtain ⟨t, h, hs⟩ := alll_some args hl args.length k 0 (by omega) (by omega)
  exact ⟨t, h, by simpa using hs⟩

/-- What the rule of equations holds of a node that it takes. -/
structure Fits (f : Int) (args : List ByteArray) (res : ByteArray) : Prop where
  f0 : 0 ≤ f
  f8 : f < 8
  len : args.length ≤ 3
  args : ∀ s ∈ args, s.size ≤ 1024
  res : res.size ≤ 1024

theorem eqn_some (f p : Int) (args : List ByteArray) (res : ByteArray) : ∃ t, trail_Equation.f f p args res = some t ∧ (t = true → Fits f args res) := by
  unfold trail_Equation.f
  split
  · rename_i h1
    split
    · rename_i h2
      split
      · rename_i h3
        obtain ⟨t, ht, hts⟩ := all_some args (by omega) RR (by decide)
        rw [ht]
        simp only [Option.bind_some]
        split
        · rename_i h4
          obtain ⟨q, hq, hqs⟩ := may_some RR (by decide) res
          exact ⟨q, hq, fun hh => ⟨h1, h2, by omega, hts h4, hqs hh⟩⟩
        · exact ⟨_, rfl, fun h => by cases h⟩
      · exact ⟨_, rfl, fun h => by cases h⟩
    · exact ⟨_, rfl, fun h => by cases h⟩
  · exact ⟨_, rfl, fun h => by cases h⟩

/-- A node that the writer takes. -/
def okNode (f p : Int) (args : List ByteArray) (res : ByteArray) : Bool :=
  (trail_Equation.f f p args res == some true) && (decide (-1 ≤ p) && decide (p < 512))
theorem okNode_fits {f p : Int} {args : List ByteArray} {res : ByteArray} (h : okNode f p args res = true) : trail_Equation.f f p args res = some true ∧ Fits f args res ∧ -1 ≤ p ∧ p < 512 := by
  unfold okNode at h
  simp only [Bool.and_eq_true, beq_iff_eq, decide_eq_true_eq] at h
  obtain ⟨t, ht, hts⟩ := eqn_some f p args res
  rw [h.1] at ht
  exact ⟨h.1, hts (Option.some.inj ht).symm, h.2.1, h.2.2⟩

theorem sz_mk (l : List UInt8) : (⟨l.toArray⟩ : ByteArray).size = l.length := by
  show l.toArray.size = _
  exact List.size_toArray
theorem sz_len (s : ByteArray) : s.data.toList.length = s.size := by cases s; rfl

def b8 (x : Int) : UInt8 := UInt8.ofNat (x % 256).toNat
def low1L (x : Int) : List UInt8 := [b8 x]
def low2L (x : Int) : List UInt8 := [b8 x, b8 (x / 256)]
def textL (s : ByteArray) : List UInt8 := low2L (s.size : Int) ++ s.data.toList
/-- A node's bytes. -/
def encL (f p : Int) (args : List ByteArray) (res : ByteArray) : List UInt8 :=
  low1L f ++ low2L (p + 1) ++ low1L (args.length : Int) ++ args.flatMap textL ++ textL res

theorem low1_is (k : Nat) (hk : 2 ≤ k) (x : Int) : record_low.f k x 1 = some ⟨(low1L x).toArray⟩ := by
  obtain ⟨k, rfl⟩ : ∃ j, k = j + 2 := ⟨k - 2, by omega⟩
  simp [record_low.f, record_low.l0, wrap64, shr, strOfNums, low1L, b8]
theorem low2_is (k : Nat) (hk : 3 ≤ k) (x : Int) : record_low.f k x 2 = some ⟨(low2L x).toArray⟩ := by
  obtain ⟨k, rfl⟩ : ∃ j, k = j + 3 := ⟨k - 3, by omega⟩
  simp [record_low.f, record_low.l0, wrap64, shr, strOfNums, low2L, b8, IntKind.bits]
theorem text_is (k : Nat) (hk : 3 ≤ k) (s : ByteArray) (hs : s.size ≤ 1000000) : record_text.f k s = some ⟨(textL s).toArray⟩ := by
  unfold record_text.f
  rw [low2_is k hk]
  simp only [Option.bind_some]
  rw [if_pos (by rw [sz_mk]; simp only [low2L, List.length_cons, List.length_nil]; omega)]
  congr 1
theorem textL_len (s : ByteArray) : (textL s).length = s.size + 2 := by
  unfold textL
  rw [List.length_append, sz_len]
  simp only [low2L, List.length_cons, List.length_nil]; omega

theorem putl_is (args : List ByteArray) (res : ByteArray) (hargs : ∀ s ∈ args, s.size ≤ 1024) (hres : res.size ≤ 1024) (x y : Int) (z : List ByteArray) (u : ByteArray) (hu : u = res) :
    ∀ (m k i : Nat) (acc : ByteArray), i + m = args.length → args.length ≤ 3 → acc.size + 2000 * m ≤ 100000 → m + 10 ≤ k →
    record_Put.l0 k acc args (args.length : Int) (i : Int) x y z u = some (⟨(acc.data.toList ++ (args.drop i).flatMap textL ++ textL res).toArray⟩, 0)
  | 0, k, i, acc, hi, h3, ha, hk => by
    subst hu
    obtain ⟨k, rfl⟩ : ∃ j, k = j + 1 := ⟨k - 1, by omega⟩
    unfold record_Put.l0
    rw [if_neg (by omega), text_is k (by omega) _ (by omega)]
    simp only [Option.bind_some]
    have := textL_len u
    rw [if_pos (by rw [sz_mk (textL u)]; omega), List.drop_of_length_le (by omega)]
    congr 2
    apply ByteArray.ext
    simp
  | m + 1, k, i, acc, hi, h3, ha, hk => by
    obtain ⟨k, rfl⟩ : ∃ j, k = j + 1 := ⟨k - 1, by omega⟩
    unfold record_Put.l0
    have hg : rdOf ByteArray.empty args (i : Int) = args[i]'(by omega) := by
      simp [rdOf, List.getD_eq_getElem?_getD, List.getElem?_eq_getElem (show i < args.length by omega)]
    have hsz := hargs (args[i]'(by omega)) (List.getElem_mem _)
    have htl := textL_len (args[i]'(by omega))
    rw [if_pos (by omega), if_pos (by omega), if_pos (by omega), hg, text_is k (by omega) _ (by omega)]
    simp only [Option.bind_some]
    have hd : List.drop i args = args[i]'(by omega) :: List.drop (i + 1) args := List.drop_eq_getElem_cons (by omega)
    rw [if_pos (by rw [sz_mk (textL _)]; omega), wrap64_of (by omega) (by omega), show (i : Int) + 1 = ((i + 1 : Nat) : Int) by omega,
      putl_is args res hargs hres x y z u hu m k (i + 1) _ (by omega) h3 (by rw [ByteArray.size_append, sz_mk (textL _)]; omega) (by omega), hd, List.flatMap_cons]
    simp

/-- What the writer answers. -/
theorem put_is (k : Nat) (hk : 100 ≤ k) (f p : Int) (args : List ByteArray) (res : ByteArray) :
    record_Put.f k f p args res = some (if okNode f p args res = true then (⟨(encL f p args res).toArray⟩, 0) else (⟨#[]⟩, 1500)) := by
  have hno : ∀ j, 1 ≤ j → record_Put.j0 j true f p args res = some (⟨#[]⟩, 1500) := by
    intro j hj
    obtain ⟨j, rfl⟩ : ∃ i, j = i + 1 := ⟨j - 1, by omega⟩
    simp only [record_Put.j0, if_pos]
  obtain ⟨t, ht, hts⟩ := eqn_some f p args res
  unfold record_Put.f
  rw [ht]
  simp only [Option.bind_some]
  split
  · rename_i h
    subst h
    have hF := hts rfl
    split
    · rename_i hp
      rw [hno k (by omega), if_neg (by unfold okNode; simp; omega)]
    · rename_i hp
      by_cases h5 : p ≥ 512
      · rw [decide_eq_true h5, hno k (by omega), if_neg (by unfold okNode; simp; omega)]
      · rw [decide_eq_false h5, if_pos (by unfold okNode; rw [ht]; simp; omega)]
        obtain ⟨k, rfl⟩ : ∃ i, k = i + 1 := ⟨k - 1, by omega⟩
        simp only [record_Put.j0]
        have hlen := hF.len
        have hsize : ∀ l : List UInt8, (⟨l.toArray⟩ : ByteArray).size = l.length := sz_mk
        rw [if_neg (by simp), low1_is k (by omega), wrap64_of (by omega) (by omega), low2_is k (by omega), low1_is k (by omega)]
        simp only [Option.bind_some]
        rw [if_pos (by simp [hsize, low1L, low2L]), if_pos (by simp [hsize, low1L, low2L]),
          show (0 : Int) = ((0 : Nat) : Int) from rfl, putl_is args res hF.args hF.res f p args res rfl args.length k 0 _ (by omega) hlen (by simp [hsize, low1L, low2L]; omega) (by omega)]
        simp [encL]
  · rename_i h
    rw [hno k (by omega), if_neg (by unfold okNode; rw [ht]; simp [h])]
end Go.Proofs.YtkbaelhcijibiaaDoor.Px

/- Of each function of this text: a plain Lean function and a proof that the machine's call comes to its answers; printed by this session's program. -/
namespace Go.Proofs.YtkbaelhcijibiaaDoor.Px
open Go.RowKit Go.Proofs.YtkbaelhcijibiaaDoorW.PrintWords Go.Proofs.YtkbaelhcijibiaaDoorW.PrintLast Go.Proofs.YtkbaelhcijibiaaDoorW.PrintMore
attribute [local go_sem] max2_int min2_int max_two min_two max_three min_three max_four min_four   -- for this text's walks alone
set_option linter.unusedVariables false
set_option linter.unusedSimpArgs false

/-- A state of type 74 at block g of W; what its slices lead to came in by w0. -/
def IsS74 (w0 W : World) (g : Nat) (f0 : ByteArray) : Prop := W.heap[g]? = some (.cells #[.string f0] 74 (0, 0)) ∧ w0.heap.size ≤ g
theorem IsS74.grown {w0 W : World} {g : Nat} {f0 : ByteArray} {W1 : World} {row : Option Nat} (h : IsS74 w0 W g f0) (hw : W.grownBy W1 row) (hne : some g ≠ row) : IsS74 w0 W1 g f0 := by
  obtain ⟨hb, hg⟩ := h
  exact ⟨blk_grown hb hw hne, hg⟩
theorem IsS74.own_neN {w0 W : World} {g : Nat} {f0 : ByteArray} {α : Type} {d : Kd α} {e : Nat} {base : Nat} {ok : Nat → Prop} {v : Value} {xs : List α} (h : IsS74 w0 W g f0) (ho : Kd.N d e W base ok v xs) (ht : e ≠ 74) : some g ≠ v.ownBlock := by
  obtain ⟨hb, hg⟩ := h
  exact Kd.N_ne ho hb ht
theorem IsS74.fresh {w0 W : World} {g : Nat} {f0 : ByteArray} (h : IsS74 w0 W g f0) : ∀ k, W.heap.size ≤ k → k ≠ g := by
  obtain ⟨hb, hg⟩ := h
  exact Kd.freshB hb
theorem IsS74.kept {w0 W : World} {g : Nat} {f0 : ByteArray} {W1 : World} {S : Nat → Prop} (h : IsS74 w0 W g f0) (hk : Kept W W1 S) (hne : ¬ S g) : IsS74 w0 W1 g f0 := by
  obtain ⟨hb, hg⟩ := h
  exact ⟨blk_kept hb hk hne, hg⟩
theorem IsS74.below {w0 W : World} {g : Nat} {f0 : ByteArray} {W1 : World} (h : IsS74 w0 W g f0) (hw : Below W.heap.size W W1) : IsS74 w0 W1 g f0 := h.grown (grown_of_below hw none) (by simp)
theorem IsS74.alloc {w0 W : World} {g : Nat} {f0 : ByteArray} (h : IsS74 w0 W g f0) (o : Obj) : IsS74 w0 (W.alloc o) g f0 := h.below (below_alloc (Below.refl _ _) o)
theorem IsS74.drewN {w0 W : World} {g : Nat} {f0 : ByteArray} (h : IsS74 w0 W g f0) (m : Nat) : IsS74 w0 (W.drewN m) g f0 := h
theorem IsS74.drew {w0 W : World} {g : Nat} {f0 : ByteArray} (h : IsS74 w0 W g f0) : IsS74 w0 W.drew g f0 := h
theorem IsS74.at_ {w0 W : World} {g : Nat} {f0 : ByteArray} {w' : World} {m : Nat} (hq : W.drewN m = w') (h : IsS74 w0 W g f0) : IsS74 w0 w' g f0 := by subst hq; exact IsS74.drewN h m
theorem IsS74.apart {w0 W : World} {g : Nat} {f0 : ByteArray} {α : Type} {d : Kd α} {e : Nat} {base : Nat} {ok : Nat → Prop} {v : Value} {xs : List α} (h : IsS74 w0 W g f0) (ho : d.R e W base ok v xs) (ht : ∀ q, q ∈ e :: d.E → q ≠ 74) : d.R e W base (fun k => ok k ∧ k ≠ g) v xs := by
  obtain ⟨hb, hg⟩ := h
  exact Kd.R_types ho hb ht
theorem IsS74.own_ne {w0 W : World} {g : Nat} {f0 : ByteArray} {α : Type} {d : Kd α} {e : Nat} {base : Nat} {ok : Nat → Prop} {v : Value} {xs : List α} (h : IsS74 w0 W g f0) (ho : d.R e W base ok v xs) (ht : e ≠ 74) : some g ≠ v.ownBlock := by
  obtain ⟨hb, hg⟩ := h
  exact Kd.R_ne ho hb ht
theorem IsS74.apartQ {w0 W : World} {g : Nat} {f0 : ByteArray} {α : Type} {d : Kd α} {e : Nat} {base : Nat} {ok : Nat → Prop} {v : Value} {xs : List α} (h : IsS74 w0 W g f0) (ho : d.Q e W base ok v xs) (ht : ∀ q, q ∈ e :: d.E → q ≠ 74) : d.Q e W base (fun k => ok k ∧ k ≠ g) v xs := by
  obtain ⟨hb, hg⟩ := h
  exact Kd.Q_types ho hb ht
theorem IsS74.own_neQ {w0 W : World} {g : Nat} {f0 : ByteArray} {α : Type} {d : Kd α} {e : Nat} {base : Nat} {ok : Nat → Prop} {v : Value} {xs : List α} (h : IsS74 w0 W g f0) (ho : d.Q e W base ok v xs) (ht : e ≠ 74) : some g ≠ v.ownBlock := by
  obtain ⟨hb, hg⟩ := h
  exact Kd.Q_ne ho hb ht
theorem IsS74.apartS {w0 W : World} {g : Nat} {f0 : ByteArray} {α : Type} {d : Kd α} {e : Nat} {base : Nat} {ok : Nat → Prop} {v : Value} {xs : List α} (h : IsS74 w0 W g f0) (ho : d.S e W base ok v xs) (ht : ∀ q, q ∈ e :: d.E → q ≠ 74) : d.S e W base (fun k => ok k ∧ k ≠ g) v xs := by
  obtain ⟨hb, hg⟩ := h
  exact Kd.S_types ho hb ht
theorem IsS74.own_neS {w0 W : World} {g : Nat} {f0 : ByteArray} {α : Type} {d : Kd α} {e : Nat} {base : Nat} {ok : Nat → Prop} {v : Value} {xs : List α} (h : IsS74 w0 W g f0) (ho : d.S e W base ok v xs) (ht : e ≠ 74) : some g ≠ v.ownBlock := by
  obtain ⟨hb, hg⟩ := h
  exact Kd.S_ne ho hb ht
theorem IsS74.lt {w0 W : World} {g : Nat} {f0 : ByteArray} (h : IsS74 w0 W g f0) : g < W.heap.size := by
  obtain ⟨hb, hg⟩ := h
  exact blk_lt hb
theorem IsS74.ge {w0 W : World} {g : Nat} {f0 : ByteArray} (h : IsS74 w0 W g f0) : w0.heap.size ≤ g := by
  obtain ⟨hb, hg⟩ := h
  exact hg
theorem IsS74.ne_blk {w0 W : World} {g : Nat} {f0 : ByteArray} {a : Nat} {cs : Array Value} {t : TypeId} {fr : Nat × Nat} (h : IsS74 w0 W g f0) (hb2 : W.heap[a]? = some (.cells cs t fr)) (ht : t ≠ 74) : g ≠ a := by
  obtain ⟨hb, hg⟩ := h
  rintro rfl
  rw [hb] at hb2
  injection hb2 with hb2
  injection hb2 with _ ht2
  exact ht ht2.symm
theorem IsS74.far {w0 W : World} {g : Nat} {f0 : ByteArray} {p : Addr} (h : IsS74 w0 W g f0) (hne : g ≠ p.block) (u : Value) : IsS74 w0 (W.setCell p u) g f0 := by
  obtain ⟨hb, hg⟩ := h
  exact ⟨blk_far hb hne u, hg⟩
theorem cellS74_0 {W : World} {g : Nat} {f0 : ByteArray} (h : W.heap[g]? = some (.cells #[.string f0] 74 (0, 0))) : W.cell? ⟨g, 0, none⟩ = some (.string f0) := (blk_cell h 0).trans rfl
theorem IsS74.set_0 {w0 W : World} {g : Nat} {f0 : ByteArray} (h : IsS74 w0 W g f0) (x : ByteArray) : IsS74 w0 (W.setCell ⟨g, 0, none⟩ (.string x)) g x := by
  obtain ⟨hb, hg⟩ := h
  exact ⟨by simpa using blk_set hb 0 (.string x), hg⟩
theorem IsS74.new (w0 W : World) (f0 : ByteArray) (hB : Below w0.heap.size w0 W) : IsS74 w0 (W.alloc (.cells #[.string f0] 74)) W.heap.size f0 := ⟨by simpa using heap_alloc_new W _, hB.size⟩

/-! ### record_taker_take: function 74 -/
def record_taker_take.f (s0_0 : ByteArray) (a1 : Int) : Option (ByteArray × ByteArray) := if 0 ≤ (mn a1 (s0_0.size : Int)) then (if (mn a1 (s0_0.size : Int)) ≤ (s0_0.size : Int) then (if 0 ≤ ((s0_0.extract 0 ((mn a1 (s0_0.size : Int)) : Int).toNat).size : Int) then (if ((s0_0.extract 0 ((mn a1 (s0_0.size : Int)) : Int).toNat).size : Int) ≤ (s0_0.size : Int) then (some (s0_0.extract 0 ((mn a1 (s0_0.size : Int)) : Int).toNat, s0_0.extract (((s0_0.extract 0 ((mn a1 (s0_0.size : Int)) : Int).toNat).size : Int) : Int).toNat s0_0.size)) else (none)) else (none)) else (none)) else (none)
set_option maxHeartbeats 8000000 in
set_option maxRecDepth 100000 in
theorem record_taker_take.calls (g : Nat) (s0_0 : ByteArray) (a1 : Int) (r1 : ByteArray) (r2 : ByteArray) (w0 w : World) (hI : IsS74 w0 w g s0_0) (hB : Below w0.heap.size w0 w) (h : record_taker_take.f s0_0 a1 = some (r1, r2)) :
    Calls Tryd.prog 74 #[.pointer (some ⟨g, 0, none⟩), .int .i64 a1] w fun e w' => e = .returned (.string r1) ∧ IsS74 w0 w' g r2 ∧ Below w0.heap.size w0 w' ∧ KeepBut w w' g none := by
  have HI0 := Aside0.mk hI
  have HK := Aside0.mk (KeepBut.refl w g none)
  have HL := Aside0.mk hB.size
  clear hI
  have HW0 := Aside0.mk hB.size
  have HB := Aside0.mk hB
  clear hB
  have H : (if 0 ≤ (mn a1 (s0_0.size : Int)) then (if (mn a1 (s0_0.size : Int)) ≤ (s0_0.size : Int) then (if 0 ≤ ((s0_0.extract 0 ((mn a1 (s0_0.size : Int)) : Int).toNat).size : Int) then (if ((s0_0.extract 0 ((mn a1 (s0_0.size : Int)) : Int).toNat).size : Int) ≤ (s0_0.size : Int) then (some (s0_0.extract 0 ((mn a1 (s0_0.size : Int)) : Int).toNat, s0_0.extract (((s0_0.extract 0 ((mn a1 (s0_0.size : Int)) : Int).toNat).size : Int) : Int).toNat s0_0.size)) else (none)) else (none)) else (none)) else (none)) = some (r1, r2) := h
  clear h
  obtain ⟨ji3, hji3⟩ : ∃ j_ : Int, (mn a1 (s0_0.size : Int)) = j_ := ⟨_, rfl⟩
  replace H : (if 0 ≤ (ji3) then (if (ji3) ≤ (s0_0.size : Int) then (if 0 ≤ ((s0_0.extract 0 ((ji3) : Int).toNat).size : Int) then (if ((s0_0.extract 0 ((ji3) : Int).toNat).size : Int) ≤ (s0_0.size : Int) then (some (s0_0.extract 0 ((ji3) : Int).toNat, s0_0.extract (((s0_0.extract 0 ((ji3) : Int).toNat).size : Int) : Int).toNat s0_0.size)) else (none)) else (none)) else (none)) else (none)) = some (r1, r2) := by first | (rw [hji3] at H; exact H) | (simp only [hji3] at H ⊢; exact H)
  have hji3_ : (if (s0_0.size : Int) < a1 then (s0_0.size : Int) else a1) = ji3 := hji3
  by_cases c4 : 0 ≤ (ji3)
  · rw [if_pos c4] at H
    have c4b0 := eq_true c4
    have c4b1 : decide (0 ≤ (ji3)) = true := decide_eq_true c4
    clear c4
    by_cases c5 : (ji3) ≤ (s0_0.size : Int)
    · rw [if_pos c5] at H
      have c5b0 := eq_true c5
      have c5b1 : decide ((ji3) ≤ (s0_0.size : Int)) = true := decide_eq_true c5
      clear c5
      by_cases c6 : 0 ≤ ((s0_0.extract 0 ((ji3) : Int).toNat).size : Int)
      · rw [if_pos c6] at H
        have c6b0 := eq_true c6
        have c6b1 : decide (0 ≤ ((s0_0.extract 0 ((ji3) : Int).toNat).size : Int)) = true := decide_eq_true c6
        (try simp only [ByteArray.size_extract, Nat.min_self] at c6b0)
        (try simp only [ByteArray.size_extract, Nat.min_self] at c6b1)
        clear c6
        by_cases c7 : ((s0_0.extract 0 ((ji3) : Int).toNat).size : Int) ≤ (s0_0.size : Int)
        · rw [if_pos c7] at H
          have c7b0 := eq_true c7
          have c7b1 : decide (((s0_0.extract 0 ((ji3) : Int).toNat).size : Int) ≤ (s0_0.size : Int)) = true := decide_eq_true c7
          (try simp only [ByteArray.size_extract, Nat.min_self] at c7b0)
          (try simp only [ByteArray.size_extract, Nat.min_self] at c7b1)
          clear c7
          simp only [Option.some.injEq, Prod.mk.injEq] at H
          obtain ⟨rfl, rfl⟩ := H
          obtain ⟨HGz8, hgz8⟩ := HI0.out
          have hcz8_0 := cellS74_0 HGz8
          have hfz8_0 := blk_frozen HGz8 0
          clear HGz8 hgz8
          go_enter Tryd.func74, Tryd.ntmps74
          go_wp2
          repeat (go_quiet (fail); try go_wp2)
          go_ret
          have h0_ : 0 ≤ ji3 := of_eq_true c4b0
          have h1_ : ji3 ≤ (s0_0.size : Int) := of_eq_true c5b0
          rw [show (((s0_0.extract 0 (ji3).toNat).size : Int) : Int).toNat = (max ji3 0).toNat by rw [ByteArray.size_extract]; omega]
          exact ⟨by first | rfl | (simp [errW_none, errW_some] <;> rfl) | (simp only [← hji3]; first | rfl | (simp [errW_none, errW_some] <;> rfl)) | (simp [*, errW_none, errW_some] <;> rfl), by repeat (first | (with_reducible first | exact HI0.out | apply IsS74.alloc | apply IsS74.drewN | apply IsS74.drew | apply IsS74.set_0) | exact HI0.out), by repeat (first | (with_reducible first | exact HB.out | apply below_alloc | apply pw_below_drewN | apply below_drew1 | refine below_set ?_ (IsS74.ge HI0.out)) | exact HB.out), by repeat (first | (with_reducible first | exact HK.out | apply KeepBut.set_ | apply keep_drewN | apply keep_drew | apply keep_alloc) | exact HK.out)⟩
        · rw [if_neg c7] at H
          exact absurd H (by simp)
      · rw [if_neg c6] at H
        exact absurd H (by simp)
    · rw [if_neg c5] at H
      exact absurd H (by simp)
  · rw [if_neg c4] at H
    exact absurd H (by simp)

end Go.Proofs.YtkbaelhcijibiaaDoor.Px

/-
  Of (*record.taker).number, which the print does not take: a plain Lean function, and the proof that the machine's call comes to its answers (numbers of at most two bytes).
-/
namespace Go.Proofs.YtkbaelhcijibiaaDoor.Px
open Go.RowKit Go.Proofs.YtkbaelhcijibiaaDoorW.PrintWords Go.Proofs.YtkbaelhcijibiaaDoorW.PrintLast Go.Proofs.YtkbaelhcijibiaaDoorW.PrintMore
set_option linter.unusedVariables false
set_option linter.unusedSimpArgs false

/-- A number's bytes, the lowest first. -/
def lowNum : List UInt8 → Int
  | [] => 0
  | b :: l => (b.toNat : Int) + 256 * lowNum l
def record_taker_number.f (s0_0 : ByteArray) (a1 : Int) : Option (Int × ByteArray) :=
  if 0 ≤ a1 ∧ a1 ≤ 2 then (record_taker_take.f s0_0 a1).bind fun t => some (lowNum t.1.data.toList, t.2) else none

theorem take_eq (s : ByteArray) (a : Int) (h0 : 0 ≤ a) : record_taker_take.f s a = some (s.extract 0 (min a.toNat s.size), s.extract (min a.toNat s.size) s.size) := by
  have hm : mn a (s.size : Int) = ((min a.toNat s.size : Nat) : Int) := by unfold mn; split <;> omega
  have hx : (s.extract 0 (min a.toNat s.size)).size = min a.toNat s.size := by rw [ByteArray.size_extract]; omega
  unfold record_taker_take.f
  rw [hm, Int.toNat_natCast, hx, Int.toNat_natCast, if_pos (by omega), if_pos (by omega), if_pos (by omega), if_pos (by omega)]
theorem bsize (t : ByteArray) : t.size = t.data.toList.length := by rw [Array.length_toList]; rfl
theorem wraps_i64 (n : Int) (h₀ : 0 ≤ n) (h₁ : n < 2 ^ 63) : IntKind.i64.wrap n = n := by rw [IntKind.wrap_i64]; omega
theorem or_first (a : UInt8) : bits .or .i64 0 (wrap64 (wrap64 (a.toNat : Int))) = a.toNat := by
  have ha := a.toNat_lt
  rw [show wrap64 (wrap64 (a.toNat : Int)) = (a.toNat : Int) by unfold wrap64; omega]
  exact (bits_nat .i64 63 (by decide) wraps_i64 0 a.toNat (by decide) (by omega)).2.trans (by simp)
theorem or_next (a b : UInt8) : bits .or .i64 (a.toNat : Int) (wrap64 (wrap64 (b.toNat : Int) * 256)) = a.toNat + 256 * b.toNat := by
  have ha := a.toNat_lt
  have hb := b.toNat_lt
  rw [show wrap64 (wrap64 (b.toNat : Int) * 256) = ((2 ^ 8 * b.toNat : Nat) : Int) by unfold wrap64; omega]
  rw [(bits_nat .i64 63 (by decide) wraps_i64 a.toNat (2 ^ 8 * b.toNat) (by omega) (by omega)).2, Nat.or_comm, ← Nat.two_pow_add_eq_or_of_lt (show a.toNat < 2 ^ 8 by omega)]
  omega
set_option maxHeartbeats 2000000 in
theorem record_taker_number.calls (g : Nat) (s0_0 : ByteArray) (a1 : Int) (r1 : Int) (r2 : ByteArray) (w0 w : World) (hI : IsS74 w0 w g s0_0) (hB : Below w0.heap.size w0 w) (h : record_taker_number.f s0_0 a1 = some (r1, r2)) :
    Calls Tryd.prog 46 #[.pointer (some ⟨g, 0, none⟩), .int .i64 a1] w fun e w' => e = .returned (.int .i64 r1) ∧ IsS74 w0 w' g r2 ∧ Below w0.heap.size w0 w' ∧ KeepBut w w' g none := by
  unfold record_taker_number.f at h
  split at h
  · rename_i hb
    obtain ⟨⟨t, u⟩, ht, h⟩ := Option.bind_eq_some_iff.1 h
    obtain ⟨rfl, rfl⟩ := Prod.mk.inj (Option.some.inj h)
    have hsz : t.size ≤ 2 := by
      rw [take_eq _ _ hb.1] at ht
      obtain ⟨rfl, _⟩ := Prod.mk.inj (Option.some.inj ht)
      rw [ByteArray.size_extract]; omega
    clear h hb
    simp only at hsz ⊢
    have HT := Lib.hid ht
    have HI := Lib.hid hI
    have HB := Lib.hid hB
    clear ht hI hB
    have hconv := fun W => Lib.run_convert_string_bytes (P := Tryd.prog) W 9 89 5 t Tryd.underlying9 Tryd.underlying89 Tryd.underlying5
    go_enter Tryd.func46, Tryd.ntmps46
    go_wp2_with (go_at_call 74; refine (record_taker_take.calls g s0_0 a1 t u w0 _ HI.out HB.out HT.out).mono ?_; rintro e w1 ⟨rfl, hi, hb, hk⟩; have HI1 := Lib.hid hi; have HB1 := Lib.hid hb; have HK1 := Lib.hid hk; clear hi hb hk)
    have hcell := fun j hj => Lib.bytesWorld_cell w1 5 t j hj
    have HB2 := Lib.hid (Lib.bytesWorld_below w1 5 t)
    generalize Lib.bytesWorld w1 5 t = W2 at *
    have HC : Hid (∀ j, j < t.size → W2.cell? ⟨w1.heap.size, j, none⟩ = some (.int .u8 (t.data.toList.getD j 0).toNat)) := Lib.hid hcell
    clear hcell hconv
    go_loop [5, 6, 7, 13] (fun a _ _ i => ∃ k : Nat, k ≤ t.size ∧ i = .int .i64 k ∧ a = .int .i64 (lowNum (t.data.toList.take k))) (fun _ _ _ i => t.size - (intOf i).toNat)
    case atStart => exact ⟨0, Nat.zero_le _, rfl, rfl⟩
    case round =>
      obtain ⟨k, hk, rfl, rfl⟩ := hrel
      by_cases hlt : k < t.size
      · have hc := HC.out k hlt
        rcases (show k = 0 ∨ k = 1 by omega) with rfl | rfl
        · go_wp2
          go_round
          case rel =>
            refine ⟨1, by omega, rfl, ?_⟩
            obtain ⟨a, l, hl⟩ : ∃ a l, t.data.toList = a :: l := by
              cases hd : t.data.toList with
              | nil => have := bsize t; rw [hd, List.length_nil] at this; omega
              | cons a l => exact ⟨a, l, rfl⟩
            have hg : t.data[0]'(by simpa using hlt) = a := by rw [← Array.getElem_toList]; simp [hl]
            rw [hg, hl]
            simp only [List.take_succ_cons, List.take_zero, lowNum, Int.mul_zero, Int.add_zero]
            rw [or_first]
          case measure => simp [intOf]; omega
        · go_wp2
          go_round
          case rel =>
            refine ⟨2, by omega, rfl, ?_⟩
            obtain ⟨a, b, l, hl⟩ : ∃ a b l, t.data.toList = a :: b :: l := by
              have hs := bsize t
              match hd : t.data.toList with
              | [] => rw [hd, List.length_nil] at hs; omega
              | [a] => rw [hd, List.length_singleton] at hs; omega
              | a :: b :: l => exact ⟨a, b, l, rfl⟩
            have hg : t.data[1]'(by simpa using hlt) = b := by rw [← Array.getElem_toList]; simp [hl]
            rw [hg, hl]
            simp only [List.take_succ_cons, List.take_zero, lowNum, Int.mul_zero, Int.add_zero]
            rw [or_next]
          case measure => simp [intOf]; omega
      · go_wp2
        go_ret
        obtain rfl : k = t.size := by omega
        refine ⟨by rw [List.take_of_length_le (by rw [← bsize]; omega)]; rfl, HI1.out.below HB2.out, HB1.out.trans (HB2.out.mono HB1.out.size), ?_⟩
        exact KeepBut.trans HK1.out (KeepBut.of_below HB2.out g none) (.inl rfl)
  · cases h
end Go.Proofs.YtkbaelhcijibiaaDoor.Px

/- Of each function of this text: a plain Lean function and a proof that the machine's call comes to its answers; printed by this session's program. -/
namespace Go.Proofs.YtkbaelhcijibiaaDoor.Px
open Go.RowKit Go.Proofs.YtkbaelhcijibiaaDoorW.PrintWords Go.Proofs.YtkbaelhcijibiaaDoorW.PrintLast Go.Proofs.YtkbaelhcijibiaaDoorW.PrintMore
attribute [local go_sem] max2_int min2_int max_two min_two max_three min_three max_four min_four   -- for this text's walks alone
set_option linter.unusedVariables false
set_option linter.unusedSimpArgs false

/-! ### record_taker_text: function 47 -/
def record_taker_text.f (s0_0 : ByteArray) : Option (ByteArray × ByteArray) := (record_taker_number.f s0_0 2).bind fun bt288 => ((record_taker_take.f bt288.2 bt288.1).bind fun bt290 => (some (bt290.1, bt290.2)))
set_option maxHeartbeats 8000000 in
set_option maxRecDepth 100000 in
theorem record_taker_text.calls (g : Nat) (s0_0 : ByteArray) (r1 : ByteArray) (r2 : ByteArray) (w0 w : World) (hI : IsS74 w0 w g s0_0) (hB : Below w0.heap.size w0 w) (h : record_taker_text.f s0_0 = some (r1, r2)) :
    Calls Tryd.prog 47 #[.pointer (some ⟨g, 0, none⟩)] w fun e w' => e = .returned (.string r1) ∧ IsS74 w0 w' g r2 ∧ Below w0.heap.size w0 w' ∧ KeepBut w w' g none := by
  have HI0 := Aside0.mk hI
  have HK := Aside0.mk (KeepBut.refl w g none)
  have HL := Aside0.mk hB.size
  clear hI
  have HW0 := Aside0.mk hB.size
  have HB := Aside0.mk hB
  clear hB
  have H : ((record_taker_number.f s0_0 2).bind fun bt288 => ((record_taker_take.f bt288.2 bt288.1).bind fun bt290 => (some (bt290.1, bt290.2)))) = some (r1, r2) := h
  clear h
  replace H := Option.bind_eq_some_iff.mp H
  obtain ⟨⟨t288, t289⟩, A20, H⟩ := H
  replace H : ((record_taker_take.f t289 t288).bind fun bt290 => (some (bt290.1, bt290.2))) = some (r1, r2) := H
  have A2 := Aside0.mk A20
  clear A20
  replace H := Option.bind_eq_some_iff.mp H
  obtain ⟨⟨t290, t291⟩, A30, H⟩ := H
  replace H : (some (t290, t291)) = some (r1, r2) := H
  have A3 := Aside0.mk A30
  clear A30
  simp only [Option.some.injEq, Prod.mk.injEq] at H
  obtain ⟨rfl, rfl⟩ := H
  go_enter Tryd.func47, Tryd.ntmps47
  go_wp2_with (first | ((with_reducible refine gate_callee (f := 46) rfl ?_); refine goesL_ (some 5) rfl rfl Tryd.func46 (by kernel_rfl) rfl #[.pointer (some ⟨g, 0, none⟩), .int .i64 2] rfl (by (try simp only [List.map_toArray, List.map_cons, List.map_nil]); first | done | rfl | (simp only [List.length_drop, List.length_take]; rfl)) ?_; (with_reducible refine (record_taker_number.calls g s0_0 2 t288 t289 w0 _ ?side1 ?side2 A2.out).mono ?_); (case side1 => repeat (first | (with_reducible first | exact HI0.out | apply IsS74.alloc | apply IsS74.drewN | apply IsS74.drew | apply IsS74.set_0) | exact HI0.out)); (case side2 => repeat (first | (with_reducible first | exact HB.out | apply below_alloc | apply pw_below_drewN | apply below_drew1 | refine below_set ?_ (IsS74.ge HI0.out)) | exact HB.out)); rintro e w4 ⟨rfl, hi, hb, hk⟩; refine ⟨_, rfl, ?_⟩; have n0_ := Aside0.mk (KeepBut.trans (by repeat (first | (with_reducible first | exact HK.out | apply KeepBut.set_ | apply keep_drewN | apply keep_drew | apply keep_alloc) | exact HK.out)) hk (.inl rfl)); have n1_ := Aside0.mk (hb); have n2_ := Aside0.mk (hi); clear HK; clear HB; clear HI0; have HK := n0_; have HB := n1_; have HI0 := n2_; clear n0_ n1_ n2_; (try clear hb); (try clear hb2); (try clear hk); (try clear hi)) | ((with_reducible refine gate_callee (f := 74) rfl ?_); refine goesL_ (some 6) rfl rfl Tryd.func74 (by kernel_rfl) rfl #[.pointer (some ⟨g, 0, none⟩), .int .i64 t288] rfl (by (try simp only [List.map_toArray, List.map_cons, List.map_nil]); first | done | rfl | (simp only [List.length_drop, List.length_take]; rfl)) ?_; (with_reducible refine (record_taker_take.calls g t289 t288 t290 t291 w0 _ ?side1 ?side2 A3.out).mono ?_); (case side1 => repeat (first | (with_reducible first | exact HI0.out | apply IsS74.alloc | apply IsS74.drewN | apply IsS74.drew | apply IsS74.set_0) | exact HI0.out)); (case side2 => repeat (first | (with_reducible first | exact HB.out | apply below_alloc | apply pw_below_drewN | apply below_drew1 | refine below_set ?_ (IsS74.ge HI0.out)) | exact HB.out)); rintro e w5 ⟨rfl, hi, hb, hk⟩; refine ⟨_, rfl, ?_⟩; have n0_ := Aside0.mk (KeepBut.trans (by repeat (first | (with_reducible first | exact HK.out | apply KeepBut.set_ | apply keep_drewN | apply keep_drew | apply keep_alloc) | exact HK.out)) hk (.inl rfl)); have n1_ := Aside0.mk (hb); have n2_ := Aside0.mk (hi); clear HK; clear HB; clear HI0; have HK := n0_; have HB := n1_; have HI0 := n2_; clear n0_ n1_ n2_; (try clear hb); (try clear hb2); (try clear hk); (try clear hi)))
  go_ret
  exact ⟨by first | rfl | (simp [errW_none, errW_some] <;> rfl) | (simp [*, errW_none, errW_some] <;> rfl), by repeat (first | (with_reducible first | exact HI0.out | apply IsS74.alloc | apply IsS74.drewN | apply IsS74.drew | apply IsS74.set_0) | exact HI0.out), by repeat (first | (with_reducible first | exact HB.out | apply below_alloc | apply pw_below_drewN | apply below_drew1 | refine below_set ?_ (IsS74.ge HI0.out)) | exact HB.out), by repeat (first | (with_reducible first | exact HK.out | apply KeepBut.set_ | apply keep_drewN | apply keep_drew | apply keep_alloc) | exact HK.out)⟩

end Go.Proofs.YtkbaelhcijibiaaDoor.Px
