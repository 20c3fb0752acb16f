/- Texts of this claim, one behind the other: Pxxsleuthlaw15some, Given6, Known15, Pxxsleuthlaw15RecordUnlike, PureRecordUnlike. -/
import Derived.Test.YtkbaelhcijibiaaDoorRu1
import Derived.Test.YtkbaelhcijibiaaDoorRu2
import Derived.Deep.RegionWith
import Derived.Lib.Hide

/- Of each function of this text: a plain Lean function and a proof that the machine's call comes to its answers; printed by this session's program. -/
namespace Go.Proofs.YtkbaelhcijibiaaDoor.Px
open Go.RowKit Go.Proofs.YtkbaelhcijibiaaDoorW.PrintWords Go.Proofs.YtkbaelhcijibiaaDoorW.PrintLast Go.Proofs.YtkbaelhcijibiaaDoorW.PrintMore
attribute [local go_sem] max2_int min2_int max_two min_two max_three min_three max_four min_four   -- for this text's walks alone
set_option linter.unusedVariables false
set_option linter.unusedSimpArgs false

/-! ### sleuthlaw15_some: function 23 -/
def sleuthlaw15_some.f  : Option ((List (S24))) := some (([(⟨0, (-1), ([] : List ByteArray), (⟨#[57]⟩ : ByteArray)⟩ : S24), (⟨1, 0, (([(⟨#[64, 55, 40, 95, 32, 52, 41]⟩ : ByteArray), (⟨#[53]⟩ : ByteArray)] : List ByteArray)), (⟨#[57]⟩ : ByteArray)⟩ : S24), (⟨2, 0, ([] : List ByteArray), (⟨#[33]⟩ : ByteArray)⟩ : S24), (⟨1, 1, (([(⟨#[49]⟩ : ByteArray), (⟨#[95]⟩ : ByteArray)] : List ByteArray)), (⟨#[95]⟩ : ByteArray)⟩ : S24), (⟨1, 2, (([(⟨#[49]⟩ : ByteArray), (⟨#[95]⟩ : ByteArray)] : List ByteArray)), (⟨#[95]⟩ : ByteArray)⟩ : S24)] : List (S24)))
set_option maxHeartbeats 8000000 in
set_option maxRecDepth 100000 in
theorem sleuthlaw15_some.calls  (r : List (S24)) (w : World) (h : sleuthlaw15_some.f  = some r) :
    Calls Tryd.prog 23 #[] w fun e w' => ∃ v0_ : Value, e = .returned (v0_) ∧ Kd.N k24 24 w' w.heap.size (fun k_ => (w.heap.size ≤ k_)) v0_ r ∧ Below w.heap.size w w' := by
  have hu24 := Tryd.underlying24
  have HB := Aside0.mk (Below.refl w.heap.size w)
  have H : (some (([(⟨0, (-1), ([] : List ByteArray), (⟨#[57]⟩ : ByteArray)⟩ : S24), (⟨1, 0, (([(⟨#[64, 55, 40, 95, 32, 52, 41]⟩ : ByteArray), (⟨#[53]⟩ : ByteArray)] : List ByteArray)), (⟨#[57]⟩ : ByteArray)⟩ : S24), (⟨2, 0, ([] : List ByteArray), (⟨#[33]⟩ : ByteArray)⟩ : S24), (⟨1, 1, (([(⟨#[49]⟩ : ByteArray), (⟨#[95]⟩ : ByteArray)] : List ByteArray)), (⟨#[95]⟩ : ByteArray)⟩ : S24), (⟨1, 2, (([(⟨#[49]⟩ : ByteArray), (⟨#[95]⟩ : ByteArray)] : List ByteArray)), (⟨#[95]⟩ : ByteArray)⟩ : S24)] : List (S24)))) = some r := h
  clear h
  obtain ⟨y344, hy344⟩ : ∃ y_ : List ByteArray, y_ = (([(⟨#[64, 55, 40, 95, 32, 52, 41]⟩ : ByteArray), (⟨#[53]⟩ : ByteArray)] : List ByteArray)) := ⟨_, rfl⟩
  replace H : (some (([(⟨0, (-1), ([] : List ByteArray), (⟨#[57]⟩ : ByteArray)⟩ : S24), (⟨1, 0, y344, (⟨#[57]⟩ : ByteArray)⟩ : S24), (⟨2, 0, ([] : List ByteArray), (⟨#[33]⟩ : ByteArray)⟩ : S24), (⟨1, 1, (([(⟨#[49]⟩ : ByteArray), (⟨#[95]⟩ : ByteArray)] : List ByteArray)), (⟨#[95]⟩ : ByteArray)⟩ : S24), (⟨1, 2, (([(⟨#[49]⟩ : ByteArray), (⟨#[95]⟩ : ByteArray)] : List ByteArray)), (⟨#[95]⟩ : ByteArray)⟩ : S24)] : List (S24)))) = some r := by first | (rw [hy344]; with_reducible exact H) | (have H2_ := (Option.bind_some _ _).symm.trans H; rw [hy344]; with_reducible exact H2_) | (have H2_ := (Option.bind_some _ _).symm.trans H; with_reducible exact H2_) | with_reducible exact H | (rw [hy344]; exact H) | exact H
  have Ny344 := Aside0.mk hy344
  clear hy344
  obtain ⟨y347, hy347⟩ : ∃ y_ : List ByteArray, y_ = (([(⟨#[49]⟩ : ByteArray), (⟨#[95]⟩ : ByteArray)] : List ByteArray)) := ⟨_, rfl⟩
  replace H : (some (([(⟨0, (-1), ([] : List ByteArray), (⟨#[57]⟩ : ByteArray)⟩ : S24), (⟨1, 0, y344, (⟨#[57]⟩ : ByteArray)⟩ : S24), (⟨2, 0, ([] : List ByteArray), (⟨#[33]⟩ : ByteArray)⟩ : S24), (⟨1, 1, y347, (⟨#[95]⟩ : ByteArray)⟩ : S24), (⟨1, 2, (([(⟨#[49]⟩ : ByteArray), (⟨#[95]⟩ : ByteArray)] : List ByteArray)), (⟨#[95]⟩ : ByteArray)⟩ : S24)] : List (S24)))) = some r := by first | (rw [hy347]; with_reducible exact H) | (have H2_ := (Option.bind_some _ _).symm.trans H; rw [hy347]; with_reducible exact H2_) | (have H2_ := (Option.bind_some _ _).symm.trans H; with_reducible exact H2_) | with_reducible exact H | (rw [hy347]; exact H) | exact H
  have Ny347 := Aside0.mk hy347
  clear hy347
  obtain ⟨y350, hy350⟩ : ∃ y_ : List ByteArray, y_ = (([(⟨#[49]⟩ : ByteArray), (⟨#[95]⟩ : ByteArray)] : List ByteArray)) := ⟨_, rfl⟩
  replace H : (some (([(⟨0, (-1), ([] : List ByteArray), (⟨#[57]⟩ : ByteArray)⟩ : S24), (⟨1, 0, y344, (⟨#[57]⟩ : ByteArray)⟩ : S24), (⟨2, 0, ([] : List ByteArray), (⟨#[33]⟩ : ByteArray)⟩ : S24), (⟨1, 1, y347, (⟨#[95]⟩ : ByteArray)⟩ : S24), (⟨1, 2, y350, (⟨#[95]⟩ : ByteArray)⟩ : S24)] : List (S24)))) = some r := by first | (rw [hy350]; with_reducible exact H) | (have H2_ := (Option.bind_some _ _).symm.trans H; rw [hy350]; with_reducible exact H2_) | (have H2_ := (Option.bind_some _ _).symm.trans H; with_reducible exact H2_) | with_reducible exact H | (rw [hy350]; exact H) | exact H
  have Ny350 := Aside0.mk hy350
  clear hy350
  obtain ⟨y353, hy353⟩ : ∃ y_ : List (S24), y_ = (([(⟨0, (-1), ([] : List ByteArray), (⟨#[57]⟩ : ByteArray)⟩ : S24), (⟨1, 0, y344, (⟨#[57]⟩ : ByteArray)⟩ : S24), (⟨2, 0, ([] : List ByteArray), (⟨#[33]⟩ : ByteArray)⟩ : S24), (⟨1, 1, y347, (⟨#[95]⟩ : ByteArray)⟩ : S24), (⟨1, 2, y350, (⟨#[95]⟩ : ByteArray)⟩ : S24)] : List (S24))) := ⟨_, rfl⟩
  replace H : (some y353) = some r := by first | (rw [hy353]; with_reducible exact H) | (have H2_ := (Option.bind_some _ _).symm.trans H; rw [hy353]; with_reducible exact H2_) | (have H2_ := (Option.bind_some _ _).symm.trans H; with_reducible exact H2_) | with_reducible exact H | (rw [hy353]; exact H) | exact H
  have Ny353 := Aside0.mk hy353
  clear hy353
  obtain rfl := Option.some.inj H
  go_enter Tryd.func23, Tryd.ntmps23
  go_wp2_with (first | ((with_reducible refine gate_dst (N := 2) rfl ?_); refine Kd.R_lit Kd.string _ 9 ?hg (N := 2) ?hd (xs := ([(⟨#[64, 55, 40, 95, 32, 52, 41]⟩ : ByteArray), (⟨#[53]⟩ : ByteArray)] : List ByteArray)) (inner := [.string (⟨#[64, 55, 40, 95, 32, 52, 41]⟩ : ByteArray), .string (⟨#[53]⟩ : ByteArray)]) (ok := fun _ => True) (okp := fun _ => True) ?hr ?hp (fun _ hk => hk) trivial (Below.refl _ _) (Nat.le_refl _) (by simp) ?_; (case hd => rfl); (case hg => rfl); (case hr => first | (go_simp; done) | (go_simp; rfl)); (case hp => exact (Reps.one (show Kd.M Kd.string _ _ _ (⟨#[64, 55, 40, 95, 32, 52, 41]⟩ : ByteArray) [.string (⟨#[64, 55, 40, 95, 32, 52, 41]⟩ : ByteArray)] from rfl) (Reps.one (show Kd.M Kd.string _ _ _ (⟨#[53]⟩ : ByteArray) [.string (⟨#[53]⟩ : ByteArray)] from rfl) (Reps.none _ _)))); intro v345 w1 ho2 hb hg_ hnew_; clear hg_ hnew_; (first | rw [← Ny344.out] at ho2 | (simp only [Int.reduceToNat] at ho2; rw [← Ny344.out] at ho2)); have n0_ := Aside0.mk (Kd.R_lower (Kd.R_newM (M := fun k_ => (w.heap.size ≤ k_)) ho2 (below_size (by repeat (first | (with_reducible first | exact HB.out | apply below_alloc | apply pw_below_drewN | apply below_drew1) | exact HB.out))) (fun k_ h_ => h_)) (below_size (by repeat (first | (with_reducible first | exact HB.out | apply below_alloc | apply pw_below_drewN | apply below_drew1) | exact HB.out)))); have n1_ := Aside0.mk (below_step (by repeat (first | (with_reducible first | exact HB.out | apply below_alloc | apply pw_below_drewN | apply below_drew1) | exact HB.out)) hb); clear HB; have HO346 := n0_; have HB := n1_; clear n0_ n1_; clear hb ho2; obtain ⟨Ao3, co3, eo3⟩ := Kd.R_slice HO346.out; subst eo3) | ((with_reducible refine gate_dst (N := 5) rfl ?_); refine Kd.R_lit Kd.string _ 9 ?hg (N := 5) ?hd (xs := ([(⟨#[49]⟩ : ByteArray), (⟨#[95]⟩ : ByteArray)] : List ByteArray)) (inner := [.string (⟨#[49]⟩ : ByteArray), .string (⟨#[95]⟩ : ByteArray)]) (ok := fun _ => True) (okp := fun _ => True) ?hr ?hp (fun _ hk => hk) trivial (Below.refl _ _) (Nat.le_refl _) (by simp) ?_; (case hd => rfl); (case hg => rfl); (case hr => first | (go_simp; done) | (go_simp; rfl)); (case hp => exact (Reps.one (show Kd.M Kd.string _ _ _ (⟨#[49]⟩ : ByteArray) [.string (⟨#[49]⟩ : ByteArray)] from rfl) (Reps.one (show Kd.M Kd.string _ _ _ (⟨#[95]⟩ : ByteArray) [.string (⟨#[95]⟩ : ByteArray)] from rfl) (Reps.none _ _)))); intro v348 w4 ho5 hb hg_ hnew_; clear hg_ hnew_; (first | rw [← Ny347.out] at ho5 | (simp only [Int.reduceToNat] at ho5; rw [← Ny347.out] at ho5)); have n0_ := Aside0.mk (Kd.R_elder' (by (with_reducible repeat (first | apply Kd.R_alloc | apply Kd.R_drewN | apply Kd.R_drew)); exact HO346.out) (Kd.R_base ho5) hb); have n1_ := Aside0.mk (Kd.R_lower (Kd.R_new' (Kd.R_newM (M := fun k_ => (w.heap.size ≤ k_)) ho5 (below_size (by repeat (first | (with_reducible first | exact HB.out | apply below_alloc | apply pw_below_drewN | apply below_drew1) | exact HB.out))) (fun k_ h_ => h_)) (Kd.R_lt (by (with_reducible repeat (first | apply Kd.R_alloc | apply Kd.R_drewN | apply Kd.R_drew)); exact HO346.out))) (below_size (by repeat (first | (with_reducible first | exact HB.out | apply below_alloc | apply pw_below_drewN | apply below_drew1) | exact HB.out)))); have n2_ := Aside0.mk (below_step (by repeat (first | (with_reducible first | exact HB.out | apply below_alloc | apply pw_below_drewN | apply below_drew1) | exact HB.out)) hb); clear HO346; clear HB; have HO346 := n0_; have HO349 := n1_; have HB := n2_; clear n0_ n1_ n2_; clear hb ho5; obtain ⟨Ao6, co6, eo6⟩ := Kd.R_slice HO349.out; subst eo6) | ((with_reducible refine gate_dst (N := 7) rfl ?_); refine Kd.R_lit Kd.string _ 9 ?hg (N := 7) ?hd (xs := ([(⟨#[49]⟩ : ByteArray), (⟨#[95]⟩ : ByteArray)] : List ByteArray)) (inner := [.string (⟨#[49]⟩ : ByteArray), .string (⟨#[95]⟩ : ByteArray)]) (ok := fun _ => True) (okp := fun _ => True) ?hr ?hp (fun _ hk => hk) trivial (Below.refl _ _) (Nat.le_refl _) (by simp) ?_; (case hd => rfl); (case hg => rfl); (case hr => first | (go_simp; done) | (go_simp; rfl)); (case hp => exact (Reps.one (show Kd.M Kd.string _ _ _ (⟨#[49]⟩ : ByteArray) [.string (⟨#[49]⟩ : ByteArray)] from rfl) (Reps.one (show Kd.M Kd.string _ _ _ (⟨#[95]⟩ : ByteArray) [.string (⟨#[95]⟩ : ByteArray)] from rfl) (Reps.none _ _)))); intro v351 w7 ho8 hb hg_ hnew_; clear hg_ hnew_; (first | rw [← Ny350.out] at ho8 | (simp only [Int.reduceToNat] at ho8; rw [← Ny350.out] at ho8)); have n0_ := Aside0.mk (Kd.R_elder' (by (with_reducible repeat (first | apply Kd.R_alloc | apply Kd.R_drewN | apply Kd.R_drew)); exact HO346.out) (Kd.R_base ho8) hb); have n1_ := Aside0.mk (Kd.R_elder' (by (with_reducible repeat (first | apply Kd.R_alloc | apply Kd.R_drewN | apply Kd.R_drew)); exact HO349.out) (Kd.R_base ho8) hb); have n2_ := Aside0.mk (Kd.R_lower (Kd.R_new' (Kd.R_new' (Kd.R_newM (M := fun k_ => (w.heap.size ≤ k_)) ho8 (below_size (by repeat (first | (with_reducible first | exact HB.out | apply below_alloc | apply pw_below_drewN | apply below_drew1) | exact HB.out))) (fun k_ h_ => h_)) (Kd.R_lt (by (with_reducible repeat (first | apply Kd.R_alloc | apply Kd.R_drewN | apply Kd.R_drew)); exact HO346.out))) (Kd.R_lt (by (with_reducible repeat (first | apply Kd.R_alloc | apply Kd.R_drewN | apply Kd.R_drew)); exact HO349.out))) (below_size (by repeat (first | (with_reducible first | exact HB.out | apply below_alloc | apply pw_below_drewN | apply below_drew1) | exact HB.out)))); have n3_ := Aside0.mk (below_step (by repeat (first | (with_reducible first | exact HB.out | apply below_alloc | apply pw_below_drewN | apply below_drew1) | exact HB.out)) hb); clear HO346; clear HO349; clear HB; have HO346 := n0_; have HO349 := n1_; have HO352 := n2_; have HB := n3_; clear n0_ n1_ n2_ n3_; clear hb ho8; obtain ⟨Ao9, co9, eo9⟩ := Kd.R_slice HO352.out; subst eo9) | ((with_reducible refine gate_dst (N := 9) rfl ?_); refine Kd.N_lit k24 _ 24 ?hg (N' := 9) ?hd (xs := ([(⟨0, (-1), ([] : List ByteArray), (⟨#[57]⟩ : ByteArray)⟩ : S24), (⟨1, 0, y344, (⟨#[57]⟩ : ByteArray)⟩ : S24), (⟨2, 0, ([] : List ByteArray), (⟨#[33]⟩ : ByteArray)⟩ : S24), (⟨1, 1, y347, (⟨#[95]⟩ : ByteArray)⟩ : S24), (⟨1, 2, y350, (⟨#[95]⟩ : ByteArray)⟩ : S24)] : List (S24))) (inner := [.int .i64 0, .int .i64 (-1), .slice none 0 0, .string (⟨#[57]⟩ : ByteArray), .int .i64 1, .int .i64 0, .slice Ao3 y344.length co3, .string (⟨#[57]⟩ : ByteArray), .int .i64 2, .int .i64 0, .slice none 0 0, .string (⟨#[33]⟩ : ByteArray), .int .i64 1, .int .i64 1, .slice Ao6 y347.length co6, .string (⟨#[95]⟩ : ByteArray), .int .i64 1, .int .i64 2, .slice Ao9 y350.length co9, .string (⟨#[95]⟩ : ByteArray)]) (ok := (fun k_ => (w.heap.size ≤ k_))) (okp := (fun k_ => (w.heap.size ≤ k_))) ?hr ?hp (fun _ hk => hk) ((show ∀ k_, w7.heap.size ≤ k_ → (fun k_ => (w.heap.size ≤ k_)) k_ from fun k_ hk => (Nat.le_trans (below_size (by repeat (first | (with_reducible first | exact HB.out | apply below_alloc | apply pw_below_drewN | apply below_drew1) | exact HB.out))) hk)) _ (Nat.le_refl _)) (Below.refl _ _) (Nat.le_refl _) (by simp) ?_; (case hd => rfl); (case hg => rfl); (case hr => first | (go_simp; done) | (go_simp; rfl)); (case hp => exact (Reps.c4 (show Kd.FK k24 _ _ (⟨0, (-1), ([] : List ByteArray), (⟨#[57]⟩ : ByteArray)⟩ : S24) [.int .i64 0, .int .i64 (-1), .slice none 0 0, .string (⟨#[57]⟩ : ByteArray)] from (k24_mkF _ _ (⟨0, (-1), ([] : List ByteArray), (⟨#[57]⟩ : ByteArray)⟩ : S24) (Nat.le_refl _) (Kd.F_nil _ _ _))) (Reps.c4 (show Kd.FK k24 _ _ (⟨1, 0, y344, (⟨#[57]⟩ : ByteArray)⟩ : S24) [.int .i64 1, .int .i64 0, .slice Ao3 y344.length co3, .string (⟨#[57]⟩ : ByteArray)] from (k24_mkF _ _ (⟨1, 0, y344, (⟨#[57]⟩ : ByteArray)⟩ : S24) (Kd.R_reads' (Kd.R_mono (ok' := (fun k_ => (w.heap.size ≤ k_))) (HO346.out) (fun k_ hk => hk.1.1.1))).2.1 (Kd.R_F (Kd.R_mono (ok' := (fun k_ => (w.heap.size ≤ k_))) (HO346.out) (fun k_ hk => hk.1.1.1))))) (Reps.c4 (show Kd.FK k24 _ _ (⟨2, 0, ([] : List ByteArray), (⟨#[33]⟩ : ByteArray)⟩ : S24) [.int .i64 2, .int .i64 0, .slice none 0 0, .string (⟨#[33]⟩ : ByteArray)] from (k24_mkF _ _ (⟨2, 0, ([] : List ByteArray), (⟨#[33]⟩ : ByteArray)⟩ : S24) (Nat.le_refl _) (Kd.F_nil _ _ _))) (Reps.c4 (show Kd.FK k24 _ _ (⟨1, 1, y347, (⟨#[95]⟩ : ByteArray)⟩ : S24) [.int .i64 1, .int .i64 1, .slice Ao6 y347.length co6, .string (⟨#[95]⟩ : ByteArray)] from (k24_mkF _ _ (⟨1, 1, y347, (⟨#[95]⟩ : ByteArray)⟩ : S24) (Kd.R_reads' (Kd.R_mono (ok' := (fun k_ => (w.heap.size ≤ k_))) (HO349.out) (fun k_ hk => hk.1.1.1))).2.1 (Kd.R_F (Kd.R_mono (ok' := (fun k_ => (w.heap.size ≤ k_))) (HO349.out) (fun k_ hk => hk.1.1.1))))) (Reps.c4 (show Kd.FK k24 _ _ (⟨1, 2, y350, (⟨#[95]⟩ : ByteArray)⟩ : S24) [.int .i64 1, .int .i64 2, .slice Ao9 y350.length co9, .string (⟨#[95]⟩ : ByteArray)] from (k24_mkF _ _ (⟨1, 2, y350, (⟨#[95]⟩ : ByteArray)⟩ : S24) (Kd.R_reads' (Kd.R_mono (ok' := (fun k_ => (w.heap.size ≤ k_))) (HO352.out) (fun k_ hk => hk.1.1.1))).2.1 (Kd.R_F (Kd.R_mono (ok' := (fun k_ => (w.heap.size ≤ k_))) (HO352.out) (fun k_ hk => hk.1.1.1))))) (Reps.none _ _))))))); intro v354 w10 ho11 hb hg_ hnew_; clear hg_ hnew_; (first | rw [← Ny353.out] at ho11 | (simp only [Int.reduceToNat] at ho11; rw [← Ny353.out] at ho11)); have n0_ := Aside0.mk (Kd.N_lower ho11 (below_size (by repeat (first | (with_reducible first | exact HB.out | apply below_alloc | apply pw_below_drewN | apply below_drew1) | exact HB.out)))); have n1_ := Aside0.mk (below_step (by repeat (first | (with_reducible first | exact HB.out | apply below_alloc | apply pw_below_drewN | apply below_drew1) | exact HB.out)) hb); clear HB; clear HO346; clear HO349; clear HO352; have HO355 := n0_; have HB := n1_; clear n0_ n1_; clear hb ho11))
  go_ret
  exact ⟨_, by first | rfl | (simp [errW_none, errW_some] <;> rfl) | (simp [*, errW_none, errW_some] <;> rfl), by (with_reducible repeat (first | apply Kd.N_alloc | apply Kd.N_drewN | apply Kd.N_drew)); exact HO355.out, by repeat (first | (with_reducible first | exact HB.out | apply below_alloc | apply pw_below_drewN | apply below_drew1) | exact HB.out)⟩

end Go.Proofs.YtkbaelhcijibiaaDoor.Px

/-
  sleuthlaw15.awake answers true: by its calls' contracts.
-/
namespace Go.Proofs.YtkbaelhcijibiaaDoor.Px
open Go.RowKit Go.Proofs.YtkbaelhcijibiaaDoorW.PrintWords Go.Proofs.YtkbaelhcijibiaaDoorW.PrintLast Go.Proofs.YtkbaelhcijibiaaDoorW.PrintMore
set_option linter.unusedVariables false
set_option linter.unusedSimpArgs false

def sOne : ByteArray := ⟨#[49]⟩
def sHole : ByteArray := ⟨#[95]⟩
def sRec : ByteArray := ⟨#[1, 2, 0, 2, 1, 0, 49, 1, 0, 95, 1, 0, 95]⟩
theorem some15_at (w : World) : Calls Tryd.prog 23 #[] w fun e w' => ∃ (b : Addr) (c : Nat) (A2 : Option Addr) (c2 : Nat), e = .returned (.slice (some b) 5 c) ∧ Aside0 (Kd.C Kd.string w' A2 2 [sOne, sHole]) ∧ Aside0 (2 ≤ c2) ∧
    w'.cell? ⟨b.block, b.off + 12, none⟩ = some (.int .i64 1) ∧ w'.cell? ⟨b.block, b.off + 12 + 1, none⟩ = some (.int .i64 1) ∧ w'.cell? ⟨b.block, b.off + 12 + 2, none⟩ = some (.slice A2 2 c2) ∧ w'.cell? ⟨b.block, b.off + 12 + 3, none⟩ = some (.string sHole) ∧ Below w.heap.size w w' := by
  refine (sleuthlaw15_some.calls _ w rfl).mono ?_
  rintro e w' ⟨v, rfl, hN, hb⟩
  obtain ⟨A, c, rfl, hl, hC⟩ := Kd.N_reads hN
  obtain ⟨ad, A2, c2, rfl, x0, x1, x2, x3, h2, hc2⟩ := at_T24 hC 3 (by decide) (by decide)
  simp only [show (3 : Int).toNat = 3 from rfl, Nat.reduceMul] at x0 x1 x2 x3
  have hz : ad.add 12 = ⟨ad.block, ad.off + 12, none⟩ := by
    unfold Addr.add
    split <;> simp_all
  rw [hz] at x0 x1 x2 x3
  exact ⟨ad, c, A2, c2, rfl, ⟨hc2⟩, ⟨h2⟩, x0, x1, x2, x3, hb⟩
/-- What is known of the five calls. -/
structure Known15 : Prop where
  put : record_Put.f RR 1 1 [sOne, sHole] sHole = some (sRec, 0)
  get : record_Get.f RR sRec = some (1, 1, [sOne, sHole], sHole, 0)
  put0 : record_Put.f RR 0 0 [] ⟨#[]⟩ = some (⟨#[]⟩, 1500)
  get0 : record_Get.f RR ⟨#[]⟩ = some (0, 0, [], ⟨#[]⟩, 1500)
  same : sleuthlaw0_SameNode.f RR 1 1 [sOne, sHole] sHole 1 1 [sOne, sHole] sHole = some true
theorem put_some (K : Known15) (A2 : Option Addr) (c2 : Nat) (w : World) (hC : Aside0 (Kd.C Kd.string w A2 2 [sOne, sHole])) (hc : Aside0 (2 ≤ c2)) (hL : Laid w) :
    Calls Tryd.prog 15 #[.agg #[.int .i64 1, .int .i64 1, .slice A2 2 c2, .string sHole]] w fun e w' => e = .returned (.tuple #[.string sRec, .int .i64 0]) ∧ Below w.heap.size w w' :=
  record_Put.calls RR 1 1 A2 c2 [sOne, sHole] sHole sRec 0 w hC.out hc.out hL K.put
theorem put_zero (K : Known15) (w : World) (hL : Laid w) :
    Calls Tryd.prog 15 #[.agg #[.int .i64 0, .int .i64 0, .slice none 0 0, .string ⟨#[]⟩]] w fun e w' => e = .returned (.tuple #[.string ⟨#[]⟩, .int .i64 1500]) ∧ Below w.heap.size w w' :=
  record_Put.calls RR 0 0 none 0 [] ⟨#[]⟩ ⟨#[]⟩ 1500 w (Kd.C_nil _ _) (Nat.le_refl _) hL K.put0
theorem get_rec (K : Known15) (w : World) (hL : Laid w) :
    Calls Tryd.prog 17 #[.string sRec] w fun e w' => ∃ (A : Option Addr) (c : Nat), e = .returned (.tuple #[.agg #[.int .i64 1, .int .i64 1, .slice A 2 c, .string sHole], .int .i64 0]) ∧ Aside0 (Kd.C Kd.string w' A 2 [sOne, sHole]) ∧ Aside0 (2 ≤ c) ∧ Below w.heap.size w w' := by
  refine (record_Get.calls RR sRec 1 1 [sOne, sHole] sHole 0 w hL K.get).mono ?_
  rintro e w' ⟨v, rfl, hR, hb⟩
  obtain ⟨A, c, rfl, hl, hC⟩ := Kd.R_reads hR
  exact ⟨A, c, rfl, ⟨hC⟩, ⟨hl⟩, hb⟩
theorem get_none (K : Known15) (w : World) (hL : Laid w) :
    Calls Tryd.prog 17 #[.string ⟨#[]⟩] w fun e w' => ∃ (A : Option Addr) (c : Nat), e = .returned (.tuple #[.agg #[.int .i64 0, .int .i64 0, .slice A 0 c, .string ⟨#[]⟩], .int .i64 1500]) ∧ Below w.heap.size w w' := by
  refine (record_Get.calls RR ⟨#[]⟩ 0 0 [] ⟨#[]⟩ 1500 w hL K.get0).mono ?_
  rintro e w' ⟨v, rfl, hR, hb⟩
  obtain ⟨A, c, rfl, hl, hC⟩ := Kd.R_reads hR
  exact ⟨A, c, rfl, hb⟩
theorem num_is (x : Int) (w : World) : Calls Tryd.prog 19 #[.int .i64 x] w fun e w' => e = .returned (.int .i64 x) ∧ ∃ n, w' = w.drewN n :=
  (sleuthlaw0_Num.calls x x w rfl).mono fun e w' ⟨he, hd⟩ => ⟨he, hd.out⟩
set_option maxHeartbeats 4000000 in
set_option maxRecDepth 100000 in
theorem awake15_walk (K : Known15) (w : World) (hL : Laid w) :
    Calls Tryd.prog 22 #[] w fun e w' => e = .returned (.bool true) ∧ Below w.heap.size w w' := by
  have hu24 := Tryd.underlying24
  have HL := Lib.hid hL
  have HK := Lib.hid K
  clear hL K
  have HB := Lib.hid (Below.refl w.heap.size w)
  go_enter Tryd.func22, Tryd.ntmps22
  go_upto_region 5 with (first
    | (go_at_call 23; refine (some15_at _).mono ?_; rintro e w1 ⟨b, c, A2, c2, rfl, HC, HC2, x0, x1, x2, x3, hb⟩; have n0 := Lib.hid (HB.out.trans (hb.mono HB.out.size)); clear HB hb; have HB := n0; clear n0)
    | (go_at_call 15; (with_reducible refine (put_some HK.out _ _ _ HC HC2 (HL.out.below HB.out)).mono ?_); rintro e w2 ⟨rfl, hb⟩; have n0 := Lib.hid (HB.out.trans (hb.mono HB.out.size)); clear HB hb x0 x1 x2 x3; have HB := n0; clear n0)
    | (go_at_call 15; (with_reducible refine (put_zero HK.out _ (HL.out.below (by exact (HB.out.alloc HB.out.size _)))).mono ?_); rintro e w4 ⟨rfl, hb⟩; have y0 : w4.cell? ⟨w3.heap.size, 0, none⟩ = some (.int .i64 1) := keeps_cell hb (by go_simp); have y1 : w4.cell? ⟨w3.heap.size, 1, none⟩ = some (.int .i64 1) := keeps_cell hb (by go_simp); have y2 : w4.cell? ⟨w3.heap.size, 2, none⟩ = some (.slice A3 2 c3) := keeps_cell hb (by go_simp); have y3 : w4.cell? ⟨w3.heap.size, 3, none⟩ = some (.string sHole) := keeps_cell hb (by go_simp); have n1 : Aside0 (Kd.C Kd.string w4 A3 2 [sOne, sHole]) := ⟨Kd.C_below (Kd.C_alloc HC3.out _) hb⟩; have n0 := Lib.hid ((HB.out.alloc HB.out.size _).trans (hb.mono (by simp; have := HB.out.size; omega))); clear HB hb HC3; have HB := n0; have HC3 := n1; clear n0 n1)
    | (go_at_call 17; (with_reducible refine (get_rec HK.out _ (HL.out.below HB.out)).mono ?_); rintro e w3 ⟨A3, c3, rfl, HC3, HC3', hb⟩; have n0 := Lib.hid (HB.out.trans (hb.mono HB.out.size)); clear HB hb; have HB := n0; clear n0)
    | (go_at_call 17; (with_reducible refine (get_none HK.out _ (HL.out.below HB.out)).mono ?_); rintro e w5 ⟨A5, c5, rfl, hb⟩; have z0 := keeps_cell hb y0; have z1 := keeps_cell hb y1; have z2 := keeps_cell hb y2; have z3 := keeps_cell hb y3; have n1 : Aside0 (Kd.C Kd.string w5 A3 2 [sOne, sHole]) := ⟨Kd.C_below HC3.out hb⟩; have n0 := Lib.hid (HB.out.trans (hb.mono HB.out.size)); clear HB hb HC3 y0 y1 y2 y3; have HB := n0; have HC3 := n1; clear n0 n1))
  have hEq : (sRec.toList == ([1, 2, 0, 2, 1, 0, 49, 1, 0, 95, 1, 0, 95] : List UInt8)) = true := by rw [Lib.toList_data]; rfl
  have n0 := Lib.hid (HB.out.alloc HB.out.size (.cells #[.int .i64 0, .int .i64 0, .slice A5 0 c5, .string ⟨#[]⟩] 24))
  have n1 : Aside0 (Kd.C Kd.string (w5.alloc (.cells #[.int .i64 0, .int .i64 0, .slice A5 0 c5, .string ⟨#[]⟩] 24)) A3 2 [sOne, sHole]) := ⟨Kd.C_alloc HC3.out _⟩
  have y0 := keeps_cell ((Below.refl _ _).alloc (Nat.le_refl _) (.cells #[.int .i64 0, .int .i64 0, .slice A5 0 c5, .string ⟨#[]⟩] 24)) z0
  have y1 := keeps_cell ((Below.refl _ _).alloc (Nat.le_refl _) (.cells #[.int .i64 0, .int .i64 0, .slice A5 0 c5, .string ⟨#[]⟩] 24)) z1
  have y2 := keeps_cell ((Below.refl _ _).alloc (Nat.le_refl _) (.cells #[.int .i64 0, .int .i64 0, .slice A5 0 c5, .string ⟨#[]⟩] 24)) z2
  have y3 := keeps_cell ((Below.refl _ _).alloc (Nat.le_refl _) (.cells #[.int .i64 0, .int .i64 0, .slice A5 0 c5, .string ⟨#[]⟩] 24)) z3
  generalize w5.alloc (.cells #[.int .i64 0, .int .i64 0, .slice A5 0 c5, .string ⟨#[]⟩] 24) = W at *
  clear HB HC3 z0 z1 z2 z3
  have HB := n0
  have HC3 := n1
  clear n0 n1
  generalize w3.heap.size = g at *
  go_region_with (first
    | (go_at_call 19; refine (num_is _ _).mono ?_; rintro e w7 ⟨rfl, nq, rfl⟩)
    | (go_at_call 23; refine (some15_at _).mono ?_; rintro e w8 ⟨b8, c8, A8, c82, rfl, HC8, HC82, x0, x1, x2, x3, hb⟩; have hW := drewN_below W.heap.size W (1 + nq); have hb := hW.trans (hb.mono hW.size); have q0 := keeps_cell hb y0; have q1 := keeps_cell hb y1; have q2 := keeps_cell hb y2; have q3 := keeps_cell hb y3; have n1 : Aside0 (Kd.C Kd.string w8 A3 2 [sOne, sHole]) := ⟨Kd.C_below HC3.out hb⟩; have n0 := Lib.hid (HB.out.trans (hb.mono HB.out.size)); clear HB hb hW HC3 y0 y1 y2 y3; have HB := n0; have HC3 := n1; clear n0 n1)
    | (go_at_call 20; refine (sleuthlaw0_SameNode.calls RR 1 1 A3 c3 [sOne, sHole] sHole 1 1 A8 c82 [sOne, sHole] sHole true _ HC3.out HC3'.out HC8.out HC82.out HK.out.same).mono ?_; rintro e w9 ⟨rfl, hb⟩))
  all_goals
    have HE := Lib.hid (HB.out.trans ((by assumption : Below w8.heap.size w8 w9).mono HB.out.size))
  all_goals first
    | go_wp2
    | skip
  all_goals first
    | go_ret
    | skip
  all_goals first
    | exact ⟨rfl, HE.out⟩
    | exact ⟨rfl, HE.out.trans ((drewN_below _ _ _).mono HE.out.size)⟩
    | skip

end Go.Proofs.YtkbaelhcijibiaaDoor.Px

/-
  sleuthlaw15.awake answers true: what its calls answer, evaluated.
-/
namespace Go.Proofs.YtkbaelhcijibiaaDoor.Px
open Go.RowKit Go.Proofs.YtkbaelhcijibiaaDoorW.PrintWords Go.Proofs.YtkbaelhcijibiaaDoorW.PrintLast Go.Proofs.YtkbaelhcijibiaaDoorW.PrintMore
set_option linter.unusedVariables false
set_option linter.unusedSimpArgs false

theorem ok15 : okNode 1 1 [sOne, sHole] sHole = true := by
  unfold okNode
  rw [show trail_Equation.f 1 1 [sOne, sHole] sHole = some true from by decide +kernel]
  rfl
theorem no15 : okNode 0 0 [] ⟨#[]⟩ = false := by
  unfold okNode
  rw [show trail_Equation.f 0 0 [] ⟨#[]⟩ = some false from by decide +kernel]
  rfl
theorem enc15 : encL 1 1 [sOne, sHole] sHole = [1, 2, 0, 2, 1, 0, 49, 1, 0, 95, 1, 0, 95] := by decide +kernel
theorem rec15 : sRec = mkB (encL 1 1 [sOne, sHole] sHole) := by rw [enc15]; rfl
theorem known15 : Known15 where
  put := by rw [put_is RR (by decide), if_pos ok15, rec15]; rfl
  get := by rw [rec15]; exact get_enc RR (by decide) ok15
  put0 := by rw [put_is RR (by decide), if_neg (by rw [no15]; simp)]
  get0 := by
    have h := get_is RR (by decide) []
    have hn : okNode (gF []) (gP []) (gA []) (gR []) = false := by
      unfold okNode
      rw [show (decide (-1 ≤ gP [])) = true from rfl, show trail_Equation.f (gF []) (gP []) (gA []) (gR []) = some false from by decide +kernel]
      rfl
    rw [gEnd, if_neg (fun q => by rw [hn] at q; cases q.1)] at h
    exact h
  same := by decide +kernel
def sleuthlaw15_awake.f : Option Bool := some true
theorem sleuthlaw15_awake.calls (w : World) (hL : Laid w) (h : sleuthlaw15_awake.f = some true) :
    Calls Tryd.prog 22 #[] w fun e w' => e = .returned (.bool true) ∧ Below w.heap.size w w' := awake15_walk known15 w hL
end Go.Proofs.YtkbaelhcijibiaaDoor.Px

/- Of each function of this text: a plain Lean function and a proof that the machine's call comes to its answers; printed by this session's program. -/
namespace Go.Proofs.YtkbaelhcijibiaaDoor.Px
open Go.RowKit Go.Proofs.YtkbaelhcijibiaaDoorW.PrintWords Go.Proofs.YtkbaelhcijibiaaDoorW.PrintLast Go.Proofs.YtkbaelhcijibiaaDoorW.PrintMore
attribute [local go_sem] max2_int min2_int max_two min_two max_three min_three max_four min_four   -- for this text's walks alone
set_option linter.unusedVariables false
set_option linter.unusedSimpArgs false

/-! ### sleuthlaw15_RecordUnlike: function 5 -/
def sleuthlaw15_RecordUnlike.j0 : Nat → ByteArray → Int → ByteArray → Int → Bool → Int → Int → List ByteArray → ByteArray → Int → Int → List ByteArray → ByteArray → Option (Bool)
  | 0, _, _, _, _, _, _, _, _, _, _, _, _, _ => none
  | k + 1, x5, x6, x7, x8, x29, x366000, x366001, x366002, x366003, x367000, x367001, x367002, x367003 => if x29 = true then ((sleuthlaw0_Num.f x6).bind fun t374 => (if t374 = 0 then ((sleuthlaw0_Num.f x8).bind fun t375 => (if t375 = 0 then (some true) else (some (x7.toList == ([] : List UInt8))))) else (if x5.toList = ([] : List UInt8) then ((sleuthlaw0_Num.f x8).bind fun t376 => (if t376 = 0 then (some true) else (some (x7.toList == ([] : List UInt8))))) else (some false)))) else (if 0 ≤ (mn (x5.size : Int) (x7.size : Int)) then (if (mn (x5.size : Int) (x7.size : Int)) ≤ (x5.size : Int) then (if (mn (x5.size : Int) (x7.size : Int)) ≤ (x7.size : Int) then ((sleuthlaw0_SameNode.f k x366000 x366001 x366002 x366003 x367000 x367001 x367002 x367003).bind fun t377 => (some (((x5.extract 0 ((mn (x5.size : Int) (x7.size : Int)) : Int).toNat).toList == (x7.extract 0 ((mn (x5.size : Int) (x7.size : Int)) : Int).toNat).toList) == t377))) else (none)) else (none)) else (none))
def sleuthlaw15_RecordUnlike.f (k : Nat) (a0_0 : Int) (a0_1 : Int) (l0_2 : List ByteArray) (a0_3 : ByteArray) (a1_0 : Int) (a1_1 : Int) (l1_2 : List ByteArray) (a1_3 : ByteArray) : Option (Bool) := (sleuthlaw15_awake.f).bind fun t367 => (if t367 = true then ((record_Put.f k a0_0 a0_1 l0_2 a0_3).bind fun bt368 => ((record_Put.f k a1_0 a1_1 l1_2 a1_3).bind fun bt370 => ((sleuthlaw0_Num.f bt368.2).bind fun t372 => (if t372 = 0 then ((sleuthlaw0_Num.f bt370.2).bind fun t373 => (sleuthlaw15_RecordUnlike.j0 k bt368.1 bt368.2 bt370.1 bt370.2 (t373 != 0) a0_0 a0_1 l0_2 a0_3 a1_0 a1_1 l1_2 a1_3)) else (sleuthlaw15_RecordUnlike.j0 k bt368.1 bt368.2 bt370.1 bt370.2 true a0_0 a0_1 l0_2 a0_3 a1_0 a1_1 l1_2 a1_3))))) else (some false))
theorem sleuthlaw15_RecordUnlike.mono_l : ∀ k, (∀ y0 y1 y2 y3 y4 y5 y6 y7 y8 y9 y10 y11 y12, LeO (sleuthlaw15_RecordUnlike.j0 k y0 y1 y2 y3 y4 y5 y6 y7 y8 y9 y10 y11 y12) (sleuthlaw15_RecordUnlike.j0 (k + 1) y0 y1 y2 y3 y4 y5 y6 y7 y8 y9 y10 y11 y12))
  | 0 => fun _ _ _ _ _ _ _ _ _ _ _ _ _ r h => by simp [sleuthlaw15_RecordUnlike.j0] at h
  | k + 1 => by
    have ih0 := sleuthlaw15_RecordUnlike.mono_l k
    · intro y0 y1 y2 y3 y4 y5 y6 y7 y8 y9 y10 y11 y12
      unfold sleuthlaw15_RecordUnlike.j0
      repeat' first
      | (with_reducible exact ih0 _ _ _ _ _ _ _ _ _ _ _ _ _)
      | (with_reducible exact record_Put.mono _ _ _ _ _)
      | (with_reducible exact sleuthlaw0_SameNode.mono _ _ _ _ _ _ _ _ _)
      | (with_reducible exact LeO.refl _)
      | (with_reducible exact LeO.none _)
      | (with_reducible refine LeO.ite ?_ ?_)
      | (with_reducible refine LeO.bind ?_ (fun _ => ?_))
      | exact ih0 _ _ _ _ _ _ _ _ _ _ _ _ _
      | exact record_Put.mono _ _ _ _ _
      | exact sleuthlaw0_SameNode.mono _ _ _ _ _ _ _ _ _
      | exact LeO.none _
      | refine LeO.ite ?_ ?_
      | refine LeO.bind ?_ (fun _ => ?_)
theorem sleuthlaw15_RecordUnlike.mono : ∀ a0 a1 a2 a3 a4 a5 a6 a7 k, LeO (sleuthlaw15_RecordUnlike.f k a0 a1 a2 a3 a4 a5 a6 a7) (sleuthlaw15_RecordUnlike.f (k + 1) a0 a1 a2 a3 a4 a5 a6 a7) := by
  intro a0 a1 a2 a3 a4 a5 a6 a7 k
  have ih0 := sleuthlaw15_RecordUnlike.mono_l k
  unfold sleuthlaw15_RecordUnlike.f
  repeat' first
      | (with_reducible exact ih0 _ _ _ _ _ _ _ _ _ _ _ _ _)
      | (with_reducible exact record_Put.mono _ _ _ _ _)
      | (with_reducible exact sleuthlaw0_SameNode.mono _ _ _ _ _ _ _ _ _)
      | (with_reducible exact LeO.refl _)
      | (with_reducible exact LeO.none _)
      | (with_reducible refine LeO.ite ?_ ?_)
      | (with_reducible refine LeO.bind ?_ (fun _ => ?_))
      | exact ih0 _ _ _ _ _ _ _ _ _ _ _ _ _
      | exact record_Put.mono _ _ _ _ _
      | exact sleuthlaw0_SameNode.mono _ _ _ _ _ _ _ _ _
      | exact LeO.none _
      | refine LeO.ite ?_ ?_
      | refine LeO.bind ?_ (fun _ => ?_)
def sleuthlaw15_RecordUnlike.T8 : Bool × List (List Nat × List Nat) := (true, [([], []), ([], []), ([0, 1], [0, 1]), ([], []), ([], []), ([3, 4], [3, 4]), ([2, 5], [2, 5]), ([], []), ([], []), ([7, 8], [7, 8]), ([6, 9], [6, 9]), ([10, 9, 0, 1, 2, 3, 4, 5, 6, 7, 8, 9, 10], [10])])
def sleuthlaw15_RecordUnlike.B8 : List Nat := [0, 0, 3, 0, 0, 24, 63, 0, 0, 384, 1023, 2047]
theorem sleuthlaw15_RecordUnlike.tab8 : rtab .any (opsOf Tryd.f5 8) = sleuthlaw15_RecordUnlike.T8 := by kernel_rfl
theorem sleuthlaw15_RecordUnlike.bits8 : waitsOk sleuthlaw15_RecordUnlike.T8.2 sleuthlaw15_RecordUnlike.B8 = true := by kernel_rfl
set_option maxHeartbeats 8000000 in
set_option maxRecDepth 100000 in
theorem sleuthlaw15_RecordUnlike.calls (k : Nat) (a0_0 : Int) (a0_1 : Int) (A0_2 : Option Addr) (c0_2 : Nat) (l0_2 : List ByteArray) (a0_3 : ByteArray) (a1_0 : Int) (a1_1 : Int) (A1_2 : Option Addr) (c1_2 : Nat) (l1_2 : List ByteArray) (a1_3 : ByteArray) (w : World) (hr0_2 : Kd.C Kd.string w A0_2 l0_2.length l0_2) (hc0_2 : l0_2.length ≤ c0_2) (hr1_2 : Kd.C Kd.string w A1_2 l1_2.length l1_2) (hc1_2 : l1_2.length ≤ c1_2) (hL : Laid w) (h : sleuthlaw15_RecordUnlike.f k a0_0 a0_1 l0_2 a0_3 a1_0 a1_1 l1_2 a1_3 = some true) :
    Calls Tryd.prog 5 #[.agg #[.int .i64 a0_0, .int .i64 a0_1, .slice A0_2 l0_2.length c0_2, .string a0_3], .agg #[.int .i64 a1_0, .int .i64 a1_1, .slice A1_2 l1_2.length c1_2, .string a1_3]] w fun e w' => e = .returned (.bool true) ∧ Below w.heap.size w w' := by
  have hu24 := Tryd.underlying24
  have HR0_2 := Aside0.mk hr0_2
  have HC0_2 := Aside0.mk hc0_2
  clear hr0_2 hc0_2
  have HR1_2 := Aside0.mk hr1_2
  have HC1_2 := Aside0.mk hc1_2
  clear hr1_2 hc1_2
  have HLaid := Aside0.mk hL
  clear hL
  have HB := Aside0.mk (Below.refl w.heap.size w)
  have H : ((sleuthlaw15_awake.f).bind fun t367 => (if t367 = true then ((record_Put.f k a0_0 a0_1 l0_2 a0_3).bind fun bt368 => ((record_Put.f k a1_0 a1_1 l1_2 a1_3).bind fun bt370 => ((sleuthlaw0_Num.f bt368.2).bind fun t372 => (if t372 = 0 then ((sleuthlaw0_Num.f bt370.2).bind fun t373 => (sleuthlaw15_RecordUnlike.j0 k bt368.1 bt368.2 bt370.1 bt370.2 (t373 != 0) a0_0 a0_1 l0_2 a0_3 a1_0 a1_1 l1_2 a1_3)) else (sleuthlaw15_RecordUnlike.j0 k bt368.1 bt368.2 bt370.1 bt370.2 true a0_0 a0_1 l0_2 a0_3 a1_0 a1_1 l1_2 a1_3))))) else (some false))) = some true := h
  clear h
  replace H := Option.bind_eq_some_iff.mp H
  obtain ⟨t367, A30, H⟩ := H
  replace H : (if t367 = true then ((record_Put.f k a0_0 a0_1 l0_2 a0_3).bind fun bt368 => ((record_Put.f k a1_0 a1_1 l1_2 a1_3).bind fun bt370 => ((sleuthlaw0_Num.f bt368.2).bind fun t372 => (if t372 = 0 then ((sleuthlaw0_Num.f bt370.2).bind fun t373 => (sleuthlaw15_RecordUnlike.j0 k bt368.1 bt368.2 bt370.1 bt370.2 (t373 != 0) a0_0 a0_1 l0_2 a0_3 a1_0 a1_1 l1_2 a1_3)) else (sleuthlaw15_RecordUnlike.j0 k bt368.1 bt368.2 bt370.1 bt370.2 true a0_0 a0_1 l0_2 a0_3 a1_0 a1_1 l1_2 a1_3))))) else (some false)) = some true := H
  have A3 := Aside0.mk A30
  clear A30
  by_cases c4 : t367 = true
  · subst c4
    have H1 : ((record_Put.f k a0_0 a0_1 l0_2 a0_3).bind fun bt368 => ((record_Put.f k a1_0 a1_1 l1_2 a1_3).bind fun bt370 => ((sleuthlaw0_Num.f bt368.2).bind fun t372 => (if t372 = 0 then ((sleuthlaw0_Num.f bt370.2).bind fun t373 => (sleuthlaw15_RecordUnlike.j0 k bt368.1 bt368.2 bt370.1 bt370.2 (t373 != 0) a0_0 a0_1 l0_2 a0_3 a1_0 a1_1 l1_2 a1_3)) else (sleuthlaw15_RecordUnlike.j0 k bt368.1 bt368.2 bt370.1 bt370.2 true a0_0 a0_1 l0_2 a0_3 a1_0 a1_1 l1_2 a1_3))))) = some true := by rw [if_pos rfl] at H; exact H
    clear H
    have H := H1
    clear H1
    replace H := Option.bind_eq_some_iff.mp H
    obtain ⟨⟨t368, t369⟩, A50, H⟩ := H
    replace H : ((record_Put.f k a1_0 a1_1 l1_2 a1_3).bind fun bt370 => ((sleuthlaw0_Num.f t369).bind fun t372 => (if t372 = 0 then ((sleuthlaw0_Num.f bt370.2).bind fun t373 => (sleuthlaw15_RecordUnlike.j0 k t368 t369 bt370.1 bt370.2 (t373 != 0) a0_0 a0_1 l0_2 a0_3 a1_0 a1_1 l1_2 a1_3)) else (sleuthlaw15_RecordUnlike.j0 k t368 t369 bt370.1 bt370.2 true a0_0 a0_1 l0_2 a0_3 a1_0 a1_1 l1_2 a1_3)))) = some true := H
    have A5 := Aside0.mk A50
    clear A50
    replace H := Option.bind_eq_some_iff.mp H
    obtain ⟨⟨t370, t371⟩, A60, H⟩ := H
    replace H : ((sleuthlaw0_Num.f t369).bind fun t372 => (if t372 = 0 then ((sleuthlaw0_Num.f t371).bind fun t373 => (sleuthlaw15_RecordUnlike.j0 k t368 t369 t370 t371 (t373 != 0) a0_0 a0_1 l0_2 a0_3 a1_0 a1_1 l1_2 a1_3)) else (sleuthlaw15_RecordUnlike.j0 k t368 t369 t370 t371 true a0_0 a0_1 l0_2 a0_3 a1_0 a1_1 l1_2 a1_3))) = some true := H
    have A6 := Aside0.mk A60
    clear A60
    have HC7 := Aside0.mk H
    clear H
    go_enter Tryd.func5, Tryd.ntmps5
    go_upto_region 5 with (first | ((with_reducible refine gate_dst (N := 2) rfl ?_); refine box_event ?hg (N := 2) ?hd (cs := #[.int .i64 a0_0, .int .i64 a0_1, .slice A0_2 l0_2.length c0_2, .string a0_3]) (t := 24) ?hr ?_; (case hd => rfl); (case hg => rfl); (case hr => first | (go_simp; done) | (go_simp; rfl)); intro gb365 hg w8 hbox hb; have n0_ := Aside0.mk (below_step (by repeat (first | (with_reducible first | exact HB.out | apply below_alloc | apply pw_below_drewN | apply below_drew1) | exact HB.out)) hb); have n1_ := Aside0.mk (hbox); have n2_ := Aside0.mk ((by rw [hg]; exact (below_size (by repeat (first | (with_reducible first | exact HB.out | apply below_alloc | apply pw_below_drewN | apply below_drew1) | exact HB.out))) : w.heap.size ≤ gb365)); have n3_ := Aside0.mk ((by rw [hg]; exact (below_size (by repeat (first | (with_reducible first | exact HB.out | apply below_alloc | apply pw_below_drewN | apply below_drew1) | exact HB.out))) : w.heap.size ≤ gb365)); clear HB; have HB := n0_; have BK365 := n1_; have GW365 := n2_; have GE365 := n3_; clear n0_ n1_ n2_ n3_; clear hb hbox hg) | ((with_reducible refine gate_dst (N := 3) rfl ?_); refine box_event ?hg (N := 3) ?hd (cs := #[.int .i64 a1_0, .int .i64 a1_1, .slice A1_2 l1_2.length c1_2, .string a1_3]) (t := 24) ?hr ?_; (case hd => rfl); (case hg => rfl); (case hr => first | (go_simp; done) | (go_simp; rfl)); intro gb366 hg w9 hbox hb; have n0_ := Aside0.mk (blk_below (g := gb365) (o := .cells #[.int .i64 a0_0, .int .i64 a0_1, .slice A0_2 l0_2.length c0_2, .string a0_3] 24 (0, 0)) (by (with_reducible repeat (first | refine blk_drewN ?_ _ | refine blk_drew ?_ | refine blk_alloc ?_ _)); exact BK365.out) hb); have n1_ := Aside0.mk (below_step (by repeat (first | (with_reducible first | exact HB.out | apply below_alloc | apply pw_below_drewN | apply below_drew1 | refine below_set ?_ GE365.out) | exact HB.out)) hb); have n2_ := Aside0.mk (hbox); have n3_ := Aside0.mk ((by rw [hg]; exact (below_size (by repeat (first | (with_reducible first | exact HB.out | apply below_alloc | apply pw_below_drewN | apply below_drew1 | refine below_set ?_ GE365.out) | exact HB.out))) : w.heap.size ≤ gb366)); have n4_ := Aside0.mk ((by rw [hg]; exact (below_size (by repeat (first | (with_reducible first | exact HB.out | apply below_alloc | apply pw_below_drewN | apply below_drew1 | refine below_set ?_ GE365.out) | exact HB.out))) : w.heap.size ≤ gb366)); have n5_ := Aside0.mk ((by rw [hg]; exact Nat.ne_of_lt (blk_lt (g := gb365) (o := .cells #[.int .i64 a0_0, .int .i64 a0_1, .slice A0_2 l0_2.length c0_2, .string a0_3] 24 (0, 0)) (by (with_reducible repeat (first | refine blk_drewN ?_ _ | refine blk_drew ?_ | refine blk_alloc ?_ _)); exact BK365.out)) : gb365 ≠ gb366)); have n6_ := Aside0.mk ((by rw [hg]; exact Nat.ne_of_gt (blk_lt (g := gb365) (o := .cells #[.int .i64 a0_0, .int .i64 a0_1, .slice A0_2 l0_2.length c0_2, .string a0_3] 24 (0, 0)) (by (with_reducible repeat (first | refine blk_drewN ?_ _ | refine blk_drew ?_ | refine blk_alloc ?_ _)); exact BK365.out)) : gb366 ≠ gb365)); clear BK365; clear HB; have BK365 := n0_; have HB := n1_; have BK366 := n2_; have GW366 := n3_; have GE366 := n4_; have NB365_366 := n5_; have NB366_365 := n6_; clear n0_ n1_ n2_ n3_ n4_ n5_ n6_; clear hb hbox hg) | ((with_reducible refine gate_callee (f := 22) rfl ?_); refine goesL_ (some 10) rfl rfl Tryd.func22 (by kernel_rfl) rfl #[] rfl (by (try simp only [List.map_toArray, List.map_cons, List.map_nil]); first | done | rfl | (simp only [List.length_drop, List.length_take]; rfl)) ?_; (with_reducible refine (sleuthlaw15_awake.calls   _ ?side1 A3.out).mono ?_); (case side1 => exact Laid.below HLaid.out (by repeat (first | (with_reducible first | exact HB.out | apply below_alloc | apply pw_below_drewN | apply below_drew1 | refine below_set ?_ GE365.out | refine below_set ?_ GE366.out) | exact HB.out))); rintro e w10 ⟨rfl, hb⟩; refine ⟨_, rfl, ?_⟩; have n0_ := Aside0.mk (blk_below (g := gb365) (o := .cells #[.int .i64 a0_0, .int .i64 a0_1, .slice A0_2 l0_2.length c0_2, .string a0_3] 24 (0, 0)) (by (with_reducible repeat (first | refine blk_drewN ?_ _ | refine blk_drew ?_ | refine blk_alloc ?_ _)); exact BK365.out) hb); have n1_ := Aside0.mk (blk_below (g := gb366) (o := .cells #[.int .i64 a1_0, .int .i64 a1_1, .slice A1_2 l1_2.length c1_2, .string a1_3] 24 (0, 0)) (by (with_reducible repeat (first | refine blk_drewN ?_ _ | refine blk_drew ?_ | refine blk_alloc ?_ _)); exact BK366.out) hb); have n2_ := Aside0.mk (below_step (by repeat (first | (with_reducible first | exact HB.out | apply below_alloc | apply pw_below_drewN | apply below_drew1 | refine below_set ?_ GE365.out | refine below_set ?_ GE366.out) | exact HB.out)) hb); clear BK365; clear BK366; clear HB; have BK365 := n0_; have BK366 := n1_; have HB := n2_; clear n0_ n1_ n2_; (try clear hb); (try clear hb2); (try clear hk); (try clear hi); have hnb11 := NB365_366.out; have hnc11 := NB366_365.out; have hcz12_0 : w10.cell? ⟨gb365, 0, none⟩ = some (.int .i64 a0_0) := (blk_cell BK365.out 0).trans rfl; have hcz12_1 : w10.cell? ⟨gb365, 1, none⟩ = some (.int .i64 a0_1) := (blk_cell BK365.out 1).trans rfl; have hcz12_2 : w10.cell? ⟨gb365, 2, none⟩ = some (.slice A0_2 l0_2.length c0_2) := (blk_cell BK365.out 2).trans rfl; have hcz12_3 : w10.cell? ⟨gb365, 3, none⟩ = some (.string a0_3) := (blk_cell BK365.out 3).trans rfl; have hfz12_0 := blk_frozen BK365.out 0; have hfz12_1 := blk_frozen BK365.out 1; have hfz12_2 := blk_frozen BK365.out 2; have hfz12_3 := blk_frozen BK365.out 3) | ((with_reducible refine gate_callee (f := 15) rfl ?_); refine goesL_ (some 14) rfl rfl Tryd.func15 (by kernel_rfl) rfl #[.agg #[.int .i64 a0_0, .int .i64 a0_1, .slice A0_2 l0_2.length c0_2, .string a0_3]] rfl (by (try simp only [List.map_toArray, List.map_cons, List.map_nil]); first | done | rfl | (simp only [List.length_drop, List.length_take]; rfl)) ?_; (with_reducible refine (record_Put.calls k a0_0 a0_1 _ _ l0_2 a0_3 t368 t369 _ ?side1 ?side2 ?side3 A5.out).mono ?_); (case side1 => repeat (first | exact (Kd.C_below HR0_2.out HB.out) | (with_reducible refine Kd.C_alloc ?_ _) | (with_reducible refine Kd.C_drewN ?_ _) | (with_reducible refine Kd.C_drew ?_))); (case side2 => exact HC0_2.out); (case side3 => exact Laid.below HLaid.out (by repeat (first | (with_reducible first | exact HB.out | apply below_alloc | apply pw_below_drewN | apply below_drew1 | refine below_set ?_ GE365.out | refine below_set ?_ GE366.out) | exact HB.out))); rintro e w13 ⟨rfl, hb⟩; refine ⟨_, rfl, ?_⟩; have n0_ := Aside0.mk (blk_below (g := gb365) (o := .cells #[.int .i64 a0_0, .int .i64 a0_1, .slice A0_2 l0_2.length c0_2, .string a0_3] 24 (0, 0)) (by (with_reducible repeat (first | refine blk_drewN ?_ _ | refine blk_drew ?_ | refine blk_alloc ?_ _)); exact BK365.out) hb); have n1_ := Aside0.mk (blk_below (g := gb366) (o := .cells #[.int .i64 a1_0, .int .i64 a1_1, .slice A1_2 l1_2.length c1_2, .string a1_3] 24 (0, 0)) (by (with_reducible repeat (first | refine blk_drewN ?_ _ | refine blk_drew ?_ | refine blk_alloc ?_ _)); exact BK366.out) hb); have n2_ := Aside0.mk (below_step (by repeat (first | (with_reducible first | exact HB.out | apply below_alloc | apply pw_below_drewN | apply below_drew1 | refine below_set ?_ GE365.out | refine below_set ?_ GE366.out) | exact HB.out)) hb); clear BK365; clear BK366; clear HB; have BK365 := n0_; have BK366 := n1_; have HB := n2_; clear n0_ n1_ n2_; (try clear hb); (try clear hb2); (try clear hk); (try clear hi); have hcz14_0 : w13.cell? ⟨gb366, 0, none⟩ = some (.int .i64 a1_0) := (blk_cell BK366.out 0).trans rfl; have hcz14_1 : w13.cell? ⟨gb366, 1, none⟩ = some (.int .i64 a1_1) := (blk_cell BK366.out 1).trans rfl; have hcz14_2 : w13.cell? ⟨gb366, 2, none⟩ = some (.slice A1_2 l1_2.length c1_2) := (blk_cell BK366.out 2).trans rfl; have hcz14_3 : w13.cell? ⟨gb366, 3, none⟩ = some (.string a1_3) := (blk_cell BK366.out 3).trans rfl; have hfz14_0 := blk_frozen BK366.out 0; have hfz14_1 := blk_frozen BK366.out 1; have hfz14_2 := blk_frozen BK366.out 2; have hfz14_3 := blk_frozen BK366.out 3) | ((with_reducible refine gate_callee (f := 15) rfl ?_); refine goesL_ (some 19) rfl rfl Tryd.func15 (by kernel_rfl) rfl #[.agg #[.int .i64 a1_0, .int .i64 a1_1, .slice A1_2 l1_2.length c1_2, .string a1_3]] rfl (by (try simp only [List.map_toArray, List.map_cons, List.map_nil]); first | done | rfl | (simp only [List.length_drop, List.length_take]; rfl)) ?_; (with_reducible refine (record_Put.calls k a1_0 a1_1 _ _ l1_2 a1_3 t370 t371 _ ?side1 ?side2 ?side3 A6.out).mono ?_); (case side1 => repeat (first | exact (Kd.C_below HR1_2.out HB.out) | (with_reducible refine Kd.C_alloc ?_ _) | (with_reducible refine Kd.C_drewN ?_ _) | (with_reducible refine Kd.C_drew ?_))); (case side2 => exact HC1_2.out); (case side3 => exact Laid.below HLaid.out (by repeat (first | (with_reducible first | exact HB.out | apply below_alloc | apply pw_below_drewN | apply below_drew1 | refine below_set ?_ GE365.out | refine below_set ?_ GE366.out) | exact HB.out))); rintro e w15 ⟨rfl, hb⟩; refine ⟨_, rfl, ?_⟩; have n0_ := Aside0.mk (blk_below (g := gb365) (o := .cells #[.int .i64 a0_0, .int .i64 a0_1, .slice A0_2 l0_2.length c0_2, .string a0_3] 24 (0, 0)) (by (with_reducible repeat (first | refine blk_drewN ?_ _ | refine blk_drew ?_ | refine blk_alloc ?_ _)); exact BK365.out) hb); have n1_ := Aside0.mk (blk_below (g := gb366) (o := .cells #[.int .i64 a1_0, .int .i64 a1_1, .slice A1_2 l1_2.length c1_2, .string a1_3] 24 (0, 0)) (by (with_reducible repeat (first | refine blk_drewN ?_ _ | refine blk_drew ?_ | refine blk_alloc ?_ _)); exact BK366.out) hb); have n2_ := Aside0.mk (below_step (by repeat (first | (with_reducible first | exact HB.out | apply below_alloc | apply pw_below_drewN | apply below_drew1 | refine below_set ?_ GE365.out | refine below_set ?_ GE366.out) | exact HB.out)) hb); clear BK365; clear BK366; clear HB; have BK365 := n0_; have BK366 := n1_; have HB := n2_; clear n0_ n1_ n2_; (try clear hb); (try clear hb2); (try clear hk); (try clear hi)))
    (try simp only [Act.put, List.setIfInBounds_toArray, List.set_cons_zero, List.set_cons_succ])
    go_cut [29] (fun v29 wc => ∃ (kq : Nat) (x29_6 : Bool), v29 = .bool x29_6 ∧ Aside0 (sleuthlaw15_RecordUnlike.j0 kq t368 t369 t370 t371 x29_6 a0_0 a0_1 l0_2 a0_3 a1_0 a1_1 l1_2 a1_3 = some true) ∧ Aside0 (kq ≤ k) ∧ Aside0 (wc.heap[gb365]? = some (.cells #[.int .i64 a0_0, .int .i64 a0_1, (.slice A0_2 l0_2.length c0_2), .string a0_3] 24 (0, 0))) ∧ Aside0 (wc.heap[gb366]? = some (.cells #[.int .i64 a1_0, .int .i64 a1_1, (.slice A1_2 l1_2.length c1_2), .string a1_3] 24 (0, 0))) ∧ Aside0 (Below w.heap.size w wc))
    case first =>
      have H := HC7.out
      clear HC7
      replace H := Option.bind_eq_some_iff.mp H
      obtain ⟨t372, A160, H⟩ := H
      replace H : (if t372 = 0 then ((sleuthlaw0_Num.f t371).bind fun t373 => (sleuthlaw15_RecordUnlike.j0 k t368 t369 t370 t371 (t373 != 0) a0_0 a0_1 l0_2 a0_3 a1_0 a1_1 l1_2 a1_3)) else (sleuthlaw15_RecordUnlike.j0 k t368 t369 t370 t371 true a0_0 a0_1 l0_2 a0_3 a1_0 a1_1 l1_2 a1_3)) = some true := H
      have A16 := Aside0.mk A160
      clear A160
      by_cases c17 : t372 = 0
      · rw [if_pos c17] at H
        have c17b0 : (t372 == 0) = true := beq_iff_eq.mpr c17
        have c17b1 : (t372 != 0) = false := bne_eq_false_iff_eq.mpr c17
        clear c17
        (first | rw [c17b0] | (simp only [i64_w, i32_w]; rw [c17b0]) | skip)
        replace H := Option.bind_eq_some_iff.mp H
        obtain ⟨t373, A180, H⟩ := H
        replace H : (sleuthlaw15_RecordUnlike.j0 k t368 t369 t370 t371 (t373 != 0) a0_0 a0_1 l0_2 a0_3 a1_0 a1_1 l1_2 a1_3) = some true := H
        have A18 := Aside0.mk A180
        clear A180
        have H' := Aside0.mk H
        clear H
        go_wp2_with (first | ((with_reducible refine gate_callee (f := 19) rfl ?_); refine goesL_ (some 23) rfl rfl Tryd.func19 (by kernel_rfl) rfl #[.int .i64 t369] rfl (by (try simp only [List.map_toArray, List.map_cons, List.map_nil]); first | done | rfl | (simp only [List.length_drop, List.length_take]; rfl)) ?_; (with_reducible refine (sleuthlaw0_Num.calls t369 t372 _ A16.out).mono ?_); rintro e w' ⟨rfl, ⟨nd, rfl⟩⟩; refine ⟨_, rfl, ?_⟩) | (go_at_call 19; (with_reducible refine (sleuthlaw0_Num.calls t371 t373 _ A18.out).mono ?_); rintro e w' ⟨rfl, ⟨nd, rfl⟩⟩))
        go_meet
        case rel => exact ⟨_, ((t373 != 0)), (by first | rfl | (simp; done) | (simp [*]; done)), H', ⟨by first | omega | exact Nat.le_refl _⟩, ⟨by (with_reducible repeat (first | refine blk_drewN ?_ _ | refine blk_drew ?_ | refine blk_alloc ?_ _)); exact BK365.out⟩, ⟨by (with_reducible repeat (first | refine blk_drewN ?_ _ | refine blk_drew ?_ | refine blk_alloc ?_ _)); exact BK366.out⟩, ⟨by repeat (first | (with_reducible first | exact HB.out | apply below_alloc | apply pw_below_drewN | apply below_drew1 | refine below_set ?_ GE365.out | refine below_set ?_ GE366.out) | exact HB.out)⟩⟩
      · rw [if_neg c17] at H
        have c17b0 : (t372 == 0) = false := beq_eq_false_iff_ne.mpr c17
        have c17b1 : (t372 != 0) = true := bne_iff_ne.mpr c17
        (first | rw [c17b0] | (simp only [i64_w, i32_w]; rw [c17b0]) | skip)
        have H' := Aside0.mk H
        clear H
        go_wp2_with (first | ((with_reducible refine gate_callee (f := 19) rfl ?_); refine goesL_ (some 23) rfl rfl Tryd.func19 (by kernel_rfl) rfl #[.int .i64 t369] rfl (by (try simp only [List.map_toArray, List.map_cons, List.map_nil]); first | done | rfl | (simp only [List.length_drop, List.length_take]; rfl)) ?_; (with_reducible refine (sleuthlaw0_Num.calls t369 t372 _ A16.out).mono ?_); rintro e w' ⟨rfl, ⟨nd, rfl⟩⟩; refine ⟨_, rfl, ?_⟩))
        go_meet
        case rel => exact ⟨_, (true), (by first | rfl | (simp; done) | (simp [*]; done)), H', ⟨by first | omega | exact Nat.le_refl _⟩, ⟨by (with_reducible repeat (first | refine blk_drewN ?_ _ | refine blk_drew ?_ | refine blk_alloc ?_ _)); exact BK365.out⟩, ⟨by (with_reducible repeat (first | refine blk_drewN ?_ _ | refine blk_drew ?_ | refine blk_alloc ?_ _)); exact BK366.out⟩, ⟨by repeat (first | (with_reducible first | exact HB.out | apply below_alloc | apply pw_below_drewN | apply below_drew1 | refine below_set ?_ GE365.out | refine below_set ?_ GE366.out) | exact HB.out)⟩⟩
    case rest =>
      clear HC7
      try clear c1
      try clear c2
      try clear p2
      try clear c4
      try clear c5
      try clear c11
      try clear c15
      try clear c17
      try clear c17b0
      try clear c17b1
      try clear hcz12_0
      try clear hcz12_1
      try clear hcz12_2
      try clear hcz12_3
      try clear hcz14_0
      try clear hcz14_1
      try clear hcz14_2
      try clear hcz14_3
      try clear hfz12_0
      try clear hfz12_1
      try clear hfz12_2
      try clear hfz12_3
      try clear hfz14_0
      try clear hfz14_1
      try clear hfz14_2
      try clear hfz14_3
      obtain ⟨kq, x29_6, rfl, HA, HJ6, BK365, BK366, HB⟩ := hcut
      cases kq with
      | zero => exact absurd HA.out (by simp [sleuthlaw15_RecordUnlike.j0])
      | succ kj6 =>
        have H := HA.out
        clear HA
        simp only [sleuthlaw15_RecordUnlike.j0] at H
        by_cases c19 : x29_6 = true
        · subst c19
          have H1 : ((sleuthlaw0_Num.f t369).bind fun t374 => (if t374 = 0 then ((sleuthlaw0_Num.f t371).bind fun t375 => (if t375 = 0 then (some true) else (some (t370.toList == ([] : List UInt8))))) else (if t368.toList = ([] : List UInt8) then ((sleuthlaw0_Num.f t371).bind fun t376 => (if t376 = 0 then (some true) else (some (t370.toList == ([] : List UInt8))))) else (some false)))) = some true := by rw [if_pos rfl] at H; exact H
          clear H
          have H := H1
          clear H1
          replace H := Option.bind_eq_some_iff.mp H
          obtain ⟨t374, A200, H⟩ := H
          replace H : (if t374 = 0 then ((sleuthlaw0_Num.f t371).bind fun t375 => (if t375 = 0 then (some true) else (some (t370.toList == ([] : List UInt8))))) else (if t368.toList = ([] : List UInt8) then ((sleuthlaw0_Num.f t371).bind fun t376 => (if t376 = 0 then (some true) else (some (t370.toList == ([] : List UInt8))))) else (some false))) = some true := H
          have A20 := Aside0.mk A200
          clear A200
          by_cases c21 : t374 = 0
          · rw [if_pos c21] at H
            have c21b0 : (t374 == 0) = true := beq_iff_eq.mpr c21
            have c21b1 : (t374 != 0) = false := bne_eq_false_iff_eq.mpr c21
            clear c21
            replace H := Option.bind_eq_some_iff.mp H
            obtain ⟨t375, A220, H⟩ := H
            replace H : (if t375 = 0 then (some true) else (some (t370.toList == ([] : List UInt8)))) = some true := H
            have A22 := Aside0.mk A220
            clear A220
            by_cases c23 : t375 = 0
            · rw [if_pos c23] at H
              have c23b0 : (t375 == 0) = true := beq_iff_eq.mpr c23
              have c23b1 : (t375 != 0) = false := bne_eq_false_iff_eq.mpr c23
              clear c23
              have HR_ := Option.some.inj H
              clear H
              go_wp2_with (first | ((with_reducible refine gate_callee (f := 19) rfl ?_); refine goesL_ (some 31) rfl rfl Tryd.func19 (by kernel_rfl) rfl #[.int .i64 t369] rfl (by (try simp only [List.map_toArray, List.map_cons, List.map_nil]); first | done | rfl | (simp only [List.length_drop, List.length_take]; rfl)) ?_; (with_reducible refine (sleuthlaw0_Num.calls t369 t374 _ A20.out).mono ?_); rintro e w' ⟨rfl, ⟨nd, rfl⟩⟩; refine ⟨_, rfl, ?_⟩) | (go_at_call 19; (with_reducible refine (sleuthlaw0_Num.calls t371 t375 _ A22.out).mono ?_); rintro e w' ⟨rfl, ⟨nd, rfl⟩⟩))
              go_ret
              exact ⟨by first | rfl | exact congrArg (fun b_ => Ending.returned (Value.bool b_)) HR_ | (simp [errW_none, errW_some] <;> rfl) | (simp [*, errW_none, errW_some] <;> rfl), by repeat (first | (with_reducible first | exact HB.out | apply below_alloc | apply pw_below_drewN | apply below_drew1 | refine below_set ?_ GE365.out | refine below_set ?_ GE366.out) | exact HB.out)⟩
            · rw [if_neg c23] at H
              have c23b0 : (t375 == 0) = false := beq_eq_false_iff_ne.mpr c23
              have c23b1 : (t375 != 0) = true := bne_iff_ne.mpr c23
              have HR_ := Option.some.inj H
              clear H
              go_wp2_with (first | ((with_reducible refine gate_callee (f := 19) rfl ?_); refine goesL_ (some 31) rfl rfl Tryd.func19 (by kernel_rfl) rfl #[.int .i64 t369] rfl (by (try simp only [List.map_toArray, List.map_cons, List.map_nil]); first | done | rfl | (simp only [List.length_drop, List.length_take]; rfl)) ?_; (with_reducible refine (sleuthlaw0_Num.calls t369 t374 _ A20.out).mono ?_); rintro e w' ⟨rfl, ⟨nd, rfl⟩⟩; refine ⟨_, rfl, ?_⟩) | (go_at_call 19; (with_reducible refine (sleuthlaw0_Num.calls t371 t375 _ A22.out).mono ?_); rintro e w' ⟨rfl, ⟨nd, rfl⟩⟩))
              go_ret
              exact ⟨by first | rfl | exact congrArg (fun b_ => Ending.returned (Value.bool b_)) HR_ | (simp [errW_none, errW_some] <;> rfl) | (simp [*, errW_none, errW_some] <;> rfl), by repeat (first | (with_reducible first | exact HB.out | apply below_alloc | apply pw_below_drewN | apply below_drew1 | refine below_set ?_ GE365.out | refine below_set ?_ GE366.out) | exact HB.out)⟩
          · rw [if_neg c21] at H
            have c21b0 : (t374 == 0) = false := beq_eq_false_iff_ne.mpr c21
            have c21b1 : (t374 != 0) = true := bne_iff_ne.mpr c21
            by_cases c24 : t368.toList = ([] : List UInt8)
            · rw [if_pos c24] at H
              have c24b0 : (t368.toList == ([] : List UInt8)) = true := beq_iff_eq.mpr c24
              have c24b1 : (t368.toList != ([] : List UInt8)) = false := bne_eq_false_iff_eq.mpr c24
              clear c24
              replace H := Option.bind_eq_some_iff.mp H
              obtain ⟨t376, A250, H⟩ := H
              replace H : (if t376 = 0 then (some true) else (some (t370.toList == ([] : List UInt8)))) = some true := H
              have A25 := Aside0.mk A250
              clear A250
              by_cases c26 : t376 = 0
              · rw [if_pos c26] at H
                have c26b0 : (t376 == 0) = true := beq_iff_eq.mpr c26
                have c26b1 : (t376 != 0) = false := bne_eq_false_iff_eq.mpr c26
                clear c26
                have HR_ := Option.some.inj H
                clear H
                go_wp2_with (first | ((with_reducible refine gate_callee (f := 19) rfl ?_); refine goesL_ (some 31) rfl rfl Tryd.func19 (by kernel_rfl) rfl #[.int .i64 t369] rfl (by (try simp only [List.map_toArray, List.map_cons, List.map_nil]); first | done | rfl | (simp only [List.length_drop, List.length_take]; rfl)) ?_; (with_reducible refine (sleuthlaw0_Num.calls t369 t374 _ A20.out).mono ?_); rintro e w' ⟨rfl, ⟨nd, rfl⟩⟩; refine ⟨_, rfl, ?_⟩) | (go_at_call 19; (with_reducible refine (sleuthlaw0_Num.calls t371 t376 _ A25.out).mono ?_); rintro e w' ⟨rfl, ⟨nd, rfl⟩⟩))
                go_ret
                exact ⟨by first | rfl | exact congrArg (fun b_ => Ending.returned (Value.bool b_)) HR_ | (simp [errW_none, errW_some] <;> rfl) | (simp [*, errW_none, errW_some] <;> rfl), by repeat (first | (with_reducible first | exact HB.out | apply below_alloc | apply pw_below_drewN | apply below_drew1 | refine below_set ?_ GE365.out | refine below_set ?_ GE366.out) | exact HB.out)⟩
              · rw [if_neg c26] at H
                have c26b0 : (t376 == 0) = false := beq_eq_false_iff_ne.mpr c26
                have c26b1 : (t376 != 0) = true := bne_iff_ne.mpr c26
                have HR_ := Option.some.inj H
                clear H
                go_wp2_with (first | ((with_reducible refine gate_callee (f := 19) rfl ?_); refine goesL_ (some 31) rfl rfl Tryd.func19 (by kernel_rfl) rfl #[.int .i64 t369] rfl (by (try simp only [List.map_toArray, List.map_cons, List.map_nil]); first | done | rfl | (simp only [List.length_drop, List.length_take]; rfl)) ?_; (with_reducible refine (sleuthlaw0_Num.calls t369 t374 _ A20.out).mono ?_); rintro e w' ⟨rfl, ⟨nd, rfl⟩⟩; refine ⟨_, rfl, ?_⟩) | (go_at_call 19; (with_reducible refine (sleuthlaw0_Num.calls t371 t376 _ A25.out).mono ?_); rintro e w' ⟨rfl, ⟨nd, rfl⟩⟩))
                go_ret
                exact ⟨by first | rfl | exact congrArg (fun b_ => Ending.returned (Value.bool b_)) HR_ | (simp [errW_none, errW_some] <;> rfl) | (simp [*, errW_none, errW_some] <;> rfl), by repeat (first | (with_reducible first | exact HB.out | apply below_alloc | apply pw_below_drewN | apply below_drew1 | refine below_set ?_ GE365.out | refine below_set ?_ GE366.out) | exact HB.out)⟩
            · rw [if_neg c24] at H
              have c24b0 : (t368.toList == ([] : List UInt8)) = false := beq_eq_false_iff_ne.mpr c24
              have c24b1 : (t368.toList != ([] : List UInt8)) = true := bne_iff_ne.mpr c24
              exact absurd H (by simp)
        · replace c19 := Bool.eq_false_iff.mpr c19
          subst c19
          have H1 : (if 0 ≤ (mn (t368.size : Int) (t370.size : Int)) then (if (mn (t368.size : Int) (t370.size : Int)) ≤ (t368.size : Int) then (if (mn (t368.size : Int) (t370.size : Int)) ≤ (t370.size : Int) then ((sleuthlaw0_SameNode.f kj6 a0_0 a0_1 l0_2 a0_3 a1_0 a1_1 l1_2 a1_3).bind fun t377 => (some (((t368.extract 0 ((mn (t368.size : Int) (t370.size : Int)) : Int).toNat).toList == (t370.extract 0 ((mn (t368.size : Int) (t370.size : Int)) : Int).toNat).toList) == t377))) else (none)) else (none)) else (none)) = some true := by rw [if_neg (show ¬ (false = true) by decide)] at H; exact H
          clear H
          have H := H1
          clear H1
          obtain ⟨ji27, hji27⟩ : ∃ j_ : Int, (mn (t368.size : Int) (t370.size : Int)) = j_ := ⟨_, rfl⟩
          replace H : (if 0 ≤ (ji27) then (if (ji27) ≤ (t368.size : Int) then (if (ji27) ≤ (t370.size : Int) then ((sleuthlaw0_SameNode.f kj6 a0_0 a0_1 l0_2 a0_3 a1_0 a1_1 l1_2 a1_3).bind fun t377 => (some (((t368.extract 0 ((ji27) : Int).toNat).toList == (t370.extract 0 ((ji27) : Int).toNat).toList) == t377))) else (none)) else (none)) else (none)) = some true := by first | (rw [hji27] at H; exact H) | (simp only [hji27] at H ⊢; exact H)
          have hji27_ : (if (t370.size : Int) < (t368.size : Int) then (t370.size : Int) else (t368.size : Int)) = ji27 := hji27
          by_cases c28 : 0 ≤ (ji27)
          · rw [if_pos c28] at H
            have c28b0 := eq_true c28
            have c28b1 : decide (0 ≤ (ji27)) = true := decide_eq_true c28
            clear c28
            by_cases c29 : (ji27) ≤ (t368.size : Int)
            · rw [if_pos c29] at H
              have c29b0 := eq_true c29
              have c29b1 : decide ((ji27) ≤ (t368.size : Int)) = true := decide_eq_true c29
              clear c29
              have c30b0 := eq_true (of_decide_eq_true (by first | (with_reducible assumption) | assumption) : 0 ≤ (ji27))
              by_cases c31 : (ji27) ≤ (t370.size : Int)
              · rw [if_pos c31] at H
                have c31b0 := eq_true c31
                have c31b1 : decide ((ji27) ≤ (t370.size : Int)) = true := decide_eq_true c31
                clear c31
                replace H := Option.bind_eq_some_iff.mp H
                obtain ⟨t377, A320, H⟩ := H
                replace H : (some (((t368.extract 0 ((ji27) : Int).toNat).toList == (t370.extract 0 ((ji27) : Int).toNat).toList) == t377)) = some true := H
                have A32 := Aside0.mk A320
                clear A320
                have HR_ := Option.some.inj H
                clear H
                try go_wp2
                all_goals
                  have n0_ := Aside0.mk (blk_drew BK365.out)
                  have n1_ := Aside0.mk (blk_drew BK366.out)
                  have n2_ := Aside0.mk (below_drew1 HB.out)
                  clear BK365
                  clear BK366
                  clear HB
                  have BK365 := n0_
                  have BK366 := n1_
                  have HB := n2_
                  clear n0_ n1_ n2_
                  refine start_ (n := 12) (S := fun w' => w'.cell? ⟨gb365, 0, none⟩ = some (.int .i64 a0_0) ∧ w'.cell? ⟨gb365, 1, none⟩ = some (.int .i64 a0_1) ∧ w'.cell? ⟨gb365, 2, none⟩ = some (.slice A0_2 l0_2.length c0_2) ∧ w'.cell? ⟨gb365, 3, none⟩ = some (.string a0_3) ∧ w'.cell? ⟨gb366, 0, none⟩ = some (.int .i64 a1_0) ∧ w'.cell? ⟨gb366, 1, none⟩ = some (.int .i64 a1_1) ∧ w'.cell? ⟨gb366, 2, none⟩ = some (.slice A1_2 l1_2.length c1_2) ∧ w'.cell? ⟨gb366, 3, none⟩ = some (.string a1_3)) (ds := []) #[false, false, false, false, false, false, false, false, false, false, false, false] (by kernel_rfl) rfl rfl ⟨(blk_cell BK365.out 0).trans rfl, (blk_cell BK365.out 1).trans rfl, (blk_cell BK365.out 2).trans rfl, (blk_cell BK365.out 3).trans rfl, (blk_cell BK366.out 0).trans rfl, (blk_cell BK366.out 1).trans rfl, (blk_cell BK366.out 2).trans rfl, (blk_cell BK366.out 3).trans rfl⟩ (fun hHeld => ?_); refine with_tabW sleuthlaw15_RecordUnlike.tab8 sleuthlaw15_RecordUnlike.bits8 (fun HT_ HW_ => ?_)
                  generalize wc.drew = w33 at BK365 BK366 HB hHeld ⊢
                  refine pure_ (i := 0) (N := some 51) (v := ?_) (a' := ?_) #[true, false, false, false, false, false, false, false, false, false, false, false] rfl rfl (any_of HT_.out (by kernel_rfl)) (fun _ _ _ h => h) (Or.inl ⟨by rfl, ?_⟩) ?_ ?_
                  rotate_left
                  · intro w'
                    go_simp
                    (first | with_reducible rfl | (rw [if_pos (by omega)]))
                  rotate_left
                  · simp only [Act.put, List.setIfInBounds_toArray, List.set_cons_zero, List.set_cons_succ, i64_w, i32_w]
                    rfl
                  refine pure_ (i := 1) (N := some 52) (v := ?_) (a' := ?_) #[true, true, false, false, false, false, false, false, false, false, false, false] rfl rfl (any_of HT_.out (by kernel_rfl)) (fun _ _ _ h => h) (Or.inl ⟨by rfl, ?_⟩) ?_ ?_
                  rotate_left
                  · intro w'
                    go_simp
                    (first | with_reducible rfl | (rw [if_pos (by omega)]))
                  rotate_left
                  · simp only [Act.put, List.setIfInBounds_toArray, List.set_cons_zero, List.set_cons_succ, i64_w, i32_w]
                    rfl
                  refine pure_ (i := 2) (N := some 53) (v := ?_) (a' := ?_) #[true, true, true, false, false, false, false, false, false, false, false, false] rfl rfl (any_of HT_.out (by kernel_rfl)) (fun _ _ _ h => h) (Or.inl ⟨by rfl, ?_⟩) ?_ ?_
                  rotate_left
                  · intro w'
                    go_simp
                    (first | with_reducible rfl | (rw [if_pos (by omega)]))
                  rotate_left
                  · simp only [Act.put, List.setIfInBounds_toArray, List.set_cons_zero, List.set_cons_succ, i64_w, i32_w]
                    rfl
                  refine pure_ (i := 3) (N := some 54) (v := ?_) (a' := ?_) #[true, true, true, true, false, false, false, false, false, false, false, false] rfl rfl (any_of HT_.out (by kernel_rfl)) (fun _ _ _ h => h) (Or.inl ⟨by rfl, ?_⟩) ?_ ?_
                  rotate_left
                  · intro w'
                    go_simp
                    (first | with_reducible rfl | (rw [if_pos (by omega)]))
                  rotate_left
                  · simp only [Act.put, List.setIfInBounds_toArray, List.set_cons_zero, List.set_cons_succ, i64_w, i32_w]
                    rfl
                  refine pure_ (i := 4) (N := some 55) (v := ?_) (a' := ?_) #[true, true, true, true, true, false, false, false, false, false, false, false] rfl rfl (any_of HT_.out (by kernel_rfl)) (fun _ _ _ h => h) (Or.inl ⟨by rfl, ?_⟩) ?_ ?_
                  rotate_left
                  · intro w'
                    go_simp
                    (first | with_reducible rfl | (rw [if_pos (by omega)]))
                  rotate_left
                  · simp only [Act.put, List.setIfInBounds_toArray, List.set_cons_zero, List.set_cons_succ, i64_w, i32_w]
                    rfl
                  refine pure_ (i := 5) (N := some 56) (v := ?_) (a' := ?_) #[true, true, true, true, true, true, false, false, false, false, false, false] rfl rfl (any_of HT_.out (by kernel_rfl)) (fun _ _ _ h => h) (Or.inl ⟨by rfl, ?_⟩) ?_ ?_
                  rotate_left
                  · intro w'
                    go_simp
                    (first | with_reducible rfl | (rw [if_pos (by omega)]))
                  rotate_left
                  · simp only [Act.put, List.setIfInBounds_toArray, List.set_cons_zero, List.set_cons_succ, i64_w, i32_w]
                    rfl
                  refine pure_ (i := 6) (N := some 57) (v := ?_) (a' := ?_) #[true, true, true, true, true, true, true, false, false, false, false, false] rfl rfl (any_of HT_.out (by kernel_rfl)) (fun _ _ _ h => h) (Or.inl ⟨by rfl, ?_⟩) ?_ ?_
                  rotate_left
                  · intro w'
                    go_simp
                    (first | with_reducible rfl | (rw [if_pos (by omega)]))
                  rotate_left
                  · simp only [Act.put, List.setIfInBounds_toArray, List.set_cons_zero, List.set_cons_succ, i64_w, i32_w]
                    rfl
                  refine take_ (i := 7) (N := some 58) (v := ?_) (a' := ?_) #[true, true, true, true, true, true, true, true, false, false, false, false] rfl rfl (take_ofW HT_.out HW_.out (by kernel_rfl)) (fun _ _ _ h => h) (Or.inl ⟨by rfl, ?_⟩) hHeld ?_ ?_
                  rotate_left
                  · rintro w' ⟨s0, s1, s2, s3, s4, s5, s6, s7⟩
                    go_simp
                    (first | with_reducible rfl | (rw [if_pos (by omega)]))
                  rotate_left
                  · simp only [Act.put, List.setIfInBounds_toArray, List.set_cons_zero, List.set_cons_succ, i64_w, i32_w]
                    rfl
                  refine take_ (i := 8) (N := some 59) (v := ?_) (a' := ?_) #[true, true, true, true, true, true, true, true, true, false, false, false] rfl rfl (take_ofW HT_.out HW_.out (by kernel_rfl)) (fun _ _ _ h => h) (Or.inl ⟨by rfl, ?_⟩) hHeld ?_ ?_
                  rotate_left
                  · rintro w' ⟨s0, s1, s2, s3, s4, s5, s6, s7⟩
                    go_simp
                    (first | with_reducible rfl | (rw [if_pos (by omega)]))
                  rotate_left
                  · simp only [Act.put, List.setIfInBounds_toArray, List.set_cons_zero, List.set_cons_succ, i64_w, i32_w]
                    rfl
                  refine one_ (i := 9) (N := some 60) #[true, true, true, true, true, true, true, true, true, true, false, false] rfl rfl (one_of HT_.out (by kernel_rfl)) (by decide) (fun K hK => ?_)
                  refine goes_ Tryd.func20 (by kernel_rfl) rfl #[.agg #[.int .i64 a0_0, .int .i64 a0_1, .slice A0_2 l0_2.length c0_2, .string a0_3], .agg #[.int .i64 a1_0, .int .i64 a1_1, .slice A1_2 l1_2.length c1_2, .string a1_3]] (by rfl) rfl rfl (by (try simp only [List.map_toArray, List.map_cons, List.map_nil]); first | done | rfl | (simp only [List.length_drop, List.length_take]; rfl)) ?_
                  with_reducible refine (sleuthlaw0_SameNode.calls kj6 a0_0 a0_1 _ _ l0_2 a0_3 a1_0 a1_1 _ _ l1_2 a1_3 t377 _ ?side1 ?side2 ?side3 ?side4 A32.out).mono ?_
                  (case side1 => repeat (first | exact (Kd.C_below HR0_2.out HB.out) | (with_reducible refine Kd.C_alloc ?_ _) | (with_reducible refine Kd.C_drewN ?_ _) | (with_reducible refine Kd.C_drew ?_)))
                  (case side2 => exact HC0_2.out)
                  (case side3 => repeat (first | exact (Kd.C_below HR1_2.out HB.out) | (with_reducible refine Kd.C_alloc ?_ _) | (with_reducible refine Kd.C_drewN ?_ _) | (with_reducible refine Kd.C_drew ?_)))
                  (case side4 => exact HC1_2.out)
                  rintro e w34 ⟨rfl, hb⟩
                  refine ⟨_, rfl, ?_⟩
                  have n0_ := Aside0.mk (blk_below (g := gb365) (o := .cells #[.int .i64 a0_0, .int .i64 a0_1, .slice A0_2 l0_2.length c0_2, .string a0_3] 24 (0, 0)) (by (with_reducible repeat (first | refine blk_drewN ?_ _ | refine blk_drew ?_ | refine blk_alloc ?_ _)); exact BK365.out) hb)
                  have n1_ := Aside0.mk (blk_below (g := gb366) (o := .cells #[.int .i64 a1_0, .int .i64 a1_1, .slice A1_2 l1_2.length c1_2, .string a1_3] 24 (0, 0)) (by (with_reducible repeat (first | refine blk_drewN ?_ _ | refine blk_drew ?_ | refine blk_alloc ?_ _)); exact BK366.out) hb)
                  have n2_ := Aside0.mk (below_step (by repeat (first | (with_reducible first | exact HB.out | apply below_alloc | apply pw_below_drewN | apply below_drew1 | refine below_set ?_ GE365.out | refine below_set ?_ GE366.out) | exact HB.out)) hb)
                  clear BK365
                  clear BK366
                  clear HB
                  have BK365 := n0_
                  have BK366 := n1_
                  have HB := n2_
                  clear n0_ n1_ n2_
                  (try clear hb)
                  (try clear hb2)
                  (try clear hk)
                  (try clear hi)
                  refine hK.out _ _ ⟨(blk_cell BK365.out 0).trans rfl, (blk_cell BK365.out 1).trans rfl, (blk_cell BK365.out 2).trans rfl, (blk_cell BK365.out 3).trans rfl, (blk_cell BK366.out 0).trans rfl, (blk_cell BK366.out 1).trans rfl, (blk_cell BK366.out 2).trans rfl, (blk_cell BK366.out 3).trans rfl⟩ (fun hHeld => ?_)
                  clear hK K
                  refine norm_ (a' := ?_) ?_ ?_
                  rotate_left
                  · show Act.put _ (some 60) _ = _
                    simp only [Act.put, List.setIfInBounds_toArray, List.set_cons_zero, List.set_cons_succ, i64_w, i32_w]
                    rfl
                  refine pure_ (i := 10) (N := some 61) (v := ?_) (a' := ?_) #[true, true, true, true, true, true, true, true, true, true, true, false] rfl rfl (any_of HT_.out (by kernel_rfl)) (fun _ _ _ h => h) (Or.inl ⟨by rfl, ?_⟩) ?_ ?_
                  rotate_left
                  · intro w'
                    go_simp
                    (first | with_reducible rfl | (rw [if_pos (by omega)]))
                  rotate_left
                  · simp only [Act.put, List.setIfInBounds_toArray, List.set_cons_zero, List.set_cons_succ, i64_w, i32_w]
                    rfl
                  refine pure_ (i := 11) (N := some 4) (v := ?_) (a' := ?_) #[true, true, true, true, true, true, true, true, true, true, true, true] rfl rfl (any_of HT_.out (by kernel_rfl)) (fun _ _ _ h => h) (Or.inl ⟨by rfl, ?_⟩) ?_ ?_
                  rotate_left
                  · intro w'
                    go_simp
                    (first | with_reducible rfl | (rw [if_pos (by omega)]))
                  rotate_left
                  · simp only [Act.put, List.setIfInBounds_toArray, List.set_cons_zero, List.set_cons_succ, i64_w, i32_w]
                    rfl
                  refine done_ (done_of HT_.out (by kernel_rfl)) ?_
                  try go_wp2
                  go_ret
                  exact ⟨by first | rfl | exact congrArg (fun b_ => Ending.returned (Value.bool b_)) HR_ | ((have e27 : ji27.toNat = min t368.size t370.size := by rw [← hji27]; unfold mn; split <;> omega); rw [e27] at HR_; (first | rw [Nat.min_eq_left (by omega)] at HR_ | rw [Nat.min_eq_right (by omega)] at HR_); (try rw [ByteArray.extract_zero_size] at HR_); exact congrArg (fun b_ => Ending.returned (Value.bool b_)) HR_) | (simp [errW_none, errW_some] <;> rfl) | (simp only [← hji27]; first | rfl | (simp [errW_none, errW_some] <;> rfl)) | (simp [*, errW_none, errW_some] <;> rfl), by repeat (first | (with_reducible first | exact HB.out | apply below_alloc | apply pw_below_drewN | apply below_drew1 | refine below_set ?_ GE365.out | refine below_set ?_ GE366.out) | exact HB.out)⟩
              · rw [if_neg c31] at H
                exact absurd H (by simp)
            · rw [if_neg c29] at H
              exact absurd H (by simp)
          · rw [if_neg c28] at H
            exact absurd H (by simp)
  · replace c4 := Bool.eq_false_iff.mpr c4
    subst c4
    have H1 : (some false) = some true := by rw [if_neg (show ¬ (false = true) by decide)] at H; exact H
    clear H
    have H := H1
    clear H1
    exact absurd H (by simp)

end Go.Proofs.YtkbaelhcijibiaaDoor.Px

/-
  The law RecordUnlike, plain: what the printed walk computes is true.
-/
namespace Go.Proofs.YtkbaelhcijibiaaDoor.Px
open Go.RowKit Go.Proofs.YtkbaelhcijibiaaDoorW.PrintWords Go.Proofs.YtkbaelhcijibiaaDoorW.PrintLast Go.Proofs.YtkbaelhcijibiaaDoorW.PrintMore
set_option linter.unusedVariables false
set_option linter.unusedSimpArgs false

theorem unlike_true (f p : Int) (args : List ByteArray) (res : ByteArray) (f2 p2 : Int) (args2 : List ByteArray) (res2 : ByteArray) :
    sleuthlaw15_RecordUnlike.f 300 f p args res f2 p2 args2 res2 = some true := by
  have hz : ¬ ((1500 : Int) = 0) := by decide
  have he : ((⟨#[]⟩ : ByteArray).toList == ([] : List UInt8)) = true := by rw [Lib.toList_data]; rfl
  have he2 : (⟨#[]⟩ : ByteArray).toList = ([] : List UInt8) := by rw [Lib.toList_data]
  unfold sleuthlaw15_RecordUnlike.f
  simp only [sleuthlaw15_awake.f, Option.bind_some, if_pos, put_is 300 (by omega), num_same]
  by_cases h : okNode f p args res = true
  · by_cases h2 : okNode f2 p2 args2 res2 = true
    · simp only [if_pos h, if_pos h2, if_pos, bne_self_eq_false, sleuthlaw15_RecordUnlike.j0, Bool.false_eq_true, if_false]
      obtain ⟨_, hF, h3, h4⟩ := okNode_fits h
      obtain ⟨_, hF2, h5, h6⟩ := okNode_fits h2
      rw [sz_mk, sz_mk]
      have hmn : mn ((encL f p args res).length : Int) ((encL f2 p2 args2 res2).length : Int) = ((min (encL f p args res).length (encL f2 p2 args2 res2).length : Nat) : Int) := by unfold mn; split <;> omega
      rw [hmn, if_pos (by omega), if_pos (by omega), if_pos (by omega), Int.toNat_natCast, same_is 299 _ _ _ _ _ _ _ _ (by have := hF.len; omega) (by have := hF.len; omega)]
      simp only [Option.bind_some, Option.some.injEq]
      have hx : ∀ (l : List UInt8) (n : Nat), ((⟨l.toArray⟩ : ByteArray).extract 0 n).toList = l.take n := fun l n => by
        rw [Lib.toList_data, ByteArray.data_extract]
        simp
      rw [hx, hx, beq_iff_eq, Bool.eq_iff_iff, beq_iff_eq, decide_eq_true_eq]
      constructor
      · intro hq
        rcases Nat.le_total (encL f p args res).length (encL f2 p2 args2 res2).length with hle | hle
        · rw [Nat.min_eq_left hle, List.take_length] at hq
          refine enc_prefix h h2 ((encL f2 p2 args2 res2).drop (encL f p args res).length) [] ?_
          rw [List.append_nil]
          conv => lhs; lhs; rw [hq]
          exact List.take_append_drop _ _
        · rw [Nat.min_eq_right hle, List.take_length] at hq
          refine enc_prefix h h2 [] ((encL f p args res).drop (encL f2 p2 args2 res2).length) ?_
          rw [List.append_nil]
          conv => rhs; lhs; rw [← hq]
          exact (List.take_append_drop _ _).symm
      · rintro ⟨rfl, rfl, rfl, rfl⟩
        rfl
    · simp [if_pos h, if_neg h2, sleuthlaw15_RecordUnlike.j0, he, num_same]
  · by_cases h2 : okNode f2 p2 args2 res2 = true
    · simp [if_neg h, if_pos h2, sleuthlaw15_RecordUnlike.j0, he, he2, num_same]
    · simp [if_neg h, if_neg h2, sleuthlaw15_RecordUnlike.j0, he, he2, num_same]
end Go.Proofs.YtkbaelhcijibiaaDoor.Px
