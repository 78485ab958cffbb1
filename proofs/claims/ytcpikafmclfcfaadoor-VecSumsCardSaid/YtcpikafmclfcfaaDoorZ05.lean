/- The statement VecSums: any vectors' sum, difference and multiple are the document's, or refused, for every list of vectors and every two, without a further condition. -/
import Derived.Test.YtcpikafmclfcfaaDoorZ03
import Derived.Test.YtcpikafmclfcfaaDoorZ04
import Derived.OpenShut
import Derived.Test.YtcpikafmclfcfaaDoorRows
import Derived.Test.YtcpikafmclfcfaaDoorCards
import Derived.Test.YtcpikafmclfcfaaDoorTie
import Derived.Test.YtcpikafmclfcfaaDoorZ02
import Derived.Lay
import Derived.WalkKit
import Derived.ProofKit
import Derived.ShutString
import Derived.ChangeOld
import Derived.Below
import Derived.Carry
import Derived.SizedLaws
import Derived.Deep.DeepHandedRow
import Derived.Deep.DeepWitnessRowRef
import Derived.Stop.LaidErr
import Derived.Lib.LaidTab
import Derived.LaidMore
section
namespace Go.Proofs.YtcpikafmclfcfaaDoor.PY
open Go.RowKit Go.Proofs.YtcpikafmclfcfaaDoor.Lib Go.Proofs.YtcpikafmclfcfaaDoorW.PrintWords Go.Proofs.YtcpikafmclfcfaaDoorW.PrintLast Go.Proofs.YtcpikafmclfcfaaDoorW.PrintMore
attribute [local go_sem] max2_int min2_int max_two min_two max_three min_three max_four min_four   
set_option linter.unusedVariables false
set_option linter.unusedSimpArgs false
def marlinspikeref06_Sub.j0 : Nat → Bool → Int → Int → Int → Int → Int → Int → Option (Int × Int × Int × Int)
  | 0, _, _, _, _, _, _, _ => none
  | k + 1, x13, x227000, x227001, x227002, x228000, x228001, x228002 => if x13 = true then (some (0, 0, 0, 1)) else ((marlinspikeref06_Fits.f x228000 x228001 x228002 x227000 x227001 x227002).bind fun t231 => (if t231 = true then (some (wrap64 (x227000 - x228000), wrap64 (x227001 - x228001), wrap64 (x227002 - x228002), 0)) else (some (0, 0, 0, 5))))
def marlinspikeref06_Sub.f (k : Nat) (a0_0 : Int) (a0_1 : Int) (a0_2 : Int) (a1_0 : Int) (a1_1 : Int) (a1_2 : Int) : Option (Int × Int × Int × Int) := (marlinspikeref06_Right.f a0_0 a0_1 a0_2).bind fun t229 => (if t229 = true then ((marlinspikeref06_Right.f a1_0 a1_1 a1_2).bind fun t230 => (marlinspikeref06_Sub.j0 k (!t230) a0_0 a0_1 a0_2 a1_0 a1_1 a1_2)) else (marlinspikeref06_Sub.j0 k true a0_0 a0_1 a0_2 a1_0 a1_1 a1_2))
theorem marlinspikeref06_Sub.mono_l : ∀ k, (∀ y0 y1 y2 y3 y4 y5 y6, LeO (marlinspikeref06_Sub.j0 k y0 y1 y2 y3 y4 y5 y6) (marlinspikeref06_Sub.j0 (k + 1) y0 y1 y2 y3 y4 y5 y6))
  | 0 => fun _ _ _ _ _ _ _ r h => by simp [marlinspikeref06_Sub.j0] at h
  | k + 1 => by
    have ih0 := marlinspikeref06_Sub.mono_l k
    · intro y0 y1 y2 y3 y4 y5 y6
      unfold marlinspikeref06_Sub.j0
      repeat' first
      | (with_reducible exact ih0 _ _ _ _ _ _ _)
      | (with_reducible exact LeO.refl _)
      | (with_reducible exact LeO.none _)
      | (with_reducible refine LeO.ite ?_ ?_)
      | (with_reducible refine LeO.bind ?_ (fun _ => ?_))
      | exact ih0 _ _ _ _ _ _ _
      | exact LeO.none _
      | refine LeO.ite ?_ ?_
      | refine LeO.bind ?_ (fun _ => ?_)
theorem marlinspikeref06_Sub.mono : ∀ a0 a1 a2 a3 a4 a5 k, LeO (marlinspikeref06_Sub.f k a0 a1 a2 a3 a4 a5) (marlinspikeref06_Sub.f (k + 1) a0 a1 a2 a3 a4 a5) := by
  intro a0 a1 a2 a3 a4 a5 k
  have ih0 := marlinspikeref06_Sub.mono_l k
  unfold marlinspikeref06_Sub.f
  repeat' first
      | (with_reducible exact ih0 _ _ _ _ _ _ _)
      | (with_reducible exact LeO.refl _)
      | (with_reducible exact LeO.none _)
      | (with_reducible refine LeO.ite ?_ ?_)
      | (with_reducible refine LeO.bind ?_ (fun _ => ?_))
      | exact ih0 _ _ _ _ _ _ _
      | exact LeO.none _
      | refine LeO.ite ?_ ?_
      | refine LeO.bind ?_ (fun _ => ?_)
set_option maxHeartbeats 8000000 in
set_option maxRecDepth 100000 in
theorem marlinspikeref06_Sub.calls (k : Nat) (a0_0 : Int) (a0_1 : Int) (a0_2 : Int) (a1_0 : Int) (a1_1 : Int) (a1_2 : Int) (r1 : Int) (r2 : Int) (r3 : Int) (r4 : Int) (w : World) (h : marlinspikeref06_Sub.f k a0_0 a0_1 a0_2 a1_0 a1_1 a1_2 = some (r1, r2, r3, r4)) :
    Calls Tryd.prog 27 #[.agg #[.int .i64 a0_0, .int .i64 a0_1, .int .i64 a0_2], .agg #[.int .i64 a1_0, .int .i64 a1_1, .int .i64 a1_2]] w fun e w' => e = .returned (.tuple #[.agg #[.int .i64 r1, .int .i64 r2, .int .i64 r3], .int .i64 r4]) ∧ Below w.heap.size w w' := by
  have hu23 := Tryd.underlying23
  have HB := Aside0.mk (Below.refl w.heap.size w)
  have H : ((marlinspikeref06_Right.f a0_0 a0_1 a0_2).bind fun t229 => (if t229 = true then ((marlinspikeref06_Right.f a1_0 a1_1 a1_2).bind fun t230 => (marlinspikeref06_Sub.j0 k (!t230) a0_0 a0_1 a0_2 a1_0 a1_1 a1_2)) else (marlinspikeref06_Sub.j0 k true a0_0 a0_1 a0_2 a1_0 a1_1 a1_2))) = some (r1, r2, r3, r4) := h
  clear h
  have HC3 := Aside0.mk H
  clear H
  go_enter Tryd.func27, Tryd.ntmps27
  go_upto_region 1 with (first | ((with_reducible refine gate_dst (N := 2) rfl ?_); refine box_event ?hg (N := 2) ?hd (cs := #[.int .i64 a0_0, .int .i64 a0_1, .int .i64 a0_2]) (t := 23) ?hr ?_; (case hd => rfl); (case hg => rfl); (case hr => first | (go_simp; done) | (go_simp; rfl)); intro gb226 hg w4 hbox hb; have n0_ := Aside0.mk (below_step (by repeat (first | (with_reducible first | exact HB.out | apply below_alloc | apply pw_below_drewN | apply below_drew1) | exact HB.out)) hb); have n1_ := Aside0.mk (hbox); have n2_ := Aside0.mk ((by rw [hg]; exact (below_size (by repeat (first | (with_reducible first | exact HB.out | apply below_alloc | apply pw_below_drewN | apply below_drew1) | exact HB.out))) : w.heap.size ≤ gb226)); have n3_ := Aside0.mk ((by rw [hg]; exact (below_size (by repeat (first | (with_reducible first | exact HB.out | apply below_alloc | apply pw_below_drewN | apply below_drew1) | exact HB.out))) : w.heap.size ≤ gb226)); clear HB; have HB := n0_; have BK226 := n1_; have GW226 := n2_; have GE226 := n3_; clear n0_ n1_ n2_ n3_; clear hb hbox hg) | ((with_reducible refine gate_dst (N := 3) rfl ?_); refine box_event ?hg (N := 3) ?hd (cs := #[.int .i64 a1_0, .int .i64 a1_1, .int .i64 a1_2]) (t := 23) ?hr ?_; (case hd => rfl); (case hg => rfl); (case hr => first | (go_simp; done) | (go_simp; rfl)); intro gb227 hg w5 hbox hb; have n0_ := Aside0.mk (blk_below (g := gb226) (o := .cells #[.int .i64 a0_0, .int .i64 a0_1, .int .i64 a0_2] 23 (0, 0)) (by (with_reducible repeat (first | refine blk_drewN ?_ _ | refine blk_drew ?_ | refine blk_alloc ?_ _)); exact BK226.out) hb); have n1_ := Aside0.mk (below_step (by repeat (first | (with_reducible first | exact HB.out | apply below_alloc | apply pw_below_drewN | apply below_drew1 | refine below_set ?_ GE226.out) | exact HB.out)) hb); have n2_ := Aside0.mk (hbox); have n3_ := Aside0.mk ((by rw [hg]; exact (below_size (by repeat (first | (with_reducible first | exact HB.out | apply below_alloc | apply pw_below_drewN | apply below_drew1 | refine below_set ?_ GE226.out) | exact HB.out))) : w.heap.size ≤ gb227)); have n4_ := Aside0.mk ((by rw [hg]; exact (below_size (by repeat (first | (with_reducible first | exact HB.out | apply below_alloc | apply pw_below_drewN | apply below_drew1 | refine below_set ?_ GE226.out) | exact HB.out))) : w.heap.size ≤ gb227)); have n5_ := Aside0.mk ((by rw [hg]; exact Nat.ne_of_lt (blk_lt (g := gb226) (o := .cells #[.int .i64 a0_0, .int .i64 a0_1, .int .i64 a0_2] 23 (0, 0)) (by (with_reducible repeat (first | refine blk_drewN ?_ _ | refine blk_drew ?_ | refine blk_alloc ?_ _)); exact BK226.out)) : gb226 ≠ gb227)); have n6_ := Aside0.mk ((by rw [hg]; exact Nat.ne_of_gt (blk_lt (g := gb226) (o := .cells #[.int .i64 a0_0, .int .i64 a0_1, .int .i64 a0_2] 23 (0, 0)) (by (with_reducible repeat (first | refine blk_drewN ?_ _ | refine blk_drew ?_ | refine blk_alloc ?_ _)); exact BK226.out)) : gb227 ≠ gb226)); clear BK226; clear HB; have BK226 := n0_; have HB := n1_; have BK227 := n2_; have GW227 := n3_; have GE227 := n4_; have NB226_227 := n5_; have NB227_226 := n6_; clear n0_ n1_ n2_ n3_ n4_ n5_ n6_; clear hb hbox hg) | ((with_reducible refine gate_dst (N := 4) rfl ?_); refine box_event ?hg (N := 4) ?hd (cs := #[.int .i64 0, .int .i64 0, .int .i64 0]) (t := 23) ?hr ?_; (case hd => rfl); (case hg => rfl); (case hr => first | (go_simp; done) | (go_simp; rfl)); intro gb228 hg w6 hbox hb; have n0_ := Aside0.mk (blk_below (g := gb226) (o := .cells #[.int .i64 a0_0, .int .i64 a0_1, .int .i64 a0_2] 23 (0, 0)) (by (with_reducible repeat (first | refine blk_drewN ?_ _ | refine blk_drew ?_ | refine blk_alloc ?_ _)); exact BK226.out) hb); have n1_ := Aside0.mk (blk_below (g := gb227) (o := .cells #[.int .i64 a1_0, .int .i64 a1_1, .int .i64 a1_2] 23 (0, 0)) (by (with_reducible repeat (first | refine blk_drewN ?_ _ | refine blk_drew ?_ | refine blk_alloc ?_ _)); exact BK227.out) hb); have n2_ := Aside0.mk (below_step (by repeat (first | (with_reducible first | exact HB.out | apply below_alloc | apply pw_below_drewN | apply below_drew1 | refine below_set ?_ GE226.out | refine below_set ?_ GE227.out) | exact HB.out)) hb); have n3_ := Aside0.mk (hbox); have n4_ := Aside0.mk ((by rw [hg]; exact (below_size (by repeat (first | (with_reducible first | exact HB.out | apply below_alloc | apply pw_below_drewN | apply below_drew1 | refine below_set ?_ GE226.out | refine below_set ?_ GE227.out) | exact HB.out))) : w.heap.size ≤ gb228)); have n5_ := Aside0.mk ((by rw [hg]; exact (below_size (by repeat (first | (with_reducible first | exact HB.out | apply below_alloc | apply pw_below_drewN | apply below_drew1 | refine below_set ?_ GE226.out | refine below_set ?_ GE227.out) | exact HB.out))) : w.heap.size ≤ gb228)); have n6_ := Aside0.mk ((by rw [hg]; exact Nat.ne_of_lt (blk_lt (g := gb226) (o := .cells #[.int .i64 a0_0, .int .i64 a0_1, .int .i64 a0_2] 23 (0, 0)) (by (with_reducible repeat (first | refine blk_drewN ?_ _ | refine blk_drew ?_ | refine blk_alloc ?_ _)); exact BK226.out)) : gb226 ≠ gb228)); have n7_ := Aside0.mk ((by rw [hg]; exact Nat.ne_of_gt (blk_lt (g := gb226) (o := .cells #[.int .i64 a0_0, .int .i64 a0_1, .int .i64 a0_2] 23 (0, 0)) (by (with_reducible repeat (first | refine blk_drewN ?_ _ | refine blk_drew ?_ | refine blk_alloc ?_ _)); exact BK226.out)) : gb228 ≠ gb226)); have n8_ := Aside0.mk ((by rw [hg]; exact Nat.ne_of_lt (blk_lt (g := gb227) (o := .cells #[.int .i64 a1_0, .int .i64 a1_1, .int .i64 a1_2] 23 (0, 0)) (by (with_reducible repeat (first | refine blk_drewN ?_ _ | refine blk_drew ?_ | refine blk_alloc ?_ _)); exact BK227.out)) : gb227 ≠ gb228)); have n9_ := Aside0.mk ((by rw [hg]; exact Nat.ne_of_gt (blk_lt (g := gb227) (o := .cells #[.int .i64 a1_0, .int .i64 a1_1, .int .i64 a1_2] 23 (0, 0)) (by (with_reducible repeat (first | refine blk_drewN ?_ _ | refine blk_drew ?_ | refine blk_alloc ?_ _)); exact BK227.out)) : gb228 ≠ gb227)); clear BK226; clear BK227; clear HB; have BK226 := n0_; have BK227 := n1_; have HB := n2_; have BK228 := n3_; have GW228 := n4_; have GE228 := n5_; have NB226_228 := n6_; have NB228_226 := n7_; have NB227_228 := n8_; have NB228_227 := n9_; clear n0_ n1_ n2_ n3_ n4_ n5_ n6_ n7_ n8_ n9_; clear hb hbox hg))
  (try simp only [Act.put, List.setIfInBounds_toArray, List.set_cons_zero, List.set_cons_succ])
  go_cut [13] (fun v13 wc => ∃ (kq : Nat) (x13_2 : Bool), v13 = .bool x13_2 ∧ Aside0 (marlinspikeref06_Sub.j0 kq x13_2 a0_0 a0_1 a0_2 a1_0 a1_1 a1_2 = some (r1, r2, r3, r4)) ∧ Aside0 (kq ≤ k) ∧ Aside0 (wc.heap[gb226]? = some (.cells #[.int .i64 a0_0, .int .i64 a0_1, .int .i64 a0_2] 23 (0, 0))) ∧ Aside0 (wc.heap[gb227]? = some (.cells #[.int .i64 a1_0, .int .i64 a1_1, .int .i64 a1_2] 23 (0, 0))) ∧ Aside0 (wc.heap[gb228]? = some (.cells #[.int .i64 0, .int .i64 0, .int .i64 0] 23 (0, 0))) ∧ Aside0 (Below w.heap.size w wc))
  case first =>
    have H := HC3.out
    clear HC3
    replace H := Option.bind_eq_some_iff.mp H
    obtain ⟨t229, A70, H⟩ := H
    replace H : (if t229 = true then ((marlinspikeref06_Right.f a1_0 a1_1 a1_2).bind fun t230 => (marlinspikeref06_Sub.j0 k (!t230) a0_0 a0_1 a0_2 a1_0 a1_1 a1_2)) else (marlinspikeref06_Sub.j0 k true a0_0 a0_1 a0_2 a1_0 a1_1 a1_2)) = some (r1, r2, r3, r4) := H
    have A7 := Aside0.mk A70
    clear A70
    by_cases c8 : t229 = true
    · subst c8
      have H1 : ((marlinspikeref06_Right.f a1_0 a1_1 a1_2).bind fun t230 => (marlinspikeref06_Sub.j0 k (!t230) a0_0 a0_1 a0_2 a1_0 a1_1 a1_2)) = some (r1, r2, r3, r4) := by rw [if_pos rfl] at H; exact H
      clear H
      have H := H1
      clear H1
      replace H := Option.bind_eq_some_iff.mp H
      obtain ⟨t230, A90, H⟩ := H
      replace H : (marlinspikeref06_Sub.j0 k (!t230) a0_0 a0_1 a0_2 a1_0 a1_1 a1_2) = some (r1, r2, r3, r4) := H
      have A9 := Aside0.mk A90
      clear A90
      have H' := Aside0.mk H
      clear H
      have hnb10 := NB226_227.out
      have hnc10 := NB227_226.out
      have hnb11 := NB226_228.out
      have hnc11 := NB228_226.out
      have hcz12_0 : w6.cell? ⟨gb226, 0, none⟩ = some (.int .i64 a0_0) := (blk_cell BK226.out 0).trans rfl
      have hcz12_1 : w6.cell? ⟨gb226, 1, none⟩ = some (.int .i64 a0_1) := (blk_cell BK226.out 1).trans rfl
      have hcz12_2 : w6.cell? ⟨gb226, 2, none⟩ = some (.int .i64 a0_2) := (blk_cell BK226.out 2).trans rfl
      have hfz12_0 := blk_frozen BK226.out 0
      have hfz12_1 := blk_frozen BK226.out 1
      have hfz12_2 := blk_frozen BK226.out 2
      go_wp2_with (first | ((with_reducible refine gate_callee (f := 16) rfl ?_); refine goesL_ (some 7) rfl rfl Tryd.func16 (by kernel_rfl) rfl #[.agg #[.int .i64 a0_0, .int .i64 a0_1, .int .i64 a0_2]] rfl (by (try simp only [List.map_toArray, List.map_cons, List.map_nil]); first | done | rfl | (simp only [List.length_drop, List.length_take]; rfl)) ?_; (with_reducible refine (marlinspikeref06_Right.calls a0_0 a0_1 a0_2 true _ A7.out).mono ?_); rintro e w13 ⟨rfl, hb⟩; refine ⟨_, rfl, ?_⟩; have n0_ := Aside0.mk (blk_below (g := gb226) (o := .cells #[.int .i64 a0_0, .int .i64 a0_1, .int .i64 a0_2] 23 (0, 0)) (by (with_reducible repeat (first | refine blk_drewN ?_ _ | refine blk_drew ?_ | refine blk_alloc ?_ _)); exact BK226.out) hb); have n1_ := Aside0.mk (blk_below (g := gb227) (o := .cells #[.int .i64 a1_0, .int .i64 a1_1, .int .i64 a1_2] 23 (0, 0)) (by (with_reducible repeat (first | refine blk_drewN ?_ _ | refine blk_drew ?_ | refine blk_alloc ?_ _)); exact BK227.out) hb); have n2_ := Aside0.mk (blk_below (g := gb228) (o := .cells #[.int .i64 0, .int .i64 0, .int .i64 0] 23 (0, 0)) (by (with_reducible repeat (first | refine blk_drewN ?_ _ | refine blk_drew ?_ | refine blk_alloc ?_ _)); exact BK228.out) hb); have n3_ := Aside0.mk (below_step (by repeat (first | (with_reducible first | exact HB.out | apply below_alloc | apply pw_below_drewN | apply below_drew1 | refine below_set ?_ GE226.out | refine below_set ?_ GE227.out | refine below_set ?_ GE228.out) | exact HB.out)) hb); clear BK226; clear BK227; clear BK228; clear HB; have BK226 := n0_; have BK227 := n1_; have BK228 := n2_; have HB := n3_; clear n0_ n1_ n2_ n3_; (try clear hb); (try clear hb2); (try clear hk); (try clear hi); have hnb14 := NB227_228.out; have hnc14 := NB228_227.out; have hcz15_0 : w13.cell? ⟨gb227, 0, none⟩ = some (.int .i64 a1_0) := (blk_cell BK227.out 0).trans rfl; have hcz15_1 : w13.cell? ⟨gb227, 1, none⟩ = some (.int .i64 a1_1) := (blk_cell BK227.out 1).trans rfl; have hcz15_2 : w13.cell? ⟨gb227, 2, none⟩ = some (.int .i64 a1_2) := (blk_cell BK227.out 2).trans rfl; have hfz15_0 := blk_frozen BK227.out 0; have hfz15_1 := blk_frozen BK227.out 1; have hfz15_2 := blk_frozen BK227.out 2) | (go_at_call 16; (with_reducible refine (marlinspikeref06_Right.calls a1_0 a1_1 a1_2 t230 _ A9.out).mono ?_); rintro e w16 ⟨rfl, hb⟩; have n0_ := Aside0.mk (blk_below (g := gb226) (o := .cells #[.int .i64 a0_0, .int .i64 a0_1, .int .i64 a0_2] 23 (0, 0)) (by (with_reducible repeat (first | refine blk_drewN ?_ _ | refine blk_drew ?_ | refine blk_alloc ?_ _)); exact BK226.out) hb); have n1_ := Aside0.mk (blk_below (g := gb227) (o := .cells #[.int .i64 a1_0, .int .i64 a1_1, .int .i64 a1_2] 23 (0, 0)) (by (with_reducible repeat (first | refine blk_drewN ?_ _ | refine blk_drew ?_ | refine blk_alloc ?_ _)); exact BK227.out) hb); have n2_ := Aside0.mk (blk_below (g := gb228) (o := .cells #[.int .i64 0, .int .i64 0, .int .i64 0] 23 (0, 0)) (by (with_reducible repeat (first | refine blk_drewN ?_ _ | refine blk_drew ?_ | refine blk_alloc ?_ _)); exact BK228.out) hb); have n3_ := Aside0.mk (below_step (by repeat (first | (with_reducible first | exact HB.out | apply below_alloc | apply pw_below_drewN | apply below_drew1 | refine below_set ?_ GE226.out | refine below_set ?_ GE227.out | refine below_set ?_ GE228.out) | exact HB.out)) hb); clear BK226; clear BK227; clear BK228; clear HB; have BK226 := n0_; have BK227 := n1_; have BK228 := n2_; have HB := n3_; clear n0_ n1_ n2_ n3_; (try clear hb); (try clear hb2); (try clear hk); (try clear hi)))
      go_meet
      case rel => exact ⟨_, (!t230), (by first | rfl | (simp; done) | (simp [*]; done) | (simp [wrap64]; done)), H', ⟨by first | omega | exact Nat.le_refl _⟩, ⟨by (with_reducible repeat (first | refine blk_drewN ?_ _ | refine blk_drew ?_ | refine blk_alloc ?_ _)); exact BK226.out⟩, ⟨by (with_reducible repeat (first | refine blk_drewN ?_ _ | refine blk_drew ?_ | refine blk_alloc ?_ _)); exact BK227.out⟩, ⟨by (with_reducible repeat (first | refine blk_drewN ?_ _ | refine blk_drew ?_ | refine blk_alloc ?_ _)); exact BK228.out⟩, ⟨by repeat (first | (with_reducible first | exact HB.out | apply below_alloc | apply pw_below_drewN | apply below_drew1 | refine below_set ?_ GE226.out | refine below_set ?_ GE227.out | refine below_set ?_ GE228.out) | exact HB.out)⟩⟩
    · replace c8 := Bool.eq_false_iff.mpr c8
      subst c8
      have H1 : (marlinspikeref06_Sub.j0 k true a0_0 a0_1 a0_2 a1_0 a1_1 a1_2) = some (r1, r2, r3, r4) := by rw [if_neg (show ¬ (false = true) by decide)] at H; exact H
      clear H
      have H := H1
      clear H1
      have H' := Aside0.mk H
      clear H
      have hnb17 := NB226_227.out
      have hnc17 := NB227_226.out
      have hnb18 := NB226_228.out
      have hnc18 := NB228_226.out
      have hcz19_0 : w6.cell? ⟨gb226, 0, none⟩ = some (.int .i64 a0_0) := (blk_cell BK226.out 0).trans rfl
      have hcz19_1 : w6.cell? ⟨gb226, 1, none⟩ = some (.int .i64 a0_1) := (blk_cell BK226.out 1).trans rfl
      have hcz19_2 : w6.cell? ⟨gb226, 2, none⟩ = some (.int .i64 a0_2) := (blk_cell BK226.out 2).trans rfl
      have hfz19_0 := blk_frozen BK226.out 0
      have hfz19_1 := blk_frozen BK226.out 1
      have hfz19_2 := blk_frozen BK226.out 2
      go_wp2_with (first | ((with_reducible refine gate_callee (f := 16) rfl ?_); refine goesL_ (some 7) rfl rfl Tryd.func16 (by kernel_rfl) rfl #[.agg #[.int .i64 a0_0, .int .i64 a0_1, .int .i64 a0_2]] rfl (by (try simp only [List.map_toArray, List.map_cons, List.map_nil]); first | done | rfl | (simp only [List.length_drop, List.length_take]; rfl)) ?_; (with_reducible refine (marlinspikeref06_Right.calls a0_0 a0_1 a0_2 false _ A7.out).mono ?_); rintro e w20 ⟨rfl, hb⟩; refine ⟨_, rfl, ?_⟩; have n0_ := Aside0.mk (blk_below (g := gb226) (o := .cells #[.int .i64 a0_0, .int .i64 a0_1, .int .i64 a0_2] 23 (0, 0)) (by (with_reducible repeat (first | refine blk_drewN ?_ _ | refine blk_drew ?_ | refine blk_alloc ?_ _)); exact BK226.out) hb); have n1_ := Aside0.mk (blk_below (g := gb227) (o := .cells #[.int .i64 a1_0, .int .i64 a1_1, .int .i64 a1_2] 23 (0, 0)) (by (with_reducible repeat (first | refine blk_drewN ?_ _ | refine blk_drew ?_ | refine blk_alloc ?_ _)); exact BK227.out) hb); have n2_ := Aside0.mk (blk_below (g := gb228) (o := .cells #[.int .i64 0, .int .i64 0, .int .i64 0] 23 (0, 0)) (by (with_reducible repeat (first | refine blk_drewN ?_ _ | refine blk_drew ?_ | refine blk_alloc ?_ _)); exact BK228.out) hb); have n3_ := Aside0.mk (below_step (by repeat (first | (with_reducible first | exact HB.out | apply below_alloc | apply pw_below_drewN | apply below_drew1 | refine below_set ?_ GE226.out | refine below_set ?_ GE227.out | refine below_set ?_ GE228.out) | exact HB.out)) hb); clear BK226; clear BK227; clear BK228; clear HB; have BK226 := n0_; have BK227 := n1_; have BK228 := n2_; have HB := n3_; clear n0_ n1_ n2_ n3_; (try clear hb); (try clear hb2); (try clear hk); (try clear hi)))
      go_meet
      case rel => exact ⟨_, (true), (by first | rfl | (simp; done) | (simp [*]; done) | (simp [wrap64]; done)), H', ⟨by first | omega | exact Nat.le_refl _⟩, ⟨by (with_reducible repeat (first | refine blk_drewN ?_ _ | refine blk_drew ?_ | refine blk_alloc ?_ _)); exact BK226.out⟩, ⟨by (with_reducible repeat (first | refine blk_drewN ?_ _ | refine blk_drew ?_ | refine blk_alloc ?_ _)); exact BK227.out⟩, ⟨by (with_reducible repeat (first | refine blk_drewN ?_ _ | refine blk_drew ?_ | refine blk_alloc ?_ _)); exact BK228.out⟩, ⟨by repeat (first | (with_reducible first | exact HB.out | apply below_alloc | apply pw_below_drewN | apply below_drew1 | refine below_set ?_ GE226.out | refine below_set ?_ GE227.out | refine below_set ?_ GE228.out) | exact HB.out)⟩⟩
  case rest =>
    clear HC3
    try clear c1
    try clear c2
    try clear p2
    try clear c8
    try clear c10
    try clear c11
    try clear c14
    try clear c16
    try clear c17
    try clear c18
    try clear hcz12_0
    try clear hcz12_1
    try clear hcz12_2
    try clear hcz15_0
    try clear hcz15_1
    try clear hcz15_2
    try clear hcz19_0
    try clear hcz19_1
    try clear hcz19_2
    try clear hfz12_0
    try clear hfz12_1
    try clear hfz12_2
    try clear hfz15_0
    try clear hfz15_1
    try clear hfz15_2
    try clear hfz19_0
    try clear hfz19_1
    try clear hfz19_2
    obtain ⟨kq, x13_2, rfl, HA, HJ2, BK226, BK227, BK228, HB⟩ := hcut
    cases kq with
    | zero => exact absurd HA.out (by simp [marlinspikeref06_Sub.j0])
    | succ kj2 =>
      have H := HA.out
      clear HA
      simp only [marlinspikeref06_Sub.j0] at H
      by_cases c21 : x13_2 = true
      · subst c21
        have H1 : (some (0, 0, 0, 1)) = some (r1, r2, r3, r4) := by rw [if_pos rfl] at H; exact H
        clear H
        have H := H1
        clear H1
        simp only [Option.some.injEq, Prod.mk.injEq] at H
        obtain ⟨rfl, rfl, rfl, rfl⟩ := H
        have hnb22 := NB228_226.out
        have hnc22 := NB226_228.out
        have hnb23 := NB228_227.out
        have hnc23 := NB227_228.out
        have hcz24_0 : wc.cell? ⟨gb228, 0, none⟩ = some (.int .i64 0) := (blk_cell BK228.out 0).trans rfl
        have hcz24_1 : wc.cell? ⟨gb228, 1, none⟩ = some (.int .i64 0) := (blk_cell BK228.out 1).trans rfl
        have hcz24_2 : wc.cell? ⟨gb228, 2, none⟩ = some (.int .i64 0) := (blk_cell BK228.out 2).trans rfl
        have hfz24_0 := blk_frozen BK228.out 0
        have hfz24_1 := blk_frozen BK228.out 1
        have hfz24_2 := blk_frozen BK228.out 2
        go_wp2
        refine bodyPost_ret (results_ct rfl _ _ gb228 23 #[.int .i64 0, .int .i64 0, .int .i64 0] (0, 0) _ rfl (by (with_reducible repeat (first | refine blk_drewN ?_ _ | refine blk_drew ?_ | refine blk_alloc ?_ _)); refine blk_put (cs := #[.int .i64 0, .int .i64 0, .int .i64 0]) ?_ 2 _ rfl; (with_reducible repeat (first | refine blk_drewN ?_ _ | refine blk_drew ?_ | refine blk_alloc ?_ _)); refine blk_put (cs := #[.int .i64 0, .int .i64 0, .int .i64 0]) ?_ 1 _ rfl; (with_reducible repeat (first | refine blk_drewN ?_ _ | refine blk_drew ?_ | refine blk_alloc ?_ _)); refine blk_put (cs := #[.int .i64 0, .int .i64 0, .int .i64 0]) ?_ 0 _ rfl; (with_reducible repeat (first | refine blk_drewN ?_ _ | refine blk_drew ?_ | refine blk_alloc ?_ _)); exact BK228.out) Tryd.underlying23 rfl (by kernel_rfl)) rfl ?_
        exact ⟨by first | rfl | (simp [errW_none, errW_some] <;> rfl) | (simp [*, errW_none, errW_some] <;> rfl), by repeat (first | (with_reducible first | exact HB.out | apply below_alloc | apply pw_below_drewN | apply below_drew1 | refine below_set ?_ GE226.out | refine below_set ?_ GE227.out | refine below_set ?_ GE228.out) | exact HB.out)⟩
      · replace c21 := Bool.eq_false_iff.mpr c21
        subst c21
        have H1 : ((marlinspikeref06_Fits.f a1_0 a1_1 a1_2 a0_0 a0_1 a0_2).bind fun t231 => (if t231 = true then (some (wrap64 (a0_0 - a1_0), wrap64 (a0_1 - a1_1), wrap64 (a0_2 - a1_2), 0)) else (some (0, 0, 0, 5)))) = some (r1, r2, r3, r4) := by rw [if_neg (show ¬ (false = true) by decide)] at H; exact H
        clear H
        have H := H1
        clear H1
        replace H := Option.bind_eq_some_iff.mp H
        obtain ⟨t231, A250, H⟩ := H
        replace H : (if t231 = true then (some (wrap64 (a0_0 - a1_0), wrap64 (a0_1 - a1_1), wrap64 (a0_2 - a1_2), 0)) else (some (0, 0, 0, 5))) = some (r1, r2, r3, r4) := H
        have A25 := Aside0.mk A250
        clear A250
        by_cases c26 : t231 = true
        · subst c26
          have H1 : (some (wrap64 (a0_0 - a1_0), wrap64 (a0_1 - a1_1), wrap64 (a0_2 - a1_2), 0)) = some (r1, r2, r3, r4) := by rw [if_pos rfl] at H; exact H
          clear H
          have H := H1
          clear H1
          simp only [Option.some.injEq, Prod.mk.injEq] at H
          obtain ⟨rfl, rfl, rfl, rfl⟩ := H
          have hnb27 := NB227_226.out
          have hnc27 := NB226_227.out
          have hnb28 := NB227_228.out
          have hnc28 := NB228_227.out
          have hcz29_0 : wc.cell? ⟨gb227, 0, none⟩ = some (.int .i64 a1_0) := (blk_cell BK227.out 0).trans rfl
          have hcz29_1 : wc.cell? ⟨gb227, 1, none⟩ = some (.int .i64 a1_1) := (blk_cell BK227.out 1).trans rfl
          have hcz29_2 : wc.cell? ⟨gb227, 2, none⟩ = some (.int .i64 a1_2) := (blk_cell BK227.out 2).trans rfl
          have hfz29_0 := blk_frozen BK227.out 0
          have hfz29_1 := blk_frozen BK227.out 1
          have hfz29_2 := blk_frozen BK227.out 2
          have hnb30 := NB226_228.out
          have hnc30 := NB228_226.out
          have hcz31_0 : wc.cell? ⟨gb226, 0, none⟩ = some (.int .i64 a0_0) := (blk_cell BK226.out 0).trans rfl
          have hcz31_1 : wc.cell? ⟨gb226, 1, none⟩ = some (.int .i64 a0_1) := (blk_cell BK226.out 1).trans rfl
          have hcz31_2 : wc.cell? ⟨gb226, 2, none⟩ = some (.int .i64 a0_2) := (blk_cell BK226.out 2).trans rfl
          have hfz31_0 := blk_frozen BK226.out 0
          have hfz31_1 := blk_frozen BK226.out 1
          have hfz31_2 := blk_frozen BK226.out 2
          go_wp2_with (first | ((with_reducible refine gate_callee (f := 18) rfl ?_); refine goesL_ (some 17) rfl rfl Tryd.func18 (by kernel_rfl) rfl #[.agg #[.int .i64 a1_0, .int .i64 a1_1, .int .i64 a1_2], .agg #[.int .i64 a0_0, .int .i64 a0_1, .int .i64 a0_2]] rfl (by (try simp only [List.map_toArray, List.map_cons, List.map_nil]); first | done | rfl | (simp only [List.length_drop, List.length_take]; rfl)) ?_; (with_reducible refine (marlinspikeref06_Fits.calls a1_0 a1_1 a1_2 a0_0 a0_1 a0_2 true _ A25.out).mono ?_); rintro e w32 ⟨rfl, hb⟩; refine ⟨_, rfl, ?_⟩; have n0_ := Aside0.mk (blk_below (g := gb226) (o := .cells #[.int .i64 a0_0, .int .i64 a0_1, .int .i64 a0_2] 23 (0, 0)) (by (with_reducible repeat (first | refine blk_drewN ?_ _ | refine blk_drew ?_ | refine blk_alloc ?_ _)); exact BK226.out) hb); have n1_ := Aside0.mk (blk_below (g := gb227) (o := .cells #[.int .i64 a1_0, .int .i64 a1_1, .int .i64 a1_2] 23 (0, 0)) (by (with_reducible repeat (first | refine blk_drewN ?_ _ | refine blk_drew ?_ | refine blk_alloc ?_ _)); exact BK227.out) hb); have n2_ := Aside0.mk (blk_below (g := gb228) (o := .cells #[.int .i64 0, .int .i64 0, .int .i64 0] 23 (0, 0)) (by (with_reducible repeat (first | refine blk_drewN ?_ _ | refine blk_drew ?_ | refine blk_alloc ?_ _)); exact BK228.out) hb); have n3_ := Aside0.mk (below_step (by repeat (first | (with_reducible first | exact HB.out | apply below_alloc | apply pw_below_drewN | apply below_drew1 | refine below_set ?_ GE226.out | refine below_set ?_ GE227.out | refine below_set ?_ GE228.out) | exact HB.out)) hb); clear BK226; clear BK227; clear BK228; clear HB; have BK226 := n0_; have BK227 := n1_; have BK228 := n2_; have HB := n3_; clear n0_ n1_ n2_ n3_; (try clear hb); (try clear hb2); (try clear hk); (try clear hi); have hcz33_0 : w32.cell? ⟨gb226, 0, none⟩ = some (.int .i64 a0_0) := (blk_cell BK226.out 0).trans rfl; have hcz33_1 : w32.cell? ⟨gb226, 1, none⟩ = some (.int .i64 a0_1) := (blk_cell BK226.out 1).trans rfl; have hcz33_2 : w32.cell? ⟨gb226, 2, none⟩ = some (.int .i64 a0_2) := (blk_cell BK226.out 2).trans rfl; have hfz33_0 := blk_frozen BK226.out 0; have hfz33_1 := blk_frozen BK226.out 1; have hfz33_2 := blk_frozen BK226.out 2; have hcz34_0 : w32.cell? ⟨gb227, 0, none⟩ = some (.int .i64 a1_0) := (blk_cell BK227.out 0).trans rfl; have hcz34_1 : w32.cell? ⟨gb227, 1, none⟩ = some (.int .i64 a1_1) := (blk_cell BK227.out 1).trans rfl; have hcz34_2 : w32.cell? ⟨gb227, 2, none⟩ = some (.int .i64 a1_2) := (blk_cell BK227.out 2).trans rfl; have hfz34_0 := blk_frozen BK227.out 0; have hfz34_1 := blk_frozen BK227.out 1; have hfz34_2 := blk_frozen BK227.out 2; have hcz35_0 : w32.cell? ⟨gb228, 0, none⟩ = some (.int .i64 0) := (blk_cell BK228.out 0).trans rfl; have hcz35_1 : w32.cell? ⟨gb228, 1, none⟩ = some (.int .i64 0) := (blk_cell BK228.out 1).trans rfl; have hcz35_2 : w32.cell? ⟨gb228, 2, none⟩ = some (.int .i64 0) := (blk_cell BK228.out 2).trans rfl; have hfz35_0 := blk_frozen BK228.out 0; have hfz35_1 := blk_frozen BK228.out 1; have hfz35_2 := blk_frozen BK228.out 2))
          refine bodyPost_ret (results_ct rfl _ _ gb228 23 #[.int .i64 (wrap64 (a0_0 - a1_0)), .int .i64 (wrap64 (a0_1 - a1_1)), .int .i64 (wrap64 (a0_2 - a1_2))] (0, 0) _ rfl (by (with_reducible repeat (first | refine blk_drewN ?_ _ | refine blk_drew ?_ | refine blk_alloc ?_ _)); refine blk_put (cs := #[.int .i64 (wrap64 (a0_0 - a1_0)), .int .i64 (wrap64 (a0_1 - a1_1)), .int .i64 0]) ?_ 2 _ rfl; (with_reducible repeat (first | refine blk_drewN ?_ _ | refine blk_drew ?_ | refine blk_alloc ?_ _)); refine blk_put (cs := #[.int .i64 (wrap64 (a0_0 - a1_0)), .int .i64 0, .int .i64 0]) ?_ 1 _ rfl; (with_reducible repeat (first | refine blk_drewN ?_ _ | refine blk_drew ?_ | refine blk_alloc ?_ _)); refine blk_put (cs := #[.int .i64 0, .int .i64 0, .int .i64 0]) ?_ 0 _ rfl; (with_reducible repeat (first | refine blk_drewN ?_ _ | refine blk_drew ?_ | refine blk_alloc ?_ _)); exact BK228.out) Tryd.underlying23 rfl (by kernel_rfl)) rfl ?_
          exact ⟨by first | rfl | (simp [errW_none, errW_some] <;> rfl) | (simp [*, errW_none, errW_some] <;> rfl), by repeat (first | (with_reducible first | exact HB.out | apply below_alloc | apply pw_below_drewN | apply below_drew1 | refine below_set ?_ GE226.out | refine below_set ?_ GE227.out | refine below_set ?_ GE228.out) | exact HB.out)⟩
        · replace c26 := Bool.eq_false_iff.mpr c26
          subst c26
          have H1 : (some (0, 0, 0, 5)) = some (r1, r2, r3, r4) := by rw [if_neg (show ¬ (false = true) by decide)] at H; exact H
          clear H
          have H := H1
          clear H1
          simp only [Option.some.injEq, Prod.mk.injEq] at H
          obtain ⟨rfl, rfl, rfl, rfl⟩ := H
          have hnb36 := NB227_226.out
          have hnc36 := NB226_227.out
          have hnb37 := NB227_228.out
          have hnc37 := NB228_227.out
          have hcz38_0 : wc.cell? ⟨gb227, 0, none⟩ = some (.int .i64 a1_0) := (blk_cell BK227.out 0).trans rfl
          have hcz38_1 : wc.cell? ⟨gb227, 1, none⟩ = some (.int .i64 a1_1) := (blk_cell BK227.out 1).trans rfl
          have hcz38_2 : wc.cell? ⟨gb227, 2, none⟩ = some (.int .i64 a1_2) := (blk_cell BK227.out 2).trans rfl
          have hfz38_0 := blk_frozen BK227.out 0
          have hfz38_1 := blk_frozen BK227.out 1
          have hfz38_2 := blk_frozen BK227.out 2
          have hnb39 := NB226_228.out
          have hnc39 := NB228_226.out
          have hcz40_0 : wc.cell? ⟨gb226, 0, none⟩ = some (.int .i64 a0_0) := (blk_cell BK226.out 0).trans rfl
          have hcz40_1 : wc.cell? ⟨gb226, 1, none⟩ = some (.int .i64 a0_1) := (blk_cell BK226.out 1).trans rfl
          have hcz40_2 : wc.cell? ⟨gb226, 2, none⟩ = some (.int .i64 a0_2) := (blk_cell BK226.out 2).trans rfl
          have hfz40_0 := blk_frozen BK226.out 0
          have hfz40_1 := blk_frozen BK226.out 1
          have hfz40_2 := blk_frozen BK226.out 2
          go_wp2_with (first | ((with_reducible refine gate_callee (f := 18) rfl ?_); refine goesL_ (some 17) rfl rfl Tryd.func18 (by kernel_rfl) rfl #[.agg #[.int .i64 a1_0, .int .i64 a1_1, .int .i64 a1_2], .agg #[.int .i64 a0_0, .int .i64 a0_1, .int .i64 a0_2]] rfl (by (try simp only [List.map_toArray, List.map_cons, List.map_nil]); first | done | rfl | (simp only [List.length_drop, List.length_take]; rfl)) ?_; (with_reducible refine (marlinspikeref06_Fits.calls a1_0 a1_1 a1_2 a0_0 a0_1 a0_2 false _ A25.out).mono ?_); rintro e w41 ⟨rfl, hb⟩; refine ⟨_, rfl, ?_⟩; have n0_ := Aside0.mk (blk_below (g := gb226) (o := .cells #[.int .i64 a0_0, .int .i64 a0_1, .int .i64 a0_2] 23 (0, 0)) (by (with_reducible repeat (first | refine blk_drewN ?_ _ | refine blk_drew ?_ | refine blk_alloc ?_ _)); exact BK226.out) hb); have n1_ := Aside0.mk (blk_below (g := gb227) (o := .cells #[.int .i64 a1_0, .int .i64 a1_1, .int .i64 a1_2] 23 (0, 0)) (by (with_reducible repeat (first | refine blk_drewN ?_ _ | refine blk_drew ?_ | refine blk_alloc ?_ _)); exact BK227.out) hb); have n2_ := Aside0.mk (blk_below (g := gb228) (o := .cells #[.int .i64 0, .int .i64 0, .int .i64 0] 23 (0, 0)) (by (with_reducible repeat (first | refine blk_drewN ?_ _ | refine blk_drew ?_ | refine blk_alloc ?_ _)); exact BK228.out) hb); have n3_ := Aside0.mk (below_step (by repeat (first | (with_reducible first | exact HB.out | apply below_alloc | apply pw_below_drewN | apply below_drew1 | refine below_set ?_ GE226.out | refine below_set ?_ GE227.out | refine below_set ?_ GE228.out) | exact HB.out)) hb); clear BK226; clear BK227; clear BK228; clear HB; have BK226 := n0_; have BK227 := n1_; have BK228 := n2_; have HB := n3_; clear n0_ n1_ n2_ n3_; (try clear hb); (try clear hb2); (try clear hk); (try clear hi); have hcz42_0 : w41.cell? ⟨gb228, 0, none⟩ = some (.int .i64 0) := (blk_cell BK228.out 0).trans rfl; have hcz42_1 : w41.cell? ⟨gb228, 1, none⟩ = some (.int .i64 0) := (blk_cell BK228.out 1).trans rfl; have hcz42_2 : w41.cell? ⟨gb228, 2, none⟩ = some (.int .i64 0) := (blk_cell BK228.out 2).trans rfl; have hfz42_0 := blk_frozen BK228.out 0; have hfz42_1 := blk_frozen BK228.out 1; have hfz42_2 := blk_frozen BK228.out 2))
          refine bodyPost_ret (results_ct rfl _ _ gb228 23 #[.int .i64 0, .int .i64 0, .int .i64 0] (0, 0) _ rfl (by (with_reducible repeat (first | refine blk_drewN ?_ _ | refine blk_drew ?_ | refine blk_alloc ?_ _)); refine blk_put (cs := #[.int .i64 0, .int .i64 0, .int .i64 0]) ?_ 2 _ rfl; (with_reducible repeat (first | refine blk_drewN ?_ _ | refine blk_drew ?_ | refine blk_alloc ?_ _)); refine blk_put (cs := #[.int .i64 0, .int .i64 0, .int .i64 0]) ?_ 1 _ rfl; (with_reducible repeat (first | refine blk_drewN ?_ _ | refine blk_drew ?_ | refine blk_alloc ?_ _)); refine blk_put (cs := #[.int .i64 0, .int .i64 0, .int .i64 0]) ?_ 0 _ rfl; (with_reducible repeat (first | refine blk_drewN ?_ _ | refine blk_drew ?_ | refine blk_alloc ?_ _)); exact BK228.out) Tryd.underlying23 rfl (by kernel_rfl)) rfl ?_
          exact ⟨by first | rfl | (simp [errW_none, errW_some] <;> rfl) | (simp [*, errW_none, errW_some] <;> rfl), by repeat (first | (with_reducible first | exact HB.out | apply below_alloc | apply pw_below_drewN | apply below_drew1 | refine below_set ?_ GE226.out | refine below_set ?_ GE227.out | refine below_set ?_ GE228.out) | exact HB.out)⟩
end Go.Proofs.YtcpikafmclfcfaaDoor.PY
end
section
namespace Go.Proofs.YtcpikafmclfcfaaDoor.Vc
open Go.RowKit Go.Proofs.YtcpikafmclfcfaaDoorW.PrintWords Go.Proofs.YtcpikafmclfcfaaDoorW.PrintLast Go.Proofs.YtcpikafmclfcfaaDoorW.PrintMore Go.Proofs.YtcpikafmclfcfaaDoor.PY Go.Proofs.YtcpikafmclfcfaaDoor.Vl
set_option linter.unusedVariables false
set_option linter.unusedSimpArgs false
def partR (u n : Int) : Int := if u = 0 then 0 else wrap64 (u * Int.tmod n 1073741825)
def partE (u n : Int) : Bool := if u = 0 then true else decide (n ≤ wrap64 (Int.tdiv 1073741824 u))
set_option maxRecDepth 100000 in
theorem part_calls (u n : Int) (w : World) : Calls Tryd.prog 50 #[.int .i64 u, .int .i64 n] w fun e w' => e = .returned (.tuple #[.int .i64 (partR u n), .bool (partE u n)]) ∧ Below w.heap.size w w' := by
  by_cases h : u = 0
  · subst h
    go_enter Tryd.func50, Tryd.ntmps50
    go_wp2
    refine bodyPost_ret (v := .tuple #[.int .i64 0, .bool true]) (by simp [results, Tryd.results50, go_sem]) rfl ⟨rfl, Below.refl _ _⟩
  · have hr := Aside0.mk (show partR u n = wrap64 (u * Int.tmod n 1073741825) from if_neg h)
    have he := Aside0.mk (show partE u n = decide (n ≤ wrap64 (Int.tdiv 1073741824 u)) from if_neg h)
    have hne : (u == 0) = false := by simp [h]
    have hnp : (u = 0) = False := eq_false h
    clear h
    go_enter Tryd.func50, Tryd.ntmps50
    go_wp2_with fail
    refine start_ (n := 10) (S := fun _ => True) (ds := []) #[false, false, false, false, false, false, false, false, false, false] (by kernel_rfl) rfl rfl trivial (fun hHeld => ?_)
    refine pure_ (i := 0) (N := some 8) (v := ?_) (a' := ?_) #[true, false, false, false, false, false, false, false, false, false] rfl rfl (by kernel_rfl) (fun _ _ _ h => h) (Or.inl ⟨by rfl, ?_⟩) ?_ ?_
    rotate_left
    · intro w'
      go_simp
      with_reducible rfl
    rotate_left
    · simp only [Act.put, List.setIfInBounds_toArray, List.set_cons_zero, List.set_cons_succ, i64_w, i32_w]
      rfl
    refine pure_ (i := 1) (N := some 9) (v := ?_) (a' := ?_) #[true, true, false, false, false, false, false, false, false, false] rfl rfl (by kernel_rfl) (fun _ _ _ h => h) (Or.inl ⟨by rfl, ?_⟩) ?_ ?_
    rotate_left
    · intro w'
      go_simp
      with_reducible rfl
    rotate_left
    · simp only [Act.put, List.setIfInBounds_toArray, List.set_cons_zero, List.set_cons_succ, i64_w, i32_w]
      rfl
    refine pure_ (i := 2) (N := some 10) (v := ?_) (a' := ?_) #[true, true, true, false, false, false, false, false, false, false] rfl rfl (by kernel_rfl) (fun _ _ _ h => h) (Or.inl ⟨by rfl, ?_⟩) ?_ ?_
    rotate_left
    · intro w'
      go_simp
      with_reducible rfl
    rotate_left
    · simp only [Act.put, List.setIfInBounds_toArray, List.set_cons_zero, List.set_cons_succ, i64_w, i32_w]
      rfl
    refine pure_ (i := 3) (N := some 11) (v := ?_) (a' := ?_) #[true, true, true, true, false, false, false, false, false, false] rfl rfl (by kernel_rfl) (fun _ _ _ h => h) (Or.inl ⟨by rfl, ?_⟩) ?_ ?_
    rotate_left
    · intro w'
      go_simp
      with_reducible rfl
    rotate_left
    · simp only [Act.put, List.setIfInBounds_toArray, List.set_cons_zero, List.set_cons_succ, i64_w, i32_w]
      rfl
    refine pure_ (i := 4) (N := some 12) (v := ?_) (a' := ?_) #[true, true, true, true, true, false, false, false, false, false] rfl rfl (by kernel_rfl) (fun _ _ _ h => h) (Or.inl ⟨by rfl, ?_⟩) ?_ ?_
    rotate_left
    · intro w'
      go_simp
      with_reducible rfl
    rotate_left
    · simp only [Act.put, List.setIfInBounds_toArray, List.set_cons_zero, List.set_cons_succ, i64_w, i32_w]
      rfl
    refine pure_ (i := 5) (N := some 13) (v := ?_) (a' := ?_) #[true, true, true, true, true, true, false, false, false, false] rfl rfl (by kernel_rfl) (fun _ _ _ h => h) (Or.inl ⟨by rfl, ?_⟩) ?_ ?_
    rotate_left
    · intro w'
      go_simp
      with_reducible rfl
    rotate_left
    · simp only [Act.put, List.setIfInBounds_toArray, List.set_cons_zero, List.set_cons_succ, i64_w, i32_w]
      rfl
    refine pure_ (i := 6) (N := some 14) (v := ?_) (a' := ?_) #[true, true, true, true, true, true, true, false, false, false] rfl rfl (by kernel_rfl) (fun _ _ _ h => h) (Or.inl ⟨by rfl, ?_⟩) ?_ ?_
    rotate_left
    · intro w'
      go_simp
      with_reducible rfl
    rotate_left
    · simp only [Act.put, List.setIfInBounds_toArray, List.set_cons_zero, List.set_cons_succ, i64_w, i32_w]
      rfl
    refine pure_ (i := 7) (N := some 15) (v := ?_) (a' := ?_) #[true, true, true, true, true, true, true, true, false, false] rfl rfl (by kernel_rfl) (fun _ _ _ h => h) (Or.inl ⟨by rfl, ?_⟩) ?_ ?_
    rotate_left
    · intro w'
      go_simp
      with_reducible rfl
    rotate_left
    · simp only [Act.put, List.setIfInBounds_toArray, List.set_cons_zero, List.set_cons_succ, i64_w, i32_w]
      rfl
    refine pure_ (i := 8) (N := some 4) (v := ?_) (a' := ?_) #[true, true, true, true, true, true, true, true, true, false] rfl rfl (by kernel_rfl) (fun _ _ _ h => h) (Or.inl ⟨by rfl, ?_⟩) ?_ ?_
    rotate_left
    · intro w'
      go_simp
      with_reducible rfl
    rotate_left
    · simp only [Act.put, List.setIfInBounds_toArray, List.set_cons_zero, List.set_cons_succ, i64_w, i32_w]
      rfl
    refine pure_ (i := 9) (N := some 5) (v := ?_) (a' := ?_) #[true, true, true, true, true, true, true, true, true, true] rfl rfl (by kernel_rfl) (fun _ _ _ h => h) (Or.inl ⟨by rfl, ?_⟩) ?_ ?_
    rotate_left
    · intro w'
      go_simp
      with_reducible rfl
    rotate_left
    · simp only [Act.put, List.setIfInBounds_toArray, List.set_cons_zero, List.set_cons_succ, i64_w, i32_w]
      rfl
    refine done_ (by kernel_rfl) ?_
    go_wp2
    refine bodyPost_ret (v := .tuple #[.int .i64 (wrap64 (u * Int.tmod n 1073741825)), .bool (decide (n ≤ wrap64 (Int.tdiv 1073741824 u)))]) (by simp [results, Tryd.results50, go_sem]) rfl ⟨by rw [hr.out, he.out], below_drew (Below.refl _ _)⟩
def rtimesV (a b c n : Int) : Int × Int × Int × Int := if rightB a b c = true ∧ 0 ≤ n then (if partE a n = true ∧ partE b n = true ∧ partE c n = true then (partR a n, partR b n, partR c n, 0) else (0, 0, 0, 5)) else (0, 0, 0, 1)
set_option maxHeartbeats 4000000 in
set_option maxRecDepth 100000 in
theorem rTimes_calls (a b c n : Int) (w : World) : Calls Tryd.prog 28 #[vecV a b c, .int .i64 n] w fun e w' =>
    e = .returned (.tuple #[vecV (rtimesV a b c n).1 (rtimesV a b c n).2.1 (rtimesV a b c n).2.2.1, .int .i64 (rtimesV a b c n).2.2.2]) ∧ Below w.heap.size w w' := by
  have hu23 := Tryd.underlying23
  have hR : ∀ u, Calls Tryd.prog 16 #[vecV a b c] u fun e w' => e = .returned (.bool (rightB a b c)) ∧ Below u.heap.size u w' := fun u => marlinspikeref06_Right.calls a b c _ u (by
    unfold marlinspikeref06_Right.f marlinspikeref06_number.f rightB okN
    by_cases h0 : a ≥ 0 <;> by_cases h1 : b ≥ 0 <;> by_cases h2 : c ≥ 0 <;> by_cases h3 : a ≤ 1073741824 <;> by_cases h4 : b ≤ 1073741824 <;> simp [h0, h1, h2, h3, h4] <;> omega)
  have HRR := Aside0.mk hR
  clear hR
  go_enter Tryd.func28, Tryd.ntmps28
  go_wp2_with fail
  obtain ⟨w1, hw1⟩ : ∃ w1, (w.alloc (.cells #[.int .i64 a, .int .i64 b, .int .i64 c] 23)).alloc (.cells #[.int .i64 0, .int .i64 0, .int .i64 0] 23) = w1 := ⟨_, rfl⟩
  have HB1 := Aside0.mk (below_alloc (below_alloc (Below.refl w.heap.size w) (.cells #[.int .i64 a, .int .i64 b, .int .i64 c] 23)) (.cells #[.int .i64 0, .int .i64 0, .int .i64 0] 23))
  have BV1 := Aside0.mk (blk_alloc (blk_new w (.cells #[.int .i64 a, .int .i64 b, .int .i64 c] 23)) (.cells #[.int .i64 0, .int .i64 0, .int .i64 0] 23))
  have BR1 := Aside0.mk (blk_new (w.alloc (.cells #[.int .i64 a, .int .i64 b, .int .i64 c] 23)) (.cells #[.int .i64 0, .int .i64 0, .int .i64 0] 23))
  rw [World.size_alloc] at BR1
  rw [hw1] at HB1 BV1 BR1 ⊢
  clear hw1
  refine (HRR.out _).mono ?_
  rintro e w2 ⟨rfl, hb⟩
  have HB2 := Aside0.mk (below_then HB1.out HB1.out.size hb)
  have BV2 := Aside0.mk (blk_below BV1.out hb)
  have BR2 := Aside0.mk (blk_below BR1.out hb)
  clear hb HB1 BV1 BR1
  obtain ⟨c0, c1, c2⟩ := cell3 BV2.out
  obtain ⟨d0, d1, d2⟩ := cell3 BR2.out
  have df := fun i => blk_frozen BR2.out i
  by_cases hg : rightB a b c = true ∧ 0 ≤ n
  · have HG := Aside0.mk hg
    obtain ⟨hr, hn⟩ := hg
    rw [hr]
    clear hr
    go_wp2_with fail
    refine (part_calls a n _).mono ?_
    rintro e w3 ⟨rfl, hb⟩
    have HB3 := Aside0.mk (below_then HB2.out HB2.out.size hb)
    have BV3 := Aside0.mk (blk_below BV2.out hb)
    have BR3 := Aside0.mk (blk_below BR2.out hb)
    clear hb HB2 BV2 BR2 c0 c1 c2 d0 d1 d2 df
    obtain ⟨c0, c1, c2⟩ := cell3 BV3.out
    go_wp2_with fail
    refine (part_calls b n _).mono ?_
    rintro e w4 ⟨rfl, hb⟩
    have HB4 := Aside0.mk (below_then HB3.out HB3.out.size hb)
    have BV4 := Aside0.mk (blk_below BV3.out hb)
    have BR4 := Aside0.mk (blk_below BR3.out hb)
    clear hb HB3 BV3 BR3 c0 c1 c2
    obtain ⟨c0, c1, c2⟩ := cell3 BV4.out
    go_wp2_with fail
    refine (part_calls c n _).mono ?_
    rintro e w5 ⟨rfl, hb⟩
    have HB5 := Aside0.mk (below_then HB4.out HB4.out.size hb)
    have BR5 := Aside0.mk (blk_below BR4.out hb)
    clear hb HB4 BV4 BR4 c0 c1 c2
    obtain ⟨d0, d1, d2⟩ := cell3 BR5.out
    have df := fun i => blk_frozen BR5.out i
    have HV0 := Aside0.mk (show rtimesV a b c n = if partE a n = true ∧ partE b n = true ∧ partE c n = true then (partR a n, partR b n, partR c n, 0) else (0, 0, 0, 5) from if_pos HG.out)
    obtain ⟨r0, hr0⟩ : ∃ r, partR a n = r := ⟨_, rfl⟩
    obtain ⟨r1, hr1⟩ : ∃ r, partR b n = r := ⟨_, rfl⟩
    obtain ⟨r2, hr2⟩ : ∃ r, partR c n = r := ⟨_, rfl⟩
    obtain ⟨o0, ho0⟩ : ∃ r, partE a n = r := ⟨_, rfl⟩
    obtain ⟨o1, ho1⟩ : ∃ r, partE b n = r := ⟨_, rfl⟩
    obtain ⟨o2, ho2⟩ : ∃ r, partE c n = r := ⟨_, rfl⟩
    rw [hr0, hr1, hr2, ho0, ho1, ho2] at HV0
    rw [hr0, hr1, hr2, ho0, ho1, ho2]
    clear hr0 hr1 hr2 ho0 ho1 ho2
    by_cases ho : o0 = true ∧ o1 = true ∧ o2 = true
    · have HV := Aside0.mk (HV0.out.trans (if_pos ho))
      obtain ⟨rfl, rfl, rfl⟩ := ho
      go_wp2_with fail
      refine bodyPost_ret (results_ve 4 5 rfl _ (w.heap.size + 1) _ r0 r1 r2 0 rfl rfl (put3 BR5.out _ _ _)) rfl ⟨by rw [HV.out], below3 HB5.out (by omega) _ _ _⟩
    · have HV := Aside0.mk (HV0.out.trans (if_neg ho))
      cases o0 <;> cases o1 <;> cases o2 <;> simp at ho
      all_goals
        go_wp2_with fail
        refine bodyPost_ret (results_ve 4 5 rfl _ (w.heap.size + 1) _ 0 0 0 5 rfl rfl (put3 BR5.out _ _ _)) rfl ⟨by rw [HV.out], below3 HB5.out (by omega) _ _ _⟩
  · have HV := Aside0.mk (show rtimesV a b c n = (0, 0, 0, 1) from if_neg hg)
    cases hr : rightB a b c with
    | false =>
      clear hg
      go_wp2_with fail
      refine bodyPost_ret (results_ve 4 5 rfl _ (w.heap.size + 1) _ 0 0 0 1 rfl rfl (put3 BR2.out _ _ _)) rfl ⟨by rw [HV.out], below3 HB2.out (by omega) _ _ _⟩
    | true =>
      have hneg : n < 0 := by
        by_cases h : 0 ≤ n
        · exact absurd ⟨hr, h⟩ hg
        · omega
      clear hg
      go_wp2_with fail
      refine bodyPost_ret (results_ve 4 5 rfl _ (w.heap.size + 1) _ 0 0 0 1 rfl rfl (put3 BR2.out _ _ _)) rfl ⟨by rw [HV.out], below3 HB2.out (by omega) _ _ _⟩
end Go.Proofs.YtcpikafmclfcfaaDoor.Vc
end
section
namespace Go.Proofs.YtcpikafmclfcfaaDoor.Vc
open Go.RowKit Go.Proofs.YtcpikafmclfcfaaDoorW.PrintWords Go.Proofs.YtcpikafmclfcfaaDoorW.PrintLast Go.Proofs.YtcpikafmclfcfaaDoorW.PrintMore Go.Proofs.YtcpikafmclfcfaaDoor.PY Go.Proofs.YtcpikafmclfcfaaDoor.Vl
set_option linter.unusedVariables false
set_option linter.unusedSimpArgs false
theorem snumber_f (a : Int) : marlinspikeref06_number.f a = some (okN a) := by
  unfold marlinspikeref06_number.f okN
  by_cases h : a ≥ 0
  · rw [if_pos h, decide_eq_true (show 0 ≤ a from h)]; simp
  · rw [if_neg h, decide_eq_false (show ¬ 0 ≤ a from h)]; simp
theorem sright_f (a b c : Int) : marlinspikeref06_Right.f a b c = some (rightB a b c) := by
  unfold marlinspikeref06_Right.f rightB
  rw [snumber_f, snumber_f, snumber_f]
  simp only [Option.bind_some]
  cases okN a <;> cases okN b <;> cases okN c <;> rfl
theorem sfits_f (a b c x y z : Int) : marlinspikeref06_Fits.f a b c x y z = some (fitsB a b c x y z) := by
  unfold marlinspikeref06_Fits.f fitsB
  by_cases h0 : a ≤ x <;> by_cases h1 : b ≤ y <;> simp [h0, h1]
theorem rsub_f (a b c x y z : Int) (k : Nat) : marlinspikeref06_Sub.f (k + 1) a b c x y z = some (subV a b c x y z) := by
  unfold marlinspikeref06_Sub.f subV
  rw [sright_f, sright_f]
  simp only [Option.bind_some]
  cases hr : rightB a b c with
  | false => simp [marlinspikeref06_Sub.j0]
  | true =>
    cases hs : rightB x y z with
    | false => simp [marlinspikeref06_Sub.j0]
    | true =>
      obtain ⟨ra, rb, rc⟩ := (right_iff' a b c).1 hr
      obtain ⟨rx, ry, rz⟩ := (right_iff' x y z).1 hs
      rw [if_pos rfl, if_pos ⟨rfl, rfl⟩, each_zero]
      simp only [marlinspikeref06_Sub.j0, Bool.not_true, Bool.false_eq_true, ↓reduceIte, pt]
      rw [sfits_f]
      simp only [Option.bind_some]
      rw [wrap_id (a - x) (by omega) (by omega), wrap_id (b - y) (by omega) (by omega), wrap_id (c - z) (by omega) (by omega)]
      unfold madeV
      cases hf : fitsB x y z a b c with
      | true =>
        simp only [fitsB, Bool.and_eq_true, decide_eq_true_eq] at hf
        rw [if_pos rfl, if_pos ((right_iff' _ _ _).2 ⟨by omega, by omega, by omega⟩)]
      | false =>
        rw [if_neg (by simp), if_neg]
        intro h
        obtain ⟨h1, h2, h3⟩ := (right_iff' _ _ _).1 h
        have : fitsB x y z a b c = true := by simp only [fitsB, Bool.and_eq_true, decide_eq_true_eq]; omega
        rw [hf] at this; cases this
theorem part_f (u n : Int) (hu : 0 ≤ u) (hum : u ≤ 1073741824) (hn : 0 ≤ n) (hnm : n ≤ 9223372036854775807) :
    (partE u n = true ↔ u * n ≤ 1073741824) ∧ (partE u n = true → partR u n = u * n) := by
  unfold partE partR
  by_cases h0 : u = 0
  · subst h0
    simp
  · rw [if_neg h0, if_neg h0]
    have hup : 0 < u := by omega
    have e1 : wrap64 (Int.tdiv (1073741824 : Int) u) = 1073741824 / u := by
      rw [Int.tdiv_eq_ediv_of_nonneg (by omega)]
      have h1 : 0 ≤ (1073741824 : Int) / u := Int.ediv_nonneg (by omega) hu
      have h2 : (1073741824 : Int) / u ≤ 1073741824 := Int.ediv_le_self _ (by omega)
      exact wrap_id _ (by omega) (by omega)
    have key : n ≤ 1073741824 / u ↔ u * n ≤ 1073741824 := by rw [Int.le_ediv_iff_mul_le hup, Int.mul_comm]
    refine ⟨?_, ?_⟩
    · rw [e1, decide_eq_true_eq]; exact key
    · intro h
      rw [e1, decide_eq_true_eq] at h
      have h3 := key.1 h
      have h4 : n ≤ 1073741824 := by
        have : 1 * n ≤ u * n := Int.mul_le_mul_of_nonneg_right (by omega) hn
        omega
      rw [Int.tmod_eq_emod_of_nonneg hn, Int.emod_eq_of_lt hn (by omega)]
      have h5 : 0 ≤ u * n := Int.mul_nonneg hu hn
      exact wrap_id _ (by omega) (by omega)
theorem mul_ok (u n : Int) (hu : 0 ≤ u) (hn : 0 ≤ n) : (mulE u.toNat n.toNat = 0 ∧ mulR u.toNat n.toNat = u * n) ∨ (mulE u.toNat n.toNat = 5 ∧ ¬ u * n ≤ 1073741824) := by
  have h2 : ((u.toNat * n.toNat : Nat) : Int) = u * n := by rw [Int.natCast_mul, Int.toNat_of_nonneg hu, Int.toNat_of_nonneg hn]
  unfold mulE mulR
  by_cases h : u.toNat * n.toNat ≤ 9223372036854775807
  · rw [if_pos h, if_pos h]; exact .inl ⟨rfl, h2⟩
  · rw [if_neg h]; exact .inr ⟨rfl, by omega⟩
theorem rtimes_f (a b c n : Int) (hi : I64 n) : rtimesV a b c n = timesV a b c n := by
  unfold rtimesV timesV
  by_cases hg : rightB a b c = true ∧ 0 ≤ n
  · rw [if_pos hg, if_pos hg]
    obtain ⟨hr, hn⟩ := hg
    obtain ⟨ra, rb, rc⟩ := (right_iff' a b c).1 hr
    obtain ⟨i0, q0⟩ := part_f a n ra.1 ra.2 hn hi.2
    obtain ⟨i1, q1⟩ := part_f b n rb.1 rb.2 hn hi.2
    obtain ⟨i2, q2⟩ := part_f c n rc.1 rc.2 hn hi.2
    have g0 := Int.mul_nonneg ra.1 hn
    have g1 := Int.mul_nonneg rb.1 hn
    have g2 := Int.mul_nonneg rc.1 hn
    have m0 := mul_ok a n ra.1 hn
    have m1 := mul_ok b n rb.1 hn
    have m2 := mul_ok c n rc.1 hn
    unfold eachV
    simp only [pt]
    by_cases hall : a * n ≤ 1073741824 ∧ b * n ≤ 1073741824 ∧ c * n ≤ 1073741824
    · obtain ⟨l0, l1, l2⟩ := hall
      rcases m0 with ⟨x0, y0⟩ | ⟨_, x0⟩
      · rcases m1 with ⟨x1, y1⟩ | ⟨_, x1⟩
        · rcases m2 with ⟨x2, y2⟩ | ⟨_, x2⟩
          · rw [if_pos ⟨i0.2 l0, i1.2 l1, i2.2 l2⟩, if_pos ⟨x0, x1, x2⟩, y0, y1, y2, made_right ((right_iff' _ _ _).2 ⟨⟨g0, l0⟩, ⟨g1, l1⟩, ⟨g2, l2⟩⟩), q0 (i0.2 l0), q1 (i1.2 l1), q2 (i2.2 l2)]
          · exact absurd l2 x2
        · exact absurd l1 x1
      · exact absurd l0 x0
    · rw [if_neg (fun h => hall ⟨i0.1 h.1, i1.1 h.2.1, i2.1 h.2.2⟩)]
      by_cases hz : mulE a.toNat n.toNat = 0 ∧ mulE b.toNat n.toNat = 0 ∧ mulE c.toNat n.toNat = 0
      · rw [if_pos hz]
        obtain ⟨z0, z1, z2⟩ := hz
        rcases m0 with ⟨x0, y0⟩ | ⟨x0, _⟩
        · rcases m1 with ⟨x1, y1⟩ | ⟨x1, _⟩
          · rcases m2 with ⟨x2, y2⟩ | ⟨x2, _⟩
            · rw [y0, y1, y2]
              unfold madeV
              rw [if_neg]
              intro h
              obtain ⟨h0, h1, h2⟩ := (right_iff' _ _ _).1 h
              exact hall ⟨h0.2, h1.2, h2.2⟩
            · rw [x2] at z2; cases z2
          · rw [x1] at z1; cases z1
        · rw [x0] at z0; cases z0
      · rw [if_neg hz]
  · rw [if_neg hg, if_neg hg]
theorem radd_l1 (l : List S23) (hl : l.length ≤ 9223372036854775807) : ∀ (d i : Nat) (s : Int × Int × Int), i + d = l.length → ∀ k, d < k →
    marlinspikeref06_Add.l1 k l i s.1 s.2.1 s.2.2 = some (addG s (l.drop i)) := by
  intro d
  induction d with
  | zero =>
    intro i s hd k hk
    obtain ⟨k, rfl⟩ : ∃ q, k = q + 1 := ⟨k - 1, by omega⟩
    simp only [marlinspikeref06_Add.l1]
    rw [if_neg (by omega), List.drop_eq_nil_of_le (by omega)]
    rfl
  | succ d ih =>
    intro i s hd k hk
    obtain ⟨k, rfl⟩ : ∃ q, k = q + 1 := ⟨k - 1, by omega⟩
    have hlt : i < l.length := by omega
    have hrd : rd_T23 l (i : Int) = l[i] := rd_nat23 l i hlt
    have hw : wrap64 ((i : Int) + 1) = ((i + 1 : Nat) : Int) := by rw [wrap_id _ (by omega) (by omega)]; rfl
    simp only [marlinspikeref06_Add.l1]
    rw [if_pos (by omega), if_pos (by omega), hrd, sright_f, hw, List.drop_eq_getElem_cons hlt]
    simp only [Option.bind_some, addG, each_zero, pt]
    unfold madeV
    cases hr : rightB (wrap64 (s.1 + l[i].f0)) (wrap64 (s.2.1 + l[i].f1)) (wrap64 (s.2.2 + l[i].f2)) with
    | true =>
      rw [if_pos rfl]
      have := ih (i + 1) (wrap64 (s.1 + l[i].f0), wrap64 (s.2.1 + l[i].f1), wrap64 (s.2.2 + l[i].f2)) (by omega) k (by omega)
      simp only at this
      rw [this]
      simp
    | false => simp
theorem radd_l0 (l : List S23) (hl : l.length ≤ 9223372036854775807) : ∀ (d i : Nat), i + d = l.length → (∀ x ∈ l.take i, okS x = true) → ∀ k, d + l.length + 1 < k →
    marlinspikeref06_Add.l0 k l i = some (addV l) := by
  intro d
  induction d with
  | zero =>
    intro i hd ho k hk
    obtain ⟨k, rfl⟩ : ∃ q, k = q + 1 := ⟨k - 1, by omega⟩
    simp only [marlinspikeref06_Add.l0]
    rw [if_neg (by omega)]
    have := radd_l1 l hl l.length 0 (0, 0, 0) (by omega) k (by omega)
    simp only at this
    rw [show ((0 : Nat) : Int) = 0 from rfl] at this
    rw [this, List.drop_zero]
    unfold addV
    rw [if_neg]
    intro h
    obtain ⟨x, hx, hx2⟩ := List.any_eq_true.1 h
    rw [ho x (by rw [show i = l.length by omega, List.take_length]; exact hx)] at hx2
    cases hx2
  | succ d ih =>
    intro i hd ho k hk
    obtain ⟨k, rfl⟩ : ∃ q, k = q + 1 := ⟨k - 1, by omega⟩
    have hlt : i < l.length := by omega
    have hrd : rd_T23 l (i : Int) = l[i] := rd_nat23 l i hlt
    have hw : wrap64 ((i : Int) + 1) = ((i + 1 : Nat) : Int) := by rw [wrap_id _ (by omega) (by omega)]; rfl
    simp only [marlinspikeref06_Add.l0]
    rw [if_pos (by omega), if_pos (by omega), hrd, sright_f, hw]
    simp only [Option.bind_some]
    cases hr : rightB l[i].f0 l[i].f1 l[i].f2 with
    | true =>
      rw [if_pos rfl]
      exact ih (i + 1) (by omega) (fun x hx => by
        rw [List.take_succ_eq_append_getElem hlt] at hx
        rcases List.mem_append.1 hx with h | h
        · exact ho x h
        · rw [List.mem_singleton.1 h]; exact hr) k (by omega)
    | false =>
      rw [if_neg (by simp)]
      unfold addV
      rw [if_pos (List.any_eq_true.2 ⟨l[i], List.getElem_mem _, by show (!rightB l[i].f0 l[i].f1 l[i].f2) = true; rw [hr]; rfl⟩)]
theorem radd_f (l : List S23) (hl : l.length ≤ 9223372036854775807) : marlinspikeref06_Add.f (l.length + l.length + 2) l = some (addV l) := by
  unfold marlinspikeref06_Add.f
  have := radd_l0 l hl l.length 0 (by omega) (fun x hx => by simp at hx) (l.length + l.length + 2) (by omega)
  rw [show ((0 : Nat) : Int) = 0 from rfl] at this
  exact this
end Go.Proofs.YtcpikafmclfcfaaDoor.Vc
end
section
namespace Go.Proofs.YtcpikafmclfcfaaDoor.Vc
open Go.RowKit Go.Proofs.YtcpikafmclfcfaaDoorW.PrintWords Go.Proofs.YtcpikafmclfcfaaDoorW.PrintLast Go.Proofs.YtcpikafmclfcfaaDoorW.PrintMore Go.Proofs.YtcpikafmclfcfaaDoor.PY Go.Proofs.YtcpikafmclfcfaaDoor.Vl
open Go.Proofs.YtcpikafmclfcfaaDoor.Lib (Glob)
set_option linter.unusedVariables false
set_option linter.unusedSimpArgs false
set_option maxHeartbeats 8000000 in
set_option maxRecDepth 100000 in
theorem sums_calls (A : Option Addr) (cp : Nat) (l : List S23) (a b c x y z : Int) (w : World) (hr : Kd.C k23 w A l.length l) (hc : l.length ≤ cp) (hl : l.length ≤ 9223372036854775807) (hx : I64 x) (hG : Glob w) :
    Calls Tryd.prog 8 #[.slice A l.length cp, vecV a b c, vecV x y z] w fun e w' => e = .returned (.bool true) ∧ Below w.heap.size w w' := by
  have hu23 := Tryd.underlying23
  have hu24 := Tryd.underlying24
  obtain ⟨⟨p0, p1, p2, p3⟩, hp⟩ : ∃ p, addV l = p := ⟨_, rfl⟩
  obtain ⟨⟨s0, s1, s2, s3⟩, hs⟩ : ∃ p, subV a b c x y z = p := ⟨_, rfl⟩
  obtain ⟨⟨t0, t1, t2, t3⟩, ht⟩ : ∃ p, timesV a b c x = p := ⟨_, rfl⟩
  have C1 := Aside0.mk (fun (u : World) (h : Kd.C k23 u A l.length l) => by have := Add_calls A cp l u h hl; rw [hp] at this; exact this)
  have C2 := Aside0.mk (fun (u : World) (h : Kd.C k23 u A l.length l) => marlinspikeref06_Add.calls (l.length + l.length + 2) A cp l p0 p1 p2 p3 u h hc (by rw [radd_f l hl, hp]))
  have C3 := Aside0.mk (fun (u : World) => by have := Sub_calls a b c x y z u; rw [hs] at this; exact this)
  have C4 := Aside0.mk (fun (u : World) => marlinspikeref06_Sub.calls (0 + 1) a b c x y z s0 s1 s2 s3 u (by rw [rsub_f, hs]))
  have C5 := Aside0.mk (fun (u : World) => by have := Times_calls a b c x u hx; rw [ht] at this; exact this)
  have C6 := Aside0.mk (fun (u : World) => (by have := rTimes_calls a b c x u; rw [rtimes_f a b c x hx, ht] at this; exact this))
  have HR := Aside0.mk hr
  have HG := Aside0.mk hG
  clear hr hG hp hs ht hc hl hx
  go_enter Tryd.func8, Tryd.ntmps8
  go_wp2_with fail
  obtain ⟨v0, hv0⟩ : ∃ v0, (w.alloc (.cells #[.int .i64 a, .int .i64 b, .int .i64 c] 23)).alloc (.cells #[.int .i64 x, .int .i64 y, .int .i64 z] 23) = v0 := ⟨_, rfl⟩
  have HB0 := Aside0.mk (below_alloc (below_alloc (Below.refl w.heap.size w) (.cells #[.int .i64 a, .int .i64 b, .int .i64 c] 23)) (.cells #[.int .i64 x, .int .i64 y, .int .i64 z] 23))
  have BV0 := Aside0.mk (blk_alloc (blk_new w (.cells #[.int .i64 a, .int .i64 b, .int .i64 c] 23)) (.cells #[.int .i64 x, .int .i64 y, .int .i64 z] 23))
  have BW0 := Aside0.mk (blk_new (w.alloc (.cells #[.int .i64 a, .int .i64 b, .int .i64 c] 23)) (.cells #[.int .i64 x, .int .i64 y, .int .i64 z] 23))
  rw [World.size_alloc] at BW0
  rw [hv0] at HB0 BV0 BW0 ⊢
  clear hv0
  refine (C1.out _ (Kd.C_below HR.out HB0.out)).mono ?_
  rintro e u1 ⟨rfl, hb⟩
  have HB1 := Aside0.mk (below_alloc (below_then HB0.out HB0.out.size hb) (.cells #[.int .i64 p0, .int .i64 p1, .int .i64 p2] 23))
  have BV1 := Aside0.mk (blk_alloc (blk_below BV0.out hb) (.cells #[.int .i64 p0, .int .i64 p1, .int .i64 p2] 23))
  have BW1 := Aside0.mk (blk_alloc (blk_below BW0.out hb) (.cells #[.int .i64 p0, .int .i64 p1, .int .i64 p2] 23))
  have B1_1 := Aside0.mk (blk_new u1 (.cells #[.int .i64 p0, .int .i64 p1, .int .i64 p2] 23))
  clear hb HB0 BV0 BW0
  obtain ⟨c0, c1, c2⟩ := cell3 BV1.out
  obtain ⟨d0, d1, d2⟩ := cell3 BW1.out
  go_wp2_with fail
  obtain ⟨v1, hv1⟩ : ∃ v, u1.alloc (.cells #[.int .i64 p0, .int .i64 p1, .int .i64 p2] 23) = v := ⟨_, rfl⟩
  obtain ⟨b1, hb1⟩ : ∃ b, u1.heap.size = b := ⟨_, rfl⟩
  clear c0 c1 c2 d0 d1 d2
  rw [hv1] at HB1 BV1 BW1 B1_1 ⊢
  rw [hb1] at B1_1 ⊢
  clear hv1 hb1
  refine (C2.out _ (Kd.C_below HR.out HB1.out)).mono ?_
  rintro e u2 ⟨rfl, hb⟩
  have HB2 := Aside0.mk (below_alloc (below_then HB1.out HB1.out.size hb) (.cells #[.int .i64 p0, .int .i64 p1, .int .i64 p2] 23))
  have BV2 := Aside0.mk (blk_alloc (blk_below BV1.out hb) (.cells #[.int .i64 p0, .int .i64 p1, .int .i64 p2] 23))
  have BW2 := Aside0.mk (blk_alloc (blk_below BW1.out hb) (.cells #[.int .i64 p0, .int .i64 p1, .int .i64 p2] 23))
  have B1_2 := Aside0.mk (blk_alloc (blk_below B1_1.out hb) (.cells #[.int .i64 p0, .int .i64 p1, .int .i64 p2] 23))
  have B2_2 := Aside0.mk (blk_new u2 (.cells #[.int .i64 p0, .int .i64 p1, .int .i64 p2] 23))
  clear hb HB1 BV1 BW1 B1_1
  obtain ⟨c0, c1, c2⟩ := cell3 BV2.out
  obtain ⟨d0, d1, d2⟩ := cell3 BW2.out
  go_wp2_with fail
  obtain ⟨v2, hv2⟩ : ∃ v, u2.alloc (.cells #[.int .i64 p0, .int .i64 p1, .int .i64 p2] 23) = v := ⟨_, rfl⟩
  obtain ⟨b2, hb2⟩ : ∃ b, u2.heap.size = b := ⟨_, rfl⟩
  clear c0 c1 c2 d0 d1 d2
  rw [hv2] at HB2 BV2 BW2 B1_2 B2_2 ⊢
  rw [hb2] at B2_2 ⊢
  clear hv2 hb2
  refine (C3.out _).mono ?_
  rintro e u3 ⟨rfl, hb⟩
  have HB3 := Aside0.mk (below_alloc (below_then HB2.out HB2.out.size hb) (.cells #[.int .i64 s0, .int .i64 s1, .int .i64 s2] 23))
  have BV3 := Aside0.mk (blk_alloc (blk_below BV2.out hb) (.cells #[.int .i64 s0, .int .i64 s1, .int .i64 s2] 23))
  have BW3 := Aside0.mk (blk_alloc (blk_below BW2.out hb) (.cells #[.int .i64 s0, .int .i64 s1, .int .i64 s2] 23))
  have B1_3 := Aside0.mk (blk_alloc (blk_below B1_2.out hb) (.cells #[.int .i64 s0, .int .i64 s1, .int .i64 s2] 23))
  have B2_3 := Aside0.mk (blk_alloc (blk_below B2_2.out hb) (.cells #[.int .i64 s0, .int .i64 s1, .int .i64 s2] 23))
  have B3_3 := Aside0.mk (blk_new u3 (.cells #[.int .i64 s0, .int .i64 s1, .int .i64 s2] 23))
  clear hb HB2 BV2 BW2 B1_2 B2_2
  obtain ⟨c0, c1, c2⟩ := cell3 BV3.out
  obtain ⟨d0, d1, d2⟩ := cell3 BW3.out
  go_wp2_with fail
  obtain ⟨v3, hv3⟩ : ∃ v, u3.alloc (.cells #[.int .i64 s0, .int .i64 s1, .int .i64 s2] 23) = v := ⟨_, rfl⟩
  obtain ⟨b3, hb3⟩ : ∃ b, u3.heap.size = b := ⟨_, rfl⟩
  clear c0 c1 c2 d0 d1 d2
  rw [hv3] at HB3 BV3 BW3 B1_3 B2_3 B3_3 ⊢
  rw [hb3] at B3_3 ⊢
  clear hv3 hb3
  refine (C4.out _).mono ?_
  rintro e u4 ⟨rfl, hb⟩
  have HB4 := Aside0.mk (below_alloc (below_then HB3.out HB3.out.size hb) (.cells #[.int .i64 s0, .int .i64 s1, .int .i64 s2] 23))
  have BV4 := Aside0.mk (blk_alloc (blk_below BV3.out hb) (.cells #[.int .i64 s0, .int .i64 s1, .int .i64 s2] 23))
  have BW4 := Aside0.mk (blk_alloc (blk_below BW3.out hb) (.cells #[.int .i64 s0, .int .i64 s1, .int .i64 s2] 23))
  have B1_4 := Aside0.mk (blk_alloc (blk_below B1_3.out hb) (.cells #[.int .i64 s0, .int .i64 s1, .int .i64 s2] 23))
  have B2_4 := Aside0.mk (blk_alloc (blk_below B2_3.out hb) (.cells #[.int .i64 s0, .int .i64 s1, .int .i64 s2] 23))
  have B3_4 := Aside0.mk (blk_alloc (blk_below B3_3.out hb) (.cells #[.int .i64 s0, .int .i64 s1, .int .i64 s2] 23))
  have B4_4 := Aside0.mk (blk_new u4 (.cells #[.int .i64 s0, .int .i64 s1, .int .i64 s2] 23))
  clear hb HB3 BV3 BW3 B1_3 B2_3 B3_3
  obtain ⟨c0, c1, c2⟩ := cell3 BV4.out
  obtain ⟨d0, d1, d2⟩ := cell3 BW4.out
  go_wp2_with fail
  obtain ⟨v4, hv4⟩ : ∃ v, u4.alloc (.cells #[.int .i64 s0, .int .i64 s1, .int .i64 s2] 23) = v := ⟨_, rfl⟩
  obtain ⟨b4, hb4⟩ : ∃ b, u4.heap.size = b := ⟨_, rfl⟩
  clear c0 c1 c2 d0 d1 d2
  rw [hv4] at HB4 BV4 BW4 B1_4 B2_4 B3_4 B4_4 ⊢
  rw [hb4] at B4_4 ⊢
  clear hv4 hb4
  refine (C5.out _).mono ?_
  rintro e u5 ⟨rfl, hb⟩
  have HB5 := Aside0.mk (below_alloc (below_then HB4.out HB4.out.size hb) (.cells #[.int .i64 t0, .int .i64 t1, .int .i64 t2] 23))
  have BV5 := Aside0.mk (blk_alloc (blk_below BV4.out hb) (.cells #[.int .i64 t0, .int .i64 t1, .int .i64 t2] 23))
  have BW5 := Aside0.mk (blk_alloc (blk_below BW4.out hb) (.cells #[.int .i64 t0, .int .i64 t1, .int .i64 t2] 23))
  have B1_5 := Aside0.mk (blk_alloc (blk_below B1_4.out hb) (.cells #[.int .i64 t0, .int .i64 t1, .int .i64 t2] 23))
  have B2_5 := Aside0.mk (blk_alloc (blk_below B2_4.out hb) (.cells #[.int .i64 t0, .int .i64 t1, .int .i64 t2] 23))
  have B3_5 := Aside0.mk (blk_alloc (blk_below B3_4.out hb) (.cells #[.int .i64 t0, .int .i64 t1, .int .i64 t2] 23))
  have B4_5 := Aside0.mk (blk_alloc (blk_below B4_4.out hb) (.cells #[.int .i64 t0, .int .i64 t1, .int .i64 t2] 23))
  have B5_5 := Aside0.mk (blk_new u5 (.cells #[.int .i64 t0, .int .i64 t1, .int .i64 t2] 23))
  clear hb HB4 BV4 BW4 B1_4 B2_4 B3_4 B4_4
  obtain ⟨c0, c1, c2⟩ := cell3 BV5.out
  obtain ⟨d0, d1, d2⟩ := cell3 BW5.out
  go_wp2_with fail
  obtain ⟨v5, hv5⟩ : ∃ v, u5.alloc (.cells #[.int .i64 t0, .int .i64 t1, .int .i64 t2] 23) = v := ⟨_, rfl⟩
  obtain ⟨b5, hb5⟩ : ∃ b, u5.heap.size = b := ⟨_, rfl⟩
  clear c0 c1 c2 d0 d1 d2
  rw [hv5] at HB5 BV5 BW5 B1_5 B2_5 B3_5 B4_5 B5_5 ⊢
  rw [hb5] at B5_5 ⊢
  clear hv5 hb5
  refine (C6.out _).mono ?_
  rintro e u6 ⟨rfl, hb⟩
  have HB6 := Aside0.mk (below_alloc (below_then HB5.out HB5.out.size hb) (.cells #[.int .i64 t0, .int .i64 t1, .int .i64 t2] 23))
  have BV6 := Aside0.mk (blk_alloc (blk_below BV5.out hb) (.cells #[.int .i64 t0, .int .i64 t1, .int .i64 t2] 23))
  have BW6 := Aside0.mk (blk_alloc (blk_below BW5.out hb) (.cells #[.int .i64 t0, .int .i64 t1, .int .i64 t2] 23))
  have B1_6 := Aside0.mk (blk_alloc (blk_below B1_5.out hb) (.cells #[.int .i64 t0, .int .i64 t1, .int .i64 t2] 23))
  have B2_6 := Aside0.mk (blk_alloc (blk_below B2_5.out hb) (.cells #[.int .i64 t0, .int .i64 t1, .int .i64 t2] 23))
  have B3_6 := Aside0.mk (blk_alloc (blk_below B3_5.out hb) (.cells #[.int .i64 t0, .int .i64 t1, .int .i64 t2] 23))
  have B4_6 := Aside0.mk (blk_alloc (blk_below B4_5.out hb) (.cells #[.int .i64 t0, .int .i64 t1, .int .i64 t2] 23))
  have B5_6 := Aside0.mk (blk_alloc (blk_below B5_5.out hb) (.cells #[.int .i64 t0, .int .i64 t1, .int .i64 t2] 23))
  have B6_6 := Aside0.mk (blk_new u6 (.cells #[.int .i64 t0, .int .i64 t1, .int .i64 t2] 23))
  clear hb HB5 BV5 BW5 B1_5 B2_5 B3_5 B4_5 B5_5
  obtain ⟨c10, c11, c12⟩ := cell3 B1_6.out
  obtain ⟨c20, c21, c22⟩ := cell3 B2_6.out
  obtain ⟨c30, c31, c32⟩ := cell3 B3_6.out
  obtain ⟨c40, c41, c42⟩ := cell3 B4_6.out
  obtain ⟨c50, c51, c52⟩ := cell3 B5_6.out
  obtain ⟨c60, c61, c62⟩ := cell3 B6_6.out
  go_wp2_with fail
  refine (alive_calls _ (HG.out.below HB6.out)).mono ?_
  rintro e u7 ⟨rfl, hb⟩
  have HB7 := Aside0.mk (below_then HB6.out HB6.out.size hb)
  clear hb
  go_wp2
  go_ret
  exact ⟨rfl, HB7.out⟩
end Go.Proofs.YtcpikafmclfcfaaDoor.Vc
end
section
namespace Go.Proofs.YtcpikafmclfcfaaDoor.Vc
open Go.RowKit Go.Proofs.YtcpikafmclfcfaaDoorW.PrintWords Go.Proofs.YtcpikafmclfcfaaDoor.PV Go.Proofs.YtcpikafmclfcfaaDoor.Op Go.Proofs.YtcpikafmclfcfaaDoor.Vl
abbrev wfI (y : Int) : Prop := (Lit.int .i64 y).wf = true
theorem wf_i64 {y : Int} (h : wfI y) : I64 y := by
  have := Go.bounds_i64 h
  unfold I64; omega
theorem vec_opens : Opens Tryd.prog 23 k23.K (fun x => wfI x.f0 ∧ wfI x.f1 ∧ wfI x.f2) :=
  opens_iso (fun x : S23 => (x.f0, x.f1, x.f2)) (fun p => ⟨p.1, p.2.1, p.2.2⟩) (fun _ => rfl)
    (opens_struct (sz := 3) Tryd.underlying23 (by kernel_rfl)
      (opensF_cons (off := 0) (a := Kd.int .i64) (b := Kd.pair (Kd.int .i64) (Kd.int .i64)) (Ga := wfI) (Gb := fun y => wfI y.1 ∧ wfI y.2) 3 rfl rfl (by kernel_rfl) (opens_int Tryd.underlying3)
        (opensF_cons (off := 1) (a := Kd.int .i64) (b := Kd.int .i64) (Ga := wfI) (Gb := wfI) 3 rfl rfl (by kernel_rfl) (opens_int Tryd.underlying3) (opensF_one 3 rfl rfl (by kernel_rfl) (opens_int Tryd.underlying3)))))
end Go.Proofs.YtcpikafmclfcfaaDoor.Vc
end
section
namespace Go.Proofs.YtcpikafmclfcfaaDoor.Vc
open Go.RowKit Go.Proofs.YtcpikafmclfcfaaDoorW.PrintWords Go.Proofs.YtcpikafmclfcfaaDoor.Op Go.Proofs.YtcpikafmclfcfaaDoor.Vl
theorem vec_opensY : Opens Tryd.prog 23 PY.k23.K (fun x => wfI x.f0 ∧ wfI x.f1 ∧ wfI x.f2) :=
  opens_iso (fun x : PY.S23 => (x.f0, x.f1, x.f2)) (fun p => ⟨p.1, p.2.1, p.2.2⟩) (fun _ => rfl)
    (opens_struct (sz := 3) Tryd.underlying23 (by kernel_rfl)
      (opensF_cons (off := 0) (a := Kd.int .i64) (b := Kd.pair (Kd.int .i64) (Kd.int .i64)) (Ga := wfI) (Gb := fun y => wfI y.1 ∧ wfI y.2) 3 rfl rfl (by kernel_rfl) (opens_int Tryd.underlying3)
        (opensF_cons (off := 1) (a := Kd.int .i64) (b := Kd.int .i64) (Ga := wfI) (Gb := wfI) 3 rfl rfl (by kernel_rfl) (opens_int Tryd.underlying3) (opensF_one 3 rfl rfl (by kernel_rfl) (opens_int Tryd.underlying3)))))
theorem vecs_opensY : Opens Tryd.prog 38 (Kd.slice 23 PY.k23).K (fun l => l.length ≤ maxLen ∧ ∀ x ∈ l, wfI x.f0 ∧ wfI x.f1 ∧ wfI x.f2) := opens_slice 23 Tryd.underlying38 (by kernel_rfl) vec_opensY
end Go.Proofs.YtcpikafmclfcfaaDoor.Vc
end
section
namespace Go.Proofs.YtcpikafmclfcfaaDoor.vecSums
open Go.ChangeShapes Go.WideShapes Go.ChangeAt Go.RowKit
open Go.ChangeMaps (open_string shut_string)
open Go.Proofs.YtcpikafmclfcfaaDoorW.PrintWords 
set_option linter.unusedVariables false
set_option maxRecDepth 100000
theorem own : ownKnob Tryd.prog.godebug = none := by kernel_rfl
theorem laidOut : laidOutB Tryd.prog = true := by kernel_rfl
theorem laid_met (os : Os) : laidMet Tryd.prog Rows.vecSumsRow.laid ((World.laidAll Tryd.prog os Rows.vecSumsRow.laid).forCall (fun _ _ => 0) ⟨#[], #[.slice none 0 0, .agg #[.int .i64 0, .int .i64 0, .int .i64 0], .agg #[.int .i64 0, .int .i64 0, .int .i64 0]], []⟩).memory :=
  laidMet_laidAll _ (by kernel_rfl) (by kernel_rfl)
theorem witness_row (os : Os) {H : Type} (enc : TypeId × Value → H) :
    (OpenSpec.ofChange Rows.vecSumsSpec).preRow enc Tryd.prog Tryd.f8 Rows.vecSumsRow.domain false Rows.vecSumsRow.laid ((World.laidAll Tryd.prog os Rows.vecSumsRow.laid).forCall (fun _ _ => 0) ⟨#[], #[.slice none 0 0, .agg #[.int .i64 0, .int .i64 0, .int .i64 0], .agg #[.int .i64 0, .int .i64 0, .int .i64 0]], []⟩).memory #[.slice none 0 0, .agg #[.int .i64 0, .int .i64 0, .int .i64 0], .agg #[.int .i64 0, .int .i64 0, .int .i64 0]] := by
  have hw : (DataW.whole enc Tryd.prog ((World.laidAll Tryd.prog os Rows.vecSumsRow.laid).forCall (fun _ _ => 0) ⟨#[], #[.slice none 0 0, .agg #[.int .i64 0, .int .i64 0, .int .i64 0], .agg #[.int .i64 0, .int .i64 0, .int .i64 0]], []⟩).memory Tryd.f8.params.toList (OpenSpec.ofChange Rows.vecSumsSpec).vars false #[.slice none 0 0, .agg #[.int .i64 0, .int .i64 0, .int .i64 0], .agg #[.int .i64 0, .int .i64 0, .int .i64 0]].toList 8).map (fun x => (x.1, x.2.1)) =
      some ([.nil, .agg [.lit (.int .i64 0), .lit (.int .i64 0), .lit (.int .i64 0)], .agg [.lit (.int .i64 0), .lit (.int .i64 0), .lit (.int .i64 0)]], []) := by kernel_rfl
  obtain ⟨⟨x1, x2, x3⟩, hx, hx1⟩ := Option.map_eq_some_iff.1 hw
  simp only [Prod.mk.injEq] at hx1
  obtain ⟨rfl, rfl⟩ := hx1
  exact OpenSpec.preRow_of_cond 8 hx (by kernel_rfl) (fun k hk => by cases hk) (by kernel_rfl) (laid_met os)
theorem star : "*" ++ "errors.errorString" = "*errors.errorString" := by decide
theorem row_err (u : TypeId) (h : Tryd.prog.typeName? 3 u = some "*errors.errorString") : u = 149 :=
  typeName_ptr_named (nm := "errors.errorString") (by rw [star]; kernel_rfl) (by kernel_rfl) (by decide) u (by rw [star]; exact h)
theorem glob {W : World} (h : laidMetH Tryd.prog Rows.vecSumsRow.laid W) : Lib.Glob W := by
  rw [MakeChecks.laidMetH_plain _ _ _ (by kernel_rfl)] at h
  have h0 : laidMet Tryd.prog Rows.vecSumsRow.laid W := h
  have h1 : laidMet Tryd.prog [("math/bits.deBruijn64tab", Rows.laid_math_bits_deBruijn64tab), ("internal/strconv.uint64pow10", Rows.laid_internal_strconv_uint64pow10), ("unicode/utf8.acceptRanges", Rows.laid_unicode_utf8_acceptRanges), ("strconv.ErrRange", Rows.laid_strconv_ErrRange), ("strconv.ErrSyntax", Rows.laid_strconv_ErrSyntax), ("unicode/utf8.first", Rows.laid_unicode_utf8_first)] W := laidMet.tail h0
  have h2 : laidMet Tryd.prog [("internal/strconv.uint64pow10", Rows.laid_internal_strconv_uint64pow10), ("unicode/utf8.acceptRanges", Rows.laid_unicode_utf8_acceptRanges), ("strconv.ErrRange", Rows.laid_strconv_ErrRange), ("strconv.ErrSyntax", Rows.laid_strconv_ErrSyntax), ("unicode/utf8.first", Rows.laid_unicode_utf8_first)] W := laidMet.tail h1
  have h3 : laidMet Tryd.prog [("unicode/utf8.acceptRanges", Rows.laid_unicode_utf8_acceptRanges), ("strconv.ErrRange", Rows.laid_strconv_ErrRange), ("strconv.ErrSyntax", Rows.laid_strconv_ErrSyntax), ("unicode/utf8.first", Rows.laid_unicode_utf8_first)] W := laidMet.tail h2
  have h4 : laidMet Tryd.prog [("strconv.ErrRange", Rows.laid_strconv_ErrRange), ("strconv.ErrSyntax", Rows.laid_strconv_ErrSyntax), ("unicode/utf8.first", Rows.laid_unicode_utf8_first)] W := laidMet.tail h3
  have h5 : laidMet Tryd.prog [("strconv.ErrSyntax", Rows.laid_strconv_ErrSyntax), ("unicode/utf8.first", Rows.laid_unicode_utf8_first)] W := laidMet.tail h4
  have h6 : laidMet Tryd.prog [("unicode/utf8.first", Rows.laid_unicode_utf8_first)] W := laidMet.tail h5
  have h7 : laidMet Tryd.prog [] W := laidMet.tail h6
  obtain ⟨a1, s1, v1, _⟩ := laid_sentinel (g := 1) h5 (by kernel_rfl) (by kernel_rfl) Tryd.underlying62 row_err Tryd.underlying149 Tryd.underlying151 rfl rfl Tryd.underlying9 (by kernel_rfl) (by kernel_rfl)
  obtain ⟨a2, s2, v2, _⟩ := laid_sentinel (g := 2) h4 (by kernel_rfl) (by kernel_rfl) Tryd.underlying62 row_err Tryd.underlying149 Tryd.underlying151 rfl rfl Tryd.underlying9 (by kernel_rfl) (by kernel_rfl)
  refine ⟨Go.Lib.tabIs_of_head Lib.g_tab (by kernel_rfl) Tryd.underlying153 Tryd.underlying95 (by kernel_rfl) (by kernel_rfl) h2, ⟨_, _, v1⟩, ⟨_, _, v2⟩⟩
set_option maxHeartbeats 4000000 in
theorem lifted (os : Os) (started : os.Started) (H : Type) (enc : TypeId × Value → H) (F : Stop.Interp) :
    ReturnsInHanded {} Tryd.checked os 8 .any ((OpenSpec.ofChange Rows.vecSumsSpec).preRow enc Tryd.prog Tryd.f8 Rows.vecSumsRow.domain false Rows.vecSumsRow.laid) (((OpenSpec.ofChange Rows.vecSumsSpec).at F).post enc Tryd.prog Tryd.f8 false true false false) := by
  refine returnsInHanded_of_row (C := Tryd.checked) (s := (OpenSpec.ofChange Rows.vecSumsSpec)) own started (by kernel_rfl) Tryd.func8
    (witness_row_atRef (enc := enc) (C := Tryd.checked) false (World.laidAll Tryd.prog os Rows.vecSumsRow.laid) #[.slice none 0 0, .agg #[.int .i64 0, .int .i64 0, .int .i64 0], .agg #[.int .i64 0, .int .i64 0, .int .i64 0]] (World.laidAll_os _ _ _) (by kernel_rfl) (by kernel_rfl) (by kernel_rfl) (witness_row os enc)) ?_
  intro W base args ds gs before hval0 hW _ _ hsz0 hL _ _
  have hsz : (DataW.weightsEach Tryd.prog (Tryd.f8.params.toList ++ (OpenSpec.ofChange Rows.vecSumsSpec).bare.plain.varTypes Tryd.prog) (ds ++ gs)).all (· ≤ reachBytes) = true := hsz0
  have hval : ∀ (j : Nat) t v, Tryd.f8.params[j]? = some t → args[j]? = some v → Value.okWide Tryd.prog W .any base t v := hval0
  have hG := glob hL
  have hW' := hW
  obtain ⟨p, q, hA0, hV, rfl, hfz, hnd⟩ := hW
  have hA : DataW.TrodAll enc Tryd.prog W 0 (fun _ => true) true Tryd.f8.params.toList args.toList ds p := hA0
  rw [Tryd.params8] at hA hval hsz
  obtain ⟨v0, vs0, d0, ds0, p0, q0, hargs, rfl, rfl, t0, r0⟩ := trodAll_cons hA
  obtain ⟨v1, vs1, d1, ds1, p1, q1, rfl, rfl, rfl, t1, r1⟩ := trodAll_cons r0
  obtain ⟨v2, vs2, d2, ds2, p2, q2, rfl, rfl, rfl, t2, r2⟩ := trodAll_cons r1
  obtain ⟨rfl, rfl, rfl⟩ := trodAll_nil r2
  obtain rfl : args = #[v0, v1, v2] := by cases args; simp_all
  obtain ⟨rfl, rfl⟩ := trodVars_none hV
  have k0 := t0
  have y0 := hval 0 38 v0 rfl rfl
  obtain ⟨x0, kx0, gx0⟩ := Op.opens_arg Vc.vecs_opensY t0
  obtain ⟨A0, c0, e0, hc0, hr0⟩ := kx0
  obtain ⟨a0, l0, b0, rfl⟩ := okWide_slice Tryd.underlying38 y0
  have e0 : Value.slice a0 l0 b0 = .slice A0 x0.length c0 := by simpa [Value.cells] using e0
  injection e0 with ea0 eb0 ec0
  subst ea0; subst eb0; subst ec0
  have k1 := t1
  have y1 := hval 1 23 v1 rfl rfl
  obtain ⟨x1, kx1, gx1⟩ := Op.opens_arg Vc.vec_opens t1
  have e1 := PV.k23_open kx1
  obtain rfl : v1 = .agg #[.int .i64 x1.f0, .int .i64 x1.f1, .int .i64 x1.f2] := Op.agg_of e1
  have k2 := t2
  have y2 := hval 2 23 v2 rfl rfl
  obtain ⟨x2, kx2, gx2⟩ := Op.opens_arg Vc.vec_opens t2
  have e2 := PV.k23_open kx2
  obtain rfl : v2 = .agg #[.int .i64 x2.f0, .int .i64 x2.f1, .int .i64 x2.f2] := Op.agg_of e2
  clear hA0 hval0 hsz0 hsz
  refine (Vc.sums_calls a0 b0 x0 x1.f0 x1.f1 x1.f2 x2.f0 x2.f1 x2.f2 W hr0 hc0 (Nat.le_trans gx0.1 (by decide)) (Vc.wf_i64 gx2.1) hG).mono fun e W' ⟨he, bel⟩ => ?_
  subst he
  exact ⟨_, rfl, _, _, _, [], _, [], hW', trodAll_mk1 (shut_bool Tryd.underlying4 _), (trodAll_cons_mk (Below.trod laidOut (by kernel_rfl) (of_decide_eq_true (by kernel_rfl)) k0 bel (Op.trod_lt k0)) (trodAll_cons_mk (Below.trod laidOut (by kernel_rfl) (of_decide_eq_true (by kernel_rfl)) k1 bel (Op.trod_lt k1)) (trodAll_cons_mk (Below.trod laidOut (by kernel_rfl) (of_decide_eq_true (by kernel_rfl)) k2 bel (Op.trod_lt k2)) trodAll_mk0))), rfl, bel.frame _, fun h => by cases h⟩
theorem said : Rows.VecSumsSaid :=
  OpenClaim.holds_of_cond 8 Tryd.f8 rfl rfl rfl rfl rfl rfl rfl ⟨rfl, rfl, rfl, rfl, rfl⟩ rfl rfl rfl rfl rfl (by kernel_rfl) Tryd.func8 (by kernel_rfl)
    (of_decide_eq_true (by kernel_rfl)) (by unfold Func.isWrapper; first | (rw [if_pos (by decide +kernel)]; kernel_rfl) | (rw [if_neg (by decide +kernel)]; exact ⟨rfl, rfl⟩))
    (fun os started H enc _ F => by rw [OpenClaim.pre_eq_preRow]; exact lifted os started H enc F)
theorem plain (f : FuncId) (fn : Func) (hf : Tryd.pinned.checked.prog.funcNamed "marlinspike/marlinspikelaw06.VecSums" = some f) (hfn : Tryd.pinned.checked.prog.funcs[f]? = some fn) :
    true = Tryd.pinned.checked.prog.looks [] ∧ ∀ (j : Nat) t, fn.params[j]? = some t → Tryd.pinned.checked.prog.wantsStandIn t = false := by
  obtain rfl : f = 8 := Option.some.inj ((show Tryd.prog.funcNamed "marlinspike/marlinspikelaw06.VecSums" = some 8 by kernel_rfl).symm.trans hf) |>.symm
  obtain rfl : fn = Tryd.f8 := (Option.some.inj (Tryd.func8.symm.trans hfn)).symm
  refine ⟨by kernel_rfl, fun j t ht => ?_⟩
  rw [Tryd.params8] at ht
  have := Array.mem_of_getElem? ht
  have all : (#[38, 23, 23] : Array TypeId).all (fun t => Tryd.prog.wantsStandIn t = false) = true := by kernel_rfl
  exact of_decide_eq_true (Array.all_eq_true_iff_forall_mem.1 all t this)
theorem card : Rows.VecSumsCardSaid :=
  Claim7.holds_tied_plain_at .later [] _ _ _ _ said (fun _ h => by cases h) (by kernel_rfl) (fun _ h => by cases h) vecSums_row_tie rfl ⟨rfl, rfl⟩ (by kernel_rfl) rfl plain (by kernel_rfl)
#print axioms card
end Go.Proofs.YtcpikafmclfcfaaDoor.vecSums
namespace Go.Proofs.YtcpikafmclfcfaaDoor
theorem vecSums_card : Rows.VecSumsCardSaid := vecSums.card
end Go.Proofs.YtcpikafmclfcfaaDoor
end
