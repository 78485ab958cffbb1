/- Which indexes may be started is told as the document says (ArraySteps), for every array, number and list -/
import Derived.Test.YtnfpchpnephheaaDoorZ04
import Derived.Test.YtnfpchpnephheaaDoorZ05
import Derived.Test.YtnfpchpnephheaaDoorZ03
import Derived.Test.YtnfpchpnephheaaDoorRows
import Derived.Test.YtnfpchpnephheaaDoorCards
import Derived.Test.YtnfpchpnephheaaDoorTie
import Derived.Test.YtnfpchpnephheaaDoorZ02
import Derived.Lay
import Derived.WalkKit
import Derived.ProofKit
import Derived.OpenShut
import Derived.ShutString
import Derived.ChangeOld
import Derived.Below
import Derived.Carry
import Derived.SizedLaws
import Derived.Deep.DeepHandedRow
import Derived.Deep.DeepWitnessRowRef
import Derived.Stop.LaidErr
import Derived.Lib.LaidTab
import Derived.LaidMore
section
namespace Go.Proofs.YtnfpchpnephheaaDoor.St
open Go.RowKit Go.Proofs.YtnfpchpnephheaaDoor.Lib Go.Proofs.YtnfpchpnephheaaDoor.PA Go.Proofs.YtnfpchpnephheaaDoorW.PrintWords Go.Proofs.YtnfpchpnephheaaDoorW.PrintLast Go.Proofs.YtnfpchpnephheaaDoorW.PrintMore
attribute [local go_sem] max2_int min2_int max_two min_two max_three min_three max_four min_four
set_option linter.unusedVariables false
set_option linter.unusedSimpArgs false
mutual
def marlinspikeref08_Step.j0 : Nat → Int → List Int → Bool → List Int → Int → Option (List Int)
  | 0, _, _, _, _, _ => none
  | k + 1, x1, x2, x17, x105000, x105001 => if x17 = true then (some ([] : List Int)) else (marlinspikeref08_Step.l0 k x1 x2 ([] : List Int) 0 x105000 x105001)
def marlinspikeref08_Step.l0 : Nat → Int → List Int → List Int → Int → List Int → Int → Option (List Int)
  | 0, _, _, _, _, _, _ => none
  | k + 1, x1, x2, x7, x8, x105000, x105001 => if x8 < (x105000.length : Int) then (marlinspikeref08_Step.l1 k x1 x2 x7 x8 false 0 x105000 x105001) else (some x7)
def marlinspikeref08_Step.l1 : Nat → Int → List Int → List Int → Int → Bool → Int → List Int → Int → Option (List Int)
  | 0, _, _, _, _, _, _, _, _ => none
  | k + 1, x1, x2, x7, x8, x9, x10, x105000, x105001 => if x10 < (x2.length : Int) then (if x9 = true then (marlinspikeref08_Step.l1 k x1 x2 x7 x8 true (wrap64 (x10 + 1)) x105000 x105001) else (if 0 ≤ x10 then (if 0 ≤ x8 then (if x8 < (x105000.length : Int) then (marlinspikeref08_Step.l1 k x1 x2 x7 x8 ((rd x2 x10) == (rd x105000 x8)) (wrap64 (x10 + 1)) x105000 x105001) else (none)) else (none)) else (none))) else (if x9 = true then (marlinspikeref08_Step.l0 k x1 x2 x7 (wrap64 (x8 + 1)) x105000 x105001) else (if x105001 = 0 then (if 0 ≤ x8 then (if x8 < (x105000.length : Int) then (if x7.length < 17592186044416 then (marlinspikeref08_Step.l0 k x1 x2 (x7 ++ [rd x105000 x8]) (wrap64 (x8 + 1)) x105000 x105001) else (none)) else (none)) else (none)) else (if x1 < x105001 then (if (x7.length : Int) < (wrap64 (x105001 - x1)) then (if 0 ≤ x8 then (if x8 < (x105000.length : Int) then (if x7.length < 17592186044416 then (marlinspikeref08_Step.l0 k x1 x2 (x7 ++ [rd x105000 x8]) (wrap64 (x8 + 1)) x105000 x105001) else (none)) else (none)) else (none)) else (marlinspikeref08_Step.l0 k x1 x2 x7 (wrap64 (x8 + 1)) x105000 x105001)) else (marlinspikeref08_Step.l0 k x1 x2 x7 (wrap64 (x8 + 1)) x105000 x105001))))
end
def marlinspikeref08_Step.f (k : Nat) (l0_0 : List Int) (a0_1 : Int) (a1 : Int) (l2 : List Int) : Option (List Int) := (marlinspikeref08_Right.f k l0_0 a0_1).bind fun t105 => (if t105 = true then (marlinspikeref08_Step.j0 k a1 l2 (decide (a1 < 0)) l0_0 a0_1) else (marlinspikeref08_Step.j0 k a1 l2 true l0_0 a0_1))
theorem marlinspikeref08_Step.mono_l : ∀ k, (∀ y0 y1 y2 y3 y4, LeO (marlinspikeref08_Step.j0 k y0 y1 y2 y3 y4) (marlinspikeref08_Step.j0 (k + 1) y0 y1 y2 y3 y4)) ∧ (∀ y0 y1 y2 y3 y4 y5, LeO (marlinspikeref08_Step.l0 k y0 y1 y2 y3 y4 y5) (marlinspikeref08_Step.l0 (k + 1) y0 y1 y2 y3 y4 y5)) ∧ (∀ y0 y1 y2 y3 y4 y5 y6 y7, LeO (marlinspikeref08_Step.l1 k y0 y1 y2 y3 y4 y5 y6 y7) (marlinspikeref08_Step.l1 (k + 1) y0 y1 y2 y3 y4 y5 y6 y7))
  | 0 => ⟨fun _ _ _ _ _ r h => by simp [marlinspikeref08_Step.j0] at h, fun _ _ _ _ _ _ r h => by simp [marlinspikeref08_Step.l0] at h, fun _ _ _ _ _ _ _ _ r h => by simp [marlinspikeref08_Step.l1] at h⟩
  | k + 1 => by
    obtain ⟨ih0, ih1, ih2⟩ := marlinspikeref08_Step.mono_l k
    refine ⟨?_, ?_, ?_⟩
    · intro y0 y1 y2 y3 y4
      unfold marlinspikeref08_Step.j0
      repeat' first
      | (with_reducible exact ih0 _ _ _ _ _)
      | (with_reducible exact ih1 _ _ _ _ _ _)
      | (with_reducible exact ih2 _ _ _ _ _ _ _ _)
      | (with_reducible exact marlinspikeref08_Right.mono _ _ _)
      | (with_reducible exact LeO.refl _)
      | (with_reducible exact LeO.none _)
      | (with_reducible refine LeO.ite ?_ ?_)
      | (with_reducible refine LeO.bind ?_ (fun _ => ?_))
      | exact ih0 _ _ _ _ _
      | exact ih1 _ _ _ _ _ _
      | exact ih2 _ _ _ _ _ _ _ _
      | exact marlinspikeref08_Right.mono _ _ _
      | exact LeO.none _
      | refine LeO.ite ?_ ?_
      | refine LeO.bind ?_ (fun _ => ?_)
    · intro y0 y1 y2 y3 y4 y5
      unfold marlinspikeref08_Step.l0
      repeat' first
      | (with_reducible exact ih0 _ _ _ _ _)
      | (with_reducible exact ih1 _ _ _ _ _ _)
      | (with_reducible exact ih2 _ _ _ _ _ _ _ _)
      | (with_reducible exact marlinspikeref08_Right.mono _ _ _)
      | (with_reducible exact LeO.refl _)
      | (with_reducible exact LeO.none _)
      | (with_reducible refine LeO.ite ?_ ?_)
      | (with_reducible refine LeO.bind ?_ (fun _ => ?_))
      | exact ih0 _ _ _ _ _
      | exact ih1 _ _ _ _ _ _
      | exact ih2 _ _ _ _ _ _ _ _
      | exact marlinspikeref08_Right.mono _ _ _
      | exact LeO.none _
      | refine LeO.ite ?_ ?_
      | refine LeO.bind ?_ (fun _ => ?_)
    · intro y0 y1 y2 y3 y4 y5 y6 y7
      unfold marlinspikeref08_Step.l1
      repeat' first
      | (with_reducible exact ih0 _ _ _ _ _)
      | (with_reducible exact ih1 _ _ _ _ _ _)
      | (with_reducible exact ih2 _ _ _ _ _ _ _ _)
      | (with_reducible exact marlinspikeref08_Right.mono _ _ _)
      | (with_reducible exact LeO.refl _)
      | (with_reducible exact LeO.none _)
      | (with_reducible refine LeO.ite ?_ ?_)
      | (with_reducible refine LeO.bind ?_ (fun _ => ?_))
      | exact ih0 _ _ _ _ _
      | exact ih1 _ _ _ _ _ _
      | exact ih2 _ _ _ _ _ _ _ _
      | exact marlinspikeref08_Right.mono _ _ _
      | exact LeO.none _
      | refine LeO.ite ?_ ?_
      | refine LeO.bind ?_ (fun _ => ?_)
theorem marlinspikeref08_Step.mono : ∀ a0 a1 a2 a3 k, LeO (marlinspikeref08_Step.f k a0 a1 a2 a3) (marlinspikeref08_Step.f (k + 1) a0 a1 a2 a3) := by
  intro a0 a1 a2 a3 k
  obtain ⟨ih0, ih1, ih2⟩ := marlinspikeref08_Step.mono_l k
  unfold marlinspikeref08_Step.f
  repeat' first
      | (with_reducible exact ih0 _ _ _ _ _)
      | (with_reducible exact ih1 _ _ _ _ _ _)
      | (with_reducible exact ih2 _ _ _ _ _ _ _ _)
      | (with_reducible exact marlinspikeref08_Right.mono _ _ _)
      | (with_reducible exact LeO.refl _)
      | (with_reducible exact LeO.none _)
      | (with_reducible refine LeO.ite ?_ ?_)
      | (with_reducible refine LeO.bind ?_ (fun _ => ?_))
      | exact ih0 _ _ _ _ _
      | exact ih1 _ _ _ _ _ _
      | exact ih2 _ _ _ _ _ _ _ _
      | exact marlinspikeref08_Right.mono _ _ _
      | exact LeO.none _
      | refine LeO.ite ?_ ?_
      | refine LeO.bind ?_ (fun _ => ?_)
set_option maxHeartbeats 8000000 in
set_option maxRecDepth 100000 in
theorem marlinspikeref08_Step.calls (k : Nat) (A0_0 : Option Addr) (c0_0 : Nat) (l0_0 : List Int) (a0_1 : Int) (a1 : Int) (A2 : Option Addr) (c2 : Nat) (l2 : List Int) (r : List Int) (w : World) (hr0_0 : Kd.C (Kd.int .i64) w A0_0 l0_0.length l0_0) (hc0_0 : l0_0.length ≤ c0_0) (hr2 : Kd.C (Kd.int .i64) w A2 l2.length l2) (hc2 : l2.length ≤ c2) (h : marlinspikeref08_Step.f k l0_0 a0_1 a1 l2 = some r) :
    Calls Tryd.prog 17 #[.agg #[.slice A0_0 l0_0.length c0_0, .int .i64 a0_1], .int .i64 a1, .slice A2 l2.length c2] w fun e w' => ∃ v0_ : Value, e = .returned (v0_) ∧ Kd.R (Kd.int .i64) 3 w' w.heap.size (fun _ => True) v0_ r ∧ Below w.heap.size w w' := by
  have hu24 := Tryd.underlying24
  have HR0_0 := Aside0.mk hr0_0
  have HC0_0 := Aside0.mk hc0_0
  clear hr0_0 hc0_0
  have HR2 := Aside0.mk hr2
  have HC2 := Aside0.mk hc2
  clear hr2 hc2
  have HB := Aside0.mk (Below.refl w.heap.size w)
  have H : ((marlinspikeref08_Right.f k l0_0 a0_1).bind fun t105 => (if t105 = true then (marlinspikeref08_Step.j0 k a1 l2 (decide (a1 < 0)) l0_0 a0_1) else (marlinspikeref08_Step.j0 k a1 l2 true l0_0 a0_1))) = some r := h
  clear h
  have HC4 := Aside0.mk H
  clear H
  go_enter Tryd.func17, Tryd.ntmps17
  go_upto_region 1 with (first | ((with_reducible refine gate_dst (N := 3) rfl ?_); (try (refine gate_guard (by rfl) ?_; dsimp only)); refine box_event ?hg (N := 3) ?hd (cs := #[.slice A0_0 l0_0.length c0_0, .int .i64 a0_1]) (t := 24) ?hr ?_; (case hd => rfl); (case hg => rfl); (case hr => first | (go_simp; done) | (go_simp; rfl)); intro gb104 hg w5 hbox hb; have n0_ := Aside0.mk (below_step (by repeat (first | (with_reducible first | exact HB.out | apply below_alloc | apply pw_below_drewN | apply below_drew1) | exact HB.out)) hb); have n1_ := Aside0.mk (hbox); have n2_ := Aside0.mk ((by rw [hg]; exact (below_size (by repeat (first | (with_reducible first | exact HB.out | apply below_alloc | apply pw_below_drewN | apply below_drew1) | exact HB.out))) : w.heap.size ≤ gb104)); have n3_ := Aside0.mk ((by rw [hg]; exact (below_size (by repeat (first | (with_reducible first | exact HB.out | apply below_alloc | apply pw_below_drewN | apply below_drew1) | exact HB.out))) : w.heap.size ≤ gb104)); clear HB; have HB := n0_; have BK104 := n1_; have GW104 := n2_; have GE104 := n3_; clear n0_ n1_ n2_ n3_; clear hb hbox hg))
  repeat (go_quiet (first | ((with_reducible refine gate_dst (N := 3) rfl ?_); (try (refine gate_guard (by rfl) ?_; dsimp only)); refine box_event ?hg (N := 3) ?hd (cs := #[.slice A0_0 l0_0.length c0_0, .int .i64 a0_1]) (t := 24) ?hr ?_; (case hd => rfl); (case hg => rfl); (case hr => first | (go_simp; done) | (go_simp; rfl)); intro gb104 hg w5 hbox hb; have n0_ := Aside0.mk (below_step (by repeat (first | (with_reducible first | exact HB.out | apply below_alloc | apply pw_below_drewN | apply below_drew1) | exact HB.out)) hb); have n1_ := Aside0.mk (hbox); have n2_ := Aside0.mk ((by rw [hg]; exact (below_size (by repeat (first | (with_reducible first | exact HB.out | apply below_alloc | apply pw_below_drewN | apply below_drew1) | exact HB.out))) : w.heap.size ≤ gb104)); have n3_ := Aside0.mk ((by rw [hg]; exact (below_size (by repeat (first | (with_reducible first | exact HB.out | apply below_alloc | apply pw_below_drewN | apply below_drew1) | exact HB.out))) : w.heap.size ≤ gb104)); clear HB; have HB := n0_; have BK104 := n1_; have GW104 := n2_; have GE104 := n3_; clear n0_ n1_ n2_ n3_; clear hb hbox hg)); go_upto_region 1 with (first | ((with_reducible refine gate_dst (N := 3) rfl ?_); (try (refine gate_guard (by rfl) ?_; dsimp only)); refine box_event ?hg (N := 3) ?hd (cs := #[.slice A0_0 l0_0.length c0_0, .int .i64 a0_1]) (t := 24) ?hr ?_; (case hd => rfl); (case hg => rfl); (case hr => first | (go_simp; done) | (go_simp; rfl)); intro gb104 hg w5 hbox hb; have n0_ := Aside0.mk (below_step (by repeat (first | (with_reducible first | exact HB.out | apply below_alloc | apply pw_below_drewN | apply below_drew1) | exact HB.out)) hb); have n1_ := Aside0.mk (hbox); have n2_ := Aside0.mk ((by rw [hg]; exact (below_size (by repeat (first | (with_reducible first | exact HB.out | apply below_alloc | apply pw_below_drewN | apply below_drew1) | exact HB.out))) : w.heap.size ≤ gb104)); have n3_ := Aside0.mk ((by rw [hg]; exact (below_size (by repeat (first | (with_reducible first | exact HB.out | apply below_alloc | apply pw_below_drewN | apply below_drew1) | exact HB.out))) : w.heap.size ≤ gb104)); clear HB; have HB := n0_; have BK104 := n1_; have GW104 := n2_; have GE104 := n3_; clear n0_ n1_ n2_ n3_; clear hb hbox hg)))
  (try simp only [Act.put, List.setIfInBounds_toArray, List.set_cons_zero, List.set_cons_succ])
  go_cut [17] (fun v17 wc => ∃ (kq : Nat) (x17_3 : Bool), v17 = .bool x17_3 ∧ Aside0 (marlinspikeref08_Step.j0 kq a1 l2 x17_3 l0_0 a0_1 = some r) ∧ Aside0 (kq ≤ k) ∧ Aside0 (wc.heap[gb104]? = some (.cells #[(.slice A0_0 l0_0.length c0_0), .int .i64 a0_1] 24 (0, 0))) ∧ Aside0 (Below w.heap.size w wc))
  case first =>
    have H := HC4.out
    clear HC4
    replace H := Option.bind_eq_some_iff.mp H
    obtain ⟨t105, A60, H⟩ := H
    replace H : (if t105 = true then (marlinspikeref08_Step.j0 k a1 l2 (decide (a1 < 0)) l0_0 a0_1) else (marlinspikeref08_Step.j0 k a1 l2 true l0_0 a0_1)) = some r := H
    have A6 := Aside0.mk A60
    clear A60
    by_cases c7 : t105 = true
    · subst c7
      have H1 : (marlinspikeref08_Step.j0 k a1 l2 (decide (a1 < 0)) l0_0 a0_1) = some r := by rw [if_pos rfl] at H; exact H
      clear H
      have H := H1
      clear H1
      have H' := Aside0.mk H
      clear H
      have hcz8_0 : w5.cell? ⟨gb104, 0, none⟩ = some (.slice A0_0 l0_0.length c0_0) := (blk_cell BK104.out 0).trans rfl
      have hcz8_1 : w5.cell? ⟨gb104, 1, none⟩ = some (.int .i64 a0_1) := (blk_cell BK104.out 1).trans rfl
      have hfz8_0 := blk_frozen BK104.out 0
      have hfz8_1 := blk_frozen BK104.out 1
      go_wp2_with (first | (go_at_call 12; (with_reducible refine (marlinspikeref08_Right.calls k _ _ l0_0 a0_1 true _ ?side1 ?side2 A6.out).mono ?_); (case side1 => repeat (first | exact (Kd.C_below HR0_0.out HB.out) | (with_reducible refine Kd.C_alloc ?_ _) | (with_reducible refine Kd.C_drewN ?_ _) | (with_reducible refine Kd.C_drew ?_))); (case side2 => exact HC0_0.out); rintro e w9 ⟨rfl, hb⟩; have n0_ := Aside0.mk (blk_below (g := gb104) (o := .cells #[.slice A0_0 l0_0.length c0_0, .int .i64 a0_1] 24 (0, 0)) (by (with_reducible repeat (first | refine blk_drewN ?_ _ | refine blk_drew ?_ | refine blk_alloc ?_ _)); exact BK104.out) hb); have n1_ := Aside0.mk (below_step (by repeat (first | (with_reducible first | exact HB.out | apply below_alloc | apply pw_below_drewN | apply below_drew1 | refine below_set ?_ GE104.out) | exact HB.out)) hb); clear BK104; clear HB; have BK104 := n0_; have HB := n1_; clear n0_ n1_; (try clear hb); (try clear hb2); (try clear hk); (try clear hi)))
      repeat (go_quiet (first | (go_at_call 12; (with_reducible refine (marlinspikeref08_Right.calls k _ _ l0_0 a0_1 true _ ?side1 ?side2 A6.out).mono ?_); (case side1 => repeat (first | exact (Kd.C_below HR0_0.out HB.out) | (with_reducible refine Kd.C_alloc ?_ _) | (with_reducible refine Kd.C_drewN ?_ _) | (with_reducible refine Kd.C_drew ?_))); (case side2 => exact HC0_0.out); rintro e w9 ⟨rfl, hb⟩; have n0_ := Aside0.mk (blk_below (g := gb104) (o := .cells #[.slice A0_0 l0_0.length c0_0, .int .i64 a0_1] 24 (0, 0)) (by (with_reducible repeat (first | refine blk_drewN ?_ _ | refine blk_drew ?_ | refine blk_alloc ?_ _)); exact BK104.out) hb); have n1_ := Aside0.mk (below_step (by repeat (first | (with_reducible first | exact HB.out | apply below_alloc | apply pw_below_drewN | apply below_drew1 | refine below_set ?_ GE104.out) | exact HB.out)) hb); clear BK104; clear HB; have BK104 := n0_; have HB := n1_; clear n0_ n1_; (try clear hb); (try clear hb2); (try clear hk); (try clear hi))); try go_wp2_with (first | (go_at_call 12; (with_reducible refine (marlinspikeref08_Right.calls k _ _ l0_0 a0_1 true _ ?side1 ?side2 A6.out).mono ?_); (case side1 => repeat (first | exact (Kd.C_below HR0_0.out HB.out) | (with_reducible refine Kd.C_alloc ?_ _) | (with_reducible refine Kd.C_drewN ?_ _) | (with_reducible refine Kd.C_drew ?_))); (case side2 => exact HC0_0.out); rintro e w9 ⟨rfl, hb⟩; have n0_ := Aside0.mk (blk_below (g := gb104) (o := .cells #[.slice A0_0 l0_0.length c0_0, .int .i64 a0_1] 24 (0, 0)) (by (with_reducible repeat (first | refine blk_drewN ?_ _ | refine blk_drew ?_ | refine blk_alloc ?_ _)); exact BK104.out) hb); have n1_ := Aside0.mk (below_step (by repeat (first | (with_reducible first | exact HB.out | apply below_alloc | apply pw_below_drewN | apply below_drew1 | refine below_set ?_ GE104.out) | exact HB.out)) hb); clear BK104; clear HB; have BK104 := n0_; have HB := n1_; clear n0_ n1_; (try clear hb); (try clear hb2); (try clear hk); (try clear hi))))
      go_meet
      case rel => exact ⟨_, (decide (a1 < 0)), (by first | rfl | (simp; done) | (simp [*]; done)), H', ⟨by first | omega | exact Nat.le_refl _⟩, ⟨by (with_reducible repeat (first | refine blk_drewN ?_ _ | refine blk_drew ?_ | refine blk_alloc ?_ _)); exact BK104.out⟩, ⟨by repeat (first | (with_reducible first | exact HB.out | apply below_alloc | apply pw_below_drewN | apply below_drew1 | refine below_set ?_ GE104.out) | exact HB.out)⟩⟩
    · replace c7 := Bool.eq_false_iff.mpr c7
      subst c7
      have H1 : (marlinspikeref08_Step.j0 k a1 l2 true l0_0 a0_1) = some r := by rw [if_neg (show ¬ (false = true) by decide)] at H; exact H
      clear H
      have H := H1
      clear H1
      have H' := Aside0.mk H
      clear H
      have hcz10_0 : w5.cell? ⟨gb104, 0, none⟩ = some (.slice A0_0 l0_0.length c0_0) := (blk_cell BK104.out 0).trans rfl
      have hcz10_1 : w5.cell? ⟨gb104, 1, none⟩ = some (.int .i64 a0_1) := (blk_cell BK104.out 1).trans rfl
      have hfz10_0 := blk_frozen BK104.out 0
      have hfz10_1 := blk_frozen BK104.out 1
      go_wp2_with (first | (go_at_call 12; (with_reducible refine (marlinspikeref08_Right.calls k _ _ l0_0 a0_1 false _ ?side1 ?side2 A6.out).mono ?_); (case side1 => repeat (first | exact (Kd.C_below HR0_0.out HB.out) | (with_reducible refine Kd.C_alloc ?_ _) | (with_reducible refine Kd.C_drewN ?_ _) | (with_reducible refine Kd.C_drew ?_))); (case side2 => exact HC0_0.out); rintro e w11 ⟨rfl, hb⟩; have n0_ := Aside0.mk (blk_below (g := gb104) (o := .cells #[.slice A0_0 l0_0.length c0_0, .int .i64 a0_1] 24 (0, 0)) (by (with_reducible repeat (first | refine blk_drewN ?_ _ | refine blk_drew ?_ | refine blk_alloc ?_ _)); exact BK104.out) hb); have n1_ := Aside0.mk (below_step (by repeat (first | (with_reducible first | exact HB.out | apply below_alloc | apply pw_below_drewN | apply below_drew1 | refine below_set ?_ GE104.out) | exact HB.out)) hb); clear BK104; clear HB; have BK104 := n0_; have HB := n1_; clear n0_ n1_; (try clear hb); (try clear hb2); (try clear hk); (try clear hi)))
      repeat (go_quiet (first | (go_at_call 12; (with_reducible refine (marlinspikeref08_Right.calls k _ _ l0_0 a0_1 false _ ?side1 ?side2 A6.out).mono ?_); (case side1 => repeat (first | exact (Kd.C_below HR0_0.out HB.out) | (with_reducible refine Kd.C_alloc ?_ _) | (with_reducible refine Kd.C_drewN ?_ _) | (with_reducible refine Kd.C_drew ?_))); (case side2 => exact HC0_0.out); rintro e w11 ⟨rfl, hb⟩; have n0_ := Aside0.mk (blk_below (g := gb104) (o := .cells #[.slice A0_0 l0_0.length c0_0, .int .i64 a0_1] 24 (0, 0)) (by (with_reducible repeat (first | refine blk_drewN ?_ _ | refine blk_drew ?_ | refine blk_alloc ?_ _)); exact BK104.out) hb); have n1_ := Aside0.mk (below_step (by repeat (first | (with_reducible first | exact HB.out | apply below_alloc | apply pw_below_drewN | apply below_drew1 | refine below_set ?_ GE104.out) | exact HB.out)) hb); clear BK104; clear HB; have BK104 := n0_; have HB := n1_; clear n0_ n1_; (try clear hb); (try clear hb2); (try clear hk); (try clear hi))); try go_wp2_with (first | (go_at_call 12; (with_reducible refine (marlinspikeref08_Right.calls k _ _ l0_0 a0_1 false _ ?side1 ?side2 A6.out).mono ?_); (case side1 => repeat (first | exact (Kd.C_below HR0_0.out HB.out) | (with_reducible refine Kd.C_alloc ?_ _) | (with_reducible refine Kd.C_drewN ?_ _) | (with_reducible refine Kd.C_drew ?_))); (case side2 => exact HC0_0.out); rintro e w11 ⟨rfl, hb⟩; have n0_ := Aside0.mk (blk_below (g := gb104) (o := .cells #[.slice A0_0 l0_0.length c0_0, .int .i64 a0_1] 24 (0, 0)) (by (with_reducible repeat (first | refine blk_drewN ?_ _ | refine blk_drew ?_ | refine blk_alloc ?_ _)); exact BK104.out) hb); have n1_ := Aside0.mk (below_step (by repeat (first | (with_reducible first | exact HB.out | apply below_alloc | apply pw_below_drewN | apply below_drew1 | refine below_set ?_ GE104.out) | exact HB.out)) hb); clear BK104; clear HB; have BK104 := n0_; have HB := n1_; clear n0_ n1_; (try clear hb); (try clear hb2); (try clear hk); (try clear hi))))
      go_meet
      case rel => exact ⟨_, (true), (by first | rfl | (simp; done) | (simp [*]; done)), H', ⟨by first | omega | exact Nat.le_refl _⟩, ⟨by (with_reducible repeat (first | refine blk_drewN ?_ _ | refine blk_drew ?_ | refine blk_alloc ?_ _)); exact BK104.out⟩, ⟨by repeat (first | (with_reducible first | exact HB.out | apply below_alloc | apply pw_below_drewN | apply below_drew1 | refine below_set ?_ GE104.out) | exact HB.out)⟩⟩
  case rest =>
    clear HC4
    try clear c1
    try clear c2
    try clear p2
    try clear c7
    try clear hcz10_0
    try clear hcz10_1
    try clear hcz8_0
    try clear hcz8_1
    try clear hfz10_0
    try clear hfz10_1
    try clear hfz8_0
    try clear hfz8_1
    obtain ⟨kq, x17_3, rfl, HA, HJ3, BK104, HB⟩ := hcut
    cases kq with
    | zero => exact absurd HA.out (by simp [marlinspikeref08_Step.j0])
    | succ kj3 =>
      have H := HA.out
      clear HA
      simp only [marlinspikeref08_Step.j0] at H
      by_cases c12 : x17_3 = true
      · subst c12
        have H1 : (some ([] : List Int)) = some r := by rw [if_pos rfl] at H; exact H
        clear H
        have H := H1
        clear H1
        obtain rfl := Option.some.inj H
        go_wp2
        repeat (go_quiet (fail); try go_wp2)
        go_ret
        exact ⟨_, by first | rfl | (simp [errW_none, errW_some] <;> rfl) | (simp [*, errW_none, errW_some] <;> rfl), by first | exact Kd.R_nil _ _ _ _ _ | exact Kd.N_nil _ _ _ _ _ | exact Kd.V_nil _ _ _ _ _ | exact Kd.Q_nil _ _ _ _ _ | exact Kd.S_nil _ _ _ _ _, by repeat (first | (with_reducible first | exact HB.out | apply below_alloc | apply pw_below_drewN | apply below_drew1 | refine below_set ?_ GE104.out) | exact HB.out)⟩
      · replace c12 := Bool.eq_false_iff.mpr c12
        subst c12
        have H1 : (marlinspikeref08_Step.l0 kj3 a1 l2 ([] : List Int) 0 l0_0 a0_1) = some r := by rw [if_neg (show ¬ (false = true) by decide)] at H; exact H
        clear H
        have H := H1
        clear H1
        have H' := Aside0.mk H
        clear H
        go_wp2
        repeat (go_quiet (fail); try go_wp2)
        go_loopg [7, 8] kj3 (fun kq v7 v8 w' => ∃ (x7_2 : List Int) (x8_2 : Int), v8 = .int .i64 x8_2 ∧ Aside0 (marlinspikeref08_Step.l0 kq a1 l2 x7_2 x8_2 l0_0 a0_1 = some r) ∧ Aside0 (kq ≤ kj3) ∧ Aside0 (Kd.R (Kd.int .i64) 3 w' w.heap.size (fun _ => True) v7 x7_2) ∧ Aside0 (w'.heap[gb104]? = some (.cells #[(.slice A0_0 l0_0.length c0_0), .int .i64 a0_1] 24 (0, 0))) ∧ Aside0 (Below w.heap.size w w'))
        case atStart => exact ⟨(([] : List Int)), (0), (by first | rfl | (simp; done) | (simp [*]; done)), H', ⟨Nat.le_refl _⟩, ⟨by first | exact Kd.R_nil _ _ _ _ _ | exact Kd.N_nil _ _ _ _ _ | exact Kd.V_nil _ _ _ _ _ | exact Kd.Q_nil _ _ _ _ _ | exact Kd.S_nil _ _ _ _ _⟩, ⟨by (with_reducible repeat (first | refine blk_drewN ?_ _ | refine blk_drew ?_ | refine blk_alloc ?_ _)); exact BK104.out⟩, ⟨by repeat (first | (with_reducible first | exact HB.out | apply below_alloc | apply pw_below_drewN | apply below_drew1 | refine below_set ?_ GE104.out) | exact HB.out)⟩⟩
        case round =>
          clear H'
          try clear c1
          try clear c2
          try clear p2
          try clear c7
          try clear c12
          try clear hcz10_0
          try clear hcz10_1
          try clear hcz8_0
          try clear hcz8_1
          try clear hfz10_0
          try clear hfz10_1
          try clear hfz8_0
          try clear hfz8_1
          try clear p2
          obtain ⟨x7_2, x8_2, rfl, HA, HK2, HO_7, BK104, HB⟩ := hrel
          cases gk with
          | zero => exact absurd HA.out (by simp [marlinspikeref08_Step.l0])
          | succ k2 =>
            have H := HA.out
            clear HA
            simp only [marlinspikeref08_Step.l0] at H
            by_cases c13 : x8_2 < (l0_0.length : Int)
            · rw [if_pos c13] at H
              have c13b0 : decide (x8_2 < (l0_0.length : Int)) = true := decide_eq_true c13
              clear c13
              have H' := Aside0.mk H
              clear H
              have hcz14_0 : wr.cell? ⟨gb104, 0, none⟩ = some (.slice A0_0 l0_0.length c0_0) := (blk_cell BK104.out 0).trans rfl
              have hcz14_1 : wr.cell? ⟨gb104, 1, none⟩ = some (.int .i64 a0_1) := (blk_cell BK104.out 1).trans rfl
              have hfz14_0 := blk_frozen BK104.out 0
              have hfz14_1 := blk_frozen BK104.out 1
              go_wp2
              repeat (go_quiet (fail); try go_wp2)
              go_loopg [9, 10] k2 (fun kq v9 v10 w' => ∃ (x9_3 : Bool) (x10_3 : Int), v9 = .bool x9_3 ∧ v10 = .int .i64 x10_3 ∧ Aside0 (marlinspikeref08_Step.l1 kq a1 l2 x7_2 x8_2 x9_3 x10_3 l0_0 a0_1 = some r) ∧ Aside0 (kq ≤ k2) ∧ Aside0 (Kd.R (Kd.int .i64) 3 w' w.heap.size (fun _ => True) u7 x7_2) ∧ Aside0 (w'.heap[gb104]? = some (.cells #[(.slice A0_0 l0_0.length c0_0), .int .i64 a0_1] 24 (0, 0))) ∧ Aside0 (Below w.heap.size w w'))
              case atStart => exact ⟨(false), (0), (by first | rfl | (simp; done) | (simp [*]; done)), (by first | rfl | (simp; done) | (simp [*]; done)), H', ⟨Nat.le_refl _⟩, ⟨by (with_reducible repeat (first | apply Kd.R_alloc | apply Kd.R_drewN | apply Kd.R_drew)); exact HO_7.out⟩, ⟨by (with_reducible repeat (first | refine blk_drewN ?_ _ | refine blk_drew ?_ | refine blk_alloc ?_ _)); exact BK104.out⟩, ⟨by repeat (first | (with_reducible first | exact HB.out | apply below_alloc | apply pw_below_drewN | apply below_drew1 | refine below_set ?_ GE104.out) | exact HB.out)⟩⟩
              case round =>
                clear H'
                try clear c1
                try clear c2
                try clear p2
                try clear c7
                try clear c12
                try clear c13
                try clear c13b0
                try clear hcz10_0
                try clear hcz10_1
                try clear hcz14_0
                try clear hcz14_1
                try clear hcz8_0
                try clear hcz8_1
                try clear hfz10_0
                try clear hfz10_1
                try clear hfz14_0
                try clear hfz14_1
                try clear hfz8_0
                try clear hfz8_1
                try clear p2
                obtain ⟨x9_3, x10_3, rfl, rfl, HA, HK3, HO_7, BK104, HB⟩ := hrel
                cases gk with
                | zero => exact absurd HA.out (by simp [marlinspikeref08_Step.l1])
                | succ k3 =>
                  have H := HA.out
                  clear HA
                  simp only [marlinspikeref08_Step.l1] at H
                  by_cases c15 : x10_3 < (l2.length : Int)
                  · rw [if_pos c15] at H
                    have c15b0 : decide (x10_3 < (l2.length : Int)) = true := decide_eq_true c15
                    clear c15
                    by_cases c16 : x9_3 = true
                    · subst c16
                      have H1 : (marlinspikeref08_Step.l1 k3 a1 l2 x7_2 x8_2 true (wrap64 (x10_3 + 1)) l0_0 a0_1) = some r := by rw [if_pos rfl] at H; exact H
                      clear H
                      have H := H1
                      clear H1
                      have H' := Aside0.mk H
                      clear H
                      go_wp2
                      repeat (go_quiet (fail); try go_wp2)
                      go_roundg k3
                      case measure => have := HJ3.out; have := HK2.out; have := HK3.out; omega
                      case rel => exact ⟨(true), (wrap64 (x10_3 + 1)), (by first | rfl | (simp; done) | (simp [*]; done)), (by first | rfl | (simp; done) | (simp [*]; done)), H', ⟨by have := HJ3.out; have := HK2.out; have := HK3.out; omega⟩, ⟨by (with_reducible repeat (first | apply Kd.R_alloc | apply Kd.R_drewN | apply Kd.R_drew)); exact HO_7.out⟩, ⟨by (with_reducible repeat (first | refine blk_drewN ?_ _ | refine blk_drew ?_ | refine blk_alloc ?_ _)); exact BK104.out⟩, ⟨by repeat (first | (with_reducible first | exact HB.out | apply below_alloc | apply pw_below_drewN | apply below_drew1 | refine below_set ?_ GE104.out) | exact HB.out)⟩⟩
                    · replace c16 := Bool.eq_false_iff.mpr c16
                      subst c16
                      have H1 : (if 0 ≤ x10_3 then (if 0 ≤ x8_2 then (if x8_2 < (l0_0.length : Int) then (marlinspikeref08_Step.l1 k3 a1 l2 x7_2 x8_2 ((rd l2 x10_3) == (rd l0_0 x8_2)) (wrap64 (x10_3 + 1)) l0_0 a0_1) else (none)) else (none)) else (none)) = some r := by rw [if_neg (show ¬ (false = true) by decide)] at H; exact H
                      clear H
                      have H := H1
                      clear H1
                      by_cases c17 : 0 ≤ x10_3
                      · rw [if_pos c17] at H
                        have c17b0 : decide (0 ≤ x10_3) = true := decide_eq_true c17
                        clear c17
                        by_cases c18 : 0 ≤ x8_2
                        · rw [if_pos c18] at H
                          have c18b0 : decide (0 ≤ x8_2) = true := decide_eq_true c18
                          clear c18
                          by_cases c19 : x8_2 < (l0_0.length : Int)
                          · rw [if_pos c19] at H
                            have c19b0 : decide (x8_2 < (l0_0.length : Int)) = true := decide_eq_true c19
                            clear c19
                            have H' := Aside0.mk H
                            clear H
                            have p106 : 0 ≤ (x10_3 : Int) := of_decide_eq_true (by first | (with_reducible assumption) | assumption)
                            have q106 : x10_3 < (l2.length : Int) := of_decide_eq_true (by first | (with_reducible assumption) | assumption)
                            obtain ⟨ad106, e106, hx106_0⟩ := Kd.at_int HR2.out x10_3 p106 q106
                            cases e106
                            replace hx106_0 := (HB.out.cell (World.block_lt_of_cell? w _ hx106_0)).trans hx106_0
                            replace p106 := eq_true p106
                            replace q106 := eq_true q106
                            have hcz20_0 : wr.cell? ⟨gb104, 0, none⟩ = some (.slice A0_0 l0_0.length c0_0) := (blk_cell BK104.out 0).trans rfl
                            have hcz20_1 : wr.cell? ⟨gb104, 1, none⟩ = some (.int .i64 a0_1) := (blk_cell BK104.out 1).trans rfl
                            have hfz20_0 := blk_frozen BK104.out 0
                            have hfz20_1 := blk_frozen BK104.out 1
                            have p107 : 0 ≤ (x8_2 : Int) := of_decide_eq_true (by first | (with_reducible assumption) | assumption)
                            have q107 : x8_2 < (l0_0.length : Int) := of_decide_eq_true (by first | (with_reducible assumption) | assumption)
                            obtain ⟨ad107, e107, hx107_0⟩ := Kd.at_int HR0_0.out x8_2 p107 q107
                            cases e107
                            replace hx107_0 := (HB.out.cell (World.block_lt_of_cell? w _ hx107_0)).trans hx107_0
                            replace p107 := eq_true p107
                            replace q107 := eq_true q107
                            go_wp2
                            repeat (go_quiet (fail); try go_wp2)
                            go_roundg k3
                            case measure => have := HJ3.out; have := HK2.out; have := HK3.out; omega
                            case rel => exact ⟨(((rd l2 x10_3) == (rd l0_0 x8_2))), (wrap64 (x10_3 + 1)), (by first | rfl | (simp; done) | (simp [*]; done)), (by first | rfl | (simp; done) | (simp [*]; done)), H', ⟨by have := HJ3.out; have := HK2.out; have := HK3.out; omega⟩, ⟨by (with_reducible repeat (first | apply Kd.R_alloc | apply Kd.R_drewN | apply Kd.R_drew)); exact HO_7.out⟩, ⟨by (with_reducible repeat (first | refine blk_drewN ?_ _ | refine blk_drew ?_ | refine blk_alloc ?_ _)); exact BK104.out⟩, ⟨by repeat (first | (with_reducible first | exact HB.out | apply below_alloc | apply pw_below_drewN | apply below_drew1 | refine below_set ?_ GE104.out) | exact HB.out)⟩⟩
                          · rw [if_neg c19] at H
                            exact absurd H (by simp)
                        · rw [if_neg c18] at H
                          exact absurd H (by simp)
                      · rw [if_neg c17] at H
                        exact absurd H (by simp)
                  · rw [if_neg c15] at H
                    have c15b0 : decide (x10_3 < (l2.length : Int)) = false := decide_eq_false c15
                    clear c15
                    by_cases c21 : x9_3 = true
                    · subst c21
                      have H1 : (marlinspikeref08_Step.l0 k3 a1 l2 x7_2 (wrap64 (x8_2 + 1)) l0_0 a0_1) = some r := by rw [if_pos rfl] at H; exact H
                      clear H
                      have H := H1
                      clear H1
                      have H' := Aside0.mk H
                      clear H
                      go_wp2
                      repeat (go_quiet (fail); try go_wp2)
                      go_roundg k3
                      case measure => have := HJ3.out; have := HK2.out; have := HK3.out; omega
                      case rel => exact ⟨(x7_2), (wrap64 (x8_2 + 1)), (by first | rfl | (simp; done) | (simp [*]; done)), H', ⟨by have := HJ3.out; have := HK2.out; have := HK3.out; omega⟩, ⟨by (with_reducible repeat (first | apply Kd.R_alloc | apply Kd.R_drewN | apply Kd.R_drew)); exact HO_7.out⟩, ⟨by (with_reducible repeat (first | refine blk_drewN ?_ _ | refine blk_drew ?_ | refine blk_alloc ?_ _)); exact BK104.out⟩, ⟨by repeat (first | (with_reducible first | exact HB.out | apply below_alloc | apply pw_below_drewN | apply below_drew1 | refine below_set ?_ GE104.out) | exact HB.out)⟩⟩
                    · replace c21 := Bool.eq_false_iff.mpr c21
                      subst c21
                      have H1 : (if a0_1 = 0 then (if 0 ≤ x8_2 then (if x8_2 < (l0_0.length : Int) then (if x7_2.length < 17592186044416 then (marlinspikeref08_Step.l0 k3 a1 l2 (x7_2 ++ [rd l0_0 x8_2]) (wrap64 (x8_2 + 1)) l0_0 a0_1) else (none)) else (none)) else (none)) else (if a1 < a0_1 then (if (x7_2.length : Int) < (wrap64 (a0_1 - a1)) then (if 0 ≤ x8_2 then (if x8_2 < (l0_0.length : Int) then (if x7_2.length < 17592186044416 then (marlinspikeref08_Step.l0 k3 a1 l2 (x7_2 ++ [rd l0_0 x8_2]) (wrap64 (x8_2 + 1)) l0_0 a0_1) else (none)) else (none)) else (none)) else (marlinspikeref08_Step.l0 k3 a1 l2 x7_2 (wrap64 (x8_2 + 1)) l0_0 a0_1)) else (marlinspikeref08_Step.l0 k3 a1 l2 x7_2 (wrap64 (x8_2 + 1)) l0_0 a0_1))) = some r := by rw [if_neg (show ¬ (false = true) by decide)] at H; exact H
                      clear H
                      have H := H1
                      clear H1
                      by_cases c22 : a0_1 = 0
                      · rw [if_pos c22] at H
                        have c22b0 : (a0_1 == 0) = true := beq_iff_eq.mpr c22
                        have c22b1 : (a0_1 != 0) = false := bne_eq_false_iff_eq.mpr c22
                        clear c22
                        by_cases c23 : 0 ≤ x8_2
                        · rw [if_pos c23] at H
                          have c23b0 : decide (0 ≤ x8_2) = true := decide_eq_true c23
                          clear c23
                          by_cases c24 : x8_2 < (l0_0.length : Int)
                          · rw [if_pos c24] at H
                            have c24b0 : decide (x8_2 < (l0_0.length : Int)) = true := decide_eq_true c24
                            clear c24
                            by_cases c25 : x7_2.length < 17592186044416
                            · rw [if_pos c25] at H
                              have LMc25 := Aside0.mk c25
                              clear c25
                              obtain ⟨y109, hy109⟩ : ∃ y_ : List Int, y_ = (x7_2 ++ [rd l0_0 x8_2]) := ⟨_, rfl⟩
                              replace H : (marlinspikeref08_Step.l0 k3 a1 l2 y109 (wrap64 (x8_2 + 1)) l0_0 a0_1) = some r := by first | (rw [hy109]; with_reducible exact H) | (have H2_ := (Option.bind_some _ _).symm.trans H; rw [hy109]; with_reducible exact H2_) | (have H2_ := (Option.bind_some _ _).symm.trans H; with_reducible exact H2_) | with_reducible exact H | (rw [hy109]; exact H) | exact H
                              have Ny109 := Aside0.mk hy109
                              clear hy109
                              have H' := Aside0.mk H
                              clear H
                              have hcz26_0 : wr.cell? ⟨gb104, 0, none⟩ = some (.slice A0_0 l0_0.length c0_0) := (blk_cell BK104.out 0).trans rfl
                              have hcz26_1 : wr.cell? ⟨gb104, 1, none⟩ = some (.int .i64 a0_1) := (blk_cell BK104.out 1).trans rfl
                              have hfz26_0 := blk_frozen BK104.out 0
                              have hfz26_1 := blk_frozen BK104.out 1
                              have p108 : 0 ≤ (x8_2 : Int) := of_decide_eq_true (by first | (with_reducible assumption) | assumption)
                              have q108 : x8_2 < (l0_0.length : Int) := of_decide_eq_true (by first | (with_reducible assumption) | assumption)
                              obtain ⟨ad108, e108, hx108_0⟩ := Kd.at_int HR0_0.out x8_2 p108 q108
                              cases e108
                              replace hx108_0 := (HB.out.cell (World.block_lt_of_cell? w _ hx108_0)).trans hx108_0
                              replace p108 := eq_true p108
                              replace q108 := eq_true q108
                              go_wp2_with (first | ((with_reducible refine gate_builtin (b := .append) (xs := #[.tmp 66, .tmp 72]) rfl ?_); (try (refine gate_guard (by rfl) ?_; dsimp only)); at_builtin; refine Kd.R_append (Kd.int .i64) (w0 := w) w.heap.size rfl (.tmp 66) (.tmp 72) 22 3 (.int .i64 0) 8 rfl Tryd.underlying22 info3 rfl (by decide) (by omega) u7 x7_2 (rd l0_0 x8_2) [.int .i64 (rd l0_0 x8_2)] (fun _ => True) (fun _ => False) rfl rfl ?aP (fun _ hk => hk.elim) ?aF ?aO ?aB ?aS ?aL ?_; (case aP => exact rfl); (case aB => exact (by repeat (first | (with_reducible first | exact HB.out | apply below_alloc | apply pw_below_drewN | apply below_drew1 | refine below_set ?_ GE104.out) | exact HB.out))); (case aF => exact (fun _ _ => trivial)); (case aO => exact (by (with_reducible repeat (first | apply Kd.R_alloc | apply Kd.R_drewN | apply Kd.R_drew)); exact HO_7.out)); (case aS => exact (below_size (by repeat (first | (with_reducible first | exact HB.out | apply below_alloc | apply pw_below_drewN | apply below_drew1 | refine below_set ?_ GE104.out) | exact HB.out)))); (case aL => have := LMc25.out; omega); intro v110 w27 ho hb hg hat; rw [← Ny109.out] at ho; have n0_ := Aside0.mk (blk_grown (g := gb104) (o := .cells #[.slice (some ad108) l0_0.length c0_0, .int .i64 a0_1] 24 (0, 0)) (by (with_reducible repeat (first | refine blk_drewN ?_ _ | refine blk_drew ?_ | refine blk_alloc ?_ _)); exact BK104.out) hg (Kd.R_ne HO_7.out BK104.out (by decide))); have n1_ := Aside0.mk (hb); have n2_ := Aside0.mk (ho); clear BK104; clear HB; clear HO_7; have BK104 := n0_; have HB := n1_; have HO111 := n2_; clear n0_ n1_ n2_; clear ho hb hg hat))
                              repeat (go_quiet (first | ((with_reducible refine gate_builtin (b := .append) (xs := #[.tmp 66, .tmp 72]) rfl ?_); (try (refine gate_guard (by rfl) ?_; dsimp only)); at_builtin; refine Kd.R_append (Kd.int .i64) (w0 := w) w.heap.size rfl (.tmp 66) (.tmp 72) 22 3 (.int .i64 0) 8 rfl Tryd.underlying22 info3 rfl (by decide) (by omega) u7 x7_2 (rd l0_0 x8_2) [.int .i64 (rd l0_0 x8_2)] (fun _ => True) (fun _ => False) rfl rfl ?aP (fun _ hk => hk.elim) ?aF ?aO ?aB ?aS ?aL ?_; (case aP => exact rfl); (case aB => exact (by repeat (first | (with_reducible first | exact HB.out | apply below_alloc | apply pw_below_drewN | apply below_drew1 | refine below_set ?_ GE104.out) | exact HB.out))); (case aF => exact (fun _ _ => trivial)); (case aO => exact (by (with_reducible repeat (first | apply Kd.R_alloc | apply Kd.R_drewN | apply Kd.R_drew)); exact HO_7.out)); (case aS => exact (below_size (by repeat (first | (with_reducible first | exact HB.out | apply below_alloc | apply pw_below_drewN | apply below_drew1 | refine below_set ?_ GE104.out) | exact HB.out)))); (case aL => have := LMc25.out; omega); intro v110 w27 ho hb hg hat; rw [← Ny109.out] at ho; have n0_ := Aside0.mk (blk_grown (g := gb104) (o := .cells #[.slice (some ad108) l0_0.length c0_0, .int .i64 a0_1] 24 (0, 0)) (by (with_reducible repeat (first | refine blk_drewN ?_ _ | refine blk_drew ?_ | refine blk_alloc ?_ _)); exact BK104.out) hg (Kd.R_ne HO_7.out BK104.out (by decide))); have n1_ := Aside0.mk (hb); have n2_ := Aside0.mk (ho); clear BK104; clear HB; clear HO_7; have BK104 := n0_; have HB := n1_; have HO111 := n2_; clear n0_ n1_ n2_; clear ho hb hg hat)); try go_wp2_with (first | ((with_reducible refine gate_builtin (b := .append) (xs := #[.tmp 66, .tmp 72]) rfl ?_); (try (refine gate_guard (by rfl) ?_; dsimp only)); at_builtin; refine Kd.R_append (Kd.int .i64) (w0 := w) w.heap.size rfl (.tmp 66) (.tmp 72) 22 3 (.int .i64 0) 8 rfl Tryd.underlying22 info3 rfl (by decide) (by omega) u7 x7_2 (rd l0_0 x8_2) [.int .i64 (rd l0_0 x8_2)] (fun _ => True) (fun _ => False) rfl rfl ?aP (fun _ hk => hk.elim) ?aF ?aO ?aB ?aS ?aL ?_; (case aP => exact rfl); (case aB => exact (by repeat (first | (with_reducible first | exact HB.out | apply below_alloc | apply pw_below_drewN | apply below_drew1 | refine below_set ?_ GE104.out) | exact HB.out))); (case aF => exact (fun _ _ => trivial)); (case aO => exact (by (with_reducible repeat (first | apply Kd.R_alloc | apply Kd.R_drewN | apply Kd.R_drew)); exact HO_7.out)); (case aS => exact (below_size (by repeat (first | (with_reducible first | exact HB.out | apply below_alloc | apply pw_below_drewN | apply below_drew1 | refine below_set ?_ GE104.out) | exact HB.out)))); (case aL => have := LMc25.out; omega); intro v110 w27 ho hb hg hat; rw [← Ny109.out] at ho; have n0_ := Aside0.mk (blk_grown (g := gb104) (o := .cells #[.slice (some ad108) l0_0.length c0_0, .int .i64 a0_1] 24 (0, 0)) (by (with_reducible repeat (first | refine blk_drewN ?_ _ | refine blk_drew ?_ | refine blk_alloc ?_ _)); exact BK104.out) hg (Kd.R_ne HO_7.out BK104.out (by decide))); have n1_ := Aside0.mk (hb); have n2_ := Aside0.mk (ho); clear BK104; clear HB; clear HO_7; have BK104 := n0_; have HB := n1_; have HO111 := n2_; clear n0_ n1_ n2_; clear ho hb hg hat)))
                              go_roundg k3
                              case measure => have := HJ3.out; have := HK2.out; have := HK3.out; omega
                              case rel => exact ⟨(y109), (wrap64 (x8_2 + 1)), (by first | rfl | (simp; done) | (simp [*]; done)), H', ⟨by have := HJ3.out; have := HK2.out; have := HK3.out; omega⟩, ⟨by (with_reducible repeat (first | apply Kd.R_alloc | apply Kd.R_drewN | apply Kd.R_drew)); exact HO111.out⟩, ⟨by (with_reducible repeat (first | refine blk_drewN ?_ _ | refine blk_drew ?_ | refine blk_alloc ?_ _)); exact BK104.out⟩, ⟨by repeat (first | (with_reducible first | exact HB.out | apply below_alloc | apply pw_below_drewN | apply below_drew1 | refine below_set ?_ GE104.out) | exact HB.out)⟩⟩
                            · rw [if_neg c25] at H
                              exact absurd H (by simp)
                          · rw [if_neg c24] at H
                            exact absurd H (by simp)
                        · rw [if_neg c23] at H
                          exact absurd H (by simp)
                      · rw [if_neg c22] at H
                        have c22b0 : (a0_1 == 0) = false := beq_eq_false_iff_ne.mpr c22
                        have c22b1 : (a0_1 != 0) = true := bne_iff_ne.mpr c22
                        by_cases c28 : a1 < a0_1
                        · rw [if_pos c28] at H
                          have c28b0 : decide (a1 < a0_1) = true := decide_eq_true c28
                          clear c28
                          by_cases c29 : (x7_2.length : Int) < (wrap64 (a0_1 - a1))
                          · rw [if_pos c29] at H
                            have c29b0 : decide ((x7_2.length : Int) < (wrap64 (a0_1 - a1))) = true := decide_eq_true c29
                            clear c29
                            by_cases c30 : 0 ≤ x8_2
                            · rw [if_pos c30] at H
                              have c30b0 : decide (0 ≤ x8_2) = true := decide_eq_true c30
                              clear c30
                              by_cases c31 : x8_2 < (l0_0.length : Int)
                              · rw [if_pos c31] at H
                                have c31b0 : decide (x8_2 < (l0_0.length : Int)) = true := decide_eq_true c31
                                clear c31
                                by_cases c32 : x7_2.length < 17592186044416
                                · rw [if_pos c32] at H
                                  have LMc32 := Aside0.mk c32
                                  clear c32
                                  obtain ⟨y113, hy113⟩ : ∃ y_ : List Int, y_ = (x7_2 ++ [rd l0_0 x8_2]) := ⟨_, rfl⟩
                                  replace H : (marlinspikeref08_Step.l0 k3 a1 l2 y113 (wrap64 (x8_2 + 1)) l0_0 a0_1) = some r := by first | (rw [hy113]; with_reducible exact H) | (have H2_ := (Option.bind_some _ _).symm.trans H; rw [hy113]; with_reducible exact H2_) | (have H2_ := (Option.bind_some _ _).symm.trans H; with_reducible exact H2_) | with_reducible exact H | (rw [hy113]; exact H) | exact H
                                  have Ny113 := Aside0.mk hy113
                                  clear hy113
                                  have H' := Aside0.mk H
                                  clear H
                                  have hcz33_0 : wr.cell? ⟨gb104, 0, none⟩ = some (.slice A0_0 l0_0.length c0_0) := (blk_cell BK104.out 0).trans rfl
                                  have hcz33_1 : wr.cell? ⟨gb104, 1, none⟩ = some (.int .i64 a0_1) := (blk_cell BK104.out 1).trans rfl
                                  have hfz33_0 := blk_frozen BK104.out 0
                                  have hfz33_1 := blk_frozen BK104.out 1
                                  obtain ⟨Ao34, co34, eo34⟩ := Kd.R_slice HO_7.out
                                  subst eo34
                                  have p112 : 0 ≤ (x8_2 : Int) := of_decide_eq_true (by first | (with_reducible assumption) | assumption)
                                  have q112 : x8_2 < (l0_0.length : Int) := of_decide_eq_true (by first | (with_reducible assumption) | assumption)
                                  obtain ⟨ad112, e112, hx112_0⟩ := Kd.at_int HR0_0.out x8_2 p112 q112
                                  cases e112
                                  replace hx112_0 := (HB.out.cell (World.block_lt_of_cell? w _ hx112_0)).trans hx112_0
                                  replace p112 := eq_true p112
                                  replace q112 := eq_true q112
                                  go_wp2_with (first | ((with_reducible refine gate_builtin (b := .append) (xs := #[.tmp 66, .tmp 72]) rfl ?_); (try (refine gate_guard (by rfl) ?_; dsimp only)); at_builtin; refine Kd.R_append (Kd.int .i64) (w0 := w) w.heap.size rfl (.tmp 66) (.tmp 72) 22 3 (.int .i64 0) 8 rfl Tryd.underlying22 info3 rfl (by decide) (by omega) (.slice Ao34 x7_2.length co34) x7_2 (rd l0_0 x8_2) [.int .i64 (rd l0_0 x8_2)] (fun _ => True) (fun _ => False) rfl rfl ?aP (fun _ hk => hk.elim) ?aF ?aO ?aB ?aS ?aL ?_; (case aP => exact rfl); (case aB => exact (by repeat (first | (with_reducible first | exact HB.out | apply below_alloc | apply pw_below_drewN | apply below_drew1 | refine below_set ?_ GE104.out) | exact HB.out))); (case aF => exact (fun _ _ => trivial)); (case aO => exact (by (with_reducible repeat (first | apply Kd.R_alloc | apply Kd.R_drewN | apply Kd.R_drew)); exact HO_7.out)); (case aS => exact (below_size (by repeat (first | (with_reducible first | exact HB.out | apply below_alloc | apply pw_below_drewN | apply below_drew1 | refine below_set ?_ GE104.out) | exact HB.out)))); (case aL => have := LMc32.out; omega); intro v114 w35 ho hb hg hat; rw [← Ny113.out] at ho; have n0_ := Aside0.mk (blk_grown (g := gb104) (o := .cells #[.slice (some ad112) l0_0.length c0_0, .int .i64 a0_1] 24 (0, 0)) (by (with_reducible repeat (first | refine blk_drewN ?_ _ | refine blk_drew ?_ | refine blk_alloc ?_ _)); exact BK104.out) hg (Kd.R_ne HO_7.out BK104.out (by decide))); have n1_ := Aside0.mk (hb); have n2_ := Aside0.mk (ho); clear BK104; clear HB; clear HO_7; have BK104 := n0_; have HB := n1_; have HO115 := n2_; clear n0_ n1_ n2_; clear ho hb hg hat))
                                  repeat (go_quiet (first | ((with_reducible refine gate_builtin (b := .append) (xs := #[.tmp 66, .tmp 72]) rfl ?_); (try (refine gate_guard (by rfl) ?_; dsimp only)); at_builtin; refine Kd.R_append (Kd.int .i64) (w0 := w) w.heap.size rfl (.tmp 66) (.tmp 72) 22 3 (.int .i64 0) 8 rfl Tryd.underlying22 info3 rfl (by decide) (by omega) (.slice Ao34 x7_2.length co34) x7_2 (rd l0_0 x8_2) [.int .i64 (rd l0_0 x8_2)] (fun _ => True) (fun _ => False) rfl rfl ?aP (fun _ hk => hk.elim) ?aF ?aO ?aB ?aS ?aL ?_; (case aP => exact rfl); (case aB => exact (by repeat (first | (with_reducible first | exact HB.out | apply below_alloc | apply pw_below_drewN | apply below_drew1 | refine below_set ?_ GE104.out) | exact HB.out))); (case aF => exact (fun _ _ => trivial)); (case aO => exact (by (with_reducible repeat (first | apply Kd.R_alloc | apply Kd.R_drewN | apply Kd.R_drew)); exact HO_7.out)); (case aS => exact (below_size (by repeat (first | (with_reducible first | exact HB.out | apply below_alloc | apply pw_below_drewN | apply below_drew1 | refine below_set ?_ GE104.out) | exact HB.out)))); (case aL => have := LMc32.out; omega); intro v114 w35 ho hb hg hat; rw [← Ny113.out] at ho; have n0_ := Aside0.mk (blk_grown (g := gb104) (o := .cells #[.slice (some ad112) l0_0.length c0_0, .int .i64 a0_1] 24 (0, 0)) (by (with_reducible repeat (first | refine blk_drewN ?_ _ | refine blk_drew ?_ | refine blk_alloc ?_ _)); exact BK104.out) hg (Kd.R_ne HO_7.out BK104.out (by decide))); have n1_ := Aside0.mk (hb); have n2_ := Aside0.mk (ho); clear BK104; clear HB; clear HO_7; have BK104 := n0_; have HB := n1_; have HO115 := n2_; clear n0_ n1_ n2_; clear ho hb hg hat)); try go_wp2_with (first | ((with_reducible refine gate_builtin (b := .append) (xs := #[.tmp 66, .tmp 72]) rfl ?_); (try (refine gate_guard (by rfl) ?_; dsimp only)); at_builtin; refine Kd.R_append (Kd.int .i64) (w0 := w) w.heap.size rfl (.tmp 66) (.tmp 72) 22 3 (.int .i64 0) 8 rfl Tryd.underlying22 info3 rfl (by decide) (by omega) (.slice Ao34 x7_2.length co34) x7_2 (rd l0_0 x8_2) [.int .i64 (rd l0_0 x8_2)] (fun _ => True) (fun _ => False) rfl rfl ?aP (fun _ hk => hk.elim) ?aF ?aO ?aB ?aS ?aL ?_; (case aP => exact rfl); (case aB => exact (by repeat (first | (with_reducible first | exact HB.out | apply below_alloc | apply pw_below_drewN | apply below_drew1 | refine below_set ?_ GE104.out) | exact HB.out))); (case aF => exact (fun _ _ => trivial)); (case aO => exact (by (with_reducible repeat (first | apply Kd.R_alloc | apply Kd.R_drewN | apply Kd.R_drew)); exact HO_7.out)); (case aS => exact (below_size (by repeat (first | (with_reducible first | exact HB.out | apply below_alloc | apply pw_below_drewN | apply below_drew1 | refine below_set ?_ GE104.out) | exact HB.out)))); (case aL => have := LMc32.out; omega); intro v114 w35 ho hb hg hat; rw [← Ny113.out] at ho; have n0_ := Aside0.mk (blk_grown (g := gb104) (o := .cells #[.slice (some ad112) l0_0.length c0_0, .int .i64 a0_1] 24 (0, 0)) (by (with_reducible repeat (first | refine blk_drewN ?_ _ | refine blk_drew ?_ | refine blk_alloc ?_ _)); exact BK104.out) hg (Kd.R_ne HO_7.out BK104.out (by decide))); have n1_ := Aside0.mk (hb); have n2_ := Aside0.mk (ho); clear BK104; clear HB; clear HO_7; have BK104 := n0_; have HB := n1_; have HO115 := n2_; clear n0_ n1_ n2_; clear ho hb hg hat)))
                                  go_roundg k3
                                  case measure => have := HJ3.out; have := HK2.out; have := HK3.out; omega
                                  case rel => exact ⟨(y113), (wrap64 (x8_2 + 1)), (by first | rfl | (simp; done) | (simp [*]; done)), H', ⟨by have := HJ3.out; have := HK2.out; have := HK3.out; omega⟩, ⟨by (with_reducible repeat (first | apply Kd.R_alloc | apply Kd.R_drewN | apply Kd.R_drew)); exact HO115.out⟩, ⟨by (with_reducible repeat (first | refine blk_drewN ?_ _ | refine blk_drew ?_ | refine blk_alloc ?_ _)); exact BK104.out⟩, ⟨by repeat (first | (with_reducible first | exact HB.out | apply below_alloc | apply pw_below_drewN | apply below_drew1 | refine below_set ?_ GE104.out) | exact HB.out)⟩⟩
                                · rw [if_neg c32] at H
                                  exact absurd H (by simp)
                              · rw [if_neg c31] at H
                                exact absurd H (by simp)
                            · rw [if_neg c30] at H
                              exact absurd H (by simp)
                          · rw [if_neg c29] at H
                            have c29b0 : decide ((x7_2.length : Int) < (wrap64 (a0_1 - a1))) = false := decide_eq_false c29
                            clear c29
                            have H' := Aside0.mk H
                            clear H
                            have hcz36_0 : wr.cell? ⟨gb104, 0, none⟩ = some (.slice A0_0 l0_0.length c0_0) := (blk_cell BK104.out 0).trans rfl
                            have hcz36_1 : wr.cell? ⟨gb104, 1, none⟩ = some (.int .i64 a0_1) := (blk_cell BK104.out 1).trans rfl
                            have hfz36_0 := blk_frozen BK104.out 0
                            have hfz36_1 := blk_frozen BK104.out 1
                            obtain ⟨Ao37, co37, eo37⟩ := Kd.R_slice HO_7.out
                            subst eo37
                            go_wp2
                            repeat (go_quiet (fail); try go_wp2)
                            go_roundg k3
                            case measure => have := HJ3.out; have := HK2.out; have := HK3.out; omega
                            case rel => exact ⟨(x7_2), (wrap64 (x8_2 + 1)), (by first | rfl | (simp; done) | (simp [*]; done)), H', ⟨by have := HJ3.out; have := HK2.out; have := HK3.out; omega⟩, ⟨by (with_reducible repeat (first | apply Kd.R_alloc | apply Kd.R_drewN | apply Kd.R_drew)); exact HO_7.out⟩, ⟨by (with_reducible repeat (first | refine blk_drewN ?_ _ | refine blk_drew ?_ | refine blk_alloc ?_ _)); exact BK104.out⟩, ⟨by repeat (first | (with_reducible first | exact HB.out | apply below_alloc | apply pw_below_drewN | apply below_drew1 | refine below_set ?_ GE104.out) | exact HB.out)⟩⟩
                        · rw [if_neg c28] at H
                          have c28b0 : decide (a1 < a0_1) = false := decide_eq_false c28
                          clear c28
                          have H' := Aside0.mk H
                          clear H
                          have hcz38_0 : wr.cell? ⟨gb104, 0, none⟩ = some (.slice A0_0 l0_0.length c0_0) := (blk_cell BK104.out 0).trans rfl
                          have hcz38_1 : wr.cell? ⟨gb104, 1, none⟩ = some (.int .i64 a0_1) := (blk_cell BK104.out 1).trans rfl
                          have hfz38_0 := blk_frozen BK104.out 0
                          have hfz38_1 := blk_frozen BK104.out 1
                          go_wp2
                          repeat (go_quiet (fail); try go_wp2)
                          go_roundg k3
                          case measure => have := HJ3.out; have := HK2.out; have := HK3.out; omega
                          case rel => exact ⟨(x7_2), (wrap64 (x8_2 + 1)), (by first | rfl | (simp; done) | (simp [*]; done)), H', ⟨by have := HJ3.out; have := HK2.out; have := HK3.out; omega⟩, ⟨by (with_reducible repeat (first | apply Kd.R_alloc | apply Kd.R_drewN | apply Kd.R_drew)); exact HO_7.out⟩, ⟨by (with_reducible repeat (first | refine blk_drewN ?_ _ | refine blk_drew ?_ | refine blk_alloc ?_ _)); exact BK104.out⟩, ⟨by repeat (first | (with_reducible first | exact HB.out | apply below_alloc | apply pw_below_drewN | apply below_drew1 | refine below_set ?_ GE104.out) | exact HB.out)⟩⟩
            · rw [if_neg c13] at H
              have c13b0 : decide (x8_2 < (l0_0.length : Int)) = false := decide_eq_false c13
              clear c13
              obtain rfl := Option.some.inj H
              have hcz39_0 : wr.cell? ⟨gb104, 0, none⟩ = some (.slice A0_0 l0_0.length c0_0) := (blk_cell BK104.out 0).trans rfl
              have hcz39_1 : wr.cell? ⟨gb104, 1, none⟩ = some (.int .i64 a0_1) := (blk_cell BK104.out 1).trans rfl
              have hfz39_0 := blk_frozen BK104.out 0
              have hfz39_1 := blk_frozen BK104.out 1
              go_wp2
              repeat (go_quiet (fail); try go_wp2)
              go_ret
              exact ⟨_, by first | rfl | (simp [errW_none, errW_some] <;> rfl) | (simp [*, errW_none, errW_some] <;> rfl), by (with_reducible repeat (first | apply Kd.R_alloc | apply Kd.R_drewN | apply Kd.R_drew)); exact HO_7.out, by repeat (first | (with_reducible first | exact HB.out | apply below_alloc | apply pw_below_drewN | apply below_drew1 | refine below_set ?_ GE104.out) | exact HB.out)⟩
end Go.Proofs.YtnfpchpnephheaaDoor.St
end
section
namespace Go.Proofs.YtnfpchpnephheaaDoor.St
open Go.RowKit Go.Proofs.YtnfpchpnephheaaDoor.Lib Go.Proofs.YtnfpchpnephheaaDoor.PA Go.Proofs.YtnfpchpnephheaaDoor.Mp Go.Proofs.YtnfpchpnephheaaDoor.Ar Go.Proofs.YtnfpchpnephheaaDoor.Txt Go.Proofs.YtnfpchpnephheaaDoorW.PrintWords Go.Proofs.YtnfpchpnephheaaDoorW.PrintLast Go.Proofs.YtnfpchpnephheaaDoorW.PrintMore
set_option linter.unusedVariables false
set_option linter.unusedSimpArgs false
def tailL (lim run : Int) (p : Int → Bool) : List Int → List Int → List Int
  | out, [] => out
  | out, x :: r => if p x = true ∧ (lim = 0 ∨ (run < lim ∧ (out.length : Int) < lim - run)) then tailL lim run p (out ++ [x]) r else tailL lim run p out r
theorem is_ev (run : Int) (dn xs out : List Int) (lim : Int) (i : Nat) (hi : i < xs.length) (hd : dn.length ≤ 4611686018427387903) (r : List Int) :
    ∀ (d t : Nat) (is : Bool), dn.length - t = d → t ≤ dn.length → (Ev (fun k => marlinspikeref08_Step.l1 k run dn out (i : Int) (is || decide (xs[i] ∈ dn.drop t)) (dn.length : Int) xs lim) r) → Ev (fun k => marlinspikeref08_Step.l1 k run dn out (i : Int) is (t : Int) xs lim) r := by
  intro d
  induction d with
  | zero =>
    intro t is hdt ht h
    obtain rfl : t = dn.length := by omega
    rw [List.drop_length] at h
    simpa using h
  | succ d ih =>
    intro t is hdt ht h
    have hlt : t < dn.length := by omega
    rw [List.drop_eq_getElem_cons hlt] at h
    generalize hq : dn.drop (t + 1) = q at h
    have hnext : Ev (fun k => marlinspikeref08_Step.l1 k run dn out (i : Int) (is || (dn[t] == xs[i])) ((t + 1 : Nat) : Int) xs lim) r := by
      refine ih (t + 1) _ (by omega) (by omega) ?_
      have e : ∀ u v : Int, (is || (u == v) || decide (v ∈ q)) = (is || decide (v ∈ u :: q)) := by
        intro u v
        rw [Bool.or_assoc]
        congr 1
        by_cases h2 : u = v
        · simp [h2]
        · have h3 : ¬ v = u := fun h => h2 h.symm
          simp [h2, h3]
      rw [hq, e]; exact h
    obtain ⟨K, hK⟩ := hnext
    dsimp only at hK
    refine Ev.shift ⟨K, fun k hk => ?_⟩
    have h4 := hK k hk
    simp only [marlinspikeref08_Step.l1]
    rw [if_pos (by omega)]
    cases is with
    | true => rw [if_pos (by first | rfl | trivial), wrap_nat (by omega)]; exact h4
    | false => rw [if_neg (by decide), if_pos (by omega), if_pos (by omega), if_pos (by omega), wrap_nat (by omega), rd_get dn t hlt, rd_get xs i hi]; exact h4
theorem step_l0 (run : Int) (dn xs : List Int) (lim : Int) (hl : 0 ≤ lim ∧ lim ≤ 999999) (hr : 0 ≤ run) (hx : xs.length ≤ 256) (hd : dn.length ≤ 4611686018427387903) : ∀ (d i : Nat) (out : List Int), xs.length - i = d → i ≤ xs.length → out.length ≤ i →
    Ev (fun k => marlinspikeref08_Step.l0 k run dn out (i : Int) xs lim) (tailL lim run (fun n => !decide (n ∈ dn)) out (xs.drop i)) := by
  intro d
  induction d with
  | zero =>
    intro i out hdi hi ho
    obtain rfl : i = xs.length := by omega
    rw [List.drop_length]
    refine Ev.shift ⟨0, fun k hk => ?_⟩
    simp only [marlinspikeref08_Step.l0]
    rw [if_neg (by omega)]
    rfl
  | succ d ih =>
    intro i out hdi hi ho
    have hlt : i < xs.length := by omega
    rw [List.drop_eq_getElem_cons hlt]
    have h1 := is_ev run dn xs out lim i hlt hd (tailL lim run (fun n => !decide (n ∈ dn)) out (xs[i] :: xs.drop (i + 1))) _ 0 false rfl (Nat.zero_le _) (by
      rw [List.drop_zero, Bool.false_or]
      have hadd := ih (i + 1) (out ++ [xs[i]]) (by omega) (by omega) (by rw [List.length_append]; simp; omega)
      have hskip := ih (i + 1) out (by omega) (by omega) (by omega)
      unfold tailL
      by_cases hm : xs[i] ∈ dn
      · rw [if_neg (by simp [hm])]
        obtain ⟨K, hK⟩ := hskip
        dsimp only at hK
        refine Ev.shift ⟨K, fun k hk => ?_⟩
        simp only [marlinspikeref08_Step.l1]
        rw [if_neg (by omega), if_pos (decide_eq_true hm), wrap_nat (by omega)]
        exact hK k hk
      · by_cases h0 : lim = 0
        · rw [if_pos ⟨by simp [hm], .inl h0⟩]
          obtain ⟨K, hK⟩ := hadd
          dsimp only at hK
          refine Ev.shift ⟨K, fun k hk => ?_⟩
          simp only [marlinspikeref08_Step.l1]
          rw [if_neg (by omega), if_neg (by simpa using hm), if_pos h0, if_pos (by omega), if_pos (by omega), if_pos (by omega), wrap_nat (by omega), rd_get xs i hlt]
          exact hK k hk
        · by_cases h2 : run < lim
          · have hw : wrap64 (lim - run) = lim - run := by unfold wrap64; omega
            by_cases h3 : (out.length : Int) < lim - run
            · rw [if_pos ⟨by simp [hm], .inr ⟨h2, h3⟩⟩]
              obtain ⟨K, hK⟩ := hadd
              dsimp only at hK
              refine Ev.shift ⟨K, fun k hk => ?_⟩
              simp only [marlinspikeref08_Step.l1]
              rw [if_neg (by omega), if_neg (by simpa using hm), if_neg h0, if_pos h2, hw, if_pos h3, if_pos (by omega), if_pos (by omega), if_pos (by omega), wrap_nat (by omega), rd_get xs i hlt]
              exact hK k hk
            · rw [if_neg (by rintro ⟨_, h | h⟩; exact h0 h; exact h3 h.2)]
              obtain ⟨K, hK⟩ := hskip
              dsimp only at hK
              refine Ev.shift ⟨K, fun k hk => ?_⟩
              simp only [marlinspikeref08_Step.l1]
              rw [if_neg (by omega), if_neg (by simpa using hm), if_neg h0, if_pos h2, hw, if_neg h3, wrap_nat (by omega)]
              exact hK k hk
          · rw [if_neg (by rintro ⟨_, h | h⟩; exact h0 h; exact h2 h.1)]
            obtain ⟨K, hK⟩ := hskip
            dsimp only at hK
            refine Ev.shift ⟨K, fun k hk => ?_⟩
            simp only [marlinspikeref08_Step.l1]
            rw [if_neg (by omega), if_neg (by simpa using hm), if_neg h0, if_neg h2, wrap_nat (by omega)]
            exact hK k hk)
    obtain ⟨K, hK⟩ := h1
    dsimp only at hK
    refine Ev.shift ⟨K, fun k hk => ?_⟩
    simp only [marlinspikeref08_Step.l0]
    rw [if_pos (by omega)]
    exact hK k hk
theorem tail_all (lim run : Int) (p : Int → Bool) (h : lim = 0) : ∀ (r out : List Int), tailL lim run p out r = out ++ r.filter p
  | [], out => by simp [tailL]
  | x :: r, out => by
    unfold tailL
    by_cases hp : p x = true
    · rw [if_pos ⟨hp, .inl h⟩, tail_all lim run p h r, List.filter_cons, if_pos hp]; simp
    · rw [if_neg (fun h => hp h.1), tail_all lim run p h r, List.filter_cons, if_neg hp]
theorem tail_none (lim run : Int) (p : Int → Bool) (h0 : lim ≠ 0) (h : lim ≤ run) : ∀ (r out : List Int), tailL lim run p out r = out
  | [], out => rfl
  | x :: r, out => by
    unfold tailL
    rw [if_neg (by rintro ⟨_, h1 | h1⟩; exact h0 h1; omega)]
    exact tail_none lim run p h0 h r out
theorem tail_some (lim run : Int) (p : Int → Bool) (h0 : lim ≠ 0) (h : run < lim) : ∀ (r out : List Int), (out.length : Int) ≤ lim - run → tailL lim run p out r = out ++ (r.filter p).take ((lim - run).toNat - out.length)
  | [], out, _ => by simp [tailL]
  | x :: r, out, ho => by
    unfold tailL
    by_cases hp : p x = true
    · by_cases hl : (out.length : Int) < lim - run
      · rw [if_pos ⟨hp, .inr ⟨h, hl⟩⟩, tail_some lim run p h0 h r _ (by rw [List.length_append]; simp; omega), List.filter_cons, if_pos hp]
        obtain ⟨m, hm⟩ : ∃ m, (lim - run).toNat - out.length = m + 1 := ⟨(lim - run).toNat - out.length - 1, by omega⟩
        rw [hm, List.take_succ_cons, List.length_append, show (lim - run).toNat - (out.length + [x].length) = m by simp; omega]
        simp
      · rw [if_neg (by rintro ⟨_, h1 | h1⟩; exact h0 h1; exact hl h1.2), tail_some lim run p h0 h r out ho, show (lim - run).toNat - out.length = 0 by omega]
        simp
    · rw [if_neg (fun h => hp h.1), tail_some lim run p h0 h r out ho, List.filter_cons, if_neg hp]
theorem done_met (dn : List Int) (n : Int) : (!doneB (metF dn) n) = (!decide (n ∈ dn)) := by
  unfold doneB metF
  by_cases h : n ∈ dn <;> simp [h]
theorem rstep_ev (xs : List Int) (lim run : Int) (dn : List Int) (hd : dn.length ≤ 4611686018427387903) : Ev (fun k => marlinspikeref08_Step.f k xs lim run dn) (stepL xs lim run (metF dn)) := by
  obtain ⟨K1, h1⟩ := rright_ev xs lim
  dsimp only at h1
  by_cases hb : rightB xs lim = true
  · obtain ⟨g1, g2, g3, g4, g5⟩ := right_all hb
    by_cases hr : run < 0
    · have e : stepL xs lim run (metF dn) = [] := by unfold stepL; rw [if_neg (by rintro ⟨_, h, _⟩; omega)]
      rw [e]
      refine ⟨K1 + 1, fun k hk => ?_⟩
      simp only [marlinspikeref08_Step.f]
      rw [h1 k (by omega), Option.bind_some, if_pos hb, decide_eq_true hr]
      obtain ⟨m, rfl⟩ : ∃ m, k = m + 1 := ⟨k - 1, by omega⟩
      simp only [marlinspikeref08_Step.j0]
      rw [if_pos (by first | rfl | trivial)]
    · obtain ⟨K2, h2⟩ := step_l0 run dn xs lim ⟨g3, g4⟩ (by omega) g2 hd _ 0 [] rfl (Nat.zero_le _) (Nat.le_refl _)
      dsimp only at h2
      have e : stepL xs lim run (metF dn) = tailL lim run (fun n => !decide (n ∈ dn)) [] (xs.drop 0) := by
        rw [List.drop_zero]
        have ef : rowL (metF dn) xs = xs.filter (fun n => !decide (n ∈ dn)) := by unfold rowL; congr 1; funext n; exact done_met dn n
        by_cases h0 : lim = 0
        · rw [tail_all lim run _ h0]
          unfold stepL
          rw [if_pos ⟨hb, by omega, by omega⟩, if_neg (by omega), ef]; rfl
        · by_cases h3 : run < lim
          · rw [tail_some lim run _ h0 h3 _ _ (by simp; omega)]
            unfold stepL
            rw [if_pos ⟨hb, by omega, by omega⟩, ef]
            by_cases h4 : 0 < lim ∧ lim - run < ((xs.filter (fun n => !decide (n ∈ dn))).length : Int)
            · rw [if_pos h4]; rfl
            · rw [if_neg h4, List.nil_append]
              rw [List.take_of_length_le (by simp only [List.length_nil]; omega)]
          · rw [tail_none lim run _ h0 (by omega)]
            unfold stepL
            rw [if_neg (by rintro ⟨_, _, h⟩; exact h ⟨by omega, by omega⟩)]
      rw [e]
      refine ⟨K1 + K2 + 1, fun k hk => ?_⟩
      simp only [marlinspikeref08_Step.f]
      rw [h1 k (by omega), Option.bind_some, if_pos hb, decide_eq_false hr]
      obtain ⟨m, rfl⟩ : ∃ m, k = m + 1 := ⟨k - 1, by omega⟩
      simp only [marlinspikeref08_Step.j0]
      rw [if_neg (by decide)]
      exact h2 m (by omega)
  · have e : stepL xs lim run (metF dn) = [] := by unfold stepL; rw [if_neg (fun h => hb h.1)]
    rw [e]
    refine ⟨K1 + 1, fun k hk => ?_⟩
    simp only [marlinspikeref08_Step.f]
    rw [h1 k (by omega), Option.bind_some, if_neg hb]
    obtain ⟨m, rfl⟩ : ∃ m, k = m + 1 := ⟨k - 1, by omega⟩
    simp only [marlinspikeref08_Step.j0]
    rw [if_pos (by first | rfl | trivial)]
theorem step_all (A : Option Addr) (c : Nat) (xs : List Int) (lim run : Int) (mb n : Nat) (F : Int → Option Bool) (w : World) (hr : Kd.C (Kd.int .i64) w A xs.length xs) (hc : xs.length ≤ c) (hm : MapOf KI VB w mb n F) :
    Calls Tryd.prog 16 #[.agg #[.slice A xs.length c, .int .i64 lim], .int .i64 run, .map (some mb)] w fun e w' => ∃ v, e = .returned v ∧ Kd.R (Kd.int .i64) 3 w' w.heap.size (fun _ => True) v (stepL xs lim run F) ∧ Below w.heap.size w w' := by
  by_cases h : rightB xs lim = true ∧ 0 ≤ run ∧ ¬ (0 < lim ∧ lim ≤ run)
  · exact step_go A c xs lim run mb n F w hr hc hm h.1 h.2.1 h.2.2
  · refine (step_no A c xs lim run (some mb) w hr hc h).mono ?_
    rintro e w' ⟨rfl, hb⟩
    have e0 : stepL xs lim run F = [] := by unfold stepL; rw [if_neg h]
    rw [e0]
    exact ⟨_, rfl, Kd.R_nil _ _ _ _ _, hb⟩
theorem same_l0 (l : List Int) (hl : l.length ≤ 1000) : ∀ (d i : Nat), l.length - i = d → i ≤ l.length → Ev (fun k => marlinspikeref01_Ints.l0 k l l (i : Int)) true := by
  intro d
  induction d with
  | zero =>
    intro i hd hi
    refine Ev.shift ⟨0, fun k hk => ?_⟩
    simp only [marlinspikeref01_Ints.l0]
    rw [if_neg (by omega)]
  | succ d ih =>
    intro i hd hi
    obtain ⟨K, hK⟩ := ih (i + 1) (by omega) (by omega)
    dsimp only at hK
    refine Ev.shift ⟨K, fun k hk => ?_⟩
    have h2 := hK k hk
    simp only [marlinspikeref01_Ints.l0]
    rw [wrap_nat (by omega), if_pos (by omega), if_pos (by omega), if_pos (by omega), if_pos trivial]
    exact h2
theorem ints_same (l : List Int) (hl : l.length ≤ 1000) : Ev (fun k => marlinspikeref01_Ints.f k l l) true := by
  obtain ⟨K, hK⟩ := same_l0 l hl _ 0 rfl (by omega)
  refine ⟨K, fun k hk => ?_⟩
  simp only [marlinspikeref01_Ints.f]
  rw [if_pos trivial]
  exact hK k hk
theorem metF_app (xs : List Int) (n : Int) : (fun k' => if k' = n then some true else metF xs k') = metF (xs ++ [n]) := by
  funext k
  unfold metF
  by_cases e : k = n
  · subst e; simp
  · simp [e]
theorem stepL_len (xs : List Int) (lim run : Int) (F : Int → Option Bool) (h : xs.length ≤ 1000 ∨ rightB xs lim = false) : (stepL xs lim run F).length ≤ 1000 := by
  have hf : (rowL F xs).length ≤ xs.length := List.length_filter_le _ _
  unfold stepL
  split
  · rename_i h2
    have := (right_all h2.1).2.1
    split
    · rw [List.length_take]; omega
    · omega
  · simp
set_option maxHeartbeats 40000000 in
set_option maxRecDepth 100000 in
theorem steps_calls (A : Option Addr) (c : Nat) (xs : List Int) (lim run : Int) (A2 : Option Addr) (c2 : Nat) (dn : List Int) (w : World) (hr : Kd.C (Kd.int .i64) w A xs.length xs) (hc : xs.length ≤ c) (hr2 : Kd.C (Kd.int .i64) w A2 dn.length dn) (hc2 : dn.length ≤ c2) (hw : ∀ y ∈ dn, (Lit.int .i64 y).wf = true) (hG : Glob w) :
    Calls Tryd.prog 6 #[.agg #[.slice A xs.length c, .int .i64 lim], .int .i64 run, .slice A2 dn.length c2] w fun e w' => e = .returned (.bool true) ∧ Below w.heap.size w w' := by
  have hu24 := Tryd.underlying24
  have hu28 := Tryd.underlying28
  have hu41 := Tryd.underlying41
  have HG := Aside0.mk hG
  by_cases h400 : dn.length ≤ 400
  · obtain ⟨K2, h2⟩ := rstep_ev xs lim run dn (by omega)
    obtain ⟨res, hres⟩ : ∃ res, stepL xs lim run (metF dn) = res := ⟨_, rfl⟩
    have hrl : res.length ≤ 1000 := by
      rw [← hres]
      refine stepL_len xs lim run _ ?_
      cases hb : rightB xs lim with
      | false => exact .inr rfl
      | true => exact .inl (by have := (right_all hb).2.1; omega)
    obtain ⟨K3, h3⟩ := ints_same res (by omega)
    have C16 := Aside0.mk (fun (mb n : Nat) (u : World) (h : Kd.C (Kd.int .i64) u A xs.length xs) (hm : MapOf KI VB u mb n (metF dn)) => by rw [← hres]; exact step_all A c xs lim run mb n (metF dn) u h hc hm : ∀ (mb n : Nat) (u : World), Kd.C (Kd.int .i64) u A xs.length xs → MapOf KI VB u mb n (metF dn) → Calls Tryd.prog 16 #[.agg #[.slice A xs.length c, .int .i64 lim], .int .i64 run, .map (some mb)] u fun e w' => ∃ v, e = .returned v ∧ Kd.R (Kd.int .i64) 3 w' u.heap.size (fun _ => True) v res ∧ Below u.heap.size u w')
    have C17 := Aside0.mk (fun (u : World) (h : Kd.C (Kd.int .i64) u A xs.length xs) (hd : Kd.C (Kd.int .i64) u A2 dn.length dn) => marlinspikeref08_Step.calls K2 A c xs lim run A2 c2 dn res u h hc hd hc2 (by rw [← hres]; exact h2 K2 (Nat.le_refl _)))
    have C15 := Aside0.mk (fun (u : World) (A1 : Option Addr) (c1 : Nat) (A3 : Option Addr) (c3 : Nat) (h1 : Kd.C (Kd.int .i64) u A1 res.length res) (g1 : res.length ≤ c1) (h4 : Kd.C (Kd.int .i64) u A3 res.length res) (g3 : res.length ≤ c3) => marlinspikeref01_Ints.calls K3 A1 c1 res A3 c3 res true u h1 g1 h4 g3 (h3 K3 (Nat.le_refl _)))
    have HR := Aside0.mk hr
    have HR2 := Aside0.mk hr2
    have HW := Aside0.mk hw
    have H4 := Aside0.mk h400
    have h4b : decide (400 < (dn.length : Int)) = false := decide_eq_false (by omega)
    clear hr hc hr2 hc2 hG h2 h3 hres hrl hw h400
    have hmm := @run_makeMap Tryd.prog
    go_enter Tryd.func6, Tryd.ntmps6
    go_wp2_with fail
    obtain ⟨mb, hmb⟩ : ∃ mb, w.heap.size + 1 = mb := ⟨_, rfl⟩
    obtain ⟨wm, hwm⟩ : ∃ wm, (w.alloc (.cells #[.slice A xs.length c, .int .i64 lim] 24)).alloc (.map #[] 0) = wm := ⟨_, rfl⟩
    have BKm := Aside0.mk (blk_alloc (blk_new w (.cells #[.slice A xs.length c, .int .i64 lim] 24)) (.map #[] 0))
    have HBm := Aside0.mk (below_alloc (below_alloc (Below.refl w.heap.size w) (.cells #[.slice A xs.length c, .int .i64 lim] 24)) (.map #[] 0))
    have HMm : Aside0 (MapOf KI VB wm mb 0 (metF [])) := ⟨by
      have h := MapOf.made (K := KI) (V := VB) (w.alloc (.cells #[.slice A xs.length c, .int .i64 lim] 24))
      rw [hwm, World.size_alloc, hmb] at h
      exact mapOf_fun h (by funext k; simp [metF])⟩
    rw [hwm] at BKm HBm ⊢
    rw [hmb]
    have HMB := Aside0.mk hmb
    clear hmb hwm
    have hmb1 : Aside0 (w.heap.size ≤ mb ∧ w.heap.size ≠ mb) := ⟨by have := HMB.out; omega⟩
    go_loopg [17] (dn.length + 1) (fun kq v17 W' => ∃ (i : Nat), v17 = .int .i64 (i : Int) ∧ Aside0 (kq + i = dn.length + 1 ∧ i ≤ dn.length) ∧ Aside0 (W'.heap[w.heap.size]? = some (.cells #[.slice A xs.length c, .int .i64 lim] 24 (0, 0))) ∧ Aside0 (Below w.heap.size w W') ∧ Aside0 (MapOf KI VB W' mb i (metF (dn.take i))))
    case atStart => exact ⟨0, rfl, ⟨by omega⟩, BKm, HBm, ⟨by rw [List.take_zero]; exact HMm.out⟩⟩
    case round =>
      clear BKm HBm HMm
      obtain ⟨i, rfl, HK, BK, HB, HM⟩ := hrel
      obtain ⟨k1, rfl⟩ : ∃ m, gk = m + 1 := ⟨gk - 1, by have := HK.out; omega⟩
      by_cases hlt : i < dn.length
      · have hltb : decide ((i : Int) < (dn.length : Int)) = true := decide_eq_true (by omega)
        have p0 : (0 : Int) ≤ (i : Int) := by omega
        have q0 : (i : Int) < (dn.length : Int) := by omega
        obtain ⟨ad, e0, hx⟩ := Kd.at_int HR2.out (i : Int) p0 q0
        cases e0
        replace hx := (HB.out.cell (World.block_lt_of_cell? w _ hx)).trans hx
        rw [rd_get dn i hlt, Int.toNat_natCast] at hx
        obtain ⟨w1, hput, hm1, hg1⟩ := HM.out.update (t := 41) Tryd.underlying41 (Nat.lt_of_le_of_lt (show i ≤ 400 by have := H4.out; omega) (by decide)) (k := dn[i]) (HW.out _ (List.getElem_mem hlt)) (x := true) trivial
        have hm2 := mapOf_fun hm1 (metF_app (dn.take i) dn[i])
        rw [← List.take_succ_eq_append_getElem hlt] at hm2
        have HM1 := Aside0.mk hm2
        have BK1 := Aside0.mk (blk_grown BK.out hg1 (fun e => hmb1.out.2 (Option.some.inj e)))
        have HB1 := Aside0.mk (HB.out.grown hg1 HB.out.size (fun k hk => (Option.some.inj hk) ▸ hmb1.out.1))
        have HWf := Aside0.mk (wrap_nat (p := i) (by have := H4.out; omega))
        have hwi : IntKind.i64.wrap ((i : Int) + 1) = ((i + 1 : Nat) : Int) := (i64_w _).trans HWf.out
        generalize dn[i] = di at hx hput
        have HLT := Aside0.mk hlt
        replace p0 := eq_true p0
        replace q0 := eq_true q0
        have hput' : (Instr.mapUpdate 41 (.map (some mb)) (.int .i64 di) (.bool true)).run Tryd.prog wr = .ok () w1 := hput
        clear hm1 hm2 hg1 hlt hput
        go_wp2
        go_roundg k1
        case measure => have := HK.out; have := HLT.out; omega
        case rel => exact ⟨i + 1, rfl, ⟨by have := HK.out; have := HLT.out; omega⟩, BK1, HB1, HM1⟩
      · have hltb : decide (i < dn.length) = false := decide_eq_false hlt
        have ei : i = dn.length := by have := HK.out; omega
        have HM4 : Aside0 (MapOf KI VB wr mb i (metF dn)) := ⟨by have h := HM.out; rw [ei, List.take_length] at h; rw [ei]; exact h⟩
        have HB3 := HB
        have BK3 := BK
        clear HM hlt ei HK HB BK
        go_wp2_with fail
        have HB4 := Aside0.mk (below_drew HB3.out)
        have BK4 := Aside0.mk (blk_drew BK3.out)
        replace HM4 := Aside0.mk (MapOf.drew HM4.out)
        refine start_ (n := 14) (S := fun w' => w'.cell? ⟨w.heap.size, 0, none⟩ = some (.slice A xs.length c) ∧ w'.cell? ⟨w.heap.size, 1, none⟩ = some (.int .i64 lim)) (ds := []) #[false, false, false, false, false, false, false, false, false, false, false, false, false, false] (by kernel_rfl) rfl rfl ⟨(blk_cell BK4.out 0).trans rfl, (blk_cell BK4.out 1).trans rfl⟩ (fun hHeld => ?_)
        refine pure_ (i := 2) (N := some 26) (v := ?_) (a' := ?_) #[false, false, true, false, false, false, false, false, false, false, false, false, false, false] rfl rfl (by kernel_rfl) (fun _ _ _ h => h) (Or.inl ⟨by rfl, ?_⟩) ?_ ?_
        rotate_left
        · intro w'
          go_simp
          with_reducible rfl
        rotate_left
        · simp only [Act.put, List.setIfInBounds_toArray, List.set_cons_zero, List.set_cons_succ, i64_w, i32_w]
          rfl
        refine pure_ (i := 3) (N := some 27) (v := ?_) (a' := ?_) #[false, false, true, true, false, false, false, false, false, false, false, false, false, false] rfl rfl (by kernel_rfl) (fun _ _ _ h => h) (Or.inl ⟨by rfl, ?_⟩) ?_ ?_
        rotate_left
        · intro w'
          go_simp
          with_reducible rfl
        rotate_left
        · simp only [Act.put, List.setIfInBounds_toArray, List.set_cons_zero, List.set_cons_succ, i64_w, i32_w]
          rfl
        refine pure_ (i := 6) (N := some 30) (v := ?_) (a' := ?_) #[false, false, true, true, false, false, true, false, false, false, false, false, false, false] rfl rfl (by kernel_rfl) (fun _ _ _ h => h) (Or.inl ⟨by rfl, ?_⟩) ?_ ?_
        rotate_left
        · intro w'
          go_simp
          with_reducible rfl
        rotate_left
        · simp only [Act.put, List.setIfInBounds_toArray, List.set_cons_zero, List.set_cons_succ, i64_w, i32_w]
          rfl
        refine pure_ (i := 7) (N := some 31) (v := ?_) (a' := ?_) #[false, false, true, true, false, false, true, true, false, false, false, false, false, false] rfl rfl (by kernel_rfl) (fun _ _ _ h => h) (Or.inl ⟨by rfl, ?_⟩) ?_ ?_
        rotate_left
        · intro w'
          go_simp
          with_reducible rfl
        rotate_left
        · simp only [Act.put, List.setIfInBounds_toArray, List.set_cons_zero, List.set_cons_succ, i64_w, i32_w]
          rfl
        refine take_ (i := 0) (N := some 24) (v := ?_) (a' := ?_) #[true, false, true, true, false, false, true, true, false, false, false, false, false, false] rfl rfl (by kernel_rfl) (fun _ _ _ h => h) (Or.inl ⟨by rfl, ?_⟩) hHeld ?_ ?_
        rotate_left
        · rintro w' ⟨s0, s1⟩
          go_simp
          with_reducible rfl
        rotate_left
        · simp only [Act.put, List.setIfInBounds_toArray, List.set_cons_zero, List.set_cons_succ, i64_w, i32_w]
          rfl
        refine take_ (i := 5) (N := some 29) (v := ?_) (a' := ?_) #[true, false, true, true, false, true, true, true, false, false, false, false, false, false] rfl rfl (by kernel_rfl) (fun _ _ _ h => h) (Or.inl ⟨by rfl, ?_⟩) hHeld ?_ ?_
        rotate_left
        · rintro w' ⟨s0, s1⟩
          go_simp
          with_reducible rfl
        rotate_left
        · simp only [Act.put, List.setIfInBounds_toArray, List.set_cons_zero, List.set_cons_succ, i64_w, i32_w]
          rfl
        refine one_ (i := 1) (N := some 25) #[true, true, true, true, false, true, true, true, false, false, false, false, false, false] rfl rfl (by kernel_rfl) (by decide) (fun K hK => ?_)
        refine goes_ Tryd.func9 (by kernel_rfl) rfl #[.agg #[.slice A xs.length c, .int .i64 lim]] (by rfl) rfl rfl (by (try simp only [List.map_toArray, List.map_cons, List.map_nil]); first | done | rfl) ?_
        refine (theirs_calls A c xs lim _).mono ?_
        rintro e w5 ⟨rfl, hb⟩
        have HB5 := Aside0.mk (below_then HB4.out HB4.out.size hb)
        have BK5 := Aside0.mk (blk_below BK4.out hb)
        have HM5 := Aside0.mk (HM4.out.below hb)
        clear hb
        refine ⟨_, rfl, ?_⟩
        refine hK.out _ _ ⟨(blk_cell BK5.out 0).trans rfl, (blk_cell BK5.out 1).trans rfl⟩ (fun hHeld => ?_)
        clear hK K
        refine norm_ (a' := ?_) ?_ ?_
        rotate_left
        · show Act.put _ (some 25) _ = _
          simp only [Act.put, List.setIfInBounds_toArray, List.set_cons_zero, List.set_cons_succ, i64_w, i32_w]
          rfl
        refine one_ (i := 4) (N := some 28) #[true, true, true, true, true, true, true, true, false, false, false, false, false, false] rfl rfl (by kernel_rfl) (by decide) (fun K hK => ?_)
        refine goes_ Tryd.func16 (by kernel_rfl) rfl #[.agg #[.slice A xs.length c, .int .i64 lim], .int .i64 run, .map (some mb)] (by rfl) rfl rfl (by (try simp only [List.map_toArray, List.map_cons, List.map_nil]); first | done | rfl) ?_
        refine (C16.out _ _ _ (Kd.C_below HR.out HB5.out) HM5.out).mono ?_
        rintro e w6 ⟨v1, rfl, ho, hb⟩
        obtain ⟨A1, c1, rfl⟩ := Kd.R_slice ho
        have HO6 := Aside0.mk ho
        have HB6 := Aside0.mk (below_then HB5.out HB5.out.size hb)
        have BK6 := Aside0.mk (blk_below BK5.out hb)
        clear hb ho
        refine ⟨_, rfl, ?_⟩
        refine hK.out _ _ ⟨(blk_cell BK6.out 0).trans rfl, (blk_cell BK6.out 1).trans rfl⟩ (fun hHeld => ?_)
        clear hK K
        refine norm_ (a' := ?_) ?_ ?_
        rotate_left
        · show Act.put _ (some 28) _ = _
          simp only [Act.put, List.setIfInBounds_toArray, List.set_cons_zero, List.set_cons_succ, i64_w, i32_w]
          rfl
        refine one_ (i := 8) (N := some 32) #[true, true, true, true, true, true, true, true, true, false, false, false, false, false] rfl rfl (by kernel_rfl) (by decide) (fun K hK => ?_)
        refine goes_ Tryd.func17 (by kernel_rfl) rfl #[.agg #[.slice A xs.length c, .int .i64 lim], .int .i64 run, .slice A2 dn.length c2] (by rfl) rfl rfl (by (try simp only [List.map_toArray, List.map_cons, List.map_nil]); first | done | rfl) ?_
        refine (C17.out _ (Kd.C_below HR.out HB6.out) (Kd.C_below HR2.out HB6.out)).mono ?_
        rintro e w7 ⟨v2, rfl, ho, hb⟩
        obtain ⟨A3, c3, rfl⟩ := Kd.R_slice ho
        have HO7 := Aside0.mk ho
        have HC7 := Aside0.mk (Kd.C_below (Kd.R_reads' HO6.out).2.2 hb)
        have HB7 := Aside0.mk (below_then HB6.out HB6.out.size hb)
        have BK7 := Aside0.mk (blk_below BK6.out hb)
        clear hb ho
        refine ⟨_, rfl, ?_⟩
        refine hK.out _ _ ⟨(blk_cell BK7.out 0).trans rfl, (blk_cell BK7.out 1).trans rfl⟩ (fun hHeld => ?_)
        clear hK K
        refine norm_ (a' := ?_) ?_ ?_
        rotate_left
        · show Act.put _ (some 32) _ = _
          simp only [Act.put, List.setIfInBounds_toArray, List.set_cons_zero, List.set_cons_succ, i64_w, i32_w]
          rfl
        refine one_ (i := 9) (N := some 33) #[true, true, true, true, true, true, true, true, true, true, false, false, false, false] rfl rfl (by kernel_rfl) (by decide) (fun K hK => ?_)
        refine goes_ Tryd.func15 (by kernel_rfl) rfl #[.slice A1 res.length c1, .slice A3 res.length c3] (by rfl) rfl rfl (by (try simp only [List.map_toArray, List.map_cons, List.map_nil]); first | done | rfl) ?_
        refine (C15.out _ A1 c1 A3 c3 HC7.out (Kd.R_reads' HO6.out).2.1 (Kd.R_reads' HO7.out).2.2 (Kd.R_reads' HO7.out).2.1).mono ?_
        rintro e w8 ⟨rfl, hb0⟩
        have hb := hb0.below
        have HB8 := Aside0.mk (below_then HB7.out HB7.out.size hb)
        have BK8 := Aside0.mk (blk_below BK7.out hb)
        clear hb hb0
        refine ⟨_, rfl, ?_⟩
        refine hK.out _ _ ⟨(blk_cell BK8.out 0).trans rfl, (blk_cell BK8.out 1).trans rfl⟩ (fun hHeld => ?_)
        clear hK K
        refine norm_ (a' := ?_) ?_ ?_
        rotate_left
        · show Act.put _ (some 33) _ = _
          simp only [Act.put, List.setIfInBounds_toArray, List.set_cons_zero, List.set_cons_succ, i64_w, i32_w]
          rfl
        refine pure_ (i := 10) (N := some 34) (v := ?_) (a' := ?_) #[true, true, true, true, true, true, true, true, true, true, true, false, false, false] rfl rfl (by kernel_rfl) (fun _ _ _ h => h) (Or.inl ⟨by rfl, ?_⟩) ?_ ?_
        rotate_left
        · intro w'
          go_simp
          with_reducible rfl
        rotate_left
        · simp only [Act.put, List.setIfInBounds_toArray, List.set_cons_zero, List.set_cons_succ, i64_w, i32_w]
          rfl
        refine one_ (i := 11) (N := some 35) #[true, true, true, true, true, true, true, true, true, true, true, true, false, false] rfl rfl (by kernel_rfl) (by decide) (fun K hK => ?_)
        refine goes_ Tryd.func13 (by kernel_rfl) rfl #[] (by rfl) rfl rfl (by (try simp only [List.map_toArray, List.map_cons, List.map_nil]); first | done | rfl) ?_
        refine (alive_calls _ (HG.out.below HB8.out)).mono ?_
        rintro e w9 ⟨rfl, hb⟩
        have HB9 := Aside0.mk (below_then HB8.out HB8.out.size hb)
        have BK9 := Aside0.mk (blk_below BK8.out hb)
        clear hb
        refine ⟨_, rfl, ?_⟩
        refine hK.out _ _ ⟨(blk_cell BK9.out 0).trans rfl, (blk_cell BK9.out 1).trans rfl⟩ (fun hHeld => ?_)
        clear hK K
        refine norm_ (a' := ?_) ?_ ?_
        rotate_left
        · show Act.put _ (some 35) _ = _
          simp only [Act.put, List.setIfInBounds_toArray, List.set_cons_zero, List.set_cons_succ, i64_w, i32_w]
          rfl
        refine pure_ (i := 12) (N := some 36) (v := ?_) (a' := ?_) #[true, true, true, true, true, true, true, true, true, true, true, true, true, false] rfl rfl (by kernel_rfl) (fun _ _ _ h => h) (Or.inl ⟨by rfl, ?_⟩) ?_ ?_
        rotate_left
        · intro w'
          go_simp
          with_reducible rfl
        rotate_left
        · simp only [Act.put, List.setIfInBounds_toArray, List.set_cons_zero, List.set_cons_succ, i64_w, i32_w]
          rfl
        refine pure_ (i := 13) (N := some 6) (v := ?_) (a' := ?_) #[true, true, true, true, true, true, true, true, true, true, true, true, true, true] rfl rfl (by kernel_rfl) (fun _ _ _ h => h) (Or.inl ⟨by rfl, ?_⟩) ?_ ?_
        rotate_left
        · intro w'
          go_simp
          with_reducible rfl
        rotate_left
        · simp only [Act.put, List.setIfInBounds_toArray, List.set_cons_zero, List.set_cons_succ, i64_w, i32_w]
          rfl
        refine done_ (by kernel_rfl) ?_
        go_wp2
        go_ret
        exact ⟨rfl, HB9.out⟩
  · have h4b : decide (400 < (dn.length : Int)) = true := decide_eq_true (by omega)
    clear hr hc hr2 hc2 h400 hw
    go_enter Tryd.func6, Tryd.ntmps6
    go_wp2_with fail
    have HB0 := Aside0.mk (below_alloc (Below.refl w.heap.size w) (.cells #[.slice A xs.length c, .int .i64 lim] 24))
    refine (alive_calls _ (HG.out.below HB0.out)).mono ?_
    rintro e w1 ⟨rfl, hb⟩
    have HB1 := Aside0.mk (below_then HB0.out HB0.out.size hb)
    clear hb
    go_wp2
    go_ret
    exact ⟨rfl, HB1.out⟩
end Go.Proofs.YtnfpchpnephheaaDoor.St
end
section
namespace Go.Proofs.YtnfpchpnephheaaDoor.Ar
open Go.RowKit Go.Proofs.YtnfpchpnephheaaDoorW.PrintWords Go.Proofs.YtnfpchpnephheaaDoor.Op
theorem arr_opens : Opens Tryd.prog 24 (Kd.pair (Kd.slice 3 (Kd.int .i64)) (Kd.int .i64)).K (fun x => (x.1.length ≤ maxLen ∧ ∀ y ∈ x.1, (Lit.int .i64 y).wf = true) ∧ (Lit.int .i64 x.2).wf = true) :=
  opens_struct (sz := 2) Tryd.underlying24 (by kernel_rfl)
    (opensF_cons (off := 0) (a := Kd.slice 3 (Kd.int .i64)) (b := Kd.int .i64) (Ga := fun l => l.length ≤ maxLen ∧ ∀ y ∈ l, (Lit.int .i64 y).wf = true) (Gb := fun y => (Lit.int .i64 y).wf = true) 22 rfl rfl (by kernel_rfl) (opens_slice 3 Tryd.underlying22 (by kernel_rfl) (opens_int Tryd.underlying3))
      (opensF_one 3 rfl rfl (by kernel_rfl) (opens_int Tryd.underlying3)))
end Go.Proofs.YtnfpchpnephheaaDoor.Ar
end
section
namespace Go.Proofs.YtnfpchpnephheaaDoor.Ar
open Go.RowKit Go.Proofs.YtnfpchpnephheaaDoorW.PrintWords Go.Proofs.YtnfpchpnephheaaDoor.Op
theorem ints_opens : Opens Tryd.prog 22 (Kd.slice 3 (Kd.int .i64)).K (fun l => l.length ≤ maxLen ∧ ∀ y ∈ l, (Lit.int .i64 y).wf = true) := opens_slice 3 Tryd.underlying22 (by kernel_rfl) (opens_int Tryd.underlying3)
end Go.Proofs.YtnfpchpnephheaaDoor.Ar
end
section
namespace Go.Proofs.YtnfpchpnephheaaDoor.arraySteps
open Go.ChangeShapes Go.WideShapes Go.ChangeAt Go.RowKit
open Go.ChangeMaps (open_string shut_string)
open Go.Proofs.YtnfpchpnephheaaDoorW.PrintWords 
set_option linter.unusedVariables false
set_option maxRecDepth 100000
theorem own : ownKnob Tryd.prog.godebug = none := by kernel_rfl
theorem laidOut : laidOutB Tryd.prog = true := by kernel_rfl
theorem laid_met (os : Os) : laidMet Tryd.prog Rows.arrayStepsRow.laid ((World.laidAll Tryd.prog os Rows.arrayStepsRow.laid).forCall (fun _ _ => 0) ⟨#[], #[.agg #[.slice none 0 0, .int .i64 0], .int .i64 0, .slice none 0 0], []⟩).memory :=
  laidMet_laidAll _ (by kernel_rfl) (by kernel_rfl)
theorem witness_row (os : Os) {H : Type} (enc : TypeId × Value → H) :
    (OpenSpec.ofChange Rows.arrayStepsSpec).preRow enc Tryd.prog Tryd.f6 Rows.arrayStepsRow.domain false Rows.arrayStepsRow.laid ((World.laidAll Tryd.prog os Rows.arrayStepsRow.laid).forCall (fun _ _ => 0) ⟨#[], #[.agg #[.slice none 0 0, .int .i64 0], .int .i64 0, .slice none 0 0], []⟩).memory #[.agg #[.slice none 0 0, .int .i64 0], .int .i64 0, .slice none 0 0] := by
  have hw : (DataW.whole enc Tryd.prog ((World.laidAll Tryd.prog os Rows.arrayStepsRow.laid).forCall (fun _ _ => 0) ⟨#[], #[.agg #[.slice none 0 0, .int .i64 0], .int .i64 0, .slice none 0 0], []⟩).memory Tryd.f6.params.toList (OpenSpec.ofChange Rows.arrayStepsSpec).vars false #[.agg #[.slice none 0 0, .int .i64 0], .int .i64 0, .slice none 0 0].toList 8).map (fun x => (x.1, x.2.1)) =
      some ([.agg [.nil, .lit (.int .i64 0)], .lit (.int .i64 0), .nil], []) := by kernel_rfl
  obtain ⟨⟨x1, x2, x3⟩, hx, hx1⟩ := Option.map_eq_some_iff.1 hw
  simp only [Prod.mk.injEq] at hx1
  obtain ⟨rfl, rfl⟩ := hx1
  exact OpenSpec.preRow_of_cond 8 hx (by kernel_rfl) (fun k hk => by cases hk) (by kernel_rfl) (laid_met os)
theorem star : "*" ++ "errors.errorString" = "*errors.errorString" := by decide
theorem row_err (u : TypeId) (h : Tryd.prog.typeName? 3 u = some "*errors.errorString") : u = 143 :=
  typeName_ptr_named (nm := "errors.errorString") (by rw [star]; kernel_rfl) (by kernel_rfl) (by decide) u (by rw [star]; exact h)
theorem glob {W : World} (h : laidMetH Tryd.prog Rows.arrayStepsRow.laid W) : Lib.Glob W := by
  rw [MakeChecks.laidMetH_plain _ _ _ (by kernel_rfl)] at h
  have h0 : laidMet Tryd.prog Rows.arrayStepsRow.laid W := h
  have h1 : laidMet Tryd.prog [("math/bits.deBruijn64tab", Rows.laid_math_bits_deBruijn64tab), ("internal/strconv.uint64pow10", Rows.laid_internal_strconv_uint64pow10), ("unicode/utf8.acceptRanges", Rows.laid_unicode_utf8_acceptRanges), ("strconv.ErrRange", Rows.laid_strconv_ErrRange), ("strconv.ErrSyntax", Rows.laid_strconv_ErrSyntax), ("unicode/utf8.first", Rows.laid_unicode_utf8_first)] W := laidMet.tail h0
  have h2 : laidMet Tryd.prog [("internal/strconv.uint64pow10", Rows.laid_internal_strconv_uint64pow10), ("unicode/utf8.acceptRanges", Rows.laid_unicode_utf8_acceptRanges), ("strconv.ErrRange", Rows.laid_strconv_ErrRange), ("strconv.ErrSyntax", Rows.laid_strconv_ErrSyntax), ("unicode/utf8.first", Rows.laid_unicode_utf8_first)] W := laidMet.tail h1
  have h3 : laidMet Tryd.prog [("unicode/utf8.acceptRanges", Rows.laid_unicode_utf8_acceptRanges), ("strconv.ErrRange", Rows.laid_strconv_ErrRange), ("strconv.ErrSyntax", Rows.laid_strconv_ErrSyntax), ("unicode/utf8.first", Rows.laid_unicode_utf8_first)] W := laidMet.tail h2
  have h4 : laidMet Tryd.prog [("strconv.ErrRange", Rows.laid_strconv_ErrRange), ("strconv.ErrSyntax", Rows.laid_strconv_ErrSyntax), ("unicode/utf8.first", Rows.laid_unicode_utf8_first)] W := laidMet.tail h3
  have h5 : laidMet Tryd.prog [("strconv.ErrSyntax", Rows.laid_strconv_ErrSyntax), ("unicode/utf8.first", Rows.laid_unicode_utf8_first)] W := laidMet.tail h4
  have h6 : laidMet Tryd.prog [("unicode/utf8.first", Rows.laid_unicode_utf8_first)] W := laidMet.tail h5
  have h7 : laidMet Tryd.prog [] W := laidMet.tail h6
  obtain ⟨a1, s1, v1, _⟩ := laid_sentinel (g := 2) h5 (by kernel_rfl) (by kernel_rfl) Tryd.underlying68 row_err Tryd.underlying143 Tryd.underlying145 rfl rfl Tryd.underlying9 (by kernel_rfl) (by kernel_rfl)
  obtain ⟨a2, s2, v2, _⟩ := laid_sentinel (g := 3) h4 (by kernel_rfl) (by kernel_rfl) Tryd.underlying68 row_err Tryd.underlying143 Tryd.underlying145 rfl rfl Tryd.underlying9 (by kernel_rfl) (by kernel_rfl)
  refine ⟨Go.Lib.tabIs_of_head Lib.g_tab (by kernel_rfl) Tryd.underlying124 Tryd.underlying100 (by kernel_rfl) (by kernel_rfl) h2, ⟨_, _, v1⟩, ⟨_, _, v2⟩⟩
set_option maxHeartbeats 4000000 in
theorem lifted (os : Os) (started : os.Started) (H : Type) (enc : TypeId × Value → H) (F : Stop.Interp) :
    ReturnsInHanded {} Tryd.checked os 6 .any ((OpenSpec.ofChange Rows.arrayStepsSpec).preRow enc Tryd.prog Tryd.f6 Rows.arrayStepsRow.domain false Rows.arrayStepsRow.laid) (((OpenSpec.ofChange Rows.arrayStepsSpec).at F).post enc Tryd.prog Tryd.f6 false true false false) := by
  refine returnsInHanded_of_row (C := Tryd.checked) (s := (OpenSpec.ofChange Rows.arrayStepsSpec)) own started (by kernel_rfl) Tryd.func6
    (witness_row_atRef (enc := enc) (C := Tryd.checked) false (World.laidAll Tryd.prog os Rows.arrayStepsRow.laid) #[.agg #[.slice none 0 0, .int .i64 0], .int .i64 0, .slice none 0 0] (World.laidAll_os _ _ _) (by kernel_rfl) (by kernel_rfl) (by kernel_rfl) (witness_row os enc)) ?_
  intro W base args ds gs before hval0 hW _ _ hsz0 hL _ _
  have hsz : (DataW.weightsEach Tryd.prog (Tryd.f6.params.toList ++ (OpenSpec.ofChange Rows.arrayStepsSpec).bare.plain.varTypes Tryd.prog) (ds ++ gs)).all (· ≤ reachBytes) = true := hsz0
  have hval : ∀ (j : Nat) t v, Tryd.f6.params[j]? = some t → args[j]? = some v → Value.okWide Tryd.prog W .any base t v := hval0
  have hG := glob hL
  have hW' := hW
  obtain ⟨p, q, hA0, hV, rfl, hfz, hnd⟩ := hW
  have hA : DataW.TrodAll enc Tryd.prog W 0 (fun _ => true) true Tryd.f6.params.toList args.toList ds p := hA0
  rw [Tryd.params6] at hA hval hsz
  obtain ⟨v0, vs0, d0, ds0, p0, q0, hargs, rfl, rfl, t0, r0⟩ := trodAll_cons hA
  obtain ⟨v1, vs1, d1, ds1, p1, q1, rfl, rfl, rfl, t1, r1⟩ := trodAll_cons r0
  obtain ⟨v2, vs2, d2, ds2, p2, q2, rfl, rfl, rfl, t2, r2⟩ := trodAll_cons r1
  obtain ⟨rfl, rfl, rfl⟩ := trodAll_nil r2
  obtain rfl : args = #[v0, v1, v2] := by cases args; simp_all
  obtain ⟨rfl, rfl⟩ := trodVars_none hV
  have k0 := t0
  have y0 := hval 0 24 v0 rfl rfl
  obtain ⟨x0, kx0, gx0⟩ := Op.opens_arg Ar.arr_opens t0
  obtain ⟨_, _, e0, ⟨A0, c0, rfl, hc0, hr0⟩, rfl⟩ := kx0
  obtain rfl : v0 = .agg #[.slice A0 x0.1.length c0, .int .i64 x0.2] := Op.agg_of e0
  have k1 := t1
  have y1 := hval 1 3 v1 rfl rfl
  obtain ⟨z1, rfl, rfl, rfl, wz1⟩ := open_int Tryd.underlying3 y1 t1
  have k2 := t2
  have y2 := hval 2 22 v2 rfl rfl
  obtain ⟨x2, kx2, gx2⟩ := Op.opens_arg Ar.ints_opens t2
  obtain ⟨A2, c2, e2, hc2, hr2⟩ := kx2
  obtain ⟨a2, l2, b2, rfl⟩ := okWide_slice Tryd.underlying22 y2
  have e2 : Value.slice a2 l2 b2 = .slice A2 x2.length c2 := by simpa [Value.cells] using e2
  injection e2 with ea2 eb2 ec2
  subst ea2; subst eb2; subst ec2
  clear hA0 hval0 hsz0 hsz
  refine (St.steps_calls A0 c0 x0.1 x0.2 z1 a2 b2 x2 W hr0 hc0 hr2 hc2 gx2.2 hG).mono fun e W' ⟨he, bel⟩ => ?_
  subst he
  exact ⟨_, rfl, _, _, _, [], _, [], hW', trodAll_mk1 (shut_bool Tryd.underlying4 _), (trodAll_cons_mk (Below.trod laidOut (by kernel_rfl) (of_decide_eq_true (by kernel_rfl)) k0 bel (Op.trod_lt k0)) (trodAll_cons_mk (Below.trod laidOut (by kernel_rfl) (of_decide_eq_true (by kernel_rfl)) k1 bel (Op.trod_lt k1)) (trodAll_cons_mk (Below.trod laidOut (by kernel_rfl) (of_decide_eq_true (by kernel_rfl)) k2 bel (Op.trod_lt k2)) trodAll_mk0))), rfl, bel.frame _, fun h => by cases h⟩
theorem said : Rows.ArrayStepsSaid :=
  OpenClaim.holds_of_cond 6 Tryd.f6 rfl rfl rfl rfl rfl rfl rfl ⟨rfl, rfl, rfl, rfl, rfl⟩ rfl rfl rfl rfl rfl (by kernel_rfl) Tryd.func6 (by kernel_rfl)
    (of_decide_eq_true (by kernel_rfl)) (by unfold Func.isWrapper; first | (rw [if_pos (by decide +kernel)]; kernel_rfl) | (rw [if_neg (by decide +kernel)]; exact ⟨rfl, rfl⟩))
    (fun os started H enc _ F => by rw [OpenClaim.pre_eq_preRow]; exact lifted os started H enc F)
theorem plain (f : FuncId) (fn : Func) (hf : Tryd.pinned.checked.prog.funcNamed "marlinspike/marlinspikelaw08.ArraySteps" = some f) (hfn : Tryd.pinned.checked.prog.funcs[f]? = some fn) :
    true = Tryd.pinned.checked.prog.looks [] ∧ ∀ (j : Nat) t, fn.params[j]? = some t → Tryd.pinned.checked.prog.wantsStandIn t = false := by
  obtain rfl : f = 6 := Option.some.inj ((show Tryd.prog.funcNamed "marlinspike/marlinspikelaw08.ArraySteps" = some 6 by kernel_rfl).symm.trans hf) |>.symm
  obtain rfl : fn = Tryd.f6 := (Option.some.inj (Tryd.func6.symm.trans hfn)).symm
  refine ⟨by kernel_rfl, fun j t ht => ?_⟩
  rw [Tryd.params6] at ht
  have := Array.mem_of_getElem? ht
  have all : (#[24, 3, 22] : Array TypeId).all (fun t => Tryd.prog.wantsStandIn t = false) = true := by kernel_rfl
  exact of_decide_eq_true (Array.all_eq_true_iff_forall_mem.1 all t this)
theorem card : Rows.ArrayStepsCardSaid :=
  Claim7.holds_tied_plain_at .later [] _ _ _ _ said (fun _ h => by cases h) (by kernel_rfl) (fun _ h => by cases h) arraySteps_row_tie rfl ⟨rfl, rfl⟩ (by kernel_rfl) rfl plain (by kernel_rfl)
#print axioms card
end Go.Proofs.YtnfpchpnephheaaDoor.arraySteps
namespace Go.Proofs.YtnfpchpnephheaaDoor
theorem arraySteps_card : Rows.ArrayStepsCardSaid := arraySteps.card
end Go.Proofs.YtnfpchpnephheaaDoor
end
