/- Part 4 of the proof of VecTellsCardSaid. -/
import Derived.Test.YtcpikafmclfcfaaDoorZ03
import Derived.Test.YtcpikafmclfcfaaDoorZ02
section
namespace Go.Proofs.YtcpikafmclfcfaaDoor.PY
open Go.RowKit Go.Proofs.YtcpikafmclfcfaaDoor.Lib Go.Proofs.YtcpikafmclfcfaaDoorW.PrintWords Go.Proofs.YtcpikafmclfcfaaDoorW.PrintLast Go.Proofs.YtcpikafmclfcfaaDoorW.PrintMore
attribute [local go_sem] max2_int min2_int max_two min_two max_three min_three max_four min_four   
set_option linter.unusedVariables false
set_option linter.unusedSimpArgs false
attribute [local go_sem high] eqA23
def marlinspikeref06_Fits.f (a0_0 : Int) (a0_1 : Int) (a0_2 : Int) (a1_0 : Int) (a1_1 : Int) (a1_2 : Int) : Option (Bool) := if a0_0 ≤ a1_0 then (if a0_1 ≤ a1_1 then (some (decide (a0_2 ≤ a1_2))) else (some false)) else (some false)
set_option maxHeartbeats 8000000 in
set_option maxRecDepth 100000 in
theorem marlinspikeref06_Fits.calls (a0_0 : Int) (a0_1 : Int) (a0_2 : Int) (a1_0 : Int) (a1_1 : Int) (a1_2 : Int) (r : Bool) (w : World) (h : marlinspikeref06_Fits.f a0_0 a0_1 a0_2 a1_0 a1_1 a1_2 = some r) :
    Calls Tryd.prog 18 #[.agg #[.int .i64 a0_0, .int .i64 a0_1, .int .i64 a0_2], .agg #[.int .i64 a1_0, .int .i64 a1_1, .int .i64 a1_2]] w fun e w' => e = .returned (.bool r) ∧ Below w.heap.size w w' := by
  have hu23 := Tryd.underlying23
  have HB := Aside0.mk (Below.refl w.heap.size w)
  have H : (if a0_0 ≤ a1_0 then (if a0_1 ≤ a1_1 then (some (decide (a0_2 ≤ a1_2))) else (some false)) else (some false)) = some r := h
  clear h
  by_cases c3 : a0_0 ≤ a1_0
  · rw [if_pos c3] at H
    have c3b0 : decide (a0_0 ≤ a1_0) = true := decide_eq_true c3
    clear c3
    by_cases c4 : a0_1 ≤ a1_1
    · rw [if_pos c4] at H
      have c4b0 : decide (a0_1 ≤ a1_1) = true := decide_eq_true c4
      clear c4
      obtain rfl := Option.some.inj H
      go_enter Tryd.func18, Tryd.ntmps18
      go_wp2_with (first | ((with_reducible refine gate_dst (N := 2) rfl ?_); refine box_event ?hg (N := 2) ?hd (cs := #[.int .i64 a0_0, .int .i64 a0_1, .int .i64 a0_2]) (t := 23) ?hr ?_; (case hd => rfl); (case hg => rfl); (case hr => first | (go_simp; done) | (go_simp; rfl)); intro gb148 hg w5 hbox hb; have n0_ := Aside0.mk (below_step (by repeat (first | (with_reducible first | exact HB.out | apply below_alloc | apply pw_below_drewN | apply below_drew1) | exact HB.out)) hb); have n1_ := Aside0.mk (hbox); have n2_ := Aside0.mk ((by rw [hg]; exact (below_size (by repeat (first | (with_reducible first | exact HB.out | apply below_alloc | apply pw_below_drewN | apply below_drew1) | exact HB.out))) : w.heap.size ≤ gb148)); have n3_ := Aside0.mk ((by rw [hg]; exact (below_size (by repeat (first | (with_reducible first | exact HB.out | apply below_alloc | apply pw_below_drewN | apply below_drew1) | exact HB.out))) : w.heap.size ≤ gb148)); clear HB; have HB := n0_; have BK148 := n1_; have GW148 := n2_; have GE148 := n3_; clear n0_ n1_ n2_ n3_; clear hb hbox hg) | ((with_reducible refine gate_dst (N := 3) rfl ?_); refine box_event ?hg (N := 3) ?hd (cs := #[.int .i64 a1_0, .int .i64 a1_1, .int .i64 a1_2]) (t := 23) ?hr ?_; (case hd => rfl); (case hg => rfl); (case hr => first | (go_simp; done) | (go_simp; rfl)); intro gb149 hg w6 hbox hb; have n0_ := Aside0.mk (blk_below (g := gb148) (o := .cells #[.int .i64 a0_0, .int .i64 a0_1, .int .i64 a0_2] 23 (0, 0)) (by (with_reducible repeat (first | refine blk_drewN ?_ _ | refine blk_drew ?_ | refine blk_alloc ?_ _)); exact BK148.out) hb); have n1_ := Aside0.mk (below_step (by repeat (first | (with_reducible first | exact HB.out | apply below_alloc | apply pw_below_drewN | apply below_drew1 | refine below_set ?_ GE148.out) | exact HB.out)) hb); have n2_ := Aside0.mk (hbox); have n3_ := Aside0.mk ((by rw [hg]; exact (below_size (by repeat (first | (with_reducible first | exact HB.out | apply below_alloc | apply pw_below_drewN | apply below_drew1 | refine below_set ?_ GE148.out) | exact HB.out))) : w.heap.size ≤ gb149)); have n4_ := Aside0.mk ((by rw [hg]; exact (below_size (by repeat (first | (with_reducible first | exact HB.out | apply below_alloc | apply pw_below_drewN | apply below_drew1 | refine below_set ?_ GE148.out) | exact HB.out))) : w.heap.size ≤ gb149)); have n5_ := Aside0.mk ((by rw [hg]; exact Nat.ne_of_lt (blk_lt (g := gb148) (o := .cells #[.int .i64 a0_0, .int .i64 a0_1, .int .i64 a0_2] 23 (0, 0)) (by (with_reducible repeat (first | refine blk_drewN ?_ _ | refine blk_drew ?_ | refine blk_alloc ?_ _)); exact BK148.out)) : gb148 ≠ gb149)); have n6_ := Aside0.mk ((by rw [hg]; exact Nat.ne_of_gt (blk_lt (g := gb148) (o := .cells #[.int .i64 a0_0, .int .i64 a0_1, .int .i64 a0_2] 23 (0, 0)) (by (with_reducible repeat (first | refine blk_drewN ?_ _ | refine blk_drew ?_ | refine blk_alloc ?_ _)); exact BK148.out)) : gb149 ≠ gb148)); clear BK148; clear HB; have BK148 := n0_; have HB := n1_; have BK149 := n2_; have GW149 := n3_; have GE149 := n4_; have NB148_149 := n5_; have NB149_148 := n6_; clear n0_ n1_ n2_ n3_ n4_ n5_ n6_; clear hb hbox hg; have hnb7 := NB148_149.out; have hnc7 := NB149_148.out; have hcz8_0 : w6.cell? ⟨gb148, 0, none⟩ = some (.int .i64 a0_0) := (blk_cell BK148.out 0).trans rfl; have hcz8_1 : w6.cell? ⟨gb148, 1, none⟩ = some (.int .i64 a0_1) := (blk_cell BK148.out 1).trans rfl; have hcz8_2 : w6.cell? ⟨gb148, 2, none⟩ = some (.int .i64 a0_2) := (blk_cell BK148.out 2).trans rfl; have hfz8_0 := blk_frozen BK148.out 0; have hfz8_1 := blk_frozen BK148.out 1; have hfz8_2 := blk_frozen BK148.out 2; have hcz9_0 : w6.cell? ⟨gb149, 0, none⟩ = some (.int .i64 a1_0) := (blk_cell BK149.out 0).trans rfl; have hcz9_1 : w6.cell? ⟨gb149, 1, none⟩ = some (.int .i64 a1_1) := (blk_cell BK149.out 1).trans rfl; have hcz9_2 : w6.cell? ⟨gb149, 2, none⟩ = some (.int .i64 a1_2) := (blk_cell BK149.out 2).trans rfl; have hfz9_0 := blk_frozen BK149.out 0; have hfz9_1 := blk_frozen BK149.out 1; have hfz9_2 := blk_frozen BK149.out 2))
      go_ret
      exact ⟨by first | rfl | (simp [errW_none, errW_some] <;> rfl) | (simp [*, errW_none, errW_some] <;> rfl), by repeat (first | (with_reducible first | exact HB.out | apply below_alloc | apply pw_below_drewN | apply below_drew1 | refine below_set ?_ GE148.out | refine below_set ?_ GE149.out) | exact HB.out)⟩
    · rw [if_neg c4] at H
      have c4b0 : decide (a0_1 ≤ a1_1) = false := decide_eq_false c4
      clear c4
      obtain rfl := Option.some.inj H
      go_enter Tryd.func18, Tryd.ntmps18
      go_wp2_with (first | ((with_reducible refine gate_dst (N := 2) rfl ?_); refine box_event ?hg (N := 2) ?hd (cs := #[.int .i64 a0_0, .int .i64 a0_1, .int .i64 a0_2]) (t := 23) ?hr ?_; (case hd => rfl); (case hg => rfl); (case hr => first | (go_simp; done) | (go_simp; rfl)); intro gb148 hg w10 hbox hb; have n0_ := Aside0.mk (below_step (by repeat (first | (with_reducible first | exact HB.out | apply below_alloc | apply pw_below_drewN | apply below_drew1) | exact HB.out)) hb); have n1_ := Aside0.mk (hbox); have n2_ := Aside0.mk ((by rw [hg]; exact (below_size (by repeat (first | (with_reducible first | exact HB.out | apply below_alloc | apply pw_below_drewN | apply below_drew1) | exact HB.out))) : w.heap.size ≤ gb148)); have n3_ := Aside0.mk ((by rw [hg]; exact (below_size (by repeat (first | (with_reducible first | exact HB.out | apply below_alloc | apply pw_below_drewN | apply below_drew1) | exact HB.out))) : w.heap.size ≤ gb148)); clear HB; have HB := n0_; have BK148 := n1_; have GW148 := n2_; have GE148 := n3_; clear n0_ n1_ n2_ n3_; clear hb hbox hg) | ((with_reducible refine gate_dst (N := 3) rfl ?_); refine box_event ?hg (N := 3) ?hd (cs := #[.int .i64 a1_0, .int .i64 a1_1, .int .i64 a1_2]) (t := 23) ?hr ?_; (case hd => rfl); (case hg => rfl); (case hr => first | (go_simp; done) | (go_simp; rfl)); intro gb149 hg w11 hbox hb; have n0_ := Aside0.mk (blk_below (g := gb148) (o := .cells #[.int .i64 a0_0, .int .i64 a0_1, .int .i64 a0_2] 23 (0, 0)) (by (with_reducible repeat (first | refine blk_drewN ?_ _ | refine blk_drew ?_ | refine blk_alloc ?_ _)); exact BK148.out) hb); have n1_ := Aside0.mk (below_step (by repeat (first | (with_reducible first | exact HB.out | apply below_alloc | apply pw_below_drewN | apply below_drew1 | refine below_set ?_ GE148.out) | exact HB.out)) hb); have n2_ := Aside0.mk (hbox); have n3_ := Aside0.mk ((by rw [hg]; exact (below_size (by repeat (first | (with_reducible first | exact HB.out | apply below_alloc | apply pw_below_drewN | apply below_drew1 | refine below_set ?_ GE148.out) | exact HB.out))) : w.heap.size ≤ gb149)); have n4_ := Aside0.mk ((by rw [hg]; exact (below_size (by repeat (first | (with_reducible first | exact HB.out | apply below_alloc | apply pw_below_drewN | apply below_drew1 | refine below_set ?_ GE148.out) | exact HB.out))) : w.heap.size ≤ gb149)); have n5_ := Aside0.mk ((by rw [hg]; exact Nat.ne_of_lt (blk_lt (g := gb148) (o := .cells #[.int .i64 a0_0, .int .i64 a0_1, .int .i64 a0_2] 23 (0, 0)) (by (with_reducible repeat (first | refine blk_drewN ?_ _ | refine blk_drew ?_ | refine blk_alloc ?_ _)); exact BK148.out)) : gb148 ≠ gb149)); have n6_ := Aside0.mk ((by rw [hg]; exact Nat.ne_of_gt (blk_lt (g := gb148) (o := .cells #[.int .i64 a0_0, .int .i64 a0_1, .int .i64 a0_2] 23 (0, 0)) (by (with_reducible repeat (first | refine blk_drewN ?_ _ | refine blk_drew ?_ | refine blk_alloc ?_ _)); exact BK148.out)) : gb149 ≠ gb148)); clear BK148; clear HB; have BK148 := n0_; have HB := n1_; have BK149 := n2_; have GW149 := n3_; have GE149 := n4_; have NB148_149 := n5_; have NB149_148 := n6_; clear n0_ n1_ n2_ n3_ n4_ n5_ n6_; clear hb hbox hg; have hnb12 := NB148_149.out; have hnc12 := NB149_148.out; have hcz13_0 : w11.cell? ⟨gb148, 0, none⟩ = some (.int .i64 a0_0) := (blk_cell BK148.out 0).trans rfl; have hcz13_1 : w11.cell? ⟨gb148, 1, none⟩ = some (.int .i64 a0_1) := (blk_cell BK148.out 1).trans rfl; have hcz13_2 : w11.cell? ⟨gb148, 2, none⟩ = some (.int .i64 a0_2) := (blk_cell BK148.out 2).trans rfl; have hfz13_0 := blk_frozen BK148.out 0; have hfz13_1 := blk_frozen BK148.out 1; have hfz13_2 := blk_frozen BK148.out 2; have hcz14_0 : w11.cell? ⟨gb149, 0, none⟩ = some (.int .i64 a1_0) := (blk_cell BK149.out 0).trans rfl; have hcz14_1 : w11.cell? ⟨gb149, 1, none⟩ = some (.int .i64 a1_1) := (blk_cell BK149.out 1).trans rfl; have hcz14_2 : w11.cell? ⟨gb149, 2, none⟩ = some (.int .i64 a1_2) := (blk_cell BK149.out 2).trans rfl; have hfz14_0 := blk_frozen BK149.out 0; have hfz14_1 := blk_frozen BK149.out 1; have hfz14_2 := blk_frozen BK149.out 2))
      go_ret
      exact ⟨by first | rfl | (simp [errW_none, errW_some] <;> rfl) | (simp [*, errW_none, errW_some] <;> rfl), by repeat (first | (with_reducible first | exact HB.out | apply below_alloc | apply pw_below_drewN | apply below_drew1 | refine below_set ?_ GE148.out | refine below_set ?_ GE149.out) | exact HB.out)⟩
  · rw [if_neg c3] at H
    have c3b0 : decide (a0_0 ≤ a1_0) = false := decide_eq_false c3
    clear c3
    obtain rfl := Option.some.inj H
    go_enter Tryd.func18, Tryd.ntmps18
    go_wp2_with (first | ((with_reducible refine gate_dst (N := 2) rfl ?_); refine box_event ?hg (N := 2) ?hd (cs := #[.int .i64 a0_0, .int .i64 a0_1, .int .i64 a0_2]) (t := 23) ?hr ?_; (case hd => rfl); (case hg => rfl); (case hr => first | (go_simp; done) | (go_simp; rfl)); intro gb148 hg w15 hbox hb; have n0_ := Aside0.mk (below_step (by repeat (first | (with_reducible first | exact HB.out | apply below_alloc | apply pw_below_drewN | apply below_drew1) | exact HB.out)) hb); have n1_ := Aside0.mk (hbox); have n2_ := Aside0.mk ((by rw [hg]; exact (below_size (by repeat (first | (with_reducible first | exact HB.out | apply below_alloc | apply pw_below_drewN | apply below_drew1) | exact HB.out))) : w.heap.size ≤ gb148)); have n3_ := Aside0.mk ((by rw [hg]; exact (below_size (by repeat (first | (with_reducible first | exact HB.out | apply below_alloc | apply pw_below_drewN | apply below_drew1) | exact HB.out))) : w.heap.size ≤ gb148)); clear HB; have HB := n0_; have BK148 := n1_; have GW148 := n2_; have GE148 := n3_; clear n0_ n1_ n2_ n3_; clear hb hbox hg) | ((with_reducible refine gate_dst (N := 3) rfl ?_); refine box_event ?hg (N := 3) ?hd (cs := #[.int .i64 a1_0, .int .i64 a1_1, .int .i64 a1_2]) (t := 23) ?hr ?_; (case hd => rfl); (case hg => rfl); (case hr => first | (go_simp; done) | (go_simp; rfl)); intro gb149 hg w16 hbox hb; have n0_ := Aside0.mk (blk_below (g := gb148) (o := .cells #[.int .i64 a0_0, .int .i64 a0_1, .int .i64 a0_2] 23 (0, 0)) (by (with_reducible repeat (first | refine blk_drewN ?_ _ | refine blk_drew ?_ | refine blk_alloc ?_ _)); exact BK148.out) hb); have n1_ := Aside0.mk (below_step (by repeat (first | (with_reducible first | exact HB.out | apply below_alloc | apply pw_below_drewN | apply below_drew1 | refine below_set ?_ GE148.out) | exact HB.out)) hb); have n2_ := Aside0.mk (hbox); have n3_ := Aside0.mk ((by rw [hg]; exact (below_size (by repeat (first | (with_reducible first | exact HB.out | apply below_alloc | apply pw_below_drewN | apply below_drew1 | refine below_set ?_ GE148.out) | exact HB.out))) : w.heap.size ≤ gb149)); have n4_ := Aside0.mk ((by rw [hg]; exact (below_size (by repeat (first | (with_reducible first | exact HB.out | apply below_alloc | apply pw_below_drewN | apply below_drew1 | refine below_set ?_ GE148.out) | exact HB.out))) : w.heap.size ≤ gb149)); have n5_ := Aside0.mk ((by rw [hg]; exact Nat.ne_of_lt (blk_lt (g := gb148) (o := .cells #[.int .i64 a0_0, .int .i64 a0_1, .int .i64 a0_2] 23 (0, 0)) (by (with_reducible repeat (first | refine blk_drewN ?_ _ | refine blk_drew ?_ | refine blk_alloc ?_ _)); exact BK148.out)) : gb148 ≠ gb149)); have n6_ := Aside0.mk ((by rw [hg]; exact Nat.ne_of_gt (blk_lt (g := gb148) (o := .cells #[.int .i64 a0_0, .int .i64 a0_1, .int .i64 a0_2] 23 (0, 0)) (by (with_reducible repeat (first | refine blk_drewN ?_ _ | refine blk_drew ?_ | refine blk_alloc ?_ _)); exact BK148.out)) : gb149 ≠ gb148)); clear BK148; clear HB; have BK148 := n0_; have HB := n1_; have BK149 := n2_; have GW149 := n3_; have GE149 := n4_; have NB148_149 := n5_; have NB149_148 := n6_; clear n0_ n1_ n2_ n3_ n4_ n5_ n6_; clear hb hbox hg; have hnb17 := NB148_149.out; have hnc17 := NB149_148.out; have hcz18_0 : w16.cell? ⟨gb148, 0, none⟩ = some (.int .i64 a0_0) := (blk_cell BK148.out 0).trans rfl; have hcz18_1 : w16.cell? ⟨gb148, 1, none⟩ = some (.int .i64 a0_1) := (blk_cell BK148.out 1).trans rfl; have hcz18_2 : w16.cell? ⟨gb148, 2, none⟩ = some (.int .i64 a0_2) := (blk_cell BK148.out 2).trans rfl; have hfz18_0 := blk_frozen BK148.out 0; have hfz18_1 := blk_frozen BK148.out 1; have hfz18_2 := blk_frozen BK148.out 2; have hcz19_0 : w16.cell? ⟨gb149, 0, none⟩ = some (.int .i64 a1_0) := (blk_cell BK149.out 0).trans rfl; have hcz19_1 : w16.cell? ⟨gb149, 1, none⟩ = some (.int .i64 a1_1) := (blk_cell BK149.out 1).trans rfl; have hcz19_2 : w16.cell? ⟨gb149, 2, none⟩ = some (.int .i64 a1_2) := (blk_cell BK149.out 2).trans rfl; have hfz19_0 := blk_frozen BK149.out 0; have hfz19_1 := blk_frozen BK149.out 1; have hfz19_2 := blk_frozen BK149.out 2))
    go_ret
    exact ⟨by first | rfl | (simp [errW_none, errW_some] <;> rfl) | (simp [*, errW_none, errW_some] <;> rfl), by repeat (first | (with_reducible first | exact HB.out | apply below_alloc | apply pw_below_drewN | apply below_drew1 | refine below_set ?_ GE148.out | refine below_set ?_ GE149.out) | exact HB.out)⟩
mutual
def marlinspikeref06_Into.j0 : Nat → Bool → Int → Int → Int → Int → Int → Int → Option (Int)
  | 0, _, _, _, _, _, _, _ => none
  | k + 1, x13, x151000, x151001, x151002, x152000, x152001, x152002 => if x13 = true then (some 0) else (if x151000 > 0 then (if x151000 = 0 then (none) else (marlinspikeref06_Into.j1 k (mn 1073741824 (wrap64 (Int.tdiv x152000 x151000))) x151000 x151001 x151002 x152000 x152001 x152002)) else (marlinspikeref06_Into.j1 k 1073741824 x151000 x151001 x151002 x152000 x152001 x152002))
def marlinspikeref06_Into.j1 : Nat → Int → Int → Int → Int → Int → Int → Int → Option (Int)
  | 0, _, _, _, _, _, _, _ => none
  | k + 1, x5, x151000, x151001, x151002, x152000, x152001, x152002 => if x151001 > 0 then (if x151001 = 0 then (none) else (if x151002 > 0 then (if x151002 = 0 then (none) else (some (mn (mn x5 (wrap64 (Int.tdiv x152001 x151001))) (wrap64 (Int.tdiv x152002 x151002))))) else (some (mn x5 (wrap64 (Int.tdiv x152001 x151001)))))) else (if x151002 > 0 then (if x151002 = 0 then (none) else (some (mn x5 (wrap64 (Int.tdiv x152002 x151002))))) else (some x5))
end
def marlinspikeref06_Into.f (k : Nat) (a0_0 : Int) (a0_1 : Int) (a0_2 : Int) (a1_0 : Int) (a1_1 : Int) (a1_2 : Int) : Option (Int) := (marlinspikeref06_Right.f a0_0 a0_1 a0_2).bind fun t152 => (if t152 = true then ((marlinspikeref06_Right.f a1_0 a1_1 a1_2).bind fun t153 => (marlinspikeref06_Into.j0 k (!t153) a0_0 a0_1 a0_2 a1_0 a1_1 a1_2)) else (marlinspikeref06_Into.j0 k true a0_0 a0_1 a0_2 a1_0 a1_1 a1_2))
theorem marlinspikeref06_Into.mono_l : ∀ k, (∀ y0 y1 y2 y3 y4 y5 y6, LeO (marlinspikeref06_Into.j0 k y0 y1 y2 y3 y4 y5 y6) (marlinspikeref06_Into.j0 (k + 1) y0 y1 y2 y3 y4 y5 y6)) ∧ (∀ y0 y1 y2 y3 y4 y5 y6, LeO (marlinspikeref06_Into.j1 k y0 y1 y2 y3 y4 y5 y6) (marlinspikeref06_Into.j1 (k + 1) y0 y1 y2 y3 y4 y5 y6))
  | 0 => ⟨fun _ _ _ _ _ _ _ r h => by simp [marlinspikeref06_Into.j0] at h, fun _ _ _ _ _ _ _ r h => by simp [marlinspikeref06_Into.j1] at h⟩
  | k + 1 => by
    obtain ⟨ih0, ih1⟩ := marlinspikeref06_Into.mono_l k
    refine ⟨?_, ?_⟩
    · intro y0 y1 y2 y3 y4 y5 y6
      unfold marlinspikeref06_Into.j0
      repeat' first
      | (with_reducible exact ih0 _ _ _ _ _ _ _)
      | (with_reducible exact ih1 _ _ _ _ _ _ _)
      | (with_reducible exact LeO.refl _)
      | (with_reducible exact LeO.none _)
      | (with_reducible refine LeO.ite ?_ ?_)
      | (with_reducible refine LeO.bind ?_ (fun _ => ?_))
      | exact ih0 _ _ _ _ _ _ _
      | exact ih1 _ _ _ _ _ _ _
      | exact LeO.none _
      | refine LeO.ite ?_ ?_
      | refine LeO.bind ?_ (fun _ => ?_)
    · intro y0 y1 y2 y3 y4 y5 y6
      unfold marlinspikeref06_Into.j1
      repeat' first
      | (with_reducible exact ih0 _ _ _ _ _ _ _)
      | (with_reducible exact ih1 _ _ _ _ _ _ _)
      | (with_reducible exact LeO.refl _)
      | (with_reducible exact LeO.none _)
      | (with_reducible refine LeO.ite ?_ ?_)
      | (with_reducible refine LeO.bind ?_ (fun _ => ?_))
      | exact ih0 _ _ _ _ _ _ _
      | exact ih1 _ _ _ _ _ _ _
      | exact LeO.none _
      | refine LeO.ite ?_ ?_
      | refine LeO.bind ?_ (fun _ => ?_)
theorem marlinspikeref06_Into.mono : ∀ a0 a1 a2 a3 a4 a5 k, LeO (marlinspikeref06_Into.f k a0 a1 a2 a3 a4 a5) (marlinspikeref06_Into.f (k + 1) a0 a1 a2 a3 a4 a5) := by
  intro a0 a1 a2 a3 a4 a5 k
  obtain ⟨ih0, ih1⟩ := marlinspikeref06_Into.mono_l k
  unfold marlinspikeref06_Into.f
  repeat' first
      | (with_reducible exact ih0 _ _ _ _ _ _ _)
      | (with_reducible exact ih1 _ _ _ _ _ _ _)
      | (with_reducible exact LeO.refl _)
      | (with_reducible exact LeO.none _)
      | (with_reducible refine LeO.ite ?_ ?_)
      | (with_reducible refine LeO.bind ?_ (fun _ => ?_))
      | exact ih0 _ _ _ _ _ _ _
      | exact ih1 _ _ _ _ _ _ _
      | exact LeO.none _
      | refine LeO.ite ?_ ?_
      | refine LeO.bind ?_ (fun _ => ?_)
set_option maxHeartbeats 8000000 in
set_option maxRecDepth 100000 in
theorem marlinspikeref06_Into.calls (k : Nat) (a0_0 : Int) (a0_1 : Int) (a0_2 : Int) (a1_0 : Int) (a1_1 : Int) (a1_2 : Int) (r : Int) (w : World) (h : marlinspikeref06_Into.f k a0_0 a0_1 a0_2 a1_0 a1_1 a1_2 = some r) :
    Calls Tryd.prog 20 #[.agg #[.int .i64 a0_0, .int .i64 a0_1, .int .i64 a0_2], .agg #[.int .i64 a1_0, .int .i64 a1_1, .int .i64 a1_2]] w fun e w' => e = .returned (.int .i64 r) ∧ Below w.heap.size w w' := by
  have hu23 := Tryd.underlying23
  have HB := Aside0.mk (Below.refl w.heap.size w)
  have H : ((marlinspikeref06_Right.f a0_0 a0_1 a0_2).bind fun t152 => (if t152 = true then ((marlinspikeref06_Right.f a1_0 a1_1 a1_2).bind fun t153 => (marlinspikeref06_Into.j0 k (!t153) a0_0 a0_1 a0_2 a1_0 a1_1 a1_2)) else (marlinspikeref06_Into.j0 k true a0_0 a0_1 a0_2 a1_0 a1_1 a1_2))) = some r := h
  clear h
  have HC3 := Aside0.mk H
  clear H
  go_enter Tryd.func20, Tryd.ntmps20
  go_upto_region 1 with (first | ((with_reducible refine gate_dst (N := 2) rfl ?_); refine box_event ?hg (N := 2) ?hd (cs := #[.int .i64 a0_0, .int .i64 a0_1, .int .i64 a0_2]) (t := 23) ?hr ?_; (case hd => rfl); (case hg => rfl); (case hr => first | (go_simp; done) | (go_simp; rfl)); intro gb150 hg w4 hbox hb; have n0_ := Aside0.mk (below_step (by repeat (first | (with_reducible first | exact HB.out | apply below_alloc | apply pw_below_drewN | apply below_drew1) | exact HB.out)) hb); have n1_ := Aside0.mk (hbox); have n2_ := Aside0.mk ((by rw [hg]; exact (below_size (by repeat (first | (with_reducible first | exact HB.out | apply below_alloc | apply pw_below_drewN | apply below_drew1) | exact HB.out))) : w.heap.size ≤ gb150)); have n3_ := Aside0.mk ((by rw [hg]; exact (below_size (by repeat (first | (with_reducible first | exact HB.out | apply below_alloc | apply pw_below_drewN | apply below_drew1) | exact HB.out))) : w.heap.size ≤ gb150)); clear HB; have HB := n0_; have BK150 := n1_; have GW150 := n2_; have GE150 := n3_; clear n0_ n1_ n2_ n3_; clear hb hbox hg) | ((with_reducible refine gate_dst (N := 3) rfl ?_); refine box_event ?hg (N := 3) ?hd (cs := #[.int .i64 a1_0, .int .i64 a1_1, .int .i64 a1_2]) (t := 23) ?hr ?_; (case hd => rfl); (case hg => rfl); (case hr => first | (go_simp; done) | (go_simp; rfl)); intro gb151 hg w5 hbox hb; have n0_ := Aside0.mk (blk_below (g := gb150) (o := .cells #[.int .i64 a0_0, .int .i64 a0_1, .int .i64 a0_2] 23 (0, 0)) (by (with_reducible repeat (first | refine blk_drewN ?_ _ | refine blk_drew ?_ | refine blk_alloc ?_ _)); exact BK150.out) hb); have n1_ := Aside0.mk (below_step (by repeat (first | (with_reducible first | exact HB.out | apply below_alloc | apply pw_below_drewN | apply below_drew1 | refine below_set ?_ GE150.out) | exact HB.out)) hb); have n2_ := Aside0.mk (hbox); have n3_ := Aside0.mk ((by rw [hg]; exact (below_size (by repeat (first | (with_reducible first | exact HB.out | apply below_alloc | apply pw_below_drewN | apply below_drew1 | refine below_set ?_ GE150.out) | exact HB.out))) : w.heap.size ≤ gb151)); have n4_ := Aside0.mk ((by rw [hg]; exact (below_size (by repeat (first | (with_reducible first | exact HB.out | apply below_alloc | apply pw_below_drewN | apply below_drew1 | refine below_set ?_ GE150.out) | exact HB.out))) : w.heap.size ≤ gb151)); have n5_ := Aside0.mk ((by rw [hg]; exact Nat.ne_of_lt (blk_lt (g := gb150) (o := .cells #[.int .i64 a0_0, .int .i64 a0_1, .int .i64 a0_2] 23 (0, 0)) (by (with_reducible repeat (first | refine blk_drewN ?_ _ | refine blk_drew ?_ | refine blk_alloc ?_ _)); exact BK150.out)) : gb150 ≠ gb151)); have n6_ := Aside0.mk ((by rw [hg]; exact Nat.ne_of_gt (blk_lt (g := gb150) (o := .cells #[.int .i64 a0_0, .int .i64 a0_1, .int .i64 a0_2] 23 (0, 0)) (by (with_reducible repeat (first | refine blk_drewN ?_ _ | refine blk_drew ?_ | refine blk_alloc ?_ _)); exact BK150.out)) : gb151 ≠ gb150)); clear BK150; clear HB; have BK150 := n0_; have HB := n1_; have BK151 := n2_; have GW151 := n3_; have GE151 := n4_; have NB150_151 := n5_; have NB151_150 := n6_; clear n0_ n1_ n2_ n3_ n4_ n5_ n6_; clear hb hbox hg))
  (try simp only [Act.put, List.setIfInBounds_toArray, List.set_cons_zero, List.set_cons_succ])
  go_cut [13] (fun v13 wc => ∃ (kq : Nat) (x13_2 : Bool), v13 = .bool x13_2 ∧ Aside0 (marlinspikeref06_Into.j0 kq x13_2 a0_0 a0_1 a0_2 a1_0 a1_1 a1_2 = some r) ∧ Aside0 (kq ≤ k) ∧ Aside0 (wc.heap[gb150]? = some (.cells #[.int .i64 a0_0, .int .i64 a0_1, .int .i64 a0_2] 23 (0, 0))) ∧ Aside0 (wc.heap[gb151]? = some (.cells #[.int .i64 a1_0, .int .i64 a1_1, .int .i64 a1_2] 23 (0, 0))) ∧ Aside0 (Below w.heap.size w wc))
  case first =>
    have H := HC3.out
    clear HC3
    replace H := Option.bind_eq_some_iff.mp H
    obtain ⟨t152, A60, H⟩ := H
    replace H : (if t152 = true then ((marlinspikeref06_Right.f a1_0 a1_1 a1_2).bind fun t153 => (marlinspikeref06_Into.j0 k (!t153) a0_0 a0_1 a0_2 a1_0 a1_1 a1_2)) else (marlinspikeref06_Into.j0 k true a0_0 a0_1 a0_2 a1_0 a1_1 a1_2)) = some r := H
    have A6 := Aside0.mk A60
    clear A60
    by_cases c7 : t152 = true
    · subst c7
      have H1 : ((marlinspikeref06_Right.f a1_0 a1_1 a1_2).bind fun t153 => (marlinspikeref06_Into.j0 k (!t153) a0_0 a0_1 a0_2 a1_0 a1_1 a1_2)) = some r := by rw [if_pos rfl] at H; exact H
      clear H
      have H := H1
      clear H1
      replace H := Option.bind_eq_some_iff.mp H
      obtain ⟨t153, A80, H⟩ := H
      replace H : (marlinspikeref06_Into.j0 k (!t153) a0_0 a0_1 a0_2 a1_0 a1_1 a1_2) = some r := H
      have A8 := Aside0.mk A80
      clear A80
      have H' := Aside0.mk H
      clear H
      have hnb9 := NB150_151.out
      have hnc9 := NB151_150.out
      have hcz10_0 : w5.cell? ⟨gb150, 0, none⟩ = some (.int .i64 a0_0) := (blk_cell BK150.out 0).trans rfl
      have hcz10_1 : w5.cell? ⟨gb150, 1, none⟩ = some (.int .i64 a0_1) := (blk_cell BK150.out 1).trans rfl
      have hcz10_2 : w5.cell? ⟨gb150, 2, none⟩ = some (.int .i64 a0_2) := (blk_cell BK150.out 2).trans rfl
      have hfz10_0 := blk_frozen BK150.out 0
      have hfz10_1 := blk_frozen BK150.out 1
      have hfz10_2 := blk_frozen BK150.out 2
      go_wp2_with (first | ((with_reducible refine gate_callee (f := 16) rfl ?_); refine goesL_ (some 7) rfl rfl Tryd.func16 (by kernel_rfl) rfl #[.agg #[.int .i64 a0_0, .int .i64 a0_1, .int .i64 a0_2]] rfl (by (try simp only [List.map_toArray, List.map_cons, List.map_nil]); first | done | rfl | (simp only [List.length_drop, List.length_take]; rfl)) ?_; (with_reducible refine (marlinspikeref06_Right.calls a0_0 a0_1 a0_2 true _ A6.out).mono ?_); rintro e w11 ⟨rfl, hb⟩; refine ⟨_, rfl, ?_⟩; have n0_ := Aside0.mk (blk_below (g := gb150) (o := .cells #[.int .i64 a0_0, .int .i64 a0_1, .int .i64 a0_2] 23 (0, 0)) (by (with_reducible repeat (first | refine blk_drewN ?_ _ | refine blk_drew ?_ | refine blk_alloc ?_ _)); exact BK150.out) hb); have n1_ := Aside0.mk (blk_below (g := gb151) (o := .cells #[.int .i64 a1_0, .int .i64 a1_1, .int .i64 a1_2] 23 (0, 0)) (by (with_reducible repeat (first | refine blk_drewN ?_ _ | refine blk_drew ?_ | refine blk_alloc ?_ _)); exact BK151.out) hb); have n2_ := Aside0.mk (below_step (by repeat (first | (with_reducible first | exact HB.out | apply below_alloc | apply pw_below_drewN | apply below_drew1 | refine below_set ?_ GE150.out | refine below_set ?_ GE151.out) | exact HB.out)) hb); clear BK150; clear BK151; clear HB; have BK150 := n0_; have BK151 := n1_; have HB := n2_; clear n0_ n1_ n2_; (try clear hb); (try clear hb2); (try clear hk); (try clear hi); have hcz12_0 : w11.cell? ⟨gb151, 0, none⟩ = some (.int .i64 a1_0) := (blk_cell BK151.out 0).trans rfl; have hcz12_1 : w11.cell? ⟨gb151, 1, none⟩ = some (.int .i64 a1_1) := (blk_cell BK151.out 1).trans rfl; have hcz12_2 : w11.cell? ⟨gb151, 2, none⟩ = some (.int .i64 a1_2) := (blk_cell BK151.out 2).trans rfl; have hfz12_0 := blk_frozen BK151.out 0; have hfz12_1 := blk_frozen BK151.out 1; have hfz12_2 := blk_frozen BK151.out 2) | (go_at_call 16; (with_reducible refine (marlinspikeref06_Right.calls a1_0 a1_1 a1_2 t153 _ A8.out).mono ?_); rintro e w13 ⟨rfl, hb⟩; have n0_ := Aside0.mk (blk_below (g := gb150) (o := .cells #[.int .i64 a0_0, .int .i64 a0_1, .int .i64 a0_2] 23 (0, 0)) (by (with_reducible repeat (first | refine blk_drewN ?_ _ | refine blk_drew ?_ | refine blk_alloc ?_ _)); exact BK150.out) hb); have n1_ := Aside0.mk (blk_below (g := gb151) (o := .cells #[.int .i64 a1_0, .int .i64 a1_1, .int .i64 a1_2] 23 (0, 0)) (by (with_reducible repeat (first | refine blk_drewN ?_ _ | refine blk_drew ?_ | refine blk_alloc ?_ _)); exact BK151.out) hb); have n2_ := Aside0.mk (below_step (by repeat (first | (with_reducible first | exact HB.out | apply below_alloc | apply pw_below_drewN | apply below_drew1 | refine below_set ?_ GE150.out | refine below_set ?_ GE151.out) | exact HB.out)) hb); clear BK150; clear BK151; clear HB; have BK150 := n0_; have BK151 := n1_; have HB := n2_; clear n0_ n1_ n2_; (try clear hb); (try clear hb2); (try clear hk); (try clear hi)))
      go_meet
      case rel => exact ⟨_, (!t153), (by first | rfl | (simp; done) | (simp [*]; done) | (simp [wrap64]; done)), H', ⟨by first | omega | exact Nat.le_refl _⟩, ⟨by (with_reducible repeat (first | refine blk_drewN ?_ _ | refine blk_drew ?_ | refine blk_alloc ?_ _)); exact BK150.out⟩, ⟨by (with_reducible repeat (first | refine blk_drewN ?_ _ | refine blk_drew ?_ | refine blk_alloc ?_ _)); exact BK151.out⟩, ⟨by repeat (first | (with_reducible first | exact HB.out | apply below_alloc | apply pw_below_drewN | apply below_drew1 | refine below_set ?_ GE150.out | refine below_set ?_ GE151.out) | exact HB.out)⟩⟩
    · replace c7 := Bool.eq_false_iff.mpr c7
      subst c7
      have H1 : (marlinspikeref06_Into.j0 k true a0_0 a0_1 a0_2 a1_0 a1_1 a1_2) = some r := by rw [if_neg (show ¬ (false = true) by decide)] at H; exact H
      clear H
      have H := H1
      clear H1
      have H' := Aside0.mk H
      clear H
      have hnb14 := NB150_151.out
      have hnc14 := NB151_150.out
      have hcz15_0 : w5.cell? ⟨gb150, 0, none⟩ = some (.int .i64 a0_0) := (blk_cell BK150.out 0).trans rfl
      have hcz15_1 : w5.cell? ⟨gb150, 1, none⟩ = some (.int .i64 a0_1) := (blk_cell BK150.out 1).trans rfl
      have hcz15_2 : w5.cell? ⟨gb150, 2, none⟩ = some (.int .i64 a0_2) := (blk_cell BK150.out 2).trans rfl
      have hfz15_0 := blk_frozen BK150.out 0
      have hfz15_1 := blk_frozen BK150.out 1
      have hfz15_2 := blk_frozen BK150.out 2
      go_wp2_with (first | ((with_reducible refine gate_callee (f := 16) rfl ?_); refine goesL_ (some 7) rfl rfl Tryd.func16 (by kernel_rfl) rfl #[.agg #[.int .i64 a0_0, .int .i64 a0_1, .int .i64 a0_2]] rfl (by (try simp only [List.map_toArray, List.map_cons, List.map_nil]); first | done | rfl | (simp only [List.length_drop, List.length_take]; rfl)) ?_; (with_reducible refine (marlinspikeref06_Right.calls a0_0 a0_1 a0_2 false _ A6.out).mono ?_); rintro e w16 ⟨rfl, hb⟩; refine ⟨_, rfl, ?_⟩; have n0_ := Aside0.mk (blk_below (g := gb150) (o := .cells #[.int .i64 a0_0, .int .i64 a0_1, .int .i64 a0_2] 23 (0, 0)) (by (with_reducible repeat (first | refine blk_drewN ?_ _ | refine blk_drew ?_ | refine blk_alloc ?_ _)); exact BK150.out) hb); have n1_ := Aside0.mk (blk_below (g := gb151) (o := .cells #[.int .i64 a1_0, .int .i64 a1_1, .int .i64 a1_2] 23 (0, 0)) (by (with_reducible repeat (first | refine blk_drewN ?_ _ | refine blk_drew ?_ | refine blk_alloc ?_ _)); exact BK151.out) hb); have n2_ := Aside0.mk (below_step (by repeat (first | (with_reducible first | exact HB.out | apply below_alloc | apply pw_below_drewN | apply below_drew1 | refine below_set ?_ GE150.out | refine below_set ?_ GE151.out) | exact HB.out)) hb); clear BK150; clear BK151; clear HB; have BK150 := n0_; have BK151 := n1_; have HB := n2_; clear n0_ n1_ n2_; (try clear hb); (try clear hb2); (try clear hk); (try clear hi)))
      go_meet
      case rel => exact ⟨_, (true), (by first | rfl | (simp; done) | (simp [*]; done) | (simp [wrap64]; done)), H', ⟨by first | omega | exact Nat.le_refl _⟩, ⟨by (with_reducible repeat (first | refine blk_drewN ?_ _ | refine blk_drew ?_ | refine blk_alloc ?_ _)); exact BK150.out⟩, ⟨by (with_reducible repeat (first | refine blk_drewN ?_ _ | refine blk_drew ?_ | refine blk_alloc ?_ _)); exact BK151.out⟩, ⟨by repeat (first | (with_reducible first | exact HB.out | apply below_alloc | apply pw_below_drewN | apply below_drew1 | refine below_set ?_ GE150.out | refine below_set ?_ GE151.out) | exact HB.out)⟩⟩
  case rest =>
    clear HC3
    try clear c1
    try clear c2
    try clear p2
    try clear c7
    try clear c9
    try clear c14
    try clear c16
    try clear hcz10_0
    try clear hcz10_1
    try clear hcz10_2
    try clear hcz12_0
    try clear hcz12_1
    try clear hcz12_2
    try clear hcz15_0
    try clear hcz15_1
    try clear hcz15_2
    try clear hfz10_0
    try clear hfz10_1
    try clear hfz10_2
    try clear hfz12_0
    try clear hfz12_1
    try clear hfz12_2
    try clear hfz15_0
    try clear hfz15_1
    try clear hfz15_2
    obtain ⟨kq, x13_2, rfl, HA, HJ2, BK150, BK151, HB⟩ := hcut
    cases kq with
    | zero => exact absurd HA.out (by simp [marlinspikeref06_Into.j0])
    | succ kj2 =>
      have H := HA.out
      clear HA
      simp only [marlinspikeref06_Into.j0] at H
      by_cases c17 : x13_2 = true
      · subst c17
        have H1 : (some 0) = some r := by rw [if_pos rfl] at H; exact H
        clear H
        have H := H1
        clear H1
        obtain rfl := Option.some.inj H
        go_wp2
        go_ret
        exact ⟨by first | rfl | (simp [errW_none, errW_some] <;> rfl) | (simp [*, errW_none, errW_some] <;> rfl), by repeat (first | (with_reducible first | exact HB.out | apply below_alloc | apply pw_below_drewN | apply below_drew1 | refine below_set ?_ GE150.out | refine below_set ?_ GE151.out) | exact HB.out)⟩
      · replace c17 := Bool.eq_false_iff.mpr c17
        subst c17
        have H1 : (if a0_0 > 0 then (if a0_0 = 0 then (none) else (marlinspikeref06_Into.j1 kj2 (mn 1073741824 (wrap64 (Int.tdiv a1_0 a0_0))) a0_0 a0_1 a0_2 a1_0 a1_1 a1_2)) else (marlinspikeref06_Into.j1 kj2 1073741824 a0_0 a0_1 a0_2 a1_0 a1_1 a1_2)) = some r := by rw [if_neg (show ¬ (false = true) by decide)] at H; exact H
        clear H
        have H := H1
        clear H1
        have HC18 := Aside0.mk H
        clear H
        have hnb19 := NB150_151.out
        have hnc19 := NB151_150.out
        have hcz20_0 : wc.cell? ⟨gb150, 0, none⟩ = some (.int .i64 a0_0) := (blk_cell BK150.out 0).trans rfl
        have hcz20_1 : wc.cell? ⟨gb150, 1, none⟩ = some (.int .i64 a0_1) := (blk_cell BK150.out 1).trans rfl
        have hcz20_2 : wc.cell? ⟨gb150, 2, none⟩ = some (.int .i64 a0_2) := (blk_cell BK150.out 2).trans rfl
        have hfz20_0 := blk_frozen BK150.out 0
        have hfz20_1 := blk_frozen BK150.out 1
        have hfz20_2 := blk_frozen BK150.out 2
        go_upto_if 16 with (fail)
        go_cut [5] (fun v5 wc => ∃ (kq : Nat) (x5_17 : Int), v5 = .int .i64 x5_17 ∧ Aside0 (marlinspikeref06_Into.j1 kq x5_17 a0_0 a0_1 a0_2 a1_0 a1_1 a1_2 = some r) ∧ Aside0 (kq ≤ kj2) ∧ Aside0 (wc.heap[gb150]? = some (.cells #[.int .i64 a0_0, .int .i64 a0_1, .int .i64 a0_2] 23 (0, 0))) ∧ Aside0 (wc.heap[gb151]? = some (.cells #[.int .i64 a1_0, .int .i64 a1_1, .int .i64 a1_2] 23 (0, 0))) ∧ Aside0 (Below w.heap.size w wc))
        case first =>
          have H := HC18.out
          clear HC18
          by_cases c21 : a0_0 > 0
          · rw [if_pos c21] at H
            have c21b0 : decide (0 < a0_0) = true := decide_eq_true c21
            clear c21
            (first | rw [c21b0] | (simp only [i64_w, i32_w]; rw [c21b0]) | skip)
            by_cases c22 : a0_0 = 0
            · rw [if_pos c22] at H
              exact absurd H (by simp)
            · rw [if_neg c22] at H
              have c22b0 : (a0_0 == 0) = false := beq_eq_false_iff_ne.mpr c22
              have c22b1 : (a0_0 != 0) = true := bne_iff_ne.mpr c22
              obtain ⟨ji23, hji23⟩ : ∃ j_ : Int, (mn 1073741824 (wrap64 (Int.tdiv a1_0 a0_0))) = j_ := ⟨_, rfl⟩
              replace H : (marlinspikeref06_Into.j1 kj2 ji23 a0_0 a0_1 a0_2 a1_0 a1_1 a1_2) = some r := by first | (rw [hji23] at H; exact H) | (simp only [hji23] at H ⊢; exact H)
              have hji23_ : (if (wrap64 (Int.tdiv a1_0 a0_0)) < 1073741824 then (wrap64 (Int.tdiv a1_0 a0_0)) else 1073741824) = ji23 := hji23
              have H' := Aside0.mk H
              clear H
              have hnb24 := NB151_150.out
              have hnc24 := NB150_151.out
              have hcz25_0 : wc.cell? ⟨gb151, 0, none⟩ = some (.int .i64 a1_0) := (blk_cell BK151.out 0).trans rfl
              have hcz25_1 : wc.cell? ⟨gb151, 1, none⟩ = some (.int .i64 a1_1) := (blk_cell BK151.out 1).trans rfl
              have hcz25_2 : wc.cell? ⟨gb151, 2, none⟩ = some (.int .i64 a1_2) := (blk_cell BK151.out 2).trans rfl
              have hfz25_0 := blk_frozen BK151.out 0
              have hfz25_1 := blk_frozen BK151.out 1
              have hfz25_2 := blk_frozen BK151.out 2
              have hcz26_0 : wc.cell? ⟨gb150, 0, none⟩ = some (.int .i64 a0_0) := (blk_cell BK150.out 0).trans rfl
              have hcz26_1 : wc.cell? ⟨gb150, 1, none⟩ = some (.int .i64 a0_1) := (blk_cell BK150.out 1).trans rfl
              have hcz26_2 : wc.cell? ⟨gb150, 2, none⟩ = some (.int .i64 a0_2) := (blk_cell BK150.out 2).trans rfl
              have hfz26_0 := blk_frozen BK150.out 0
              have hfz26_1 := blk_frozen BK150.out 1
              have hfz26_2 := blk_frozen BK150.out 2
              go_wp2
              go_meet
              case rel => exact ⟨_, (ji23), (by first | rfl | (simp; done) | (simp only [← hji23] <;> (first | rfl | simp)) | (simp [*]; done)), H', ⟨by have := HJ2.out; first | omega | exact Nat.le_refl _⟩, ⟨by (with_reducible repeat (first | refine blk_drewN ?_ _ | refine blk_drew ?_ | refine blk_alloc ?_ _)); exact BK150.out⟩, ⟨by (with_reducible repeat (first | refine blk_drewN ?_ _ | refine blk_drew ?_ | refine blk_alloc ?_ _)); exact BK151.out⟩, ⟨by repeat (first | (with_reducible first | exact HB.out | apply below_alloc | apply pw_below_drewN | apply below_drew1 | refine below_set ?_ GE150.out | refine below_set ?_ GE151.out) | exact HB.out)⟩⟩
          · rw [if_neg c21] at H
            have c21b0 : decide (0 < a0_0) = false := decide_eq_false c21
            clear c21
            (first | rw [c21b0] | (simp only [i64_w, i32_w]; rw [c21b0]) | skip)
            have H' := Aside0.mk H
            clear H
            go_wp2
            go_meet
            case rel => exact ⟨_, (1073741824), (by first | rfl | (simp; done) | (simp [*]; done) | (simp [wrap64]; done)), H', ⟨by have := HJ2.out; first | omega | exact Nat.le_refl _⟩, ⟨by (with_reducible repeat (first | refine blk_drewN ?_ _ | refine blk_drew ?_ | refine blk_alloc ?_ _)); exact BK150.out⟩, ⟨by (with_reducible repeat (first | refine blk_drewN ?_ _ | refine blk_drew ?_ | refine blk_alloc ?_ _)); exact BK151.out⟩, ⟨by repeat (first | (with_reducible first | exact HB.out | apply below_alloc | apply pw_below_drewN | apply below_drew1 | refine below_set ?_ GE150.out | refine below_set ?_ GE151.out) | exact HB.out)⟩⟩
        case rest =>
          clear HC18
          try clear c1
          try clear c2
          try clear p2
          try clear p6
          try clear c7
          try clear c9
          try clear c14
          try clear c16
          try clear c17
          try clear c19
          try clear c20
          try clear c21
          try clear c21b0
          try clear c22
          try clear c22b0
          try clear c22b1
          try clear c24
          try clear hcz10_0
          try clear hcz10_1
          try clear hcz10_2
          try clear hcz12_0
          try clear hcz12_1
          try clear hcz12_2
          try clear hcz15_0
          try clear hcz15_1
          try clear hcz15_2
          try clear hcz20_0
          try clear hcz20_1
          try clear hcz20_2
          try clear hcz25_0
          try clear hcz25_1
          try clear hcz25_2
          try clear hcz26_0
          try clear hcz26_1
          try clear hcz26_2
          try clear hfz10_0
          try clear hfz10_1
          try clear hfz10_2
          try clear hfz12_0
          try clear hfz12_1
          try clear hfz12_2
          try clear hfz15_0
          try clear hfz15_1
          try clear hfz15_2
          try clear hfz20_0
          try clear hfz20_1
          try clear hfz20_2
          try clear hfz25_0
          try clear hfz25_1
          try clear hfz25_2
          try clear hfz26_0
          try clear hfz26_1
          try clear hfz26_2
          try clear p2
          obtain ⟨kq, x5_17, rfl, HA, HJ17, BK150, BK151, HB⟩ := hcut
          cases kq with
          | zero => exact absurd HA.out (by simp [marlinspikeref06_Into.j1])
          | succ kj17 =>
            have H := HA.out
            clear HA
            simp only [marlinspikeref06_Into.j1] at H
            by_cases c27 : a0_1 > 0
            · rw [if_pos c27] at H
              have c27b0 : decide (0 < a0_1) = true := decide_eq_true c27
              clear c27
              by_cases c28 : a0_1 = 0
              · rw [if_pos c28] at H
                exact absurd H (by simp)
              · rw [if_neg c28] at H
                have c28b0 : (a0_1 == 0) = false := beq_eq_false_iff_ne.mpr c28
                have c28b1 : (a0_1 != 0) = true := bne_iff_ne.mpr c28
                obtain ⟨ji29, hji29⟩ : ∃ j_ : Int, (mn x5_17 (wrap64 (Int.tdiv a1_1 a0_1))) = j_ := ⟨_, rfl⟩
                replace H : (if a0_2 > 0 then (if a0_2 = 0 then (none) else (some (mn (ji29) (wrap64 (Int.tdiv a1_2 a0_2))))) else (some ji29)) = some r := by first | (rw [hji29] at H; exact H) | (simp only [hji29] at H ⊢; exact H)
                have hji29_ : (if (wrap64 (Int.tdiv a1_1 a0_1)) < x5_17 then (wrap64 (Int.tdiv a1_1 a0_1)) else x5_17) = ji29 := hji29
                by_cases c30 : a0_2 > 0
                · rw [if_pos c30] at H
                  have c30b0 : decide (0 < a0_2) = true := decide_eq_true c30
                  clear c30
                  by_cases c31 : a0_2 = 0
                  · rw [if_pos c31] at H
                    exact absurd H (by simp)
                  · rw [if_neg c31] at H
                    have c31b0 : (a0_2 == 0) = false := beq_eq_false_iff_ne.mpr c31
                    have c31b1 : (a0_2 != 0) = true := bne_iff_ne.mpr c31
                    obtain ⟨ji32, hji32⟩ : ∃ j_ : Int, (mn (ji29) (wrap64 (Int.tdiv a1_2 a0_2))) = j_ := ⟨_, rfl⟩
                    replace H : (some ji32) = some r := by first | (rw [hji32] at H; exact H) | (simp only [hji32] at H ⊢; exact H)
                    have hji32_ : (if (wrap64 (Int.tdiv a1_2 a0_2)) < (ji29) then (wrap64 (Int.tdiv a1_2 a0_2)) else (ji29)) = ji32 := hji32
                    obtain rfl := Option.some.inj H
                    have hnb33 := NB150_151.out
                    have hnc33 := NB151_150.out
                    have hcz34_0 : wc.cell? ⟨gb150, 0, none⟩ = some (.int .i64 a0_0) := (blk_cell BK150.out 0).trans rfl
                    have hcz34_1 : wc.cell? ⟨gb150, 1, none⟩ = some (.int .i64 a0_1) := (blk_cell BK150.out 1).trans rfl
                    have hcz34_2 : wc.cell? ⟨gb150, 2, none⟩ = some (.int .i64 a0_2) := (blk_cell BK150.out 2).trans rfl
                    have hfz34_0 := blk_frozen BK150.out 0
                    have hfz34_1 := blk_frozen BK150.out 1
                    have hfz34_2 := blk_frozen BK150.out 2
                    have hcz35_0 : wc.cell? ⟨gb151, 0, none⟩ = some (.int .i64 a1_0) := (blk_cell BK151.out 0).trans rfl
                    have hcz35_1 : wc.cell? ⟨gb151, 1, none⟩ = some (.int .i64 a1_1) := (blk_cell BK151.out 1).trans rfl
                    have hcz35_2 : wc.cell? ⟨gb151, 2, none⟩ = some (.int .i64 a1_2) := (blk_cell BK151.out 2).trans rfl
                    have hfz35_0 := blk_frozen BK151.out 0
                    have hfz35_1 := blk_frozen BK151.out 1
                    have hfz35_2 := blk_frozen BK151.out 2
                    go_wp2
                    go_ret
                    exact ⟨by first | rfl | (simp [errW_none, errW_some] <;> rfl) | (simp only [← hji29, ← hji32]; first | rfl | (simp [errW_none, errW_some] <;> rfl)) | (simp [*, errW_none, errW_some] <;> rfl), by repeat (first | (with_reducible first | exact HB.out | apply below_alloc | apply pw_below_drewN | apply below_drew1 | refine below_set ?_ GE150.out | refine below_set ?_ GE151.out) | exact HB.out)⟩
                · rw [if_neg c30] at H
                  have c30b0 : decide (0 < a0_2) = false := decide_eq_false c30
                  clear c30
                  obtain rfl := Option.some.inj H
                  have hnb36 := NB150_151.out
                  have hnc36 := NB151_150.out
                  have hcz37_0 : wc.cell? ⟨gb150, 0, none⟩ = some (.int .i64 a0_0) := (blk_cell BK150.out 0).trans rfl
                  have hcz37_1 : wc.cell? ⟨gb150, 1, none⟩ = some (.int .i64 a0_1) := (blk_cell BK150.out 1).trans rfl
                  have hcz37_2 : wc.cell? ⟨gb150, 2, none⟩ = some (.int .i64 a0_2) := (blk_cell BK150.out 2).trans rfl
                  have hfz37_0 := blk_frozen BK150.out 0
                  have hfz37_1 := blk_frozen BK150.out 1
                  have hfz37_2 := blk_frozen BK150.out 2
                  have hcz38_0 : wc.cell? ⟨gb151, 0, none⟩ = some (.int .i64 a1_0) := (blk_cell BK151.out 0).trans rfl
                  have hcz38_1 : wc.cell? ⟨gb151, 1, none⟩ = some (.int .i64 a1_1) := (blk_cell BK151.out 1).trans rfl
                  have hcz38_2 : wc.cell? ⟨gb151, 2, none⟩ = some (.int .i64 a1_2) := (blk_cell BK151.out 2).trans rfl
                  have hfz38_0 := blk_frozen BK151.out 0
                  have hfz38_1 := blk_frozen BK151.out 1
                  have hfz38_2 := blk_frozen BK151.out 2
                  go_wp2
                  go_ret
                  exact ⟨by first | rfl | (simp [errW_none, errW_some] <;> rfl) | (simp only [← hji29]; first | rfl | (simp [errW_none, errW_some] <;> rfl)) | (simp [*, errW_none, errW_some] <;> rfl), by repeat (first | (with_reducible first | exact HB.out | apply below_alloc | apply pw_below_drewN | apply below_drew1 | refine below_set ?_ GE150.out | refine below_set ?_ GE151.out) | exact HB.out)⟩
            · rw [if_neg c27] at H
              have c27b0 : decide (0 < a0_1) = false := decide_eq_false c27
              clear c27
              by_cases c39 : a0_2 > 0
              · rw [if_pos c39] at H
                have c39b0 : decide (0 < a0_2) = true := decide_eq_true c39
                clear c39
                by_cases c40 : a0_2 = 0
                · rw [if_pos c40] at H
                  exact absurd H (by simp)
                · rw [if_neg c40] at H
                  have c40b0 : (a0_2 == 0) = false := beq_eq_false_iff_ne.mpr c40
                  have c40b1 : (a0_2 != 0) = true := bne_iff_ne.mpr c40
                  obtain ⟨ji41, hji41⟩ : ∃ j_ : Int, (mn x5_17 (wrap64 (Int.tdiv a1_2 a0_2))) = j_ := ⟨_, rfl⟩
                  replace H : (some ji41) = some r := by first | (rw [hji41] at H; exact H) | (simp only [hji41] at H ⊢; exact H)
                  have hji41_ : (if (wrap64 (Int.tdiv a1_2 a0_2)) < x5_17 then (wrap64 (Int.tdiv a1_2 a0_2)) else x5_17) = ji41 := hji41
                  obtain rfl := Option.some.inj H
                  have hnb42 := NB150_151.out
                  have hnc42 := NB151_150.out
                  have hcz43_0 : wc.cell? ⟨gb150, 0, none⟩ = some (.int .i64 a0_0) := (blk_cell BK150.out 0).trans rfl
                  have hcz43_1 : wc.cell? ⟨gb150, 1, none⟩ = some (.int .i64 a0_1) := (blk_cell BK150.out 1).trans rfl
                  have hcz43_2 : wc.cell? ⟨gb150, 2, none⟩ = some (.int .i64 a0_2) := (blk_cell BK150.out 2).trans rfl
                  have hfz43_0 := blk_frozen BK150.out 0
                  have hfz43_1 := blk_frozen BK150.out 1
                  have hfz43_2 := blk_frozen BK150.out 2
                  have hcz44_0 : wc.cell? ⟨gb151, 0, none⟩ = some (.int .i64 a1_0) := (blk_cell BK151.out 0).trans rfl
                  have hcz44_1 : wc.cell? ⟨gb151, 1, none⟩ = some (.int .i64 a1_1) := (blk_cell BK151.out 1).trans rfl
                  have hcz44_2 : wc.cell? ⟨gb151, 2, none⟩ = some (.int .i64 a1_2) := (blk_cell BK151.out 2).trans rfl
                  have hfz44_0 := blk_frozen BK151.out 0
                  have hfz44_1 := blk_frozen BK151.out 1
                  have hfz44_2 := blk_frozen BK151.out 2
                  go_wp2
                  go_ret
                  exact ⟨by first | rfl | (simp [errW_none, errW_some] <;> rfl) | (simp only [← hji41]; first | rfl | (simp [errW_none, errW_some] <;> rfl)) | (simp [*, errW_none, errW_some] <;> rfl), by repeat (first | (with_reducible first | exact HB.out | apply below_alloc | apply pw_below_drewN | apply below_drew1 | refine below_set ?_ GE150.out | refine below_set ?_ GE151.out) | exact HB.out)⟩
              · rw [if_neg c39] at H
                have c39b0 : decide (0 < a0_2) = false := decide_eq_false c39
                clear c39
                obtain rfl := Option.some.inj H
                have hnb45 := NB150_151.out
                have hnc45 := NB151_150.out
                have hcz46_0 : wc.cell? ⟨gb150, 0, none⟩ = some (.int .i64 a0_0) := (blk_cell BK150.out 0).trans rfl
                have hcz46_1 : wc.cell? ⟨gb150, 1, none⟩ = some (.int .i64 a0_1) := (blk_cell BK150.out 1).trans rfl
                have hcz46_2 : wc.cell? ⟨gb150, 2, none⟩ = some (.int .i64 a0_2) := (blk_cell BK150.out 2).trans rfl
                have hfz46_0 := blk_frozen BK150.out 0
                have hfz46_1 := blk_frozen BK150.out 1
                have hfz46_2 := blk_frozen BK150.out 2
                go_wp2
                go_ret
                exact ⟨by first | rfl | (simp [errW_none, errW_some] <;> rfl) | (simp [*, errW_none, errW_some] <;> rfl), by repeat (first | (with_reducible first | exact HB.out | apply below_alloc | apply pw_below_drewN | apply below_drew1 | refine below_set ?_ GE150.out | refine below_set ?_ GE151.out) | exact HB.out)⟩
def marlinspikeref06_Less.f (a0_0 : Int) (a0_1 : Int) (a0_2 : Int) (a1_0 : Int) (a1_1 : Int) (a1_2 : Int) : Option (Bool) := if a0_0 = a1_0 then (if a0_1 = a1_1 then (some (decide (a0_2 < a1_2))) else (some (decide (a0_1 < a1_1)))) else (some (decide (a0_0 < a1_0)))
set_option maxHeartbeats 8000000 in
set_option maxRecDepth 100000 in
theorem marlinspikeref06_Less.calls (a0_0 : Int) (a0_1 : Int) (a0_2 : Int) (a1_0 : Int) (a1_1 : Int) (a1_2 : Int) (r : Bool) (w : World) (h : marlinspikeref06_Less.f a0_0 a0_1 a0_2 a1_0 a1_1 a1_2 = some r) :
    Calls Tryd.prog 22 #[.agg #[.int .i64 a0_0, .int .i64 a0_1, .int .i64 a0_2], .agg #[.int .i64 a1_0, .int .i64 a1_1, .int .i64 a1_2]] w fun e w' => e = .returned (.bool r) ∧ Below w.heap.size w w' := by
  have hu23 := Tryd.underlying23
  have HB := Aside0.mk (Below.refl w.heap.size w)
  have H : (if a0_0 = a1_0 then (if a0_1 = a1_1 then (some (decide (a0_2 < a1_2))) else (some (decide (a0_1 < a1_1)))) else (some (decide (a0_0 < a1_0)))) = some r := h
  clear h
  by_cases c3 : a0_0 = a1_0
  · rw [if_pos c3] at H
    have c3b0 : (a0_0 == a1_0) = true := beq_iff_eq.mpr c3
    have c3b1 : (a0_0 != a1_0) = false := bne_eq_false_iff_eq.mpr c3
    clear c3
    by_cases c4 : a0_1 = a1_1
    · rw [if_pos c4] at H
      have c4b0 : (a0_1 == a1_1) = true := beq_iff_eq.mpr c4
      have c4b1 : (a0_1 != a1_1) = false := bne_eq_false_iff_eq.mpr c4
      clear c4
      obtain rfl := Option.some.inj H
      go_enter Tryd.func22, Tryd.ntmps22
      go_wp2_with (first | ((with_reducible refine gate_dst (N := 2) rfl ?_); refine box_event ?hg (N := 2) ?hd (cs := #[.int .i64 a0_0, .int .i64 a0_1, .int .i64 a0_2]) (t := 23) ?hr ?_; (case hd => rfl); (case hg => rfl); (case hr => first | (go_simp; done) | (go_simp; rfl)); intro gb154 hg w5 hbox hb; have n0_ := Aside0.mk (below_step (by repeat (first | (with_reducible first | exact HB.out | apply below_alloc | apply pw_below_drewN | apply below_drew1) | exact HB.out)) hb); have n1_ := Aside0.mk (hbox); have n2_ := Aside0.mk ((by rw [hg]; exact (below_size (by repeat (first | (with_reducible first | exact HB.out | apply below_alloc | apply pw_below_drewN | apply below_drew1) | exact HB.out))) : w.heap.size ≤ gb154)); have n3_ := Aside0.mk ((by rw [hg]; exact (below_size (by repeat (first | (with_reducible first | exact HB.out | apply below_alloc | apply pw_below_drewN | apply below_drew1) | exact HB.out))) : w.heap.size ≤ gb154)); clear HB; have HB := n0_; have BK154 := n1_; have GW154 := n2_; have GE154 := n3_; clear n0_ n1_ n2_ n3_; clear hb hbox hg) | ((with_reducible refine gate_dst (N := 3) rfl ?_); refine box_event ?hg (N := 3) ?hd (cs := #[.int .i64 a1_0, .int .i64 a1_1, .int .i64 a1_2]) (t := 23) ?hr ?_; (case hd => rfl); (case hg => rfl); (case hr => first | (go_simp; done) | (go_simp; rfl)); intro gb155 hg w6 hbox hb; have n0_ := Aside0.mk (blk_below (g := gb154) (o := .cells #[.int .i64 a0_0, .int .i64 a0_1, .int .i64 a0_2] 23 (0, 0)) (by (with_reducible repeat (first | refine blk_drewN ?_ _ | refine blk_drew ?_ | refine blk_alloc ?_ _)); exact BK154.out) hb); have n1_ := Aside0.mk (below_step (by repeat (first | (with_reducible first | exact HB.out | apply below_alloc | apply pw_below_drewN | apply below_drew1 | refine below_set ?_ GE154.out) | exact HB.out)) hb); have n2_ := Aside0.mk (hbox); have n3_ := Aside0.mk ((by rw [hg]; exact (below_size (by repeat (first | (with_reducible first | exact HB.out | apply below_alloc | apply pw_below_drewN | apply below_drew1 | refine below_set ?_ GE154.out) | exact HB.out))) : w.heap.size ≤ gb155)); have n4_ := Aside0.mk ((by rw [hg]; exact (below_size (by repeat (first | (with_reducible first | exact HB.out | apply below_alloc | apply pw_below_drewN | apply below_drew1 | refine below_set ?_ GE154.out) | exact HB.out))) : w.heap.size ≤ gb155)); have n5_ := Aside0.mk ((by rw [hg]; exact Nat.ne_of_lt (blk_lt (g := gb154) (o := .cells #[.int .i64 a0_0, .int .i64 a0_1, .int .i64 a0_2] 23 (0, 0)) (by (with_reducible repeat (first | refine blk_drewN ?_ _ | refine blk_drew ?_ | refine blk_alloc ?_ _)); exact BK154.out)) : gb154 ≠ gb155)); have n6_ := Aside0.mk ((by rw [hg]; exact Nat.ne_of_gt (blk_lt (g := gb154) (o := .cells #[.int .i64 a0_0, .int .i64 a0_1, .int .i64 a0_2] 23 (0, 0)) (by (with_reducible repeat (first | refine blk_drewN ?_ _ | refine blk_drew ?_ | refine blk_alloc ?_ _)); exact BK154.out)) : gb155 ≠ gb154)); clear BK154; clear HB; have BK154 := n0_; have HB := n1_; have BK155 := n2_; have GW155 := n3_; have GE155 := n4_; have NB154_155 := n5_; have NB155_154 := n6_; clear n0_ n1_ n2_ n3_ n4_ n5_ n6_; clear hb hbox hg; have hnb7 := NB154_155.out; have hnc7 := NB155_154.out; have hcz8_0 : w6.cell? ⟨gb154, 0, none⟩ = some (.int .i64 a0_0) := (blk_cell BK154.out 0).trans rfl; have hcz8_1 : w6.cell? ⟨gb154, 1, none⟩ = some (.int .i64 a0_1) := (blk_cell BK154.out 1).trans rfl; have hcz8_2 : w6.cell? ⟨gb154, 2, none⟩ = some (.int .i64 a0_2) := (blk_cell BK154.out 2).trans rfl; have hfz8_0 := blk_frozen BK154.out 0; have hfz8_1 := blk_frozen BK154.out 1; have hfz8_2 := blk_frozen BK154.out 2; have hcz9_0 : w6.cell? ⟨gb155, 0, none⟩ = some (.int .i64 a1_0) := (blk_cell BK155.out 0).trans rfl; have hcz9_1 : w6.cell? ⟨gb155, 1, none⟩ = some (.int .i64 a1_1) := (blk_cell BK155.out 1).trans rfl; have hcz9_2 : w6.cell? ⟨gb155, 2, none⟩ = some (.int .i64 a1_2) := (blk_cell BK155.out 2).trans rfl; have hfz9_0 := blk_frozen BK155.out 0; have hfz9_1 := blk_frozen BK155.out 1; have hfz9_2 := blk_frozen BK155.out 2))
      go_ret
      exact ⟨by first | rfl | (simp [errW_none, errW_some] <;> rfl) | (simp [*, errW_none, errW_some] <;> rfl), by repeat (first | (with_reducible first | exact HB.out | apply below_alloc | apply pw_below_drewN | apply below_drew1 | refine below_set ?_ GE154.out | refine below_set ?_ GE155.out) | exact HB.out)⟩
    · rw [if_neg c4] at H
      have c4b0 : (a0_1 == a1_1) = false := beq_eq_false_iff_ne.mpr c4
      have c4b1 : (a0_1 != a1_1) = true := bne_iff_ne.mpr c4
      obtain rfl := Option.some.inj H
      go_enter Tryd.func22, Tryd.ntmps22
      go_wp2_with (first | ((with_reducible refine gate_dst (N := 2) rfl ?_); refine box_event ?hg (N := 2) ?hd (cs := #[.int .i64 a0_0, .int .i64 a0_1, .int .i64 a0_2]) (t := 23) ?hr ?_; (case hd => rfl); (case hg => rfl); (case hr => first | (go_simp; done) | (go_simp; rfl)); intro gb154 hg w10 hbox hb; have n0_ := Aside0.mk (below_step (by repeat (first | (with_reducible first | exact HB.out | apply below_alloc | apply pw_below_drewN | apply below_drew1) | exact HB.out)) hb); have n1_ := Aside0.mk (hbox); have n2_ := Aside0.mk ((by rw [hg]; exact (below_size (by repeat (first | (with_reducible first | exact HB.out | apply below_alloc | apply pw_below_drewN | apply below_drew1) | exact HB.out))) : w.heap.size ≤ gb154)); have n3_ := Aside0.mk ((by rw [hg]; exact (below_size (by repeat (first | (with_reducible first | exact HB.out | apply below_alloc | apply pw_below_drewN | apply below_drew1) | exact HB.out))) : w.heap.size ≤ gb154)); clear HB; have HB := n0_; have BK154 := n1_; have GW154 := n2_; have GE154 := n3_; clear n0_ n1_ n2_ n3_; clear hb hbox hg) | ((with_reducible refine gate_dst (N := 3) rfl ?_); refine box_event ?hg (N := 3) ?hd (cs := #[.int .i64 a1_0, .int .i64 a1_1, .int .i64 a1_2]) (t := 23) ?hr ?_; (case hd => rfl); (case hg => rfl); (case hr => first | (go_simp; done) | (go_simp; rfl)); intro gb155 hg w11 hbox hb; have n0_ := Aside0.mk (blk_below (g := gb154) (o := .cells #[.int .i64 a0_0, .int .i64 a0_1, .int .i64 a0_2] 23 (0, 0)) (by (with_reducible repeat (first | refine blk_drewN ?_ _ | refine blk_drew ?_ | refine blk_alloc ?_ _)); exact BK154.out) hb); have n1_ := Aside0.mk (below_step (by repeat (first | (with_reducible first | exact HB.out | apply below_alloc | apply pw_below_drewN | apply below_drew1 | refine below_set ?_ GE154.out) | exact HB.out)) hb); have n2_ := Aside0.mk (hbox); have n3_ := Aside0.mk ((by rw [hg]; exact (below_size (by repeat (first | (with_reducible first | exact HB.out | apply below_alloc | apply pw_below_drewN | apply below_drew1 | refine below_set ?_ GE154.out) | exact HB.out))) : w.heap.size ≤ gb155)); have n4_ := Aside0.mk ((by rw [hg]; exact (below_size (by repeat (first | (with_reducible first | exact HB.out | apply below_alloc | apply pw_below_drewN | apply below_drew1 | refine below_set ?_ GE154.out) | exact HB.out))) : w.heap.size ≤ gb155)); have n5_ := Aside0.mk ((by rw [hg]; exact Nat.ne_of_lt (blk_lt (g := gb154) (o := .cells #[.int .i64 a0_0, .int .i64 a0_1, .int .i64 a0_2] 23 (0, 0)) (by (with_reducible repeat (first | refine blk_drewN ?_ _ | refine blk_drew ?_ | refine blk_alloc ?_ _)); exact BK154.out)) : gb154 ≠ gb155)); have n6_ := Aside0.mk ((by rw [hg]; exact Nat.ne_of_gt (blk_lt (g := gb154) (o := .cells #[.int .i64 a0_0, .int .i64 a0_1, .int .i64 a0_2] 23 (0, 0)) (by (with_reducible repeat (first | refine blk_drewN ?_ _ | refine blk_drew ?_ | refine blk_alloc ?_ _)); exact BK154.out)) : gb155 ≠ gb154)); clear BK154; clear HB; have BK154 := n0_; have HB := n1_; have BK155 := n2_; have GW155 := n3_; have GE155 := n4_; have NB154_155 := n5_; have NB155_154 := n6_; clear n0_ n1_ n2_ n3_ n4_ n5_ n6_; clear hb hbox hg; have hnb12 := NB154_155.out; have hnc12 := NB155_154.out; have hcz13_0 : w11.cell? ⟨gb154, 0, none⟩ = some (.int .i64 a0_0) := (blk_cell BK154.out 0).trans rfl; have hcz13_1 : w11.cell? ⟨gb154, 1, none⟩ = some (.int .i64 a0_1) := (blk_cell BK154.out 1).trans rfl; have hcz13_2 : w11.cell? ⟨gb154, 2, none⟩ = some (.int .i64 a0_2) := (blk_cell BK154.out 2).trans rfl; have hfz13_0 := blk_frozen BK154.out 0; have hfz13_1 := blk_frozen BK154.out 1; have hfz13_2 := blk_frozen BK154.out 2; have hcz14_0 : w11.cell? ⟨gb155, 0, none⟩ = some (.int .i64 a1_0) := (blk_cell BK155.out 0).trans rfl; have hcz14_1 : w11.cell? ⟨gb155, 1, none⟩ = some (.int .i64 a1_1) := (blk_cell BK155.out 1).trans rfl; have hcz14_2 : w11.cell? ⟨gb155, 2, none⟩ = some (.int .i64 a1_2) := (blk_cell BK155.out 2).trans rfl; have hfz14_0 := blk_frozen BK155.out 0; have hfz14_1 := blk_frozen BK155.out 1; have hfz14_2 := blk_frozen BK155.out 2))
      go_ret
      exact ⟨by first | rfl | (simp [errW_none, errW_some] <;> rfl) | (simp [*, errW_none, errW_some] <;> rfl), by repeat (first | (with_reducible first | exact HB.out | apply below_alloc | apply pw_below_drewN | apply below_drew1 | refine below_set ?_ GE154.out | refine below_set ?_ GE155.out) | exact HB.out)⟩
  · rw [if_neg c3] at H
    have c3b0 : (a0_0 == a1_0) = false := beq_eq_false_iff_ne.mpr c3
    have c3b1 : (a0_0 != a1_0) = true := bne_iff_ne.mpr c3
    obtain rfl := Option.some.inj H
    go_enter Tryd.func22, Tryd.ntmps22
    go_wp2_with (first | ((with_reducible refine gate_dst (N := 2) rfl ?_); refine box_event ?hg (N := 2) ?hd (cs := #[.int .i64 a0_0, .int .i64 a0_1, .int .i64 a0_2]) (t := 23) ?hr ?_; (case hd => rfl); (case hg => rfl); (case hr => first | (go_simp; done) | (go_simp; rfl)); intro gb154 hg w15 hbox hb; have n0_ := Aside0.mk (below_step (by repeat (first | (with_reducible first | exact HB.out | apply below_alloc | apply pw_below_drewN | apply below_drew1) | exact HB.out)) hb); have n1_ := Aside0.mk (hbox); have n2_ := Aside0.mk ((by rw [hg]; exact (below_size (by repeat (first | (with_reducible first | exact HB.out | apply below_alloc | apply pw_below_drewN | apply below_drew1) | exact HB.out))) : w.heap.size ≤ gb154)); have n3_ := Aside0.mk ((by rw [hg]; exact (below_size (by repeat (first | (with_reducible first | exact HB.out | apply below_alloc | apply pw_below_drewN | apply below_drew1) | exact HB.out))) : w.heap.size ≤ gb154)); clear HB; have HB := n0_; have BK154 := n1_; have GW154 := n2_; have GE154 := n3_; clear n0_ n1_ n2_ n3_; clear hb hbox hg) | ((with_reducible refine gate_dst (N := 3) rfl ?_); refine box_event ?hg (N := 3) ?hd (cs := #[.int .i64 a1_0, .int .i64 a1_1, .int .i64 a1_2]) (t := 23) ?hr ?_; (case hd => rfl); (case hg => rfl); (case hr => first | (go_simp; done) | (go_simp; rfl)); intro gb155 hg w16 hbox hb; have n0_ := Aside0.mk (blk_below (g := gb154) (o := .cells #[.int .i64 a0_0, .int .i64 a0_1, .int .i64 a0_2] 23 (0, 0)) (by (with_reducible repeat (first | refine blk_drewN ?_ _ | refine blk_drew ?_ | refine blk_alloc ?_ _)); exact BK154.out) hb); have n1_ := Aside0.mk (below_step (by repeat (first | (with_reducible first | exact HB.out | apply below_alloc | apply pw_below_drewN | apply below_drew1 | refine below_set ?_ GE154.out) | exact HB.out)) hb); have n2_ := Aside0.mk (hbox); have n3_ := Aside0.mk ((by rw [hg]; exact (below_size (by repeat (first | (with_reducible first | exact HB.out | apply below_alloc | apply pw_below_drewN | apply below_drew1 | refine below_set ?_ GE154.out) | exact HB.out))) : w.heap.size ≤ gb155)); have n4_ := Aside0.mk ((by rw [hg]; exact (below_size (by repeat (first | (with_reducible first | exact HB.out | apply below_alloc | apply pw_below_drewN | apply below_drew1 | refine below_set ?_ GE154.out) | exact HB.out))) : w.heap.size ≤ gb155)); have n5_ := Aside0.mk ((by rw [hg]; exact Nat.ne_of_lt (blk_lt (g := gb154) (o := .cells #[.int .i64 a0_0, .int .i64 a0_1, .int .i64 a0_2] 23 (0, 0)) (by (with_reducible repeat (first | refine blk_drewN ?_ _ | refine blk_drew ?_ | refine blk_alloc ?_ _)); exact BK154.out)) : gb154 ≠ gb155)); have n6_ := Aside0.mk ((by rw [hg]; exact Nat.ne_of_gt (blk_lt (g := gb154) (o := .cells #[.int .i64 a0_0, .int .i64 a0_1, .int .i64 a0_2] 23 (0, 0)) (by (with_reducible repeat (first | refine blk_drewN ?_ _ | refine blk_drew ?_ | refine blk_alloc ?_ _)); exact BK154.out)) : gb155 ≠ gb154)); clear BK154; clear HB; have BK154 := n0_; have HB := n1_; have BK155 := n2_; have GW155 := n3_; have GE155 := n4_; have NB154_155 := n5_; have NB155_154 := n6_; clear n0_ n1_ n2_ n3_ n4_ n5_ n6_; clear hb hbox hg; have hnb17 := NB154_155.out; have hnc17 := NB155_154.out; have hcz18_0 : w16.cell? ⟨gb154, 0, none⟩ = some (.int .i64 a0_0) := (blk_cell BK154.out 0).trans rfl; have hcz18_1 : w16.cell? ⟨gb154, 1, none⟩ = some (.int .i64 a0_1) := (blk_cell BK154.out 1).trans rfl; have hcz18_2 : w16.cell? ⟨gb154, 2, none⟩ = some (.int .i64 a0_2) := (blk_cell BK154.out 2).trans rfl; have hfz18_0 := blk_frozen BK154.out 0; have hfz18_1 := blk_frozen BK154.out 1; have hfz18_2 := blk_frozen BK154.out 2; have hcz19_0 : w16.cell? ⟨gb155, 0, none⟩ = some (.int .i64 a1_0) := (blk_cell BK155.out 0).trans rfl; have hcz19_1 : w16.cell? ⟨gb155, 1, none⟩ = some (.int .i64 a1_1) := (blk_cell BK155.out 1).trans rfl; have hcz19_2 : w16.cell? ⟨gb155, 2, none⟩ = some (.int .i64 a1_2) := (blk_cell BK155.out 2).trans rfl; have hfz19_0 := blk_frozen BK155.out 0; have hfz19_1 := blk_frozen BK155.out 1; have hfz19_2 := blk_frozen BK155.out 2))
    go_ret
    exact ⟨by first | rfl | (simp [errW_none, errW_some] <;> rfl) | (simp [*, errW_none, errW_some] <;> rfl), by repeat (first | (with_reducible first | exact HB.out | apply below_alloc | apply pw_below_drewN | apply below_drew1 | refine below_set ?_ GE154.out | refine below_set ?_ GE155.out) | exact HB.out)⟩
end Go.Proofs.YtcpikafmclfcfaaDoor.PY
end
section
namespace Go.Proofs.YtcpikafmclfcfaaDoor.Vc
open Go.RowKit Go.Proofs.YtcpikafmclfcfaaDoorW.PrintWords Go.Proofs.YtcpikafmclfcfaaDoorW.PrintLast Go.Proofs.YtcpikafmclfcfaaDoorW.PrintMore Go.Proofs.YtcpikafmclfcfaaDoor.PV Go.Proofs.YtcpikafmclfcfaaDoor.Vl
set_option linter.unusedVariables false
set_option linter.unusedSimpArgs false
def fitsB (a b c x y z : Int) : Bool := decide (a ≤ x) && decide (b ≤ y) && decide (c ≤ z)
theorem fitsB_k (a b c x y z : Int) : fitsB a b c x y z = true ↔ ∀ k, k < 3 → pt a b c k ≤ pt x y z k := by
  simp only [fitsB, Bool.and_eq_true, decide_eq_true_eq]
  constructor
  · rintro ⟨⟨h0, h1⟩, h2⟩ k hk
    have : k = 0 ∨ k = 1 ∨ k = 2 := by omega
    rcases this with rfl | rfl | rfl <;> assumption
  · intro h
    exact ⟨⟨h 0 (by omega), h 1 (by omega)⟩, h 2 (by omega)⟩
theorem keep3 {W : World} {n m : Nat} {o : Obj} (h : W.heap[m]? = some o) (hne : m ≠ n) (u v s : Value) : (((W.setCell ⟨n, 0, none⟩ u).setCell ⟨n, 1, none⟩ v).setCell ⟨n, 2, none⟩ s).heap[m]? = some o := by
  rw [Below.heap_setCell _ ⟨n, 2, none⟩ _ m hne, Below.heap_setCell _ ⟨n, 1, none⟩ _ m hne, Below.heap_setCell _ ⟨n, 0, none⟩ _ m hne]; exact h
theorem put3 {W : World} {n : Nat} {x y z : Value} {t : TypeId} (h : W.heap[n]? = some (.cells #[x, y, z] t (0, 0))) (u v s : Value) : (((W.setCell ⟨n, 0, none⟩ u).setCell ⟨n, 1, none⟩ v).setCell ⟨n, 2, none⟩ s).heap[n]? = some (.cells #[u, v, s] t (0, 0)) :=
  blk_put (blk_put (blk_put h 0 _ rfl) 1 _ rfl) 2 _ rfl
theorem below3 {w W : World} {n : Nat} (h : Below w.heap.size w W) (hn : w.heap.size ≤ n) (u v s : Value) : Below w.heap.size w (((W.setCell ⟨n, 0, none⟩ u).setCell ⟨n, 1, none⟩ v).setCell ⟨n, 2, none⟩ s) :=
  ((h.setCell (p := ⟨n, 0, none⟩) hn _).setCell (p := ⟨n, 1, none⟩) hn _).setCell (p := ⟨n, 2, none⟩) hn _
set_option maxHeartbeats 8000000 in
set_option maxRecDepth 100000 in
theorem Fits_calls (a b c x y z : Int) (w : World) : Calls Tryd.prog 17 #[vecV a b c, vecV x y z] w fun e w' => e = .returned (.bool (fitsB a b c x y z)) ∧ Below w.heap.size w w' := by
  have hu23 := Tryd.underlying23
  have hu51 := Tryd.underlying51
  go_enter Tryd.func17, Tryd.ntmps17
  go_wp2_with fail
  obtain ⟨w0, hw0⟩ : ∃ w0, (w.alloc (.cells #[.int .i64 a, .int .i64 b, .int .i64 c] 23)).alloc (.cells #[.int .i64 x, .int .i64 y, .int .i64 z] 23) = w0 := ⟨_, rfl⟩
  have HBa := Aside0.mk (below_alloc (below_alloc (Below.refl w.heap.size w) (.cells #[.int .i64 a, .int .i64 b, .int .i64 c] 23)) (.cells #[.int .i64 x, .int .i64 y, .int .i64 z] 23))
  have BVa := Aside0.mk (blk_alloc (blk_new w (.cells #[.int .i64 a, .int .i64 b, .int .i64 c] 23)) (.cells #[.int .i64 x, .int .i64 y, .int .i64 z] 23))
  have BWa := Aside0.mk (blk_new (w.alloc (.cells #[.int .i64 a, .int .i64 b, .int .i64 c] 23)) (.cells #[.int .i64 x, .int .i64 y, .int .i64 z] 23))
  rw [World.size_alloc] at BWa
  rw [hw0] at HBa BVa BWa ⊢
  clear hw0
  have HB0 := Aside0.mk (below_drew HBa.out)
  have BV := Aside0.mk (blk_drew BVa.out)
  have BW := Aside0.mk (blk_drew BWa.out)
  clear HBa BVa BWa
  refine start_ (n := 8) (S := fun w' => (w'.cell? ⟨w.heap.size, 0, none⟩ = some (.int .i64 a) ∧ w'.cell? ⟨w.heap.size, 1, none⟩ = some (.int .i64 b) ∧ w'.cell? ⟨w.heap.size, 2, none⟩ = some (.int .i64 c)) ∧ (w'.cell? ⟨w.heap.size + 1, 0, none⟩ = some (.int .i64 x) ∧ w'.cell? ⟨w.heap.size + 1, 1, none⟩ = some (.int .i64 y) ∧ w'.cell? ⟨w.heap.size + 1, 2, none⟩ = some (.int .i64 z))) (ds := []) #[false, false, false, false, false, false, false, false] (by kernel_rfl) rfl rfl ⟨cell3 BV.out, cell3 BW.out⟩ (fun hHeld => ?_)
  refine take_ (i := 0) (N := some 8) (v := ?_) (a' := ?_) #[true, false, false, false, false, false, false, false] rfl rfl (by kernel_rfl) (fun _ _ _ h => h) (Or.inl ⟨by rfl, ?_⟩) hHeld ?_ ?_
  rotate_left
  · rintro w' ⟨⟨s0, s1, s2⟩, ⟨s3, s4, s5⟩⟩
    go_simp
    with_reducible rfl
  rotate_left
  · simp only [Act.put, List.setIfInBounds_toArray, List.set_cons_zero, List.set_cons_succ, i64_w, i32_w]
    rfl
  refine take_ (i := 2) (N := some 10) (v := ?_) (a' := ?_) #[true, false, true, false, false, false, false, false] rfl rfl (by kernel_rfl) (fun _ _ _ h => h) (Or.inl ⟨by rfl, ?_⟩) hHeld ?_ ?_
  rotate_left
  · rintro w' ⟨⟨s0, s1, s2⟩, ⟨s3, s4, s5⟩⟩
    go_simp
    with_reducible rfl
  rotate_left
  · simp only [Act.put, List.setIfInBounds_toArray, List.set_cons_zero, List.set_cons_succ, i64_w, i32_w]
    rfl
  obtain ⟨wd, hwd⟩ : ∃ wd, w0.drew = wd := ⟨_, rfl⟩
  rw [hwd] at HB0 BV BW ⊢
  clear hwd
  refine join_ (σ := Nat × Nat) 2 #[true, true, true, true, true, true, false, false] (fun s => [(9, vecV a b c), (11, vecV x y z), (5, .pointer (some ⟨s.1, 0, none⟩)), (6, .pointer (some ⟨s.2, 0, none⟩))])
    (fun s w' => Aside0 (Below w.heap.size w w') ∧ Aside0 (s.1 ≠ s.2) ∧ Aside0 (w.heap.size + 1 < s.1) ∧ Aside0 (w.heap.size + 1 < s.2) ∧ Aside0 (w'.heap[s.1]? = some (.cells #[.int .i64 0, .int .i64 0, .int .i64 0] 51 (0, 0))) ∧ Aside0 (w'.heap[s.2]? = some (.cells #[.int .i64 0, .int .i64 0, .int .i64 0] 51 (0, 0))) ∧ Aside0 (w'.heap[w.heap.size]? = some (.cells #[.int .i64 a, .int .i64 b, .int .i64 c] 23 (0, 0))) ∧ Aside0 (w'.heap[w.heap.size + 1]? = some (.cells #[.int .i64 x, .int .i64 y, .int .i64 z] 23 (0, 0)))) ?_ ?_
  rotate_left
  · intro hJ
    refine three_ (i := 1) (j := 4) (k := 5) (Ni := some 9) (Nj := some 5) (Nk := some 6) #[true, true, true, false, false, false, false, false] #[true, false, true, false, true, false, false, false] #[true, false, true, false, false, true, false, false] rfl rfl rfl rfl rfl rfl (by kernel_rfl) (by decide) (by decide) (by decide) (fun K hK => ?_) (fun K hK => ?_) (fun K hK => ?_)
    · refine goes_ Tryd.func37 (by kernel_rfl) rfl #[vecV a b c] (by rfl) rfl rfl (by (try simp only [List.map_toArray, List.map_cons, List.map_nil]); first | done | rfl) ?_
      refine (parts_calls a b c _).mono ?_
      rintro e w1 ⟨rfl, hb⟩
      have HB1_ := Aside0.mk (below_then HB0.out HB0.out.size hb)
      have BV_1 := Aside0.mk (blk_below BV.out hb)
      have BW_1 := Aside0.mk (blk_below BW.out hb)
      clear hb
      refine ⟨_, rfl, ?_⟩
      refine hK.out _ _ ⟨cell3 BV_1.out, cell3 BW_1.out⟩ (fun hHeld => ?_)
      clear hK K
      refine norm_ (a' := ?_) ?_ ?_
      rotate_left
      · show Act.put _ (some 9) _ = _
        simp only [Act.put, List.setIfInBounds_toArray, List.set_cons_zero, List.set_cons_succ, i64_w, i32_w]
        rfl
      refine three_ (i := 3) (j := 4) (k := 5) (Ni := some 11) (Nj := some 5) (Nk := some 6) #[true, true, true, true, false, false, false, false] #[true, true, true, false, true, false, false, false] #[true, true, true, false, false, true, false, false] rfl rfl rfl rfl rfl rfl (by kernel_rfl) (by decide) (by decide) (by decide) (fun K hK => ?_) (fun K hK => ?_) (fun K hK => ?_)
      · refine goes_ Tryd.func37 (by kernel_rfl) rfl #[vecV x y z] (by rfl) rfl rfl (by (try simp only [List.map_toArray, List.map_cons, List.map_nil]); first | done | rfl) ?_
        refine (parts_calls x y z _).mono ?_
        rintro e w2 ⟨rfl, hb⟩
        have HB2_ := Aside0.mk (below_then HB1_.out HB1_.out.size hb)
        have BV_2 := Aside0.mk (blk_below BV_1.out hb)
        have BW_2 := Aside0.mk (blk_below BW_1.out hb)
        clear hb
        refine ⟨_, rfl, ?_⟩
        refine hK.out _ _ ⟨cell3 BV_2.out, cell3 BW_2.out⟩ (fun hHeld => ?_)
        clear hK K
        refine norm_ (a' := ?_) ?_ ?_
        rotate_left
        · show Act.put _ (some 11) _ = _
          simp only [Act.put, List.setIfInBounds_toArray, List.set_cons_zero, List.set_cons_succ, i64_w, i32_w]
          rfl
        refine two_ (i := 4) (j := 5) (Ni := some 5) (Nj := some 6) #[true, true, true, true, true, false, false, false] #[true, true, true, true, false, true, false, false] rfl rfl rfl rfl (by kernel_rfl) (by decide) (by decide) (fun K hK => ?_) (fun K hK => ?_)
        · refine value_ (w1 := ?_) (v := ?_) (by rfl) rfl ?_ ?_
          rotate_left 2
          · go_simp
            constructor
            · rfl
            · rfl
          have HB3_ := Aside0.mk (below_alloc HB2_.out (.cells #[.int .i64 0, .int .i64 0, .int .i64 0] 51))
          have BV_3 := Aside0.mk (blk_alloc BV_2.out (.cells #[.int .i64 0, .int .i64 0, .int .i64 0] 51))
          have BW_3 := Aside0.mk (blk_alloc BW_2.out (.cells #[.int .i64 0, .int .i64 0, .int .i64 0] 51))
          have P5_3 := Aside0.mk (blk_new w2 (.cells #[.int .i64 0, .int .i64 0, .int .i64 0] 51))
          have P5L_3 := Aside0.mk (blk_lt BW_2.out)
          obtain ⟨n3, hn3⟩ : ∃ n, w2.heap.size = n := ⟨_, rfl⟩
          obtain ⟨w3, hw3⟩ : ∃ w', w2.alloc (.cells #[.int .i64 0, .int .i64 0, .int .i64 0] 51) = w' := ⟨_, rfl⟩
          rw [hn3] at P5_3 P5L_3 ⊢
          rw [hw3] at BV_3 BW_3 P5_3 HB3_ ⊢
          clear hn3 hw3
          refine hK.out _ _ ⟨cell3 BV_3.out, cell3 BW_3.out⟩ (fun hHeld => ?_)
          clear hK K
          refine norm_ (a' := ?_) ?_ ?_
          rotate_left
          · show Act.put _ (some 5) _ = _
            simp only [Act.put, List.setIfInBounds_toArray, List.set_cons_zero, List.set_cons_succ, i64_w, i32_w]
            rfl
          refine one_ (i := 5) (N := some 6) #[true, true, true, true, true, true, false, false] rfl rfl (by kernel_rfl) (by decide) (fun K hK => ?_)
          refine value_ (w1 := ?_) (v := ?_) (by rfl) rfl ?_ ?_
          rotate_left 2
          · go_simp
            constructor
            · rfl
            · rfl
          have HB4_ := Aside0.mk (below_alloc HB3_.out (.cells #[.int .i64 0, .int .i64 0, .int .i64 0] 51))
          have BV_4 := Aside0.mk (blk_alloc BV_3.out (.cells #[.int .i64 0, .int .i64 0, .int .i64 0] 51))
          have BW_4 := Aside0.mk (blk_alloc BW_3.out (.cells #[.int .i64 0, .int .i64 0, .int .i64 0] 51))
          have P5_4 := Aside0.mk (blk_alloc P5_3.out (.cells #[.int .i64 0, .int .i64 0, .int .i64 0] 51))
          have P6_4 := Aside0.mk (blk_new w3 (.cells #[.int .i64 0, .int .i64 0, .int .i64 0] 51))
          have P6L_4 := Aside0.mk (blk_lt BW_3.out)
          have NE_4 := Aside0.mk (show n3 ≠ w3.heap.size from fun h => by have := blk_lt P5_3.out; omega)
          obtain ⟨n4, hn4⟩ : ∃ n, w3.heap.size = n := ⟨_, rfl⟩
          obtain ⟨w4, hw4⟩ : ∃ w', w3.alloc (.cells #[.int .i64 0, .int .i64 0, .int .i64 0] 51) = w' := ⟨_, rfl⟩
          rw [hn4] at P6_4 P6L_4 NE_4 ⊢
          rw [hw4] at BV_4 BW_4 P5_4 P6_4 HB4_ ⊢
          clear hn4 hw4
          refine hK.out _ _ ⟨cell3 BV_4.out, cell3 BW_4.out⟩ (fun hHeld => ?_)
          clear hK K
          refine norm_ (a' := ?_) ?_ ?_
          rotate_left
          · show Act.put _ (some 6) _ = _
            simp only [Act.put, List.setIfInBounds_toArray, List.set_cons_zero, List.set_cons_succ, i64_w, i32_w]
            rfl
          refine norm_ (a' := putAll _ [(9, vecV a b c), (11, vecV x y z), (5, .pointer (some ⟨n3, 0, none⟩)), (6, .pointer (some ⟨n4, 0, none⟩))]) ?_ (hJ (n3, n4) w4 ⟨HB4_, ⟨NE_4.out⟩, P5L_3, P6L_4, P5_4, P6_4, BV_4, BW_4⟩)
          simp only [putAll, Act.put, List.setIfInBounds_toArray, List.set_cons_zero, List.set_cons_succ]
        · refine value_ (w1 := ?_) (v := ?_) (by rfl) rfl ?_ ?_
          rotate_left 2
          · go_simp
            constructor
            · rfl
            · rfl
          have HB5_ := Aside0.mk (below_alloc HB2_.out (.cells #[.int .i64 0, .int .i64 0, .int .i64 0] 51))
          have BV_5 := Aside0.mk (blk_alloc BV_2.out (.cells #[.int .i64 0, .int .i64 0, .int .i64 0] 51))
          have BW_5 := Aside0.mk (blk_alloc BW_2.out (.cells #[.int .i64 0, .int .i64 0, .int .i64 0] 51))
          have P6_5 := Aside0.mk (blk_new w2 (.cells #[.int .i64 0, .int .i64 0, .int .i64 0] 51))
          have P6L_5 := Aside0.mk (blk_lt BW_2.out)
          obtain ⟨n5, hn5⟩ : ∃ n, w2.heap.size = n := ⟨_, rfl⟩
          obtain ⟨w5, hw5⟩ : ∃ w', w2.alloc (.cells #[.int .i64 0, .int .i64 0, .int .i64 0] 51) = w' := ⟨_, rfl⟩
          rw [hn5] at P6_5 P6L_5 ⊢
          rw [hw5] at BV_5 BW_5 P6_5 HB5_ ⊢
          clear hn5 hw5
          refine hK.out _ _ ⟨cell3 BV_5.out, cell3 BW_5.out⟩ (fun hHeld => ?_)
          clear hK K
          refine norm_ (a' := ?_) ?_ ?_
          rotate_left
          · show Act.put _ (some 6) _ = _
            simp only [Act.put, List.setIfInBounds_toArray, List.set_cons_zero, List.set_cons_succ, i64_w, i32_w]
            rfl
          refine one_ (i := 4) (N := some 5) #[true, true, true, true, true, true, false, false] rfl rfl (by kernel_rfl) (by decide) (fun K hK => ?_)
          refine value_ (w1 := ?_) (v := ?_) (by rfl) rfl ?_ ?_
          rotate_left 2
          · go_simp
            constructor
            · rfl
            · rfl
          have HB6_ := Aside0.mk (below_alloc HB5_.out (.cells #[.int .i64 0, .int .i64 0, .int .i64 0] 51))
          have BV_6 := Aside0.mk (blk_alloc BV_5.out (.cells #[.int .i64 0, .int .i64 0, .int .i64 0] 51))
          have BW_6 := Aside0.mk (blk_alloc BW_5.out (.cells #[.int .i64 0, .int .i64 0, .int .i64 0] 51))
          have P6_6 := Aside0.mk (blk_alloc P6_5.out (.cells #[.int .i64 0, .int .i64 0, .int .i64 0] 51))
          have P5_6 := Aside0.mk (blk_new w5 (.cells #[.int .i64 0, .int .i64 0, .int .i64 0] 51))
          have P5L_6 := Aside0.mk (blk_lt BW_5.out)
          have NE_6 := Aside0.mk (show n5 ≠ w5.heap.size from fun h => by have := blk_lt P6_5.out; omega)
          obtain ⟨n6, hn6⟩ : ∃ n, w5.heap.size = n := ⟨_, rfl⟩
          obtain ⟨w6, hw6⟩ : ∃ w', w5.alloc (.cells #[.int .i64 0, .int .i64 0, .int .i64 0] 51) = w' := ⟨_, rfl⟩
          rw [hn6] at P5_6 P5L_6 NE_6 ⊢
          rw [hw6] at BV_6 BW_6 P6_6 P5_6 HB6_ ⊢
          clear hn6 hw6
          refine hK.out _ _ ⟨cell3 BV_6.out, cell3 BW_6.out⟩ (fun hHeld => ?_)
          clear hK K
          refine norm_ (a' := ?_) ?_ ?_
          rotate_left
          · show Act.put _ (some 5) _ = _
            simp only [Act.put, List.setIfInBounds_toArray, List.set_cons_zero, List.set_cons_succ, i64_w, i32_w]
            rfl
          refine norm_ (a' := putAll _ [(9, vecV a b c), (11, vecV x y z), (5, .pointer (some ⟨n6, 0, none⟩)), (6, .pointer (some ⟨n5, 0, none⟩))]) ?_ (hJ (n6, n5) w6 ⟨HB6_, ⟨(Ne.symm NE_6.out)⟩, P5L_6, P6L_5, P5_6, P6_6, BV_6, BW_6⟩)
          simp only [putAll, Act.put, List.setIfInBounds_toArray, List.set_cons_zero, List.set_cons_succ]
      · refine value_ (w1 := ?_) (v := ?_) (by rfl) rfl ?_ ?_
        rotate_left 2
        · go_simp
          constructor
          · rfl
          · rfl
        have HB7_ := Aside0.mk (below_alloc HB1_.out (.cells #[.int .i64 0, .int .i64 0, .int .i64 0] 51))
        have BV_7 := Aside0.mk (blk_alloc BV_1.out (.cells #[.int .i64 0, .int .i64 0, .int .i64 0] 51))
        have BW_7 := Aside0.mk (blk_alloc BW_1.out (.cells #[.int .i64 0, .int .i64 0, .int .i64 0] 51))
        have P5_7 := Aside0.mk (blk_new w1 (.cells #[.int .i64 0, .int .i64 0, .int .i64 0] 51))
        have P5L_7 := Aside0.mk (blk_lt BW_1.out)
        obtain ⟨n7, hn7⟩ : ∃ n, w1.heap.size = n := ⟨_, rfl⟩
        obtain ⟨w7, hw7⟩ : ∃ w', w1.alloc (.cells #[.int .i64 0, .int .i64 0, .int .i64 0] 51) = w' := ⟨_, rfl⟩
        rw [hn7] at P5_7 P5L_7 ⊢
        rw [hw7] at BV_7 BW_7 P5_7 HB7_ ⊢
        clear hn7 hw7
        refine hK.out _ _ ⟨cell3 BV_7.out, cell3 BW_7.out⟩ (fun hHeld => ?_)
        clear hK K
        refine norm_ (a' := ?_) ?_ ?_
        rotate_left
        · show Act.put _ (some 5) _ = _
          simp only [Act.put, List.setIfInBounds_toArray, List.set_cons_zero, List.set_cons_succ, i64_w, i32_w]
          rfl
        refine two_ (i := 3) (j := 5) (Ni := some 11) (Nj := some 6) #[true, true, true, true, true, false, false, false] #[true, true, true, false, true, true, false, false] rfl rfl rfl rfl (by kernel_rfl) (by decide) (by decide) (fun K hK => ?_) (fun K hK => ?_)
        · refine goes_ Tryd.func37 (by kernel_rfl) rfl #[vecV x y z] (by rfl) rfl rfl (by (try simp only [List.map_toArray, List.map_cons, List.map_nil]); first | done | rfl) ?_
          refine (parts_calls x y z _).mono ?_
          rintro e w8 ⟨rfl, hb⟩
          have HB8_ := Aside0.mk (below_then HB7_.out HB7_.out.size hb)
          have BV_8 := Aside0.mk (blk_below BV_7.out hb)
          have BW_8 := Aside0.mk (blk_below BW_7.out hb)
          have P5_8 := Aside0.mk (blk_below P5_7.out hb)
          clear hb
          refine ⟨_, rfl, ?_⟩
          refine hK.out _ _ ⟨cell3 BV_8.out, cell3 BW_8.out⟩ (fun hHeld => ?_)
          clear hK K
          refine norm_ (a' := ?_) ?_ ?_
          rotate_left
          · show Act.put _ (some 11) _ = _
            simp only [Act.put, List.setIfInBounds_toArray, List.set_cons_zero, List.set_cons_succ, i64_w, i32_w]
            rfl
          refine one_ (i := 5) (N := some 6) #[true, true, true, true, true, true, false, false] rfl rfl (by kernel_rfl) (by decide) (fun K hK => ?_)
          refine value_ (w1 := ?_) (v := ?_) (by rfl) rfl ?_ ?_
          rotate_left 2
          · go_simp
            constructor
            · rfl
            · rfl
          have HB9_ := Aside0.mk (below_alloc HB8_.out (.cells #[.int .i64 0, .int .i64 0, .int .i64 0] 51))
          have BV_9 := Aside0.mk (blk_alloc BV_8.out (.cells #[.int .i64 0, .int .i64 0, .int .i64 0] 51))
          have BW_9 := Aside0.mk (blk_alloc BW_8.out (.cells #[.int .i64 0, .int .i64 0, .int .i64 0] 51))
          have P5_9 := Aside0.mk (blk_alloc P5_8.out (.cells #[.int .i64 0, .int .i64 0, .int .i64 0] 51))
          have P6_9 := Aside0.mk (blk_new w8 (.cells #[.int .i64 0, .int .i64 0, .int .i64 0] 51))
          have P6L_9 := Aside0.mk (blk_lt BW_8.out)
          have NE_9 := Aside0.mk (show n7 ≠ w8.heap.size from fun h => by have := blk_lt P5_8.out; omega)
          obtain ⟨n9, hn9⟩ : ∃ n, w8.heap.size = n := ⟨_, rfl⟩
          obtain ⟨w9, hw9⟩ : ∃ w', w8.alloc (.cells #[.int .i64 0, .int .i64 0, .int .i64 0] 51) = w' := ⟨_, rfl⟩
          rw [hn9] at P6_9 P6L_9 NE_9 ⊢
          rw [hw9] at BV_9 BW_9 P5_9 P6_9 HB9_ ⊢
          clear hn9 hw9
          refine hK.out _ _ ⟨cell3 BV_9.out, cell3 BW_9.out⟩ (fun hHeld => ?_)
          clear hK K
          refine norm_ (a' := ?_) ?_ ?_
          rotate_left
          · show Act.put _ (some 6) _ = _
            simp only [Act.put, List.setIfInBounds_toArray, List.set_cons_zero, List.set_cons_succ, i64_w, i32_w]
            rfl
          refine norm_ (a' := putAll _ [(9, vecV a b c), (11, vecV x y z), (5, .pointer (some ⟨n7, 0, none⟩)), (6, .pointer (some ⟨n9, 0, none⟩))]) ?_ (hJ (n7, n9) w9 ⟨HB9_, ⟨NE_9.out⟩, P5L_7, P6L_9, P5_9, P6_9, BV_9, BW_9⟩)
          simp only [putAll, Act.put, List.setIfInBounds_toArray, List.set_cons_zero, List.set_cons_succ]
        · refine value_ (w1 := ?_) (v := ?_) (by rfl) rfl ?_ ?_
          rotate_left 2
          · go_simp
            constructor
            · rfl
            · rfl
          have HB10_ := Aside0.mk (below_alloc HB7_.out (.cells #[.int .i64 0, .int .i64 0, .int .i64 0] 51))
          have BV_10 := Aside0.mk (blk_alloc BV_7.out (.cells #[.int .i64 0, .int .i64 0, .int .i64 0] 51))
          have BW_10 := Aside0.mk (blk_alloc BW_7.out (.cells #[.int .i64 0, .int .i64 0, .int .i64 0] 51))
          have P5_10 := Aside0.mk (blk_alloc P5_7.out (.cells #[.int .i64 0, .int .i64 0, .int .i64 0] 51))
          have P6_10 := Aside0.mk (blk_new w7 (.cells #[.int .i64 0, .int .i64 0, .int .i64 0] 51))
          have P6L_10 := Aside0.mk (blk_lt BW_7.out)
          have NE_10 := Aside0.mk (show n7 ≠ w7.heap.size from fun h => by have := blk_lt P5_7.out; omega)
          obtain ⟨n10, hn10⟩ : ∃ n, w7.heap.size = n := ⟨_, rfl⟩
          obtain ⟨w10, hw10⟩ : ∃ w', w7.alloc (.cells #[.int .i64 0, .int .i64 0, .int .i64 0] 51) = w' := ⟨_, rfl⟩
          rw [hn10] at P6_10 P6L_10 NE_10 ⊢
          rw [hw10] at BV_10 BW_10 P5_10 P6_10 HB10_ ⊢
          clear hn10 hw10
          refine hK.out _ _ ⟨cell3 BV_10.out, cell3 BW_10.out⟩ (fun hHeld => ?_)
          clear hK K
          refine norm_ (a' := ?_) ?_ ?_
          rotate_left
          · show Act.put _ (some 6) _ = _
            simp only [Act.put, List.setIfInBounds_toArray, List.set_cons_zero, List.set_cons_succ, i64_w, i32_w]
            rfl
          refine one_ (i := 3) (N := some 11) #[true, true, true, true, true, true, false, false] rfl rfl (by kernel_rfl) (by decide) (fun K hK => ?_)
          refine goes_ Tryd.func37 (by kernel_rfl) rfl #[vecV x y z] (by rfl) rfl rfl (by (try simp only [List.map_toArray, List.map_cons, List.map_nil]); first | done | rfl) ?_
          refine (parts_calls x y z _).mono ?_
          rintro e w11 ⟨rfl, hb⟩
          have HB11_ := Aside0.mk (below_then HB10_.out HB10_.out.size hb)
          have BV_11 := Aside0.mk (blk_below BV_10.out hb)
          have BW_11 := Aside0.mk (blk_below BW_10.out hb)
          have P5_11 := Aside0.mk (blk_below P5_10.out hb)
          have P6_11 := Aside0.mk (blk_below P6_10.out hb)
          clear hb
          refine ⟨_, rfl, ?_⟩
          refine hK.out _ _ ⟨cell3 BV_11.out, cell3 BW_11.out⟩ (fun hHeld => ?_)
          clear hK K
          refine norm_ (a' := ?_) ?_ ?_
          rotate_left
          · show Act.put _ (some 11) _ = _
            simp only [Act.put, List.setIfInBounds_toArray, List.set_cons_zero, List.set_cons_succ, i64_w, i32_w]
            rfl
          refine norm_ (a' := putAll _ [(9, vecV a b c), (11, vecV x y z), (5, .pointer (some ⟨n7, 0, none⟩)), (6, .pointer (some ⟨n10, 0, none⟩))]) ?_ (hJ (n7, n10) w11 ⟨HB11_, ⟨NE_10.out⟩, P5L_7, P6L_10, P5_11, P6_11, BV_11, BW_11⟩)
          simp only [putAll, Act.put, List.setIfInBounds_toArray, List.set_cons_zero, List.set_cons_succ]
      · refine value_ (w1 := ?_) (v := ?_) (by rfl) rfl ?_ ?_
        rotate_left 2
        · go_simp
          constructor
          · rfl
          · rfl
        have HB12_ := Aside0.mk (below_alloc HB1_.out (.cells #[.int .i64 0, .int .i64 0, .int .i64 0] 51))
        have BV_12 := Aside0.mk (blk_alloc BV_1.out (.cells #[.int .i64 0, .int .i64 0, .int .i64 0] 51))
        have BW_12 := Aside0.mk (blk_alloc BW_1.out (.cells #[.int .i64 0, .int .i64 0, .int .i64 0] 51))
        have P6_12 := Aside0.mk (blk_new w1 (.cells #[.int .i64 0, .int .i64 0, .int .i64 0] 51))
        have P6L_12 := Aside0.mk (blk_lt BW_1.out)
        obtain ⟨n12, hn12⟩ : ∃ n, w1.heap.size = n := ⟨_, rfl⟩
        obtain ⟨w12, hw12⟩ : ∃ w', w1.alloc (.cells #[.int .i64 0, .int .i64 0, .int .i64 0] 51) = w' := ⟨_, rfl⟩
        rw [hn12] at P6_12 P6L_12 ⊢
        rw [hw12] at BV_12 BW_12 P6_12 HB12_ ⊢
        clear hn12 hw12
        refine hK.out _ _ ⟨cell3 BV_12.out, cell3 BW_12.out⟩ (fun hHeld => ?_)
        clear hK K
        refine norm_ (a' := ?_) ?_ ?_
        rotate_left
        · show Act.put _ (some 6) _ = _
          simp only [Act.put, List.setIfInBounds_toArray, List.set_cons_zero, List.set_cons_succ, i64_w, i32_w]
          rfl
        refine two_ (i := 3) (j := 4) (Ni := some 11) (Nj := some 5) #[true, true, true, true, false, true, false, false] #[true, true, true, false, true, true, false, false] rfl rfl rfl rfl (by kernel_rfl) (by decide) (by decide) (fun K hK => ?_) (fun K hK => ?_)
        · refine goes_ Tryd.func37 (by kernel_rfl) rfl #[vecV x y z] (by rfl) rfl rfl (by (try simp only [List.map_toArray, List.map_cons, List.map_nil]); first | done | rfl) ?_
          refine (parts_calls x y z _).mono ?_
          rintro e w13 ⟨rfl, hb⟩
          have HB13_ := Aside0.mk (below_then HB12_.out HB12_.out.size hb)
          have BV_13 := Aside0.mk (blk_below BV_12.out hb)
          have BW_13 := Aside0.mk (blk_below BW_12.out hb)
          have P6_13 := Aside0.mk (blk_below P6_12.out hb)
          clear hb
          refine ⟨_, rfl, ?_⟩
          refine hK.out _ _ ⟨cell3 BV_13.out, cell3 BW_13.out⟩ (fun hHeld => ?_)
          clear hK K
          refine norm_ (a' := ?_) ?_ ?_
          rotate_left
          · show Act.put _ (some 11) _ = _
            simp only [Act.put, List.setIfInBounds_toArray, List.set_cons_zero, List.set_cons_succ, i64_w, i32_w]
            rfl
          refine one_ (i := 4) (N := some 5) #[true, true, true, true, true, true, false, false] rfl rfl (by kernel_rfl) (by decide) (fun K hK => ?_)
          refine value_ (w1 := ?_) (v := ?_) (by rfl) rfl ?_ ?_
          rotate_left 2
          · go_simp
            constructor
            · rfl
            · rfl
          have HB14_ := Aside0.mk (below_alloc HB13_.out (.cells #[.int .i64 0, .int .i64 0, .int .i64 0] 51))
          have BV_14 := Aside0.mk (blk_alloc BV_13.out (.cells #[.int .i64 0, .int .i64 0, .int .i64 0] 51))
          have BW_14 := Aside0.mk (blk_alloc BW_13.out (.cells #[.int .i64 0, .int .i64 0, .int .i64 0] 51))
          have P6_14 := Aside0.mk (blk_alloc P6_13.out (.cells #[.int .i64 0, .int .i64 0, .int .i64 0] 51))
          have P5_14 := Aside0.mk (blk_new w13 (.cells #[.int .i64 0, .int .i64 0, .int .i64 0] 51))
          have P5L_14 := Aside0.mk (blk_lt BW_13.out)
          have NE_14 := Aside0.mk (show n12 ≠ w13.heap.size from fun h => by have := blk_lt P6_13.out; omega)
          obtain ⟨n14, hn14⟩ : ∃ n, w13.heap.size = n := ⟨_, rfl⟩
          obtain ⟨w14, hw14⟩ : ∃ w', w13.alloc (.cells #[.int .i64 0, .int .i64 0, .int .i64 0] 51) = w' := ⟨_, rfl⟩
          rw [hn14] at P5_14 P5L_14 NE_14 ⊢
          rw [hw14] at BV_14 BW_14 P6_14 P5_14 HB14_ ⊢
          clear hn14 hw14
          refine hK.out _ _ ⟨cell3 BV_14.out, cell3 BW_14.out⟩ (fun hHeld => ?_)
          clear hK K
          refine norm_ (a' := ?_) ?_ ?_
          rotate_left
          · show Act.put _ (some 5) _ = _
            simp only [Act.put, List.setIfInBounds_toArray, List.set_cons_zero, List.set_cons_succ, i64_w, i32_w]
            rfl
          refine norm_ (a' := putAll _ [(9, vecV a b c), (11, vecV x y z), (5, .pointer (some ⟨n14, 0, none⟩)), (6, .pointer (some ⟨n12, 0, none⟩))]) ?_ (hJ (n14, n12) w14 ⟨HB14_, ⟨(Ne.symm NE_14.out)⟩, P5L_14, P6L_12, P5_14, P6_14, BV_14, BW_14⟩)
          simp only [putAll, Act.put, List.setIfInBounds_toArray, List.set_cons_zero, List.set_cons_succ]
        · refine value_ (w1 := ?_) (v := ?_) (by rfl) rfl ?_ ?_
          rotate_left 2
          · go_simp
            constructor
            · rfl
            · rfl
          have HB15_ := Aside0.mk (below_alloc HB12_.out (.cells #[.int .i64 0, .int .i64 0, .int .i64 0] 51))
          have BV_15 := Aside0.mk (blk_alloc BV_12.out (.cells #[.int .i64 0, .int .i64 0, .int .i64 0] 51))
          have BW_15 := Aside0.mk (blk_alloc BW_12.out (.cells #[.int .i64 0, .int .i64 0, .int .i64 0] 51))
          have P6_15 := Aside0.mk (blk_alloc P6_12.out (.cells #[.int .i64 0, .int .i64 0, .int .i64 0] 51))
          have P5_15 := Aside0.mk (blk_new w12 (.cells #[.int .i64 0, .int .i64 0, .int .i64 0] 51))
          have P5L_15 := Aside0.mk (blk_lt BW_12.out)
          have NE_15 := Aside0.mk (show n12 ≠ w12.heap.size from fun h => by have := blk_lt P6_12.out; omega)
          obtain ⟨n15, hn15⟩ : ∃ n, w12.heap.size = n := ⟨_, rfl⟩
          obtain ⟨w15, hw15⟩ : ∃ w', w12.alloc (.cells #[.int .i64 0, .int .i64 0, .int .i64 0] 51) = w' := ⟨_, rfl⟩
          rw [hn15] at P5_15 P5L_15 NE_15 ⊢
          rw [hw15] at BV_15 BW_15 P6_15 P5_15 HB15_ ⊢
          clear hn15 hw15
          refine hK.out _ _ ⟨cell3 BV_15.out, cell3 BW_15.out⟩ (fun hHeld => ?_)
          clear hK K
          refine norm_ (a' := ?_) ?_ ?_
          rotate_left
          · show Act.put _ (some 5) _ = _
            simp only [Act.put, List.setIfInBounds_toArray, List.set_cons_zero, List.set_cons_succ, i64_w, i32_w]
            rfl
          refine one_ (i := 3) (N := some 11) #[true, true, true, true, true, true, false, false] rfl rfl (by kernel_rfl) (by decide) (fun K hK => ?_)
          refine goes_ Tryd.func37 (by kernel_rfl) rfl #[vecV x y z] (by rfl) rfl rfl (by (try simp only [List.map_toArray, List.map_cons, List.map_nil]); first | done | rfl) ?_
          refine (parts_calls x y z _).mono ?_
          rintro e w16 ⟨rfl, hb⟩
          have HB16_ := Aside0.mk (below_then HB15_.out HB15_.out.size hb)
          have BV_16 := Aside0.mk (blk_below BV_15.out hb)
          have BW_16 := Aside0.mk (blk_below BW_15.out hb)
          have P6_16 := Aside0.mk (blk_below P6_15.out hb)
          have P5_16 := Aside0.mk (blk_below P5_15.out hb)
          clear hb
          refine ⟨_, rfl, ?_⟩
          refine hK.out _ _ ⟨cell3 BV_16.out, cell3 BW_16.out⟩ (fun hHeld => ?_)
          clear hK K
          refine norm_ (a' := ?_) ?_ ?_
          rotate_left
          · show Act.put _ (some 11) _ = _
            simp only [Act.put, List.setIfInBounds_toArray, List.set_cons_zero, List.set_cons_succ, i64_w, i32_w]
            rfl
          refine norm_ (a' := putAll _ [(9, vecV a b c), (11, vecV x y z), (5, .pointer (some ⟨n15, 0, none⟩)), (6, .pointer (some ⟨n12, 0, none⟩))]) ?_ (hJ (n15, n12) w16 ⟨HB16_, ⟨(Ne.symm NE_15.out)⟩, P5L_15, P6L_12, P5_16, P6_16, BV_16, BW_16⟩)
          simp only [putAll, Act.put, List.setIfInBounds_toArray, List.set_cons_zero, List.set_cons_succ]
    · refine value_ (w1 := ?_) (v := ?_) (by rfl) rfl ?_ ?_
      rotate_left 2
      · go_simp
        constructor
        · rfl
        · rfl
      have HB17_ := Aside0.mk (below_alloc HB0.out (.cells #[.int .i64 0, .int .i64 0, .int .i64 0] 51))
      have BV_17 := Aside0.mk (blk_alloc BV.out (.cells #[.int .i64 0, .int .i64 0, .int .i64 0] 51))
      have BW_17 := Aside0.mk (blk_alloc BW.out (.cells #[.int .i64 0, .int .i64 0, .int .i64 0] 51))
      have P5_17 := Aside0.mk (blk_new wd (.cells #[.int .i64 0, .int .i64 0, .int .i64 0] 51))
      have P5L_17 := Aside0.mk (blk_lt BW.out)
      obtain ⟨n17, hn17⟩ : ∃ n, wd.heap.size = n := ⟨_, rfl⟩
      obtain ⟨w17, hw17⟩ : ∃ w', wd.alloc (.cells #[.int .i64 0, .int .i64 0, .int .i64 0] 51) = w' := ⟨_, rfl⟩
      rw [hn17] at P5_17 P5L_17 ⊢
      rw [hw17] at BV_17 BW_17 P5_17 HB17_ ⊢
      clear hn17 hw17
      refine hK.out _ _ ⟨cell3 BV_17.out, cell3 BW_17.out⟩ (fun hHeld => ?_)
      clear hK K
      refine norm_ (a' := ?_) ?_ ?_
      rotate_left
      · show Act.put _ (some 5) _ = _
        simp only [Act.put, List.setIfInBounds_toArray, List.set_cons_zero, List.set_cons_succ, i64_w, i32_w]
        rfl
      refine two_ (i := 1) (j := 5) (Ni := some 9) (Nj := some 6) #[true, true, true, false, true, false, false, false] #[true, false, true, false, true, true, false, false] rfl rfl rfl rfl (by kernel_rfl) (by decide) (by decide) (fun K hK => ?_) (fun K hK => ?_)
      · refine goes_ Tryd.func37 (by kernel_rfl) rfl #[vecV a b c] (by rfl) rfl rfl (by (try simp only [List.map_toArray, List.map_cons, List.map_nil]); first | done | rfl) ?_
        refine (parts_calls a b c _).mono ?_
        rintro e w18 ⟨rfl, hb⟩
        have HB18_ := Aside0.mk (below_then HB17_.out HB17_.out.size hb)
        have BV_18 := Aside0.mk (blk_below BV_17.out hb)
        have BW_18 := Aside0.mk (blk_below BW_17.out hb)
        have P5_18 := Aside0.mk (blk_below P5_17.out hb)
        clear hb
        refine ⟨_, rfl, ?_⟩
        refine hK.out _ _ ⟨cell3 BV_18.out, cell3 BW_18.out⟩ (fun hHeld => ?_)
        clear hK K
        refine norm_ (a' := ?_) ?_ ?_
        rotate_left
        · show Act.put _ (some 9) _ = _
          simp only [Act.put, List.setIfInBounds_toArray, List.set_cons_zero, List.set_cons_succ, i64_w, i32_w]
          rfl
        refine two_ (i := 3) (j := 5) (Ni := some 11) (Nj := some 6) #[true, true, true, true, true, false, false, false] #[true, true, true, false, true, true, false, false] rfl rfl rfl rfl (by kernel_rfl) (by decide) (by decide) (fun K hK => ?_) (fun K hK => ?_)
        · refine goes_ Tryd.func37 (by kernel_rfl) rfl #[vecV x y z] (by rfl) rfl rfl (by (try simp only [List.map_toArray, List.map_cons, List.map_nil]); first | done | rfl) ?_
          refine (parts_calls x y z _).mono ?_
          rintro e w19 ⟨rfl, hb⟩
          have HB19_ := Aside0.mk (below_then HB18_.out HB18_.out.size hb)
          have BV_19 := Aside0.mk (blk_below BV_18.out hb)
          have BW_19 := Aside0.mk (blk_below BW_18.out hb)
          have P5_19 := Aside0.mk (blk_below P5_18.out hb)
          clear hb
          refine ⟨_, rfl, ?_⟩
          refine hK.out _ _ ⟨cell3 BV_19.out, cell3 BW_19.out⟩ (fun hHeld => ?_)
          clear hK K
          refine norm_ (a' := ?_) ?_ ?_
          rotate_left
          · show Act.put _ (some 11) _ = _
            simp only [Act.put, List.setIfInBounds_toArray, List.set_cons_zero, List.set_cons_succ, i64_w, i32_w]
            rfl
          refine one_ (i := 5) (N := some 6) #[true, true, true, true, true, true, false, false] rfl rfl (by kernel_rfl) (by decide) (fun K hK => ?_)
          refine value_ (w1 := ?_) (v := ?_) (by rfl) rfl ?_ ?_
          rotate_left 2
          · go_simp
            constructor
            · rfl
            · rfl
          have HB20_ := Aside0.mk (below_alloc HB19_.out (.cells #[.int .i64 0, .int .i64 0, .int .i64 0] 51))
          have BV_20 := Aside0.mk (blk_alloc BV_19.out (.cells #[.int .i64 0, .int .i64 0, .int .i64 0] 51))
          have BW_20 := Aside0.mk (blk_alloc BW_19.out (.cells #[.int .i64 0, .int .i64 0, .int .i64 0] 51))
          have P5_20 := Aside0.mk (blk_alloc P5_19.out (.cells #[.int .i64 0, .int .i64 0, .int .i64 0] 51))
          have P6_20 := Aside0.mk (blk_new w19 (.cells #[.int .i64 0, .int .i64 0, .int .i64 0] 51))
          have P6L_20 := Aside0.mk (blk_lt BW_19.out)
          have NE_20 := Aside0.mk (show n17 ≠ w19.heap.size from fun h => by have := blk_lt P5_19.out; omega)
          obtain ⟨n20, hn20⟩ : ∃ n, w19.heap.size = n := ⟨_, rfl⟩
          obtain ⟨w20, hw20⟩ : ∃ w', w19.alloc (.cells #[.int .i64 0, .int .i64 0, .int .i64 0] 51) = w' := ⟨_, rfl⟩
          rw [hn20] at P6_20 P6L_20 NE_20 ⊢
          rw [hw20] at BV_20 BW_20 P5_20 P6_20 HB20_ ⊢
          clear hn20 hw20
          refine hK.out _ _ ⟨cell3 BV_20.out, cell3 BW_20.out⟩ (fun hHeld => ?_)
          clear hK K
          refine norm_ (a' := ?_) ?_ ?_
          rotate_left
          · show Act.put _ (some 6) _ = _
            simp only [Act.put, List.setIfInBounds_toArray, List.set_cons_zero, List.set_cons_succ, i64_w, i32_w]
            rfl
          refine norm_ (a' := putAll _ [(9, vecV a b c), (11, vecV x y z), (5, .pointer (some ⟨n17, 0, none⟩)), (6, .pointer (some ⟨n20, 0, none⟩))]) ?_ (hJ (n17, n20) w20 ⟨HB20_, ⟨NE_20.out⟩, P5L_17, P6L_20, P5_20, P6_20, BV_20, BW_20⟩)
          simp only [putAll, Act.put, List.setIfInBounds_toArray, List.set_cons_zero, List.set_cons_succ]
        · refine value_ (w1 := ?_) (v := ?_) (by rfl) rfl ?_ ?_
          rotate_left 2
          · go_simp
            constructor
            · rfl
            · rfl
          have HB21_ := Aside0.mk (below_alloc HB18_.out (.cells #[.int .i64 0, .int .i64 0, .int .i64 0] 51))
          have BV_21 := Aside0.mk (blk_alloc BV_18.out (.cells #[.int .i64 0, .int .i64 0, .int .i64 0] 51))
          have BW_21 := Aside0.mk (blk_alloc BW_18.out (.cells #[.int .i64 0, .int .i64 0, .int .i64 0] 51))
          have P5_21 := Aside0.mk (blk_alloc P5_18.out (.cells #[.int .i64 0, .int .i64 0, .int .i64 0] 51))
          have P6_21 := Aside0.mk (blk_new w18 (.cells #[.int .i64 0, .int .i64 0, .int .i64 0] 51))
          have P6L_21 := Aside0.mk (blk_lt BW_18.out)
          have NE_21 := Aside0.mk (show n17 ≠ w18.heap.size from fun h => by have := blk_lt P5_18.out; omega)
          obtain ⟨n21, hn21⟩ : ∃ n, w18.heap.size = n := ⟨_, rfl⟩
          obtain ⟨w21, hw21⟩ : ∃ w', w18.alloc (.cells #[.int .i64 0, .int .i64 0, .int .i64 0] 51) = w' := ⟨_, rfl⟩
          rw [hn21] at P6_21 P6L_21 NE_21 ⊢
          rw [hw21] at BV_21 BW_21 P5_21 P6_21 HB21_ ⊢
          clear hn21 hw21
          refine hK.out _ _ ⟨cell3 BV_21.out, cell3 BW_21.out⟩ (fun hHeld => ?_)
          clear hK K
          refine norm_ (a' := ?_) ?_ ?_
          rotate_left
          · show Act.put _ (some 6) _ = _
            simp only [Act.put, List.setIfInBounds_toArray, List.set_cons_zero, List.set_cons_succ, i64_w, i32_w]
            rfl
          refine one_ (i := 3) (N := some 11) #[true, true, true, true, true, true, false, false] rfl rfl (by kernel_rfl) (by decide) (fun K hK => ?_)
          refine goes_ Tryd.func37 (by kernel_rfl) rfl #[vecV x y z] (by rfl) rfl rfl (by (try simp only [List.map_toArray, List.map_cons, List.map_nil]); first | done | rfl) ?_
          refine (parts_calls x y z _).mono ?_
          rintro e w22 ⟨rfl, hb⟩
          have HB22_ := Aside0.mk (below_then HB21_.out HB21_.out.size hb)
          have BV_22 := Aside0.mk (blk_below BV_21.out hb)
          have BW_22 := Aside0.mk (blk_below BW_21.out hb)
          have P5_22 := Aside0.mk (blk_below P5_21.out hb)
          have P6_22 := Aside0.mk (blk_below P6_21.out hb)
          clear hb
          refine ⟨_, rfl, ?_⟩
          refine hK.out _ _ ⟨cell3 BV_22.out, cell3 BW_22.out⟩ (fun hHeld => ?_)
          clear hK K
          refine norm_ (a' := ?_) ?_ ?_
          rotate_left
          · show Act.put _ (some 11) _ = _
            simp only [Act.put, List.setIfInBounds_toArray, List.set_cons_zero, List.set_cons_succ, i64_w, i32_w]
            rfl
          refine norm_ (a' := putAll _ [(9, vecV a b c), (11, vecV x y z), (5, .pointer (some ⟨n17, 0, none⟩)), (6, .pointer (some ⟨n21, 0, none⟩))]) ?_ (hJ (n17, n21) w22 ⟨HB22_, ⟨NE_21.out⟩, P5L_17, P6L_21, P5_22, P6_22, BV_22, BW_22⟩)
          simp only [putAll, Act.put, List.setIfInBounds_toArray, List.set_cons_zero, List.set_cons_succ]
      · refine value_ (w1 := ?_) (v := ?_) (by rfl) rfl ?_ ?_
        rotate_left 2
        · go_simp
          constructor
          · rfl
          · rfl
        have HB23_ := Aside0.mk (below_alloc HB17_.out (.cells #[.int .i64 0, .int .i64 0, .int .i64 0] 51))
        have BV_23 := Aside0.mk (blk_alloc BV_17.out (.cells #[.int .i64 0, .int .i64 0, .int .i64 0] 51))
        have BW_23 := Aside0.mk (blk_alloc BW_17.out (.cells #[.int .i64 0, .int .i64 0, .int .i64 0] 51))
        have P5_23 := Aside0.mk (blk_alloc P5_17.out (.cells #[.int .i64 0, .int .i64 0, .int .i64 0] 51))
        have P6_23 := Aside0.mk (blk_new w17 (.cells #[.int .i64 0, .int .i64 0, .int .i64 0] 51))
        have P6L_23 := Aside0.mk (blk_lt BW_17.out)
        have NE_23 := Aside0.mk (show n17 ≠ w17.heap.size from fun h => by have := blk_lt P5_17.out; omega)
        obtain ⟨n23, hn23⟩ : ∃ n, w17.heap.size = n := ⟨_, rfl⟩
        obtain ⟨w23, hw23⟩ : ∃ w', w17.alloc (.cells #[.int .i64 0, .int .i64 0, .int .i64 0] 51) = w' := ⟨_, rfl⟩
        rw [hn23] at P6_23 P6L_23 NE_23 ⊢
        rw [hw23] at BV_23 BW_23 P5_23 P6_23 HB23_ ⊢
        clear hn23 hw23
        refine hK.out _ _ ⟨cell3 BV_23.out, cell3 BW_23.out⟩ (fun hHeld => ?_)
        clear hK K
        refine norm_ (a' := ?_) ?_ ?_
        rotate_left
        · show Act.put _ (some 6) _ = _
          simp only [Act.put, List.setIfInBounds_toArray, List.set_cons_zero, List.set_cons_succ, i64_w, i32_w]
          rfl
        refine one_ (i := 1) (N := some 9) #[true, true, true, false, true, true, false, false] rfl rfl (by kernel_rfl) (by decide) (fun K hK => ?_)
        refine goes_ Tryd.func37 (by kernel_rfl) rfl #[vecV a b c] (by rfl) rfl rfl (by (try simp only [List.map_toArray, List.map_cons, List.map_nil]); first | done | rfl) ?_
        refine (parts_calls a b c _).mono ?_
        rintro e w24 ⟨rfl, hb⟩
        have HB24_ := Aside0.mk (below_then HB23_.out HB23_.out.size hb)
        have BV_24 := Aside0.mk (blk_below BV_23.out hb)
        have BW_24 := Aside0.mk (blk_below BW_23.out hb)
        have P5_24 := Aside0.mk (blk_below P5_23.out hb)
        have P6_24 := Aside0.mk (blk_below P6_23.out hb)
        clear hb
        refine ⟨_, rfl, ?_⟩
        refine hK.out _ _ ⟨cell3 BV_24.out, cell3 BW_24.out⟩ (fun hHeld => ?_)
        clear hK K
        refine norm_ (a' := ?_) ?_ ?_
        rotate_left
        · show Act.put _ (some 9) _ = _
          simp only [Act.put, List.setIfInBounds_toArray, List.set_cons_zero, List.set_cons_succ, i64_w, i32_w]
          rfl
        refine one_ (i := 3) (N := some 11) #[true, true, true, true, true, true, false, false] rfl rfl (by kernel_rfl) (by decide) (fun K hK => ?_)
        refine goes_ Tryd.func37 (by kernel_rfl) rfl #[vecV x y z] (by rfl) rfl rfl (by (try simp only [List.map_toArray, List.map_cons, List.map_nil]); first | done | rfl) ?_
        refine (parts_calls x y z _).mono ?_
        rintro e w25 ⟨rfl, hb⟩
        have HB25_ := Aside0.mk (below_then HB24_.out HB24_.out.size hb)
        have BV_25 := Aside0.mk (blk_below BV_24.out hb)
        have BW_25 := Aside0.mk (blk_below BW_24.out hb)
        have P5_25 := Aside0.mk (blk_below P5_24.out hb)
        have P6_25 := Aside0.mk (blk_below P6_24.out hb)
        clear hb
        refine ⟨_, rfl, ?_⟩
        refine hK.out _ _ ⟨cell3 BV_25.out, cell3 BW_25.out⟩ (fun hHeld => ?_)
        clear hK K
        refine norm_ (a' := ?_) ?_ ?_
        rotate_left
        · show Act.put _ (some 11) _ = _
          simp only [Act.put, List.setIfInBounds_toArray, List.set_cons_zero, List.set_cons_succ, i64_w, i32_w]
          rfl
        refine norm_ (a' := putAll _ [(9, vecV a b c), (11, vecV x y z), (5, .pointer (some ⟨n17, 0, none⟩)), (6, .pointer (some ⟨n23, 0, none⟩))]) ?_ (hJ (n17, n23) w25 ⟨HB25_, ⟨NE_23.out⟩, P5L_17, P6L_23, P5_25, P6_25, BV_25, BW_25⟩)
        simp only [putAll, Act.put, List.setIfInBounds_toArray, List.set_cons_zero, List.set_cons_succ]
    · refine value_ (w1 := ?_) (v := ?_) (by rfl) rfl ?_ ?_
      rotate_left 2
      · go_simp
        constructor
        · rfl
        · rfl
      have HB26_ := Aside0.mk (below_alloc HB0.out (.cells #[.int .i64 0, .int .i64 0, .int .i64 0] 51))
      have BV_26 := Aside0.mk (blk_alloc BV.out (.cells #[.int .i64 0, .int .i64 0, .int .i64 0] 51))
      have BW_26 := Aside0.mk (blk_alloc BW.out (.cells #[.int .i64 0, .int .i64 0, .int .i64 0] 51))
      have P6_26 := Aside0.mk (blk_new wd (.cells #[.int .i64 0, .int .i64 0, .int .i64 0] 51))
      have P6L_26 := Aside0.mk (blk_lt BW.out)
      obtain ⟨n26, hn26⟩ : ∃ n, wd.heap.size = n := ⟨_, rfl⟩
      obtain ⟨w26, hw26⟩ : ∃ w', wd.alloc (.cells #[.int .i64 0, .int .i64 0, .int .i64 0] 51) = w' := ⟨_, rfl⟩
      rw [hn26] at P6_26 P6L_26 ⊢
      rw [hw26] at BV_26 BW_26 P6_26 HB26_ ⊢
      clear hn26 hw26
      refine hK.out _ _ ⟨cell3 BV_26.out, cell3 BW_26.out⟩ (fun hHeld => ?_)
      clear hK K
      refine norm_ (a' := ?_) ?_ ?_
      rotate_left
      · show Act.put _ (some 6) _ = _
        simp only [Act.put, List.setIfInBounds_toArray, List.set_cons_zero, List.set_cons_succ, i64_w, i32_w]
        rfl
      refine two_ (i := 1) (j := 4) (Ni := some 9) (Nj := some 5) #[true, true, true, false, false, true, false, false] #[true, false, true, false, true, true, false, false] rfl rfl rfl rfl (by kernel_rfl) (by decide) (by decide) (fun K hK => ?_) (fun K hK => ?_)
      · refine goes_ Tryd.func37 (by kernel_rfl) rfl #[vecV a b c] (by rfl) rfl rfl (by (try simp only [List.map_toArray, List.map_cons, List.map_nil]); first | done | rfl) ?_
        refine (parts_calls a b c _).mono ?_
        rintro e w27 ⟨rfl, hb⟩
        have HB27_ := Aside0.mk (below_then HB26_.out HB26_.out.size hb)
        have BV_27 := Aside0.mk (blk_below BV_26.out hb)
        have BW_27 := Aside0.mk (blk_below BW_26.out hb)
        have P6_27 := Aside0.mk (blk_below P6_26.out hb)
        clear hb
        refine ⟨_, rfl, ?_⟩
        refine hK.out _ _ ⟨cell3 BV_27.out, cell3 BW_27.out⟩ (fun hHeld => ?_)
        clear hK K
        refine norm_ (a' := ?_) ?_ ?_
        rotate_left
        · show Act.put _ (some 9) _ = _
          simp only [Act.put, List.setIfInBounds_toArray, List.set_cons_zero, List.set_cons_succ, i64_w, i32_w]
          rfl
        refine two_ (i := 3) (j := 4) (Ni := some 11) (Nj := some 5) #[true, true, true, true, false, true, false, false] #[true, true, true, false, true, true, false, false] rfl rfl rfl rfl (by kernel_rfl) (by decide) (by decide) (fun K hK => ?_) (fun K hK => ?_)
        · refine goes_ Tryd.func37 (by kernel_rfl) rfl #[vecV x y z] (by rfl) rfl rfl (by (try simp only [List.map_toArray, List.map_cons, List.map_nil]); first | done | rfl) ?_
          refine (parts_calls x y z _).mono ?_
          rintro e w28 ⟨rfl, hb⟩
          have HB28_ := Aside0.mk (below_then HB27_.out HB27_.out.size hb)
          have BV_28 := Aside0.mk (blk_below BV_27.out hb)
          have BW_28 := Aside0.mk (blk_below BW_27.out hb)
          have P6_28 := Aside0.mk (blk_below P6_27.out hb)
          clear hb
          refine ⟨_, rfl, ?_⟩
          refine hK.out _ _ ⟨cell3 BV_28.out, cell3 BW_28.out⟩ (fun hHeld => ?_)
          clear hK K
          refine norm_ (a' := ?_) ?_ ?_
          rotate_left
          · show Act.put _ (some 11) _ = _
            simp only [Act.put, List.setIfInBounds_toArray, List.set_cons_zero, List.set_cons_succ, i64_w, i32_w]
            rfl
          refine one_ (i := 4) (N := some 5) #[true, true, true, true, true, true, false, false] rfl rfl (by kernel_rfl) (by decide) (fun K hK => ?_)
          refine value_ (w1 := ?_) (v := ?_) (by rfl) rfl ?_ ?_
          rotate_left 2
          · go_simp
            constructor
            · rfl
            · rfl
          have HB29_ := Aside0.mk (below_alloc HB28_.out (.cells #[.int .i64 0, .int .i64 0, .int .i64 0] 51))
          have BV_29 := Aside0.mk (blk_alloc BV_28.out (.cells #[.int .i64 0, .int .i64 0, .int .i64 0] 51))
          have BW_29 := Aside0.mk (blk_alloc BW_28.out (.cells #[.int .i64 0, .int .i64 0, .int .i64 0] 51))
          have P6_29 := Aside0.mk (blk_alloc P6_28.out (.cells #[.int .i64 0, .int .i64 0, .int .i64 0] 51))
          have P5_29 := Aside0.mk (blk_new w28 (.cells #[.int .i64 0, .int .i64 0, .int .i64 0] 51))
          have P5L_29 := Aside0.mk (blk_lt BW_28.out)
          have NE_29 := Aside0.mk (show n26 ≠ w28.heap.size from fun h => by have := blk_lt P6_28.out; omega)
          obtain ⟨n29, hn29⟩ : ∃ n, w28.heap.size = n := ⟨_, rfl⟩
          obtain ⟨w29, hw29⟩ : ∃ w', w28.alloc (.cells #[.int .i64 0, .int .i64 0, .int .i64 0] 51) = w' := ⟨_, rfl⟩
          rw [hn29] at P5_29 P5L_29 NE_29 ⊢
          rw [hw29] at BV_29 BW_29 P6_29 P5_29 HB29_ ⊢
          clear hn29 hw29
          refine hK.out _ _ ⟨cell3 BV_29.out, cell3 BW_29.out⟩ (fun hHeld => ?_)
          clear hK K
          refine norm_ (a' := ?_) ?_ ?_
          rotate_left
          · show Act.put _ (some 5) _ = _
            simp only [Act.put, List.setIfInBounds_toArray, List.set_cons_zero, List.set_cons_succ, i64_w, i32_w]
            rfl
          refine norm_ (a' := putAll _ [(9, vecV a b c), (11, vecV x y z), (5, .pointer (some ⟨n29, 0, none⟩)), (6, .pointer (some ⟨n26, 0, none⟩))]) ?_ (hJ (n29, n26) w29 ⟨HB29_, ⟨(Ne.symm NE_29.out)⟩, P5L_29, P6L_26, P5_29, P6_29, BV_29, BW_29⟩)
          simp only [putAll, Act.put, List.setIfInBounds_toArray, List.set_cons_zero, List.set_cons_succ]
        · refine value_ (w1 := ?_) (v := ?_) (by rfl) rfl ?_ ?_
          rotate_left 2
          · go_simp
            constructor
            · rfl
            · rfl
          have HB30_ := Aside0.mk (below_alloc HB27_.out (.cells #[.int .i64 0, .int .i64 0, .int .i64 0] 51))
          have BV_30 := Aside0.mk (blk_alloc BV_27.out (.cells #[.int .i64 0, .int .i64 0, .int .i64 0] 51))
          have BW_30 := Aside0.mk (blk_alloc BW_27.out (.cells #[.int .i64 0, .int .i64 0, .int .i64 0] 51))
          have P6_30 := Aside0.mk (blk_alloc P6_27.out (.cells #[.int .i64 0, .int .i64 0, .int .i64 0] 51))
          have P5_30 := Aside0.mk (blk_new w27 (.cells #[.int .i64 0, .int .i64 0, .int .i64 0] 51))
          have P5L_30 := Aside0.mk (blk_lt BW_27.out)
          have NE_30 := Aside0.mk (show n26 ≠ w27.heap.size from fun h => by have := blk_lt P6_27.out; omega)
          obtain ⟨n30, hn30⟩ : ∃ n, w27.heap.size = n := ⟨_, rfl⟩
          obtain ⟨w30, hw30⟩ : ∃ w', w27.alloc (.cells #[.int .i64 0, .int .i64 0, .int .i64 0] 51) = w' := ⟨_, rfl⟩
          rw [hn30] at P5_30 P5L_30 NE_30 ⊢
          rw [hw30] at BV_30 BW_30 P6_30 P5_30 HB30_ ⊢
          clear hn30 hw30
          refine hK.out _ _ ⟨cell3 BV_30.out, cell3 BW_30.out⟩ (fun hHeld => ?_)
          clear hK K
          refine norm_ (a' := ?_) ?_ ?_
          rotate_left
          · show Act.put _ (some 5) _ = _
            simp only [Act.put, List.setIfInBounds_toArray, List.set_cons_zero, List.set_cons_succ, i64_w, i32_w]
            rfl
          refine one_ (i := 3) (N := some 11) #[true, true, true, true, true, true, false, false] rfl rfl (by kernel_rfl) (by decide) (fun K hK => ?_)
          refine goes_ Tryd.func37 (by kernel_rfl) rfl #[vecV x y z] (by rfl) rfl rfl (by (try simp only [List.map_toArray, List.map_cons, List.map_nil]); first | done | rfl) ?_
          refine (parts_calls x y z _).mono ?_
          rintro e w31 ⟨rfl, hb⟩
          have HB31_ := Aside0.mk (below_then HB30_.out HB30_.out.size hb)
          have BV_31 := Aside0.mk (blk_below BV_30.out hb)
          have BW_31 := Aside0.mk (blk_below BW_30.out hb)
          have P6_31 := Aside0.mk (blk_below P6_30.out hb)
          have P5_31 := Aside0.mk (blk_below P5_30.out hb)
          clear hb
          refine ⟨_, rfl, ?_⟩
          refine hK.out _ _ ⟨cell3 BV_31.out, cell3 BW_31.out⟩ (fun hHeld => ?_)
          clear hK K
          refine norm_ (a' := ?_) ?_ ?_
          rotate_left
          · show Act.put _ (some 11) _ = _
            simp only [Act.put, List.setIfInBounds_toArray, List.set_cons_zero, List.set_cons_succ, i64_w, i32_w]
            rfl
          refine norm_ (a' := putAll _ [(9, vecV a b c), (11, vecV x y z), (5, .pointer (some ⟨n30, 0, none⟩)), (6, .pointer (some ⟨n26, 0, none⟩))]) ?_ (hJ (n30, n26) w31 ⟨HB31_, ⟨(Ne.symm NE_30.out)⟩, P5L_30, P6L_26, P5_31, P6_31, BV_31, BW_31⟩)
          simp only [putAll, Act.put, List.setIfInBounds_toArray, List.set_cons_zero, List.set_cons_succ]
      · refine value_ (w1 := ?_) (v := ?_) (by rfl) rfl ?_ ?_
        rotate_left 2
        · go_simp
          constructor
          · rfl
          · rfl
        have HB32_ := Aside0.mk (below_alloc HB26_.out (.cells #[.int .i64 0, .int .i64 0, .int .i64 0] 51))
        have BV_32 := Aside0.mk (blk_alloc BV_26.out (.cells #[.int .i64 0, .int .i64 0, .int .i64 0] 51))
        have BW_32 := Aside0.mk (blk_alloc BW_26.out (.cells #[.int .i64 0, .int .i64 0, .int .i64 0] 51))
        have P6_32 := Aside0.mk (blk_alloc P6_26.out (.cells #[.int .i64 0, .int .i64 0, .int .i64 0] 51))
        have P5_32 := Aside0.mk (blk_new w26 (.cells #[.int .i64 0, .int .i64 0, .int .i64 0] 51))
        have P5L_32 := Aside0.mk (blk_lt BW_26.out)
        have NE_32 := Aside0.mk (show n26 ≠ w26.heap.size from fun h => by have := blk_lt P6_26.out; omega)
        obtain ⟨n32, hn32⟩ : ∃ n, w26.heap.size = n := ⟨_, rfl⟩
        obtain ⟨w32, hw32⟩ : ∃ w', w26.alloc (.cells #[.int .i64 0, .int .i64 0, .int .i64 0] 51) = w' := ⟨_, rfl⟩
        rw [hn32] at P5_32 P5L_32 NE_32 ⊢
        rw [hw32] at BV_32 BW_32 P6_32 P5_32 HB32_ ⊢
        clear hn32 hw32
        refine hK.out _ _ ⟨cell3 BV_32.out, cell3 BW_32.out⟩ (fun hHeld => ?_)
        clear hK K
        refine norm_ (a' := ?_) ?_ ?_
        rotate_left
        · show Act.put _ (some 5) _ = _
          simp only [Act.put, List.setIfInBounds_toArray, List.set_cons_zero, List.set_cons_succ, i64_w, i32_w]
          rfl
        refine one_ (i := 1) (N := some 9) #[true, true, true, false, true, true, false, false] rfl rfl (by kernel_rfl) (by decide) (fun K hK => ?_)
        refine goes_ Tryd.func37 (by kernel_rfl) rfl #[vecV a b c] (by rfl) rfl rfl (by (try simp only [List.map_toArray, List.map_cons, List.map_nil]); first | done | rfl) ?_
        refine (parts_calls a b c _).mono ?_
        rintro e w33 ⟨rfl, hb⟩
        have HB33_ := Aside0.mk (below_then HB32_.out HB32_.out.size hb)
        have BV_33 := Aside0.mk (blk_below BV_32.out hb)
        have BW_33 := Aside0.mk (blk_below BW_32.out hb)
        have P6_33 := Aside0.mk (blk_below P6_32.out hb)
        have P5_33 := Aside0.mk (blk_below P5_32.out hb)
        clear hb
        refine ⟨_, rfl, ?_⟩
        refine hK.out _ _ ⟨cell3 BV_33.out, cell3 BW_33.out⟩ (fun hHeld => ?_)
        clear hK K
        refine norm_ (a' := ?_) ?_ ?_
        rotate_left
        · show Act.put _ (some 9) _ = _
          simp only [Act.put, List.setIfInBounds_toArray, List.set_cons_zero, List.set_cons_succ, i64_w, i32_w]
          rfl
        refine one_ (i := 3) (N := some 11) #[true, true, true, true, true, true, false, false] rfl rfl (by kernel_rfl) (by decide) (fun K hK => ?_)
        refine goes_ Tryd.func37 (by kernel_rfl) rfl #[vecV x y z] (by rfl) rfl rfl (by (try simp only [List.map_toArray, List.map_cons, List.map_nil]); first | done | rfl) ?_
        refine (parts_calls x y z _).mono ?_
        rintro e w34 ⟨rfl, hb⟩
        have HB34_ := Aside0.mk (below_then HB33_.out HB33_.out.size hb)
        have BV_34 := Aside0.mk (blk_below BV_33.out hb)
        have BW_34 := Aside0.mk (blk_below BW_33.out hb)
        have P6_34 := Aside0.mk (blk_below P6_33.out hb)
        have P5_34 := Aside0.mk (blk_below P5_33.out hb)
        clear hb
        refine ⟨_, rfl, ?_⟩
        refine hK.out _ _ ⟨cell3 BV_34.out, cell3 BW_34.out⟩ (fun hHeld => ?_)
        clear hK K
        refine norm_ (a' := ?_) ?_ ?_
        rotate_left
        · show Act.put _ (some 11) _ = _
          simp only [Act.put, List.setIfInBounds_toArray, List.set_cons_zero, List.set_cons_succ, i64_w, i32_w]
          rfl
        refine norm_ (a' := putAll _ [(9, vecV a b c), (11, vecV x y z), (5, .pointer (some ⟨n32, 0, none⟩)), (6, .pointer (some ⟨n26, 0, none⟩))]) ?_ (hJ (n32, n26) w34 ⟨HB34_, ⟨(Ne.symm NE_32.out)⟩, P5L_32, P6L_26, P5_34, P6_34, BV_34, BW_34⟩)
        simp only [putAll, Act.put, List.setIfInBounds_toArray, List.set_cons_zero, List.set_cons_succ]
  rintro ⟨n5, n6⟩ w1 ⟨HB1, NE, L5, L6, P5, P6, BV1, BW1⟩
  refine norm_ (a' := ?_) ?_ ?_
  rotate_left
  · simp only [putAll, Act.put, List.setIfInBounds_toArray, List.set_cons_zero, List.set_cons_succ]
    rfl
  have hne : n5 ≠ n6 := NE.out
  obtain ⟨z50, z51, z52⟩ := cell3 P5.out
  have f5 := fun i => blk_frozen P5.out i
  obtain ⟨z60, z61, z62⟩ := cell3 P6.out
  have f6 := fun i => blk_frozen P6.out i
  refine one_ (i := 6) (N := none) #[true, true, true, true, true, true, true, false] rfl rfl (by kernel_rfl) (by decide) (fun K hK => ?_)
  refine skip_ (w1 := ?_) (by rfl) rfl ?_ ?_
  rotate_left
  · go_simp
    rfl
  refine hK.out _ _ ⟨cell3 (keep3 BV1.out (by have := L5.out; omega) _ _ _), cell3 (keep3 BW1.out (by have := L5.out; omega) _ _ _)⟩ (fun hHeld => ?_)
  clear hK K
  have HB2 := Aside0.mk (below3 HB1.out (show w.heap.size ≤ n5 by have := L5.out; omega) (.int .i64 a) (.int .i64 b) (.int .i64 c))
  have BV2 := Aside0.mk (keep3 BV1.out (show w.heap.size ≠ n5 by have := L5.out; omega) (.int .i64 a) (.int .i64 b) (.int .i64 c))
  have BW2 := Aside0.mk (keep3 BW1.out (show w.heap.size + 1 ≠ n5 by have := L5.out; omega) (.int .i64 a) (.int .i64 b) (.int .i64 c))
  have Q5 := Aside0.mk (put3 P5.out (.int .i64 a) (.int .i64 b) (.int .i64 c))
  have Q6 := Aside0.mk (keep3 P6.out (Ne.symm hne) (.int .i64 a) (.int .i64 b) (.int .i64 c))
  obtain ⟨w2, hw2⟩ : ∃ w2, ((w1.setCell ⟨n5, 0, none⟩ (.int .i64 a)).setCell ⟨n5, 1, none⟩ (.int .i64 b)).setCell ⟨n5, 2, none⟩ (.int .i64 c) = w2 := ⟨_, rfl⟩
  rw [hw2] at HB2 BV2 BW2 Q5 Q6 ⊢
  clear hw2 z50 z51 z52 z60 z61 z62 f5 f6
  obtain ⟨z60, z61, z62⟩ := cell3 Q6.out
  have f6 := fun i => blk_frozen Q6.out i
  refine one_ (i := 7) (N := none) #[true, true, true, true, true, true, true, true] rfl rfl (by kernel_rfl) (by decide) (fun K hK => ?_)
  refine skip_ (w1 := ?_) (by rfl) rfl ?_ ?_
  rotate_left
  · go_simp
    rfl
  refine hK.out _ _ ⟨cell3 (keep3 BV2.out (by have := L6.out; omega) _ _ _), cell3 (keep3 BW2.out (by have := L6.out; omega) _ _ _)⟩ (fun hHeld => ?_)
  clear hK K
  have HB3 := Aside0.mk (below3 HB2.out (show w.heap.size ≤ n6 by have := L6.out; omega) (.int .i64 x) (.int .i64 y) (.int .i64 z))
  have R5 := Aside0.mk (keep3 Q5.out hne (.int .i64 x) (.int .i64 y) (.int .i64 z))
  have R6 := Aside0.mk (put3 Q6.out (.int .i64 x) (.int .i64 y) (.int .i64 z))
  obtain ⟨w3, hw3⟩ : ∃ w3, ((w2.setCell ⟨n6, 0, none⟩ (.int .i64 x)).setCell ⟨n6, 1, none⟩ (.int .i64 y)).setCell ⟨n6, 2, none⟩ (.int .i64 z) = w3 := ⟨_, rfl⟩
  rw [hw3] at HB3 R5 R6 ⊢
  clear hw3 z60 z61 z62 f6 HB1 HB2 P5 P6 BV1 BW1 BV2 BW2 Q5 Q6
  refine done_ (by kernel_rfl) ?_
  go_wp2_with fail
  go_loopw [12] (fun v12 wr => ∃ k : Nat, k ≤ 3 ∧ v12 = .int .i64 k ∧ Aside0 (∀ j, j < k → pt a b c j ≤ pt x y z j) ∧ Aside0 (Below w.heap.size w wr) ∧ Aside0 (wr.heap[n5]? = some (.cells #[.int .i64 a, .int .i64 b, .int .i64 c] 51 (0, 0))) ∧ Aside0 (wr.heap[n6]? = some (.cells #[.int .i64 x, .int .i64 y, .int .i64 z] 51 (0, 0)))) (fun v12 _ => 3 - (intOf v12).toNat)
  case atStart => exact ⟨0, by omega, rfl, ⟨fun j hj => by omega⟩, HB3, R5, R6⟩
  case round =>
    clear HB3 R5 R6
    obtain ⟨k, hk, rfl, HF, HB, P5, P6⟩ := hrel
    by_cases hlt : k < 3
    · go_wp2_with fail
      refine start_ (n := 7) (S := fun w' => w'.cell? ⟨n5, k, none⟩ = some (.int .i64 (pt a b c k)) ∧ w'.cell? ⟨n6, k, none⟩ = some (.int .i64 (pt x y z k))) (ds := []) #[false, false, false, false, false, false, false] (by kernel_rfl) rfl rfl ⟨cellk P5.out k hlt, cellk P6.out k hlt⟩ (fun hHeld => ?_)
      refine pure_ (i := 0) (N := some 15) (v := ?_) (a' := ?_) #[true, false, false, false, false, false, false] rfl rfl (by kernel_rfl) (fun _ _ _ h => h) (Or.inl ⟨by rfl, ?_⟩) ?_ ?_
      rotate_left
      · intro w'
        go_simp
        with_reducible rfl
      rotate_left
      · simp only [Act.put, List.setIfInBounds_toArray, List.set_cons_zero, List.set_cons_succ, i64_w, i32_w]
        rfl
      refine pure_ (i := 1) (N := some 16) (v := ?_) (a' := ?_) #[true, true, false, false, false, false, false] rfl rfl (by kernel_rfl) (fun _ _ _ h => h) (Or.inl ⟨by rfl, ?_⟩) ?_ ?_
      rotate_left
      · intro w'
        go_simp
        with_reducible rfl
      rotate_left
      · simp only [Act.put, List.setIfInBounds_toArray, List.set_cons_zero, List.set_cons_succ, i64_w, i32_w]
        rfl
      refine take_ (i := 2) (N := some 17) (v := ?_) (a' := ?_) #[true, true, true, false, false, false, false] rfl rfl (by kernel_rfl) (fun _ _ _ h => h) (Or.inl ⟨by rfl, ?_⟩) hHeld ?_ ?_
      rotate_left
      · rintro w' ⟨s0, s1⟩
        go_simp
        with_reducible rfl
      rotate_left
      · simp only [Act.put, List.setIfInBounds_toArray, List.set_cons_zero, List.set_cons_succ, i64_w, i32_w]
        rfl
      refine pure_ (i := 3) (N := some 18) (v := ?_) (a' := ?_) #[true, true, true, true, false, false, false] rfl rfl (by kernel_rfl) (fun _ _ _ h => h) (Or.inl ⟨by rfl, ?_⟩) ?_ ?_
      rotate_left
      · intro w'
        go_simp
        with_reducible rfl
      rotate_left
      · simp only [Act.put, List.setIfInBounds_toArray, List.set_cons_zero, List.set_cons_succ, i64_w, i32_w]
        rfl
      refine pure_ (i := 4) (N := some 19) (v := ?_) (a' := ?_) #[true, true, true, true, true, false, false] rfl rfl (by kernel_rfl) (fun _ _ _ h => h) (Or.inl ⟨by rfl, ?_⟩) ?_ ?_
      rotate_left
      · intro w'
        go_simp
        with_reducible rfl
      rotate_left
      · simp only [Act.put, List.setIfInBounds_toArray, List.set_cons_zero, List.set_cons_succ, i64_w, i32_w]
        rfl
      refine take_ (i := 5) (N := some 20) (v := ?_) (a' := ?_) #[true, true, true, true, true, true, false] rfl rfl (by kernel_rfl) (fun _ _ _ h => h) (Or.inl ⟨by rfl, ?_⟩) hHeld ?_ ?_
      rotate_left
      · rintro w' ⟨s0, s1⟩
        go_simp
        with_reducible rfl
      rotate_left
      · simp only [Act.put, List.setIfInBounds_toArray, List.set_cons_zero, List.set_cons_succ, i64_w, i32_w]
        rfl
      refine pure_ (i := 6) (N := some 21) (v := ?_) (a' := ?_) #[true, true, true, true, true, true, true] rfl rfl (by kernel_rfl) (fun _ _ _ h => h) (Or.inl ⟨by rfl, ?_⟩) ?_ ?_
      rotate_left
      · intro w'
        go_simp
        with_reducible rfl
      rotate_left
      · simp only [Act.put, List.setIfInBounds_toArray, List.set_cons_zero, List.set_cons_succ, i64_w, i32_w]
        rfl
      refine done_ (by kernel_rfl) ?_
      have HBd := Aside0.mk (below_drew HB.out)
      have P5d := Aside0.mk (blk_drew P5.out)
      have P6d := Aside0.mk (blk_drew P6.out)
      by_cases hg : pt x y z k < pt a b c k
      · have HV := Aside0.mk (show fitsB a b c x y z = false from by
          cases h : fitsB a b c x y z with
          | false => rfl
          | true => have := (fitsB_k a b c x y z).1 h k hlt; omega)
        go_wp2
        go_ret
        exact ⟨by rw [HV.out]; rfl, HBd.out⟩
      · have HF' := Aside0.mk (show ∀ j, j < k + 1 → pt a b c j ≤ pt x y z j from fun j hj => by
          by_cases e : j = k
          · rw [e]; omega
          · exact HF.out j (by omega))
        go_wp2
        go_roundw
        case rel => exact ⟨k + 1, by omega, by simp, HF', HBd, P5d, P6d⟩
        case measure => simp [intOf]; omega
    · obtain rfl : k = 3 := by omega
      have HV := Aside0.mk (show fitsB a b c x y z = true from (fitsB_k a b c x y z).2 HF.out)
      go_wp2
      go_ret
      exact ⟨by rw [HV.out]; rfl, HB.out⟩
end Go.Proofs.YtcpikafmclfcfaaDoor.Vc
end
section
namespace Go.Proofs.YtcpikafmclfcfaaDoor.Vc
open Go.RowKit Go.Proofs.YtcpikafmclfcfaaDoorW.PrintWords Go.Proofs.YtcpikafmclfcfaaDoorW.PrintLast Go.Proofs.YtcpikafmclfcfaaDoorW.PrintMore Go.Proofs.YtcpikafmclfcfaaDoor.PV Go.Proofs.YtcpikafmclfcfaaDoor.Vl
set_option linter.unusedVariables false
set_option linter.unusedSimpArgs false
end Go.Proofs.YtcpikafmclfcfaaDoor.Vc
end
section
namespace Go.Proofs.YtcpikafmclfcfaaDoor.Vc
open Go.RowKit Go.Proofs.YtcpikafmclfcfaaDoorW.PrintWords Go.Proofs.YtcpikafmclfcfaaDoorW.PrintLast Go.Proofs.YtcpikafmclfcfaaDoorW.PrintMore Go.Proofs.YtcpikafmclfcfaaDoor.PV Go.Proofs.YtcpikafmclfcfaaDoor.Vl
set_option linter.unusedVariables false
set_option linter.unusedSimpArgs false
end Go.Proofs.YtcpikafmclfcfaaDoor.Vc
end
section
namespace Go.Proofs.YtcpikafmclfcfaaDoor.Vc
open Go.RowKit Go.Proofs.YtcpikafmclfcfaaDoorW.PrintWords Go.Proofs.YtcpikafmclfcfaaDoorW.PrintLast Go.Proofs.YtcpikafmclfcfaaDoorW.PrintMore Go.Proofs.YtcpikafmclfcfaaDoor.PV Go.Proofs.YtcpikafmclfcfaaDoor.Vl
set_option linter.unusedVariables false
set_option linter.unusedSimpArgs false
end Go.Proofs.YtcpikafmclfcfaaDoor.Vc
end
section
namespace Go.Proofs.YtcpikafmclfcfaaDoor.Vc
open Go.RowKit Go.Proofs.YtcpikafmclfcfaaDoorW.PrintWords Go.Proofs.YtcpikafmclfcfaaDoorW.PrintLast Go.Proofs.YtcpikafmclfcfaaDoorW.PrintMore Go.Proofs.YtcpikafmclfcfaaDoor.PV Go.Proofs.YtcpikafmclfcfaaDoor.Vl
set_option linter.unusedVariables false
set_option linter.unusedSimpArgs false
def or3 (u v s : Int) : Int := if u ≠ 0 then u else if v ≠ 0 then v else s
set_option maxHeartbeats 2000000 in
set_option maxRecDepth 100000 in
theorem Or_calls (u v s : Int) (b : Nat) (w : World) (h : w.heap[b]? = some (.cells #[.int .i64 u, .int .i64 v, .int .i64 s] 3 (0, 0))) :
    Calls Tryd.prog 62 #[.slice (some ⟨b, 0, none⟩) 3 3] w fun e w' => e = .returned (.int .i64 (or3 u v s)) ∧ Below w.heap.size w w' := by
  obtain ⟨c0, c1, c2⟩ := cell3 h
  clear h
  unfold or3
  by_cases hu : u = 0
  · subst hu
    by_cases hv : v = 0
    · subst hv
      by_cases hs : s = 0
      · subst hs
        go_enter Tryd.func62, Tryd.ntmps62
        go_wp2
        refine wp_loop_rounds 4 ?_
        repeat any_goals (rw [rounds_succ]; go_wp2)
        go_ret
        exact ⟨rfl, Below.refl _ _⟩
      · have ds : (s != 0) = true := by simp [hs]
        clear hs
        go_enter Tryd.func62, Tryd.ntmps62
        go_wp2
        refine wp_loop_rounds 4 ?_
        repeat any_goals (rw [rounds_succ]; go_wp2)
        go_ret
        exact ⟨by simp, Below.refl _ _⟩
    · have dv : (v != 0) = true := by simp [hv]
      rw [if_neg (by simp), if_pos hv]
      clear hv
      go_enter Tryd.func62, Tryd.ntmps62
      go_wp2
      refine wp_loop_rounds 4 ?_
      repeat any_goals (rw [rounds_succ]; go_wp2)
      go_ret
      exact ⟨rfl, Below.refl _ _⟩
  · have du : (u != 0) = true := by simp [hu]
    rw [if_pos hu]
    clear hu
    go_enter Tryd.func62, Tryd.ntmps62
    go_wp2
    refine wp_loop_rounds 4 ?_
    repeat any_goals (rw [rounds_succ]; go_wp2)
    go_ret
    exact ⟨rfl, Below.refl _ _⟩
def orderV (a b c x y z : Int) : Int := or3 (Go.Lib.compareInt a x) (Go.Lib.compareInt b y) (Go.Lib.compareInt c z)
set_option maxHeartbeats 4000000 in
set_option maxRecDepth 100000 in
theorem order_calls (a b c x y z : Int) (w : World) : Calls Tryd.prog 42 #[vecV a b c, vecV x y z] w fun e w' => e = .returned (.int .i64 (orderV a b c x y z)) ∧ Below w.heap.size w w' := by
  have hu23 := Tryd.underlying23
  have hu66 := Tryd.underlying66
  go_enter Tryd.func42, Tryd.ntmps42
  go_wp2_with fail
  obtain ⟨w0, hw0⟩ : ∃ w0, (w.alloc (.cells #[.int .i64 a, .int .i64 b, .int .i64 c] 23)).alloc (.cells #[.int .i64 x, .int .i64 y, .int .i64 z] 23) = w0 := ⟨_, rfl⟩
  have HBa := Aside0.mk (below_alloc (below_alloc (Below.refl w.heap.size w) (.cells #[.int .i64 a, .int .i64 b, .int .i64 c] 23)) (.cells #[.int .i64 x, .int .i64 y, .int .i64 z] 23))
  have BVa := Aside0.mk (blk_alloc (blk_new w (.cells #[.int .i64 a, .int .i64 b, .int .i64 c] 23)) (.cells #[.int .i64 x, .int .i64 y, .int .i64 z] 23))
  have BWa := Aside0.mk (blk_new (w.alloc (.cells #[.int .i64 a, .int .i64 b, .int .i64 c] 23)) (.cells #[.int .i64 x, .int .i64 y, .int .i64 z] 23))
  rw [World.size_alloc] at BWa
  rw [hw0] at HBa BVa BWa ⊢
  clear hw0
  have HB := Aside0.mk (below_drew HBa.out)
  have BV := Aside0.mk (blk_drew BVa.out)
  have BW := Aside0.mk (blk_drew BWa.out)
  clear HBa BVa BWa
  refine start_ (n := 18) (S := fun w' => (w'.cell? ⟨w.heap.size, 0, none⟩ = some (.int .i64 a) ∧ w'.cell? ⟨w.heap.size, 1, none⟩ = some (.int .i64 b) ∧ w'.cell? ⟨w.heap.size, 2, none⟩ = some (.int .i64 c)) ∧ (w'.cell? ⟨w.heap.size + 1, 0, none⟩ = some (.int .i64 x) ∧ w'.cell? ⟨w.heap.size + 1, 1, none⟩ = some (.int .i64 y) ∧ w'.cell? ⟨w.heap.size + 1, 2, none⟩ = some (.int .i64 z))) (ds := []) #[false, false, false, false, false, false, false, false, false, false, false, false, false, false, false, false, false, false] (by kernel_rfl) rfl rfl ⟨cell3 BV.out, cell3 BW.out⟩ (fun hHeld => ?_)
  refine pure_ (i := 0) (N := some 5) (v := ?_) (a' := ?_) #[true, false, false, false, false, false, false, false, false, false, false, false, false, false, false, false, false, false] rfl rfl (by kernel_rfl) (fun _ _ _ h => h) (Or.inl ⟨by rfl, ?_⟩) ?_ ?_
  rotate_left
  · intro w'
    go_simp
    with_reducible rfl
  rotate_left
  · simp only [Act.put, List.setIfInBounds_toArray, List.set_cons_zero, List.set_cons_succ, i64_w, i32_w]
    rfl
  refine pure_ (i := 2) (N := some 7) (v := ?_) (a' := ?_) #[true, false, true, false, false, false, false, false, false, false, false, false, false, false, false, false, false, false] rfl rfl (by kernel_rfl) (fun _ _ _ h => h) (Or.inl ⟨by rfl, ?_⟩) ?_ ?_
  rotate_left
  · intro w'
    go_simp
    with_reducible rfl
  rotate_left
  · simp only [Act.put, List.setIfInBounds_toArray, List.set_cons_zero, List.set_cons_succ, i64_w, i32_w]
    rfl
  refine pure_ (i := 5) (N := some 10) (v := ?_) (a' := ?_) #[true, false, true, false, false, true, false, false, false, false, false, false, false, false, false, false, false, false] rfl rfl (by kernel_rfl) (fun _ _ _ h => h) (Or.inl ⟨by rfl, ?_⟩) ?_ ?_
  rotate_left
  · intro w'
    go_simp
    with_reducible rfl
  rotate_left
  · simp only [Act.put, List.setIfInBounds_toArray, List.set_cons_zero, List.set_cons_succ, i64_w, i32_w]
    rfl
  refine pure_ (i := 7) (N := some 12) (v := ?_) (a' := ?_) #[true, false, true, false, false, true, false, true, false, false, false, false, false, false, false, false, false, false] rfl rfl (by kernel_rfl) (fun _ _ _ h => h) (Or.inl ⟨by rfl, ?_⟩) ?_ ?_
  rotate_left
  · intro w'
    go_simp
    with_reducible rfl
  rotate_left
  · simp only [Act.put, List.setIfInBounds_toArray, List.set_cons_zero, List.set_cons_succ, i64_w, i32_w]
    rfl
  refine pure_ (i := 10) (N := some 15) (v := ?_) (a' := ?_) #[true, false, true, false, false, true, false, true, false, false, true, false, false, false, false, false, false, false] rfl rfl (by kernel_rfl) (fun _ _ _ h => h) (Or.inl ⟨by rfl, ?_⟩) ?_ ?_
  rotate_left
  · intro w'
    go_simp
    with_reducible rfl
  rotate_left
  · simp only [Act.put, List.setIfInBounds_toArray, List.set_cons_zero, List.set_cons_succ, i64_w, i32_w]
    rfl
  refine pure_ (i := 12) (N := some 17) (v := ?_) (a' := ?_) #[true, false, true, false, false, true, false, true, false, false, true, false, true, false, false, false, false, false] rfl rfl (by kernel_rfl) (fun _ _ _ h => h) (Or.inl ⟨by rfl, ?_⟩) ?_ ?_
  rotate_left
  · intro w'
    go_simp
    with_reducible rfl
  rotate_left
  · simp only [Act.put, List.setIfInBounds_toArray, List.set_cons_zero, List.set_cons_succ, i64_w, i32_w]
    rfl
  refine take_ (i := 1) (N := some 6) (v := ?_) (a' := ?_) #[true, true, true, false, false, true, false, true, false, false, true, false, true, false, false, false, false, false] rfl rfl (by kernel_rfl) (fun _ _ _ h => h) (Or.inl ⟨by rfl, ?_⟩) hHeld ?_ ?_
  rotate_left
  · rintro w' ⟨⟨s0, s1, s2⟩, ⟨s3, s4, s5⟩⟩
    go_simp
    with_reducible rfl
  rotate_left
  · simp only [Act.put, List.setIfInBounds_toArray, List.set_cons_zero, List.set_cons_succ, i64_w, i32_w]
    rfl
  refine take_ (i := 3) (N := some 8) (v := ?_) (a' := ?_) #[true, true, true, true, false, true, false, true, false, false, true, false, true, false, false, false, false, false] rfl rfl (by kernel_rfl) (fun _ _ _ h => h) (Or.inl ⟨by rfl, ?_⟩) hHeld ?_ ?_
  rotate_left
  · rintro w' ⟨⟨s0, s1, s2⟩, ⟨s3, s4, s5⟩⟩
    go_simp
    with_reducible rfl
  rotate_left
  · simp only [Act.put, List.setIfInBounds_toArray, List.set_cons_zero, List.set_cons_succ, i64_w, i32_w]
    rfl
  refine take_ (i := 6) (N := some 11) (v := ?_) (a' := ?_) #[true, true, true, true, false, true, true, true, false, false, true, false, true, false, false, false, false, false] rfl rfl (by kernel_rfl) (fun _ _ _ h => h) (Or.inl ⟨by rfl, ?_⟩) hHeld ?_ ?_
  rotate_left
  · rintro w' ⟨⟨s0, s1, s2⟩, ⟨s3, s4, s5⟩⟩
    go_simp
    with_reducible rfl
  rotate_left
  · simp only [Act.put, List.setIfInBounds_toArray, List.set_cons_zero, List.set_cons_succ, i64_w, i32_w]
    rfl
  refine take_ (i := 8) (N := some 13) (v := ?_) (a' := ?_) #[true, true, true, true, false, true, true, true, true, false, true, false, true, false, false, false, false, false] rfl rfl (by kernel_rfl) (fun _ _ _ h => h) (Or.inl ⟨by rfl, ?_⟩) hHeld ?_ ?_
  rotate_left
  · rintro w' ⟨⟨s0, s1, s2⟩, ⟨s3, s4, s5⟩⟩
    go_simp
    with_reducible rfl
  rotate_left
  · simp only [Act.put, List.setIfInBounds_toArray, List.set_cons_zero, List.set_cons_succ, i64_w, i32_w]
    rfl
  refine take_ (i := 11) (N := some 16) (v := ?_) (a' := ?_) #[true, true, true, true, false, true, true, true, true, false, true, true, true, false, false, false, false, false] rfl rfl (by kernel_rfl) (fun _ _ _ h => h) (Or.inl ⟨by rfl, ?_⟩) hHeld ?_ ?_
  rotate_left
  · rintro w' ⟨⟨s0, s1, s2⟩, ⟨s3, s4, s5⟩⟩
    go_simp
    with_reducible rfl
  rotate_left
  · simp only [Act.put, List.setIfInBounds_toArray, List.set_cons_zero, List.set_cons_succ, i64_w, i32_w]
    rfl
  refine take_ (i := 13) (N := some 18) (v := ?_) (a' := ?_) #[true, true, true, true, false, true, true, true, true, false, true, true, true, true, false, false, false, false] rfl rfl (by kernel_rfl) (fun _ _ _ h => h) (Or.inl ⟨by rfl, ?_⟩) hHeld ?_ ?_
  rotate_left
  · rintro w' ⟨⟨s0, s1, s2⟩, ⟨s3, s4, s5⟩⟩
    go_simp
    with_reducible rfl
  rotate_left
  · simp only [Act.put, List.setIfInBounds_toArray, List.set_cons_zero, List.set_cons_succ, i64_w, i32_w]
    rfl
  obtain ⟨wd, hwd⟩ : ∃ wd, w0.drew = wd := ⟨_, rfl⟩
  rw [hwd] at HB BV BW ⊢
  clear hwd
  refine one_ (i := 4) (N := some 9) #[true, true, true, true, true, true, true, true, true, false, true, true, true, true, false, false, false, false] rfl rfl (by kernel_rfl) (by decide) (fun K hK => ?_)
  refine goes_ Tryd.func63 (by kernel_rfl) rfl #[.int .i64 a, .int .i64 x] (by rfl) rfl rfl (by (try simp only [List.map_toArray, List.map_cons, List.map_nil]); first | done | rfl) ?_
  refine (Tryd.cmp_Compare_int a x _).mono ?_
  rintro e w4 ⟨rfl, h4⟩
  rw [h4]
  clear h4 w4
  refine ⟨_, rfl, ?_⟩
  refine hK.out _ _ ⟨cell3 BV.out, cell3 BW.out⟩ (fun hHeld => ?_)
  clear hK K
  refine norm_ (a' := ?_) ?_ ?_
  rotate_left
  · show Act.put _ (some 9) _ = _
    simp only [Act.put, List.setIfInBounds_toArray, List.set_cons_zero, List.set_cons_succ, i64_w, i32_w]
    rfl
  refine one_ (i := 9) (N := some 14) #[true, true, true, true, true, true, true, true, true, true, true, true, true, true, false, false, false, false] rfl rfl (by kernel_rfl) (by decide) (fun K hK => ?_)
  refine goes_ Tryd.func63 (by kernel_rfl) rfl #[.int .i64 b, .int .i64 y] (by rfl) rfl rfl (by (try simp only [List.map_toArray, List.map_cons, List.map_nil]); first | done | rfl) ?_
  refine (Tryd.cmp_Compare_int b y _).mono ?_
  rintro e w9 ⟨rfl, h9⟩
  rw [h9]
  clear h9 w9
  refine ⟨_, rfl, ?_⟩
  refine hK.out _ _ ⟨cell3 BV.out, cell3 BW.out⟩ (fun hHeld => ?_)
  clear hK K
  refine norm_ (a' := ?_) ?_ ?_
  rotate_left
  · show Act.put _ (some 14) _ = _
    simp only [Act.put, List.setIfInBounds_toArray, List.set_cons_zero, List.set_cons_succ, i64_w, i32_w]
    rfl
  refine one_ (i := 14) (N := some 19) #[true, true, true, true, true, true, true, true, true, true, true, true, true, true, true, false, false, false] rfl rfl (by kernel_rfl) (by decide) (fun K hK => ?_)
  refine goes_ Tryd.func63 (by kernel_rfl) rfl #[.int .i64 c, .int .i64 z] (by rfl) rfl rfl (by (try simp only [List.map_toArray, List.map_cons, List.map_nil]); first | done | rfl) ?_
  refine (Tryd.cmp_Compare_int c z _).mono ?_
  rintro e w14 ⟨rfl, h14⟩
  rw [h14]
  clear h14 w14
  refine ⟨_, rfl, ?_⟩
  refine hK.out _ _ ⟨cell3 BV.out, cell3 BW.out⟩ (fun hHeld => ?_)
  clear hK K
  refine norm_ (a' := ?_) ?_ ?_
  rotate_left
  · show Act.put _ (some 19) _ = _
    simp only [Act.put, List.setIfInBounds_toArray, List.set_cons_zero, List.set_cons_succ, i64_w, i32_w]
    rfl
  refine one_ (i := 15) (N := some 20) #[true, true, true, true, true, true, true, true, true, true, true, true, true, true, true, true, false, false] rfl rfl (by kernel_rfl) (by decide) (fun K hK => ?_)
  refine value_ (w1 := ?_) (v := ?_) (by rfl) rfl ?_ ?_
  rotate_left 2
  · go_simp
    constructor
    · rfl
    · rfl
  have HB2 := Aside0.mk (below_alloc HB.out (.cells #[.int .i64 (Go.Lib.compareInt a x), .int .i64 (Go.Lib.compareInt b y), .int .i64 (Go.Lib.compareInt c z)] 3))
  have BV2 := Aside0.mk (blk_alloc BV.out (.cells #[.int .i64 (Go.Lib.compareInt a x), .int .i64 (Go.Lib.compareInt b y), .int .i64 (Go.Lib.compareInt c z)] 3))
  have BW2 := Aside0.mk (blk_alloc BW.out (.cells #[.int .i64 (Go.Lib.compareInt a x), .int .i64 (Go.Lib.compareInt b y), .int .i64 (Go.Lib.compareInt c z)] 3))
  have BS2 := Aside0.mk (blk_new wd (.cells #[.int .i64 (Go.Lib.compareInt a x), .int .i64 (Go.Lib.compareInt b y), .int .i64 (Go.Lib.compareInt c z)] 3))
  refine hK.out _ _ ⟨cell3 BV2.out, cell3 BW2.out⟩ (fun hHeld => ?_)
  clear hK K
  refine norm_ (a' := ?_) ?_ ?_
  rotate_left
  · show Act.put _ (some 20) _ = _
    simp only [Act.put, List.setIfInBounds_toArray, List.set_cons_zero, List.set_cons_succ, i64_w, i32_w]
    rfl
  refine one_ (i := 16) (N := some 21) #[true, true, true, true, true, true, true, true, true, true, true, true, true, true, true, true, true, false] rfl rfl (by kernel_rfl) (by decide) (fun K hK => ?_)
  refine goes_ Tryd.func62 (by kernel_rfl) rfl #[.slice (some ⟨wd.heap.size, 0, none⟩) 3 3] (by rfl) rfl rfl (by (try simp only [List.map_toArray, List.map_cons, List.map_nil]); first | done | rfl) ?_
  refine (Or_calls _ _ _ _ _ BS2.out).mono ?_
  rintro e w3 ⟨rfl, hb⟩
  have HB3 := Aside0.mk (below_then HB2.out HB2.out.size hb)
  have BV3 := Aside0.mk (blk_below BV2.out hb)
  have BW3 := Aside0.mk (blk_below BW2.out hb)
  clear hb
  refine ⟨_, rfl, ?_⟩
  refine hK.out _ _ ⟨cell3 BV3.out, cell3 BW3.out⟩ (fun hHeld => ?_)
  clear hK K
  refine norm_ (a' := ?_) ?_ ?_
  rotate_left
  · show Act.put _ (some 21) _ = _
    simp only [Act.put, List.setIfInBounds_toArray, List.set_cons_zero, List.set_cons_succ, i64_w, i32_w]
    rfl
  refine pure_ (i := 17) (N := some 4) (v := ?_) (a' := ?_) #[true, true, true, true, true, true, true, true, true, true, true, true, true, true, true, true, true, true] rfl rfl (by kernel_rfl) (fun _ _ _ h => h) (Or.inl ⟨by rfl, ?_⟩) ?_ ?_
  rotate_left
  · intro w'
    go_simp
    with_reducible rfl
  rotate_left
  · simp only [Act.put, List.setIfInBounds_toArray, List.set_cons_zero, List.set_cons_succ, i64_w, i32_w]
    rfl
  refine done_ (by kernel_rfl) ?_
  go_wp2
  go_ret
  exact ⟨rfl, HB3.out⟩
def lessB (a b c x y z : Int) : Bool := decide (orderV a b c x y z < 0)
set_option maxRecDepth 100000 in
theorem Less_calls (a b c x y z : Int) (w : World) : Calls Tryd.prog 21 #[vecV a b c, vecV x y z] w fun e w' => e = .returned (.bool (lessB a b c x y z)) ∧ Below w.heap.size w w' := by
  have hu23 := Tryd.underlying23
  go_enter Tryd.func21, Tryd.ntmps21
  go_wp2_with fail
  refine (order_calls a b c x y z _).mono ?_
  rintro e w1 ⟨rfl, hb⟩
  have HB := Aside0.mk (below_then (below_alloc (below_alloc (Below.refl w.heap.size w) _) _) (below_alloc (below_alloc (Below.refl w.heap.size w) _) _).size hb)
  clear hb
  go_wp2
  go_ret
  exact ⟨rfl, HB.out⟩
theorem less_law (a b c x y z : Int) : lessB a b c x y z = if a = x then (if b = y then decide (c < z) else decide (b < y)) else decide (a < x) := by
  unfold lessB orderV or3 Go.Lib.compareInt
  by_cases h0 : a = x
  · subst h0
    by_cases h1 : b = y
    · subst h1
      by_cases h2 : c < z
      · simp [h2]
      · by_cases h3 : c > z
        · simp [h2, h3]
        · simp [h2, h3]
    · by_cases h2 : b < y
      · simp [h1, h2]
      · have h3 : b > y := by omega
        simp [h1, h2, h3]
  · by_cases h2 : a < x
    · simp [h0, h2]
    · have h3 : a > x := by omega
      simp [h0, h2, h3]
end Go.Proofs.YtcpikafmclfcfaaDoor.Vc
end
section
namespace Go.Proofs.YtcpikafmclfcfaaDoor.PY
open Go.RowKit Go.Proofs.YtcpikafmclfcfaaDoorW.PrintWords Go.Proofs.YtcpikafmclfcfaaDoor.Vl Go.Proofs.YtcpikafmclfcfaaDoor.Vc
set_option linter.unusedVariables false
def vec_Fits.f (a b c x y z : Int) : Option Bool := some (fitsB a b c x y z)
theorem vec_Fits.calls (a b c x y z : Int) (r : Bool) (w : World) (h : vec_Fits.f a b c x y z = some r) :
    Calls Tryd.prog 17 #[.agg #[.int .i64 a, .int .i64 b, .int .i64 c], .agg #[.int .i64 x, .int .i64 y, .int .i64 z]] w fun e w' => e = .returned (.bool r) ∧ Below w.heap.size w w' := by
  cases h
  exact Fits_calls a b c x y z w
def vec_Less.f (a b c x y z : Int) : Option Bool := some (lessB a b c x y z)
theorem vec_Less.calls (a b c x y z : Int) (r : Bool) (w : World) (h : vec_Less.f a b c x y z = some r) :
    Calls Tryd.prog 21 #[.agg #[.int .i64 a, .int .i64 b, .int .i64 c], .agg #[.int .i64 x, .int .i64 y, .int .i64 z]] w fun e w' => e = .returned (.bool r) ∧ Below w.heap.size w w' := by
  cases h
  exact Less_calls a b c x y z w
end Go.Proofs.YtcpikafmclfcfaaDoor.PY
end
