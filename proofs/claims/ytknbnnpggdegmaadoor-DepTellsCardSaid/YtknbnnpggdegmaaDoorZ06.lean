/- Part 6 of the proof of DepTellsCardSaid. -/
import Derived.Test.YtknbnnpggdegmaaDoorZ04
import Derived.Test.YtknbnnpggdegmaaDoorZ05
namespace Go.Proofs.YtknbnnpggdegmaaDoor.PD
open Go.RowKit Go.Proofs.YtknbnnpggdegmaaDoor.Lib Go.Proofs.YtknbnnpggdegmaaDoorW.PrintWords Go.Proofs.YtknbnnpggdegmaaDoorW.PrintLast Go.Proofs.YtknbnnpggdegmaaDoorW.PrintMore
attribute [local go_sem] max2_int min2_int max_two min_two max_three min_three max_four min_four   
set_option linter.unusedVariables false
set_option linter.unusedSimpArgs false
mutual
def dep_Parse.l0 : Nat → ByteArray → Bool → List (S52) → ByteArray → Int → Int → Int → Option (Bool × (List (S52)) × Int × Int)
  | 0, _, _, _, _, _, _, _ => none
  | k + 1, x0, x157000, x157001, x158000, x158001, x158002, x158003 => if x0.toList = ([] : List UInt8) then (some (x157000, x157001, 0, 0)) else (if (x157001.length : Int) = 32 then (some (false, ([] : List (S52)), 5, x158001)) else ((dep_reader_item.f k x158000 x158001 x158002 x158003).bind fun bt158 => (if x157001.length < 4398046511104 then ((some (x157001 ++ [(⟨bt158.1, bt158.2.1⟩ : S52)] : List (S52))).bind fun y166 => ((dep_reader_well.f bt158.2.2.1 bt158.2.2.2.1 bt158.2.2.2.2.1 bt158.2.2.2.2.2).bind fun bt169 => (if bt169.1 = true then ((dep_reader_next.f bt169.2.1 bt169.2.2.1 bt169.2.2.2.1 bt169.2.2.2.2).bind fun bt174 => (if bt174.1 = 0 then (dep_Parse.j1 k x0 bt174.1 (bt174.2.2.1 == (x0.size : Int)) x157000 y166 bt174.2.1 bt174.2.2.1 bt174.2.2.2.1 bt174.2.2.2.2) else (dep_Parse.j1 k x0 bt174.1 false x157000 y166 bt174.2.1 bt174.2.2.1 bt174.2.2.2.1 bt174.2.2.2.2))) else (some (false, ([] : List (S52)), bt169.2.2.2.1, bt169.2.2.2.2))))) else (none))))
def dep_Parse.j1 : Nat → ByteArray → Int → Bool → Bool → List (S52) → ByteArray → Int → Int → Int → Option (Bool × (List (S52)) × Int × Int)
  | 0, _, _, _, _, _, _, _, _, _ => none
  | k + 1, x0, x6, x49, x157000, x157001, x158000, x158001, x158002, x158003 => if x49 = true then (some (x157000, x157001, 0, 0)) else (if x6 = 44 then (if (x157001.length : Int) > 1 then (if (x157000 != (x6 == 63)) = true then ((dep_reader_wrong.f x158000 x158001 x158002 x158003 x158001).bind fun bt179 => (some (false, ([] : List (S52)), bt179.2.2.1, bt179.2.2.2))) else (dep_Parse.l0 k x0 (x6 == 63) x157001 x158000 (wrap64 (x158001 + 1)) x158002 x158003)) else (dep_Parse.l0 k x0 (x6 == 63) x157001 x158000 (wrap64 (x158001 + 1)) x158002 x158003)) else (if x6 = 63 then (if (x157001.length : Int) > 1 then (if (x157000 != (x6 == 63)) = true then ((dep_reader_wrong.f x158000 x158001 x158002 x158003 x158001).bind fun bt183 => (some (false, ([] : List (S52)), bt183.2.2.1, bt183.2.2.2))) else (dep_Parse.l0 k x0 (x6 == 63) x157001 x158000 (wrap64 (x158001 + 1)) x158002 x158003)) else (dep_Parse.l0 k x0 (x6 == 63) x157001 x158000 (wrap64 (x158001 + 1)) x158002 x158003)) else ((dep_reader_wrong.f x158000 x158001 x158002 x158003 x158001).bind fun bt187 => (some (false, ([] : List (S52)), bt187.2.2.1, bt187.2.2.2)))))
end
def dep_Parse.f (k : Nat) (a0 : ByteArray) : Option (Bool × (List (S52)) × Int × Int) := dep_Parse.l0 k a0 false ([] : List (S52)) a0 0 0 0
theorem dep_Parse.mono_l : ∀ k, (∀ y0 y1 y2 y3 y4 y5 y6, LeO (dep_Parse.l0 k y0 y1 y2 y3 y4 y5 y6) (dep_Parse.l0 (k + 1) y0 y1 y2 y3 y4 y5 y6)) ∧ (∀ y0 y1 y2 y3 y4 y5 y6 y7 y8, LeO (dep_Parse.j1 k y0 y1 y2 y3 y4 y5 y6 y7 y8) (dep_Parse.j1 (k + 1) y0 y1 y2 y3 y4 y5 y6 y7 y8))
  | 0 => ⟨fun _ _ _ _ _ _ _ r h => by simp [dep_Parse.l0] at h, fun _ _ _ _ _ _ _ _ _ r h => by simp [dep_Parse.j1] at h⟩
  | k + 1 => by
    obtain ⟨ih0, ih1⟩ := dep_Parse.mono_l k
    refine ⟨?_, ?_⟩
    · intro y0 y1 y2 y3 y4 y5 y6
      unfold dep_Parse.l0
      repeat' first
      | (with_reducible exact ih0 _ _ _ _ _ _ _)
      | (with_reducible exact ih1 _ _ _ _ _ _ _ _ _)
      | (with_reducible exact dep_reader_item.mono _ _ _ _ _)
      | (with_reducible exact LeO.refl _)
      | (with_reducible exact LeO.none _)
      | (with_reducible refine LeO.ite ?_ ?_)
      | (with_reducible refine LeO.bind ?_ (fun _ => ?_))
      | exact ih0 _ _ _ _ _ _ _
      | exact ih1 _ _ _ _ _ _ _ _ _
      | exact dep_reader_item.mono _ _ _ _ _
      | exact LeO.none _
      | refine LeO.ite ?_ ?_
      | refine LeO.bind ?_ (fun _ => ?_)
    · intro y0 y1 y2 y3 y4 y5 y6 y7 y8
      unfold dep_Parse.j1
      repeat' first
      | (with_reducible exact ih0 _ _ _ _ _ _ _)
      | (with_reducible exact ih1 _ _ _ _ _ _ _ _ _)
      | (with_reducible exact dep_reader_item.mono _ _ _ _ _)
      | (with_reducible exact LeO.refl _)
      | (with_reducible exact LeO.none _)
      | (with_reducible refine LeO.ite ?_ ?_)
      | (with_reducible refine LeO.bind ?_ (fun _ => ?_))
      | exact ih0 _ _ _ _ _ _ _
      | exact ih1 _ _ _ _ _ _ _ _ _
      | exact dep_reader_item.mono _ _ _ _ _
      | exact LeO.none _
      | refine LeO.ite ?_ ?_
      | refine LeO.bind ?_ (fun _ => ?_)
theorem dep_Parse.mono : ∀ a0 k, LeO (dep_Parse.f k a0) (dep_Parse.f (k + 1) a0) := by
  intro a0 k
  obtain ⟨ih0, ih1⟩ := dep_Parse.mono_l k
  unfold dep_Parse.f
  repeat' first
      | (with_reducible exact ih0 _ _ _ _ _ _ _)
      | (with_reducible exact ih1 _ _ _ _ _ _ _ _ _)
      | (with_reducible exact dep_reader_item.mono _ _ _ _ _)
      | (with_reducible exact LeO.refl _)
      | (with_reducible exact LeO.none _)
      | (with_reducible refine LeO.ite ?_ ?_)
      | (with_reducible refine LeO.bind ?_ (fun _ => ?_))
      | exact ih0 _ _ _ _ _ _ _
      | exact ih1 _ _ _ _ _ _ _ _ _
      | exact dep_reader_item.mono _ _ _ _ _
      | exact LeO.none _
      | refine LeO.ite ?_ ?_
      | refine LeO.bind ?_ (fun _ => ?_)
def dep_Parse.T5 : Bool × List (List Nat × List Nat) := (true, [([], []), ([], []), ([1], [1]), ([2], [2]), ([3], [3]), ([4], [4]), ([0, 0], [0]), ([5, 6, 0, 1, 2, 3, 4, 5, 6], [5])])
def dep_Parse.B5 : List Nat := [0, 0, 2, 6, 14, 30, 1, 127]
theorem dep_Parse.tab5 : rtab .any (opsOf Tryd.f16 5) = dep_Parse.T5 := by kernel_rfl
theorem dep_Parse.bits5 : waitsOk dep_Parse.T5.2 dep_Parse.B5 = true := by kernel_rfl
def dep_Parse.T6 : Bool × List (List Nat × List Nat) := (true, [([], []), ([0], [0]), ([], []), ([2], [2]), ([3], [3]), ([1, 4, 3], [1, 4]), ([0, 1, 2, 3, 4, 5], []), ([6, 5, 5, 0, 1, 2, 3, 4, 5], [5, 6])])
def dep_Parse.B6 : List Nat := [0, 1, 0, 4, 12, 31, 63, 127]
theorem dep_Parse.tab6 : rtab .any (opsOf Tryd.f16 6) = dep_Parse.T6 := by kernel_rfl
theorem dep_Parse.bits6 : waitsOk dep_Parse.T6.2 dep_Parse.B6 = true := by kernel_rfl
set_option maxHeartbeats 8000000 in
set_option maxRecDepth 100000 in
theorem dep_Parse.calls (k : Nat) (a0 : ByteArray) (r1 : Bool) (r2 : List (S52)) (r3 : Int) (r4 : Int) (w : World) (h : dep_Parse.f k a0 = some (r1, r2, r3, r4)) (hG_ : Glob w) :
    Calls Tryd.prog 16 #[.string a0] w fun e w' => ∃ v1_ : Value, e = .returned (.tuple #[.agg #[.bool r1, v1_], .agg #[.int .i64 r3, .int .i64 r4]]) ∧ Kd.S k52 52 w' w.heap.size (fun _ => True) v1_ r2 ∧ Below w.heap.size w w' := by
  have HG_ := Aside0.mk hG_
  clear hG_
  have hu31 := Tryd.underlying31
  have hu39 := Tryd.underlying39
  have hu71 := Tryd.underlying71
  have HB := Aside0.mk (Below.refl w.heap.size w)
  have H : (dep_Parse.l0 k a0 false ([] : List (S52)) a0 0 0 0) = some (r1, r2, r3, r4) := h
  clear h
  have H' := Aside0.mk H
  clear H
  go_enter Tryd.func16, Tryd.ntmps16
  go_wp2_with (first | ((with_reducible refine gate_dst (N := 2) rfl ?_); (try (refine gate_guard (by rfl) ?_; dsimp only)); refine box_event ?hg (N := 2) ?hd (cs := #[.bool false, .slice none 0 0]) (t := 31) ?hr ?_; (case hd => rfl); (case hg => rfl); (case hr => first | (go_simp; done) | (go_simp; rfl)); intro gb154 hg w2 hbox hb; have n0_ := Aside0.mk (below_step (by repeat (first | (with_reducible first | exact HB.out | apply below_alloc | apply pw_below_drewN | apply below_drew1) | exact HB.out)) hb); have n1_ := Aside0.mk (hbox); have n2_ := Aside0.mk ((by rw [hg]; exact (below_size (by repeat (first | (with_reducible first | exact HB.out | apply below_alloc | apply pw_below_drewN | apply below_drew1) | exact HB.out))) : w.heap.size ≤ gb154)); have n3_ := Aside0.mk ((by rw [hg]; exact (below_size (by repeat (first | (with_reducible first | exact HB.out | apply below_alloc | apply pw_below_drewN | apply below_drew1) | exact HB.out))) : w.heap.size ≤ gb154)); clear HB; have HB := n0_; have BK154 := n1_; have GW154 := n2_; have GE154 := n3_; clear n0_ n1_ n2_ n3_; clear hb hbox hg) | ((with_reducible refine gate_dst (N := 3) rfl ?_); (try (refine gate_guard (by rfl) ?_; dsimp only)); refine box_event ?hg (N := 3) ?hd (cs := #[.int .i64 0, .int .i64 0]) (t := 39) ?hr ?_; (case hd => rfl); (case hg => rfl); (case hr => first | (go_simp; done) | (go_simp; rfl)); intro gb155 hg w3 hbox hb; have n0_ := Aside0.mk (blk_below (g := gb154) (o := .cells #[.bool false, .slice none 0 0] 31 (0, 0)) (by (with_reducible repeat (first | refine blk_drewN ?_ _ | refine blk_drew ?_ | refine blk_alloc ?_ _)); exact BK154.out) hb); have n1_ := Aside0.mk (below_step (by repeat (first | (with_reducible first | exact HB.out | apply below_alloc | apply pw_below_drewN | apply below_drew1 | refine below_set ?_ GE154.out) | exact HB.out)) hb); have n2_ := Aside0.mk (hbox); have n3_ := Aside0.mk ((by rw [hg]; exact (below_size (by repeat (first | (with_reducible first | exact HB.out | apply below_alloc | apply pw_below_drewN | apply below_drew1 | refine below_set ?_ GE154.out) | exact HB.out))) : w.heap.size ≤ gb155)); have n4_ := Aside0.mk ((by rw [hg]; exact (below_size (by repeat (first | (with_reducible first | exact HB.out | apply below_alloc | apply pw_below_drewN | apply below_drew1 | refine below_set ?_ GE154.out) | exact HB.out))) : w.heap.size ≤ gb155)); have n5_ := Aside0.mk ((by rw [hg]; exact Nat.ne_of_lt (blk_lt (g := gb154) (o := .cells #[.bool false, .slice none 0 0] 31 (0, 0)) (by (with_reducible repeat (first | refine blk_drewN ?_ _ | refine blk_drew ?_ | refine blk_alloc ?_ _)); exact BK154.out)) : gb154 ≠ gb155)); have n6_ := Aside0.mk ((by rw [hg]; exact Nat.ne_of_gt (blk_lt (g := gb154) (o := .cells #[.bool false, .slice none 0 0] 31 (0, 0)) (by (with_reducible repeat (first | refine blk_drewN ?_ _ | refine blk_drew ?_ | refine blk_alloc ?_ _)); exact BK154.out)) : gb155 ≠ gb154)); clear BK154; clear HB; have BK154 := n0_; have HB := n1_; have BK155 := n2_; have GW155 := n3_; have GE155 := n4_; have NB154_155 := n5_; have NB155_154 := n6_; clear n0_ n1_ n2_ n3_ n4_ n5_ n6_; clear hb hbox hg) | ((with_reducible refine gate_dst (N := 4) rfl ?_); (try (refine gate_guard (by rfl) ?_; dsimp only)); refine box_event ?hg (N := 4) ?hd (cs := #[.bool false, .slice none 0 0]) (t := 31) ?hr ?_; (case hd => rfl); (case hg => rfl); (case hr => first | (go_simp; done) | (go_simp; rfl)); intro gb156 hg w4 hbox hb; have n0_ := Aside0.mk (blk_below (g := gb154) (o := .cells #[.bool false, .slice none 0 0] 31 (0, 0)) (by (with_reducible repeat (first | refine blk_drewN ?_ _ | refine blk_drew ?_ | refine blk_alloc ?_ _)); exact BK154.out) hb); have n1_ := Aside0.mk (blk_below (g := gb155) (o := .cells #[.int .i64 0, .int .i64 0] 39 (0, 0)) (by (with_reducible repeat (first | refine blk_drewN ?_ _ | refine blk_drew ?_ | refine blk_alloc ?_ _)); exact BK155.out) hb); have n2_ := Aside0.mk (below_step (by repeat (first | (with_reducible first | exact HB.out | apply below_alloc | apply pw_below_drewN | apply below_drew1 | refine below_set ?_ GE154.out | refine below_set ?_ GE155.out) | exact HB.out)) hb); have n3_ := Aside0.mk (hbox); have n4_ := Aside0.mk ((by rw [hg]; exact (below_size (by repeat (first | (with_reducible first | exact HB.out | apply below_alloc | apply pw_below_drewN | apply below_drew1 | refine below_set ?_ GE154.out | refine below_set ?_ GE155.out) | exact HB.out))) : w.heap.size ≤ gb156)); have n5_ := Aside0.mk ((by rw [hg]; exact (below_size (by repeat (first | (with_reducible first | exact HB.out | apply below_alloc | apply pw_below_drewN | apply below_drew1 | refine below_set ?_ GE154.out | refine below_set ?_ GE155.out) | exact HB.out))) : w.heap.size ≤ gb156)); have n6_ := Aside0.mk ((by rw [hg]; exact Nat.ne_of_lt (blk_lt (g := gb154) (o := .cells #[.bool false, .slice none 0 0] 31 (0, 0)) (by (with_reducible repeat (first | refine blk_drewN ?_ _ | refine blk_drew ?_ | refine blk_alloc ?_ _)); exact BK154.out)) : gb154 ≠ gb156)); have n7_ := Aside0.mk ((by rw [hg]; exact Nat.ne_of_gt (blk_lt (g := gb154) (o := .cells #[.bool false, .slice none 0 0] 31 (0, 0)) (by (with_reducible repeat (first | refine blk_drewN ?_ _ | refine blk_drew ?_ | refine blk_alloc ?_ _)); exact BK154.out)) : gb156 ≠ gb154)); have n8_ := Aside0.mk ((by rw [hg]; exact Nat.ne_of_lt (blk_lt (g := gb155) (o := .cells #[.int .i64 0, .int .i64 0] 39 (0, 0)) (by (with_reducible repeat (first | refine blk_drewN ?_ _ | refine blk_drew ?_ | refine blk_alloc ?_ _)); exact BK155.out)) : gb155 ≠ gb156)); have n9_ := Aside0.mk ((by rw [hg]; exact Nat.ne_of_gt (blk_lt (g := gb155) (o := .cells #[.int .i64 0, .int .i64 0] 39 (0, 0)) (by (with_reducible repeat (first | refine blk_drewN ?_ _ | refine blk_drew ?_ | refine blk_alloc ?_ _)); exact BK155.out)) : gb156 ≠ gb155)); clear BK154; clear BK155; clear HB; have BK154 := n0_; have BK155 := n1_; have HB := n2_; have BK156 := n3_; have GW156 := n4_; have GE156 := n5_; have NB154_156 := n6_; have NB156_154 := n7_; have NB155_156 := n8_; have NB156_155 := n9_; clear n0_ n1_ n2_ n3_ n4_ n5_ n6_ n7_ n8_ n9_; clear hb hbox hg) | ((with_reducible refine gate_dst (N := 9) rfl ?_); (try (refine gate_guard (by rfl) ?_; dsimp only)); refine box_event ?hg (N := 9) ?hd (cs := #[.string a0, .int .i64 0, .int .i64 0, .int .i64 0]) (t := 71) ?hr ?_; (case hd => rfl); (case hg => rfl); (case hr => first | (go_simp; done) | (go_simp; rfl)); intro gb157 hg w5 hbox hb; have n0_ := Aside0.mk (blk_below (g := gb154) (o := .cells #[.bool false, .slice none 0 0] 31 (0, 0)) (by (with_reducible repeat (first | refine blk_drewN ?_ _ | refine blk_drew ?_ | refine blk_alloc ?_ _)); exact BK154.out) hb); have n1_ := Aside0.mk (blk_below (g := gb155) (o := .cells #[.int .i64 0, .int .i64 0] 39 (0, 0)) (by (with_reducible repeat (first | refine blk_drewN ?_ _ | refine blk_drew ?_ | refine blk_alloc ?_ _)); exact BK155.out) hb); have n2_ := Aside0.mk (blk_below (g := gb156) (o := .cells #[.bool false, .slice none 0 0] 31 (0, 0)) (by (with_reducible repeat (first | refine blk_drewN ?_ _ | refine blk_drew ?_ | refine blk_alloc ?_ _)); exact BK156.out) hb); have n3_ := Aside0.mk (below_step (by repeat (first | (with_reducible first | exact HB.out | apply below_alloc | apply pw_below_drewN | apply below_drew1 | refine below_set ?_ GE154.out | refine below_set ?_ GE155.out | refine below_set ?_ GE156.out) | exact HB.out)) hb); have n4_ := Aside0.mk ((show IsS71 w _ gb157 a0 0 0 0 from ⟨hbox, (by rw [hg]; exact (below_size (by repeat (first | (with_reducible first | exact HB.out | apply below_alloc | apply pw_below_drewN | apply below_drew1 | refine below_set ?_ GE154.out | refine below_set ?_ GE155.out | refine below_set ?_ GE156.out) | exact HB.out))) : w.heap.size ≤ gb157)⟩)); have n5_ := Aside0.mk ((by rw [hg]; exact (below_size (by repeat (first | (with_reducible first | exact HB.out | apply below_alloc | apply pw_below_drewN | apply below_drew1 | refine below_set ?_ GE154.out | refine below_set ?_ GE155.out | refine below_set ?_ GE156.out) | exact HB.out))) : w.heap.size ≤ gb157)); have n6_ := Aside0.mk ((by rw [hg]; exact (below_size (by repeat (first | (with_reducible first | exact HB.out | apply below_alloc | apply pw_below_drewN | apply below_drew1 | refine below_set ?_ GE154.out | refine below_set ?_ GE155.out | refine below_set ?_ GE156.out) | exact HB.out))) : w.heap.size ≤ gb157)); have n7_ := Aside0.mk ((by rw [hg]; exact Nat.ne_of_lt (blk_lt (g := gb154) (o := .cells #[.bool false, .slice none 0 0] 31 (0, 0)) (by (with_reducible repeat (first | refine blk_drewN ?_ _ | refine blk_drew ?_ | refine blk_alloc ?_ _)); exact BK154.out)) : gb154 ≠ gb157)); have n8_ := Aside0.mk ((by rw [hg]; exact Nat.ne_of_gt (blk_lt (g := gb154) (o := .cells #[.bool false, .slice none 0 0] 31 (0, 0)) (by (with_reducible repeat (first | refine blk_drewN ?_ _ | refine blk_drew ?_ | refine blk_alloc ?_ _)); exact BK154.out)) : gb157 ≠ gb154)); have n9_ := Aside0.mk ((by rw [hg]; exact Nat.ne_of_lt (blk_lt (g := gb155) (o := .cells #[.int .i64 0, .int .i64 0] 39 (0, 0)) (by (with_reducible repeat (first | refine blk_drewN ?_ _ | refine blk_drew ?_ | refine blk_alloc ?_ _)); exact BK155.out)) : gb155 ≠ gb157)); have n10_ := Aside0.mk ((by rw [hg]; exact Nat.ne_of_gt (blk_lt (g := gb155) (o := .cells #[.int .i64 0, .int .i64 0] 39 (0, 0)) (by (with_reducible repeat (first | refine blk_drewN ?_ _ | refine blk_drew ?_ | refine blk_alloc ?_ _)); exact BK155.out)) : gb157 ≠ gb155)); have n11_ := Aside0.mk ((by rw [hg]; exact Nat.ne_of_lt (blk_lt (g := gb156) (o := .cells #[.bool false, .slice none 0 0] 31 (0, 0)) (by (with_reducible repeat (first | refine blk_drewN ?_ _ | refine blk_drew ?_ | refine blk_alloc ?_ _)); exact BK156.out)) : gb156 ≠ gb157)); have n12_ := Aside0.mk ((by rw [hg]; exact Nat.ne_of_gt (blk_lt (g := gb156) (o := .cells #[.bool false, .slice none 0 0] 31 (0, 0)) (by (with_reducible repeat (first | refine blk_drewN ?_ _ | refine blk_drew ?_ | refine blk_alloc ?_ _)); exact BK156.out)) : gb157 ≠ gb156)); clear BK154; clear BK155; clear BK156; clear HB; have BK154 := n0_; have BK155 := n1_; have BK156 := n2_; have HB := n3_; have HI157 := n4_; have GW157 := n5_; have GE157 := n6_; have NB154_157 := n7_; have NB157_154 := n8_; have NB155_157 := n9_; have NB157_155 := n10_; have NB156_157 := n11_; have NB157_156 := n12_; clear n0_ n1_ n2_ n3_ n4_ n5_ n6_ n7_ n8_ n9_ n10_ n11_ n12_; clear hb hbox hg))
  go_loopg [] k (fun kq w' => ∃ (x155000_1 : Bool) (x156000_1 : Int) (x156001_1 : Int) (x157000_1 : Bool) (x157001_1 : List (S52)) (x158000_1 : ByteArray) (x158001_1 : Int) (x158002_1 : Int) (x158003_1 : Int) (u157001 : Value), Aside0 (dep_Parse.l0 kq a0 x157000_1 x157001_1 x158000_1 x158001_1 x158002_1 x158003_1 = some (r1, r2, r3, r4)) ∧ Aside0 (kq ≤ k) ∧ Aside0 (Kd.S k52 52 w' w.heap.size (fun _ => True) u157001 x157001_1) ∧ Aside0 (w'.heap[gb154]? = some (.cells #[.bool x155000_1, (.slice none 0 0)] 31 (0, 0))) ∧ Aside0 (w'.heap[gb155]? = some (.cells #[.int .i64 x156000_1, .int .i64 x156001_1] 39 (0, 0))) ∧ Aside0 (w'.heap[gb156]? = some (.cells #[.bool x157000_1, u157001] 31 (0, 0))) ∧ Aside0 (IsS71 w w' gb157 x158000_1 x158001_1 x158002_1 x158003_1) ∧ Aside0 (Below w.heap.size w w'))
  case atStart => exact ⟨(false), (0), (0), (false), (([] : List (S52))), (a0), (0), (0), (0), (.slice none 0 0), H', ⟨Nat.le_refl _⟩, ⟨by first | exact Kd.S_nil _ _ _ _ _ | exact Kd.N_nil _ _ _ _ _ | exact Kd.V_nil _ _ _ _ _ | exact Kd.Q_nil _ _ _ _ _ | exact Kd.R_nil _ _ _ _ _⟩, ⟨by (with_reducible repeat (first | refine blk_drewN ?_ _ | refine blk_drew ?_ | refine blk_alloc ?_ _)); exact BK154.out⟩, ⟨by (with_reducible repeat (first | refine blk_drewN ?_ _ | refine blk_drew ?_ | refine blk_alloc ?_ _)); exact BK155.out⟩, ⟨by (with_reducible repeat (first | refine blk_drewN ?_ _ | refine blk_drew ?_ | refine blk_alloc ?_ _)); exact BK156.out⟩, ⟨by repeat (first | (with_reducible first | exact HI157.out | apply IsS71.alloc | apply IsS71.drewN | apply IsS71.drew | apply IsS71.set_0 | apply IsS71.set_1 | apply IsS71.set_2 | apply IsS71.set_3 | (apply IsS71.far; (case hne => exact NB157_154.out)) | (apply IsS71.far; (case hne => exact NB157_155.out)) | (apply IsS71.far; (case hne => exact NB157_156.out))) | exact HI157.out)⟩, ⟨by repeat (first | (with_reducible first | exact HB.out | apply below_alloc | apply pw_below_drewN | apply below_drew1 | refine below_set ?_ (IsS71.ge HI157.out) | refine below_set ?_ GE154.out | refine below_set ?_ GE155.out | refine below_set ?_ GE156.out) | exact HB.out)⟩⟩
  case round =>
    clear H'
    try clear c1
    try clear p2
    obtain ⟨x155000_1, x156000_1, x156001_1, x157000_1, x157001_1, x158000_1, x158001_1, x158002_1, x158003_1, u157001, HA, HK1, HO_157001, BK154, BK155, BK156, HI157, HB⟩ := hrel
    cases gk with
    | zero => exact absurd HA.out (by simp [dep_Parse.l0])
    | succ k1 =>
      have H := HA.out
      clear HA
      simp only [dep_Parse.l0] at H
      by_cases c6 : a0.toList = ([] : List UInt8)
      · rw [if_pos c6] at H
        have c6b0 : (a0.toList == ([] : List UInt8)) = true := beq_iff_eq.mpr c6
        have c6b1 : (a0.toList != ([] : List UInt8)) = false := bne_eq_false_iff_eq.mpr c6
        clear c6
        simp only [Option.some.injEq, Prod.mk.injEq] at H
        obtain ⟨rfl, rfl, rfl, rfl⟩ := H
        have hnb7 := NB156_154.out
        have hnc7 := NB154_156.out
        have hnb8 := NB156_155.out
        have hnc8 := NB155_156.out
        have hnb9 := NB156_157.out
        have hnc9 := NB157_156.out
        have hcz10_0 : wr.cell? ⟨gb156, 0, none⟩ = some (.bool x157000_1) := (blk_cell BK156.out 0).trans rfl
        have hcz10_1 : wr.cell? ⟨gb156, 1, none⟩ = some (u157001) := (blk_cell BK156.out 1).trans rfl
        have hfz10_0 := blk_frozen BK156.out 0
        have hfz10_1 := blk_frozen BK156.out 1
        have hnb11 := NB154_155.out
        have hnc11 := NB155_154.out
        have hnb12 := NB154_157.out
        have hnc12 := NB157_154.out
        have hcz13_0 : wr.cell? ⟨gb154, 0, none⟩ = some (.bool x155000_1) := (blk_cell BK154.out 0).trans rfl
        have hcz13_1 : wr.cell? ⟨gb154, 1, none⟩ = some (.slice none 0 0) := (blk_cell BK154.out 1).trans rfl
        have hfz13_0 := blk_frozen BK154.out 0
        have hfz13_1 := blk_frozen BK154.out 1
        obtain ⟨Ao14, co14, eo14⟩ := Kd.S_slice HO_157001.out
        subst eo14
        have hnb15 := NB155_157.out
        have hnc15 := NB157_155.out
        have hcz16_0 : wr.cell? ⟨gb155, 0, none⟩ = some (.int .i64 x156000_1) := (blk_cell BK155.out 0).trans rfl
        have hcz16_1 : wr.cell? ⟨gb155, 1, none⟩ = some (.int .i64 x156001_1) := (blk_cell BK155.out 1).trans rfl
        have hfz16_0 := blk_frozen BK155.out 0
        have hfz16_1 := blk_frozen BK155.out 1
        go_wp2
        refine bodyPost_ret (results_cc rfl _ _ gb154 gb155 31 39 #[.bool x157000_1, .slice Ao14 x157001_1.length co14] #[.int .i64 0, .int .i64 0] (0, 0) (0, 0) _ _ rfl (by (with_reducible repeat (first | refine blk_drewN ?_ _ | refine blk_drew ?_ | refine blk_alloc ?_ _)); refine blk_far ?_ NB154_155.out _; (with_reducible repeat (first | refine blk_drewN ?_ _ | refine blk_drew ?_ | refine blk_alloc ?_ _)); refine blk_far ?_ NB154_155.out _; (with_reducible repeat (first | refine blk_drewN ?_ _ | refine blk_drew ?_ | refine blk_alloc ?_ _)); refine blk_put (cs := #[.bool x157000_1, .slice none 0 0]) ?_ 1 _ rfl; (with_reducible repeat (first | refine blk_drewN ?_ _ | refine blk_drew ?_ | refine blk_alloc ?_ _)); refine blk_put (cs := #[.bool x155000_1, .slice none 0 0]) ?_ 0 _ rfl; (with_reducible repeat (first | refine blk_drewN ?_ _ | refine blk_drew ?_ | refine blk_alloc ?_ _)); exact BK154.out) Tryd.underlying31 rfl (by kernel_rfl) rfl (by (with_reducible repeat (first | refine blk_drewN ?_ _ | refine blk_drew ?_ | refine blk_alloc ?_ _)); refine blk_put (cs := #[.int .i64 0, .int .i64 x156001_1]) ?_ 1 _ rfl; (with_reducible repeat (first | refine blk_drewN ?_ _ | refine blk_drew ?_ | refine blk_alloc ?_ _)); refine blk_put (cs := #[.int .i64 x156000_1, .int .i64 x156001_1]) ?_ 0 _ rfl; (with_reducible repeat (first | refine blk_drewN ?_ _ | refine blk_drew ?_ | refine blk_alloc ?_ _)); refine blk_far ?_ NB155_154.out _; (with_reducible repeat (first | refine blk_drewN ?_ _ | refine blk_drew ?_ | refine blk_alloc ?_ _)); refine blk_far ?_ NB155_154.out _; (with_reducible repeat (first | refine blk_drewN ?_ _ | refine blk_drew ?_ | refine blk_alloc ?_ _)); exact BK155.out) Tryd.underlying39 rfl (by kernel_rfl)) rfl ?_
        exact ⟨_, by first | rfl | (simp [errW_none, errW_some] <;> rfl) | (simp [*, errW_none, errW_some] <;> rfl), by (with_reducible repeat (first | apply Kd.S_alloc | apply Kd.S_drewN | apply Kd.S_drew)); exact Kd.S_mono (Kd.S_far (p := ⟨gb155, 1, none⟩) (Kd.S_far (p := ⟨gb155, 0, none⟩) (Kd.S_far (p := ⟨gb154, 1, none⟩) (Kd.S_far (p := ⟨gb154, 0, none⟩) (Kd.S_types (Kd.S_types HO_157001.out BK154.out (by decide)) BK155.out (by decide)) (fun _ hk => hk.1.2) (.bool x157000_1)) (fun _ hk => hk.1.2) (.slice Ao14 x157001_1.length co14)) (fun _ hk => hk.2) (.int .i64 0)) (fun _ hk => hk.2) (.int .i64 0)) (fun _ hk => trivial), by repeat (first | (with_reducible first | exact HB.out | apply below_alloc | apply pw_below_drewN | apply below_drew1 | refine below_set ?_ (IsS71.ge HI157.out) | refine below_set ?_ GE154.out | refine below_set ?_ GE155.out | refine below_set ?_ GE156.out) | exact HB.out)⟩
      · rw [if_neg c6] at H
        have c6b0 : (a0.toList == ([] : List UInt8)) = false := beq_eq_false_iff_ne.mpr c6
        have c6b1 : (a0.toList != ([] : List UInt8)) = true := bne_iff_ne.mpr c6
        by_cases c17 : (x157001_1.length : Int) = 32
        · rw [if_pos c17] at H
          have c17b0 : ((x157001_1.length : Int) == 32) = true := beq_iff_eq.mpr c17
          have c17b1 : ((x157001_1.length : Int) != 32) = false := bne_eq_false_iff_eq.mpr c17
          clear c17
          simp only [Option.some.injEq, Prod.mk.injEq] at H
          obtain ⟨rfl, rfl, rfl, rfl⟩ := H
          have hnb18 := NB156_154.out
          have hnc18 := NB154_156.out
          have hnb19 := NB156_155.out
          have hnc19 := NB155_156.out
          have hnb20 := NB156_157.out
          have hnc20 := NB157_156.out
          have hcz21_0 : wr.cell? ⟨gb156, 0, none⟩ = some (.bool x157000_1) := (blk_cell BK156.out 0).trans rfl
          have hcz21_1 : wr.cell? ⟨gb156, 1, none⟩ = some (u157001) := (blk_cell BK156.out 1).trans rfl
          have hfz21_0 := blk_frozen BK156.out 0
          have hfz21_1 := blk_frozen BK156.out 1
          obtain ⟨Ao22, co22, eo22⟩ := Kd.S_slice HO_157001.out
          subst eo22
          try go_wp2
          have n0_ := Aside0.mk (Kd.S_drew HO_157001.out)
          have n1_ := Aside0.mk (blk_drew BK154.out)
          have n2_ := Aside0.mk (blk_drew BK155.out)
          have n3_ := Aside0.mk (blk_drew BK156.out)
          have n4_ := Aside0.mk (IsS71.drew HI157.out)
          have n5_ := Aside0.mk (below_drew1 HB.out)
          clear HO_157001
          clear BK154
          clear BK155
          clear BK156
          clear HI157
          clear HB
          have HO_157001 := n0_
          have BK154 := n1_
          have BK155 := n2_
          have BK156 := n3_
          have HI157 := n4_
          have HB := n5_
          clear n0_ n1_ n2_ n3_ n4_ n5_
          refine start_ (n := 8) (S := fun w' => w'.cell? ⟨gb157, 0, none⟩ = some (.string x158000_1) ∧ w'.cell? ⟨gb157, 1, none⟩ = some (.int .i64 x158001_1) ∧ w'.cell? ⟨gb157, 2, none⟩ = some (.int .i64 x158002_1) ∧ w'.cell? ⟨gb157, 3, none⟩ = some (.int .i64 x158003_1)) (ds := []) #[false, false, false, false, false, false, false, false] (by kernel_rfl) rfl rfl ⟨(cellS71_0 (HI157.out).1), (cellS71_1 (HI157.out).1), (cellS71_2 (HI157.out).1), (cellS71_3 (HI157.out).1)⟩ (fun hHeld => ?_); refine with_tabW dep_Parse.tab5 dep_Parse.bits5 (fun HT_ HW_ => ?_)
          generalize wr.drew = w23 at HO_157001 BK154 BK155 BK156 HI157 HB hHeld ⊢
          refine pure_ (i := 0) (N := some 16) (v := ?_) (a' := ?_) #[true, false, false, false, false, false, false, false] rfl rfl (any_of HT_.out (by kernel_rfl)) (fun _ _ _ h => h) (Or.inl ⟨by rfl, ?_⟩) ?_ ?_
          rotate_left
          · intro w'
            go_simp
            with_reducible rfl
          rotate_left
          · simp only [Act.put, List.setIfInBounds_toArray, List.set_cons_zero, List.set_cons_succ, i64_w, i32_w]
            rfl
          refine pure_ (i := 1) (N := some 17) (v := ?_) (a' := ?_) #[true, true, false, false, false, false, false, false] rfl rfl (any_of HT_.out (by kernel_rfl)) (fun _ _ _ h => h) (Or.inl ⟨by rfl, ?_⟩) ?_ ?_
          rotate_left
          · intro w'
            go_simp
            with_reducible rfl
          rotate_left
          · simp only [Act.put, List.setIfInBounds_toArray, List.set_cons_zero, List.set_cons_succ, i64_w, i32_w]
            rfl
          refine pure_ (i := 2) (N := some 18) (v := ?_) (a' := ?_) #[true, true, true, false, false, false, false, false] rfl rfl (any_of HT_.out (by kernel_rfl)) (fun _ _ _ h => h) (Or.inl ⟨by rfl, ?_⟩) ?_ ?_
          rotate_left
          · intro w'
            go_simp
            with_reducible rfl
          rotate_left
          · simp only [Act.put, List.setIfInBounds_toArray, List.set_cons_zero, List.set_cons_succ, i64_w, i32_w]
            rfl
          refine pure_ (i := 3) (N := some 19) (v := ?_) (a' := ?_) #[true, true, true, true, false, false, false, false] rfl rfl (any_of HT_.out (by kernel_rfl)) (fun _ _ _ h => h) (Or.inl ⟨by rfl, ?_⟩) ?_ ?_
          rotate_left
          · intro w'
            go_simp
            with_reducible rfl
          rotate_left
          · simp only [Act.put, List.setIfInBounds_toArray, List.set_cons_zero, List.set_cons_succ, i64_w, i32_w]
            rfl
          refine take_ (i := 4) (N := some 20) (v := ?_) (a' := ?_) #[true, true, true, true, true, false, false, false] rfl rfl (take_ofW HT_.out HW_.out (by kernel_rfl)) (fun _ _ _ h => h) (Or.inl ⟨by rfl, ?_⟩) hHeld ?_ ?_
          rotate_left
          · rintro w' ⟨s0, s1, s2, s3⟩
            go_simp
            with_reducible rfl
          rotate_left
          · simp only [Act.put, List.setIfInBounds_toArray, List.set_cons_zero, List.set_cons_succ, i64_w, i32_w]
            rfl
          refine pure_ (i := 5) (N := some 21) (v := ?_) (a' := ?_) #[true, true, true, true, true, true, false, false] rfl rfl (any_of HT_.out (by kernel_rfl)) (fun _ _ _ h => h) (Or.inl ⟨by rfl, ?_⟩) ?_ ?_
          rotate_left
          · intro w'
            go_simp
            with_reducible rfl
          rotate_left
          · simp only [Act.put, List.setIfInBounds_toArray, List.set_cons_zero, List.set_cons_succ, i64_w, i32_w]
            rfl
          refine one_ (i := 6) (N := none) #[true, true, true, true, true, true, true, false] rfl rfl (one_of HT_.out (by kernel_rfl)) (by decide) (fun K hK => ?_)
          have hs24 : w23.cell? ⟨gb154, 0, none⟩ = some (.bool x155000_1) := (blk_cell BK154.out 0).trans rfl
          have hfs24 := blk_frozen BK154.out 0
          have hns24_1 := NB155_154.out
          have hns24_2 := NB156_154.out
          have hms24_1 := NB154_155.out
          have hms24_2 := NB154_156.out
          have hs25 : w23.cell? ⟨gb154, 1, none⟩ = some (.slice none 0 0) := (blk_cell BK154.out 1).trans rfl
          have hfs25 := blk_frozen BK154.out 1
          have hns25_1 := NB155_154.out
          have hns25_2 := NB156_154.out
          have hms25_1 := NB154_155.out
          have hms25_2 := NB154_156.out
          refine skip_ (w1 := ?_) (by rfl) rfl ?_ ?_
          rotate_left
          · go_simp
            rfl
          refine hK.out _ _ ⟨((cell_far (p := ⟨gb154, _, none⟩) NB157_154.out _).trans (((cell_far (p := ⟨gb154, _, none⟩) NB157_154.out _).trans (hHeld.1)))), ((cell_far (p := ⟨gb154, _, none⟩) NB157_154.out _).trans (((cell_far (p := ⟨gb154, _, none⟩) NB157_154.out _).trans (hHeld.2.1)))), ((cell_far (p := ⟨gb154, _, none⟩) NB157_154.out _).trans (((cell_far (p := ⟨gb154, _, none⟩) NB157_154.out _).trans (hHeld.2.2.1)))), ((cell_far (p := ⟨gb154, _, none⟩) NB157_154.out _).trans (((cell_far (p := ⟨gb154, _, none⟩) NB157_154.out _).trans (hHeld.2.2.2))))⟩ (fun hHeld => ?_)
          clear hK K
          refine one_ (i := 7) (N := none) #[true, true, true, true, true, true, true, true] rfl rfl (one_of HT_.out (by kernel_rfl)) (by decide) (fun K hK => ?_)
          have hs26 : w23.cell? ⟨gb155, 0, none⟩ = some (.int .i64 x156000_1) := (blk_cell BK155.out 0).trans rfl
          have hfs26 := blk_frozen BK155.out 0
          have hns26_0 := NB154_155.out
          have hns26_2 := NB156_155.out
          have hms26_0 := NB155_154.out
          have hms26_2 := NB155_156.out
          have hs27 : w23.cell? ⟨gb155, 1, none⟩ = some (.int .i64 x156001_1) := (blk_cell BK155.out 1).trans rfl
          have hfs27 := blk_frozen BK155.out 1
          have hns27_0 := NB154_155.out
          have hns27_2 := NB156_155.out
          have hms27_0 := NB155_154.out
          have hms27_2 := NB155_156.out
          refine skip_ (w1 := ?_) (by rfl) rfl ?_ ?_
          rotate_left
          · go_simp
            rfl
          refine hK.out _ _ ⟨((cell_far (p := ⟨gb155, _, none⟩) NB157_155.out _).trans (((cell_far (p := ⟨gb155, _, none⟩) NB157_155.out _).trans (hHeld.1)))), ((cell_far (p := ⟨gb155, _, none⟩) NB157_155.out _).trans (((cell_far (p := ⟨gb155, _, none⟩) NB157_155.out _).trans (hHeld.2.1)))), ((cell_far (p := ⟨gb155, _, none⟩) NB157_155.out _).trans (((cell_far (p := ⟨gb155, _, none⟩) NB157_155.out _).trans (hHeld.2.2.1)))), ((cell_far (p := ⟨gb155, _, none⟩) NB157_155.out _).trans (((cell_far (p := ⟨gb155, _, none⟩) NB157_155.out _).trans (hHeld.2.2.2))))⟩ (fun hHeld => ?_)
          clear hK K
          refine done_ (done_of HT_.out (by kernel_rfl)) ?_
          try go_wp2
          refine bodyPost_ret (results_cc rfl _ _ gb154 gb155 31 39 #[.bool false, .slice none 0 0] #[.int .i64 5, .int .i64 x158001_1] (0, 0) (0, 0) _ _ rfl (by (with_reducible repeat (first | refine blk_drewN ?_ _ | refine blk_drew ?_ | refine blk_alloc ?_ _)); refine blk_far ?_ NB154_155.out _; (with_reducible repeat (first | refine blk_drewN ?_ _ | refine blk_drew ?_ | refine blk_alloc ?_ _)); refine blk_far ?_ NB154_155.out _; (with_reducible repeat (first | refine blk_drewN ?_ _ | refine blk_drew ?_ | refine blk_alloc ?_ _)); refine blk_put (cs := #[.bool false, .slice none 0 0]) ?_ 1 _ rfl; (with_reducible repeat (first | refine blk_drewN ?_ _ | refine blk_drew ?_ | refine blk_alloc ?_ _)); refine blk_put (cs := #[.bool x155000_1, .slice none 0 0]) ?_ 0 _ rfl; (with_reducible repeat (first | refine blk_drewN ?_ _ | refine blk_drew ?_ | refine blk_alloc ?_ _)); exact BK154.out) Tryd.underlying31 rfl (by kernel_rfl) rfl (by (with_reducible repeat (first | refine blk_drewN ?_ _ | refine blk_drew ?_ | refine blk_alloc ?_ _)); refine blk_put (cs := #[.int .i64 5, .int .i64 x156001_1]) ?_ 1 _ rfl; (with_reducible repeat (first | refine blk_drewN ?_ _ | refine blk_drew ?_ | refine blk_alloc ?_ _)); refine blk_put (cs := #[.int .i64 x156000_1, .int .i64 x156001_1]) ?_ 0 _ rfl; (with_reducible repeat (first | refine blk_drewN ?_ _ | refine blk_drew ?_ | refine blk_alloc ?_ _)); refine blk_far ?_ NB155_154.out _; (with_reducible repeat (first | refine blk_drewN ?_ _ | refine blk_drew ?_ | refine blk_alloc ?_ _)); refine blk_far ?_ NB155_154.out _; (with_reducible repeat (first | refine blk_drewN ?_ _ | refine blk_drew ?_ | refine blk_alloc ?_ _)); exact BK155.out) Tryd.underlying39 rfl (by kernel_rfl)) rfl ?_
          exact ⟨_, by first | rfl | (simp [errW_none, errW_some] <;> rfl) | (simp [*, errW_none, errW_some] <;> rfl), by first | exact Kd.S_nil _ _ _ _ _ | exact Kd.N_nil _ _ _ _ _ | exact Kd.V_nil _ _ _ _ _ | exact Kd.Q_nil _ _ _ _ _ | exact Kd.R_nil _ _ _ _ _, by repeat (first | (with_reducible first | exact HB.out | apply below_alloc | apply pw_below_drewN | apply below_drew1 | refine below_set ?_ (IsS71.ge HI157.out) | refine below_set ?_ GE154.out | refine below_set ?_ GE155.out | refine below_set ?_ GE156.out) | exact HB.out)⟩
        · rw [if_neg c17] at H
          have c17b0 : ((x157001_1.length : Int) == 32) = false := beq_eq_false_iff_ne.mpr c17
          have c17b1 : ((x157001_1.length : Int) != 32) = true := bne_iff_ne.mpr c17
          replace H := Option.bind_eq_some_iff.mp H
          obtain ⟨⟨t158, t159, t162, t163, t164, t165⟩, A280, H⟩ := H
          replace H : (if x157001_1.length < 4398046511104 then ((some (x157001_1 ++ [(⟨t158, t159⟩ : S52)] : List (S52))).bind fun y166 => ((dep_reader_well.f t162 t163 t164 t165).bind fun bt169 => (if bt169.1 = true then ((dep_reader_next.f bt169.2.1 bt169.2.2.1 bt169.2.2.2.1 bt169.2.2.2.2).bind fun bt174 => (if bt174.1 = 0 then (dep_Parse.j1 k1 a0 bt174.1 (bt174.2.2.1 == (a0.size : Int)) x157000_1 y166 bt174.2.1 bt174.2.2.1 bt174.2.2.2.1 bt174.2.2.2.2) else (dep_Parse.j1 k1 a0 bt174.1 false x157000_1 y166 bt174.2.1 bt174.2.2.1 bt174.2.2.2.1 bt174.2.2.2.2))) else (some (false, ([] : List (S52)), bt169.2.2.2.1, bt169.2.2.2.2))))) else (none)) = some (r1, r2, r3, r4) := H
          have A28 := Aside0.mk A280
          clear A280
          by_cases c29 : x157001_1.length < 4398046511104
          · rw [if_pos c29] at H
            have LMc29 := Aside0.mk c29
            clear c29
            obtain ⟨y166, hy166⟩ : ∃ y_ : List (S52), y_ = (x157001_1 ++ [(⟨t158, t159⟩ : S52)]) := ⟨_, rfl⟩
            replace H : ((dep_reader_well.f t162 t163 t164 t165).bind fun bt169 => (if bt169.1 = true then ((dep_reader_next.f bt169.2.1 bt169.2.2.1 bt169.2.2.2.1 bt169.2.2.2.2).bind fun bt174 => (if bt174.1 = 0 then (dep_Parse.j1 k1 a0 bt174.1 (bt174.2.2.1 == (a0.size : Int)) x157000_1 y166 bt174.2.1 bt174.2.2.1 bt174.2.2.2.1 bt174.2.2.2.2) else (dep_Parse.j1 k1 a0 bt174.1 false x157000_1 y166 bt174.2.1 bt174.2.2.1 bt174.2.2.2.1 bt174.2.2.2.2))) else (some (false, ([] : List (S52)), bt169.2.2.2.1, bt169.2.2.2.2)))) = some (r1, r2, r3, r4) := by first | (rw [hy166]; with_reducible exact H) | (have H2_ := (Option.bind_some _ _).symm.trans H; rw [hy166]; with_reducible exact H2_) | (have H2_ := (Option.bind_some _ _).symm.trans H; with_reducible exact H2_) | with_reducible exact H | (rw [hy166]; exact H) | exact H
            have Ny166 := Aside0.mk hy166
            clear hy166
            replace H := Option.bind_eq_some_iff.mp H
            obtain ⟨⟨t169, t170, t171, t172, t173⟩, A300, H⟩ := H
            replace H : (if t169 = true then ((dep_reader_next.f t170 t171 t172 t173).bind fun bt174 => (if bt174.1 = 0 then (dep_Parse.j1 k1 a0 bt174.1 (bt174.2.2.1 == (a0.size : Int)) x157000_1 y166 bt174.2.1 bt174.2.2.1 bt174.2.2.2.1 bt174.2.2.2.2) else (dep_Parse.j1 k1 a0 bt174.1 false x157000_1 y166 bt174.2.1 bt174.2.2.1 bt174.2.2.2.1 bt174.2.2.2.2))) else (some (false, ([] : List (S52)), t172, t173))) = some (r1, r2, r3, r4) := H
            have A30 := Aside0.mk A300
            clear A300
            by_cases c31 : t169 = true
            · subst c31
              have H1 : ((dep_reader_next.f t170 t171 t172 t173).bind fun bt174 => (if bt174.1 = 0 then (dep_Parse.j1 k1 a0 bt174.1 (bt174.2.2.1 == (a0.size : Int)) x157000_1 y166 bt174.2.1 bt174.2.2.1 bt174.2.2.2.1 bt174.2.2.2.2) else (dep_Parse.j1 k1 a0 bt174.1 false x157000_1 y166 bt174.2.1 bt174.2.2.1 bt174.2.2.2.1 bt174.2.2.2.2))) = some (r1, r2, r3, r4) := by rw [if_pos rfl] at H; exact H
              clear H
              have H := H1
              clear H1
              replace H := Option.bind_eq_some_iff.mp H
              obtain ⟨⟨t174, t175, t176, t177, t178⟩, A320, H⟩ := H
              replace H : (if t174 = 0 then (dep_Parse.j1 k1 a0 t174 (t176 == (a0.size : Int)) x157000_1 y166 t175 t176 t177 t178) else (dep_Parse.j1 k1 a0 t174 false x157000_1 y166 t175 t176 t177 t178)) = some (r1, r2, r3, r4) := H
              have A32 := Aside0.mk A320
              clear A320
              have HC33 := Aside0.mk H
              clear H
              have hnb34 := NB156_154.out
              have hnc34 := NB154_156.out
              have hnb35 := NB156_155.out
              have hnc35 := NB155_156.out
              have hnb36 := NB156_157.out
              have hnc36 := NB157_156.out
              have hcz37_0 : wr.cell? ⟨gb156, 0, none⟩ = some (.bool x157000_1) := (blk_cell BK156.out 0).trans rfl
              have hcz37_1 : wr.cell? ⟨gb156, 1, none⟩ = some (u157001) := (blk_cell BK156.out 1).trans rfl
              have hfz37_0 := blk_frozen BK156.out 0
              have hfz37_1 := blk_frozen BK156.out 1
              obtain ⟨Ao38, co38, eo38⟩ := Kd.S_slice HO_157001.out
              subst eo38
              try go_wp2
              have n0_ := Aside0.mk (Kd.S_drew HO_157001.out)
              have n1_ := Aside0.mk (blk_drew BK154.out)
              have n2_ := Aside0.mk (blk_drew BK155.out)
              have n3_ := Aside0.mk (blk_drew BK156.out)
              have n4_ := Aside0.mk (IsS71.drew HI157.out)
              have n5_ := Aside0.mk (below_drew1 HB.out)
              clear HO_157001
              clear BK154
              clear BK155
              clear BK156
              clear HI157
              clear HB
              have HO_157001 := n0_
              have BK154 := n1_
              have BK155 := n2_
              have BK156 := n3_
              have HI157 := n4_
              have HB := n5_
              clear n0_ n1_ n2_ n3_ n4_ n5_
              refine start_ (n := 8) (S := fun w' => w'.cell? ⟨gb156, 0, none⟩ = some (.bool x157000_1) ∧ w'.cell? ⟨gb156, 1, none⟩ = some (.slice Ao38 x157001_1.length co38)) (ds := [7]) #[false, false, false, false, false, false, false, false] (by kernel_rfl) rfl rfl ⟨(blk_cell BK156.out 0).trans rfl, (blk_cell BK156.out 1).trans rfl⟩ (fun hHeld => ?_); refine with_tabW dep_Parse.tab6 dep_Parse.bits6 (fun HT_ HW_ => ?_)
              generalize wr.drew = w39 at HO_157001 BK154 BK155 BK156 HI157 HB hHeld ⊢
              refine pure_ (i := 0) (N := some 22) (v := ?_) (a' := ?_) #[true, false, false, false, false, false, false, false] rfl rfl (any_of HT_.out (by kernel_rfl)) (fun _ _ _ h => h) (Or.inl ⟨by rfl, ?_⟩) ?_ ?_
              rotate_left
              · intro w'
                go_simp
                with_reducible rfl
              rotate_left
              · simp only [Act.put, List.setIfInBounds_toArray, List.set_cons_zero, List.set_cons_succ, i64_w, i32_w]
                rfl
              refine pure_ (i := 2) (N := some 24) (v := ?_) (a' := ?_) #[true, false, true, false, false, false, false, false] rfl rfl (any_of HT_.out (by kernel_rfl)) (fun _ _ _ h => h) (Or.inl ⟨by rfl, ?_⟩) ?_ ?_
              rotate_left
              · intro w'
                go_simp
                with_reducible rfl
              rotate_left
              · simp only [Act.put, List.setIfInBounds_toArray, List.set_cons_zero, List.set_cons_succ, i64_w, i32_w]
                rfl
              refine take_ (i := 1) (N := some 23) (v := ?_) (a' := ?_) #[true, true, true, false, false, false, false, false] rfl rfl (take_ofW HT_.out HW_.out (by kernel_rfl)) (fun _ _ _ h => h) (Or.inl ⟨by rfl, ?_⟩) hHeld ?_ ?_
              rotate_left
              · rintro w' ⟨s0, s1⟩
                go_simp
                with_reducible rfl
              rotate_left
              · simp only [Act.put, List.setIfInBounds_toArray, List.set_cons_zero, List.set_cons_succ, i64_w, i32_w]
                rfl
              refine one_ (i := 3) (N := some 25) #[true, true, true, true, false, false, false, false] rfl rfl (one_of HT_.out (by kernel_rfl)) (by decide) (fun K hK => ?_)
              refine goes_ Tryd.func30 (by kernel_rfl) rfl #[.pointer (some ⟨gb157, 0, none⟩)] (by rfl) rfl rfl (by (try simp only [List.map_toArray, List.map_cons, List.map_nil]); first | done | rfl | (simp only [List.length_drop, List.length_take]; rfl)) ?_
              with_reducible refine (dep_reader_item.calls k1 gb157 x158000_1 x158001_1 x158002_1 x158003_1 t158 t159 t162 t163 t164 t165 w _ ?side1 ?side2 A28.out HG_.out).mono ?_
              (case side1 => repeat (first | (with_reducible first | exact HI157.out | apply IsS71.alloc | apply IsS71.drewN | apply IsS71.drew | apply IsS71.set_0 | apply IsS71.set_1 | apply IsS71.set_2 | apply IsS71.set_3 | (apply IsS71.far; (case hne => exact NB157_154.out)) | (apply IsS71.far; (case hne => exact NB157_155.out)) | (apply IsS71.far; (case hne => exact NB157_156.out))) | exact HI157.out))
              (case side2 => repeat (first | (with_reducible first | exact HB.out | apply below_alloc | apply pw_below_drewN | apply below_drew1 | refine below_set ?_ (IsS71.ge HI157.out) | refine below_set ?_ GE154.out | refine below_set ?_ GE155.out | refine below_set ?_ GE156.out) | exact HB.out))
              rintro e w40 ⟨v160, rfl, ho0, hi, hb, hk⟩
              refine ⟨_, rfl, ?_⟩
              have n0_ := Aside0.mk (Kd.S_mono (Kd.S_told (Kd.S_oldK (IsS71.apartS (show IsS71 w _ gb157 x158000_1 x158001_1 x158002_1 x158003_1 from by repeat (first | (with_reducible first | exact HI157.out | apply IsS71.alloc | apply IsS71.drewN | apply IsS71.drew | apply IsS71.set_0 | apply IsS71.set_1 | apply IsS71.set_2 | apply IsS71.set_3 | (apply IsS71.far; (case hne => exact NB157_154.out)) | (apply IsS71.far; (case hne => exact NB157_155.out)) | (apply IsS71.far; (case hne => exact NB157_156.out))) | exact HI157.out)) (by (with_reducible repeat (first | apply Kd.S_alloc | apply Kd.S_drewN | apply Kd.S_drew)); exact HO_157001.out) (by decide)) hk) (Kd.R_base ho0)) (fun _ h_ => h_.1))
              have n1_ := Aside0.mk (KeepBut.blk hk (g' := gb154) (o := .cells #[.bool x155000_1, .slice none 0 0] 31 (0, 0)) (by (with_reducible repeat (first | refine blk_drewN ?_ _ | refine blk_drew ?_ | refine blk_alloc ?_ _)); exact BK154.out) NB154_157.out (by simp))
              have n2_ := Aside0.mk (KeepBut.blk hk (g' := gb155) (o := .cells #[.int .i64 x156000_1, .int .i64 x156001_1] 39 (0, 0)) (by (with_reducible repeat (first | refine blk_drewN ?_ _ | refine blk_drew ?_ | refine blk_alloc ?_ _)); exact BK155.out) NB155_157.out (by simp))
              have n3_ := Aside0.mk (KeepBut.blk hk (g' := gb156) (o := .cells #[.bool x157000_1, .slice Ao38 x157001_1.length co38] 31 (0, 0)) (by (with_reducible repeat (first | refine blk_drewN ?_ _ | refine blk_drew ?_ | refine blk_alloc ?_ _)); exact BK156.out) NB156_157.out (by simp))
              have n4_ := Aside0.mk (Kd.R_lower ho0 (below_size (by repeat (first | (with_reducible first | exact HB.out | apply below_alloc | apply pw_below_drewN | apply below_drew1 | refine below_set ?_ (IsS71.ge HI157.out) | refine below_set ?_ GE154.out | refine below_set ?_ GE155.out | refine below_set ?_ GE156.out) | exact HB.out))))
              have n5_ := Aside0.mk (hb)
              have n6_ := Aside0.mk (hi)
              clear HO_157001
              clear BK154
              clear BK155
              clear BK156
              clear HB
              clear HI157
              have HO_157001 := n0_
              have BK154 := n1_
              have BK155 := n2_
              have BK156 := n3_
              have HO161 := n4_
              have HB := n5_
              have HI157 := n6_
              clear n0_ n1_ n2_ n3_ n4_ n5_ n6_
              (try clear hb)
              (try clear hb2)
              (try clear hk)
              (try clear hi)
              (try clear ho0)
              obtain ⟨Ao42, co42, eo42⟩ := Kd.R_slice HO161.out
              (first | subst eo42 | (injection eo42 with f1_ f2_ f3_; have f4_ := f1_.symm; have f5_ := f3_.symm; clear f1_ f2_ f3_; subst f4_; subst f5_))
              refine hK.out _ _ ⟨(blk_cell BK156.out 0).trans rfl, (blk_cell BK156.out 1).trans rfl⟩ (fun hHeld => ?_)
              clear hK K
              refine norm_ (a' := ?_) ?_ ?_
              rotate_left
              · show Act.put _ (some 25) _ = _
                simp only [Act.put, List.setIfInBounds_toArray, List.set_cons_zero, List.set_cons_succ, i64_w, i32_w]
                rfl
              refine one_ (i := 4) (N := some 26) #[true, true, true, true, true, false, false, false] rfl rfl (one_of HT_.out (by kernel_rfl)) (by decide) (fun K hK => ?_)
              refine value_ (w1 := ?_) (v := ?_) (by rfl) rfl ?_ ?_
              rotate_left 2
              · go_simp
                constructor
                · rfl
                · rfl
              refine hK.out _ _ ⟨(blk_cell (blk_alloc BK156.out _) 0).trans rfl, (blk_cell (blk_alloc BK156.out _) 1).trans rfl⟩ (fun hHeld => ?_)
              clear hK K
              refine norm_ (a' := ?_) ?_ ?_
              rotate_left
              · show Act.put _ (some 26) _ = _
                simp only [Act.put, List.setIfInBounds_toArray, List.set_cons_zero, List.set_cons_succ, i64_w, i32_w]
                rfl
              refine one_ (i := 5) (N := some 27) #[true, true, true, true, true, true, false, false] rfl rfl (one_of HT_.out (by kernel_rfl)) (by decide) (fun K hK => ?_)
              refine Kd.S_append_step k52 (w0 := w) w.heap.size (by rfl) (.tmp 23) (.tmp 26) 29 52 (.agg #[(.int .i64 0), (.slice none 0 0)]) 32 rfl Tryd.underlying29 info52 rfl (by decide) (by omega) (.slice Ao38 x157001_1.length co38) x157001_1 (⟨t158, t159⟩ : S52) [.int .i64 t158, .slice Ao42 t159.length co42] (fun _ => True) (fun k_ => some k_ = (.slice Ao42 t159.length co42 : Value).ownBlock) rfl rfl ?aP (fun k_ hk_ => ((Kd.R_mono (ok' := fun k_ => ((fun _ => True)) k_ ∧ some k_ ≠ (.slice Ao38 x157001_1.length co38 : Value).ownBlock) (Kd.R_apart' (HO161.out) (Kd.S_typed HO_157001.out) (by decide)) (fun k_ hk => ⟨trivial, hk.2⟩))).1 k_ hk_.symm) ?aF ?aO ?aB ?aS ?aL ?_
              (case aP => exact k52_mkM _ _ _ (⟨t158, t159⟩ : S52) (Kd.R_mono (Kd.R_tight rfl (Kd.R_mono (ok' := fun k_ => ((fun _ => True)) k_ ∧ some k_ ≠ (.slice Ao38 x157001_1.length co38 : Value).ownBlock) (Kd.R_apart' (HO161.out) (Kd.S_typed HO_157001.out) (by decide)) (fun k_ hk => ⟨trivial, hk.2⟩))) (fun _ h_ => h_)))
              (case aB => exact (by repeat (first | (with_reducible first | exact HB.out | apply below_alloc | apply pw_below_drewN | apply below_drew1 | refine below_set ?_ (IsS71.ge HI157.out) | refine below_set ?_ GE154.out | refine below_set ?_ GE155.out | refine below_set ?_ GE156.out) | exact HB.out)))
              (case aF => exact (fun _ _ => trivial))
              (case aO => exact (by (with_reducible repeat (first | apply Kd.S_alloc | apply Kd.S_drewN | apply Kd.S_drew)); exact Kd.S_mono HO_157001.out (fun k_ hk => ⟨trivial, fun e_ => hk.2 e_⟩)))
              (case aS => exact (below_size (by repeat (first | (with_reducible first | exact HB.out | apply below_alloc | apply pw_below_drewN | apply below_drew1 | refine below_set ?_ (IsS71.ge HI157.out) | refine below_set ?_ GE154.out | refine below_set ?_ GE155.out | refine below_set ?_ GE156.out) | exact HB.out))))
              (case aL => have := LMc29.out; omega)
              intro v167 w41 ho hb hg hat
              rw [← Ny166.out] at ho
              have n0_ := Aside0.mk (blk_grown (g := gb154) (o := .cells #[.bool x155000_1, .slice none 0 0] 31 (0, 0)) (by (with_reducible repeat (first | refine blk_drewN ?_ _ | refine blk_drew ?_ | refine blk_alloc ?_ _)); exact BK154.out) hg (Kd.S_ne HO_157001.out BK154.out (by decide)))
              have n1_ := Aside0.mk (blk_grown (g := gb155) (o := .cells #[.int .i64 x156000_1, .int .i64 x156001_1] 39 (0, 0)) (by (with_reducible repeat (first | refine blk_drewN ?_ _ | refine blk_drew ?_ | refine blk_alloc ?_ _)); exact BK155.out) hg (Kd.S_ne HO_157001.out BK155.out (by decide)))
              have n2_ := Aside0.mk (blk_grown (g := gb156) (o := .cells #[.bool x157000_1, .slice Ao38 x157001_1.length co38] 31 (0, 0)) (by (with_reducible repeat (first | refine blk_drewN ?_ _ | refine blk_drew ?_ | refine blk_alloc ?_ _)); exact BK156.out) hg (Kd.S_ne HO_157001.out BK156.out (by decide)))
              have n3_ := Aside0.mk (IsS71.grown (by repeat (first | (with_reducible first | exact HI157.out | apply IsS71.alloc | apply IsS71.drewN | apply IsS71.drew | apply IsS71.set_0 | apply IsS71.set_1 | apply IsS71.set_2 | apply IsS71.set_3 | (apply IsS71.far; (case hne => exact NB157_154.out)) | (apply IsS71.far; (case hne => exact NB157_155.out)) | (apply IsS71.far; (case hne => exact NB157_156.out))) | exact HI157.out)) hg (IsS71.own_neS HI157.out HO_157001.out (by decide)))
              have n4_ := Aside0.mk (hb)
              have n5_ := Aside0.mk (ho)
              clear BK154
              clear BK155
              clear BK156
              clear HI157
              clear HB
              clear HO_157001
              clear HO161
              have BK154 := n0_
              have BK155 := n1_
              have BK156 := n2_
              have HI157 := n3_
              have HB := n4_
              have HO168 := n5_
              clear n0_ n1_ n2_ n3_ n4_ n5_
              clear ho hb hg hat
              obtain ⟨Ao43, co43, eo43⟩ := Kd.S_slice HO168.out
              (first | subst eo43 | (injection eo43 with f1_ f2_ f3_; have f4_ := f1_.symm; have f5_ := f3_.symm; clear f1_ f2_ f3_; subst f4_; subst f5_))
              refine hK.out _ _ ⟨(blk_cell BK156.out 0).trans rfl, (blk_cell BK156.out 1).trans rfl⟩ (fun hHeld => ?_)
              clear hK K
              refine norm_ (a' := ?_) ?_ ?_
              rotate_left
              · show Act.put _ (some 27) _ = _
                simp only [Act.put, List.setIfInBounds_toArray, List.set_cons_zero, List.set_cons_succ, i64_w, i32_w]
                rfl
              refine pure_ (i := 6) (N := some 28) (v := ?_) (a' := ?_) #[true, true, true, true, true, true, true, false] rfl rfl (any_of HT_.out (by kernel_rfl)) (fun _ _ _ h => h) (Or.inl ⟨by rfl, ?_⟩) ?_ ?_
              rotate_left
              · intro w'
                go_simp
                with_reducible rfl
              rotate_left
              · simp only [Act.put, List.setIfInBounds_toArray, List.set_cons_zero, List.set_cons_succ, i64_w, i32_w]
                rfl
              refine last_ (i := 7) (N := none) #[true, true, true, true, true, true, true, true] rfl rfl (one_of HT_.out (by kernel_rfl)) (by decide) (fun K hK => ?_)
              have hs44 : w41.cell? ⟨gb156, 1, none⟩ = some (.slice Ao38 x157001_1.length co38) := (blk_cell BK156.out 1).trans rfl
              have hfs44 := blk_frozen BK156.out 1
              have hns44_0 := NB154_156.out
              have hns44_1 := NB155_156.out
              have hms44_0 := NB156_154.out
              have hms44_1 := NB156_155.out
              refine skip_ (w1 := ?_) (by rfl) rfl ?_ ?_
              rotate_left
              · go_simp
                rfl
              refine hK.out _ _ ?_
              clear hK K
              refine done_ (done_of HT_.out (by kernel_rfl)) ?_
              go_upto_region 10 with (first | ((with_reducible refine gate_callee (f := 31) rfl ?_); refine goesL_ (some 30) rfl rfl Tryd.func31 (by kernel_rfl) rfl #[.pointer (some ⟨gb157, 0, none⟩)] rfl (by (try simp only [List.map_toArray, List.map_cons, List.map_nil]); first | done | rfl | (simp only [List.length_drop, List.length_take]; rfl)) ?_; (with_reducible refine (dep_reader_well.calls gb157 t162 t163 t164 t165 true t170 t171 t172 t173 w _ ?side1 ?side2 A30.out).mono ?_); (case side1 => repeat (first | (with_reducible first | exact HI157.out | apply IsS71.alloc | apply IsS71.drewN | apply IsS71.drew | apply IsS71.set_0 | apply IsS71.set_1 | apply IsS71.set_2 | apply IsS71.set_3 | (apply IsS71.far; (case hne => exact NB157_154.out)) | (apply IsS71.far; (case hne => exact NB157_155.out)) | (apply IsS71.far; (case hne => exact NB157_156.out))) | exact HI157.out)); (case side2 => repeat (first | (with_reducible first | exact HB.out | apply below_alloc | apply pw_below_drewN | apply below_drew1 | refine below_set ?_ (IsS71.ge HI157.out) | refine below_set ?_ GE154.out | refine below_set ?_ GE155.out | refine below_set ?_ GE156.out) | exact HB.out)); rintro e w45 ⟨rfl, hi, hb, hk⟩; refine ⟨_, rfl, ?_⟩; have n0_ := Aside0.mk (KeepBut.blk hk (g' := gb154) (o := .cells #[.bool x155000_1, .slice none 0 0] 31 (0, 0)) (by (with_reducible repeat (first | refine blk_drewN ?_ _ | refine blk_drew ?_ | refine blk_alloc ?_ _)); refine blk_far ?_ NB154_156.out _; (with_reducible repeat (first | refine blk_drewN ?_ _ | refine blk_drew ?_ | refine blk_alloc ?_ _)); exact BK154.out) NB154_157.out (by simp)); have n1_ := Aside0.mk (KeepBut.blk hk (g' := gb155) (o := .cells #[.int .i64 x156000_1, .int .i64 x156001_1] 39 (0, 0)) (by (with_reducible repeat (first | refine blk_drewN ?_ _ | refine blk_drew ?_ | refine blk_alloc ?_ _)); refine blk_far ?_ NB155_156.out _; (with_reducible repeat (first | refine blk_drewN ?_ _ | refine blk_drew ?_ | refine blk_alloc ?_ _)); exact BK155.out) NB155_157.out (by simp)); have n2_ := Aside0.mk (KeepBut.blk hk (g' := gb156) (o := .cells #[.bool x157000_1, .slice Ao43 y166.length co43] 31 (0, 0)) (by (with_reducible repeat (first | refine blk_drewN ?_ _ | refine blk_drew ?_ | refine blk_alloc ?_ _)); refine blk_put (cs := #[.bool x157000_1, .slice Ao38 x157001_1.length co38]) ?_ 1 _ rfl; (with_reducible repeat (first | refine blk_drewN ?_ _ | refine blk_drew ?_ | refine blk_alloc ?_ _)); exact BK156.out) NB156_157.out (by simp)); have n3_ := Aside0.mk (Kd.S_mono (Kd.S_keep (IsS71.apartS (show IsS71 w _ gb157 t162 t163 t164 t165 from by repeat (first | (with_reducible first | exact HI157.out | apply IsS71.alloc | apply IsS71.drewN | apply IsS71.drew | apply IsS71.set_0 | apply IsS71.set_1 | apply IsS71.set_2 | apply IsS71.set_3 | (apply IsS71.far; (case hne => exact NB157_154.out)) | (apply IsS71.far; (case hne => exact NB157_155.out)) | (apply IsS71.far; (case hne => exact NB157_156.out))) | exact HI157.out)) (by (with_reducible repeat (first | apply Kd.S_alloc | apply Kd.S_drewN | apply Kd.S_drew)); exact (Kd.S_mono (Kd.S_far (p := ⟨gb156, 1, none⟩) (Kd.S_types HO168.out BK156.out (by decide)) (fun _ hk => hk.2) (.slice Ao43 y166.length co43)) (fun _ h_ => h_.1))) (by decide)) hk (fun _ h => h.2)) (fun _ h => h.1)); have n4_ := Aside0.mk (hb); have n5_ := Aside0.mk (hi); clear BK154; clear BK155; clear BK156; clear HO168; clear HB; clear HI157; have BK154 := n0_; have BK155 := n1_; have BK156 := n2_; have HO168 := n3_; have HB := n4_; have HI157 := n5_; clear n0_ n1_ n2_ n3_ n4_ n5_; (try clear hb); (try clear hb2); (try clear hk); (try clear hi)) | ((with_reducible refine gate_callee (f := 32) rfl ?_); refine goesL_ (some 38) rfl rfl Tryd.func32 (by kernel_rfl) rfl #[.pointer (some ⟨gb157, 0, none⟩)] rfl (by (try simp only [List.map_toArray, List.map_cons, List.map_nil]); first | done | rfl | (simp only [List.length_drop, List.length_take]; rfl)) ?_; (with_reducible refine (dep_reader_next.calls gb157 t170 t171 t172 t173 t174 t175 t176 t177 t178 w _ ?side1 ?side2 A32.out).mono ?_); (case side1 => repeat (first | (with_reducible first | exact HI157.out | apply IsS71.alloc | apply IsS71.drewN | apply IsS71.drew | apply IsS71.set_0 | apply IsS71.set_1 | apply IsS71.set_2 | apply IsS71.set_3 | (apply IsS71.far; (case hne => exact NB157_154.out)) | (apply IsS71.far; (case hne => exact NB157_155.out)) | (apply IsS71.far; (case hne => exact NB157_156.out))) | exact HI157.out)); (case side2 => repeat (first | (with_reducible first | exact HB.out | apply below_alloc | apply pw_below_drewN | apply below_drew1 | refine below_set ?_ (IsS71.ge HI157.out) | refine below_set ?_ GE154.out | refine below_set ?_ GE155.out | refine below_set ?_ GE156.out) | exact HB.out)); rintro e w46 ⟨rfl, hi, hb, hk⟩; refine ⟨_, rfl, ?_⟩; have n0_ := Aside0.mk (KeepBut.blk hk (g' := gb154) (o := .cells #[.bool x155000_1, .slice none 0 0] 31 (0, 0)) (by (with_reducible repeat (first | refine blk_drewN ?_ _ | refine blk_drew ?_ | refine blk_alloc ?_ _)); exact BK154.out) NB154_157.out (by simp)); have n1_ := Aside0.mk (KeepBut.blk hk (g' := gb155) (o := .cells #[.int .i64 x156000_1, .int .i64 x156001_1] 39 (0, 0)) (by (with_reducible repeat (first | refine blk_drewN ?_ _ | refine blk_drew ?_ | refine blk_alloc ?_ _)); exact BK155.out) NB155_157.out (by simp)); have n2_ := Aside0.mk (KeepBut.blk hk (g' := gb156) (o := .cells #[.bool x157000_1, .slice Ao43 y166.length co43] 31 (0, 0)) (by (with_reducible repeat (first | refine blk_drewN ?_ _ | refine blk_drew ?_ | refine blk_alloc ?_ _)); exact BK156.out) NB156_157.out (by simp)); have n3_ := Aside0.mk (Kd.S_mono (Kd.S_keep (IsS71.apartS (show IsS71 w _ gb157 t170 t171 t172 t173 from by repeat (first | (with_reducible first | exact HI157.out | apply IsS71.alloc | apply IsS71.drewN | apply IsS71.drew | apply IsS71.set_0 | apply IsS71.set_1 | apply IsS71.set_2 | apply IsS71.set_3 | (apply IsS71.far; (case hne => exact NB157_154.out)) | (apply IsS71.far; (case hne => exact NB157_155.out)) | (apply IsS71.far; (case hne => exact NB157_156.out))) | exact HI157.out)) (by (with_reducible repeat (first | apply Kd.S_alloc | apply Kd.S_drewN | apply Kd.S_drew)); exact HO168.out) (by decide)) hk (fun _ h => h.2)) (fun _ h => h.1)); have n4_ := Aside0.mk (hb); have n5_ := Aside0.mk (hi); clear BK154; clear BK155; clear BK156; clear HO168; clear HB; clear HI157; have BK154 := n0_; have BK155 := n1_; have BK156 := n2_; have HO168 := n3_; have HB := n4_; have HI157 := n5_; clear n0_ n1_ n2_ n3_ n4_ n5_; (try clear hb); (try clear hb2); (try clear hk); (try clear hi)))
              (try simp only [Act.put, List.setIfInBounds_toArray, List.set_cons_zero, List.set_cons_succ])
              go_cut [49] (fun v49 wc => ∃ (kq : Nat) (x49_32 : Bool), v49 = .bool x49_32 ∧ Aside0 (dep_Parse.j1 kq a0 t174 x49_32 x157000_1 y166 t175 t176 t177 t178 = some (r1, r2, r3, r4)) ∧ Aside0 (kq ≤ k1) ∧ Aside0 (Kd.S k52 52 wc w.heap.size (fun _ => True) (.slice Ao43 y166.length co43) y166) ∧ Aside0 (wc.heap[gb154]? = some (.cells #[.bool x155000_1, (.slice none 0 0)] 31 (0, 0))) ∧ Aside0 (wc.heap[gb155]? = some (.cells #[.int .i64 x156000_1, .int .i64 x156001_1] 39 (0, 0))) ∧ Aside0 (wc.heap[gb156]? = some (.cells #[.bool x157000_1, (.slice Ao43 y166.length co43)] 31 (0, 0))) ∧ Aside0 (IsS71 w wc gb157 t175 t176 t177 t178) ∧ Aside0 (Below w.heap.size w wc))
              case first =>
                have H := HC33.out
                clear HC33
                by_cases c47 : t174 = 0
                · rw [if_pos c47] at H
                  have c47b0 : (t174 == 0) = true := beq_iff_eq.mpr c47
                  have c47b1 : (t174 != 0) = false := bne_eq_false_iff_eq.mpr c47
                  clear c47
                  (first | rw [c47b0] | (simp only [i64_w, i32_w]; rw [c47b0]) | skip)
                  have H' := Aside0.mk H
                  clear H
                  obtain ⟨HGz48, hgz48⟩ := HI157.out
                  have hcz48_0 := cellS71_0 HGz48
                  have hcz48_1 := cellS71_1 HGz48
                  have hcz48_2 := cellS71_2 HGz48
                  have hcz48_3 := cellS71_3 HGz48
                  have hfz48_0 := blk_frozen HGz48 0
                  have hfz48_1 := blk_frozen HGz48 1
                  have hfz48_2 := blk_frozen HGz48 2
                  have hfz48_3 := blk_frozen HGz48 3
                  clear HGz48 hgz48
                  go_wp2
                  go_meet
                  case rel => exact ⟨_, ((t176 == (a0.size : Int))), (by first | rfl | (simp; done) | (simp [*]; done)), H', ⟨by have := HK1.out; first | omega | exact Nat.le_refl _⟩, ⟨by (with_reducible repeat (first | apply Kd.S_alloc | apply Kd.S_drewN | apply Kd.S_drew)); exact HO168.out⟩, ⟨by (with_reducible repeat (first | refine blk_drewN ?_ _ | refine blk_drew ?_ | refine blk_alloc ?_ _)); exact BK154.out⟩, ⟨by (with_reducible repeat (first | refine blk_drewN ?_ _ | refine blk_drew ?_ | refine blk_alloc ?_ _)); exact BK155.out⟩, ⟨by (with_reducible repeat (first | refine blk_drewN ?_ _ | refine blk_drew ?_ | refine blk_alloc ?_ _)); exact BK156.out⟩, ⟨by repeat (first | (with_reducible first | exact HI157.out | apply IsS71.alloc | apply IsS71.drewN | apply IsS71.drew | apply IsS71.set_0 | apply IsS71.set_1 | apply IsS71.set_2 | apply IsS71.set_3 | (apply IsS71.far; (case hne => exact NB157_154.out)) | (apply IsS71.far; (case hne => exact NB157_155.out)) | (apply IsS71.far; (case hne => exact NB157_156.out))) | exact HI157.out)⟩, ⟨by repeat (first | (with_reducible first | exact HB.out | apply below_alloc | apply pw_below_drewN | apply below_drew1 | refine below_set ?_ (IsS71.ge HI157.out) | refine below_set ?_ GE154.out | refine below_set ?_ GE155.out | refine below_set ?_ GE156.out) | exact HB.out)⟩⟩
                · rw [if_neg c47] at H
                  have c47b0 : (t174 == 0) = false := beq_eq_false_iff_ne.mpr c47
                  have c47b1 : (t174 != 0) = true := bne_iff_ne.mpr c47
                  (first | rw [c47b0] | (simp only [i64_w, i32_w]; rw [c47b0]) | skip)
                  have H' := Aside0.mk H
                  clear H
                  go_wp2
                  go_meet
                  case rel => exact ⟨_, (false), (by first | rfl | (simp; done) | (simp [*]; done)), H', ⟨by have := HK1.out; first | omega | exact Nat.le_refl _⟩, ⟨by (with_reducible repeat (first | apply Kd.S_alloc | apply Kd.S_drewN | apply Kd.S_drew)); exact HO168.out⟩, ⟨by (with_reducible repeat (first | refine blk_drewN ?_ _ | refine blk_drew ?_ | refine blk_alloc ?_ _)); exact BK154.out⟩, ⟨by (with_reducible repeat (first | refine blk_drewN ?_ _ | refine blk_drew ?_ | refine blk_alloc ?_ _)); exact BK155.out⟩, ⟨by (with_reducible repeat (first | refine blk_drewN ?_ _ | refine blk_drew ?_ | refine blk_alloc ?_ _)); exact BK156.out⟩, ⟨by repeat (first | (with_reducible first | exact HI157.out | apply IsS71.alloc | apply IsS71.drewN | apply IsS71.drew | apply IsS71.set_0 | apply IsS71.set_1 | apply IsS71.set_2 | apply IsS71.set_3 | (apply IsS71.far; (case hne => exact NB157_154.out)) | (apply IsS71.far; (case hne => exact NB157_155.out)) | (apply IsS71.far; (case hne => exact NB157_156.out))) | exact HI157.out)⟩, ⟨by repeat (first | (with_reducible first | exact HB.out | apply below_alloc | apply pw_below_drewN | apply below_drew1 | refine below_set ?_ (IsS71.ge HI157.out) | refine below_set ?_ GE154.out | refine below_set ?_ GE155.out | refine below_set ?_ GE156.out) | exact HB.out)⟩⟩
              case rest =>
                clear HC33
                try clear c1
                try clear c2
                try clear p2
                try clear c3
                try clear c4
                try clear c6
                try clear c6b0
                try clear c6b1
                try clear c7
                try clear c8
                try clear c9
                try clear c11
                try clear c12
                try clear c15
                try clear c16
                try clear c17
                try clear c17b0
                try clear c17b1
                try clear c18
                try clear c19
                try clear c20
                try clear c29
                try clear c30
                try clear c31
                try clear c32
                try clear c34
                try clear c35
                try clear c36
                try clear c47
                try clear c47b0
                try clear c47b1
                try clear hcz10_0
                try clear hcz10_1
                try clear hcz13_0
                try clear hcz13_1
                try clear hcz16_0
                try clear hcz16_1
                try clear hcz21_0
                try clear hcz21_1
                try clear hcz37_0
                try clear hcz37_1
                try clear hcz48_0
                try clear hcz48_1
                try clear hcz48_2
                try clear hcz48_3
                try clear hfz10_0
                try clear hfz10_1
                try clear hfz13_0
                try clear hfz13_1
                try clear hfz16_0
                try clear hfz16_1
                try clear hfz21_0
                try clear hfz21_1
                try clear hfz37_0
                try clear hfz37_1
                try clear hfz48_0
                try clear hfz48_1
                try clear hfz48_2
                try clear hfz48_3
                try clear p2
                obtain ⟨kq, x49_32, rfl, HA, HJ32, HO_157001, BK154, BK155, BK156, HI157, HB⟩ := hcut
                cases kq with
                | zero => exact absurd HA.out (by simp [dep_Parse.j1])
                | succ kj32 =>
                  have H := HA.out
                  clear HA
                  simp only [dep_Parse.j1] at H
                  by_cases c49 : x49_32 = true
                  · subst c49
                    have H1 : (some (x157000_1, y166, 0, 0)) = some (r1, r2, r3, r4) := by rw [if_pos rfl] at H; exact H
                    clear H
                    have H := H1
                    clear H1
                    simp only [Option.some.injEq, Prod.mk.injEq] at H
                    obtain ⟨rfl, rfl, rfl, rfl⟩ := H
                    have hnb50 := NB156_154.out
                    have hnc50 := NB154_156.out
                    have hnb51 := NB156_155.out
                    have hnc51 := NB155_156.out
                    have hnb52 := NB156_157.out
                    have hnc52 := NB157_156.out
                    have hcz53_0 : wc.cell? ⟨gb156, 0, none⟩ = some (.bool x157000_1) := (blk_cell BK156.out 0).trans rfl
                    have hcz53_1 : wc.cell? ⟨gb156, 1, none⟩ = some (.slice Ao43 y166.length co43) := (blk_cell BK156.out 1).trans rfl
                    have hfz53_0 := blk_frozen BK156.out 0
                    have hfz53_1 := blk_frozen BK156.out 1
                    have hnb54 := NB154_155.out
                    have hnc54 := NB155_154.out
                    have hnb55 := NB154_157.out
                    have hnc55 := NB157_154.out
                    have hcz56_0 : wc.cell? ⟨gb154, 0, none⟩ = some (.bool x155000_1) := (blk_cell BK154.out 0).trans rfl
                    have hcz56_1 : wc.cell? ⟨gb154, 1, none⟩ = some (.slice none 0 0) := (blk_cell BK154.out 1).trans rfl
                    have hfz56_0 := blk_frozen BK154.out 0
                    have hfz56_1 := blk_frozen BK154.out 1
                    have hnb57 := NB155_157.out
                    have hnc57 := NB157_155.out
                    have hcz58_0 : wc.cell? ⟨gb155, 0, none⟩ = some (.int .i64 x156000_1) := (blk_cell BK155.out 0).trans rfl
                    have hcz58_1 : wc.cell? ⟨gb155, 1, none⟩ = some (.int .i64 x156001_1) := (blk_cell BK155.out 1).trans rfl
                    have hfz58_0 := blk_frozen BK155.out 0
                    have hfz58_1 := blk_frozen BK155.out 1
                    go_wp2
                    refine bodyPost_ret (results_cc rfl _ _ gb154 gb155 31 39 #[.bool x157000_1, .slice Ao43 y166.length co43] #[.int .i64 0, .int .i64 0] (0, 0) (0, 0) _ _ rfl (by (with_reducible repeat (first | refine blk_drewN ?_ _ | refine blk_drew ?_ | refine blk_alloc ?_ _)); refine blk_far ?_ NB154_155.out _; (with_reducible repeat (first | refine blk_drewN ?_ _ | refine blk_drew ?_ | refine blk_alloc ?_ _)); refine blk_far ?_ NB154_155.out _; (with_reducible repeat (first | refine blk_drewN ?_ _ | refine blk_drew ?_ | refine blk_alloc ?_ _)); refine blk_put (cs := #[.bool x157000_1, .slice none 0 0]) ?_ 1 _ rfl; (with_reducible repeat (first | refine blk_drewN ?_ _ | refine blk_drew ?_ | refine blk_alloc ?_ _)); refine blk_put (cs := #[.bool x155000_1, .slice none 0 0]) ?_ 0 _ rfl; (with_reducible repeat (first | refine blk_drewN ?_ _ | refine blk_drew ?_ | refine blk_alloc ?_ _)); exact BK154.out) Tryd.underlying31 rfl (by kernel_rfl) rfl (by (with_reducible repeat (first | refine blk_drewN ?_ _ | refine blk_drew ?_ | refine blk_alloc ?_ _)); refine blk_put (cs := #[.int .i64 0, .int .i64 x156001_1]) ?_ 1 _ rfl; (with_reducible repeat (first | refine blk_drewN ?_ _ | refine blk_drew ?_ | refine blk_alloc ?_ _)); refine blk_put (cs := #[.int .i64 x156000_1, .int .i64 x156001_1]) ?_ 0 _ rfl; (with_reducible repeat (first | refine blk_drewN ?_ _ | refine blk_drew ?_ | refine blk_alloc ?_ _)); refine blk_far ?_ NB155_154.out _; (with_reducible repeat (first | refine blk_drewN ?_ _ | refine blk_drew ?_ | refine blk_alloc ?_ _)); refine blk_far ?_ NB155_154.out _; (with_reducible repeat (first | refine blk_drewN ?_ _ | refine blk_drew ?_ | refine blk_alloc ?_ _)); exact BK155.out) Tryd.underlying39 rfl (by kernel_rfl)) rfl ?_
                    exact ⟨_, by first | rfl | (simp [errW_none, errW_some] <;> rfl) | (simp [*, errW_none, errW_some] <;> rfl), by (with_reducible repeat (first | apply Kd.S_alloc | apply Kd.S_drewN | apply Kd.S_drew)); exact Kd.S_mono (Kd.S_far (p := ⟨gb155, 1, none⟩) (Kd.S_far (p := ⟨gb155, 0, none⟩) (Kd.S_far (p := ⟨gb154, 1, none⟩) (Kd.S_far (p := ⟨gb154, 0, none⟩) (Kd.S_types (Kd.S_types HO_157001.out BK154.out (by decide)) BK155.out (by decide)) (fun _ hk => hk.1.2) (.bool x157000_1)) (fun _ hk => hk.1.2) (.slice Ao43 y166.length co43)) (fun _ hk => hk.2) (.int .i64 0)) (fun _ hk => hk.2) (.int .i64 0)) (fun _ hk => trivial), by repeat (first | (with_reducible first | exact HB.out | apply below_alloc | apply pw_below_drewN | apply below_drew1 | refine below_set ?_ (IsS71.ge HI157.out) | refine below_set ?_ GE154.out | refine below_set ?_ GE155.out | refine below_set ?_ GE156.out) | exact HB.out)⟩
                  · replace c49 := Bool.eq_false_iff.mpr c49
                    subst c49
                    have H1 : (if t174 = 44 then (if (y166.length : Int) > 1 then (if (x157000_1 != (t174 == 63)) = true then ((dep_reader_wrong.f t175 t176 t177 t178 t176).bind fun bt179 => (some (false, ([] : List (S52)), bt179.2.2.1, bt179.2.2.2))) else (dep_Parse.l0 kj32 a0 (t174 == 63) y166 t175 (wrap64 (t176 + 1)) t177 t178)) else (dep_Parse.l0 kj32 a0 (t174 == 63) y166 t175 (wrap64 (t176 + 1)) t177 t178)) else (if t174 = 63 then (if (y166.length : Int) > 1 then (if (x157000_1 != (t174 == 63)) = true then ((dep_reader_wrong.f t175 t176 t177 t178 t176).bind fun bt183 => (some (false, ([] : List (S52)), bt183.2.2.1, bt183.2.2.2))) else (dep_Parse.l0 kj32 a0 (t174 == 63) y166 t175 (wrap64 (t176 + 1)) t177 t178)) else (dep_Parse.l0 kj32 a0 (t174 == 63) y166 t175 (wrap64 (t176 + 1)) t177 t178)) else ((dep_reader_wrong.f t175 t176 t177 t178 t176).bind fun bt187 => (some (false, ([] : List (S52)), bt187.2.2.1, bt187.2.2.2))))) = some (r1, r2, r3, r4) := by rw [if_neg (show ¬ (false = true) by decide)] at H; exact H
                    clear H
                    have H := H1
                    clear H1
                    by_cases c59 : t174 = 44
                    · rw [if_pos c59] at H
                      have c59b0 : (t174 == 44) = true := beq_iff_eq.mpr c59
                      have c59b1 : (t174 != 44) = false := bne_eq_false_iff_eq.mpr c59
                      clear c59
                      by_cases c60 : (y166.length : Int) > 1
                      · rw [if_pos c60] at H
                        have c60b0 : decide (1 < (y166.length : Int)) = true := decide_eq_true c60
                        have c60b1 : decide (1 < y166.length) = true := decide_eq_true (by omega)
                        clear c60
                        by_cases c61 : (x157000_1 != (t174 == 63)) = true
                        · rw [if_pos c61] at H
                          have c61b0 : (x157000_1 != (t174 == 63)) = true := c61
                          (try (have c61b1 : decide (x157000_1 = (t174 == 63)) = false := by simpa using c61))
                          (try (have c61b2 : (x157000_1 == (t174 == 63)) = false := by simpa using c61))
                          (try (have c61b3 : ¬ (x157000_1 = (t174 == 63)) := by simpa using c61))
                          clear c61
                          replace H := Option.bind_eq_some_iff.mp H
                          obtain ⟨⟨t179, t180, t181, t182⟩, A620, H⟩ := H
                          replace H : (some (false, ([] : List (S52)), t181, t182)) = some (r1, r2, r3, r4) := H
                          have A62 := Aside0.mk A620
                          clear A620
                          simp only [Option.some.injEq, Prod.mk.injEq] at H
                          obtain ⟨rfl, rfl, rfl, rfl⟩ := H
                          have hnb63 := NB156_154.out
                          have hnc63 := NB154_156.out
                          have hnb64 := NB156_155.out
                          have hnc64 := NB155_156.out
                          have hnb65 := NB156_157.out
                          have hnc65 := NB157_156.out
                          have hcz66_0 : wc.cell? ⟨gb156, 0, none⟩ = some (.bool x157000_1) := (blk_cell BK156.out 0).trans rfl
                          have hcz66_1 : wc.cell? ⟨gb156, 1, none⟩ = some (.slice Ao43 y166.length co43) := (blk_cell BK156.out 1).trans rfl
                          have hfz66_0 := blk_frozen BK156.out 0
                          have hfz66_1 := blk_frozen BK156.out 1
                          obtain ⟨HGz67, hgz67⟩ := HI157.out
                          have hcz67_0 := cellS71_0 HGz67
                          have hcz67_1 := cellS71_1 HGz67
                          have hcz67_2 := cellS71_2 HGz67
                          have hcz67_3 := cellS71_3 HGz67
                          have hfz67_0 := blk_frozen HGz67 0
                          have hfz67_1 := blk_frozen HGz67 1
                          have hfz67_2 := blk_frozen HGz67 2
                          have hfz67_3 := blk_frozen HGz67 3
                          clear HGz67 hgz67
                          try go_wp2_with (first | ((with_reducible refine gate_callee (f := 33) rfl ?_); refine goesL_ (some 74) rfl rfl Tryd.func33 (by kernel_rfl) rfl #[.pointer (some ⟨gb157, 0, none⟩), .int .i64 t176] rfl (by (try simp only [List.map_toArray, List.map_cons, List.map_nil]); first | done | rfl | (simp only [List.length_drop, List.length_take]; rfl)) ?_; (with_reducible refine (dep_reader_wrong.calls gb157 t175 t176 t177 t178 t176 t179 t180 t181 t182 w _ ?side1 ?side2 A62.out).mono ?_); (case side1 => repeat (first | (with_reducible first | exact HI157.out | apply IsS71.alloc | apply IsS71.drewN | apply IsS71.drew | apply IsS71.set_0 | apply IsS71.set_1 | apply IsS71.set_2 | apply IsS71.set_3 | (apply IsS71.far; (case hne => exact NB157_154.out)) | (apply IsS71.far; (case hne => exact NB157_155.out)) | (apply IsS71.far; (case hne => exact NB157_156.out))) | exact HI157.out)); (case side2 => repeat (first | (with_reducible first | exact HB.out | apply below_alloc | apply pw_below_drewN | apply below_drew1 | refine below_set ?_ (IsS71.ge HI157.out) | refine below_set ?_ GE154.out | refine below_set ?_ GE155.out | refine below_set ?_ GE156.out) | exact HB.out)); rintro e w68 ⟨rfl, hi, hb, hk⟩; refine ⟨_, rfl, ?_⟩; have n0_ := Aside0.mk (Kd.S_mono (Kd.S_keep (IsS71.apartS (show IsS71 w _ gb157 t175 t176 t177 t178 from by repeat (first | (with_reducible first | exact HI157.out | apply IsS71.alloc | apply IsS71.drewN | apply IsS71.drew | apply IsS71.set_0 | apply IsS71.set_1 | apply IsS71.set_2 | apply IsS71.set_3 | (apply IsS71.far; (case hne => exact NB157_154.out)) | (apply IsS71.far; (case hne => exact NB157_155.out)) | (apply IsS71.far; (case hne => exact NB157_156.out))) | exact HI157.out)) (by (with_reducible repeat (first | apply Kd.S_alloc | apply Kd.S_drewN | apply Kd.S_drew)); exact HO_157001.out) (by decide)) hk (fun _ h => h.2)) (fun _ h => h.1)); have n1_ := Aside0.mk (KeepBut.blk hk (g' := gb154) (o := .cells #[.bool x155000_1, .slice none 0 0] 31 (0, 0)) (by (with_reducible repeat (first | refine blk_drewN ?_ _ | refine blk_drew ?_ | refine blk_alloc ?_ _)); exact BK154.out) NB154_157.out (by simp)); have n2_ := Aside0.mk (KeepBut.blk hk (g' := gb155) (o := .cells #[.int .i64 x156000_1, .int .i64 x156001_1] 39 (0, 0)) (by (with_reducible repeat (first | refine blk_drewN ?_ _ | refine blk_drew ?_ | refine blk_alloc ?_ _)); exact BK155.out) NB155_157.out (by simp)); have n3_ := Aside0.mk (KeepBut.blk hk (g' := gb156) (o := .cells #[.bool x157000_1, .slice Ao43 y166.length co43] 31 (0, 0)) (by (with_reducible repeat (first | refine blk_drewN ?_ _ | refine blk_drew ?_ | refine blk_alloc ?_ _)); exact BK156.out) NB156_157.out (by simp)); have n4_ := Aside0.mk (hb); have n5_ := Aside0.mk (hi); clear HO_157001; clear BK154; clear BK155; clear BK156; clear HB; clear HI157; have HO_157001 := n0_; have BK154 := n1_; have BK155 := n2_; have BK156 := n3_; have HB := n4_; have HI157 := n5_; clear n0_ n1_ n2_ n3_ n4_ n5_; (try clear hb); (try clear hb2); (try clear hk); (try clear hi)))
                          have n0_ := Aside0.mk (Kd.S_drew HO_157001.out)
                          have n1_ := Aside0.mk (blk_drew BK154.out)
                          have n2_ := Aside0.mk (blk_drew BK155.out)
                          have n3_ := Aside0.mk (blk_drew BK156.out)
                          have n4_ := Aside0.mk (IsS71.drew HI157.out)
                          have n5_ := Aside0.mk (below_drew1 HB.out)
                          clear HO_157001
                          clear BK154
                          clear BK155
                          clear BK156
                          clear HI157
                          clear HB
                          have HO_157001 := n0_
                          have BK154 := n1_
                          have BK155 := n2_
                          have BK156 := n3_
                          have HI157 := n4_
                          have HB := n5_
                          clear n0_ n1_ n2_ n3_ n4_ n5_
                          refine start_ (n := 7) (S := fun w' => w'.cell? ⟨gb157, 0, none⟩ = some (.string t179) ∧ w'.cell? ⟨gb157, 1, none⟩ = some (.int .i64 t180) ∧ w'.cell? ⟨gb157, 2, none⟩ = some (.int .i64 t181) ∧ w'.cell? ⟨gb157, 3, none⟩ = some (.int .i64 t182)) (ds := []) #[false, false, false, false, false, false, false] (by kernel_rfl) rfl rfl ⟨(cellS71_0 (HI157.out).1), (cellS71_1 (HI157.out).1), (cellS71_2 (HI157.out).1), (cellS71_3 (HI157.out).1)⟩ (fun hHeld => ?_)
                          generalize w68.drew = w69 at HO_157001 BK154 BK155 BK156 HI157 HB hHeld ⊢
                          refine pure_ (i := 0) (N := some 75) (v := ?_) (a' := ?_) #[true, false, false, false, false, false, false] rfl rfl (by kernel_rfl) (fun _ _ _ h => h) (Or.inl ⟨by rfl, ?_⟩) ?_ ?_
                          rotate_left
                          · intro w'
                            go_simp
                            with_reducible rfl
                          rotate_left
                          · simp only [Act.put, List.setIfInBounds_toArray, List.set_cons_zero, List.set_cons_succ, i64_w, i32_w]
                            rfl
                          refine pure_ (i := 1) (N := some 76) (v := ?_) (a' := ?_) #[true, true, false, false, false, false, false] rfl rfl (by kernel_rfl) (fun _ _ _ h => h) (Or.inl ⟨by rfl, ?_⟩) ?_ ?_
                          rotate_left
                          · intro w'
                            go_simp
                            with_reducible rfl
                          rotate_left
                          · simp only [Act.put, List.setIfInBounds_toArray, List.set_cons_zero, List.set_cons_succ, i64_w, i32_w]
                            rfl
                          refine pure_ (i := 2) (N := some 77) (v := ?_) (a' := ?_) #[true, true, true, false, false, false, false] rfl rfl (by kernel_rfl) (fun _ _ _ h => h) (Or.inl ⟨by rfl, ?_⟩) ?_ ?_
                          rotate_left
                          · intro w'
                            go_simp
                            with_reducible rfl
                          rotate_left
                          · simp only [Act.put, List.setIfInBounds_toArray, List.set_cons_zero, List.set_cons_succ, i64_w, i32_w]
                            rfl
                          refine pure_ (i := 3) (N := some 78) (v := ?_) (a' := ?_) #[true, true, true, true, false, false, false] rfl rfl (by kernel_rfl) (fun _ _ _ h => h) (Or.inl ⟨by rfl, ?_⟩) ?_ ?_
                          rotate_left
                          · intro w'
                            go_simp
                            with_reducible rfl
                          rotate_left
                          · simp only [Act.put, List.setIfInBounds_toArray, List.set_cons_zero, List.set_cons_succ, i64_w, i32_w]
                            rfl
                          refine take_ (i := 4) (N := some 79) (v := ?_) (a' := ?_) #[true, true, true, true, true, false, false] rfl rfl (by kernel_rfl) (fun _ _ _ h => h) (Or.inl ⟨by rfl, ?_⟩) hHeld ?_ ?_
                          rotate_left
                          · rintro w' ⟨s0, s1, s2, s3⟩
                            go_simp
                            with_reducible rfl
                          rotate_left
                          · simp only [Act.put, List.setIfInBounds_toArray, List.set_cons_zero, List.set_cons_succ, i64_w, i32_w]
                            rfl
                          refine one_ (i := 5) (N := none) #[true, true, true, true, true, true, false] rfl rfl (by kernel_rfl) (by decide) (fun K hK => ?_)
                          have hs70 : w69.cell? ⟨gb154, 0, none⟩ = some (.bool x155000_1) := (blk_cell BK154.out 0).trans rfl
                          have hfs70 := blk_frozen BK154.out 0
                          have hns70_1 := NB155_154.out
                          have hns70_2 := NB156_154.out
                          have hms70_1 := NB154_155.out
                          have hms70_2 := NB154_156.out
                          have hs71 : w69.cell? ⟨gb154, 1, none⟩ = some (.slice none 0 0) := (blk_cell BK154.out 1).trans rfl
                          have hfs71 := blk_frozen BK154.out 1
                          have hns71_1 := NB155_154.out
                          have hns71_2 := NB156_154.out
                          have hms71_1 := NB154_155.out
                          have hms71_2 := NB154_156.out
                          refine skip_ (w1 := ?_) (by rfl) rfl ?_ ?_
                          rotate_left
                          · go_simp
                            rfl
                          refine hK.out _ _ ⟨((cell_far (p := ⟨gb154, _, none⟩) NB157_154.out _).trans (((cell_far (p := ⟨gb154, _, none⟩) NB157_154.out _).trans (hHeld.1)))), ((cell_far (p := ⟨gb154, _, none⟩) NB157_154.out _).trans (((cell_far (p := ⟨gb154, _, none⟩) NB157_154.out _).trans (hHeld.2.1)))), ((cell_far (p := ⟨gb154, _, none⟩) NB157_154.out _).trans (((cell_far (p := ⟨gb154, _, none⟩) NB157_154.out _).trans (hHeld.2.2.1)))), ((cell_far (p := ⟨gb154, _, none⟩) NB157_154.out _).trans (((cell_far (p := ⟨gb154, _, none⟩) NB157_154.out _).trans (hHeld.2.2.2))))⟩ (fun hHeld => ?_)
                          clear hK K
                          refine one_ (i := 6) (N := none) #[true, true, true, true, true, true, true] rfl rfl (by kernel_rfl) (by decide) (fun K hK => ?_)
                          have hs72 : w69.cell? ⟨gb155, 0, none⟩ = some (.int .i64 x156000_1) := (blk_cell BK155.out 0).trans rfl
                          have hfs72 := blk_frozen BK155.out 0
                          have hns72_0 := NB154_155.out
                          have hns72_2 := NB156_155.out
                          have hms72_0 := NB155_154.out
                          have hms72_2 := NB155_156.out
                          have hs73 : w69.cell? ⟨gb155, 1, none⟩ = some (.int .i64 x156001_1) := (blk_cell BK155.out 1).trans rfl
                          have hfs73 := blk_frozen BK155.out 1
                          have hns73_0 := NB154_155.out
                          have hns73_2 := NB156_155.out
                          have hms73_0 := NB155_154.out
                          have hms73_2 := NB155_156.out
                          refine skip_ (w1 := ?_) (by rfl) rfl ?_ ?_
                          rotate_left
                          · go_simp
                            rfl
                          refine hK.out _ _ ⟨((cell_far (p := ⟨gb155, _, none⟩) NB157_155.out _).trans (((cell_far (p := ⟨gb155, _, none⟩) NB157_155.out _).trans (hHeld.1)))), ((cell_far (p := ⟨gb155, _, none⟩) NB157_155.out _).trans (((cell_far (p := ⟨gb155, _, none⟩) NB157_155.out _).trans (hHeld.2.1)))), ((cell_far (p := ⟨gb155, _, none⟩) NB157_155.out _).trans (((cell_far (p := ⟨gb155, _, none⟩) NB157_155.out _).trans (hHeld.2.2.1)))), ((cell_far (p := ⟨gb155, _, none⟩) NB157_155.out _).trans (((cell_far (p := ⟨gb155, _, none⟩) NB157_155.out _).trans (hHeld.2.2.2))))⟩ (fun hHeld => ?_)
                          clear hK K
                          refine done_ (by kernel_rfl) ?_
                          try go_wp2
                          refine bodyPost_ret (results_cc rfl _ _ gb154 gb155 31 39 #[.bool false, .slice none 0 0] #[.int .i64 t181, .int .i64 t182] (0, 0) (0, 0) _ _ rfl (by (with_reducible repeat (first | refine blk_drewN ?_ _ | refine blk_drew ?_ | refine blk_alloc ?_ _)); refine blk_far ?_ NB154_155.out _; (with_reducible repeat (first | refine blk_drewN ?_ _ | refine blk_drew ?_ | refine blk_alloc ?_ _)); refine blk_far ?_ NB154_155.out _; (with_reducible repeat (first | refine blk_drewN ?_ _ | refine blk_drew ?_ | refine blk_alloc ?_ _)); refine blk_put (cs := #[.bool false, .slice none 0 0]) ?_ 1 _ rfl; (with_reducible repeat (first | refine blk_drewN ?_ _ | refine blk_drew ?_ | refine blk_alloc ?_ _)); refine blk_put (cs := #[.bool x155000_1, .slice none 0 0]) ?_ 0 _ rfl; (with_reducible repeat (first | refine blk_drewN ?_ _ | refine blk_drew ?_ | refine blk_alloc ?_ _)); exact BK154.out) Tryd.underlying31 rfl (by kernel_rfl) rfl (by (with_reducible repeat (first | refine blk_drewN ?_ _ | refine blk_drew ?_ | refine blk_alloc ?_ _)); refine blk_put (cs := #[.int .i64 t181, .int .i64 x156001_1]) ?_ 1 _ rfl; (with_reducible repeat (first | refine blk_drewN ?_ _ | refine blk_drew ?_ | refine blk_alloc ?_ _)); refine blk_put (cs := #[.int .i64 x156000_1, .int .i64 x156001_1]) ?_ 0 _ rfl; (with_reducible repeat (first | refine blk_drewN ?_ _ | refine blk_drew ?_ | refine blk_alloc ?_ _)); refine blk_far ?_ NB155_154.out _; (with_reducible repeat (first | refine blk_drewN ?_ _ | refine blk_drew ?_ | refine blk_alloc ?_ _)); refine blk_far ?_ NB155_154.out _; (with_reducible repeat (first | refine blk_drewN ?_ _ | refine blk_drew ?_ | refine blk_alloc ?_ _)); exact BK155.out) Tryd.underlying39 rfl (by kernel_rfl)) rfl ?_
                          exact ⟨_, by first | rfl | (simp [errW_none, errW_some] <;> rfl) | (simp [*, errW_none, errW_some] <;> rfl), by first | exact Kd.S_nil _ _ _ _ _ | exact Kd.N_nil _ _ _ _ _ | exact Kd.V_nil _ _ _ _ _ | exact Kd.Q_nil _ _ _ _ _ | exact Kd.R_nil _ _ _ _ _, by repeat (first | (with_reducible first | exact HB.out | apply below_alloc | apply pw_below_drewN | apply below_drew1 | refine below_set ?_ (IsS71.ge HI157.out) | refine below_set ?_ GE154.out | refine below_set ?_ GE155.out | refine below_set ?_ GE156.out) | exact HB.out)⟩
                        · rw [if_neg c61] at H
                          have c61b0 : (x157000_1 != (t174 == 63)) = false := by simpa using c61
                          (try (have c61b1 : decide (x157000_1 = (t174 == 63)) = true := by simpa using c61))
                          (try (have c61b2 : (x157000_1 == (t174 == 63)) = true := by simpa using c61))
                          clear c61
                          have H' := Aside0.mk H
                          clear H
                          have hnb74 := NB156_154.out
                          have hnc74 := NB154_156.out
                          have hnb75 := NB156_155.out
                          have hnc75 := NB155_156.out
                          have hnb76 := NB156_157.out
                          have hnc76 := NB157_156.out
                          have hcz77_0 : wc.cell? ⟨gb156, 0, none⟩ = some (.bool x157000_1) := (blk_cell BK156.out 0).trans rfl
                          have hcz77_1 : wc.cell? ⟨gb156, 1, none⟩ = some (.slice Ao43 y166.length co43) := (blk_cell BK156.out 1).trans rfl
                          have hfz77_0 := blk_frozen BK156.out 0
                          have hfz77_1 := blk_frozen BK156.out 1
                          obtain ⟨HGz78, hgz78⟩ := HI157.out
                          have hcz78_0 := cellS71_0 HGz78
                          have hcz78_1 := cellS71_1 HGz78
                          have hcz78_2 := cellS71_2 HGz78
                          have hcz78_3 := cellS71_3 HGz78
                          have hfz78_0 := blk_frozen HGz78 0
                          have hfz78_1 := blk_frozen HGz78 1
                          have hfz78_2 := blk_frozen HGz78 2
                          have hfz78_3 := blk_frozen HGz78 3
                          clear HGz78 hgz78
                          go_wp2
                          go_roundg kj32
                          case measure => have := HK1.out; have := HJ32.out; omega
                          case rel => exact ⟨(x155000_1), (x156000_1), (x156001_1), ((t174 == 63)), (y166), (t175), (wrap64 (t176 + 1)), (t177), (t178), (.slice Ao43 y166.length co43), H', ⟨by have := HK1.out; have := HJ32.out; omega⟩, ⟨by (with_reducible repeat (first | apply Kd.S_alloc | apply Kd.S_drewN | apply Kd.S_drew)); exact Kd.S_mono (Kd.S_far (p := ⟨gb157, 1, none⟩) (Kd.S_far (p := ⟨gb156, 0, none⟩) (IsS71.apartS HI157.out (Kd.S_types HO_157001.out BK156.out (by decide)) (by decide)) (fun _ hk => hk.1.2) (.bool (t174 == 63))) (fun _ hk => hk.2) (.int .i64 (wrap64 (t176 + 1)))) (fun _ hk => trivial)⟩, ⟨by (with_reducible repeat (first | refine blk_drewN ?_ _ | refine blk_drew ?_ | refine blk_alloc ?_ _)); refine blk_far ?_ NB154_157.out _; (with_reducible repeat (first | refine blk_drewN ?_ _ | refine blk_drew ?_ | refine blk_alloc ?_ _)); refine blk_far ?_ NB154_156.out _; (with_reducible repeat (first | refine blk_drewN ?_ _ | refine blk_drew ?_ | refine blk_alloc ?_ _)); exact BK154.out⟩, ⟨by (with_reducible repeat (first | refine blk_drewN ?_ _ | refine blk_drew ?_ | refine blk_alloc ?_ _)); refine blk_far ?_ NB155_157.out _; (with_reducible repeat (first | refine blk_drewN ?_ _ | refine blk_drew ?_ | refine blk_alloc ?_ _)); refine blk_far ?_ NB155_156.out _; (with_reducible repeat (first | refine blk_drewN ?_ _ | refine blk_drew ?_ | refine blk_alloc ?_ _)); exact BK155.out⟩, ⟨by (with_reducible repeat (first | refine blk_drewN ?_ _ | refine blk_drew ?_ | refine blk_alloc ?_ _)); refine blk_far ?_ NB156_157.out _; (with_reducible repeat (first | refine blk_drewN ?_ _ | refine blk_drew ?_ | refine blk_alloc ?_ _)); refine blk_put (cs := #[.bool x157000_1, .slice Ao43 y166.length co43]) ?_ 0 _ rfl; (with_reducible repeat (first | refine blk_drewN ?_ _ | refine blk_drew ?_ | refine blk_alloc ?_ _)); exact BK156.out⟩, ⟨by repeat (first | (with_reducible first | exact HI157.out | apply IsS71.alloc | apply IsS71.drewN | apply IsS71.drew | apply IsS71.set_0 | apply IsS71.set_1 | apply IsS71.set_2 | apply IsS71.set_3 | (apply IsS71.far; (case hne => exact NB157_154.out)) | (apply IsS71.far; (case hne => exact NB157_155.out)) | (apply IsS71.far; (case hne => exact NB157_156.out))) | exact HI157.out)⟩, ⟨by repeat (first | (with_reducible first | exact HB.out | apply below_alloc | apply pw_below_drewN | apply below_drew1 | refine below_set ?_ (IsS71.ge HI157.out) | refine below_set ?_ GE154.out | refine below_set ?_ GE155.out | refine below_set ?_ GE156.out) | exact HB.out)⟩⟩
                      · rw [if_neg c60] at H
                        have c60b0 : decide (1 < (y166.length : Int)) = false := decide_eq_false c60
                        have c60b1 : decide (1 < y166.length) = false := decide_eq_false (by omega)
                        clear c60
                        have H' := Aside0.mk H
                        clear H
                        have hnb79 := NB156_154.out
                        have hnc79 := NB154_156.out
                        have hnb80 := NB156_155.out
                        have hnc80 := NB155_156.out
                        have hnb81 := NB156_157.out
                        have hnc81 := NB157_156.out
                        have hcz82_0 : wc.cell? ⟨gb156, 0, none⟩ = some (.bool x157000_1) := (blk_cell BK156.out 0).trans rfl
                        have hcz82_1 : wc.cell? ⟨gb156, 1, none⟩ = some (.slice Ao43 y166.length co43) := (blk_cell BK156.out 1).trans rfl
                        have hfz82_0 := blk_frozen BK156.out 0
                        have hfz82_1 := blk_frozen BK156.out 1
                        obtain ⟨HGz83, hgz83⟩ := HI157.out
                        have hcz83_0 := cellS71_0 HGz83
                        have hcz83_1 := cellS71_1 HGz83
                        have hcz83_2 := cellS71_2 HGz83
                        have hcz83_3 := cellS71_3 HGz83
                        have hfz83_0 := blk_frozen HGz83 0
                        have hfz83_1 := blk_frozen HGz83 1
                        have hfz83_2 := blk_frozen HGz83 2
                        have hfz83_3 := blk_frozen HGz83 3
                        clear HGz83 hgz83
                        go_wp2
                        go_roundg kj32
                        case measure => have := HK1.out; have := HJ32.out; omega
                        case rel => exact ⟨(x155000_1), (x156000_1), (x156001_1), ((t174 == 63)), (y166), (t175), (wrap64 (t176 + 1)), (t177), (t178), (.slice Ao43 y166.length co43), H', ⟨by have := HK1.out; have := HJ32.out; omega⟩, ⟨by (with_reducible repeat (first | apply Kd.S_alloc | apply Kd.S_drewN | apply Kd.S_drew)); exact Kd.S_mono (Kd.S_far (p := ⟨gb157, 1, none⟩) (Kd.S_far (p := ⟨gb156, 0, none⟩) (IsS71.apartS HI157.out (Kd.S_types HO_157001.out BK156.out (by decide)) (by decide)) (fun _ hk => hk.1.2) (.bool (t174 == 63))) (fun _ hk => hk.2) (.int .i64 (wrap64 (t176 + 1)))) (fun _ hk => trivial)⟩, ⟨by (with_reducible repeat (first | refine blk_drewN ?_ _ | refine blk_drew ?_ | refine blk_alloc ?_ _)); refine blk_far ?_ NB154_157.out _; (with_reducible repeat (first | refine blk_drewN ?_ _ | refine blk_drew ?_ | refine blk_alloc ?_ _)); refine blk_far ?_ NB154_156.out _; (with_reducible repeat (first | refine blk_drewN ?_ _ | refine blk_drew ?_ | refine blk_alloc ?_ _)); exact BK154.out⟩, ⟨by (with_reducible repeat (first | refine blk_drewN ?_ _ | refine blk_drew ?_ | refine blk_alloc ?_ _)); refine blk_far ?_ NB155_157.out _; (with_reducible repeat (first | refine blk_drewN ?_ _ | refine blk_drew ?_ | refine blk_alloc ?_ _)); refine blk_far ?_ NB155_156.out _; (with_reducible repeat (first | refine blk_drewN ?_ _ | refine blk_drew ?_ | refine blk_alloc ?_ _)); exact BK155.out⟩, ⟨by (with_reducible repeat (first | refine blk_drewN ?_ _ | refine blk_drew ?_ | refine blk_alloc ?_ _)); refine blk_far ?_ NB156_157.out _; (with_reducible repeat (first | refine blk_drewN ?_ _ | refine blk_drew ?_ | refine blk_alloc ?_ _)); refine blk_put (cs := #[.bool x157000_1, .slice Ao43 y166.length co43]) ?_ 0 _ rfl; (with_reducible repeat (first | refine blk_drewN ?_ _ | refine blk_drew ?_ | refine blk_alloc ?_ _)); exact BK156.out⟩, ⟨by repeat (first | (with_reducible first | exact HI157.out | apply IsS71.alloc | apply IsS71.drewN | apply IsS71.drew | apply IsS71.set_0 | apply IsS71.set_1 | apply IsS71.set_2 | apply IsS71.set_3 | (apply IsS71.far; (case hne => exact NB157_154.out)) | (apply IsS71.far; (case hne => exact NB157_155.out)) | (apply IsS71.far; (case hne => exact NB157_156.out))) | exact HI157.out)⟩, ⟨by repeat (first | (with_reducible first | exact HB.out | apply below_alloc | apply pw_below_drewN | apply below_drew1 | refine below_set ?_ (IsS71.ge HI157.out) | refine below_set ?_ GE154.out | refine below_set ?_ GE155.out | refine below_set ?_ GE156.out) | exact HB.out)⟩⟩
                    · rw [if_neg c59] at H
                      have c59b0 : (t174 == 44) = false := beq_eq_false_iff_ne.mpr c59
                      have c59b1 : (t174 != 44) = true := bne_iff_ne.mpr c59
                      by_cases c84 : t174 = 63
                      · rw [if_pos c84] at H
                        have c84b0 : (t174 == 63) = true := beq_iff_eq.mpr c84
                        (try simp only [c84b0] at H)
                        have c84b1 : (t174 != 63) = false := bne_eq_false_iff_eq.mpr c84
                        clear c84
                        by_cases c85 : (y166.length : Int) > 1
                        · rw [if_pos c85] at H
                          have c85b0 : decide (1 < (y166.length : Int)) = true := decide_eq_true c85
                          have c85b1 : decide (1 < y166.length) = true := decide_eq_true (by omega)
                          clear c85
                          by_cases c86 : (x157000_1 != true) = true
                          · rw [if_pos c86] at H
                            have c86b0 : (x157000_1 != true) = true := c86
                            have c86b5 : x157000_1 = false := by simpa using c86
                            (try (have c86b1 : decide (x157000_1 = true) = false := by simpa using c86))
                            (try (have c86b2 : (x157000_1 == true) = false := by simpa using c86))
                            (try (have c86b3 : ¬ (x157000_1 = true) := by simpa using c86))
                            clear c86
                            replace H := Option.bind_eq_some_iff.mp H
                            obtain ⟨⟨t183, t184, t185, t186⟩, A870, H⟩ := H
                            replace H : (some (false, ([] : List (S52)), t185, t186)) = some (r1, r2, r3, r4) := H
                            have A87 := Aside0.mk A870
                            clear A870
                            simp only [Option.some.injEq, Prod.mk.injEq] at H
                            obtain ⟨rfl, rfl, rfl, rfl⟩ := H
                            have hnb88 := NB156_154.out
                            have hnc88 := NB154_156.out
                            have hnb89 := NB156_155.out
                            have hnc89 := NB155_156.out
                            have hnb90 := NB156_157.out
                            have hnc90 := NB157_156.out
                            have hcz91_0 : wc.cell? ⟨gb156, 0, none⟩ = some (.bool x157000_1) := (blk_cell BK156.out 0).trans rfl
                            have hcz91_1 : wc.cell? ⟨gb156, 1, none⟩ = some (.slice Ao43 y166.length co43) := (blk_cell BK156.out 1).trans rfl
                            have hfz91_0 := blk_frozen BK156.out 0
                            have hfz91_1 := blk_frozen BK156.out 1
                            obtain ⟨HGz92, hgz92⟩ := HI157.out
                            have hcz92_0 := cellS71_0 HGz92
                            have hcz92_1 := cellS71_1 HGz92
                            have hcz92_2 := cellS71_2 HGz92
                            have hcz92_3 := cellS71_3 HGz92
                            have hfz92_0 := blk_frozen HGz92 0
                            have hfz92_1 := blk_frozen HGz92 1
                            have hfz92_2 := blk_frozen HGz92 2
                            have hfz92_3 := blk_frozen HGz92 3
                            clear HGz92 hgz92
                            try go_wp2_with (first | ((with_reducible refine gate_callee (f := 33) rfl ?_); refine goesL_ (some 74) rfl rfl Tryd.func33 (by kernel_rfl) rfl #[.pointer (some ⟨gb157, 0, none⟩), .int .i64 t176] rfl (by (try simp only [List.map_toArray, List.map_cons, List.map_nil]); first | done | rfl | (simp only [List.length_drop, List.length_take]; rfl)) ?_; (with_reducible refine (dep_reader_wrong.calls gb157 t175 t176 t177 t178 t176 t183 t184 t185 t186 w _ ?side1 ?side2 A87.out).mono ?_); (case side1 => repeat (first | (with_reducible first | exact HI157.out | apply IsS71.alloc | apply IsS71.drewN | apply IsS71.drew | apply IsS71.set_0 | apply IsS71.set_1 | apply IsS71.set_2 | apply IsS71.set_3 | (apply IsS71.far; (case hne => exact NB157_154.out)) | (apply IsS71.far; (case hne => exact NB157_155.out)) | (apply IsS71.far; (case hne => exact NB157_156.out))) | exact HI157.out)); (case side2 => repeat (first | (with_reducible first | exact HB.out | apply below_alloc | apply pw_below_drewN | apply below_drew1 | refine below_set ?_ (IsS71.ge HI157.out) | refine below_set ?_ GE154.out | refine below_set ?_ GE155.out | refine below_set ?_ GE156.out) | exact HB.out)); rintro e w93 ⟨rfl, hi, hb, hk⟩; refine ⟨_, rfl, ?_⟩; have n0_ := Aside0.mk (Kd.S_mono (Kd.S_keep (IsS71.apartS (show IsS71 w _ gb157 t175 t176 t177 t178 from by repeat (first | (with_reducible first | exact HI157.out | apply IsS71.alloc | apply IsS71.drewN | apply IsS71.drew | apply IsS71.set_0 | apply IsS71.set_1 | apply IsS71.set_2 | apply IsS71.set_3 | (apply IsS71.far; (case hne => exact NB157_154.out)) | (apply IsS71.far; (case hne => exact NB157_155.out)) | (apply IsS71.far; (case hne => exact NB157_156.out))) | exact HI157.out)) (by (with_reducible repeat (first | apply Kd.S_alloc | apply Kd.S_drewN | apply Kd.S_drew)); exact HO_157001.out) (by decide)) hk (fun _ h => h.2)) (fun _ h => h.1)); have n1_ := Aside0.mk (KeepBut.blk hk (g' := gb154) (o := .cells #[.bool x155000_1, .slice none 0 0] 31 (0, 0)) (by (with_reducible repeat (first | refine blk_drewN ?_ _ | refine blk_drew ?_ | refine blk_alloc ?_ _)); exact BK154.out) NB154_157.out (by simp)); have n2_ := Aside0.mk (KeepBut.blk hk (g' := gb155) (o := .cells #[.int .i64 x156000_1, .int .i64 x156001_1] 39 (0, 0)) (by (with_reducible repeat (first | refine blk_drewN ?_ _ | refine blk_drew ?_ | refine blk_alloc ?_ _)); exact BK155.out) NB155_157.out (by simp)); have n3_ := Aside0.mk (KeepBut.blk hk (g' := gb156) (o := .cells #[.bool x157000_1, .slice Ao43 y166.length co43] 31 (0, 0)) (by (with_reducible repeat (first | refine blk_drewN ?_ _ | refine blk_drew ?_ | refine blk_alloc ?_ _)); exact BK156.out) NB156_157.out (by simp)); have n4_ := Aside0.mk (hb); have n5_ := Aside0.mk (hi); clear HO_157001; clear BK154; clear BK155; clear BK156; clear HB; clear HI157; have HO_157001 := n0_; have BK154 := n1_; have BK155 := n2_; have BK156 := n3_; have HB := n4_; have HI157 := n5_; clear n0_ n1_ n2_ n3_ n4_ n5_; (try clear hb); (try clear hb2); (try clear hk); (try clear hi)))
                            have n0_ := Aside0.mk (Kd.S_drew HO_157001.out)
                            have n1_ := Aside0.mk (blk_drew BK154.out)
                            have n2_ := Aside0.mk (blk_drew BK155.out)
                            have n3_ := Aside0.mk (blk_drew BK156.out)
                            have n4_ := Aside0.mk (IsS71.drew HI157.out)
                            have n5_ := Aside0.mk (below_drew1 HB.out)
                            clear HO_157001
                            clear BK154
                            clear BK155
                            clear BK156
                            clear HI157
                            clear HB
                            have HO_157001 := n0_
                            have BK154 := n1_
                            have BK155 := n2_
                            have BK156 := n3_
                            have HI157 := n4_
                            have HB := n5_
                            clear n0_ n1_ n2_ n3_ n4_ n5_
                            refine start_ (n := 7) (S := fun w' => w'.cell? ⟨gb157, 0, none⟩ = some (.string t183) ∧ w'.cell? ⟨gb157, 1, none⟩ = some (.int .i64 t184) ∧ w'.cell? ⟨gb157, 2, none⟩ = some (.int .i64 t185) ∧ w'.cell? ⟨gb157, 3, none⟩ = some (.int .i64 t186)) (ds := []) #[false, false, false, false, false, false, false] (by kernel_rfl) rfl rfl ⟨(cellS71_0 (HI157.out).1), (cellS71_1 (HI157.out).1), (cellS71_2 (HI157.out).1), (cellS71_3 (HI157.out).1)⟩ (fun hHeld => ?_)
                            generalize w93.drew = w94 at HO_157001 BK154 BK155 BK156 HI157 HB hHeld ⊢
                            refine pure_ (i := 0) (N := some 75) (v := ?_) (a' := ?_) #[true, false, false, false, false, false, false] rfl rfl (by kernel_rfl) (fun _ _ _ h => h) (Or.inl ⟨by rfl, ?_⟩) ?_ ?_
                            rotate_left
                            · intro w'
                              go_simp
                              with_reducible rfl
                            rotate_left
                            · simp only [Act.put, List.setIfInBounds_toArray, List.set_cons_zero, List.set_cons_succ, i64_w, i32_w]
                              rfl
                            refine pure_ (i := 1) (N := some 76) (v := ?_) (a' := ?_) #[true, true, false, false, false, false, false] rfl rfl (by kernel_rfl) (fun _ _ _ h => h) (Or.inl ⟨by rfl, ?_⟩) ?_ ?_
                            rotate_left
                            · intro w'
                              go_simp
                              with_reducible rfl
                            rotate_left
                            · simp only [Act.put, List.setIfInBounds_toArray, List.set_cons_zero, List.set_cons_succ, i64_w, i32_w]
                              rfl
                            refine pure_ (i := 2) (N := some 77) (v := ?_) (a' := ?_) #[true, true, true, false, false, false, false] rfl rfl (by kernel_rfl) (fun _ _ _ h => h) (Or.inl ⟨by rfl, ?_⟩) ?_ ?_
                            rotate_left
                            · intro w'
                              go_simp
                              with_reducible rfl
                            rotate_left
                            · simp only [Act.put, List.setIfInBounds_toArray, List.set_cons_zero, List.set_cons_succ, i64_w, i32_w]
                              rfl
                            refine pure_ (i := 3) (N := some 78) (v := ?_) (a' := ?_) #[true, true, true, true, false, false, false] rfl rfl (by kernel_rfl) (fun _ _ _ h => h) (Or.inl ⟨by rfl, ?_⟩) ?_ ?_
                            rotate_left
                            · intro w'
                              go_simp
                              with_reducible rfl
                            rotate_left
                            · simp only [Act.put, List.setIfInBounds_toArray, List.set_cons_zero, List.set_cons_succ, i64_w, i32_w]
                              rfl
                            refine take_ (i := 4) (N := some 79) (v := ?_) (a' := ?_) #[true, true, true, true, true, false, false] rfl rfl (by kernel_rfl) (fun _ _ _ h => h) (Or.inl ⟨by rfl, ?_⟩) hHeld ?_ ?_
                            rotate_left
                            · rintro w' ⟨s0, s1, s2, s3⟩
                              go_simp
                              with_reducible rfl
                            rotate_left
                            · simp only [Act.put, List.setIfInBounds_toArray, List.set_cons_zero, List.set_cons_succ, i64_w, i32_w]
                              rfl
                            refine one_ (i := 5) (N := none) #[true, true, true, true, true, true, false] rfl rfl (by kernel_rfl) (by decide) (fun K hK => ?_)
                            have hs95 : w94.cell? ⟨gb154, 0, none⟩ = some (.bool x155000_1) := (blk_cell BK154.out 0).trans rfl
                            have hfs95 := blk_frozen BK154.out 0
                            have hns95_1 := NB155_154.out
                            have hns95_2 := NB156_154.out
                            have hms95_1 := NB154_155.out
                            have hms95_2 := NB154_156.out
                            have hs96 : w94.cell? ⟨gb154, 1, none⟩ = some (.slice none 0 0) := (blk_cell BK154.out 1).trans rfl
                            have hfs96 := blk_frozen BK154.out 1
                            have hns96_1 := NB155_154.out
                            have hns96_2 := NB156_154.out
                            have hms96_1 := NB154_155.out
                            have hms96_2 := NB154_156.out
                            refine skip_ (w1 := ?_) (by rfl) rfl ?_ ?_
                            rotate_left
                            · go_simp
                              rfl
                            refine hK.out _ _ ⟨((cell_far (p := ⟨gb154, _, none⟩) NB157_154.out _).trans (((cell_far (p := ⟨gb154, _, none⟩) NB157_154.out _).trans (hHeld.1)))), ((cell_far (p := ⟨gb154, _, none⟩) NB157_154.out _).trans (((cell_far (p := ⟨gb154, _, none⟩) NB157_154.out _).trans (hHeld.2.1)))), ((cell_far (p := ⟨gb154, _, none⟩) NB157_154.out _).trans (((cell_far (p := ⟨gb154, _, none⟩) NB157_154.out _).trans (hHeld.2.2.1)))), ((cell_far (p := ⟨gb154, _, none⟩) NB157_154.out _).trans (((cell_far (p := ⟨gb154, _, none⟩) NB157_154.out _).trans (hHeld.2.2.2))))⟩ (fun hHeld => ?_)
                            clear hK K
                            refine one_ (i := 6) (N := none) #[true, true, true, true, true, true, true] rfl rfl (by kernel_rfl) (by decide) (fun K hK => ?_)
                            have hs97 : w94.cell? ⟨gb155, 0, none⟩ = some (.int .i64 x156000_1) := (blk_cell BK155.out 0).trans rfl
                            have hfs97 := blk_frozen BK155.out 0
                            have hns97_0 := NB154_155.out
                            have hns97_2 := NB156_155.out
                            have hms97_0 := NB155_154.out
                            have hms97_2 := NB155_156.out
                            have hs98 : w94.cell? ⟨gb155, 1, none⟩ = some (.int .i64 x156001_1) := (blk_cell BK155.out 1).trans rfl
                            have hfs98 := blk_frozen BK155.out 1
                            have hns98_0 := NB154_155.out
                            have hns98_2 := NB156_155.out
                            have hms98_0 := NB155_154.out
                            have hms98_2 := NB155_156.out
                            refine skip_ (w1 := ?_) (by rfl) rfl ?_ ?_
                            rotate_left
                            · go_simp
                              rfl
                            refine hK.out _ _ ⟨((cell_far (p := ⟨gb155, _, none⟩) NB157_155.out _).trans (((cell_far (p := ⟨gb155, _, none⟩) NB157_155.out _).trans (hHeld.1)))), ((cell_far (p := ⟨gb155, _, none⟩) NB157_155.out _).trans (((cell_far (p := ⟨gb155, _, none⟩) NB157_155.out _).trans (hHeld.2.1)))), ((cell_far (p := ⟨gb155, _, none⟩) NB157_155.out _).trans (((cell_far (p := ⟨gb155, _, none⟩) NB157_155.out _).trans (hHeld.2.2.1)))), ((cell_far (p := ⟨gb155, _, none⟩) NB157_155.out _).trans (((cell_far (p := ⟨gb155, _, none⟩) NB157_155.out _).trans (hHeld.2.2.2))))⟩ (fun hHeld => ?_)
                            clear hK K
                            refine done_ (by kernel_rfl) ?_
                            try go_wp2
                            refine bodyPost_ret (results_cc rfl _ _ gb154 gb155 31 39 #[.bool false, .slice none 0 0] #[.int .i64 t185, .int .i64 t186] (0, 0) (0, 0) _ _ rfl (by (with_reducible repeat (first | refine blk_drewN ?_ _ | refine blk_drew ?_ | refine blk_alloc ?_ _)); refine blk_far ?_ NB154_155.out _; (with_reducible repeat (first | refine blk_drewN ?_ _ | refine blk_drew ?_ | refine blk_alloc ?_ _)); refine blk_far ?_ NB154_155.out _; (with_reducible repeat (first | refine blk_drewN ?_ _ | refine blk_drew ?_ | refine blk_alloc ?_ _)); refine blk_put (cs := #[.bool false, .slice none 0 0]) ?_ 1 _ rfl; (with_reducible repeat (first | refine blk_drewN ?_ _ | refine blk_drew ?_ | refine blk_alloc ?_ _)); refine blk_put (cs := #[.bool x155000_1, .slice none 0 0]) ?_ 0 _ rfl; (with_reducible repeat (first | refine blk_drewN ?_ _ | refine blk_drew ?_ | refine blk_alloc ?_ _)); exact BK154.out) Tryd.underlying31 rfl (by kernel_rfl) rfl (by (with_reducible repeat (first | refine blk_drewN ?_ _ | refine blk_drew ?_ | refine blk_alloc ?_ _)); refine blk_put (cs := #[.int .i64 t185, .int .i64 x156001_1]) ?_ 1 _ rfl; (with_reducible repeat (first | refine blk_drewN ?_ _ | refine blk_drew ?_ | refine blk_alloc ?_ _)); refine blk_put (cs := #[.int .i64 x156000_1, .int .i64 x156001_1]) ?_ 0 _ rfl; (with_reducible repeat (first | refine blk_drewN ?_ _ | refine blk_drew ?_ | refine blk_alloc ?_ _)); refine blk_far ?_ NB155_154.out _; (with_reducible repeat (first | refine blk_drewN ?_ _ | refine blk_drew ?_ | refine blk_alloc ?_ _)); refine blk_far ?_ NB155_154.out _; (with_reducible repeat (first | refine blk_drewN ?_ _ | refine blk_drew ?_ | refine blk_alloc ?_ _)); exact BK155.out) Tryd.underlying39 rfl (by kernel_rfl)) rfl ?_
                            exact ⟨_, by first | rfl | (simp [errW_none, errW_some] <;> rfl) | (simp [*, errW_none, errW_some] <;> rfl), by first | exact Kd.S_nil _ _ _ _ _ | exact Kd.N_nil _ _ _ _ _ | exact Kd.V_nil _ _ _ _ _ | exact Kd.Q_nil _ _ _ _ _ | exact Kd.R_nil _ _ _ _ _, by repeat (first | (with_reducible first | exact HB.out | apply below_alloc | apply pw_below_drewN | apply below_drew1 | refine below_set ?_ (IsS71.ge HI157.out) | refine below_set ?_ GE154.out | refine below_set ?_ GE155.out | refine below_set ?_ GE156.out) | exact HB.out)⟩
                          · rw [if_neg c86] at H
                            have c86b0 : (x157000_1 != true) = false := by simpa using c86
                            (try (have c86b1 : decide (x157000_1 = true) = true := by simpa using c86))
                            (try (have c86b2 : (x157000_1 == true) = true := by simpa using c86))
                            clear c86
                            have H' := Aside0.mk H
                            clear H
                            have hnb99 := NB156_154.out
                            have hnc99 := NB154_156.out
                            have hnb100 := NB156_155.out
                            have hnc100 := NB155_156.out
                            have hnb101 := NB156_157.out
                            have hnc101 := NB157_156.out
                            have hcz102_0 : wc.cell? ⟨gb156, 0, none⟩ = some (.bool x157000_1) := (blk_cell BK156.out 0).trans rfl
                            have hcz102_1 : wc.cell? ⟨gb156, 1, none⟩ = some (.slice Ao43 y166.length co43) := (blk_cell BK156.out 1).trans rfl
                            have hfz102_0 := blk_frozen BK156.out 0
                            have hfz102_1 := blk_frozen BK156.out 1
                            obtain ⟨HGz103, hgz103⟩ := HI157.out
                            have hcz103_0 := cellS71_0 HGz103
                            have hcz103_1 := cellS71_1 HGz103
                            have hcz103_2 := cellS71_2 HGz103
                            have hcz103_3 := cellS71_3 HGz103
                            have hfz103_0 := blk_frozen HGz103 0
                            have hfz103_1 := blk_frozen HGz103 1
                            have hfz103_2 := blk_frozen HGz103 2
                            have hfz103_3 := blk_frozen HGz103 3
                            clear HGz103 hgz103
                            go_wp2
                            go_roundg kj32
                            case measure => have := HK1.out; have := HJ32.out; omega
                            case rel => exact ⟨(x155000_1), (x156000_1), (x156001_1), (true), (y166), (t175), (wrap64 (t176 + 1)), (t177), (t178), (.slice Ao43 y166.length co43), H', ⟨by have := HK1.out; have := HJ32.out; omega⟩, ⟨by (with_reducible repeat (first | apply Kd.S_alloc | apply Kd.S_drewN | apply Kd.S_drew)); exact Kd.S_mono (Kd.S_far (p := ⟨gb157, 1, none⟩) (Kd.S_far (p := ⟨gb156, 0, none⟩) (IsS71.apartS HI157.out (Kd.S_types HO_157001.out BK156.out (by decide)) (by decide)) (fun _ hk => hk.1.2) (.bool true)) (fun _ hk => hk.2) (.int .i64 (wrap64 (t176 + 1)))) (fun _ hk => trivial)⟩, ⟨by (with_reducible repeat (first | refine blk_drewN ?_ _ | refine blk_drew ?_ | refine blk_alloc ?_ _)); refine blk_far ?_ NB154_157.out _; (with_reducible repeat (first | refine blk_drewN ?_ _ | refine blk_drew ?_ | refine blk_alloc ?_ _)); refine blk_far ?_ NB154_156.out _; (with_reducible repeat (first | refine blk_drewN ?_ _ | refine blk_drew ?_ | refine blk_alloc ?_ _)); exact BK154.out⟩, ⟨by (with_reducible repeat (first | refine blk_drewN ?_ _ | refine blk_drew ?_ | refine blk_alloc ?_ _)); refine blk_far ?_ NB155_157.out _; (with_reducible repeat (first | refine blk_drewN ?_ _ | refine blk_drew ?_ | refine blk_alloc ?_ _)); refine blk_far ?_ NB155_156.out _; (with_reducible repeat (first | refine blk_drewN ?_ _ | refine blk_drew ?_ | refine blk_alloc ?_ _)); exact BK155.out⟩, ⟨by (with_reducible repeat (first | refine blk_drewN ?_ _ | refine blk_drew ?_ | refine blk_alloc ?_ _)); refine blk_far ?_ NB156_157.out _; (with_reducible repeat (first | refine blk_drewN ?_ _ | refine blk_drew ?_ | refine blk_alloc ?_ _)); refine blk_put (cs := #[.bool x157000_1, .slice Ao43 y166.length co43]) ?_ 0 _ rfl; (with_reducible repeat (first | refine blk_drewN ?_ _ | refine blk_drew ?_ | refine blk_alloc ?_ _)); exact BK156.out⟩, ⟨by repeat (first | (with_reducible first | exact HI157.out | apply IsS71.alloc | apply IsS71.drewN | apply IsS71.drew | apply IsS71.set_0 | apply IsS71.set_1 | apply IsS71.set_2 | apply IsS71.set_3 | (apply IsS71.far; (case hne => exact NB157_154.out)) | (apply IsS71.far; (case hne => exact NB157_155.out)) | (apply IsS71.far; (case hne => exact NB157_156.out))) | exact HI157.out)⟩, ⟨by repeat (first | (with_reducible first | exact HB.out | apply below_alloc | apply pw_below_drewN | apply below_drew1 | refine below_set ?_ (IsS71.ge HI157.out) | refine below_set ?_ GE154.out | refine below_set ?_ GE155.out | refine below_set ?_ GE156.out) | exact HB.out)⟩⟩
                        · rw [if_neg c85] at H
                          have c85b0 : decide (1 < (y166.length : Int)) = false := decide_eq_false c85
                          have c85b1 : decide (1 < y166.length) = false := decide_eq_false (by omega)
                          clear c85
                          have H' := Aside0.mk H
                          clear H
                          have hnb104 := NB156_154.out
                          have hnc104 := NB154_156.out
                          have hnb105 := NB156_155.out
                          have hnc105 := NB155_156.out
                          have hnb106 := NB156_157.out
                          have hnc106 := NB157_156.out
                          have hcz107_0 : wc.cell? ⟨gb156, 0, none⟩ = some (.bool x157000_1) := (blk_cell BK156.out 0).trans rfl
                          have hcz107_1 : wc.cell? ⟨gb156, 1, none⟩ = some (.slice Ao43 y166.length co43) := (blk_cell BK156.out 1).trans rfl
                          have hfz107_0 := blk_frozen BK156.out 0
                          have hfz107_1 := blk_frozen BK156.out 1
                          obtain ⟨HGz108, hgz108⟩ := HI157.out
                          have hcz108_0 := cellS71_0 HGz108
                          have hcz108_1 := cellS71_1 HGz108
                          have hcz108_2 := cellS71_2 HGz108
                          have hcz108_3 := cellS71_3 HGz108
                          have hfz108_0 := blk_frozen HGz108 0
                          have hfz108_1 := blk_frozen HGz108 1
                          have hfz108_2 := blk_frozen HGz108 2
                          have hfz108_3 := blk_frozen HGz108 3
                          clear HGz108 hgz108
                          go_wp2
                          go_roundg kj32
                          case measure => have := HK1.out; have := HJ32.out; omega
                          case rel => exact ⟨(x155000_1), (x156000_1), (x156001_1), (true), (y166), (t175), (wrap64 (t176 + 1)), (t177), (t178), (.slice Ao43 y166.length co43), H', ⟨by have := HK1.out; have := HJ32.out; omega⟩, ⟨by (with_reducible repeat (first | apply Kd.S_alloc | apply Kd.S_drewN | apply Kd.S_drew)); exact Kd.S_mono (Kd.S_far (p := ⟨gb157, 1, none⟩) (Kd.S_far (p := ⟨gb156, 0, none⟩) (IsS71.apartS HI157.out (Kd.S_types HO_157001.out BK156.out (by decide)) (by decide)) (fun _ hk => hk.1.2) (.bool true)) (fun _ hk => hk.2) (.int .i64 (wrap64 (t176 + 1)))) (fun _ hk => trivial)⟩, ⟨by (with_reducible repeat (first | refine blk_drewN ?_ _ | refine blk_drew ?_ | refine blk_alloc ?_ _)); refine blk_far ?_ NB154_157.out _; (with_reducible repeat (first | refine blk_drewN ?_ _ | refine blk_drew ?_ | refine blk_alloc ?_ _)); refine blk_far ?_ NB154_156.out _; (with_reducible repeat (first | refine blk_drewN ?_ _ | refine blk_drew ?_ | refine blk_alloc ?_ _)); exact BK154.out⟩, ⟨by (with_reducible repeat (first | refine blk_drewN ?_ _ | refine blk_drew ?_ | refine blk_alloc ?_ _)); refine blk_far ?_ NB155_157.out _; (with_reducible repeat (first | refine blk_drewN ?_ _ | refine blk_drew ?_ | refine blk_alloc ?_ _)); refine blk_far ?_ NB155_156.out _; (with_reducible repeat (first | refine blk_drewN ?_ _ | refine blk_drew ?_ | refine blk_alloc ?_ _)); exact BK155.out⟩, ⟨by (with_reducible repeat (first | refine blk_drewN ?_ _ | refine blk_drew ?_ | refine blk_alloc ?_ _)); refine blk_far ?_ NB156_157.out _; (with_reducible repeat (first | refine blk_drewN ?_ _ | refine blk_drew ?_ | refine blk_alloc ?_ _)); refine blk_put (cs := #[.bool x157000_1, .slice Ao43 y166.length co43]) ?_ 0 _ rfl; (with_reducible repeat (first | refine blk_drewN ?_ _ | refine blk_drew ?_ | refine blk_alloc ?_ _)); exact BK156.out⟩, ⟨by repeat (first | (with_reducible first | exact HI157.out | apply IsS71.alloc | apply IsS71.drewN | apply IsS71.drew | apply IsS71.set_0 | apply IsS71.set_1 | apply IsS71.set_2 | apply IsS71.set_3 | (apply IsS71.far; (case hne => exact NB157_154.out)) | (apply IsS71.far; (case hne => exact NB157_155.out)) | (apply IsS71.far; (case hne => exact NB157_156.out))) | exact HI157.out)⟩, ⟨by repeat (first | (with_reducible first | exact HB.out | apply below_alloc | apply pw_below_drewN | apply below_drew1 | refine below_set ?_ (IsS71.ge HI157.out) | refine below_set ?_ GE154.out | refine below_set ?_ GE155.out | refine below_set ?_ GE156.out) | exact HB.out)⟩⟩
                      · rw [if_neg c84] at H
                        have c84b0 : (t174 == 63) = false := beq_eq_false_iff_ne.mpr c84
                        have c84b1 : (t174 != 63) = true := bne_iff_ne.mpr c84
                        replace H := Option.bind_eq_some_iff.mp H
                        obtain ⟨⟨t187, t188, t189, t190⟩, A1090, H⟩ := H
                        replace H : (some (false, ([] : List (S52)), t189, t190)) = some (r1, r2, r3, r4) := H
                        have A109 := Aside0.mk A1090
                        clear A1090
                        simp only [Option.some.injEq, Prod.mk.injEq] at H
                        obtain ⟨rfl, rfl, rfl, rfl⟩ := H
                        obtain ⟨HGz110, hgz110⟩ := HI157.out
                        have hcz110_0 := cellS71_0 HGz110
                        have hcz110_1 := cellS71_1 HGz110
                        have hcz110_2 := cellS71_2 HGz110
                        have hcz110_3 := cellS71_3 HGz110
                        have hfz110_0 := blk_frozen HGz110 0
                        have hfz110_1 := blk_frozen HGz110 1
                        have hfz110_2 := blk_frozen HGz110 2
                        have hfz110_3 := blk_frozen HGz110 3
                        clear HGz110 hgz110
                        try go_wp2_with (first | ((with_reducible refine gate_callee (f := 33) rfl ?_); refine goesL_ (some 74) rfl rfl Tryd.func33 (by kernel_rfl) rfl #[.pointer (some ⟨gb157, 0, none⟩), .int .i64 t176] rfl (by (try simp only [List.map_toArray, List.map_cons, List.map_nil]); first | done | rfl | (simp only [List.length_drop, List.length_take]; rfl)) ?_; (with_reducible refine (dep_reader_wrong.calls gb157 t175 t176 t177 t178 t176 t187 t188 t189 t190 w _ ?side1 ?side2 A109.out).mono ?_); (case side1 => repeat (first | (with_reducible first | exact HI157.out | apply IsS71.alloc | apply IsS71.drewN | apply IsS71.drew | apply IsS71.set_0 | apply IsS71.set_1 | apply IsS71.set_2 | apply IsS71.set_3 | (apply IsS71.far; (case hne => exact NB157_154.out)) | (apply IsS71.far; (case hne => exact NB157_155.out)) | (apply IsS71.far; (case hne => exact NB157_156.out))) | exact HI157.out)); (case side2 => repeat (first | (with_reducible first | exact HB.out | apply below_alloc | apply pw_below_drewN | apply below_drew1 | refine below_set ?_ (IsS71.ge HI157.out) | refine below_set ?_ GE154.out | refine below_set ?_ GE155.out | refine below_set ?_ GE156.out) | exact HB.out)); rintro e w111 ⟨rfl, hi, hb, hk⟩; refine ⟨_, rfl, ?_⟩; have n0_ := Aside0.mk (Kd.S_mono (Kd.S_keep (IsS71.apartS (show IsS71 w _ gb157 t175 t176 t177 t178 from by repeat (first | (with_reducible first | exact HI157.out | apply IsS71.alloc | apply IsS71.drewN | apply IsS71.drew | apply IsS71.set_0 | apply IsS71.set_1 | apply IsS71.set_2 | apply IsS71.set_3 | (apply IsS71.far; (case hne => exact NB157_154.out)) | (apply IsS71.far; (case hne => exact NB157_155.out)) | (apply IsS71.far; (case hne => exact NB157_156.out))) | exact HI157.out)) (by (with_reducible repeat (first | apply Kd.S_alloc | apply Kd.S_drewN | apply Kd.S_drew)); exact HO_157001.out) (by decide)) hk (fun _ h => h.2)) (fun _ h => h.1)); have n1_ := Aside0.mk (KeepBut.blk hk (g' := gb154) (o := .cells #[.bool x155000_1, .slice none 0 0] 31 (0, 0)) (by (with_reducible repeat (first | refine blk_drewN ?_ _ | refine blk_drew ?_ | refine blk_alloc ?_ _)); exact BK154.out) NB154_157.out (by simp)); have n2_ := Aside0.mk (KeepBut.blk hk (g' := gb155) (o := .cells #[.int .i64 x156000_1, .int .i64 x156001_1] 39 (0, 0)) (by (with_reducible repeat (first | refine blk_drewN ?_ _ | refine blk_drew ?_ | refine blk_alloc ?_ _)); exact BK155.out) NB155_157.out (by simp)); have n3_ := Aside0.mk (KeepBut.blk hk (g' := gb156) (o := .cells #[.bool x157000_1, .slice Ao43 y166.length co43] 31 (0, 0)) (by (with_reducible repeat (first | refine blk_drewN ?_ _ | refine blk_drew ?_ | refine blk_alloc ?_ _)); exact BK156.out) NB156_157.out (by simp)); have n4_ := Aside0.mk (hb); have n5_ := Aside0.mk (hi); clear HO_157001; clear BK154; clear BK155; clear BK156; clear HB; clear HI157; have HO_157001 := n0_; have BK154 := n1_; have BK155 := n2_; have BK156 := n3_; have HB := n4_; have HI157 := n5_; clear n0_ n1_ n2_ n3_ n4_ n5_; (try clear hb); (try clear hb2); (try clear hk); (try clear hi)))
                        have n0_ := Aside0.mk (Kd.S_drew HO_157001.out)
                        have n1_ := Aside0.mk (blk_drew BK154.out)
                        have n2_ := Aside0.mk (blk_drew BK155.out)
                        have n3_ := Aside0.mk (blk_drew BK156.out)
                        have n4_ := Aside0.mk (IsS71.drew HI157.out)
                        have n5_ := Aside0.mk (below_drew1 HB.out)
                        clear HO_157001
                        clear BK154
                        clear BK155
                        clear BK156
                        clear HI157
                        clear HB
                        have HO_157001 := n0_
                        have BK154 := n1_
                        have BK155 := n2_
                        have BK156 := n3_
                        have HI157 := n4_
                        have HB := n5_
                        clear n0_ n1_ n2_ n3_ n4_ n5_
                        refine start_ (n := 7) (S := fun w' => w'.cell? ⟨gb157, 0, none⟩ = some (.string t187) ∧ w'.cell? ⟨gb157, 1, none⟩ = some (.int .i64 t188) ∧ w'.cell? ⟨gb157, 2, none⟩ = some (.int .i64 t189) ∧ w'.cell? ⟨gb157, 3, none⟩ = some (.int .i64 t190)) (ds := []) #[false, false, false, false, false, false, false] (by kernel_rfl) rfl rfl ⟨(cellS71_0 (HI157.out).1), (cellS71_1 (HI157.out).1), (cellS71_2 (HI157.out).1), (cellS71_3 (HI157.out).1)⟩ (fun hHeld => ?_)
                        generalize w111.drew = w112 at HO_157001 BK154 BK155 BK156 HI157 HB hHeld ⊢
                        refine pure_ (i := 0) (N := some 75) (v := ?_) (a' := ?_) #[true, false, false, false, false, false, false] rfl rfl (by kernel_rfl) (fun _ _ _ h => h) (Or.inl ⟨by rfl, ?_⟩) ?_ ?_
                        rotate_left
                        · intro w'
                          go_simp
                          with_reducible rfl
                        rotate_left
                        · simp only [Act.put, List.setIfInBounds_toArray, List.set_cons_zero, List.set_cons_succ, i64_w, i32_w]
                          rfl
                        refine pure_ (i := 1) (N := some 76) (v := ?_) (a' := ?_) #[true, true, false, false, false, false, false] rfl rfl (by kernel_rfl) (fun _ _ _ h => h) (Or.inl ⟨by rfl, ?_⟩) ?_ ?_
                        rotate_left
                        · intro w'
                          go_simp
                          with_reducible rfl
                        rotate_left
                        · simp only [Act.put, List.setIfInBounds_toArray, List.set_cons_zero, List.set_cons_succ, i64_w, i32_w]
                          rfl
                        refine pure_ (i := 2) (N := some 77) (v := ?_) (a' := ?_) #[true, true, true, false, false, false, false] rfl rfl (by kernel_rfl) (fun _ _ _ h => h) (Or.inl ⟨by rfl, ?_⟩) ?_ ?_
                        rotate_left
                        · intro w'
                          go_simp
                          with_reducible rfl
                        rotate_left
                        · simp only [Act.put, List.setIfInBounds_toArray, List.set_cons_zero, List.set_cons_succ, i64_w, i32_w]
                          rfl
                        refine pure_ (i := 3) (N := some 78) (v := ?_) (a' := ?_) #[true, true, true, true, false, false, false] rfl rfl (by kernel_rfl) (fun _ _ _ h => h) (Or.inl ⟨by rfl, ?_⟩) ?_ ?_
                        rotate_left
                        · intro w'
                          go_simp
                          with_reducible rfl
                        rotate_left
                        · simp only [Act.put, List.setIfInBounds_toArray, List.set_cons_zero, List.set_cons_succ, i64_w, i32_w]
                          rfl
                        refine take_ (i := 4) (N := some 79) (v := ?_) (a' := ?_) #[true, true, true, true, true, false, false] rfl rfl (by kernel_rfl) (fun _ _ _ h => h) (Or.inl ⟨by rfl, ?_⟩) hHeld ?_ ?_
                        rotate_left
                        · rintro w' ⟨s0, s1, s2, s3⟩
                          go_simp
                          with_reducible rfl
                        rotate_left
                        · simp only [Act.put, List.setIfInBounds_toArray, List.set_cons_zero, List.set_cons_succ, i64_w, i32_w]
                          rfl
                        refine one_ (i := 5) (N := none) #[true, true, true, true, true, true, false] rfl rfl (by kernel_rfl) (by decide) (fun K hK => ?_)
                        have hs113 : w112.cell? ⟨gb154, 0, none⟩ = some (.bool x155000_1) := (blk_cell BK154.out 0).trans rfl
                        have hfs113 := blk_frozen BK154.out 0
                        have hns113_1 := NB155_154.out
                        have hns113_2 := NB156_154.out
                        have hms113_1 := NB154_155.out
                        have hms113_2 := NB154_156.out
                        have hs114 : w112.cell? ⟨gb154, 1, none⟩ = some (.slice none 0 0) := (blk_cell BK154.out 1).trans rfl
                        have hfs114 := blk_frozen BK154.out 1
                        have hns114_1 := NB155_154.out
                        have hns114_2 := NB156_154.out
                        have hms114_1 := NB154_155.out
                        have hms114_2 := NB154_156.out
                        refine skip_ (w1 := ?_) (by rfl) rfl ?_ ?_
                        rotate_left
                        · go_simp
                          rfl
                        refine hK.out _ _ ⟨((cell_far (p := ⟨gb154, _, none⟩) NB157_154.out _).trans (((cell_far (p := ⟨gb154, _, none⟩) NB157_154.out _).trans (hHeld.1)))), ((cell_far (p := ⟨gb154, _, none⟩) NB157_154.out _).trans (((cell_far (p := ⟨gb154, _, none⟩) NB157_154.out _).trans (hHeld.2.1)))), ((cell_far (p := ⟨gb154, _, none⟩) NB157_154.out _).trans (((cell_far (p := ⟨gb154, _, none⟩) NB157_154.out _).trans (hHeld.2.2.1)))), ((cell_far (p := ⟨gb154, _, none⟩) NB157_154.out _).trans (((cell_far (p := ⟨gb154, _, none⟩) NB157_154.out _).trans (hHeld.2.2.2))))⟩ (fun hHeld => ?_)
                        clear hK K
                        refine one_ (i := 6) (N := none) #[true, true, true, true, true, true, true] rfl rfl (by kernel_rfl) (by decide) (fun K hK => ?_)
                        have hs115 : w112.cell? ⟨gb155, 0, none⟩ = some (.int .i64 x156000_1) := (blk_cell BK155.out 0).trans rfl
                        have hfs115 := blk_frozen BK155.out 0
                        have hns115_0 := NB154_155.out
                        have hns115_2 := NB156_155.out
                        have hms115_0 := NB155_154.out
                        have hms115_2 := NB155_156.out
                        have hs116 : w112.cell? ⟨gb155, 1, none⟩ = some (.int .i64 x156001_1) := (blk_cell BK155.out 1).trans rfl
                        have hfs116 := blk_frozen BK155.out 1
                        have hns116_0 := NB154_155.out
                        have hns116_2 := NB156_155.out
                        have hms116_0 := NB155_154.out
                        have hms116_2 := NB155_156.out
                        refine skip_ (w1 := ?_) (by rfl) rfl ?_ ?_
                        rotate_left
                        · go_simp
                          rfl
                        refine hK.out _ _ ⟨((cell_far (p := ⟨gb155, _, none⟩) NB157_155.out _).trans (((cell_far (p := ⟨gb155, _, none⟩) NB157_155.out _).trans (hHeld.1)))), ((cell_far (p := ⟨gb155, _, none⟩) NB157_155.out _).trans (((cell_far (p := ⟨gb155, _, none⟩) NB157_155.out _).trans (hHeld.2.1)))), ((cell_far (p := ⟨gb155, _, none⟩) NB157_155.out _).trans (((cell_far (p := ⟨gb155, _, none⟩) NB157_155.out _).trans (hHeld.2.2.1)))), ((cell_far (p := ⟨gb155, _, none⟩) NB157_155.out _).trans (((cell_far (p := ⟨gb155, _, none⟩) NB157_155.out _).trans (hHeld.2.2.2))))⟩ (fun hHeld => ?_)
                        clear hK K
                        refine done_ (by kernel_rfl) ?_
                        try go_wp2
                        refine bodyPost_ret (results_cc rfl _ _ gb154 gb155 31 39 #[.bool false, .slice none 0 0] #[.int .i64 t189, .int .i64 t190] (0, 0) (0, 0) _ _ rfl (by (with_reducible repeat (first | refine blk_drewN ?_ _ | refine blk_drew ?_ | refine blk_alloc ?_ _)); refine blk_far ?_ NB154_155.out _; (with_reducible repeat (first | refine blk_drewN ?_ _ | refine blk_drew ?_ | refine blk_alloc ?_ _)); refine blk_far ?_ NB154_155.out _; (with_reducible repeat (first | refine blk_drewN ?_ _ | refine blk_drew ?_ | refine blk_alloc ?_ _)); refine blk_put (cs := #[.bool false, .slice none 0 0]) ?_ 1 _ rfl; (with_reducible repeat (first | refine blk_drewN ?_ _ | refine blk_drew ?_ | refine blk_alloc ?_ _)); refine blk_put (cs := #[.bool x155000_1, .slice none 0 0]) ?_ 0 _ rfl; (with_reducible repeat (first | refine blk_drewN ?_ _ | refine blk_drew ?_ | refine blk_alloc ?_ _)); exact BK154.out) Tryd.underlying31 rfl (by kernel_rfl) rfl (by (with_reducible repeat (first | refine blk_drewN ?_ _ | refine blk_drew ?_ | refine blk_alloc ?_ _)); refine blk_put (cs := #[.int .i64 t189, .int .i64 x156001_1]) ?_ 1 _ rfl; (with_reducible repeat (first | refine blk_drewN ?_ _ | refine blk_drew ?_ | refine blk_alloc ?_ _)); refine blk_put (cs := #[.int .i64 x156000_1, .int .i64 x156001_1]) ?_ 0 _ rfl; (with_reducible repeat (first | refine blk_drewN ?_ _ | refine blk_drew ?_ | refine blk_alloc ?_ _)); refine blk_far ?_ NB155_154.out _; (with_reducible repeat (first | refine blk_drewN ?_ _ | refine blk_drew ?_ | refine blk_alloc ?_ _)); refine blk_far ?_ NB155_154.out _; (with_reducible repeat (first | refine blk_drewN ?_ _ | refine blk_drew ?_ | refine blk_alloc ?_ _)); exact BK155.out) Tryd.underlying39 rfl (by kernel_rfl)) rfl ?_
                        exact ⟨_, by first | rfl | (simp [errW_none, errW_some] <;> rfl) | (simp [*, errW_none, errW_some] <;> rfl), by first | exact Kd.S_nil _ _ _ _ _ | exact Kd.N_nil _ _ _ _ _ | exact Kd.V_nil _ _ _ _ _ | exact Kd.Q_nil _ _ _ _ _ | exact Kd.R_nil _ _ _ _ _, by repeat (first | (with_reducible first | exact HB.out | apply below_alloc | apply pw_below_drewN | apply below_drew1 | refine below_set ?_ (IsS71.ge HI157.out) | refine below_set ?_ GE154.out | refine below_set ?_ GE155.out | refine below_set ?_ GE156.out) | exact HB.out)⟩
            · replace c31 := Bool.eq_false_iff.mpr c31
              subst c31
              have H1 : (some (false, ([] : List (S52)), t172, t173)) = some (r1, r2, r3, r4) := by rw [if_neg (show ¬ (false = true) by decide)] at H; exact H
              clear H
              have H := H1
              clear H1
              simp only [Option.some.injEq, Prod.mk.injEq] at H
              obtain ⟨rfl, rfl, rfl, rfl⟩ := H
              have hnb117 := NB156_154.out
              have hnc117 := NB154_156.out
              have hnb118 := NB156_155.out
              have hnc118 := NB155_156.out
              have hnb119 := NB156_157.out
              have hnc119 := NB157_156.out
              have hcz120_0 : wr.cell? ⟨gb156, 0, none⟩ = some (.bool x157000_1) := (blk_cell BK156.out 0).trans rfl
              have hcz120_1 : wr.cell? ⟨gb156, 1, none⟩ = some (u157001) := (blk_cell BK156.out 1).trans rfl
              have hfz120_0 := blk_frozen BK156.out 0
              have hfz120_1 := blk_frozen BK156.out 1
              obtain ⟨Ao121, co121, eo121⟩ := Kd.S_slice HO_157001.out
              subst eo121
              try go_wp2
              have n0_ := Aside0.mk (Kd.S_drew HO_157001.out)
              have n1_ := Aside0.mk (blk_drew BK154.out)
              have n2_ := Aside0.mk (blk_drew BK155.out)
              have n3_ := Aside0.mk (blk_drew BK156.out)
              have n4_ := Aside0.mk (IsS71.drew HI157.out)
              have n5_ := Aside0.mk (below_drew1 HB.out)
              clear HO_157001
              clear BK154
              clear BK155
              clear BK156
              clear HI157
              clear HB
              have HO_157001 := n0_
              have BK154 := n1_
              have BK155 := n2_
              have BK156 := n3_
              have HI157 := n4_
              have HB := n5_
              clear n0_ n1_ n2_ n3_ n4_ n5_
              refine start_ (n := 8) (S := fun w' => w'.cell? ⟨gb156, 0, none⟩ = some (.bool x157000_1) ∧ w'.cell? ⟨gb156, 1, none⟩ = some (.slice Ao121 x157001_1.length co121)) (ds := [7]) #[false, false, false, false, false, false, false, false] (by kernel_rfl) rfl rfl ⟨(blk_cell BK156.out 0).trans rfl, (blk_cell BK156.out 1).trans rfl⟩ (fun hHeld => ?_); refine with_tabW dep_Parse.tab6 dep_Parse.bits6 (fun HT_ HW_ => ?_)
              generalize wr.drew = w122 at HO_157001 BK154 BK155 BK156 HI157 HB hHeld ⊢
              refine pure_ (i := 0) (N := some 22) (v := ?_) (a' := ?_) #[true, false, false, false, false, false, false, false] rfl rfl (any_of HT_.out (by kernel_rfl)) (fun _ _ _ h => h) (Or.inl ⟨by rfl, ?_⟩) ?_ ?_
              rotate_left
              · intro w'
                go_simp
                with_reducible rfl
              rotate_left
              · simp only [Act.put, List.setIfInBounds_toArray, List.set_cons_zero, List.set_cons_succ, i64_w, i32_w]
                rfl
              refine pure_ (i := 2) (N := some 24) (v := ?_) (a' := ?_) #[true, false, true, false, false, false, false, false] rfl rfl (any_of HT_.out (by kernel_rfl)) (fun _ _ _ h => h) (Or.inl ⟨by rfl, ?_⟩) ?_ ?_
              rotate_left
              · intro w'
                go_simp
                with_reducible rfl
              rotate_left
              · simp only [Act.put, List.setIfInBounds_toArray, List.set_cons_zero, List.set_cons_succ, i64_w, i32_w]
                rfl
              refine take_ (i := 1) (N := some 23) (v := ?_) (a' := ?_) #[true, true, true, false, false, false, false, false] rfl rfl (take_ofW HT_.out HW_.out (by kernel_rfl)) (fun _ _ _ h => h) (Or.inl ⟨by rfl, ?_⟩) hHeld ?_ ?_
              rotate_left
              · rintro w' ⟨s0, s1⟩
                go_simp
                with_reducible rfl
              rotate_left
              · simp only [Act.put, List.setIfInBounds_toArray, List.set_cons_zero, List.set_cons_succ, i64_w, i32_w]
                rfl
              refine one_ (i := 3) (N := some 25) #[true, true, true, true, false, false, false, false] rfl rfl (one_of HT_.out (by kernel_rfl)) (by decide) (fun K hK => ?_)
              refine goes_ Tryd.func30 (by kernel_rfl) rfl #[.pointer (some ⟨gb157, 0, none⟩)] (by rfl) rfl rfl (by (try simp only [List.map_toArray, List.map_cons, List.map_nil]); first | done | rfl | (simp only [List.length_drop, List.length_take]; rfl)) ?_
              with_reducible refine (dep_reader_item.calls k1 gb157 x158000_1 x158001_1 x158002_1 x158003_1 t158 t159 t162 t163 t164 t165 w _ ?side1 ?side2 A28.out HG_.out).mono ?_
              (case side1 => repeat (first | (with_reducible first | exact HI157.out | apply IsS71.alloc | apply IsS71.drewN | apply IsS71.drew | apply IsS71.set_0 | apply IsS71.set_1 | apply IsS71.set_2 | apply IsS71.set_3 | (apply IsS71.far; (case hne => exact NB157_154.out)) | (apply IsS71.far; (case hne => exact NB157_155.out)) | (apply IsS71.far; (case hne => exact NB157_156.out))) | exact HI157.out))
              (case side2 => repeat (first | (with_reducible first | exact HB.out | apply below_alloc | apply pw_below_drewN | apply below_drew1 | refine below_set ?_ (IsS71.ge HI157.out) | refine below_set ?_ GE154.out | refine below_set ?_ GE155.out | refine below_set ?_ GE156.out) | exact HB.out))
              rintro e w123 ⟨v160, rfl, ho0, hi, hb, hk⟩
              refine ⟨_, rfl, ?_⟩
              have n0_ := Aside0.mk (Kd.S_mono (Kd.S_told (Kd.S_oldK (IsS71.apartS (show IsS71 w _ gb157 x158000_1 x158001_1 x158002_1 x158003_1 from by repeat (first | (with_reducible first | exact HI157.out | apply IsS71.alloc | apply IsS71.drewN | apply IsS71.drew | apply IsS71.set_0 | apply IsS71.set_1 | apply IsS71.set_2 | apply IsS71.set_3 | (apply IsS71.far; (case hne => exact NB157_154.out)) | (apply IsS71.far; (case hne => exact NB157_155.out)) | (apply IsS71.far; (case hne => exact NB157_156.out))) | exact HI157.out)) (by (with_reducible repeat (first | apply Kd.S_alloc | apply Kd.S_drewN | apply Kd.S_drew)); exact HO_157001.out) (by decide)) hk) (Kd.R_base ho0)) (fun _ h_ => h_.1))
              have n1_ := Aside0.mk (KeepBut.blk hk (g' := gb154) (o := .cells #[.bool x155000_1, .slice none 0 0] 31 (0, 0)) (by (with_reducible repeat (first | refine blk_drewN ?_ _ | refine blk_drew ?_ | refine blk_alloc ?_ _)); exact BK154.out) NB154_157.out (by simp))
              have n2_ := Aside0.mk (KeepBut.blk hk (g' := gb155) (o := .cells #[.int .i64 x156000_1, .int .i64 x156001_1] 39 (0, 0)) (by (with_reducible repeat (first | refine blk_drewN ?_ _ | refine blk_drew ?_ | refine blk_alloc ?_ _)); exact BK155.out) NB155_157.out (by simp))
              have n3_ := Aside0.mk (KeepBut.blk hk (g' := gb156) (o := .cells #[.bool x157000_1, .slice Ao121 x157001_1.length co121] 31 (0, 0)) (by (with_reducible repeat (first | refine blk_drewN ?_ _ | refine blk_drew ?_ | refine blk_alloc ?_ _)); exact BK156.out) NB156_157.out (by simp))
              have n4_ := Aside0.mk (Kd.R_lower ho0 (below_size (by repeat (first | (with_reducible first | exact HB.out | apply below_alloc | apply pw_below_drewN | apply below_drew1 | refine below_set ?_ (IsS71.ge HI157.out) | refine below_set ?_ GE154.out | refine below_set ?_ GE155.out | refine below_set ?_ GE156.out) | exact HB.out))))
              have n5_ := Aside0.mk (hb)
              have n6_ := Aside0.mk (hi)
              clear HO_157001
              clear BK154
              clear BK155
              clear BK156
              clear HB
              clear HI157
              have HO_157001 := n0_
              have BK154 := n1_
              have BK155 := n2_
              have BK156 := n3_
              have HO161 := n4_
              have HB := n5_
              have HI157 := n6_
              clear n0_ n1_ n2_ n3_ n4_ n5_ n6_
              (try clear hb)
              (try clear hb2)
              (try clear hk)
              (try clear hi)
              (try clear ho0)
              obtain ⟨Ao125, co125, eo125⟩ := Kd.R_slice HO161.out
              (first | subst eo125 | (injection eo125 with f1_ f2_ f3_; have f4_ := f1_.symm; have f5_ := f3_.symm; clear f1_ f2_ f3_; subst f4_; subst f5_))
              refine hK.out _ _ ⟨(blk_cell BK156.out 0).trans rfl, (blk_cell BK156.out 1).trans rfl⟩ (fun hHeld => ?_)
              clear hK K
              refine norm_ (a' := ?_) ?_ ?_
              rotate_left
              · show Act.put _ (some 25) _ = _
                simp only [Act.put, List.setIfInBounds_toArray, List.set_cons_zero, List.set_cons_succ, i64_w, i32_w]
                rfl
              refine one_ (i := 4) (N := some 26) #[true, true, true, true, true, false, false, false] rfl rfl (one_of HT_.out (by kernel_rfl)) (by decide) (fun K hK => ?_)
              refine value_ (w1 := ?_) (v := ?_) (by rfl) rfl ?_ ?_
              rotate_left 2
              · go_simp
                constructor
                · rfl
                · rfl
              refine hK.out _ _ ⟨(blk_cell (blk_alloc BK156.out _) 0).trans rfl, (blk_cell (blk_alloc BK156.out _) 1).trans rfl⟩ (fun hHeld => ?_)
              clear hK K
              refine norm_ (a' := ?_) ?_ ?_
              rotate_left
              · show Act.put _ (some 26) _ = _
                simp only [Act.put, List.setIfInBounds_toArray, List.set_cons_zero, List.set_cons_succ, i64_w, i32_w]
                rfl
              refine one_ (i := 5) (N := some 27) #[true, true, true, true, true, true, false, false] rfl rfl (one_of HT_.out (by kernel_rfl)) (by decide) (fun K hK => ?_)
              refine Kd.S_append_step k52 (w0 := w) w.heap.size (by rfl) (.tmp 23) (.tmp 26) 29 52 (.agg #[(.int .i64 0), (.slice none 0 0)]) 32 rfl Tryd.underlying29 info52 rfl (by decide) (by omega) (.slice Ao121 x157001_1.length co121) x157001_1 (⟨t158, t159⟩ : S52) [.int .i64 t158, .slice Ao125 t159.length co125] (fun _ => True) (fun k_ => some k_ = (.slice Ao125 t159.length co125 : Value).ownBlock) rfl rfl ?aP (fun k_ hk_ => ((Kd.R_mono (ok' := fun k_ => ((fun _ => True)) k_ ∧ some k_ ≠ (.slice Ao121 x157001_1.length co121 : Value).ownBlock) (Kd.R_apart' (HO161.out) (Kd.S_typed HO_157001.out) (by decide)) (fun k_ hk => ⟨trivial, hk.2⟩))).1 k_ hk_.symm) ?aF ?aO ?aB ?aS ?aL ?_
              (case aP => exact k52_mkM _ _ _ (⟨t158, t159⟩ : S52) (Kd.R_mono (Kd.R_tight rfl (Kd.R_mono (ok' := fun k_ => ((fun _ => True)) k_ ∧ some k_ ≠ (.slice Ao121 x157001_1.length co121 : Value).ownBlock) (Kd.R_apart' (HO161.out) (Kd.S_typed HO_157001.out) (by decide)) (fun k_ hk => ⟨trivial, hk.2⟩))) (fun _ h_ => h_)))
              (case aB => exact (by repeat (first | (with_reducible first | exact HB.out | apply below_alloc | apply pw_below_drewN | apply below_drew1 | refine below_set ?_ (IsS71.ge HI157.out) | refine below_set ?_ GE154.out | refine below_set ?_ GE155.out | refine below_set ?_ GE156.out) | exact HB.out)))
              (case aF => exact (fun _ _ => trivial))
              (case aO => exact (by (with_reducible repeat (first | apply Kd.S_alloc | apply Kd.S_drewN | apply Kd.S_drew)); exact Kd.S_mono HO_157001.out (fun k_ hk => ⟨trivial, fun e_ => hk.2 e_⟩)))
              (case aS => exact (below_size (by repeat (first | (with_reducible first | exact HB.out | apply below_alloc | apply pw_below_drewN | apply below_drew1 | refine below_set ?_ (IsS71.ge HI157.out) | refine below_set ?_ GE154.out | refine below_set ?_ GE155.out | refine below_set ?_ GE156.out) | exact HB.out))))
              (case aL => have := LMc29.out; omega)
              intro v167 w124 ho hb hg hat
              rw [← Ny166.out] at ho
              have n0_ := Aside0.mk (blk_grown (g := gb154) (o := .cells #[.bool x155000_1, .slice none 0 0] 31 (0, 0)) (by (with_reducible repeat (first | refine blk_drewN ?_ _ | refine blk_drew ?_ | refine blk_alloc ?_ _)); exact BK154.out) hg (Kd.S_ne HO_157001.out BK154.out (by decide)))
              have n1_ := Aside0.mk (blk_grown (g := gb155) (o := .cells #[.int .i64 x156000_1, .int .i64 x156001_1] 39 (0, 0)) (by (with_reducible repeat (first | refine blk_drewN ?_ _ | refine blk_drew ?_ | refine blk_alloc ?_ _)); exact BK155.out) hg (Kd.S_ne HO_157001.out BK155.out (by decide)))
              have n2_ := Aside0.mk (blk_grown (g := gb156) (o := .cells #[.bool x157000_1, .slice Ao121 x157001_1.length co121] 31 (0, 0)) (by (with_reducible repeat (first | refine blk_drewN ?_ _ | refine blk_drew ?_ | refine blk_alloc ?_ _)); exact BK156.out) hg (Kd.S_ne HO_157001.out BK156.out (by decide)))
              have n3_ := Aside0.mk (IsS71.grown (by repeat (first | (with_reducible first | exact HI157.out | apply IsS71.alloc | apply IsS71.drewN | apply IsS71.drew | apply IsS71.set_0 | apply IsS71.set_1 | apply IsS71.set_2 | apply IsS71.set_3 | (apply IsS71.far; (case hne => exact NB157_154.out)) | (apply IsS71.far; (case hne => exact NB157_155.out)) | (apply IsS71.far; (case hne => exact NB157_156.out))) | exact HI157.out)) hg (IsS71.own_neS HI157.out HO_157001.out (by decide)))
              have n4_ := Aside0.mk (hb)
              have n5_ := Aside0.mk (ho)
              clear BK154
              clear BK155
              clear BK156
              clear HI157
              clear HB
              clear HO_157001
              clear HO161
              have BK154 := n0_
              have BK155 := n1_
              have BK156 := n2_
              have HI157 := n3_
              have HB := n4_
              have HO168 := n5_
              clear n0_ n1_ n2_ n3_ n4_ n5_
              clear ho hb hg hat
              obtain ⟨Ao126, co126, eo126⟩ := Kd.S_slice HO168.out
              (first | subst eo126 | (injection eo126 with f1_ f2_ f3_; have f4_ := f1_.symm; have f5_ := f3_.symm; clear f1_ f2_ f3_; subst f4_; subst f5_))
              refine hK.out _ _ ⟨(blk_cell BK156.out 0).trans rfl, (blk_cell BK156.out 1).trans rfl⟩ (fun hHeld => ?_)
              clear hK K
              refine norm_ (a' := ?_) ?_ ?_
              rotate_left
              · show Act.put _ (some 27) _ = _
                simp only [Act.put, List.setIfInBounds_toArray, List.set_cons_zero, List.set_cons_succ, i64_w, i32_w]
                rfl
              refine pure_ (i := 6) (N := some 28) (v := ?_) (a' := ?_) #[true, true, true, true, true, true, true, false] rfl rfl (any_of HT_.out (by kernel_rfl)) (fun _ _ _ h => h) (Or.inl ⟨by rfl, ?_⟩) ?_ ?_
              rotate_left
              · intro w'
                go_simp
                with_reducible rfl
              rotate_left
              · simp only [Act.put, List.setIfInBounds_toArray, List.set_cons_zero, List.set_cons_succ, i64_w, i32_w]
                rfl
              refine last_ (i := 7) (N := none) #[true, true, true, true, true, true, true, true] rfl rfl (one_of HT_.out (by kernel_rfl)) (by decide) (fun K hK => ?_)
              have hs127 : w124.cell? ⟨gb156, 1, none⟩ = some (.slice Ao121 x157001_1.length co121) := (blk_cell BK156.out 1).trans rfl
              have hfs127 := blk_frozen BK156.out 1
              have hns127_0 := NB154_156.out
              have hns127_1 := NB155_156.out
              have hms127_0 := NB156_154.out
              have hms127_1 := NB156_155.out
              refine skip_ (w1 := ?_) (by rfl) rfl ?_ ?_
              rotate_left
              · go_simp
                rfl
              refine hK.out _ _ ?_
              clear hK K
              refine done_ (done_of HT_.out (by kernel_rfl)) ?_
              try go_wp2_with (first | ((with_reducible refine gate_callee (f := 31) rfl ?_); refine goesL_ (some 30) rfl rfl Tryd.func31 (by kernel_rfl) rfl #[.pointer (some ⟨gb157, 0, none⟩)] rfl (by (try simp only [List.map_toArray, List.map_cons, List.map_nil]); first | done | rfl | (simp only [List.length_drop, List.length_take]; rfl)) ?_; (with_reducible refine (dep_reader_well.calls gb157 t162 t163 t164 t165 false t170 t171 t172 t173 w _ ?side1 ?side2 A30.out).mono ?_); (case side1 => repeat (first | (with_reducible first | exact HI157.out | apply IsS71.alloc | apply IsS71.drewN | apply IsS71.drew | apply IsS71.set_0 | apply IsS71.set_1 | apply IsS71.set_2 | apply IsS71.set_3 | (apply IsS71.far; (case hne => exact NB157_154.out)) | (apply IsS71.far; (case hne => exact NB157_155.out)) | (apply IsS71.far; (case hne => exact NB157_156.out))) | exact HI157.out)); (case side2 => repeat (first | (with_reducible first | exact HB.out | apply below_alloc | apply pw_below_drewN | apply below_drew1 | refine below_set ?_ (IsS71.ge HI157.out) | refine below_set ?_ GE154.out | refine below_set ?_ GE155.out | refine below_set ?_ GE156.out) | exact HB.out)); rintro e w128 ⟨rfl, hi, hb, hk⟩; refine ⟨_, rfl, ?_⟩; have n0_ := Aside0.mk (KeepBut.blk hk (g' := gb154) (o := .cells #[.bool x155000_1, .slice none 0 0] 31 (0, 0)) (by (with_reducible repeat (first | refine blk_drewN ?_ _ | refine blk_drew ?_ | refine blk_alloc ?_ _)); refine blk_far ?_ NB154_156.out _; (with_reducible repeat (first | refine blk_drewN ?_ _ | refine blk_drew ?_ | refine blk_alloc ?_ _)); exact BK154.out) NB154_157.out (by simp)); have n1_ := Aside0.mk (KeepBut.blk hk (g' := gb155) (o := .cells #[.int .i64 x156000_1, .int .i64 x156001_1] 39 (0, 0)) (by (with_reducible repeat (first | refine blk_drewN ?_ _ | refine blk_drew ?_ | refine blk_alloc ?_ _)); refine blk_far ?_ NB155_156.out _; (with_reducible repeat (first | refine blk_drewN ?_ _ | refine blk_drew ?_ | refine blk_alloc ?_ _)); exact BK155.out) NB155_157.out (by simp)); have n2_ := Aside0.mk (KeepBut.blk hk (g' := gb156) (o := .cells #[.bool x157000_1, .slice Ao126 y166.length co126] 31 (0, 0)) (by (with_reducible repeat (first | refine blk_drewN ?_ _ | refine blk_drew ?_ | refine blk_alloc ?_ _)); refine blk_put (cs := #[.bool x157000_1, .slice Ao121 x157001_1.length co121]) ?_ 1 _ rfl; (with_reducible repeat (first | refine blk_drewN ?_ _ | refine blk_drew ?_ | refine blk_alloc ?_ _)); exact BK156.out) NB156_157.out (by simp)); have n3_ := Aside0.mk (Kd.S_mono (Kd.S_keep (IsS71.apartS (show IsS71 w _ gb157 t162 t163 t164 t165 from by repeat (first | (with_reducible first | exact HI157.out | apply IsS71.alloc | apply IsS71.drewN | apply IsS71.drew | apply IsS71.set_0 | apply IsS71.set_1 | apply IsS71.set_2 | apply IsS71.set_3 | (apply IsS71.far; (case hne => exact NB157_154.out)) | (apply IsS71.far; (case hne => exact NB157_155.out)) | (apply IsS71.far; (case hne => exact NB157_156.out))) | exact HI157.out)) (by (with_reducible repeat (first | apply Kd.S_alloc | apply Kd.S_drewN | apply Kd.S_drew)); exact (Kd.S_mono (Kd.S_far (p := ⟨gb156, 1, none⟩) (Kd.S_types HO168.out BK156.out (by decide)) (fun _ hk => hk.2) (.slice Ao126 y166.length co126)) (fun _ h_ => h_.1))) (by decide)) hk (fun _ h => h.2)) (fun _ h => h.1)); have n4_ := Aside0.mk (hb); have n5_ := Aside0.mk (hi); clear BK154; clear BK155; clear BK156; clear HO168; clear HB; clear HI157; have BK154 := n0_; have BK155 := n1_; have BK156 := n2_; have HO168 := n3_; have HB := n4_; have HI157 := n5_; clear n0_ n1_ n2_ n3_ n4_ n5_; (try clear hb); (try clear hb2); (try clear hk); (try clear hi)))
              have n0_ := Aside0.mk (Kd.S_drew HO168.out)
              have n1_ := Aside0.mk (blk_drew BK154.out)
              have n2_ := Aside0.mk (blk_drew BK155.out)
              have n3_ := Aside0.mk (blk_drew BK156.out)
              have n4_ := Aside0.mk (IsS71.drew HI157.out)
              have n5_ := Aside0.mk (below_drew1 HB.out)
              clear HO168
              clear BK154
              clear BK155
              clear BK156
              clear HI157
              clear HB
              have HO168 := n0_
              have BK154 := n1_
              have BK155 := n2_
              have BK156 := n3_
              have HI157 := n4_
              have HB := n5_
              clear n0_ n1_ n2_ n3_ n4_ n5_
              refine start_ (n := 7) (S := fun w' => w'.cell? ⟨gb157, 0, none⟩ = some (.string t170) ∧ w'.cell? ⟨gb157, 1, none⟩ = some (.int .i64 t171) ∧ w'.cell? ⟨gb157, 2, none⟩ = some (.int .i64 t172) ∧ w'.cell? ⟨gb157, 3, none⟩ = some (.int .i64 t173)) (ds := []) #[false, false, false, false, false, false, false] (by kernel_rfl) rfl rfl ⟨(cellS71_0 (HI157.out).1), (cellS71_1 (HI157.out).1), (cellS71_2 (HI157.out).1), (cellS71_3 (HI157.out).1)⟩ (fun hHeld => ?_)
              generalize w128.drew = w129 at HO168 BK154 BK155 BK156 HI157 HB hHeld ⊢
              refine pure_ (i := 0) (N := some 32) (v := ?_) (a' := ?_) #[true, false, false, false, false, false, false] rfl rfl (by kernel_rfl) (fun _ _ _ h => h) (Or.inl ⟨by rfl, ?_⟩) ?_ ?_
              rotate_left
              · intro w'
                go_simp
                with_reducible rfl
              rotate_left
              · simp only [Act.put, List.setIfInBounds_toArray, List.set_cons_zero, List.set_cons_succ, i64_w, i32_w]
                rfl
              refine pure_ (i := 1) (N := some 33) (v := ?_) (a' := ?_) #[true, true, false, false, false, false, false] rfl rfl (by kernel_rfl) (fun _ _ _ h => h) (Or.inl ⟨by rfl, ?_⟩) ?_ ?_
              rotate_left
              · intro w'
                go_simp
                with_reducible rfl
              rotate_left
              · simp only [Act.put, List.setIfInBounds_toArray, List.set_cons_zero, List.set_cons_succ, i64_w, i32_w]
                rfl
              refine pure_ (i := 2) (N := some 34) (v := ?_) (a' := ?_) #[true, true, true, false, false, false, false] rfl rfl (by kernel_rfl) (fun _ _ _ h => h) (Or.inl ⟨by rfl, ?_⟩) ?_ ?_
              rotate_left
              · intro w'
                go_simp
                with_reducible rfl
              rotate_left
              · simp only [Act.put, List.setIfInBounds_toArray, List.set_cons_zero, List.set_cons_succ, i64_w, i32_w]
                rfl
              refine pure_ (i := 3) (N := some 35) (v := ?_) (a' := ?_) #[true, true, true, true, false, false, false] rfl rfl (by kernel_rfl) (fun _ _ _ h => h) (Or.inl ⟨by rfl, ?_⟩) ?_ ?_
              rotate_left
              · intro w'
                go_simp
                with_reducible rfl
              rotate_left
              · simp only [Act.put, List.setIfInBounds_toArray, List.set_cons_zero, List.set_cons_succ, i64_w, i32_w]
                rfl
              refine take_ (i := 4) (N := some 36) (v := ?_) (a' := ?_) #[true, true, true, true, true, false, false] rfl rfl (by kernel_rfl) (fun _ _ _ h => h) (Or.inl ⟨by rfl, ?_⟩) hHeld ?_ ?_
              rotate_left
              · rintro w' ⟨s0, s1, s2, s3⟩
                go_simp
                with_reducible rfl
              rotate_left
              · simp only [Act.put, List.setIfInBounds_toArray, List.set_cons_zero, List.set_cons_succ, i64_w, i32_w]
                rfl
              refine one_ (i := 5) (N := none) #[true, true, true, true, true, true, false] rfl rfl (by kernel_rfl) (by decide) (fun K hK => ?_)
              have hs130 : w129.cell? ⟨gb154, 0, none⟩ = some (.bool x155000_1) := (blk_cell BK154.out 0).trans rfl
              have hfs130 := blk_frozen BK154.out 0
              have hns130_1 := NB155_154.out
              have hns130_2 := NB156_154.out
              have hms130_1 := NB154_155.out
              have hms130_2 := NB154_156.out
              have hs131 : w129.cell? ⟨gb154, 1, none⟩ = some (.slice none 0 0) := (blk_cell BK154.out 1).trans rfl
              have hfs131 := blk_frozen BK154.out 1
              have hns131_1 := NB155_154.out
              have hns131_2 := NB156_154.out
              have hms131_1 := NB154_155.out
              have hms131_2 := NB154_156.out
              refine skip_ (w1 := ?_) (by rfl) rfl ?_ ?_
              rotate_left
              · go_simp
                rfl
              refine hK.out _ _ ⟨((cell_far (p := ⟨gb154, _, none⟩) NB157_154.out _).trans (((cell_far (p := ⟨gb154, _, none⟩) NB157_154.out _).trans (hHeld.1)))), ((cell_far (p := ⟨gb154, _, none⟩) NB157_154.out _).trans (((cell_far (p := ⟨gb154, _, none⟩) NB157_154.out _).trans (hHeld.2.1)))), ((cell_far (p := ⟨gb154, _, none⟩) NB157_154.out _).trans (((cell_far (p := ⟨gb154, _, none⟩) NB157_154.out _).trans (hHeld.2.2.1)))), ((cell_far (p := ⟨gb154, _, none⟩) NB157_154.out _).trans (((cell_far (p := ⟨gb154, _, none⟩) NB157_154.out _).trans (hHeld.2.2.2))))⟩ (fun hHeld => ?_)
              clear hK K
              refine one_ (i := 6) (N := none) #[true, true, true, true, true, true, true] rfl rfl (by kernel_rfl) (by decide) (fun K hK => ?_)
              have hs132 : w129.cell? ⟨gb155, 0, none⟩ = some (.int .i64 x156000_1) := (blk_cell BK155.out 0).trans rfl
              have hfs132 := blk_frozen BK155.out 0
              have hns132_0 := NB154_155.out
              have hns132_2 := NB156_155.out
              have hms132_0 := NB155_154.out
              have hms132_2 := NB155_156.out
              have hs133 : w129.cell? ⟨gb155, 1, none⟩ = some (.int .i64 x156001_1) := (blk_cell BK155.out 1).trans rfl
              have hfs133 := blk_frozen BK155.out 1
              have hns133_0 := NB154_155.out
              have hns133_2 := NB156_155.out
              have hms133_0 := NB155_154.out
              have hms133_2 := NB155_156.out
              refine skip_ (w1 := ?_) (by rfl) rfl ?_ ?_
              rotate_left
              · go_simp
                rfl
              refine hK.out _ _ ⟨((cell_far (p := ⟨gb155, _, none⟩) NB157_155.out _).trans (((cell_far (p := ⟨gb155, _, none⟩) NB157_155.out _).trans (hHeld.1)))), ((cell_far (p := ⟨gb155, _, none⟩) NB157_155.out _).trans (((cell_far (p := ⟨gb155, _, none⟩) NB157_155.out _).trans (hHeld.2.1)))), ((cell_far (p := ⟨gb155, _, none⟩) NB157_155.out _).trans (((cell_far (p := ⟨gb155, _, none⟩) NB157_155.out _).trans (hHeld.2.2.1)))), ((cell_far (p := ⟨gb155, _, none⟩) NB157_155.out _).trans (((cell_far (p := ⟨gb155, _, none⟩) NB157_155.out _).trans (hHeld.2.2.2))))⟩ (fun hHeld => ?_)
              clear hK K
              refine done_ (by kernel_rfl) ?_
              try go_wp2
              refine bodyPost_ret (results_cc rfl _ _ gb154 gb155 31 39 #[.bool false, .slice none 0 0] #[.int .i64 t172, .int .i64 t173] (0, 0) (0, 0) _ _ rfl (by (with_reducible repeat (first | refine blk_drewN ?_ _ | refine blk_drew ?_ | refine blk_alloc ?_ _)); refine blk_far ?_ NB154_155.out _; (with_reducible repeat (first | refine blk_drewN ?_ _ | refine blk_drew ?_ | refine blk_alloc ?_ _)); refine blk_far ?_ NB154_155.out _; (with_reducible repeat (first | refine blk_drewN ?_ _ | refine blk_drew ?_ | refine blk_alloc ?_ _)); refine blk_put (cs := #[.bool false, .slice none 0 0]) ?_ 1 _ rfl; (with_reducible repeat (first | refine blk_drewN ?_ _ | refine blk_drew ?_ | refine blk_alloc ?_ _)); refine blk_put (cs := #[.bool x155000_1, .slice none 0 0]) ?_ 0 _ rfl; (with_reducible repeat (first | refine blk_drewN ?_ _ | refine blk_drew ?_ | refine blk_alloc ?_ _)); exact BK154.out) Tryd.underlying31 rfl (by kernel_rfl) rfl (by (with_reducible repeat (first | refine blk_drewN ?_ _ | refine blk_drew ?_ | refine blk_alloc ?_ _)); refine blk_put (cs := #[.int .i64 t172, .int .i64 x156001_1]) ?_ 1 _ rfl; (with_reducible repeat (first | refine blk_drewN ?_ _ | refine blk_drew ?_ | refine blk_alloc ?_ _)); refine blk_put (cs := #[.int .i64 x156000_1, .int .i64 x156001_1]) ?_ 0 _ rfl; (with_reducible repeat (first | refine blk_drewN ?_ _ | refine blk_drew ?_ | refine blk_alloc ?_ _)); refine blk_far ?_ NB155_154.out _; (with_reducible repeat (first | refine blk_drewN ?_ _ | refine blk_drew ?_ | refine blk_alloc ?_ _)); refine blk_far ?_ NB155_154.out _; (with_reducible repeat (first | refine blk_drewN ?_ _ | refine blk_drew ?_ | refine blk_alloc ?_ _)); exact BK155.out) Tryd.underlying39 rfl (by kernel_rfl)) rfl ?_
              exact ⟨_, by first | rfl | (simp [errW_none, errW_some] <;> rfl) | (simp [*, errW_none, errW_some] <;> rfl), by first | exact Kd.S_nil _ _ _ _ _ | exact Kd.N_nil _ _ _ _ _ | exact Kd.V_nil _ _ _ _ _ | exact Kd.Q_nil _ _ _ _ _ | exact Kd.R_nil _ _ _ _ _, by repeat (first | (with_reducible first | exact HB.out | apply below_alloc | apply pw_below_drewN | apply below_drew1 | refine below_set ?_ (IsS71.ge HI157.out) | refine below_set ?_ GE154.out | refine below_set ?_ GE155.out | refine below_set ?_ GE156.out) | exact HB.out)⟩
          · rw [if_neg c29] at H
            exact absurd H (by simp)
end Go.Proofs.YtknbnnpggdegmaaDoor.PD
