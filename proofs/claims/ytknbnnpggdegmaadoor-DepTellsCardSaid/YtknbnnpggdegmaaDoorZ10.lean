/- Part 10 of the proof of DepTellsCardSaid. -/
import Derived.Test.YtknbnnpggdegmaaDoorZ04
import Derived.Test.YtknbnnpggdegmaaDoorZ09
import Derived.Test.YtknbnnpggdegmaaDoorZ08
import Derived.Test.YtknbnnpggdegmaaDoorZ07
import Derived.Lib.OwnBridge
section
namespace Go.Proofs.YtknbnnpggdegmaaDoor.PD
open Go.RowKit Go.Proofs.YtknbnnpggdegmaaDoor.Lib Go.Proofs.YtknbnnpggdegmaaDoorW.PrintWords Go.Proofs.YtknbnnpggdegmaaDoorW.PrintLast Go.Proofs.YtknbnnpggdegmaaDoorW.PrintMore
attribute [local go_sem] max2_int min2_int max_two min_two max_three min_three max_four min_four   
set_option linter.unusedVariables false
set_option linter.unusedSimpArgs false
mutual
def marlinspikeref07_Format.l0 : Nat → ByteArray → Int → Bool → List (S46) → Option (ByteArray)
  | 0, _, _, _, _ => none
  | k + 1, x3, x4, x231000, x231001 => if x4 < (x231001.length : Int) then (if x4 > 0 then (marlinspikeref07_Format.j1 k x3 x4 x231000 x231000 x231001) else (marlinspikeref07_Format.j1 k x3 x4 false x231000 x231001)) else (some x3)
def marlinspikeref07_Format.j1 : Nat → ByteArray → Int → Bool → Bool → List (S46) → Option (ByteArray)
  | 0, _, _, _, _, _ => none
  | k + 1, x3, x4, x20, x231000, x231001 => if x20 = true then (if x3.size + 1 ≤ 9223372036854775807 then (marlinspikeref07_Format.j2 k (x3 ++ (⟨#[63]⟩ : ByteArray)) x4 x231000 x231001) else (none)) else (if x4 > 0 then (if x3.size + 1 ≤ 9223372036854775807 then (marlinspikeref07_Format.j2 k (x3 ++ (⟨#[44]⟩ : ByteArray)) x4 x231000 x231001) else (none)) else (marlinspikeref07_Format.j2 k x3 x4 x231000 x231001))
def marlinspikeref07_Format.j2 : Nat → ByteArray → Int → Bool → List (S46) → Option (ByteArray)
  | 0, _, _, _, _ => none
  | k + 1, x3, x4, x231000, x231001 => if 0 ≤ x4 then (if x4 < (x231001.length : Int) then (if ((rd_T46 x231001 x4).f0) < 1 then (marlinspikeref07_Format.j3 k x3 x4 ((rd_T46 x231001 x4).f0) true x231000 x231001) else (marlinspikeref07_Format.j3 k x3 x4 ((rd_T46 x231001 x4).f0) (decide (((rd_T46 x231001 x4).f0) > 5)) x231000 x231001)) else (none)) else (none)
def marlinspikeref07_Format.j3 : Nat → ByteArray → Int → Int → Bool → Bool → List (S46) → Option (ByteArray)
  | 0, _, _, _, _, _, _ => none
  | k + 1, x3, x4, x5, x38, x231000, x231001 => if x38 = true then (if x3.size + 1 ≤ 9223372036854775807 then (marlinspikeref07_Format.l0 k (x3 ++ (⟨#[63]⟩ : ByteArray)) (wrap64 (x4 + 1)) x231000 x231001) else (none)) else ((marlinspikeref07_words.f).bind fun t232 => (if 0 ≤ x5 then (if x5 < (t232.length : Int) then (if x3.size + (rdOf ByteArray.empty t232 x5).size ≤ 9223372036854775807 then (marlinspikeref07_Format.l1 k (x3 ++ (rdOf ByteArray.empty t232 x5)) x4 x5 0 x231000 x231001) else (none)) else (none)) else (none)))
def marlinspikeref07_Format.l1 : Nat → ByteArray → Int → Int → Int → Bool → List (S46) → Option (ByteArray)
  | 0, _, _, _, _, _, _ => none
  | k + 1, x3, x4, x5, x6, x231000, x231001 => if 0 ≤ x4 then (if x4 < (x231001.length : Int) then (if x6 < (((rd_T46 x231001 x4).f1).length : Int) then (marlinspikeref07_Format.j5 k x3 x4 x5 x6 (x5 != 5) x231000 x231001) else (marlinspikeref07_Format.j5 k x3 x4 x5 x6 false x231000 x231001)) else (none)) else (none)
def marlinspikeref07_Format.j5 : Nat → ByteArray → Int → Int → Int → Bool → Bool → List (S46) → Option (ByteArray)
  | 0, _, _, _, _, _, _, _ => none
  | k + 1, x3, x4, x5, x6, x59, x231000, x231001 => if x59 = true then (if 0 ≤ x4 then (if x4 < (x231001.length : Int) then (if 0 ≤ x6 then (if x6 < (((rd_T46 x231001 x4).f1).length : Int) then (if x3.size + 1 ≤ 9223372036854775807 then (if (rd ((rd_T46 x231001 x4).f1) x6) < 0 then (if (x3 ++ (⟨#[58]⟩ : ByteArray)).size + 1 ≤ 9223372036854775807 then ((marlinspikeref05_Digits.f k 0 0).bind fun t239 => (if ((x3 ++ (⟨#[58]⟩ : ByteArray)) ++ (⟨#[45]⟩ : ByteArray)).size + t239.size ≤ 9223372036854775807 then (marlinspikeref07_Format.l1 k (((x3 ++ (⟨#[58]⟩ : ByteArray)) ++ (⟨#[45]⟩ : ByteArray)) ++ t239) x4 x5 (wrap64 (x6 + 1)) x231000 x231001) else (none))) else (none)) else ((marlinspikeref05_Digits.f k (rd ((rd_T46 x231001 x4).f1) x6) 0).bind fun t240 => (if (x3 ++ (⟨#[58]⟩ : ByteArray)).size + t240.size ≤ 9223372036854775807 then (marlinspikeref07_Format.l1 k ((x3 ++ (⟨#[58]⟩ : ByteArray)) ++ t240) x4 x5 (wrap64 (x6 + 1)) x231000 x231001) else (none)))) else (none)) else (none)) else (none)) else (none)) else (none)) else (marlinspikeref07_Format.l0 k x3 (wrap64 (x4 + 1)) x231000 x231001)
end
def marlinspikeref07_Format.f (k : Nat) (a0_0 : Bool) (l0_1 : List (S46)) : Option (ByteArray) := marlinspikeref07_Format.l0 k (⟨#[]⟩ : ByteArray) 0 a0_0 l0_1
theorem marlinspikeref07_Format.mono_l : ∀ k, (∀ y0 y1 y2 y3, LeO (marlinspikeref07_Format.l0 k y0 y1 y2 y3) (marlinspikeref07_Format.l0 (k + 1) y0 y1 y2 y3)) ∧ (∀ y0 y1 y2 y3 y4, LeO (marlinspikeref07_Format.j1 k y0 y1 y2 y3 y4) (marlinspikeref07_Format.j1 (k + 1) y0 y1 y2 y3 y4)) ∧ (∀ y0 y1 y2 y3, LeO (marlinspikeref07_Format.j2 k y0 y1 y2 y3) (marlinspikeref07_Format.j2 (k + 1) y0 y1 y2 y3)) ∧ (∀ y0 y1 y2 y3 y4 y5, LeO (marlinspikeref07_Format.j3 k y0 y1 y2 y3 y4 y5) (marlinspikeref07_Format.j3 (k + 1) y0 y1 y2 y3 y4 y5)) ∧ (∀ y0 y1 y2 y3 y4 y5, LeO (marlinspikeref07_Format.l1 k y0 y1 y2 y3 y4 y5) (marlinspikeref07_Format.l1 (k + 1) y0 y1 y2 y3 y4 y5)) ∧ (∀ y0 y1 y2 y3 y4 y5 y6, LeO (marlinspikeref07_Format.j5 k y0 y1 y2 y3 y4 y5 y6) (marlinspikeref07_Format.j5 (k + 1) y0 y1 y2 y3 y4 y5 y6))
  | 0 => ⟨fun _ _ _ _ r h => by simp [marlinspikeref07_Format.l0] at h, fun _ _ _ _ _ r h => by simp [marlinspikeref07_Format.j1] at h, fun _ _ _ _ r h => by simp [marlinspikeref07_Format.j2] at h, fun _ _ _ _ _ _ r h => by simp [marlinspikeref07_Format.j3] at h, fun _ _ _ _ _ _ r h => by simp [marlinspikeref07_Format.l1] at h, fun _ _ _ _ _ _ _ r h => by simp [marlinspikeref07_Format.j5] at h⟩
  | k + 1 => by
    obtain ⟨ih0, ih1, ih2, ih3, ih4, ih5⟩ := marlinspikeref07_Format.mono_l k
    refine ⟨?_, ?_, ?_, ?_, ?_, ?_⟩
    · intro y0 y1 y2 y3
      unfold marlinspikeref07_Format.l0
      repeat' first
      | (with_reducible exact ih0 _ _ _ _)
      | (with_reducible exact ih1 _ _ _ _ _)
      | (with_reducible exact ih2 _ _ _ _)
      | (with_reducible exact ih3 _ _ _ _ _ _)
      | (with_reducible exact ih4 _ _ _ _ _ _)
      | (with_reducible exact ih5 _ _ _ _ _ _ _)
      | (with_reducible exact marlinspikeref05_Digits.mono _ _ _)
      | (with_reducible exact LeO.refl _)
      | (with_reducible exact LeO.none _)
      | (with_reducible refine LeO.ite ?_ ?_)
      | (with_reducible refine LeO.bind ?_ (fun _ => ?_))
      | exact ih0 _ _ _ _
      | exact ih1 _ _ _ _ _
      | exact ih2 _ _ _ _
      | exact ih3 _ _ _ _ _ _
      | exact ih4 _ _ _ _ _ _
      | exact ih5 _ _ _ _ _ _ _
      | exact marlinspikeref05_Digits.mono _ _ _
      | exact LeO.none _
      | refine LeO.ite ?_ ?_
      | refine LeO.bind ?_ (fun _ => ?_)
    · intro y0 y1 y2 y3 y4
      unfold marlinspikeref07_Format.j1
      repeat' first
      | (with_reducible exact ih0 _ _ _ _)
      | (with_reducible exact ih1 _ _ _ _ _)
      | (with_reducible exact ih2 _ _ _ _)
      | (with_reducible exact ih3 _ _ _ _ _ _)
      | (with_reducible exact ih4 _ _ _ _ _ _)
      | (with_reducible exact ih5 _ _ _ _ _ _ _)
      | (with_reducible exact marlinspikeref05_Digits.mono _ _ _)
      | (with_reducible exact LeO.refl _)
      | (with_reducible exact LeO.none _)
      | (with_reducible refine LeO.ite ?_ ?_)
      | (with_reducible refine LeO.bind ?_ (fun _ => ?_))
      | exact ih0 _ _ _ _
      | exact ih1 _ _ _ _ _
      | exact ih2 _ _ _ _
      | exact ih3 _ _ _ _ _ _
      | exact ih4 _ _ _ _ _ _
      | exact ih5 _ _ _ _ _ _ _
      | exact marlinspikeref05_Digits.mono _ _ _
      | exact LeO.none _
      | refine LeO.ite ?_ ?_
      | refine LeO.bind ?_ (fun _ => ?_)
    · intro y0 y1 y2 y3
      unfold marlinspikeref07_Format.j2
      repeat' first
      | (with_reducible exact ih0 _ _ _ _)
      | (with_reducible exact ih1 _ _ _ _ _)
      | (with_reducible exact ih2 _ _ _ _)
      | (with_reducible exact ih3 _ _ _ _ _ _)
      | (with_reducible exact ih4 _ _ _ _ _ _)
      | (with_reducible exact ih5 _ _ _ _ _ _ _)
      | (with_reducible exact marlinspikeref05_Digits.mono _ _ _)
      | (with_reducible exact LeO.refl _)
      | (with_reducible exact LeO.none _)
      | (with_reducible refine LeO.ite ?_ ?_)
      | (with_reducible refine LeO.bind ?_ (fun _ => ?_))
      | exact ih0 _ _ _ _
      | exact ih1 _ _ _ _ _
      | exact ih2 _ _ _ _
      | exact ih3 _ _ _ _ _ _
      | exact ih4 _ _ _ _ _ _
      | exact ih5 _ _ _ _ _ _ _
      | exact marlinspikeref05_Digits.mono _ _ _
      | exact LeO.none _
      | refine LeO.ite ?_ ?_
      | refine LeO.bind ?_ (fun _ => ?_)
    · intro y0 y1 y2 y3 y4 y5
      unfold marlinspikeref07_Format.j3
      repeat' first
      | (with_reducible exact ih0 _ _ _ _)
      | (with_reducible exact ih1 _ _ _ _ _)
      | (with_reducible exact ih2 _ _ _ _)
      | (with_reducible exact ih3 _ _ _ _ _ _)
      | (with_reducible exact ih4 _ _ _ _ _ _)
      | (with_reducible exact ih5 _ _ _ _ _ _ _)
      | (with_reducible exact marlinspikeref05_Digits.mono _ _ _)
      | (with_reducible exact LeO.refl _)
      | (with_reducible exact LeO.none _)
      | (with_reducible refine LeO.ite ?_ ?_)
      | (with_reducible refine LeO.bind ?_ (fun _ => ?_))
      | exact ih0 _ _ _ _
      | exact ih1 _ _ _ _ _
      | exact ih2 _ _ _ _
      | exact ih3 _ _ _ _ _ _
      | exact ih4 _ _ _ _ _ _
      | exact ih5 _ _ _ _ _ _ _
      | exact marlinspikeref05_Digits.mono _ _ _
      | exact LeO.none _
      | refine LeO.ite ?_ ?_
      | refine LeO.bind ?_ (fun _ => ?_)
    · intro y0 y1 y2 y3 y4 y5
      unfold marlinspikeref07_Format.l1
      repeat' first
      | (with_reducible exact ih0 _ _ _ _)
      | (with_reducible exact ih1 _ _ _ _ _)
      | (with_reducible exact ih2 _ _ _ _)
      | (with_reducible exact ih3 _ _ _ _ _ _)
      | (with_reducible exact ih4 _ _ _ _ _ _)
      | (with_reducible exact ih5 _ _ _ _ _ _ _)
      | (with_reducible exact marlinspikeref05_Digits.mono _ _ _)
      | (with_reducible exact LeO.refl _)
      | (with_reducible exact LeO.none _)
      | (with_reducible refine LeO.ite ?_ ?_)
      | (with_reducible refine LeO.bind ?_ (fun _ => ?_))
      | exact ih0 _ _ _ _
      | exact ih1 _ _ _ _ _
      | exact ih2 _ _ _ _
      | exact ih3 _ _ _ _ _ _
      | exact ih4 _ _ _ _ _ _
      | exact ih5 _ _ _ _ _ _ _
      | exact marlinspikeref05_Digits.mono _ _ _
      | exact LeO.none _
      | refine LeO.ite ?_ ?_
      | refine LeO.bind ?_ (fun _ => ?_)
    · intro y0 y1 y2 y3 y4 y5 y6
      unfold marlinspikeref07_Format.j5
      repeat' first
      | (with_reducible exact ih0 _ _ _ _)
      | (with_reducible exact ih1 _ _ _ _ _)
      | (with_reducible exact ih2 _ _ _ _)
      | (with_reducible exact ih3 _ _ _ _ _ _)
      | (with_reducible exact ih4 _ _ _ _ _ _)
      | (with_reducible exact ih5 _ _ _ _ _ _ _)
      | (with_reducible exact marlinspikeref05_Digits.mono _ _ _)
      | (with_reducible exact LeO.refl _)
      | (with_reducible exact LeO.none _)
      | (with_reducible refine LeO.ite ?_ ?_)
      | (with_reducible refine LeO.bind ?_ (fun _ => ?_))
      | exact ih0 _ _ _ _
      | exact ih1 _ _ _ _ _
      | exact ih2 _ _ _ _
      | exact ih3 _ _ _ _ _ _
      | exact ih4 _ _ _ _ _ _
      | exact ih5 _ _ _ _ _ _ _
      | exact marlinspikeref05_Digits.mono _ _ _
      | exact LeO.none _
      | refine LeO.ite ?_ ?_
      | refine LeO.bind ?_ (fun _ => ?_)
theorem marlinspikeref07_Format.mono : ∀ a0 a1 k, LeO (marlinspikeref07_Format.f k a0 a1) (marlinspikeref07_Format.f (k + 1) a0 a1) := by
  intro a0 a1 k
  obtain ⟨ih0, ih1, ih2, ih3, ih4, ih5⟩ := marlinspikeref07_Format.mono_l k
  unfold marlinspikeref07_Format.f
  repeat' first
      | (with_reducible exact ih0 _ _ _ _)
      | (with_reducible exact ih1 _ _ _ _ _)
      | (with_reducible exact ih2 _ _ _ _)
      | (with_reducible exact ih3 _ _ _ _ _ _)
      | (with_reducible exact ih4 _ _ _ _ _ _)
      | (with_reducible exact ih5 _ _ _ _ _ _ _)
      | (with_reducible exact marlinspikeref05_Digits.mono _ _ _)
      | (with_reducible exact LeO.refl _)
      | (with_reducible exact LeO.none _)
      | (with_reducible refine LeO.ite ?_ ?_)
      | (with_reducible refine LeO.bind ?_ (fun _ => ?_))
      | exact ih0 _ _ _ _
      | exact ih1 _ _ _ _ _
      | exact ih2 _ _ _ _
      | exact ih3 _ _ _ _ _ _
      | exact ih4 _ _ _ _ _ _
      | exact ih5 _ _ _ _ _ _ _
      | exact marlinspikeref05_Digits.mono _ _ _
      | exact LeO.none _
      | refine LeO.ite ?_ ?_
      | refine LeO.bind ?_ (fun _ => ?_)
set_option maxHeartbeats 8000000 in
set_option maxRecDepth 100000 in
theorem marlinspikeref07_Format.calls (k : Nat) (a0_0 : Bool) (A0_1 : Option Addr) (c0_1 : Nat) (l0_1 : List (S46)) (r : ByteArray) (w : World) (hr0_1 : Kd.C k46 w A0_1 l0_1.length l0_1) (hc0_1 : l0_1.length ≤ c0_1) (h : marlinspikeref07_Format.f k a0_0 l0_1 = some r) :
    Calls Tryd.prog 19 #[.agg #[.bool a0_0, .slice A0_1 l0_1.length c0_1]] w fun e w' => e = .returned (.string r) ∧ Below w.heap.size w w' := by
  have hu24 := Tryd.underlying24
  have HR0_1 := Aside0.mk hr0_1
  have HC0_1 := Aside0.mk hc0_1
  clear hr0_1 hc0_1
  have HB := Aside0.mk (Below.refl w.heap.size w)
  have H : (marlinspikeref07_Format.l0 k (⟨#[]⟩ : ByteArray) 0 a0_0 l0_1) = some r := h
  clear h
  have H' := Aside0.mk H
  clear H
  go_enter Tryd.func19, Tryd.ntmps19
  go_wp2_with (first | ((with_reducible refine gate_dst (N := 1) rfl ?_); refine box_event ?hg (N := 1) ?hd (cs := #[.bool a0_0, .slice A0_1 l0_1.length c0_1]) (t := 24) ?hr ?_; (case hd => rfl); (case hg => rfl); (case hr => first | (go_simp; done) | (go_simp; rfl)); intro gb230 hg w2 hbox hb; have n0_ := Aside0.mk (below_step (by repeat (first | (with_reducible first | exact HB.out | apply below_alloc | apply pw_below_drewN | apply below_drew1) | exact HB.out)) hb); have n1_ := Aside0.mk (hbox); have n2_ := Aside0.mk ((by rw [hg]; exact (below_size (by repeat (first | (with_reducible first | exact HB.out | apply below_alloc | apply pw_below_drewN | apply below_drew1) | exact HB.out))) : w.heap.size ≤ gb230)); have n3_ := Aside0.mk ((by rw [hg]; exact (below_size (by repeat (first | (with_reducible first | exact HB.out | apply below_alloc | apply pw_below_drewN | apply below_drew1) | exact HB.out))) : w.heap.size ≤ gb230)); clear HB; have HB := n0_; have BK230 := n1_; have GW230 := n2_; have GE230 := n3_; clear n0_ n1_ n2_ n3_; clear hb hbox hg))
  go_loopg [3, 4] k (fun kq v3 v4 w' => ∃ (x3_1 : ByteArray) (x4_1 : Int), v3 = .string x3_1 ∧ v4 = .int .i64 x4_1 ∧ Aside0 (marlinspikeref07_Format.l0 kq x3_1 x4_1 a0_0 l0_1 = some r) ∧ Aside0 (kq ≤ k) ∧ Aside0 (w'.heap[gb230]? = some (.cells #[.bool a0_0, (.slice A0_1 l0_1.length c0_1)] 24 (0, 0))) ∧ Aside0 (Below w.heap.size w w'))
  case atStart => exact ⟨((⟨#[]⟩ : ByteArray)), (0), (by first | rfl | (simp; done) | (simp [*]; done)), (by first | rfl | (simp; done) | (simp [*]; done)), H', ⟨Nat.le_refl _⟩, ⟨by (with_reducible repeat (first | refine blk_drewN ?_ _ | refine blk_drew ?_ | refine blk_alloc ?_ _)); exact BK230.out⟩, ⟨by repeat (first | (with_reducible first | exact HB.out | apply below_alloc | apply pw_below_drewN | apply below_drew1 | refine below_set ?_ GE230.out) | exact HB.out)⟩⟩
  case round =>
    clear H'
    try clear c1
    try clear p2
    obtain ⟨x3_1, x4_1, rfl, rfl, HA, HK1, BK230, HB⟩ := hrel
    cases gk with
    | zero => exact absurd HA.out (by simp [marlinspikeref07_Format.l0])
    | succ k1 =>
      have H := HA.out
      clear HA
      simp only [marlinspikeref07_Format.l0] at H
      by_cases c3 : x4_1 < (l0_1.length : Int)
      · rw [if_pos c3] at H
        have c3b0 : decide (x4_1 < (l0_1.length : Int)) = true := decide_eq_true c3
        clear c3
        have HC4 := Aside0.mk H
        clear H
        have hcz5_0 : wr.cell? ⟨gb230, 0, none⟩ = some (.bool a0_0) := (blk_cell BK230.out 0).trans rfl
        have hcz5_1 : wr.cell? ⟨gb230, 1, none⟩ = some (.slice A0_1 l0_1.length c0_1) := (blk_cell BK230.out 1).trans rfl
        have hfz5_0 := blk_frozen BK230.out 0
        have hfz5_1 := blk_frozen BK230.out 1
        go_upto_region 5 with (fail)
        go_cut [20] (fun v20 wc => ∃ (kq : Nat) (x20_3 : Bool), v20 = .bool x20_3 ∧ Aside0 (marlinspikeref07_Format.j1 kq x3_1 x4_1 x20_3 a0_0 l0_1 = some r) ∧ Aside0 (kq ≤ k1) ∧ Aside0 (wc.heap[gb230]? = some (.cells #[.bool a0_0, (.slice A0_1 l0_1.length c0_1)] 24 (0, 0))) ∧ Aside0 (Below w.heap.size w wc))
        case first =>
          have H := HC4.out
          clear HC4
          by_cases c6 : x4_1 > 0
          · rw [if_pos c6] at H
            have c6b0 : decide (0 < x4_1) = true := decide_eq_true c6
            clear c6
            (first | rw [c6b0] | (simp only [i64_w, i32_w]; rw [c6b0]) | skip)
            have H' := Aside0.mk H
            clear H
            have hcz7_0 : wr.cell? ⟨gb230, 0, none⟩ = some (.bool a0_0) := (blk_cell BK230.out 0).trans rfl
            have hcz7_1 : wr.cell? ⟨gb230, 1, none⟩ = some (.slice A0_1 l0_1.length c0_1) := (blk_cell BK230.out 1).trans rfl
            have hfz7_0 := blk_frozen BK230.out 0
            have hfz7_1 := blk_frozen BK230.out 1
            go_wp2
            go_meet
            case rel => exact ⟨_, (a0_0), (by first | rfl | (simp; done) | (simp [*]; done)), H', ⟨by have := HK1.out; first | omega | exact Nat.le_refl _⟩, ⟨by (with_reducible repeat (first | refine blk_drewN ?_ _ | refine blk_drew ?_ | refine blk_alloc ?_ _)); exact BK230.out⟩, ⟨by repeat (first | (with_reducible first | exact HB.out | apply below_alloc | apply pw_below_drewN | apply below_drew1 | refine below_set ?_ GE230.out) | exact HB.out)⟩⟩
          · rw [if_neg c6] at H
            have c6b0 : decide (0 < x4_1) = false := decide_eq_false c6
            clear c6
            (first | rw [c6b0] | (simp only [i64_w, i32_w]; rw [c6b0]) | skip)
            have H' := Aside0.mk H
            clear H
            go_wp2
            go_meet
            case rel => exact ⟨_, (false), (by first | rfl | (simp; done) | (simp [*]; done)), H', ⟨by have := HK1.out; first | omega | exact Nat.le_refl _⟩, ⟨by (with_reducible repeat (first | refine blk_drewN ?_ _ | refine blk_drew ?_ | refine blk_alloc ?_ _)); exact BK230.out⟩, ⟨by repeat (first | (with_reducible first | exact HB.out | apply below_alloc | apply pw_below_drewN | apply below_drew1 | refine below_set ?_ GE230.out) | exact HB.out)⟩⟩
        case rest =>
          clear HC4
          try clear c1
          try clear p2
          try clear c3
          try clear c3b0
          try clear c6
          try clear c6b0
          try clear hcz5_0
          try clear hcz5_1
          try clear hcz7_0
          try clear hcz7_1
          try clear hfz5_0
          try clear hfz5_1
          try clear hfz7_0
          try clear hfz7_1
          try clear p2
          obtain ⟨kq, x20_3, rfl, HA, HJ3, BK230, HB⟩ := hcut
          cases kq with
          | zero => exact absurd HA.out (by simp [marlinspikeref07_Format.j1])
          | succ kj3 =>
            have H := HA.out
            clear HA
            simp only [marlinspikeref07_Format.j1] at H
            have HC8 := Aside0.mk H
            clear H
            go_upto_if 20 with (fail)
            go_cut [3] (fun v3 wc => ∃ (kq : Nat) (x3_7 : ByteArray), v3 = .string x3_7 ∧ Aside0 (marlinspikeref07_Format.j2 kq x3_7 x4_1 a0_0 l0_1 = some r) ∧ Aside0 (kq ≤ kj3) ∧ Aside0 (wc.heap[gb230]? = some (.cells #[.bool a0_0, (.slice A0_1 l0_1.length c0_1)] 24 (0, 0))) ∧ Aside0 (Below w.heap.size w wc))
            case first =>
              have H := HC8.out
              clear HC8
              by_cases c9 : x20_3 = true
              · subst c9
                have H1 : (if x3_1.size + 1 ≤ 9223372036854775807 then (marlinspikeref07_Format.j2 kj3 (x3_1 ++ (⟨#[63]⟩ : ByteArray)) x4_1 a0_0 l0_1) else (none)) = some r := by rw [if_pos rfl] at H; exact H
                clear H
                have H := H1
                clear H1
                by_cases c10 : x3_1.size + 1 ≤ 9223372036854775807
                · rw [if_pos c10] at H
                  have c10b0 := eq_true c10
                  have c10b1 : decide (x3_1.size + 1 ≤ 9223372036854775807) = true := decide_eq_true c10
                  try have c10b2 : (9223372036854775807 < x3_1.size + 1) = False := eq_false (Nat.not_lt.2 c10)
                  have H' := Aside0.mk H
                  clear H
                  go_wp2
                  go_meet
                  case rel => exact ⟨_, (x3_1 ++ (⟨#[63]⟩ : ByteArray)), (by first | rfl | (simp; done) | (simp [*]; done)), H', ⟨by have := HK1.out; have := HJ3.out; first | omega | exact Nat.le_refl _⟩, ⟨by (with_reducible repeat (first | refine blk_drewN ?_ _ | refine blk_drew ?_ | refine blk_alloc ?_ _)); exact BK230.out⟩, ⟨by repeat (first | (with_reducible first | exact HB.out | apply below_alloc | apply pw_below_drewN | apply below_drew1 | refine below_set ?_ GE230.out) | exact HB.out)⟩⟩
                · rw [if_neg c10] at H
                  exact absurd H (by simp)
              · replace c9 := Bool.eq_false_iff.mpr c9
                subst c9
                have H1 : (if x4_1 > 0 then (if x3_1.size + 1 ≤ 9223372036854775807 then (marlinspikeref07_Format.j2 kj3 (x3_1 ++ (⟨#[44]⟩ : ByteArray)) x4_1 a0_0 l0_1) else (none)) else (marlinspikeref07_Format.j2 kj3 x3_1 x4_1 a0_0 l0_1)) = some r := by rw [if_neg (show ¬ (false = true) by decide)] at H; exact H
                clear H
                have H := H1
                clear H1
                by_cases c11 : x4_1 > 0
                · rw [if_pos c11] at H
                  have c11b0 : decide (0 < x4_1) = true := decide_eq_true c11
                  clear c11
                  (first | rw [c11b0] | (simp only [i64_w, i32_w]; rw [c11b0]) | skip)
                  by_cases c12 : x3_1.size + 1 ≤ 9223372036854775807
                  · rw [if_pos c12] at H
                    have c12b0 := eq_true c12
                    have c12b1 : decide (x3_1.size + 1 ≤ 9223372036854775807) = true := decide_eq_true c12
                    try have c12b2 : (9223372036854775807 < x3_1.size + 1) = False := eq_false (Nat.not_lt.2 c12)
                    have H' := Aside0.mk H
                    clear H
                    go_wp2
                    go_meet
                    case rel => exact ⟨_, (x3_1 ++ (⟨#[44]⟩ : ByteArray)), (by first | rfl | (simp; done) | (simp [*]; done)), H', ⟨by have := HK1.out; have := HJ3.out; first | omega | exact Nat.le_refl _⟩, ⟨by (with_reducible repeat (first | refine blk_drewN ?_ _ | refine blk_drew ?_ | refine blk_alloc ?_ _)); exact BK230.out⟩, ⟨by repeat (first | (with_reducible first | exact HB.out | apply below_alloc | apply pw_below_drewN | apply below_drew1 | refine below_set ?_ GE230.out) | exact HB.out)⟩⟩
                  · rw [if_neg c12] at H
                    exact absurd H (by simp)
                · rw [if_neg c11] at H
                  have c11b0 : decide (0 < x4_1) = false := decide_eq_false c11
                  clear c11
                  (first | rw [c11b0] | (simp only [i64_w, i32_w]; rw [c11b0]) | skip)
                  have H' := Aside0.mk H
                  clear H
                  go_wp2
                  go_meet
                  case rel => exact ⟨_, (x3_1), (by first | rfl | (simp; done) | (simp [*]; done)), H', ⟨by have := HK1.out; have := HJ3.out; first | omega | exact Nat.le_refl _⟩, ⟨by (with_reducible repeat (first | refine blk_drewN ?_ _ | refine blk_drew ?_ | refine blk_alloc ?_ _)); exact BK230.out⟩, ⟨by repeat (first | (with_reducible first | exact HB.out | apply below_alloc | apply pw_below_drewN | apply below_drew1 | refine below_set ?_ GE230.out) | exact HB.out)⟩⟩
            case rest =>
              clear HC8
              try clear c1
              try clear p2
              try clear c3
              try clear c3b0
              try clear c6
              try clear c6b0
              try clear c9
              try clear c10
              try clear c10b0
              try clear c10b1
              try clear c10b2
              try clear c11
              try clear c11b0
              try clear c12
              try clear c12b0
              try clear c12b1
              try clear c12b2
              try clear hcz5_0
              try clear hcz5_1
              try clear hcz7_0
              try clear hcz7_1
              try clear hfz5_0
              try clear hfz5_1
              try clear hfz7_0
              try clear hfz7_1
              try clear p2
              obtain ⟨kq, x3_7, rfl, HA, HJ7, BK230, HB⟩ := hcut
              cases kq with
              | zero => exact absurd HA.out (by simp [marlinspikeref07_Format.j2])
              | succ kj7 =>
                have H := HA.out
                clear HA
                simp only [marlinspikeref07_Format.j2] at H
                by_cases c13 : 0 ≤ x4_1
                · rw [if_pos c13] at H
                  have c13b0 : decide (0 ≤ x4_1) = true := decide_eq_true c13
                  clear c13
                  by_cases c14 : x4_1 < (l0_1.length : Int)
                  · rw [if_pos c14] at H
                    have c14b0 : decide (x4_1 < (l0_1.length : Int)) = true := decide_eq_true c14
                    clear c14
                    have HC15 := Aside0.mk H
                    clear H
                    have hcz16_0 : wc.cell? ⟨gb230, 0, none⟩ = some (.bool a0_0) := (blk_cell BK230.out 0).trans rfl
                    have hcz16_1 : wc.cell? ⟨gb230, 1, none⟩ = some (.slice A0_1 l0_1.length c0_1) := (blk_cell BK230.out 1).trans rfl
                    have hfz16_0 := blk_frozen BK230.out 0
                    have hfz16_1 := blk_frozen BK230.out 1
                    have p231 : 0 ≤ (x4_1 : Int) := of_decide_eq_true (by first | (with_reducible assumption) | assumption)
                    have q231 : x4_1 < (l0_1.length : Int) := of_decide_eq_true (by first | (with_reducible assumption) | assumption)
                    obtain ⟨ad231, A231_1, c231_1, e231, hx231_0, hx231_1, hl231_1, hi231_1⟩ := at_T46 HR0_1.out x4_1 p231 q231
                    cases e231
                    replace hx231_0 := (HB.out.cell (World.block_lt_of_cell? w _ hx231_0)).trans hx231_0
                    replace hx231_1 := (HB.out.cell (World.block_lt_of_cell? w _ hx231_1)).trans hx231_1
                    have HR231_1 := Aside0.mk hi231_1
                    have HC231_1 := Aside0.mk hl231_1
                    clear hi231_1 hl231_1
                    replace p231 := eq_true p231
                    replace q231 := eq_true q231
                    go_upto_region 10 with (fail)
                    go_cut [38] (fun v38 wc => ∃ (kq : Nat) (x38_14 : Bool), v38 = .bool x38_14 ∧ Aside0 (marlinspikeref07_Format.j3 kq x3_7 x4_1 ((rd_T46 l0_1 x4_1).f0) x38_14 a0_0 l0_1 = some r) ∧ Aside0 (kq ≤ kj7) ∧ Aside0 (wc.heap[gb230]? = some (.cells #[.bool a0_0, (.slice (some ad231) l0_1.length c0_1)] 24 (0, 0))) ∧ Aside0 (Below w.heap.size w wc))
                    case first =>
                      have H := HC15.out
                      clear HC15
                      by_cases c17 : ((rd_T46 l0_1 x4_1).f0) < 1
                      · rw [if_pos c17] at H
                        have c17b0 : decide (((rd_T46 l0_1 x4_1).f0) < 1) = true := decide_eq_true c17
                        clear c17
                        (first | rw [c17b0] | (simp only [i64_w, i32_w]; rw [c17b0]) | skip)
                        have H' := Aside0.mk H
                        clear H
                        go_wp2
                        go_meet
                        case rel => exact ⟨_, (true), (by first | rfl | (simp; done) | (simp [*]; done)), H', ⟨by have := HK1.out; have := HJ3.out; have := HJ7.out; first | omega | exact Nat.le_refl _⟩, ⟨by (with_reducible repeat (first | refine blk_drewN ?_ _ | refine blk_drew ?_ | refine blk_alloc ?_ _)); exact BK230.out⟩, ⟨by repeat (first | (with_reducible first | exact HB.out | apply below_alloc | apply pw_below_drewN | apply below_drew1 | refine below_set ?_ GE230.out) | exact HB.out)⟩⟩
                      · rw [if_neg c17] at H
                        have c17b0 : decide (((rd_T46 l0_1 x4_1).f0) < 1) = false := decide_eq_false c17
                        clear c17
                        (first | rw [c17b0] | (simp only [i64_w, i32_w]; rw [c17b0]) | skip)
                        have H' := Aside0.mk H
                        clear H
                        go_wp2
                        go_meet
                        case rel => exact ⟨_, (decide (((rd_T46 l0_1 x4_1).f0) > 5)), (by first | rfl | (simp; done) | (simp [*]; done)), H', ⟨by have := HK1.out; have := HJ3.out; have := HJ7.out; first | omega | exact Nat.le_refl _⟩, ⟨by (with_reducible repeat (first | refine blk_drewN ?_ _ | refine blk_drew ?_ | refine blk_alloc ?_ _)); exact BK230.out⟩, ⟨by repeat (first | (with_reducible first | exact HB.out | apply below_alloc | apply pw_below_drewN | apply below_drew1 | refine below_set ?_ GE230.out) | exact HB.out)⟩⟩
                    case rest =>
                      clear HC15
                      try clear c1
                      try clear c2
                      try clear p2
                      try clear q2
                      try clear hx2
                      try clear c3
                      try clear c3b0
                      try clear c6
                      try clear c6b0
                      try clear c9
                      try clear c10
                      try clear c10b0
                      try clear c10b1
                      try clear c10b2
                      try clear c11
                      try clear c11b0
                      try clear c12
                      try clear c12b0
                      try clear c12b1
                      try clear c12b2
                      try clear c13
                      try clear c13b0
                      try clear c14
                      try clear c14b0
                      try clear c17
                      try clear c17b0
                      try clear hcz16_0
                      try clear hcz16_1
                      try clear hcz5_0
                      try clear hcz5_1
                      try clear hcz7_0
                      try clear hcz7_1
                      try clear hfz16_0
                      try clear hfz16_1
                      try clear hfz5_0
                      try clear hfz5_1
                      try clear hfz7_0
                      try clear hfz7_1
                      try clear hx231_0
                      try clear hx231_1
                      try clear p2
                      try clear p231
                      try clear q231
                      obtain ⟨kq, x38_14, rfl, HA, HJ14, BK230, HB⟩ := hcut
                      cases kq with
                      | zero => exact absurd HA.out (by simp [marlinspikeref07_Format.j3])
                      | succ kj14 =>
                        have H := HA.out
                        clear HA
                        simp only [marlinspikeref07_Format.j3] at H
                        by_cases c18 : x38_14 = true
                        · subst c18
                          have H1 : (if x3_7.size + 1 ≤ 9223372036854775807 then (marlinspikeref07_Format.l0 kj14 (x3_7 ++ (⟨#[63]⟩ : ByteArray)) (wrap64 (x4_1 + 1)) a0_0 l0_1) else (none)) = some r := by rw [if_pos rfl] at H; exact H
                          clear H
                          have H := H1
                          clear H1
                          by_cases c19 : x3_7.size + 1 ≤ 9223372036854775807
                          · rw [if_pos c19] at H
                            have c19b0 := eq_true c19
                            have c19b1 : decide (x3_7.size + 1 ≤ 9223372036854775807) = true := decide_eq_true c19
                            try have c19b2 : (9223372036854775807 < x3_7.size + 1) = False := eq_false (Nat.not_lt.2 c19)
                            have H' := Aside0.mk H
                            clear H
                            go_wp2
                            go_roundg kj14
                            case measure => have := HK1.out; have := HJ3.out; have := HJ7.out; have := HJ14.out; omega
                            case rel => exact ⟨(x3_7 ++ (⟨#[63]⟩ : ByteArray)), (wrap64 (x4_1 + 1)), (by first | rfl | (simp; done) | (simp [*]; done)), (by first | rfl | (simp; done) | (simp [*]; done)), H', ⟨by have := HK1.out; have := HJ3.out; have := HJ7.out; have := HJ14.out; omega⟩, ⟨by (with_reducible repeat (first | refine blk_drewN ?_ _ | refine blk_drew ?_ | refine blk_alloc ?_ _)); exact BK230.out⟩, ⟨by repeat (first | (with_reducible first | exact HB.out | apply below_alloc | apply pw_below_drewN | apply below_drew1 | refine below_set ?_ GE230.out) | exact HB.out)⟩⟩
                          · rw [if_neg c19] at H
                            exact absurd H (by simp)
                        · replace c18 := Bool.eq_false_iff.mpr c18
                          subst c18
                          have H1 : ((marlinspikeref07_words.f).bind fun t232 => (if 0 ≤ ((rd_T46 l0_1 x4_1).f0) then (if ((rd_T46 l0_1 x4_1).f0) < (t232.length : Int) then (if x3_7.size + (rdOf ByteArray.empty t232 ((rd_T46 l0_1 x4_1).f0)).size ≤ 9223372036854775807 then (marlinspikeref07_Format.l1 kj14 (x3_7 ++ (rdOf ByteArray.empty t232 ((rd_T46 l0_1 x4_1).f0))) x4_1 ((rd_T46 l0_1 x4_1).f0) 0 a0_0 l0_1) else (none)) else (none)) else (none))) = some r := by rw [if_neg (show ¬ (false = true) by decide)] at H; exact H
                          clear H
                          have H := H1
                          clear H1
                          replace H := Option.bind_eq_some_iff.mp H
                          obtain ⟨t232, A200, H⟩ := H
                          replace H : (if 0 ≤ ((rd_T46 l0_1 x4_1).f0) then (if ((rd_T46 l0_1 x4_1).f0) < (t232.length : Int) then (if x3_7.size + (rdOf ByteArray.empty t232 ((rd_T46 l0_1 x4_1).f0)).size ≤ 9223372036854775807 then (marlinspikeref07_Format.l1 kj14 (x3_7 ++ (rdOf ByteArray.empty t232 ((rd_T46 l0_1 x4_1).f0))) x4_1 ((rd_T46 l0_1 x4_1).f0) 0 a0_0 l0_1) else (none)) else (none)) else (none)) = some r := H
                          have A20 := Aside0.mk A200
                          clear A200
                          by_cases c21 : 0 ≤ ((rd_T46 l0_1 x4_1).f0)
                          · rw [if_pos c21] at H
                            have c21b0 : decide (0 ≤ ((rd_T46 l0_1 x4_1).f0)) = true := decide_eq_true c21
                            clear c21
                            by_cases c22 : ((rd_T46 l0_1 x4_1).f0) < (t232.length : Int)
                            · rw [if_pos c22] at H
                              have c22b0 : decide (((rd_T46 l0_1 x4_1).f0) < (t232.length : Int)) = true := decide_eq_true c22
                              clear c22
                              by_cases c23 : x3_7.size + (rdOf ByteArray.empty t232 ((rd_T46 l0_1 x4_1).f0)).size ≤ 9223372036854775807
                              · rw [if_pos c23] at H
                                have c23b0 := eq_true c23
                                have c23b1 : decide (x3_7.size + (rdOf ByteArray.empty t232 ((rd_T46 l0_1 x4_1).f0)).size ≤ 9223372036854775807) = true := decide_eq_true c23
                                try have c23b2 : (9223372036854775807 < x3_7.size + (rdOf ByteArray.empty t232 ((rd_T46 l0_1 x4_1).f0)).size) = False := eq_false (Nat.not_lt.2 c23)
                                have H' := Aside0.mk H
                                clear H
                                go_wp2_with (first | ((with_reducible refine gate_callee (f := 37) rfl ?_); refine goesL_ (some 42) rfl rfl Tryd.func37 (by kernel_rfl) rfl #[] rfl (by (try simp only [List.map_toArray, List.map_cons, List.map_nil]); first | done | rfl | (simp only [List.length_drop, List.length_take]; rfl)) ?_; (with_reducible refine (marlinspikeref07_words.calls  t232 _ A20.out).mono ?_); rintro e w24 ⟨v233, rfl, ho0, hb⟩; refine ⟨_, rfl, ?_⟩; have n0_ := Aside0.mk (Kd.R_lower ho0 (below_size (by repeat (first | (with_reducible first | exact HB.out | apply below_alloc | apply pw_below_drewN | apply below_drew1 | refine below_set ?_ GE230.out) | exact HB.out)))); have n1_ := Aside0.mk (blk_below (g := gb230) (o := .cells #[.bool a0_0, .slice (some ad231) l0_1.length c0_1] 24 (0, 0)) (by (with_reducible repeat (first | refine blk_drewN ?_ _ | refine blk_drew ?_ | refine blk_alloc ?_ _)); exact BK230.out) hb); have n2_ := Aside0.mk (below_step (by repeat (first | (with_reducible first | exact HB.out | apply below_alloc | apply pw_below_drewN | apply below_drew1 | refine below_set ?_ GE230.out) | exact HB.out)) hb); clear BK230; clear HB; have HO234 := n0_; have BK230 := n1_; have HB := n2_; clear n0_ n1_ n2_; (try clear hb); (try clear hb2); (try clear hk); (try clear hi); (try clear ho0); obtain ⟨Ao25, co25, eo25⟩ := Kd.R_slice HO234.out; subst eo25; have p235 : 0 ≤ (((rd_T46 l0_1 x4_1).f0) : Int) := of_decide_eq_true (by first | (with_reducible assumption) | assumption); have q235 : ((rd_T46 l0_1 x4_1).f0) < (t232.length : Int) := of_decide_eq_true (by first | (with_reducible assumption) | assumption); obtain ⟨ad235, e235, hx235_0⟩ := Kd.at_string (Kd.R_reads' HO234.out).2.2 ((rd_T46 l0_1 x4_1).f0) p235 q235; cases e235; replace p235 := eq_true p235; replace q235 := eq_true q235))
                                go_loopg [3, 6] kj14 (fun kq v3 v6 w' => ∃ (x3_5 : ByteArray) (x6_5 : Int), v3 = .string x3_5 ∧ v6 = .int .i64 x6_5 ∧ Aside0 (marlinspikeref07_Format.l1 kq x3_5 x4_1 ((rd_T46 l0_1 x4_1).f0) x6_5 a0_0 l0_1 = some r) ∧ Aside0 (kq ≤ kj14) ∧ Aside0 (w'.heap[gb230]? = some (.cells #[.bool a0_0, (.slice (some ad231) l0_1.length c0_1)] 24 (0, 0))) ∧ Aside0 (Below w.heap.size w w'))
                                case atStart => exact ⟨(x3_7 ++ (rdOf ByteArray.empty t232 ((rd_T46 l0_1 x4_1).f0))), (0), (by first | rfl | (simp; done) | (simp [*]; done)), (by first | rfl | (simp; done) | (simp [*]; done)), H', ⟨Nat.le_refl _⟩, ⟨by (with_reducible repeat (first | refine blk_drewN ?_ _ | refine blk_drew ?_ | refine blk_alloc ?_ _)); exact BK230.out⟩, ⟨by repeat (first | (with_reducible first | exact HB.out | apply below_alloc | apply pw_below_drewN | apply below_drew1 | refine below_set ?_ GE230.out) | exact HB.out)⟩⟩
                                case round =>
                                  clear H'
                                  try clear c1
                                  try clear c2
                                  try clear p2
                                  try clear q2
                                  try clear hx2
                                  try clear c3
                                  try clear c3b0
                                  try clear c6
                                  try clear c6b0
                                  try clear p6
                                  try clear c9
                                  try clear c10
                                  try clear c10b0
                                  try clear c10b1
                                  try clear c10b2
                                  try clear c11
                                  try clear c11b0
                                  try clear c12
                                  try clear c12b0
                                  try clear c12b1
                                  try clear c12b2
                                  try clear c13
                                  try clear c13b0
                                  try clear c14
                                  try clear c14b0
                                  try clear c17
                                  try clear c17b0
                                  try clear c18
                                  try clear c19
                                  try clear c19b0
                                  try clear c19b1
                                  try clear c19b2
                                  try clear c21
                                  try clear c21b0
                                  try clear c22
                                  try clear c22b0
                                  try clear c23
                                  try clear c23b0
                                  try clear c23b1
                                  try clear c23b2
                                  try clear p23
                                  try clear q23
                                  try clear hx23
                                  try clear hcz16_0
                                  try clear hcz16_1
                                  try clear hcz5_0
                                  try clear hcz5_1
                                  try clear hcz7_0
                                  try clear hcz7_1
                                  try clear hfz16_0
                                  try clear hfz16_1
                                  try clear hfz5_0
                                  try clear hfz5_1
                                  try clear hfz7_0
                                  try clear hfz7_1
                                  try clear hx231_0
                                  try clear hx231_1
                                  try clear hx235_0
                                  try clear p2
                                  try clear p231
                                  try clear p235
                                  try clear q2
                                  try clear q231
                                  try clear q235
                                  obtain ⟨x3_5, x6_5, rfl, rfl, HA, HK5, BK230, HB⟩ := hrel
                                  cases gk with
                                  | zero => exact absurd HA.out (by simp [marlinspikeref07_Format.l1])
                                  | succ k5 =>
                                    have H := HA.out
                                    clear HA
                                    simp only [marlinspikeref07_Format.l1] at H
                                    have HC26 := Aside0.mk H
                                    clear H
                                    go_upto_region 14 with (fail)
                                    go_cut [59] (fun v59 wc => ∃ (kq : Nat) (x59_25 : Bool), v59 = .bool x59_25 ∧ Aside0 (marlinspikeref07_Format.j5 kq x3_5 x4_1 ((rd_T46 l0_1 x4_1).f0) x6_5 x59_25 a0_0 l0_1 = some r) ∧ Aside0 (kq ≤ k5) ∧ Aside0 (wc.heap[gb230]? = some (.cells #[.bool a0_0, (.slice (some ad231) l0_1.length c0_1)] 24 (0, 0))) ∧ Aside0 (Below w.heap.size w wc))
                                    case first =>
                                      have H := HC26.out
                                      clear HC26
                                      by_cases c27 : 0 ≤ x4_1
                                      · rw [if_pos c27] at H
                                        have c27b0 : decide (0 ≤ x4_1) = true := decide_eq_true c27
                                        clear c27
                                        (first | rw [c27b0] | (simp only [i64_w, i32_w]; rw [c27b0]) | skip)
                                        by_cases c28 : x4_1 < (l0_1.length : Int)
                                        · rw [if_pos c28] at H
                                          have c28b0 : decide (x4_1 < (l0_1.length : Int)) = true := decide_eq_true c28
                                          clear c28
                                          by_cases c29 : x6_5 < (((rd_T46 l0_1 x4_1).f1).length : Int)
                                          · rw [if_pos c29] at H
                                            have c29b0 : decide (x6_5 < (((rd_T46 l0_1 x4_1).f1).length : Int)) = true := decide_eq_true c29
                                            clear c29
                                            have H' := Aside0.mk H
                                            clear H
                                            have hcz30_0 : wr.cell? ⟨gb230, 0, none⟩ = some (.bool a0_0) := (blk_cell BK230.out 0).trans rfl
                                            have hcz30_1 : wr.cell? ⟨gb230, 1, none⟩ = some (.slice (some ad231) l0_1.length c0_1) := (blk_cell BK230.out 1).trans rfl
                                            have hfz30_0 := blk_frozen BK230.out 0
                                            have hfz30_1 := blk_frozen BK230.out 1
                                            have p236 : 0 ≤ (x4_1 : Int) := of_decide_eq_true (by first | (with_reducible assumption) | assumption)
                                            have q236 : x4_1 < (l0_1.length : Int) := of_decide_eq_true (by first | (with_reducible assumption) | assumption)
                                            obtain ⟨ad236, A236_1, c236_1, e236, hx236_0, hx236_1, hl236_1, hi236_1⟩ := at_T46 HR0_1.out x4_1 p236 q236
                                            obtain rfl : ad231 = ad236 := (by injection e236)
                                            replace hx236_0 := (HB.out.cell (World.block_lt_of_cell? w _ hx236_0)).trans hx236_0
                                            replace hx236_1 := (HB.out.cell (World.block_lt_of_cell? w _ hx236_1)).trans hx236_1
                                            have HR236_1 := Aside0.mk hi236_1
                                            have HC236_1 := Aside0.mk hl236_1
                                            clear hi236_1 hl236_1
                                            replace p236 := eq_true p236
                                            replace q236 := eq_true q236
                                            go_wp2
                                            go_meet
                                            case rel => exact ⟨_, ((((rd_T46 l0_1 x4_1).f0) != 5)), (by first | rfl | (simp; done) | (simp [*]; done)), H', ⟨by have := HK1.out; have := HJ3.out; have := HJ7.out; have := HJ14.out; have := HK5.out; first | omega | exact Nat.le_refl _⟩, ⟨by (with_reducible repeat (first | refine blk_drewN ?_ _ | refine blk_drew ?_ | refine blk_alloc ?_ _)); exact BK230.out⟩, ⟨by repeat (first | (with_reducible first | exact HB.out | apply below_alloc | apply pw_below_drewN | apply below_drew1 | refine below_set ?_ GE230.out) | exact HB.out)⟩⟩
                                          · rw [if_neg c29] at H
                                            have c29b0 : decide (x6_5 < (((rd_T46 l0_1 x4_1).f1).length : Int)) = false := decide_eq_false c29
                                            clear c29
                                            have H' := Aside0.mk H
                                            clear H
                                            have hcz31_0 : wr.cell? ⟨gb230, 0, none⟩ = some (.bool a0_0) := (blk_cell BK230.out 0).trans rfl
                                            have hcz31_1 : wr.cell? ⟨gb230, 1, none⟩ = some (.slice (some ad231) l0_1.length c0_1) := (blk_cell BK230.out 1).trans rfl
                                            have hfz31_0 := blk_frozen BK230.out 0
                                            have hfz31_1 := blk_frozen BK230.out 1
                                            have p236 : 0 ≤ (x4_1 : Int) := of_decide_eq_true (by first | (with_reducible assumption) | assumption)
                                            have q236 : x4_1 < (l0_1.length : Int) := of_decide_eq_true (by first | (with_reducible assumption) | assumption)
                                            obtain ⟨ad236, A236_1, c236_1, e236, hx236_0, hx236_1, hl236_1, hi236_1⟩ := at_T46 HR0_1.out x4_1 p236 q236
                                            obtain rfl : ad231 = ad236 := (by injection e236)
                                            replace hx236_0 := (HB.out.cell (World.block_lt_of_cell? w _ hx236_0)).trans hx236_0
                                            replace hx236_1 := (HB.out.cell (World.block_lt_of_cell? w _ hx236_1)).trans hx236_1
                                            have HR236_1 := Aside0.mk hi236_1
                                            have HC236_1 := Aside0.mk hl236_1
                                            clear hi236_1 hl236_1
                                            replace p236 := eq_true p236
                                            replace q236 := eq_true q236
                                            go_wp2
                                            go_meet
                                            case rel => exact ⟨_, (false), (by first | rfl | (simp; done) | (simp [*]; done)), H', ⟨by have := HK1.out; have := HJ3.out; have := HJ7.out; have := HJ14.out; have := HK5.out; first | omega | exact Nat.le_refl _⟩, ⟨by (with_reducible repeat (first | refine blk_drewN ?_ _ | refine blk_drew ?_ | refine blk_alloc ?_ _)); exact BK230.out⟩, ⟨by repeat (first | (with_reducible first | exact HB.out | apply below_alloc | apply pw_below_drewN | apply below_drew1 | refine below_set ?_ GE230.out) | exact HB.out)⟩⟩
                                        · rw [if_neg c28] at H
                                          exact absurd H (by simp)
                                      · rw [if_neg c27] at H
                                        exact absurd H (by simp)
                                    case rest =>
                                      clear HC26
                                      try clear c1
                                      try clear c2
                                      try clear p2
                                      try clear q2
                                      try clear hx2
                                      try clear c3
                                      try clear c3b0
                                      try clear c6
                                      try clear c6b0
                                      try clear p6
                                      try clear c9
                                      try clear c10
                                      try clear c10b0
                                      try clear c10b1
                                      try clear c10b2
                                      try clear c11
                                      try clear c11b0
                                      try clear c12
                                      try clear c12b0
                                      try clear c12b1
                                      try clear c12b2
                                      try clear c13
                                      try clear c13b0
                                      try clear c14
                                      try clear c14b0
                                      try clear c17
                                      try clear c17b0
                                      try clear c18
                                      try clear c19
                                      try clear c19b0
                                      try clear c19b1
                                      try clear c19b2
                                      try clear c21
                                      try clear c21b0
                                      try clear c22
                                      try clear c22b0
                                      try clear c23
                                      try clear c23b0
                                      try clear c23b1
                                      try clear c23b2
                                      try clear p23
                                      try clear q23
                                      try clear hx23
                                      try clear c27
                                      try clear c27b0
                                      try clear c28
                                      try clear c28b0
                                      try clear c29
                                      try clear c29b0
                                      try clear hcz16_0
                                      try clear hcz16_1
                                      try clear hcz30_0
                                      try clear hcz30_1
                                      try clear hcz31_0
                                      try clear hcz31_1
                                      try clear hcz5_0
                                      try clear hcz5_1
                                      try clear hcz7_0
                                      try clear hcz7_1
                                      try clear hfz16_0
                                      try clear hfz16_1
                                      try clear hfz30_0
                                      try clear hfz30_1
                                      try clear hfz31_0
                                      try clear hfz31_1
                                      try clear hfz5_0
                                      try clear hfz5_1
                                      try clear hfz7_0
                                      try clear hfz7_1
                                      try clear hx231_0
                                      try clear hx231_1
                                      try clear hx235_0
                                      try clear hx236_0
                                      try clear hx236_1
                                      try clear p2
                                      try clear p23
                                      try clear p231
                                      try clear p235
                                      try clear p236
                                      try clear p6
                                      try clear q2
                                      try clear q23
                                      try clear q231
                                      try clear q235
                                      try clear q236
                                      obtain ⟨kq, x59_25, rfl, HA, HJ25, BK230, HB⟩ := hcut
                                      cases kq with
                                      | zero => exact absurd HA.out (by simp [marlinspikeref07_Format.j5])
                                      | succ kj25 =>
                                        have H := HA.out
                                        clear HA
                                        simp only [marlinspikeref07_Format.j5] at H
                                        by_cases c32 : x59_25 = true
                                        · subst c32
                                          have H1 : (if 0 ≤ x4_1 then (if x4_1 < (l0_1.length : Int) then (if 0 ≤ x6_5 then (if x6_5 < (((rd_T46 l0_1 x4_1).f1).length : Int) then (if x3_5.size + 1 ≤ 9223372036854775807 then (if (rd ((rd_T46 l0_1 x4_1).f1) x6_5) < 0 then (if (x3_5 ++ (⟨#[58]⟩ : ByteArray)).size + 1 ≤ 9223372036854775807 then ((marlinspikeref05_Digits.f kj25 0 0).bind fun t239 => (if ((x3_5 ++ (⟨#[58]⟩ : ByteArray)) ++ (⟨#[45]⟩ : ByteArray)).size + t239.size ≤ 9223372036854775807 then (marlinspikeref07_Format.l1 kj25 (((x3_5 ++ (⟨#[58]⟩ : ByteArray)) ++ (⟨#[45]⟩ : ByteArray)) ++ t239) x4_1 ((rd_T46 l0_1 x4_1).f0) (wrap64 (x6_5 + 1)) a0_0 l0_1) else (none))) else (none)) else ((marlinspikeref05_Digits.f kj25 (rd ((rd_T46 l0_1 x4_1).f1) x6_5) 0).bind fun t240 => (if (x3_5 ++ (⟨#[58]⟩ : ByteArray)).size + t240.size ≤ 9223372036854775807 then (marlinspikeref07_Format.l1 kj25 ((x3_5 ++ (⟨#[58]⟩ : ByteArray)) ++ t240) x4_1 ((rd_T46 l0_1 x4_1).f0) (wrap64 (x6_5 + 1)) a0_0 l0_1) else (none)))) else (none)) else (none)) else (none)) else (none)) else (none)) = some r := by rw [if_pos rfl] at H; exact H
                                          clear H
                                          have H := H1
                                          clear H1
                                          by_cases c33 : 0 ≤ x4_1
                                          · rw [if_pos c33] at H
                                            have c33b0 : decide (0 ≤ x4_1) = true := decide_eq_true c33
                                            clear c33
                                            by_cases c34 : x4_1 < (l0_1.length : Int)
                                            · rw [if_pos c34] at H
                                              have c34b0 : decide (x4_1 < (l0_1.length : Int)) = true := decide_eq_true c34
                                              clear c34
                                              by_cases c35 : 0 ≤ x6_5
                                              · rw [if_pos c35] at H
                                                have c35b0 : decide (0 ≤ x6_5) = true := decide_eq_true c35
                                                clear c35
                                                by_cases c36 : x6_5 < (((rd_T46 l0_1 x4_1).f1).length : Int)
                                                · rw [if_pos c36] at H
                                                  have c36b0 : decide (x6_5 < (((rd_T46 l0_1 x4_1).f1).length : Int)) = true := decide_eq_true c36
                                                  clear c36
                                                  by_cases c37 : x3_5.size + 1 ≤ 9223372036854775807
                                                  · rw [if_pos c37] at H
                                                    have c37b0 := eq_true c37
                                                    have c37b1 : decide (x3_5.size + 1 ≤ 9223372036854775807) = true := decide_eq_true c37
                                                    try have c37b2 : (9223372036854775807 < x3_5.size + 1) = False := eq_false (Nat.not_lt.2 c37)
                                                    by_cases c38 : (rd ((rd_T46 l0_1 x4_1).f1) x6_5) < 0
                                                    · rw [if_pos c38] at H
                                                      have c38b0 : decide ((rd ((rd_T46 l0_1 x4_1).f1) x6_5) < 0) = true := decide_eq_true c38
                                                      clear c38
                                                      by_cases c39 : (x3_5 ++ (⟨#[58]⟩ : ByteArray)).size + 1 ≤ 9223372036854775807
                                                      · rw [if_pos c39] at H
                                                        have c39b0 := eq_true c39
                                                        have c39b1 : decide ((x3_5 ++ (⟨#[58]⟩ : ByteArray)).size + 1 ≤ 9223372036854775807) = true := decide_eq_true c39
                                                        try have c39b3 : (9223372036854775807 < x3_5.size + 1 + 1) = False := eq_false (by have z := c39; rw [show (x3_5 ++ (⟨#[58]⟩ : ByteArray)).size + 1 = x3_5.size + 1 + 1 from by rw [ByteArray.size_append]; rfl] at z; omega)
                                                        try have c39b2 : (9223372036854775807 < (x3_5 ++ (⟨#[58]⟩ : ByteArray)).size + 1) = False := eq_false (Nat.not_lt.2 c39)
                                                        replace H := Option.bind_eq_some_iff.mp H
                                                        obtain ⟨t239, A400, H⟩ := H
                                                        replace H : (if ((x3_5 ++ (⟨#[58]⟩ : ByteArray)) ++ (⟨#[45]⟩ : ByteArray)).size + t239.size ≤ 9223372036854775807 then (marlinspikeref07_Format.l1 kj25 (((x3_5 ++ (⟨#[58]⟩ : ByteArray)) ++ (⟨#[45]⟩ : ByteArray)) ++ t239) x4_1 ((rd_T46 l0_1 x4_1).f0) (wrap64 (x6_5 + 1)) a0_0 l0_1) else (none)) = some r := H
                                                        have A40 := Aside0.mk A400
                                                        clear A400
                                                        by_cases c41 : ((x3_5 ++ (⟨#[58]⟩ : ByteArray)) ++ (⟨#[45]⟩ : ByteArray)).size + t239.size ≤ 9223372036854775807
                                                        · rw [if_pos c41] at H
                                                          have c41b0 := eq_true c41
                                                          have c41b1 : decide (((x3_5 ++ (⟨#[58]⟩ : ByteArray)) ++ (⟨#[45]⟩ : ByteArray)).size + t239.size ≤ 9223372036854775807) = true := decide_eq_true c41
                                                          try have c41b3 : (9223372036854775807 < x3_5.size + 1 + 1 + t239.size) = False := eq_false (by have z := c41; rw [show ((x3_5 ++ (⟨#[58]⟩ : ByteArray)) ++ (⟨#[45]⟩ : ByteArray)).size + t239.size = x3_5.size + 1 + 1 + t239.size from by rw [ByteArray.size_append]; rw [ByteArray.size_append]; rfl] at z; omega)
                                                          try have c41b2 : (9223372036854775807 < ((x3_5 ++ (⟨#[58]⟩ : ByteArray)) ++ (⟨#[45]⟩ : ByteArray)).size + t239.size) = False := eq_false (Nat.not_lt.2 c41)
                                                          have H' := Aside0.mk H
                                                          clear H
                                                          have hcz42_0 : wc.cell? ⟨gb230, 0, none⟩ = some (.bool a0_0) := (blk_cell BK230.out 0).trans rfl
                                                          have hcz42_1 : wc.cell? ⟨gb230, 1, none⟩ = some (.slice (some ad231) l0_1.length c0_1) := (blk_cell BK230.out 1).trans rfl
                                                          have hfz42_0 := blk_frozen BK230.out 0
                                                          have hfz42_1 := blk_frozen BK230.out 1
                                                          have p237 : 0 ≤ (x4_1 : Int) := of_decide_eq_true (by first | (with_reducible assumption) | assumption)
                                                          have q237 : x4_1 < (l0_1.length : Int) := of_decide_eq_true (by first | (with_reducible assumption) | assumption)
                                                          obtain ⟨ad237, A237_1, c237_1, e237, hx237_0, hx237_1, hl237_1, hi237_1⟩ := at_T46 HR0_1.out x4_1 p237 q237
                                                          obtain rfl : ad231 = ad237 := (by injection e237)
                                                          replace hx237_0 := (HB.out.cell (World.block_lt_of_cell? w _ hx237_0)).trans hx237_0
                                                          replace hx237_1 := (HB.out.cell (World.block_lt_of_cell? w _ hx237_1)).trans hx237_1
                                                          have HR237_1 := Aside0.mk hi237_1
                                                          have HC237_1 := Aside0.mk hl237_1
                                                          clear hi237_1 hl237_1
                                                          replace p237 := eq_true p237
                                                          replace q237 := eq_true q237
                                                          have p238 : 0 ≤ (x6_5 : Int) := of_decide_eq_true (by first | (with_reducible assumption) | assumption)
                                                          have q238 : x6_5 < (((rd_T46 l0_1 x4_1).f1).length : Int) := of_decide_eq_true (by first | (with_reducible assumption) | assumption)
                                                          obtain ⟨ad238, e238, hx238_0⟩ := Kd.at_int HR237_1.out x6_5 p238 q238
                                                          cases e238
                                                          replace hx238_0 := (HB.out.cell (World.block_lt_of_cell? w _ hx238_0)).trans hx238_0
                                                          replace p238 := eq_true p238
                                                          replace q238 := eq_true q238
                                                          go_wp2_with (first | ((with_reducible refine gate_callee (f := 38) rfl ?_); refine goesL_ (some 79) rfl rfl Tryd.func38 (by kernel_rfl) rfl #[.int .i64 0, .int .i64 0] rfl (by (try simp only [List.map_toArray, List.map_cons, List.map_nil]); first | done | rfl | (simp only [List.length_drop, List.length_take]; rfl)) ?_; (with_reducible refine (marlinspikeref05_Digits.calls kj25 0 0 t239 _ A40.out).mono ?_); rintro e w43 ⟨rfl, hb⟩; refine ⟨_, rfl, ?_⟩; have n0_ := Aside0.mk (blk_below (g := gb230) (o := .cells #[.bool a0_0, .slice (some ad231) l0_1.length c0_1] 24 (0, 0)) (by (with_reducible repeat (first | refine blk_drewN ?_ _ | refine blk_drew ?_ | refine blk_alloc ?_ _)); exact BK230.out) hb); have n1_ := Aside0.mk (below_step (by repeat (first | (with_reducible first | exact HB.out | apply below_alloc | apply pw_below_drewN | apply below_drew1 | refine below_set ?_ GE230.out) | exact HB.out)) hb); clear BK230; clear HB; have BK230 := n0_; have HB := n1_; clear n0_ n1_; (try clear hb); (try clear hb2); (try clear hk); (try clear hi)))
                                                          go_roundg kj25
                                                          case measure => have := HK1.out; have := HJ3.out; have := HJ7.out; have := HJ14.out; have := HK5.out; have := HJ25.out; omega
                                                          case rel => exact ⟨(((x3_5 ++ (⟨#[58]⟩ : ByteArray)) ++ (⟨#[45]⟩ : ByteArray)) ++ t239), (wrap64 (x6_5 + 1)), (by first | rfl | (simp; done) | (simp [*]; done)), (by first | rfl | (simp; done) | (simp [*]; done)), H', ⟨by have := HK1.out; have := HJ3.out; have := HJ7.out; have := HJ14.out; have := HK5.out; have := HJ25.out; omega⟩, ⟨by (with_reducible repeat (first | refine blk_drewN ?_ _ | refine blk_drew ?_ | refine blk_alloc ?_ _)); exact BK230.out⟩, ⟨by repeat (first | (with_reducible first | exact HB.out | apply below_alloc | apply pw_below_drewN | apply below_drew1 | refine below_set ?_ GE230.out) | exact HB.out)⟩⟩
                                                        · rw [if_neg c41] at H
                                                          exact absurd H (by simp)
                                                      · rw [if_neg c39] at H
                                                        exact absurd H (by simp)
                                                    · rw [if_neg c38] at H
                                                      have c38b0 : decide ((rd ((rd_T46 l0_1 x4_1).f1) x6_5) < 0) = false := decide_eq_false c38
                                                      clear c38
                                                      replace H := Option.bind_eq_some_iff.mp H
                                                      obtain ⟨t240, A440, H⟩ := H
                                                      replace H : (if (x3_5 ++ (⟨#[58]⟩ : ByteArray)).size + t240.size ≤ 9223372036854775807 then (marlinspikeref07_Format.l1 kj25 ((x3_5 ++ (⟨#[58]⟩ : ByteArray)) ++ t240) x4_1 ((rd_T46 l0_1 x4_1).f0) (wrap64 (x6_5 + 1)) a0_0 l0_1) else (none)) = some r := H
                                                      have A44 := Aside0.mk A440
                                                      clear A440
                                                      by_cases c45 : (x3_5 ++ (⟨#[58]⟩ : ByteArray)).size + t240.size ≤ 9223372036854775807
                                                      · rw [if_pos c45] at H
                                                        have c45b0 := eq_true c45
                                                        have c45b1 : decide ((x3_5 ++ (⟨#[58]⟩ : ByteArray)).size + t240.size ≤ 9223372036854775807) = true := decide_eq_true c45
                                                        try have c45b3 : (9223372036854775807 < x3_5.size + 1 + t240.size) = False := eq_false (by have z := c45; rw [show (x3_5 ++ (⟨#[58]⟩ : ByteArray)).size + t240.size = x3_5.size + 1 + t240.size from by rw [ByteArray.size_append]; rfl] at z; omega)
                                                        try have c45b2 : (9223372036854775807 < (x3_5 ++ (⟨#[58]⟩ : ByteArray)).size + t240.size) = False := eq_false (Nat.not_lt.2 c45)
                                                        have H' := Aside0.mk H
                                                        clear H
                                                        have hcz46_0 : wc.cell? ⟨gb230, 0, none⟩ = some (.bool a0_0) := (blk_cell BK230.out 0).trans rfl
                                                        have hcz46_1 : wc.cell? ⟨gb230, 1, none⟩ = some (.slice (some ad231) l0_1.length c0_1) := (blk_cell BK230.out 1).trans rfl
                                                        have hfz46_0 := blk_frozen BK230.out 0
                                                        have hfz46_1 := blk_frozen BK230.out 1
                                                        have p237 : 0 ≤ (x4_1 : Int) := of_decide_eq_true (by first | (with_reducible assumption) | assumption)
                                                        have q237 : x4_1 < (l0_1.length : Int) := of_decide_eq_true (by first | (with_reducible assumption) | assumption)
                                                        obtain ⟨ad237, A237_1, c237_1, e237, hx237_0, hx237_1, hl237_1, hi237_1⟩ := at_T46 HR0_1.out x4_1 p237 q237
                                                        obtain rfl : ad231 = ad237 := (by injection e237)
                                                        replace hx237_0 := (HB.out.cell (World.block_lt_of_cell? w _ hx237_0)).trans hx237_0
                                                        replace hx237_1 := (HB.out.cell (World.block_lt_of_cell? w _ hx237_1)).trans hx237_1
                                                        have HR237_1 := Aside0.mk hi237_1
                                                        have HC237_1 := Aside0.mk hl237_1
                                                        clear hi237_1 hl237_1
                                                        replace p237 := eq_true p237
                                                        replace q237 := eq_true q237
                                                        have p238 : 0 ≤ (x6_5 : Int) := of_decide_eq_true (by first | (with_reducible assumption) | assumption)
                                                        have q238 : x6_5 < (((rd_T46 l0_1 x4_1).f1).length : Int) := of_decide_eq_true (by first | (with_reducible assumption) | assumption)
                                                        obtain ⟨ad238, e238, hx238_0⟩ := Kd.at_int HR237_1.out x6_5 p238 q238
                                                        cases e238
                                                        replace hx238_0 := (HB.out.cell (World.block_lt_of_cell? w _ hx238_0)).trans hx238_0
                                                        replace p238 := eq_true p238
                                                        replace q238 := eq_true q238
                                                        go_wp2_with (first | ((with_reducible refine gate_callee (f := 38) rfl ?_); refine goesL_ (some 79) rfl rfl Tryd.func38 (by kernel_rfl) rfl #[.int .i64 (rd ((rd_T46 l0_1 x4_1).f1) x6_5), .int .i64 0] rfl (by (try simp only [List.map_toArray, List.map_cons, List.map_nil]); first | done | rfl | (simp only [List.length_drop, List.length_take]; rfl)) ?_; (with_reducible refine (marlinspikeref05_Digits.calls kj25 (rd ((rd_T46 l0_1 x4_1).f1) x6_5) 0 t240 _ A44.out).mono ?_); rintro e w47 ⟨rfl, hb⟩; refine ⟨_, rfl, ?_⟩; have n0_ := Aside0.mk (blk_below (g := gb230) (o := .cells #[.bool a0_0, .slice (some ad231) l0_1.length c0_1] 24 (0, 0)) (by (with_reducible repeat (first | refine blk_drewN ?_ _ | refine blk_drew ?_ | refine blk_alloc ?_ _)); exact BK230.out) hb); have n1_ := Aside0.mk (below_step (by repeat (first | (with_reducible first | exact HB.out | apply below_alloc | apply pw_below_drewN | apply below_drew1 | refine below_set ?_ GE230.out) | exact HB.out)) hb); clear BK230; clear HB; have BK230 := n0_; have HB := n1_; clear n0_ n1_; (try clear hb); (try clear hb2); (try clear hk); (try clear hi)))
                                                        go_roundg kj25
                                                        case measure => have := HK1.out; have := HJ3.out; have := HJ7.out; have := HJ14.out; have := HK5.out; have := HJ25.out; omega
                                                        case rel => exact ⟨((x3_5 ++ (⟨#[58]⟩ : ByteArray)) ++ t240), (wrap64 (x6_5 + 1)), (by first | rfl | (simp; done) | (simp [*]; done)), (by first | rfl | (simp; done) | (simp [*]; done)), H', ⟨by have := HK1.out; have := HJ3.out; have := HJ7.out; have := HJ14.out; have := HK5.out; have := HJ25.out; omega⟩, ⟨by (with_reducible repeat (first | refine blk_drewN ?_ _ | refine blk_drew ?_ | refine blk_alloc ?_ _)); exact BK230.out⟩, ⟨by repeat (first | (with_reducible first | exact HB.out | apply below_alloc | apply pw_below_drewN | apply below_drew1 | refine below_set ?_ GE230.out) | exact HB.out)⟩⟩
                                                      · rw [if_neg c45] at H
                                                        exact absurd H (by simp)
                                                  · rw [if_neg c37] at H
                                                    exact absurd H (by simp)
                                                · rw [if_neg c36] at H
                                                  exact absurd H (by simp)
                                              · rw [if_neg c35] at H
                                                exact absurd H (by simp)
                                            · rw [if_neg c34] at H
                                              exact absurd H (by simp)
                                          · rw [if_neg c33] at H
                                            exact absurd H (by simp)
                                        · replace c32 := Bool.eq_false_iff.mpr c32
                                          subst c32
                                          have H1 : (marlinspikeref07_Format.l0 kj25 x3_5 (wrap64 (x4_1 + 1)) a0_0 l0_1) = some r := by rw [if_neg (show ¬ (false = true) by decide)] at H; exact H
                                          clear H
                                          have H := H1
                                          clear H1
                                          have H' := Aside0.mk H
                                          clear H
                                          go_wp2
                                          go_roundg kj25
                                          case measure => have := HK1.out; have := HJ3.out; have := HJ7.out; have := HJ14.out; have := HK5.out; have := HJ25.out; omega
                                          case rel => exact ⟨(x3_5), (wrap64 (x4_1 + 1)), (by first | rfl | (simp; done) | (simp [*]; done)), (by first | rfl | (simp; done) | (simp [*]; done)), H', ⟨by have := HK1.out; have := HJ3.out; have := HJ7.out; have := HJ14.out; have := HK5.out; have := HJ25.out; omega⟩, ⟨by (with_reducible repeat (first | refine blk_drewN ?_ _ | refine blk_drew ?_ | refine blk_alloc ?_ _)); exact BK230.out⟩, ⟨by repeat (first | (with_reducible first | exact HB.out | apply below_alloc | apply pw_below_drewN | apply below_drew1 | refine below_set ?_ GE230.out) | exact HB.out)⟩⟩
                              · rw [if_neg c23] at H
                                exact absurd H (by simp)
                            · rw [if_neg c22] at H
                              exact absurd H (by simp)
                          · rw [if_neg c21] at H
                            exact absurd H (by simp)
                  · rw [if_neg c14] at H
                    exact absurd H (by simp)
                · rw [if_neg c13] at H
                  exact absurd H (by simp)
      · rw [if_neg c3] at H
        have c3b0 : decide (x4_1 < (l0_1.length : Int)) = false := decide_eq_false c3
        clear c3
        obtain rfl := Option.some.inj H
        have hcz48_0 : wr.cell? ⟨gb230, 0, none⟩ = some (.bool a0_0) := (blk_cell BK230.out 0).trans rfl
        have hcz48_1 : wr.cell? ⟨gb230, 1, none⟩ = some (.slice A0_1 l0_1.length c0_1) := (blk_cell BK230.out 1).trans rfl
        have hfz48_0 := blk_frozen BK230.out 0
        have hfz48_1 := blk_frozen BK230.out 1
        go_wp2
        go_ret
        exact ⟨by first | rfl | (simp [errW_none, errW_some] <;> rfl) | (simp [*, errW_none, errW_some] <;> rfl), by repeat (first | (with_reducible first | exact HB.out | apply below_alloc | apply pw_below_drewN | apply below_drew1 | refine below_set ?_ GE230.out) | exact HB.out)⟩
end Go.Proofs.YtknbnnpggdegmaaDoor.PD
end
section
namespace Go.Proofs.YtknbnnpggdegmaaDoor.Tx
open Go.RowKit Go.Proofs.YtknbnnpggdegmaaDoor.Lib Go.Proofs.YtknbnnpggdegmaaDoorW.PrintWords Go.Proofs.YtknbnnpggdegmaaDoorW.PrintLast Go.Proofs.YtknbnnpggdegmaaDoorW.PrintMore Go.Proofs.YtknbnnpggdegmaaDoor.PD
set_option linter.unusedVariables false
set_option linter.unusedSimpArgs false
theorem r_l1 (any : Bool) (l : List S46) (i : Nat) (hi : i < l.length) (hl : l.length ≤ 60) (hj1 : l[i].f1.length ≤ 300) (hj2 : ∀ n ∈ l[i].f1, n < 9223372036854775808) (kd : Int) (hk5 : kd ≠ 5) :
    ∀ (d j : Nat) (u : List UInt8) (k : Nat), j + d = l[i].f1.length → u.length + d * 21 ≤ 1000000 → 40 ≤ k →
    marlinspikeref07_Format.l1 (k + 2 * d + 2) (mkB u) i kd j any l = marlinspikeref07_Format.l0 k (mkB (u ++ (l[i].f1.drop j).flatMap jobT)) ((i + 1 : Nat) : Int) any l := by
  intro d
  induction d with
  | zero =>
    intro j u k hd hu hk
    simp only [marlinspikeref07_Format.l1, Nat.mul_zero, Nat.add_zero]
    rw [At.rd46 l i hi, if_pos (by omega), if_pos (by omega), if_neg (by omega)]
    simp only [marlinspikeref07_Format.j5]
    rw [if_neg (by decide), At.wrapN (by omega), List.drop_eq_nil_of_le (by omega)]
    simp
  | succ d ih =>
    intro j u k hd hu hk
    have hlt : j < l[i].f1.length := by omega
    have hn := hj2 l[i].f1[j] (List.getElem_mem _)
    have hdl := jobT_len _ hn
    have hnext := ih (j + 1) (u ++ jobT l[i].f1[j]) k (by omega) (by simp only [List.length_append]; omega) hk
    obtain ⟨K, hK⟩ : ∃ K, k + 2 * d + 2 = K := ⟨_, rfl⟩
    rw [hK, List.append_assoc, show jobT l[i].f1[j] ++ (l[i].f1.drop (j + 1)).flatMap jobT = (l[i].f1.drop j).flatMap jobT from by rw [List.drop_eq_getElem_cons hlt, List.flatMap_cons]] at hnext
    rw [show k + 2 * (d + 1) + 2 = K + 1 + 1 by omega]
    simp only [marlinspikeref07_Format.l1]
    rw [At.rd46 l i hi, if_pos (by omega), if_pos (by omega), if_pos (by omega)]
    simp only [marlinspikeref07_Format.j5]
    have hrd : rd l[i].f1 (j : Int) = l[i].f1[j] := by simp [rd, hlt]
    rw [At.rd46 l i hi, if_pos (by simpa using hk5), if_pos (by omega), if_pos (by omega), if_pos (by omega), if_pos (by omega), hrd, mkB_size, if_pos (by omega), show (⟨#[58]⟩ : ByteArray) = mkB [58] from rfl, mkB_append, mkB_size]
    by_cases hneg : l[i].f1[j] < 0
    · have e : jobT l[i].f1[j] = [58, 45, 48] := by unfold jobT; rw [if_pos hneg]
      rw [e] at hnext
      have hd0 := digits_f 0 (by omega) K (by omega)
      rw [show ((0 : Nat) : Int) = 0 from rfl] at hd0
      rw [if_pos hneg, if_pos (by simp; omega), hd0]
      simp only [Option.bind_some]
      rw [show (⟨#[45]⟩ : ByteArray) = mkB [45] from rfl, mkB_append, mkB_append, mkB_size, mkB_size, if_pos (by simp [Go.Lib.decDigits_one]; omega), At.wrapN (by omega), Go.Lib.decDigits_one (by omega)]
      rw [show u ++ [58] ++ [45] ++ [UInt8.ofNat (48 + 0)] = u ++ [58, 45, 48] by simp]
      exact hnext
    · have e : jobT l[i].f1[j] = 58 :: Go.Lib.decDigits l[i].f1[j].toNat := by unfold jobT; rw [if_neg hneg]
      rw [e] at hnext hdl
      simp only [List.length_cons] at hdl
      have hd0 := digits_f l[i].f1[j].toNat (by omega) K (by omega)
      rw [show ((l[i].f1[j].toNat : Nat) : Int) = l[i].f1[j] by omega] at hd0
      rw [if_neg hneg, hd0]
      simp only [Option.bind_some]
      rw [mkB_append, mkB_size, if_pos (by simp only [List.length_append, List.length_cons, List.length_nil]; omega), At.wrapN (by omega), show u ++ [58] ++ Go.Lib.decDigits l[i].f1[j].toNat = u ++ (58 :: Go.Lib.decDigits l[i].f1[j].toNat) by simp]
      exact hnext
theorem r_l1_five (any : Bool) (l : List S46) (i : Nat) (hi : i < l.length) (hl : l.length ≤ 60) (u : List UInt8) (k : Nat) :
    marlinspikeref07_Format.l1 (k + 2) (mkB u) i 5 0 any l = marlinspikeref07_Format.l0 k (mkB u) ((i + 1 : Nat) : Int) any l := by
  simp only [marlinspikeref07_Format.l1]
  rw [At.rd46 l i hi, if_pos (by omega), if_pos (by omega)]
  split
  · simp only [marlinspikeref07_Format.j5]
    rw [if_neg (by decide), At.wrapN (by omega)]
  · simp only [marlinspikeref07_Format.j5]
    rw [if_neg (by decide), At.wrapN (by omega)]
theorem words_rd (kd : Nat) (h1 : 1 ≤ kd) (h5 : kd ≤ 5) : ∃ ws, marlinspikeref07_words.f = some ws ∧ ws.length = 6 ∧ rdOf ByteArray.empty ws (kd : Int) = mkB (wordL kd) := by
  refine ⟨_, rfl, rfl, ?_⟩
  have : kd = 1 ∨ kd = 2 ∨ kd = 3 ∨ kd = 4 ∨ kd = 5 := by omega
  rcases this with rfl | rfl | rfl | rfl | rfl <;> rfl
def fromT (any : Bool) (l : List S46) : Nat → List UInt8
  | 0 => []
  | d + 1 => (if l.length - (d + 1) = 0 then [] else [sep any]) ++ itT (At.cv (l.getD (l.length - (d + 1)) ⟨0, []⟩)) ++ fromT any l d
theorem r_l0 (any : Bool) (l : List S46) (hl : l.length ≤ 60) (hj : ∀ x ∈ l, x.f1.length ≤ 300 ∧ ∀ n ∈ x.f1, n < 9223372036854775808) :
    ∀ (d i : Nat) (u : List UInt8) (k : Nat), i + d = l.length → u.length + d * 6400 ≤ 600000 → 700 * d + 50 ≤ k →
    marlinspikeref07_Format.l0 k (mkB u) i any l = some (mkB (u ++ fromT any l d)) := by
  intro d
  induction d with
  | zero =>
    intro i u k hd hu hk
    obtain ⟨k, rfl⟩ : ∃ m, k = m + 1 := ⟨k - 1, by omega⟩
    simp only [marlinspikeref07_Format.l0]
    rw [if_neg (by omega)]
    simp [fromT]
  | succ d ih =>
    intro i u k hd hu hk
    have hlt : i < l.length := by omega
    obtain ⟨hj1, hj2⟩ := hj l[i] (List.getElem_mem _)
    obtain ⟨k, rfl⟩ : ∃ m, k = m + 1 + 1 + 1 + 1 := ⟨k - 4, by omega⟩
    obtain ⟨s, hs⟩ : ∃ s : List UInt8, s = if i = 0 then [] else [sep any] := ⟨_, rfl⟩
    have hsl : s.length ≤ 1 := by rw [hs]; split <;> simp
    have hfin : ∀ t, t = itT (At.cv l[i]) → u ++ s ++ t ++ fromT any l d = u ++ fromT any l (d + 1) := by
      intro t ht
      subst ht
      have e : fromT any l (d + 1) = (if l.length - (d + 1) = 0 then [] else [sep any]) ++ itT (At.cv (l.getD (l.length - (d + 1)) ⟨0, []⟩)) ++ fromT any l d := rfl
      rw [e, show l.length - (d + 1) = i by omega, ← hs, List.getD_eq_getElem?_getD, List.getElem?_eq_getElem hlt]
      simp [List.append_assoc]
    have hrest : marlinspikeref07_Format.j2 (k + 2) (mkB (u ++ s)) i any l = some (mkB (u ++ fromT any l (d + 1))) := by
      simp only [marlinspikeref07_Format.j2]
      rw [At.rd46 l i hlt, if_pos (by omega), if_pos (by omega)]
      by_cases hbad : l[i].f0 < 1 ∨ 5 < l[i].f0
      · have ht : itT (At.cv l[i]) = [63] := by
          show kindW l[i].f0 ++ (if 1 ≤ l[i].f0 ∧ l[i].f0 < 5 then l[i].f1.flatMap jobT else []) = _
          rw [show kindW l[i].f0 = [63] from by unfold kindW; rw [if_neg (by omega)], if_neg (by omega)]
          rfl
        have hj3 : marlinspikeref07_Format.j3 (k + 1) (mkB (u ++ s)) i l[i].f0 true any l = some (mkB (u ++ fromT any l (d + 1))) := by
          simp only [marlinspikeref07_Format.j3]
          rw [if_pos trivial, mkB_size, if_pos (by simp only [List.length_append]; omega), show (⟨#[63]⟩ : ByteArray) = mkB [63] from rfl, mkB_append, At.wrapN (by omega), ih (i + 1) _ k (by omega) (by simp only [List.length_append, List.length_cons, List.length_nil]; omega) (by omega), hfin _ ht.symm]
        by_cases h1 : l[i].f0 < 1
        · rw [if_pos h1]
          exact hj3
        · rw [if_neg h1, show (decide (l[i].f0 > 5)) = true from decide_eq_true (by omega)]
          exact hj3
      · obtain ⟨kd, hkd⟩ : ∃ kd : Nat, l[i].f0 = (kd : Int) := ⟨l[i].f0.toNat, by omega⟩
        rw [if_neg (by omega), show (decide (l[i].f0 > 5)) = false from decide_eq_false (by omega)]
        simp only [marlinspikeref07_Format.j3]
        obtain ⟨ws, hw1, hw2, hw3⟩ := words_rd kd (by omega) (by omega)
        rw [if_neg (by decide), hw1]
        simp only [Option.bind_some]
        have hwl := kindW_len l[i].f0
        have hkw : kindW l[i].f0 = wordL kd := by
          unfold kindW
          rw [if_pos (by omega), hkd, Int.toNat_natCast]
        rw [hkw] at hwl
        rw [if_pos (by omega), if_pos (by rw [hw2]; omega), hkd, hw3, mkB_size, mkB_size, if_pos (by simp only [List.length_append]; omega), mkB_append]
        by_cases h5 : kd = 5
        · subst h5
          have ht : itT (At.cv l[i]) = wordL 5 := by
            show kindW l[i].f0 ++ _ = _
            rw [hkw, if_neg (by show ¬(1 ≤ l[i].f0 ∧ l[i].f0 < 5); omega), List.append_nil]
          rw [show k = (k - 2) + 2 by omega, show ((5 : Nat) : Int) = 5 from rfl, r_l1_five any l i hlt hl, ih (i + 1) _ (k - 2) (by omega) (by simp only [List.length_append]; omega) (by omega), hfin _ ht.symm]
        · have ht : itT (At.cv l[i]) = wordL kd ++ l[i].f1.flatMap jobT := by
            show kindW l[i].f0 ++ _ = _
            rw [hkw, if_pos (by show 1 ≤ l[i].f0 ∧ l[i].f0 < 5; omega)]
            rfl
          have hfl : (l[i].f1.flatMap jobT).length ≤ 300 * 21 := by
            have : ∀ (js : List Int), (∀ n ∈ js, n < 9223372036854775808) → (js.flatMap jobT).length ≤ js.length * 21 := by
              intro js
              induction js with
              | nil => intro _; simp
              | cons a js ihj =>
                intro hh
                rw [List.flatMap_cons, List.length_append, List.length_cons]
                have := ihj (fun n hn => hh n (List.mem_cons_of_mem _ hn))
                have := jobT_len a (hh a (by simp))
                omega
            have := this l[i].f1 hj2
            omega
          have hr := r_l1 any l i hlt hl hj1 hj2 (kd : Int) (by omega) l[i].f1.length 0 (u ++ s ++ wordL kd) (k - 2 * l[i].f1.length - 2) (by omega) (by simp only [List.length_append]; omega) (by omega)
          rw [show k - 2 * l[i].f1.length - 2 + 2 * l[i].f1.length + 2 = k by omega, show ((0 : Nat) : Int) = 0 from rfl, List.drop_zero] at hr
          rw [hr, ih (i + 1) _ _ (by omega) (by simp only [List.length_append]; omega) (by omega), List.append_assoc (u ++ s), hfin _ ht.symm]
    simp only [marlinspikeref07_Format.l0]
    rw [if_pos (by omega)]
    by_cases h0 : i = 0
    · subst h0
      rw [if_neg (by omega)]
      simp only [marlinspikeref07_Format.j1]
      rw [if_neg (by decide), if_neg (by omega)]
      rw [hs, if_pos rfl, List.append_nil] at hrest
      exact hrest
    · rw [if_pos (by omega)]
      simp only [marlinspikeref07_Format.j1]
      rw [hs, if_neg h0] at hrest
      cases any
      · rw [if_neg (by decide), if_pos (by omega), mkB_size, if_pos (by omega), show (⟨#[44]⟩ : ByteArray) = mkB [sep false] from rfl, mkB_append]
        exact hrest
      · rw [if_pos rfl, mkB_size, if_pos (by omega), show (⟨#[63]⟩ : ByteArray) = mkB [sep true] from rfl, mkB_append]
        exact hrest
end Go.Proofs.YtknbnnpggdegmaaDoor.Tx
end
section
namespace Go.Proofs.YtknbnnpggdegmaaDoor.Tx
open Go.RowKit Go.Proofs.YtknbnnpggdegmaaDoor.Lib Go.Proofs.YtknbnnpggdegmaaDoorW.PrintWords Go.Proofs.YtknbnnpggdegmaaDoorW.PrintLast Go.Proofs.YtknbnnpggdegmaaDoorW.PrintMore Go.Proofs.YtknbnnpggdegmaaDoor.PD
set_option linter.unusedVariables false
set_option linter.unusedSimpArgs false
theorem join_cons (c : UInt8) : ∀ (t : List (List UInt8)) (a : List UInt8), Go.Lib.join (a :: t) [c] = a ++ t.flatMap (fun x => c :: x)
  | [], a => by unfold Go.Lib.join; simp [List.intercalate]
  | b :: t, a => by
    have ih := join_cons c t b
    unfold Go.Lib.join at ih ⊢
    rw [List.flatMap_cons, List.cons_append, ← ih]
    simp [List.intercalate]
theorem fromT_tail (any : Bool) (l : List S46) : ∀ (d : Nat), d < l.length → fromT any l d = ((l.drop (l.length - d)).map fun x => itT (At.cv x)).flatMap (fun t => sep any :: t)
  | 0, h => by simp [fromT]
  | d + 1, h => by
    have e : fromT any l (d + 1) = (if l.length - (d + 1) = 0 then [] else [sep any]) ++ itT (At.cv (l.getD (l.length - (d + 1)) ⟨0, []⟩)) ++ fromT any l d := rfl
    have hlt : l.length - (d + 1) < l.length := by omega
    rw [e, if_neg (by omega), fromT_tail any l d (by omega), List.drop_eq_getElem_cons hlt, List.map_cons, List.flatMap_cons, List.getD_eq_getElem?_getD, List.getElem?_eq_getElem hlt, show l.length - (d + 1) + 1 = l.length - d by omega]
    simp
theorem fromT_join (any : Bool) (l : List S46) : Go.Lib.join (l.map fun x => itT (At.cv x)) [sep any] = fromT any l l.length := by
  cases l with
  | nil => rfl
  | cons x t =>
    rw [List.map_cons, join_cons]
    have e : fromT any (x :: t) (t.length + 1) = (if (x :: t).length - (t.length + 1) = 0 then [] else [sep any]) ++ itT (At.cv ((x :: t).getD ((x :: t).length - (t.length + 1)) ⟨0, []⟩)) ++ fromT any (x :: t) t.length := rfl
    rw [show (x :: t).length = t.length + 1 from rfl, e, fromT_tail any (x :: t) t.length (by simp)]
    simp
theorem formats (any : Bool) (l : List S46) (hl : l.length ≤ 60) (hj : ∀ x ∈ l, x.f1.length ≤ 300 ∧ ∀ n ∈ x.f1, n < 9223372036854775808) :
    ∃ k t, dep_Format.f k any (l.map At.cv) = some t ∧ marlinspikeref07_Format.f k any l = some t := by
  refine ⟨700 * 60 + 50, mkB (fromT any l l.length), ?_, ?_⟩
  · unfold dep_Format.f
    have := any_l0 (l.map At.cv) (by simpa using hl) (fun x hx => by obtain ⟨z, hz, rfl⟩ := List.mem_map.1 hx; exact hj z hz) any (l.map At.cv).length 0 [] (700 * 60 + 50) (by omega) rfl (by simp; omega)
    rw [show ((0 : Nat) : Int) = 0 from rfl] at this
    rw [this, List.drop_zero, List.nil_append, List.map_map]
    unfold strings_Join.f
    have e : ((l.map ((fun x => mkB (itT x)) ∘ At.cv)).map (·.data.toList)) = l.map fun x => itT (At.cv x) := by
      rw [List.map_map]
      congr 1
    rw [e, show (mkB [sep any]).data.toList = [sep any] from rfl, fromT_join]
    have hr := r_l0 any l hl hj l.length 0 [] (700 * 60 + 50) (by omega) (by simp; omega) (by omega)
    rw [if_pos]
    · rfl
    · refine ⟨by simp; omega, ?_⟩
      have : ∀ d, d ≤ l.length → (fromT any l d).length ≤ d * 6400 := by
        intro d
        induction d with
        | zero => intro _; simp [fromT]
        | succ d ih =>
          intro hd
          have e : fromT any l (d + 1) = (if l.length - (d + 1) = 0 then [] else [sep any]) ++ itT (At.cv (l.getD (l.length - (d + 1)) ⟨0, []⟩)) ++ fromT any l d := rfl
          have hlt : l.length - (d + 1) < l.length := by omega
          rw [e, List.getD_eq_getElem?_getD, List.getElem?_eq_getElem hlt]
          simp only [Option.getD_some, List.length_append]
          have h1 : (if l.length - (d + 1) = 0 then ([] : List UInt8) else [sep any]).length ≤ 1 := by split <;> simp
          have h2 : (itT (At.cv l[l.length - (d + 1)])).length ≤ 6350 := by
            obtain ⟨hj1, hj2⟩ := hj _ (List.getElem_mem hlt)
            unfold itT
            have := kindW_len (At.cv l[l.length - (d + 1)]).f0
            rw [List.length_append]
            split
            · have hh : ∀ (js : List Int), (∀ n ∈ js, n < 9223372036854775808) → (js.flatMap jobT).length ≤ js.length * 21 := by
                intro js
                induction js with
                | nil => intro _; simp
                | cons a js ihj =>
                  intro hh
                  rw [List.flatMap_cons, List.length_append, List.length_cons]
                  have := ihj (fun n hn => hh n (List.mem_cons_of_mem _ hn))
                  have := jobT_len a (hh a (by simp))
                  omega
              have := hh (At.cv l[l.length - (d + 1)]).f1 hj2
              have : (At.cv l[l.length - (d + 1)]).f1.length ≤ 300 := hj1
              omega
            · simp only [List.length_nil]
              omega
          have := ih (by omega)
          omega
      have := this l.length (Nat.le_refl _)
      omega
  · unfold marlinspikeref07_Format.f
    have hr := r_l0 any l hl hj l.length 0 [] (700 * 60 + 50) (by omega) (by simp; omega) (by omega)
    rw [show ((0 : Nat) : Int) = 0 from rfl, show mkB [] = (⟨#[]⟩ : ByteArray) from rfl] at hr
    rw [hr, List.nil_append]
end Go.Proofs.YtknbnnpggdegmaaDoor.Tx
end
section
namespace Go.Proofs.YtknbnnpggdegmaaDoor.PD
open Go.RowKit Go.Sort Go.Proofs.YtknbnnpggdegmaaDoor.Lib Go.Proofs.YtknbnnpggdegmaaDoorW.PrintWords Go.Proofs.YtknbnnpggdegmaaDoorW.PrintLast Go.Proofs.YtknbnnpggdegmaaDoorW.PrintMore
set_option linter.unusedVariables false
set_option linter.unusedSimpArgs false
def sortL (zs : List Int) : List Int := zs.mergeSort fun x y => decide (x ≤ y)
def sorted (zs : List Int) : List Int := Go.Lib.compact (sortL zs)
theorem own_ne_nil {w : World} {base : Nat} {u : Value} {zs : List Int} (h : w.ownsRow base 3 1 u zs.length (zs.map (Value.int .i64))) (hz : zs ≠ []) : u ≠ .slice none 0 0 := by
  rintro rfl
  rcases h.2 with ⟨_, h0⟩ | ⟨g, cap, cur, e, _⟩
  · exact hz (List.length_eq_zero_iff.1 h0)
  · cases e
theorem own_grow {w : World} {base : Nat} {u : Value} {n : Nat} {xs : List Value} (h : w.ownsRow base 3 1 u n xs) (os : Array Obj) : (grow w os).ownsRow base 3 1 u n xs := by
  rcases h with ⟨h1, h2⟩
  refine ⟨h1, ?_⟩
  rcases h2 with h2 | ⟨g, cap, cur, e, hb, hg, hr⟩
  · exact .inl h2
  · refine .inr ⟨g, cap, cur, e, hb, ?_, hr⟩
    have hlt : g < w.heap.size := (Array.getElem?_eq_some_iff.1 hg).1
    show (w.heap ++ os)[g]? = _
    rw [Array.getElem?_append, if_pos hlt, hg]
theorem below_grow' {B : Nat} {w0 w : World} (h : Below B w0 w) (hB : B ≤ w.heap.size) (os : Array Obj) : Below B w0 (grow w os) :=
  ⟨h.os, h.tape, h.output, by show w0.heap.size ≤ (w.heap ++ os).size; rw [Array.size_append]; have := h.size; omega, fun k hk => by
    rw [← h.block k hk]
    show (w.heap ++ os)[k]? = _
    rw [Array.getElem?_append, if_pos (by omega)]⟩
theorem sort_own {w0 w : World} {ok : Nat → Prop} {u : Value} {zs : List Int} (HO : Kd.R (Kd.int .i64) 3 w w0.heap.size ok u zs) (HB : Below w0.heap.size w0 w) (hz : zs.length < 4611686018427387904) :
    Calls Tryd.prog 39 #[u] w fun e w' => e = .returned (.tuple #[]) ∧ Kd.R (Kd.int .i64) 3 w' w0.heap.size (fun _ => True) u (sortL zs) ∧ Below w0.heap.size w0 w' := by
  have ho : w.ownsRow w0.heap.size 3 1 u zs.length (zs.map (Value.int .i64)) := Kd.own_of_R HO
  by_cases hn : zs = []
  · subst hn
    obtain ⟨A, c, rfl⟩ := Kd.R_slice HO
    refine (Tryd.slices_Sort_int_none A c w).mono ?_
    rintro e w' ⟨rfl, rfl⟩
    exact ⟨rfl, Kd.R_mono (by simpa [sortL] using HO) (fun _ _ => trivial), HB⟩
  · obtain ⟨g, cap, rfl, hb, hlt, hnc, hcm, _, hH⟩ := Go.Lib.holds_of_ownsRow ho (own_ne_nil ho hn)
    refine (Tryd.slices_Sort_int g 0 cap zs w hH hlt hz).mono ?_
    rintro e w' ⟨rfl, n, os, rfl⟩
    have h1 := Go.Lib.ownsRow_putRow (q := n) (k := zs.length) (ys := sortL zs) ho (by simp [sortL]) (Nat.le_refl _)
    rw [List.take_of_length_le (by simp [sortL])] at h1
    have h2 := own_grow h1 os
    refine ⟨rfl, Kd.R_of_own ?_ (fun _ _ => trivial), below_grow' (Go.Lib.below_putRow HB hb) ?_ os⟩
    · have hl : (sortL zs).length = zs.length := by simp [sortL]
      rw [hl]
      exact h2
    · exact (Go.Lib.below_putRow (enc := Value.int .i64) (q := n) (d := (sortL zs).toArray) HB hb).size
theorem compact_own {w0 w : World} {ok : Nat → Prop} {u : Value} {zs : List Int} (HO : Kd.R (Kd.int .i64) 3 w w0.heap.size ok u zs) (HB : Below w0.heap.size w0 w) (hz : zs.length < 4611686018427387904) :
    Calls Tryd.prog 40 #[u] w fun e w' => ∃ u', e = .returned u' ∧ Kd.R (Kd.int .i64) 3 w' w0.heap.size (fun _ => True) u' (Go.Lib.compact zs) ∧ Below w0.heap.size w0 w' := by
  have ho : w.ownsRow w0.heap.size 3 1 u zs.length (zs.map (Value.int .i64)) := Kd.own_of_R HO
  by_cases hn : zs = []
  · subst hn
    obtain ⟨A, c, rfl⟩ := Kd.R_slice HO
    refine (Tryd.slices_Compact_int_empty A c w).mono ?_
    rintro e w' ⟨rfl, rfl⟩
    exact ⟨_, rfl, Kd.R_mono HO (fun _ _ => trivial), HB⟩
  · obtain ⟨g, cap, rfl, hb, hlt, hnc, hcm, _, hH⟩ := Go.Lib.holds_of_ownsRow ho (own_ne_nil ho hn)
    refine (Tryd.slices_Compact_int g 0 cap zs w hH (by omega) hnc).mono ?_
    rintro e w' ⟨rfl, q, rfl⟩
    have hcl : (Go.Lib.compact zs).length ≤ zs.length := Go.Lib.compact_length_le zs
    have h1 := Go.Lib.ownsRow_putRow (q := q) (k := (Go.Lib.compact zs).length) (ys := Go.Lib.compact zs ++ List.replicate (zs.length - (Go.Lib.compact zs).length) 0) ho (by simp; omega) hcl
    rw [List.take_left] at h1
    exact ⟨_, rfl, Kd.R_of_own h1 (fun _ _ => trivial), Go.Lib.below_putRow HB hb⟩
def dep_Jobs.l0 : Nat → List Int → List (S52) → Int → Int → Option (List Int)
  | 0, _, _, _, _ => none
  | k + 1, x3, x7, x8, x9 => if x9 < x8 then (if 0 ≤ x9 then (if x9 < (x7.length : Int) then (if x3.length + ((rd_T52 x7 x9).f1).length < 17592186044416 then (dep_Jobs.l0 k (x3 ++ ((rd_T52 x7 x9).f1)) x7 x8 (wrap64 (x9 + 1))) else (none)) else (none)) else (none)) else (some x3)
def dep_Jobs.f (k : Nat) (a0_0 : Bool) (l0_1 : List (S52)) : Option (List Int) := dep_Jobs.l0 k ([] : List Int) l0_1 (l0_1.length : Int) 0
set_option maxHeartbeats 8000000 in
set_option maxRecDepth 100000 in
theorem dep_Jobs.walk (k : Nat) (a0_0 : Bool) (A0_1 : Option Addr) (c0_1 : Nat) (l0_1 : List (S52)) (r : List Int) (w : World) (hr0_1 : Kd.C k52 w A0_1 l0_1.length l0_1) (hc0_1 : l0_1.length ≤ c0_1) (h : dep_Jobs.f k a0_0 l0_1 = some r) (hz : r.length < 4611686018427387904) :
    Calls Tryd.prog 21 #[.agg #[.bool a0_0, .slice A0_1 l0_1.length c0_1]] w fun e w' => ∃ A' c', e = .returned (.slice A' (sorted r).length c') ∧ (sorted r).length ≤ c' ∧ Kd.C (Kd.int .i64) w' A' (sorted r).length (sorted r) ∧ Below w.heap.size w w' := by
  have HZ := Aside0.mk hz
  clear hz
  have hu31 := Tryd.underlying31
  have hu52 := Tryd.underlying52
  have HR0_1 := Aside0.mk hr0_1
  have HC0_1 := Aside0.mk hc0_1
  clear hr0_1 hc0_1
  have HB := Aside0.mk (Below.refl w.heap.size w)
  have H : (dep_Jobs.l0 k ([] : List Int) l0_1 (l0_1.length : Int) 0) = some r := h
  clear h
  have H' := Aside0.mk H
  clear H
  go_enter Tryd.func21, Tryd.ntmps21
  go_wp2_with (first | ((with_reducible refine gate_dst (N := 1) rfl ?_); refine box_event ?hg (N := 1) ?hd (cs := #[.bool a0_0, .slice A0_1 l0_1.length c0_1]) (t := 31) ?hr ?_; (case hd => rfl); (case hg => rfl); (case hr => first | (go_simp; done) | (go_simp; rfl)); intro gb417 hg w2 hbox hb; have n0_ := Aside0.mk (below_step (by repeat (first | (with_reducible first | exact HB.out | apply below_alloc | apply pw_below_drewN | apply below_drew1) | exact HB.out)) hb); have n1_ := Aside0.mk (hbox); have n2_ := Aside0.mk ((by rw [hg]; exact (below_size (by repeat (first | (with_reducible first | exact HB.out | apply below_alloc | apply pw_below_drewN | apply below_drew1) | exact HB.out))) : w.heap.size ≤ gb417)); have n3_ := Aside0.mk ((by rw [hg]; exact (below_size (by repeat (first | (with_reducible first | exact HB.out | apply below_alloc | apply pw_below_drewN | apply below_drew1) | exact HB.out))) : w.heap.size ≤ gb417)); clear HB; have HB := n0_; have BK417 := n1_; have GW417 := n2_; have GE417 := n3_; clear n0_ n1_ n2_ n3_; clear hb hbox hg; have hcz3_0 : w2.cell? ⟨gb417, 0, none⟩ = some (.bool a0_0) := (blk_cell BK417.out 0).trans rfl; have hcz3_1 : w2.cell? ⟨gb417, 1, none⟩ = some (.slice A0_1 l0_1.length c0_1) := (blk_cell BK417.out 1).trans rfl; have hfz3_0 := blk_frozen BK417.out 0; have hfz3_1 := blk_frozen BK417.out 1))
  go_loopg [3, 9] k (fun kq v3 v9 w' => ∃ (x3_1 : List Int) (x9_1 : Int), v9 = .int .i64 x9_1 ∧ Aside0 (dep_Jobs.l0 kq x3_1 l0_1 (l0_1.length : Int) x9_1 = some r) ∧ Aside0 (kq ≤ k) ∧ Aside0 (Kd.R (Kd.int .i64) 3 w' w.heap.size (fun _ => True) v3 x3_1) ∧ Aside0 (w'.heap[gb417]? = some (.cells #[.bool a0_0, (.slice A0_1 l0_1.length c0_1)] 31 (0, 0))) ∧ Aside0 (Below w.heap.size w w'))
  case atStart => exact ⟨(([] : List Int)), (0), (by first | rfl | (simp; done) | (simp [*]; done)), H', ⟨Nat.le_refl _⟩, ⟨by first | exact Kd.R_nil _ _ _ _ _ | exact Kd.N_nil _ _ _ _ _ | exact Kd.V_nil _ _ _ _ _ | exact Kd.Q_nil _ _ _ _ _ | exact Kd.S_nil _ _ _ _ _⟩, ⟨by (with_reducible repeat (first | refine blk_drewN ?_ _ | refine blk_drew ?_ | refine blk_alloc ?_ _)); exact BK417.out⟩, ⟨by repeat (first | (with_reducible first | exact HB.out | apply below_alloc | apply pw_below_drewN | apply below_drew1 | refine below_set ?_ GE417.out) | exact HB.out)⟩⟩
  case round =>
    clear H'
    try clear c2
    try clear p2
    try clear hcz3_0
    try clear hcz3_1
    try clear hfz3_0
    try clear hfz3_1
    obtain ⟨x3_1, x9_1, rfl, HA, HK1, HO_3, BK417, HB⟩ := hrel
    cases gk with
    | zero => exact absurd HA.out (by simp [dep_Jobs.l0])
    | succ k1 =>
      have H := HA.out
      clear HA
      simp only [dep_Jobs.l0] at H
      by_cases c4 : x9_1 < (l0_1.length : Int)
      · rw [if_pos c4] at H
        have c4b0 : decide (x9_1 < (l0_1.length : Int)) = true := decide_eq_true c4
        clear c4
        by_cases c5 : 0 ≤ x9_1
        · rw [if_pos c5] at H
          have c5b0 : decide (0 ≤ x9_1) = true := decide_eq_true c5
          clear c5
          by_cases c6 : x9_1 < (l0_1.length : Int)
          · rw [if_pos c6] at H
            have c6b0 : decide (x9_1 < (l0_1.length : Int)) = true := decide_eq_true c6
            clear c6
            by_cases c7 : x3_1.length + ((rd_T52 l0_1 x9_1).f1).length < 17592186044416
            · rw [if_pos c7] at H
              have LMc7 := Aside0.mk c7
              clear c7
              obtain ⟨y420, hy420⟩ : ∃ y_ : List Int, y_ = (x3_1 ++ ((rd_T52 l0_1 x9_1).f1)) := ⟨_, rfl⟩
              replace H : (dep_Jobs.l0 k1 y420 l0_1 (l0_1.length : Int) (wrap64 (x9_1 + 1))) = some r := by first | (rw [hy420]; with_reducible exact H) | (have H2_ := (Option.bind_some _ _).symm.trans H; rw [hy420]; with_reducible exact H2_) | (have H2_ := (Option.bind_some _ _).symm.trans H; with_reducible exact H2_) | with_reducible exact H | (rw [hy420]; exact H) | exact H
              have Ny420 := Aside0.mk hy420
              clear hy420
              have H' := Aside0.mk H
              clear H
              have p418 : 0 ≤ (x9_1 : Int) := of_decide_eq_true (by first | (with_reducible assumption) | assumption)
              have q418 : x9_1 < (l0_1.length : Int) := of_decide_eq_true (by first | (with_reducible assumption) | assumption)
              obtain ⟨ad418, A418_1, c418_1, e418, hx418_0, hx418_1, hl418_1, hi418_1⟩ := at_T52 HR0_1.out x9_1 p418 q418
              cases e418
              replace hx418_0 := (HB.out.cell (World.block_lt_of_cell? w _ hx418_0)).trans hx418_0
              replace hx418_1 := (HB.out.cell (World.block_lt_of_cell? w _ hx418_1)).trans hx418_1
              have HR418_1 := Aside0.mk hi418_1
              have HC418_1 := Aside0.mk hl418_1
              clear hi418_1 hl418_1
              replace p418 := eq_true p418
              replace q418 := eq_true q418
              go_wp2_with (first | ((with_reducible refine gate_dst (N := 5) rfl ?_); refine box_event ?hg (N := 5) ?hd (cs := #[.int .i64 0, .slice none 0 0]) (t := 52) ?hr ?_; (case hd => rfl); (case hg => rfl); (case hr => first | (go_simp; done) | (go_simp; rfl)); intro gb419 hg w8 hbox hb; have n0_ := Aside0.mk (Kd.R_below (by (with_reducible repeat (first | apply Kd.R_alloc | apply Kd.R_drewN | apply Kd.R_drew)); exact HO_3.out) hb); have n1_ := Aside0.mk (blk_below (g := gb417) (o := .cells #[.bool a0_0, .slice (some ad418) l0_1.length c0_1] 31 (0, 0)) (by (with_reducible repeat (first | refine blk_drewN ?_ _ | refine blk_drew ?_ | refine blk_alloc ?_ _)); exact BK417.out) hb); have n2_ := Aside0.mk (below_step (by repeat (first | (with_reducible first | exact HB.out | apply below_alloc | apply pw_below_drewN | apply below_drew1 | refine below_set ?_ GE417.out) | exact HB.out)) hb); have n3_ := Aside0.mk (hbox); have n4_ := Aside0.mk ((by rw [hg]; exact (below_size (by repeat (first | (with_reducible first | exact HB.out | apply below_alloc | apply pw_below_drewN | apply below_drew1 | refine below_set ?_ GE417.out) | exact HB.out))) : w.heap.size ≤ gb419)); have n5_ := Aside0.mk ((by rw [hg]; exact (below_size (by repeat (first | (with_reducible first | exact HB.out | apply below_alloc | apply pw_below_drewN | apply below_drew1 | refine below_set ?_ GE417.out) | exact HB.out))) : w.heap.size ≤ gb419)); have n6_ := Aside0.mk ((by rw [hg]; exact Nat.ne_of_lt (blk_lt (g := gb417) (o := .cells #[.bool a0_0, .slice (some ad418) l0_1.length c0_1] 31 (0, 0)) (by (with_reducible repeat (first | refine blk_drewN ?_ _ | refine blk_drew ?_ | refine blk_alloc ?_ _)); exact BK417.out)) : gb417 ≠ gb419)); have n7_ := Aside0.mk ((by rw [hg]; exact Nat.ne_of_gt (blk_lt (g := gb417) (o := .cells #[.bool a0_0, .slice (some ad418) l0_1.length c0_1] 31 (0, 0)) (by (with_reducible repeat (first | refine blk_drewN ?_ _ | refine blk_drew ?_ | refine blk_alloc ?_ _)); exact BK417.out)) : gb419 ≠ gb417)); clear HO_3; clear BK417; clear HB; have HO_3 := n0_; have BK417 := n1_; have HB := n2_; have BK419 := n3_; have GW419 := n4_; have GE419 := n5_; have NB417_419 := n6_; have NB419_417 := n7_; clear n0_ n1_ n2_ n3_ n4_ n5_ n6_ n7_; clear hb hbox hg; have hnb9 := NB419_417.out; have hnc9 := NB417_419.out; have hcz10_0 : w8.cell? ⟨gb419, 0, none⟩ = some (.int .i64 0) := (blk_cell BK419.out 0).trans rfl; have hcz10_1 : w8.cell? ⟨gb419, 1, none⟩ = some (.slice none 0 0) := (blk_cell BK419.out 1).trans rfl; have hfz10_0 := blk_frozen BK419.out 0; have hfz10_1 := blk_frozen BK419.out 1) | ((with_reducible refine gate_builtin (b := .append) (xs := #[.tmp 13, .tmp 15]) rfl ?_); at_builtin; refine Kd.R_append_rows (Kd.int .i64) (w0 := w) w.heap.size rfl (.tmp 13) (.tmp 15) 44 3 (.int .i64 0) 8 rfl Tryd.underlying44 info3 rfl (by decide) (by omega) u3 x3_1 ((rd_T52 l0_1 x9_1).f1) _ _ _ (fun _ => True) (fun _ => False) rfl rfl ?aO ?aR (fun _ _ h => h) (fun _ h => h.elim) ?aF ?aB ?aS ?aL ?_; (case aR => exact Kd.C_below HR418_1.out (by repeat (first | (with_reducible first | exact HB.out | apply below_alloc | apply pw_below_drewN | apply below_drew1 | refine below_set ?_ GE417.out | refine below_set ?_ GE419.out) | exact HB.out))); (case aB => exact (by repeat (first | (with_reducible first | exact HB.out | apply below_alloc | apply pw_below_drewN | apply below_drew1 | refine below_set ?_ GE417.out | refine below_set ?_ GE419.out) | exact HB.out))); (case aF => exact (fun _ _ => trivial)); (case aO => exact (by (with_reducible repeat (first | apply Kd.R_alloc | apply Kd.R_drewN | apply Kd.R_drew)); exact Kd.R_mono (Kd.R_far (p := ⟨gb419, 1, none⟩) (Kd.R_far (p := ⟨gb419, 0, none⟩) (Kd.R_types HO_3.out BK419.out (by decide)) (fun _ hk => hk.2) (.int .i64 ((rd_T52 l0_1 x9_1).f0))) (fun _ hk => hk.2) (.slice A418_1 ((rd_T52 l0_1 x9_1).f1).length c418_1)) (fun _ hk => trivial))); (case aS => exact (below_size (by repeat (first | (with_reducible first | exact HB.out | apply below_alloc | apply pw_below_drewN | apply below_drew1 | refine below_set ?_ GE417.out | refine below_set ?_ GE419.out) | exact HB.out)))); (case aL => have := LMc7.out; omega); intro v421 w11 ho hb hg hat; rw [← Ny420.out] at ho; have n0_ := Aside0.mk (blk_grown (g := gb417) (o := .cells #[.bool a0_0, .slice (some ad418) l0_1.length c0_1] 31 (0, 0)) (by (with_reducible repeat (first | refine blk_drewN ?_ _ | refine blk_drew ?_ | refine blk_alloc ?_ _)); refine blk_far ?_ NB417_419.out _; (with_reducible repeat (first | refine blk_drewN ?_ _ | refine blk_drew ?_ | refine blk_alloc ?_ _)); refine blk_far ?_ NB417_419.out _; (with_reducible repeat (first | refine blk_drewN ?_ _ | refine blk_drew ?_ | refine blk_alloc ?_ _)); exact BK417.out) hg (Kd.R_ne HO_3.out BK417.out (by decide))); have n1_ := Aside0.mk (blk_grown (g := gb419) (o := .cells #[.int .i64 ((rd_T52 l0_1 x9_1).f0), .slice A418_1 ((rd_T52 l0_1 x9_1).f1).length c418_1] 52 (0, 0)) (by (with_reducible repeat (first | refine blk_drewN ?_ _ | refine blk_drew ?_ | refine blk_alloc ?_ _)); refine blk_put (cs := #[.int .i64 ((rd_T52 l0_1 x9_1).f0), .slice none 0 0]) ?_ 1 _ rfl; (with_reducible repeat (first | refine blk_drewN ?_ _ | refine blk_drew ?_ | refine blk_alloc ?_ _)); refine blk_put (cs := #[.int .i64 0, .slice none 0 0]) ?_ 0 _ rfl; (with_reducible repeat (first | refine blk_drewN ?_ _ | refine blk_drew ?_ | refine blk_alloc ?_ _)); exact BK419.out) hg (Kd.R_ne HO_3.out BK419.out (by decide))); have n2_ := Aside0.mk (hb); have n3_ := Aside0.mk (ho); clear BK417; clear BK419; clear HB; clear HO_3; have BK417 := n0_; have BK419 := n1_; have HB := n2_; have HO422 := n3_; clear n0_ n1_ n2_ n3_; clear ho hb hg hat))
              go_roundg k1
              case measure => have := HK1.out; omega
              case rel => exact ⟨(y420), (wrap64 (x9_1 + 1)), (by first | rfl | (simp; done) | (simp [*]; done)), H', ⟨by have := HK1.out; omega⟩, ⟨by (with_reducible repeat (first | apply Kd.R_alloc | apply Kd.R_drewN | apply Kd.R_drew)); exact HO422.out⟩, ⟨by (with_reducible repeat (first | refine blk_drewN ?_ _ | refine blk_drew ?_ | refine blk_alloc ?_ _)); exact BK417.out⟩, ⟨by repeat (first | (with_reducible first | exact HB.out | apply below_alloc | apply pw_below_drewN | apply below_drew1 | refine below_set ?_ GE417.out | refine below_set ?_ GE419.out) | exact HB.out)⟩⟩
            · rw [if_neg c7] at H
              exact absurd H (by simp)
          · rw [if_neg c6] at H
            exact absurd H (by simp)
        · rw [if_neg c5] at H
          exact absurd H (by simp)
      · rw [if_neg c4] at H
        have c4b0 : decide (x9_1 < (l0_1.length : Int)) = false := decide_eq_false c4
        clear c4
        have hxr := Option.some.inj H
        subst hxr
        obtain ⟨A9, c9, e9⟩ := Kd.R_slice HO_3.out
        subst e9
        go_wp2_with fail
        refine (sort_own HO_3.out HB.out HZ.out).mono ?_
        rintro e w8 ⟨rfl, ho, hb⟩
        have HO8 := Aside0.mk ho
        have HB8 := Aside0.mk hb
        have hsl : (sortL x3_1).length = x3_1.length := by simp [sortL]
        clear ho hb
        go_wp2_with fail
        refine Calls.mono (P := Tryd.prog) (calls_of_args ?ha (compact_own HO8.out HB8.out (by rw [hsl]; exact HZ.out))) ?_
        case ha => rfl
        rintro e w9 ⟨u9, rfl, ho, hb⟩
        obtain ⟨A10, c10, rfl⟩ := Kd.R_slice ho
        have HO9 := Aside0.mk ho
        have HB9 := Aside0.mk hb
        clear ho hb
        go_wp2
        go_ret
        exact ⟨_, _, rfl, (Kd.R_reads' HO9.out).2.1, (Kd.R_reads' HO9.out).2.2, HB9.out⟩
end Go.Proofs.YtknbnnpggdegmaaDoor.PD
end
section
namespace Go.Proofs.YtknbnnpggdegmaaDoor.Jb
open Go.Proofs.YtknbnnpggdegmaaDoor.PD Go.Lib
set_option linter.unusedVariables false
set_option linter.unusedSimpArgs false
abbrev SI (l : List Int) : Prop := l.Pairwise (· < ·)
def pos (l : List Int) (n : Int) : Nat := (l.takeWhile fun x => decide (x < n)).length
def insS (l : List Int) (n : Int) : List Int := if l[pos l n]? = some n then l else l.take (pos l n) ++ n :: l.drop (pos l n)
theorem insS_cons (a : Int) (l : List Int) (n : Int) : insS (a :: l) n = if a < n then a :: insS l n else if a = n then a :: l else n :: a :: l := by
  unfold insS pos
  by_cases h : a < n
  · rw [if_pos h]
    simp only [List.takeWhile_cons, h, decide_true, ↓reduceIte, List.length_cons, List.getElem?_cons_succ, List.take_succ_cons, List.drop_succ_cons]
    split <;> simp_all
  · rw [if_neg h]
    simp only [List.takeWhile_cons, h, decide_false, Bool.false_eq_true, ↓reduceIte, List.length_nil, List.getElem?_cons_zero, Option.some.injEq, List.take_zero, List.nil_append, List.drop_zero]
theorem mem_insS (l : List Int) (n x : Int) : x ∈ insS l n ↔ x = n ∨ x ∈ l := by
  induction l with
  | nil => simp [insS, pos]
  | cons a l ih =>
    rw [insS_cons]
    split
    · simp only [List.mem_cons, ih]
      constructor
      · rintro (h | h | h) <;> simp [h]
      · rintro (h | h | h) <;> simp [h]
    · split
      · rename_i h1 h2
        subst h2
        simp
      · simp
theorem SI_insS (l : List Int) (n : Int) (h : SI l) : SI (insS l n) := by
  induction l with
  | nil => simp [insS, pos, SI]
  | cons a l ih =>
    obtain ⟨h1, h2⟩ := List.pairwise_cons.1 h
    rw [insS_cons]
    split
    · rename_i hlt
      refine List.pairwise_cons.2 ⟨fun x hx => ?_, ih h2⟩
      rcases (mem_insS l n x).1 hx with rfl | hx
      · exact hlt
      · exact h1 x hx
    · split
      · exact h
      · rename_i h3 h4
        refine List.pairwise_cons.2 ⟨fun x hx => ?_, h⟩
        rcases List.mem_cons.1 hx with rfl | hx
        · omega
        · have := h1 x hx
          omega
theorem SI_ext : ∀ (l m : List Int), SI l → SI m → (∀ x, x ∈ l ↔ x ∈ m) → l = m
  | [], [], _, _, _ => rfl
  | [], b :: m, _, _, h => absurd ((h b).2 (by simp)) (by simp)
  | a :: l, [], _, _, h => absurd ((h a).1 (by simp)) (by simp)
  | a :: l, b :: m, hl, hm, h => by
    obtain ⟨h1, h2⟩ := List.pairwise_cons.1 hl
    obtain ⟨h3, h4⟩ := List.pairwise_cons.1 hm
    have e : a = b := by
      rcases List.mem_cons.1 ((h a).1 (by simp)) with e | e
      · exact e
      · rcases List.mem_cons.1 ((h b).2 (by simp)) with e' | e'
        · exact e'.symm
        · have := h3 a e; have := h1 b e'; omega
    subst e
    congr 1
    refine SI_ext l m h2 h4 fun x => ?_
    constructor
    · intro hx
      rcases List.mem_cons.1 ((h x).1 (by simp [hx])) with e | e
      · have := h1 x hx; omega
      · exact e
    · intro hx
      rcases List.mem_cons.1 ((h x).2 (by simp [hx])) with e | e
      · have := h3 x hx; omega
      · exact e
theorem compact_spec (d : Array Int) (hs : ∀ i j, i ≤ j → j < d.size → d[i]! ≤ d[j]!) : ∀ m, m ≤ d.size → SI (compactUpTo d m) ∧ ∀ x, x ∈ compactUpTo d m ↔ ∃ j, j < m ∧ d[j]! = x
  | 0, _ => ⟨by simp [compactUpTo, SI], fun x => by simp [compactUpTo]⟩
  | m + 1, hm => by
    obtain ⟨h1, h2⟩ := compact_spec d hs m (by omega)
    rw [compactUpTo_succ]
    by_cases hk : m = 0 ∨ d[m]! ≠ d[m - 1]!
    · have hk' : keeps d m = true := by simp [keeps, hk]
      rw [if_pos hk']
      refine ⟨List.pairwise_append.2 ⟨h1, by simp, fun a ha b hb => ?_⟩, fun x => ?_⟩
      · obtain ⟨j, hj, rfl⟩ := (h2 a).1 ha
        obtain rfl := List.mem_singleton.1 hb
        rcases hk with rfl | hk
        · omega
        · have := hs j (m - 1) (by omega) (by omega)
          have := hs (m - 1) m (by omega) (by omega)
          omega
      · rw [List.mem_append, h2, List.mem_singleton]
        constructor
        · rintro (⟨j, hj, e⟩ | e)
          · exact ⟨j, by omega, e⟩
          · exact ⟨m, by omega, e.symm⟩
        · rintro ⟨j, hj, e⟩
          rcases Nat.lt_or_ge j m with h | h
          · exact .inl ⟨j, h, e⟩
          · obtain rfl : j = m := by omega
            exact .inr e.symm
    · have hk' : ¬(keeps d m = true) := by simp [keeps, hk]
      have hm0 : m ≠ 0 := fun h => hk (.inl h)
      have he : d[m]! = d[m - 1]! := Decidable.byContradiction fun h => hk (.inr h)
      rw [if_neg hk', List.append_nil]
      refine ⟨h1, fun x => ?_⟩
      rw [h2]
      constructor
      · rintro ⟨j, hj, e⟩
        exact ⟨j, by omega, e⟩
      · rintro ⟨j, hj, e⟩
        rcases Nat.lt_or_ge j m with h | h
        · exact ⟨j, h, e⟩
        · obtain rfl : j = m := by omega
          exact ⟨j - 1, by omega, by rw [← he]; exact e⟩
theorem sorted_spec (zs : List Int) : SI (sorted zs) ∧ ∀ x, x ∈ sorted zs ↔ x ∈ zs := by
  have hp : (sortL zs).Pairwise fun x y => decide (x ≤ y) = true := List.pairwise_mergeSort (fun a b c h1 h2 => by simp at *; omega) (fun a b => by simp; omega) zs
  have hs : ∀ i j, i ≤ j → j < (sortL zs).toArray.size → (sortL zs).toArray[i]! ≤ (sortL zs).toArray[j]! := by
    intro i j hij hj
    have hj' : j < (sortL zs).length := by simpa using hj
    rcases Nat.lt_or_ge i j with h | h
    · have := List.pairwise_iff_getElem.1 hp i j (by omega) hj' h
      simpa [getElem!_pos, show i < (sortL zs).length by omega, hj'] using this
    · obtain rfl : i = j := by omega
      exact Int.le_refl _
  obtain ⟨h1, h2⟩ := compact_spec (sortL zs).toArray hs (sortL zs).length (by simp)
  refine ⟨h1, fun x => ?_⟩
  unfold sorted compact
  rw [h2]
  constructor
  · rintro ⟨j, hj, rfl⟩
    have : (sortL zs)[j] ∈ sortL zs := List.getElem_mem _
    have := (List.mergeSort_perm zs _).subset this
    simpa [getElem!_pos, hj] using this
  · intro hx
    have := (List.mergeSort_perm zs fun x y => decide (x ≤ y)).symm.subset hx
    obtain ⟨j, hj, e⟩ := List.getElem_of_mem this
    exact ⟨j, hj, by simpa [sortL, List.getElem?_eq_getElem hj] using e⟩
theorem fold_spec : ∀ (zs acc : List Int), SI acc → SI (zs.foldl insS acc) ∧ ∀ x, x ∈ zs.foldl insS acc ↔ x ∈ acc ∨ x ∈ zs
  | [], acc, h => ⟨h, fun x => by simp⟩
  | z :: zs, acc, h => by
    obtain ⟨h1, h2⟩ := fold_spec zs (insS acc z) (SI_insS acc z h)
    refine ⟨h1, fun x => ?_⟩
    rw [List.foldl_cons, h2, mem_insS, List.mem_cons]
    constructor
    · rintro ((h | h) | h) <;> simp [h]
    · rintro (h | h | h) <;> simp [h]
theorem fold_sorted (zs : List Int) : zs.foldl insS [] = sorted zs := by
  obtain ⟨h1, h2⟩ := fold_spec zs [] (by simp [SI])
  obtain ⟨h3, h4⟩ := sorted_spec zs
  exact SI_ext _ _ h1 h3 fun x => by rw [h2, h4]; simp
end Go.Proofs.YtknbnnpggdegmaaDoor.Jb
end
