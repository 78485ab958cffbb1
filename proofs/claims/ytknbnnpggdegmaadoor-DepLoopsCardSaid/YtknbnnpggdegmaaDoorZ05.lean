/- Part 5 of the proof. -/
import Derived.Test.YtknbnnpggdegmaaDoorZ04
import Derived.Maps.OwnSet
import Derived.Maps.OwnOps
import Derived.WalkKit
import Derived.KernelRfl
import Derived.Deep.Draws
import Derived.Test.YtknbnnpggdegmaaDoorZ01
import Derived.Lib.Strings
import Derived.Laws.EntriesVeiled
section
namespace Go.Proofs.YtknbnnpggdegmaaDoor.PD
open Go.RowKit Go.Proofs.YtknbnnpggdegmaaDoor.Lib Go.Proofs.YtknbnnpggdegmaaDoorW.PrintWords Go.Proofs.YtknbnnpggdegmaaDoorW.PrintLast Go.Proofs.YtknbnnpggdegmaaDoorW.PrintMore
set_option linter.unusedVariables false
set_option linter.unusedSimpArgs false
def insAt (l : List Int) (at_ n : Int) : List Int := l.take at_.toNat ++ n :: l.drop at_.toNat
theorem row_one {w : World} {b : Nat} {n : Int} (h : w.cell? ⟨b, 0, none⟩ = some (.int .i64 n)) : ReadsRow (fun z cs => cs = [.int .i64 z]) 1 w (some ⟨b, 0, none⟩) 1 [n] :=
  ⟨rfl, by decide, fun _ => ⟨_, rfl, fun j p hj => by
    cases j with
    | zero =>
      simp only [List.getElem?_cons_zero, Option.some.injEq] at hj
      subst hj
      refine ⟨_, rfl, rfl, fun i u hu => ?_⟩
      cases i with
      | zero =>
        simp only [List.getElem?_cons_zero, Option.some.injEq] at hu
        subst hu
        exact h
      | succ i => simp at hu
    | succ j => simp at hj⟩⟩
mutual
def marlinspikeref07_Jobs.l0 : Nat → List Int → Int → Bool → List (S46) → Option (List Int)
  | 0, _, _, _, _ => none
  | k + 1, x3, x4, x242000, x242001 => if x4 < (x242001.length : Int) then (marlinspikeref07_Jobs.l1 k x3 x4 0 x242000 x242001) else (some x3)
def marlinspikeref07_Jobs.l1 : Nat → List Int → Int → Int → Bool → List (S46) → Option (List Int)
  | 0, _, _, _, _, _ => none
  | k + 1, x3, x4, x5, x242000, x242001 => if 0 ≤ x4 then (if x4 < (x242001.length : Int) then (if x5 < (((rd_T46 x242001 x4).f1).length : Int) then (if 0 ≤ x5 then (marlinspikeref07_Jobs.l2 k x3 x4 x5 (rd ((rd_T46 x242001 x4).f1) x5) 0 x242000 x242001) else (none)) else (marlinspikeref07_Jobs.l0 k x3 (wrap64 (x4 + 1)) x242000 x242001)) else (none)) else (none)
def marlinspikeref07_Jobs.l2 : Nat → List Int → Int → Int → Int → Int → Bool → List (S46) → Option (List Int)
  | 0, _, _, _, _, _, _, _ => none
  | k + 1, x3, x4, x5, x6, x7, x242000, x242001 => if x7 < (x3.length : Int) then (if 0 ≤ x7 then (if (rd x3 x7) < x6 then (marlinspikeref07_Jobs.l2 k x3 x4 x5 x6 (wrap64 (x7 + 1)) x242000 x242001) else (if (rd x3 x7) = x6 then (marlinspikeref07_Jobs.l1 k x3 x4 (wrap64 (x5 + 1)) x242000 x242001) else (if x3.length < 17592186044416 then (marlinspikeref07_Jobs.l1 k (insAt x3 x7 x6) x4 (wrap64 (x5 + 1)) x242000 x242001) else (none)))) else (none)) else (if x7 = (x3.length : Int) then (if x3.length < 17592186044416 then (marlinspikeref07_Jobs.l1 k (insAt x3 x7 x6) x4 (wrap64 (x5 + 1)) x242000 x242001) else (none)) else (none))
end
def marlinspikeref07_Jobs.f (k : Nat) (a0_0 : Bool) (l0_1 : List (S46)) : Option (List Int) := marlinspikeref07_Jobs.l0 k ([] : List Int) 0 a0_0 l0_1
set_option maxHeartbeats 8000000 in
set_option maxRecDepth 100000 in
theorem marlinspikeref07_Jobs.walk (k : Nat) (a0_0 : Bool) (A0_1 : Option Addr) (c0_1 : Nat) (l0_1 : List (S46)) (r : List Int) (w : World) (hr0_1 : Kd.C k46 w A0_1 l0_1.length l0_1) (hc0_1 : l0_1.length ≤ c0_1) (h : marlinspikeref07_Jobs.f k a0_0 l0_1 = some r) :
    Calls Tryd.prog 22 #[.agg #[.bool a0_0, .slice A0_1 l0_1.length c0_1]] w fun e w' => ∃ v0_ : Value, e = .returned (v0_) ∧ Kd.R (Kd.int .i64) 3 w' w.heap.size (fun _ => True) v0_ r ∧ Below w.heap.size w w' := by
  have hu24 := Tryd.underlying24
  have HR0_1 := Aside0.mk hr0_1
  have HC0_1 := Aside0.mk hc0_1
  clear hr0_1 hc0_1
  have HB := Aside0.mk (Below.refl w.heap.size w)
  have H : (marlinspikeref07_Jobs.l0 k ([] : List Int) 0 a0_0 l0_1) = some r := h
  clear h
  have H' := Aside0.mk H
  clear H
  go_enter Tryd.func22, Tryd.ntmps22
  go_wp2_with (first | ((with_reducible refine gate_dst (N := 1) rfl ?_); refine box_event ?hg (N := 1) ?hd (cs := #[.bool a0_0, .slice A0_1 l0_1.length c0_1]) (t := 24) ?hr ?_; (case hd => rfl); (case hg => rfl); (case hr => first | (go_simp; done) | (go_simp; rfl)); intro gb241 hg w2 hbox hb; have n0_ := Aside0.mk (below_step (by repeat (first | (with_reducible first | exact HB.out | apply below_alloc | apply pw_below_drewN | apply below_drew1) | exact HB.out)) hb); have n1_ := Aside0.mk (hbox); have n2_ := Aside0.mk ((by rw [hg]; exact (below_size (by repeat (first | (with_reducible first | exact HB.out | apply below_alloc | apply pw_below_drewN | apply below_drew1) | exact HB.out))) : w.heap.size ≤ gb241)); have n3_ := Aside0.mk ((by rw [hg]; exact (below_size (by repeat (first | (with_reducible first | exact HB.out | apply below_alloc | apply pw_below_drewN | apply below_drew1) | exact HB.out))) : w.heap.size ≤ gb241)); clear HB; have HB := n0_; have BK241 := n1_; have GW241 := n2_; have GE241 := n3_; clear n0_ n1_ n2_ n3_; clear hb hbox hg))
  go_loopg [3, 4] k (fun kq v3 v4 w' => ∃ (x3_1 : List Int) (x4_1 : Int), v4 = .int .i64 x4_1 ∧ Aside0 (marlinspikeref07_Jobs.l0 kq x3_1 x4_1 a0_0 l0_1 = some r) ∧ Aside0 (kq ≤ k) ∧ Aside0 (Kd.R (Kd.int .i64) 3 w' w.heap.size (fun _ => True) v3 x3_1) ∧ Aside0 (w'.heap[gb241]? = some (.cells #[.bool a0_0, (.slice A0_1 l0_1.length c0_1)] 24 (0, 0))) ∧ Aside0 (Below w.heap.size w w'))
  case atStart => exact ⟨(([] : List Int)), (0), (by first | rfl | (simp; done) | (simp [*]; done)), H', ⟨Nat.le_refl _⟩, ⟨by first | exact Kd.R_nil _ _ _ _ _ | exact Kd.N_nil _ _ _ _ _ | exact Kd.V_nil _ _ _ _ _ | exact Kd.Q_nil _ _ _ _ _ | exact Kd.S_nil _ _ _ _ _⟩, ⟨by (with_reducible repeat (first | refine blk_drewN ?_ _ | refine blk_drew ?_ | refine blk_alloc ?_ _)); exact BK241.out⟩, ⟨by repeat (first | (with_reducible first | exact HB.out | apply below_alloc | apply pw_below_drewN | apply below_drew1 | refine below_set ?_ GE241.out) | exact HB.out)⟩⟩
  case round =>
    clear H'
    try clear c2
    try clear p2
    obtain ⟨x3_1, x4_1, rfl, HA, HK1, HO_3, BK241, HB⟩ := hrel
    cases gk with
    | zero => exact absurd HA.out (by simp [marlinspikeref07_Jobs.l0])
    | succ k1 =>
      have H := HA.out
      clear HA
      simp only [marlinspikeref07_Jobs.l0] at H
      by_cases c3 : x4_1 < (l0_1.length : Int)
      · rw [if_pos c3] at H
        have c3b0 : decide (x4_1 < (l0_1.length : Int)) = true := decide_eq_true c3
        clear c3
        have H' := Aside0.mk H
        clear H
        have hcz4_0 : wr.cell? ⟨gb241, 0, none⟩ = some (.bool a0_0) := (blk_cell BK241.out 0).trans rfl
        have hcz4_1 : wr.cell? ⟨gb241, 1, none⟩ = some (.slice A0_1 l0_1.length c0_1) := (blk_cell BK241.out 1).trans rfl
        have hfz4_0 := blk_frozen BK241.out 0
        have hfz4_1 := blk_frozen BK241.out 1
        go_wp2
        go_loopg [3, 5] k1 (fun kq v3 v5 w' => ∃ (x3_2 : List Int) (x5_2 : Int), v5 = .int .i64 x5_2 ∧ Aside0 (marlinspikeref07_Jobs.l1 kq x3_2 x4_1 x5_2 a0_0 l0_1 = some r) ∧ Aside0 (kq ≤ k1) ∧ Aside0 (Kd.R (Kd.int .i64) 3 w' w.heap.size (fun _ => True) v3 x3_2) ∧ Aside0 (w'.heap[gb241]? = some (.cells #[.bool a0_0, (.slice A0_1 l0_1.length c0_1)] 24 (0, 0))) ∧ Aside0 (Below w.heap.size w w'))
        case atStart => exact ⟨(x3_1), (0), (by first | rfl | (simp; done) | (simp [*]; done)), H', ⟨Nat.le_refl _⟩, ⟨by (with_reducible repeat (first | apply Kd.R_alloc | apply Kd.R_drewN | apply Kd.R_drew)); exact HO_3.out⟩, ⟨by (with_reducible repeat (first | refine blk_drewN ?_ _ | refine blk_drew ?_ | refine blk_alloc ?_ _)); exact BK241.out⟩, ⟨by repeat (first | (with_reducible first | exact HB.out | apply below_alloc | apply pw_below_drewN | apply below_drew1 | refine below_set ?_ GE241.out) | exact HB.out)⟩⟩
        case round =>
          clear H'
          try clear c2
          try clear p2
          try clear c3
          try clear c3b0
          try clear hcz4_0
          try clear hcz4_1
          try clear hfz4_0
          try clear hfz4_1
          try clear p2
          obtain ⟨x3_2, x5_2, rfl, HA, HK2, HO_3, BK241, HB⟩ := hrel
          cases gk with
          | zero => exact absurd HA.out (by simp [marlinspikeref07_Jobs.l1])
          | succ k2 =>
            have H := HA.out
            clear HA
            simp only [marlinspikeref07_Jobs.l1] at H
            by_cases c5 : 0 ≤ x4_1
            · rw [if_pos c5] at H
              have c5b0 : decide (0 ≤ x4_1) = true := decide_eq_true c5
              clear c5
              by_cases c6 : x4_1 < (l0_1.length : Int)
              · rw [if_pos c6] at H
                have c6b0 : decide (x4_1 < (l0_1.length : Int)) = true := decide_eq_true c6
                clear c6
                by_cases c7 : x5_2 < (((rd_T46 l0_1 x4_1).f1).length : Int)
                · rw [if_pos c7] at H
                  have c7b0 : decide (x5_2 < (((rd_T46 l0_1 x4_1).f1).length : Int)) = true := decide_eq_true c7
                  clear c7
                  by_cases c8 : 0 ≤ x5_2
                  · rw [if_pos c8] at H
                    have c8b0 : decide (0 ≤ x5_2) = true := decide_eq_true c8
                    clear c8
                    have H' := Aside0.mk H
                    clear H
                    have hcz9_0 : wr.cell? ⟨gb241, 0, none⟩ = some (.bool a0_0) := (blk_cell BK241.out 0).trans rfl
                    have hcz9_1 : wr.cell? ⟨gb241, 1, none⟩ = some (.slice A0_1 l0_1.length c0_1) := (blk_cell BK241.out 1).trans rfl
                    have hfz9_0 := blk_frozen BK241.out 0
                    have hfz9_1 := blk_frozen BK241.out 1
                    have p242 : 0 ≤ (x4_1 : Int) := of_decide_eq_true (by first | (with_reducible assumption) | assumption)
                    have q242 : x4_1 < (l0_1.length : Int) := of_decide_eq_true (by first | (with_reducible assumption) | assumption)
                    obtain ⟨ad242, A242_1, c242_1, e242, hx242_0, hx242_1, hl242_1, hi242_1⟩ := at_T46 HR0_1.out x4_1 p242 q242
                    cases e242
                    replace hx242_0 := (HB.out.cell (World.block_lt_of_cell? w _ hx242_0)).trans hx242_0
                    replace hx242_1 := (HB.out.cell (World.block_lt_of_cell? w _ hx242_1)).trans hx242_1
                    have HR242_1 := Aside0.mk hi242_1
                    have HC242_1 := Aside0.mk hl242_1
                    clear hi242_1 hl242_1
                    replace p242 := eq_true p242
                    replace q242 := eq_true q242
                    have p243 : 0 ≤ (x4_1 : Int) := of_decide_eq_true (by first | (with_reducible assumption) | assumption)
                    have q243 : x4_1 < (l0_1.length : Int) := of_decide_eq_true (by first | (with_reducible assumption) | assumption)
                    obtain ⟨ad243, A243_1, c243_1, e243, hx243_0, hx243_1, hl243_1, hi243_1⟩ := at_T46 HR0_1.out x4_1 p243 q243
                    obtain rfl : ad242 = ad243 := (by injection e243)
                    replace hx243_0 := (HB.out.cell (World.block_lt_of_cell? w _ hx243_0)).trans hx243_0
                    replace hx243_1 := (HB.out.cell (World.block_lt_of_cell? w _ hx243_1)).trans hx243_1
                    have HR243_1 := Aside0.mk hi243_1
                    have HC243_1 := Aside0.mk hl243_1
                    clear hi243_1 hl243_1
                    replace p243 := eq_true p243
                    replace q243 := eq_true q243
                    have ea_ := Option.some.inj (hx242_1.symm.trans hx243_1)
                    injection ea_ with ea_ en_ ec_
                    subst ea_
                    subst ec_
                    clear en_
                    have p244 : 0 ≤ (x5_2 : Int) := of_decide_eq_true (by first | (with_reducible assumption) | assumption)
                    have q244 : x5_2 < (((rd_T46 l0_1 x4_1).f1).length : Int) := of_decide_eq_true (by first | (with_reducible assumption) | assumption)
                    obtain ⟨ad244, e244, hx244_0⟩ := Kd.at_int HR243_1.out x5_2 p244 q244
                    cases e244
                    replace hx244_0 := (HB.out.cell (World.block_lt_of_cell? w _ hx244_0)).trans hx244_0
                    replace p244 := eq_true p244
                    replace q244 := eq_true q244
                    go_wp2
                    go_loopg [7] k2 (fun kq v7 w' => ∃ (x7_3 : Int), v7 = .int .i64 x7_3 ∧ Aside0 (marlinspikeref07_Jobs.l2 kq x3_2 x4_1 x5_2 (rd ((rd_T46 l0_1 x4_1).f1) x5_2) x7_3 a0_0 l0_1 = some r) ∧ Aside0 (kq ≤ k2) ∧ Aside0 (Kd.R (Kd.int .i64) 3 w' w.heap.size (fun _ => True) u3 x3_2) ∧ Aside0 (w'.heap[gb241]? = some (.cells #[.bool a0_0, (.slice (some ad242) l0_1.length c0_1)] 24 (0, 0))) ∧ Aside0 (Below w.heap.size w w'))
                    case atStart => exact ⟨(0), (by first | rfl | (simp; done) | (simp [*]; done)), H', ⟨Nat.le_refl _⟩, ⟨by (with_reducible repeat (first | apply Kd.R_alloc | apply Kd.R_drewN | apply Kd.R_drew)); exact HO_3.out⟩, ⟨by (with_reducible repeat (first | refine blk_drewN ?_ _ | refine blk_drew ?_ | refine blk_alloc ?_ _)); exact BK241.out⟩, ⟨by repeat (first | (with_reducible first | exact HB.out | apply below_alloc | apply pw_below_drewN | apply below_drew1 | refine below_set ?_ GE241.out) | exact HB.out)⟩⟩
                    case round =>
                      clear H'
                      try clear c2
                      try clear p2
                      try clear q2
                      try clear hx2
                      try clear c3
                      try clear c3b0
                      try clear c5
                      try clear c5b0
                      try clear c6
                      try clear c6b0
                      try clear c7
                      try clear c7b0
                      try clear c8
                      try clear c8b0
                      try clear hcz4_0
                      try clear hcz4_1
                      try clear hcz9_0
                      try clear hcz9_1
                      try clear hfz4_0
                      try clear hfz4_1
                      try clear hfz9_0
                      try clear hfz9_1
                      try clear hx242_0
                      try clear hx242_1
                      try clear hx243_0
                      try clear hx243_1
                      try clear hx244_0
                      try clear p2
                      try clear p242
                      try clear p243
                      try clear p244
                      try clear q242
                      try clear q243
                      try clear q244
                      obtain ⟨x7_3, rfl, HA, HK3, HO_3, BK241, HB⟩ := hrel
                      cases gk with
                      | zero => exact absurd HA.out (by simp [marlinspikeref07_Jobs.l2])
                      | succ k3 =>
                        have H := HA.out
                        clear HA
                        simp only [marlinspikeref07_Jobs.l2] at H
                        by_cases c10 : x7_3 < (x3_2.length : Int)
                        · rw [if_pos c10] at H
                          have c10b0 : decide (x7_3 < (x3_2.length : Int)) = true := decide_eq_true c10
                          clear c10
                          by_cases c11 : 0 ≤ x7_3
                          · rw [if_pos c11] at H
                            have c11b0 : decide (0 ≤ x7_3) = true := decide_eq_true c11
                            clear c11
                            by_cases c12 : (rd x3_2 x7_3) < (rd ((rd_T46 l0_1 x4_1).f1) x5_2)
                            · rw [if_pos c12] at H
                              have c12b0 : decide ((rd x3_2 x7_3) < (rd ((rd_T46 l0_1 x4_1).f1) x5_2)) = true := decide_eq_true c12
                              clear c12
                              have H' := Aside0.mk H
                              clear H
                              obtain ⟨Ao13, co13, eo13⟩ := Kd.R_slice HO_3.out
                              subst eo13
                              have p245 : 0 ≤ (x7_3 : Int) := of_decide_eq_true (by first | (with_reducible assumption) | assumption)
                              have q245 : x7_3 < (x3_2.length : Int) := of_decide_eq_true (by first | (with_reducible assumption) | assumption)
                              obtain ⟨ad245, e245, hx245_0⟩ := Kd.at_int (Kd.R_reads' HO_3.out).2.2 x7_3 p245 q245
                              cases e245
                              replace p245 := eq_true p245
                              replace q245 := eq_true q245
                              go_wp2
                              go_roundg k3
                              case measure => have := HK1.out; have := HK2.out; have := HK3.out; omega
                              case rel => exact ⟨(wrap64 (x7_3 + 1)), (by first | rfl | (simp; done) | (simp [*]; done)), H', ⟨by have := HK1.out; have := HK2.out; have := HK3.out; omega⟩, ⟨by (with_reducible repeat (first | apply Kd.R_alloc | apply Kd.R_drewN | apply Kd.R_drew)); exact HO_3.out⟩, ⟨by (with_reducible repeat (first | refine blk_drewN ?_ _ | refine blk_drew ?_ | refine blk_alloc ?_ _)); exact BK241.out⟩, ⟨by repeat (first | (with_reducible first | exact HB.out | apply below_alloc | apply pw_below_drewN | apply below_drew1 | refine below_set ?_ GE241.out) | exact HB.out)⟩⟩
                            · rw [if_neg c12] at H
                              have c12b0 : decide ((rd x3_2 x7_3) < (rd ((rd_T46 l0_1 x4_1).f1) x5_2)) = false := decide_eq_false c12
                              clear c12
                              by_cases c14 : (rd x3_2 x7_3) = (rd ((rd_T46 l0_1 x4_1).f1) x5_2)
                              · rw [if_pos c14] at H
                                have c14b0 : ((rd x3_2 x7_3) == (rd ((rd_T46 l0_1 x4_1).f1) x5_2)) = true := beq_iff_eq.mpr c14
                                have c14b1 : ((rd x3_2 x7_3) != (rd ((rd_T46 l0_1 x4_1).f1) x5_2)) = false := bne_eq_false_iff_eq.mpr c14
                                clear c14
                                have H' := Aside0.mk H
                                clear H
                                obtain ⟨Ao15, co15, eo15⟩ := Kd.R_slice HO_3.out
                                subst eo15
                                have p245 : 0 ≤ (x7_3 : Int) := of_decide_eq_true (by first | (with_reducible assumption) | assumption)
                                have q245 : x7_3 < (x3_2.length : Int) := of_decide_eq_true (by first | (with_reducible assumption) | assumption)
                                obtain ⟨ad245, e245, hx245_0⟩ := Kd.at_int (Kd.R_reads' HO_3.out).2.2 x7_3 p245 q245
                                cases e245
                                replace p245 := eq_true p245
                                replace q245 := eq_true q245
                                have p246 : 0 ≤ (x7_3 : Int) := of_decide_eq_true (by first | (with_reducible assumption) | assumption)
                                have q246 : x7_3 < (x3_2.length : Int) := of_decide_eq_true (by first | (with_reducible assumption) | assumption)
                                obtain ⟨ad246, e246, hx246_0⟩ := Kd.at_int (Kd.R_reads' HO_3.out).2.2 x7_3 p246 q246
                                obtain rfl : ad245 = ad246 := (by injection e246)
                                replace p246 := eq_true p246
                                replace q246 := eq_true q246
                                go_wp2
                                go_roundg k3
                                case measure => have := HK1.out; have := HK2.out; have := HK3.out; omega
                                case rel => exact ⟨(x3_2), (wrap64 (x5_2 + 1)), (by first | rfl | (simp; done) | (simp [*]; done)), H', ⟨by have := HK1.out; have := HK2.out; have := HK3.out; omega⟩, ⟨by (with_reducible repeat (first | apply Kd.R_alloc | apply Kd.R_drewN | apply Kd.R_drew)); exact HO_3.out⟩, ⟨by (with_reducible repeat (first | refine blk_drewN ?_ _ | refine blk_drew ?_ | refine blk_alloc ?_ _)); exact BK241.out⟩, ⟨by repeat (first | (with_reducible first | exact HB.out | apply below_alloc | apply pw_below_drewN | apply below_drew1 | refine below_set ?_ GE241.out) | exact HB.out)⟩⟩
                              · rw [if_neg c14] at H
                                have c14b0 : ((rd x3_2 x7_3) == (rd ((rd_T46 l0_1 x4_1).f1) x5_2)) = false := beq_eq_false_iff_ne.mpr c14
                                have c14b1 : ((rd x3_2 x7_3) != (rd ((rd_T46 l0_1 x4_1).f1) x5_2)) = true := bne_iff_ne.mpr c14
                                by_cases c16 : x3_2.length < 17592186044416
                                · rw [if_pos c16] at H
                                  have LMc16 := Aside0.mk c16
                                  clear c16
                                  obtain ⟨y247, hy247⟩ : ∃ y_ : List Int, y_ = (insAt x3_2 x7_3 (rd ((rd_T46 l0_1 x4_1).f1) x5_2)) := ⟨_, rfl⟩
                                  replace H : (marlinspikeref07_Jobs.l1 k3 y247 x4_1 (wrap64 (x5_2 + 1)) a0_0 l0_1) = some r := by first | (rw [hy247]; with_reducible exact H) | (have H2_ := (Option.bind_some _ _).symm.trans H; rw [hy247]; with_reducible exact H2_) | (have H2_ := (Option.bind_some _ _).symm.trans H; with_reducible exact H2_) | with_reducible exact H | (rw [hy247]; exact H) | exact H
                                  have Ny247 := Aside0.mk hy247
                                  clear hy247
                                  have H' := Aside0.mk H
                                  clear H
                                  obtain ⟨Ao17, co17, eo17⟩ := Kd.R_slice HO_3.out
                                  subst eo17
                                  have p245 : 0 ≤ (x7_3 : Int) := of_decide_eq_true (by first | (with_reducible assumption) | assumption)
                                  have q245 : x7_3 < (x3_2.length : Int) := of_decide_eq_true (by first | (with_reducible assumption) | assumption)
                                  obtain ⟨ad245, e245, hx245_0⟩ := Kd.at_int (Kd.R_reads' HO_3.out).2.2 x7_3 p245 q245
                                  cases e245
                                  replace p245 := eq_true p245
                                  replace q245 := eq_true q245
                                  have p246 : 0 ≤ (x7_3 : Int) := of_decide_eq_true (by first | (with_reducible assumption) | assumption)
                                  have q246 : x7_3 < (x3_2.length : Int) := of_decide_eq_true (by first | (with_reducible assumption) | assumption)
                                  obtain ⟨ad246, e246, hx246_0⟩ := Kd.at_int (Kd.R_reads' HO_3.out).2.2 x7_3 p246 q246
                                  obtain rfl : ad245 = ad246 := (by injection e246)
                                  replace p246 := eq_true p246
                                  replace q246 := eq_true q246
                                  have hm0 : 0 ≤ x7_3 := of_eq_true p245
                                  have hmle : x7_3 ≤ (x3_2.length : Int) := Int.le_of_lt (of_eq_true q245)
                                  have hcap3 : x3_2.length ≤ co17 := (Kd.R_reads' HO_3.out).2.1
                                  obtain ⟨i0, hi0, _, hsz0, _⟩ := info_parts info3
                                  have cutT := cut_to (P := Tryd.prog) 44 3 .i64 Tryd.underlying44 hi0 (some ad245) x3_2.length co17 x7_3 hm0 hmle hcap3
                                  have cutF := cut_from (P := Tryd.prog) 44 3 .i64 Tryd.underlying44 hi0 1 hsz0 (some ad245) x3_2.length co17 x7_3 hm0 hmle
                                  have hlt_ : (x3_2.take x7_3.toNat).length = x7_3.toNat := by rw [List.length_take]; omega
                                  have hld_ : (x3_2.drop x7_3.toNat).length = x3_2.length - x7_3.toNat := List.length_drop
                                  obtain ⟨AD, hAD⟩ : ∃ AD, (if co17 = x7_3.toNat then (some ad245) else Option.map (fun z => z.add (x7_3.toNat * 1)) (some ad245)) = AD := ⟨_, rfl⟩
                                  obtain ⟨m2, hm2⟩ : ∃ m2, x3_2.length - x7_3.toNat = m2 := ⟨_, rfl⟩
                                  obtain ⟨cc2, hcc2⟩ : ∃ cc2, co17 - x7_3.toNat = cc2 := ⟨_, rfl⟩
                                  have hm2le : m2 ≤ x3_2.length := by omega
                                  rw [hAD, hm2, hcc2] at cutF
                                  rw [hm2] at hld_
                                  have CT : Aside0 (Kd.C (Kd.int .i64) wr (some ad245) x7_3.toNat (x3_2.take x7_3.toNat)) := ⟨by have h := Kd.C_take (m := x7_3.toNat) (Kd.R_reads' HO_3.out).2.2 (by omega); rw [hlt_] at h; exact h⟩
                                  have CD : Aside0 (Kd.C (Kd.int .i64) wr AD m2 (x3_2.drop x7_3.toNat)) := ⟨by have h := Kd.C_drop (m := x7_3.toNat) (Kd.R_reads' HO_3.out).2.2 (by omega) hcap3; rw [hld_, show (Kd.int .i64).sz = 1 from rfl, hAD] at h; exact h⟩
                                  have HLT := Aside0.mk hlt_
                                  have HLM := Aside0.mk (show x7_3.toNat + m2 ≤ x3_2.length from by omega)
                                  clear hAD hm2 hcc2 hlt_ hld_
                                  have LX := Aside0.mk (show x3_2.length < 17592186044416 from by first | exact LMc16.out | exact LMc19.out)
                                  go_wp2_with fail
                                  refine start_ (n := 12) (S := fun _ => True) (ds := []) #[false, false, false, false, false, false, false, false, false, false, false, false] (by kernel_rfl) rfl rfl trivial (fun hHeld => ?_)
                                  have HBd := Aside0.mk (below_drew HB.out)
                                  have BKd := Aside0.mk (blk_drew BK241.out)
                                  replace CT := Aside0.mk (Kd.C_below CT.out (below_drew (Below.refl _ _)))
                                  replace CD := Aside0.mk (Kd.C_below CD.out (below_drew (Below.refl _ _)))
                                  generalize wr.drew = wd at HBd BKd CT CD hHeld ⊢
                                  refine pure_ (i := 0) (N := some 61) (v := ?_) (a' := ?_) #[true, false, false, false, false, false, false, false, false, false, false, false] rfl rfl (by kernel_rfl) (fun _ _ _ h => h) (Or.inl ⟨by rfl, ?_⟩) ?_ ?_
                                  rotate_left
                                  · intro w'
                                    go_simp
                                    with_reducible rfl
                                  rotate_left
                                  · simp only [Act.put, List.setIfInBounds_toArray, List.set_cons_zero, List.set_cons_succ, i64_w, i32_w]
                                    rfl
                                  refine pure_ (i := 1) (N := some 62) (v := ?_) (a' := ?_) #[true, true, false, false, false, false, false, false, false, false, false, false] rfl rfl (by kernel_rfl) (fun _ _ _ h => h) (Or.inl ⟨by rfl, ?_⟩) ?_ ?_
                                  rotate_left
                                  · intro w'
                                    go_simp
                                    with_reducible rfl
                                  rotate_left
                                  · simp only [Act.put, List.setIfInBounds_toArray, List.set_cons_zero, List.set_cons_succ, i64_w, i32_w]
                                    rfl
                                  refine pure_ (i := 2) (N := some 63) (v := ?_) (a' := ?_) #[true, true, true, false, false, false, false, false, false, false, false, false] rfl rfl (by kernel_rfl) (fun _ _ _ h => h) (Or.inl ⟨by rfl, ?_⟩) ?_ ?_
                                  rotate_left
                                  · intro w'
                                    go_simp
                                    with_reducible rfl
                                  rotate_left
                                  · simp only [Act.put, List.setIfInBounds_toArray, List.set_cons_zero, List.set_cons_succ, i64_w, i32_w]
                                    rfl
                                  refine pure_ (i := 4) (N := some 65) (v := ?_) (a' := ?_) #[true, true, true, false, true, false, false, false, false, false, false, false] rfl rfl (by kernel_rfl) (fun _ _ _ h => h) (Or.inl ⟨by rfl, ?_⟩) ?_ ?_
                                  rotate_left
                                  · intro w'
                                    go_simp
                                    with_reducible rfl
                                  rotate_left
                                  · simp only [Act.put, List.setIfInBounds_toArray, List.set_cons_zero, List.set_cons_succ, i64_w, i32_w]
                                    rfl
                                  refine pure_ (i := 7) (N := some 68) (v := ?_) (a' := ?_) #[true, true, true, false, true, false, false, true, false, false, false, false] rfl rfl (by kernel_rfl) (fun _ _ _ h => h) (Or.inl ⟨by rfl, ?_⟩) ?_ ?_
                                  rotate_left
                                  · intro w'
                                    go_simp
                                    with_reducible rfl
                                  rotate_left
                                  · simp only [Act.put, List.setIfInBounds_toArray, List.set_cons_zero, List.set_cons_succ, i64_w, i32_w]
                                    rfl
                                  refine pure_ (i := 8) (N := some 69) (v := ?_) (a' := ?_) #[true, true, true, false, true, false, false, true, true, false, false, false] rfl rfl (by kernel_rfl) (fun _ _ _ h => h) (Or.inl ⟨by rfl, ?_⟩) ?_ ?_
                                  rotate_left
                                  · intro w'
                                    go_simp
                                    with_reducible rfl
                                  rotate_left
                                  · simp only [Act.put, List.setIfInBounds_toArray, List.set_cons_zero, List.set_cons_succ, i64_w, i32_w]
                                    rfl
                                  refine pure_ (i := 9) (N := some 70) (v := ?_) (a' := ?_) #[true, true, true, false, true, false, false, true, true, true, false, false] rfl rfl (by kernel_rfl) (fun _ _ _ h => h) (Or.inl ⟨by rfl, ?_⟩) ?_ ?_
                                  rotate_left
                                  · intro w'
                                    go_simp
                                    with_reducible rfl
                                  rotate_left
                                  · simp only [Act.put, List.setIfInBounds_toArray, List.set_cons_zero, List.set_cons_succ, i64_w, i32_w]
                                    rfl
                                  refine join_ (σ := Value × Nat) 3 #[true, true, true, true, true, true, false, true, true, true, false, false] (fun s => [(64, s.1), (66, .slice (some ⟨s.2, 0, none⟩) 1 1)]) (fun s w' => Kd.R (Kd.int .i64) 3 w' w.heap.size (fun _ => True) s.1 (x3_2.take x7_3.toNat) ∧ w'.cell? ⟨s.2, 0, none⟩ = some (.int .i64 (rd ((rd_T46 l0_1 x4_1).f1) x5_2)) ∧ Below wd.heap.size wd w' ∧ (∀ k, s.1.ownBlock = some k → wd.heap.size ≤ k)) ?contHO249 ?ordersHO249
                                  case ordersHO249 =>
                                    intro J
                                    refine two_ (i := 3) (j := 5) (Ni := some 64) (Nj := some 66) #[true, true, true, true, true, false, false, true, true, true, false, false] #[true, true, true, false, true, true, false, true, true, true, false, false] rfl rfl rfl rfl (by kernel_rfl) (by decide) (by decide) (fun K hK => ?_) (fun K hK => ?_)
                                    · refine Kd.R_append_rows_step (Kd.int .i64) (Rr := fun z cs => cs = [.int .i64 z]) (w0 := w) w.heap.size (by rfl) (.const (.slice none 0 0)) (.tmp 63) 44 3 (.int .i64 0) 8 rfl Tryd.underlying44 info3 rfl (by decide) (by decide) (.slice none 0 0) [] (x3_2.take x7_3.toNat) (some ad245) x7_3.toNat co17 (fun _ => True) (fun _ => False) (by rfl) (by rfl) (Kd.R_nil _ _ _ _ _) CT.out (fun _ _ h => h) (fun _ h => h.elim) (fun _ _ => trivial) HBd.out (HBd.out).size (by have := LX.out; simp only [List.length_nil]; omega) ?_
                                      intro v1 w1 ho hb hg hat
                                      refine hK.out _ _ trivial (fun _ => ?_)
                                      clear hK K
                                      refine norm_ (a' := ?_) ?_ ?_
                                      rotate_left
                                      · show Act.put _ (some 64) _ = _
                                        simp only [Act.put, List.setIfInBounds_toArray, List.set_cons_zero, List.set_cons_succ, i64_w, i32_w]
                                        rfl
                                      refine one_ (i := 5) (N := some 66) #[true, true, true, true, true, true, false, true, true, true, false, false] rfl rfl (by kernel_rfl) (by decide) (fun K hK => ?_)
                                      refine value_ (w1 := ?_) (v := ?_) (by rfl) rfl ?_ ?_
                                      rotate_left 2
                                      · go_simp
                                        constructor
                                        · rfl
                                        · rfl
                                      refine hK.out _ _ trivial (fun _ => ?_)
                                      clear hK K
                                      have hs_ : Below wd.heap.size wd w1 := (Below.refl wd.heap.size wd).grown hg (Nat.le_refl _) (fun k hk => by cases hk)
                                      have ha_ : ∀ k, v1.ownBlock = some k → wd.heap.size ≤ k := fun k hk => by
                                        rcases hat with h | ⟨b, h, hl⟩
                                        · rw [hk] at h; cases h
                                        · rw [hk] at h; injection h with h; omega
                                      exact J (v1, w1.heap.size) _ ⟨Kd.R_alloc ho _, (blk_cell (blk_new w1 _) 0).trans rfl, below_alloc hs_ _, ha_⟩
                                    · refine value_ (w1 := ?_) (v := ?_) (by rfl) rfl ?_ ?_
                                      rotate_left 2
                                      · go_simp
                                        constructor
                                        · rfl
                                        · rfl
                                      refine hK.out _ _ trivial (fun _ => ?_)
                                      clear hK K
                                      refine norm_ (a' := ?_) ?_ ?_
                                      rotate_left
                                      · show Act.put _ (some 66) _ = _
                                        simp only [Act.put, List.setIfInBounds_toArray, List.set_cons_zero, List.set_cons_succ, i64_w, i32_w]
                                        rfl
                                      refine one_ (i := 3) (N := some 64) #[true, true, true, true, true, true, false, true, true, true, false, false] rfl rfl (by kernel_rfl) (by decide) (fun K hK => ?_)
                                      refine Kd.R_append_rows_step (Kd.int .i64) (Rr := fun z cs => cs = [.int .i64 z]) (w0 := w) w.heap.size (by rfl) (.const (.slice none 0 0)) (.tmp 63) 44 3 (.int .i64 0) 8 rfl Tryd.underlying44 info3 rfl (by decide) (by decide) (.slice none 0 0) [] (x3_2.take x7_3.toNat) (some ad245) x7_3.toNat co17 (fun _ => True) (fun _ => False) (by rfl) (by rfl) (Kd.R_nil _ _ _ _ _) (Kd.C_alloc CT.out _) (fun _ _ h => h) (fun _ h => h.elim) (fun _ _ => trivial) (below_alloc HBd.out _) ((below_alloc HBd.out _)).size (by have := LX.out; simp only [List.length_nil]; omega) ?_
                                      intro v1 w1 ho hb hg hat
                                      refine hK.out _ _ trivial (fun _ => ?_)
                                      clear hK K
                                      have hs_ : Below wd.heap.size wd w1 := (below_alloc (Below.refl wd.heap.size wd) _).grown hg (by simp) (fun k hk => by cases hk)
                                      have ha_ : ∀ k, v1.ownBlock = some k → wd.heap.size ≤ k := fun k hk => by
                                        rcases hat with h | ⟨b, h, hl⟩
                                        · rw [hk] at h; cases h
                                        · rw [hk] at h; injection h with h; rw [World.size_alloc] at hl; omega
                                      exact J (v1, wd.heap.size) _ ⟨ho, (blk_cell (blk_grown (blk_new wd _) hg (by simp [Value.ownBlock])) 0).trans rfl, hs_, ha_⟩
                                  rintro ⟨u64, b66⟩ w5 ⟨ho5, hc66, hs5, ha5⟩
                                  simp only [putAll]
                                  refine norm_ (a' := ?_) ?_ ?_
                                  rotate_left
                                  · simp only [Act.put, List.setIfInBounds_toArray, List.set_cons_zero, List.set_cons_succ, i64_w, i32_w]
                                    rfl
                                  refine one_ (i := 6) (N := some 67) #[true, true, true, true, true, true, true, true, true, true, false, false] rfl rfl (by kernel_rfl) (by decide) (fun K hK => ?_)
                                  refine Kd.R_append_rows_step (Kd.int .i64) (Rr := fun z cs => cs = [.int .i64 z]) (w0 := w) w.heap.size (by rfl) (.tmp 64) (.tmp 66) 44 3 (.int .i64 0) 8 rfl Tryd.underlying44 info3 rfl (by decide) (by decide) u64 (x3_2.take x7_3.toNat) [(rd ((rd_T46 l0_1 x4_1).f1) x5_2)] (some ⟨b66, 0, none⟩) 1 1 (fun _ => True) (fun _ => False) (by rfl) (by rfl) ho5 (row_one hc66) (fun _ _ h => h) (fun _ h => h.elim) (fun _ _ => trivial) (below_then HBd.out HBd.out.size hs5) (below_then HBd.out HBd.out.size hs5).size (by have := LX.out; have := HLT.out; omega) ?_
                                  intro v6 w6 ho6 hb6 hg6 hat6
                                  refine hK.out _ _ trivial (fun _ => ?_)
                                  clear hK K
                                  refine norm_ (a' := ?_) ?_ ?_
                                  rotate_left
                                  · show Act.put _ (some 67) _ = _
                                    simp only [Act.put, List.setIfInBounds_toArray, List.set_cons_zero, List.set_cons_succ, i64_w, i32_w]
                                    rfl
                                  have hs6 : Below wd.heap.size wd w6 := hs5.grown hg6 hs5.size (fun k hk => ha5 k hk)
                                  refine one_ (i := 10) (N := some 71) #[true, true, true, true, true, true, true, true, true, true, true, false] rfl rfl (by kernel_rfl) (by decide) (fun K hK => ?_)
                                  refine Kd.R_append_rows_step (Kd.int .i64) (Rr := fun z cs => cs = [.int .i64 z]) (w0 := w) w.heap.size (by rfl) (.tmp 67) (.tmp 70) 44 3 (.int .i64 0) 8 rfl Tryd.underlying44 info3 rfl (by decide) (by decide) v6 (x3_2.take x7_3.toNat ++ [(rd ((rd_T46 l0_1 x4_1).f1) x5_2)]) (x3_2.drop x7_3.toNat) AD m2 cc2 (fun _ => True) (fun _ => False) (by rfl) (by rfl) ho6 (Kd.C_below CD.out hs6) (fun _ _ h => h) (fun _ h => h.elim) (fun _ _ => trivial) hb6 hb6.size (by have := LX.out; have := HLT.out; have := HLM.out; simp only [List.length_append, List.length_cons, List.length_nil]; omega) ?_
                                  intro v7 w7 ho7 hb7 hg7 hat7
                                  refine hK.out _ _ trivial (fun _ => ?_)
                                  clear hK K
                                  refine norm_ (a' := ?_) ?_ ?_
                                  rotate_left
                                  · show Act.put _ (some 71) _ = _
                                    simp only [Act.put, List.setIfInBounds_toArray, List.set_cons_zero, List.set_cons_succ, i64_w, i32_w]
                                    rfl
                                  refine pure_ (i := 11) (N := some 3) (v := ?_) (a' := ?_) #[true, true, true, true, true, true, true, true, true, true, true, true] rfl rfl (by kernel_rfl) (fun _ _ _ h => h) (Or.inl ⟨by rfl, ?_⟩) ?_ ?_
                                  rotate_left
                                  · intro w'
                                    go_simp
                                    with_reducible rfl
                                  rotate_left
                                  · simp only [Act.put, List.setIfInBounds_toArray, List.set_cons_zero, List.set_cons_succ, i64_w, i32_w]
                                    rfl
                                  refine done_ (by kernel_rfl) ?_
                                  have hs7 : Below wd.heap.size wd w7 := hs6.grown hg7 hs6.size (fun k hk => by
                                    rcases hat6 with h | ⟨b, h, hl⟩
                                    · exact ha5 k (by rw [← h]; exact hk)
                                    · rw [hk] at h; injection h with h; have := hs5.size; omega)
                                  have n0_ := Aside0.mk (blk_below BKd.out hs7)
                                  have HO249 : Aside0 (Kd.R (Kd.int .i64) 3 w7 w.heap.size (fun _ => True) v7 y247) := ⟨by rw [Ny247.out]; unfold insAt; rw [List.append_cons]; exact ho7⟩
                                  clear HB BK241 HO_3
                                  have HB := Aside0.mk hb7
                                  have BK241 := n0_
                                  clear n0_ ho7 hb7 hs7 hs6 hs5 ho6 hb6 ho5 hc66 cutT cutF
                                  try go_wp2
                                  go_roundg k3
                                  case measure => have := HK1.out; have := HK2.out; have := HK3.out; omega
                                  case rel => exact ⟨(y247), (wrap64 (x5_2 + 1)), (by first | rfl | (simp; done) | (simp [*]; done)), H', ⟨by have := HK1.out; have := HK2.out; have := HK3.out; omega⟩, ⟨by (with_reducible repeat (first | apply Kd.R_alloc | apply Kd.R_drewN | apply Kd.R_drew)); exact HO249.out⟩, ⟨by (with_reducible repeat (first | refine blk_drewN ?_ _ | refine blk_drew ?_ | refine blk_alloc ?_ _)); exact BK241.out⟩, ⟨by repeat (first | (with_reducible first | exact HB.out | apply below_alloc | apply pw_below_drewN | apply below_drew1 | refine below_set ?_ GE241.out) | exact HB.out)⟩⟩
                                · rw [if_neg c16] at H
                                  exact absurd H (by simp)
                          · rw [if_neg c11] at H
                            exact absurd H (by simp)
                        · rw [if_neg c10] at H
                          have c10b0 : decide (x7_3 < (x3_2.length : Int)) = false := decide_eq_false c10
                          clear c10
                          by_cases c18 : x7_3 = (x3_2.length : Int)
                          · rw [if_pos c18] at H
                            by_cases c19 : x3_2.length < 17592186044416
                            · rw [if_pos c19] at H
                              have LMc19 := Aside0.mk c19
                              clear c19
                              obtain ⟨y250, hy250⟩ : ∃ y_ : List Int, y_ = (insAt x3_2 x7_3 (rd ((rd_T46 l0_1 x4_1).f1) x5_2)) := ⟨_, rfl⟩
                              replace H : (marlinspikeref07_Jobs.l1 k3 y250 x4_1 (wrap64 (x5_2 + 1)) a0_0 l0_1) = some r := by first | (rw [hy250]; with_reducible exact H) | (have H2_ := (Option.bind_some _ _).symm.trans H; rw [hy250]; with_reducible exact H2_) | (have H2_ := (Option.bind_some _ _).symm.trans H; with_reducible exact H2_) | with_reducible exact H | (rw [hy250]; exact H) | exact H
                              have Ny250 := Aside0.mk hy250
                              clear hy250
                              have H' := Aside0.mk H
                              clear H
                              obtain ⟨Ao20, co20, eo20⟩ := Kd.R_slice HO_3.out
                              subst eo20
                              have hm0 : 0 ≤ x7_3 := by omega
                              have hmle : x7_3 ≤ (x3_2.length : Int) := by omega
                              clear c18
                              have hcap3 : x3_2.length ≤ co20 := (Kd.R_reads' HO_3.out).2.1
                              obtain ⟨i0, hi0, _, hsz0, _⟩ := info_parts info3
                              have cutT := cut_to (P := Tryd.prog) 44 3 .i64 Tryd.underlying44 hi0 Ao20 x3_2.length co20 x7_3 hm0 hmle hcap3
                              have cutF := cut_from (P := Tryd.prog) 44 3 .i64 Tryd.underlying44 hi0 1 hsz0 Ao20 x3_2.length co20 x7_3 hm0 hmle
                              have hlt_ : (x3_2.take x7_3.toNat).length = x7_3.toNat := by rw [List.length_take]; omega
                              have hld_ : (x3_2.drop x7_3.toNat).length = x3_2.length - x7_3.toNat := List.length_drop
                              obtain ⟨AD, hAD⟩ : ∃ AD, (if co20 = x7_3.toNat then Ao20 else Option.map (fun z => z.add (x7_3.toNat * 1)) Ao20) = AD := ⟨_, rfl⟩
                              obtain ⟨m2, hm2⟩ : ∃ m2, x3_2.length - x7_3.toNat = m2 := ⟨_, rfl⟩
                              obtain ⟨cc2, hcc2⟩ : ∃ cc2, co20 - x7_3.toNat = cc2 := ⟨_, rfl⟩
                              have hm2le : m2 ≤ x3_2.length := by omega
                              rw [hAD, hm2, hcc2] at cutF
                              rw [hm2] at hld_
                              have CT : Aside0 (Kd.C (Kd.int .i64) wr Ao20 x7_3.toNat (x3_2.take x7_3.toNat)) := ⟨by have h := Kd.C_take (m := x7_3.toNat) (Kd.R_reads' HO_3.out).2.2 (by omega); rw [hlt_] at h; exact h⟩
                              have CD : Aside0 (Kd.C (Kd.int .i64) wr AD m2 (x3_2.drop x7_3.toNat)) := ⟨by have h := Kd.C_drop (m := x7_3.toNat) (Kd.R_reads' HO_3.out).2.2 (by omega) hcap3; rw [hld_, show (Kd.int .i64).sz = 1 from rfl, hAD] at h; exact h⟩
                              have HLT := Aside0.mk hlt_
                              have HLM := Aside0.mk (show x7_3.toNat + m2 ≤ x3_2.length from by omega)
                              clear hAD hm2 hcc2 hlt_ hld_
                              have LX := Aside0.mk (show x3_2.length < 17592186044416 from by first | exact LMc16.out | exact LMc19.out)
                              go_wp2_with fail
                              refine start_ (n := 12) (S := fun _ => True) (ds := []) #[false, false, false, false, false, false, false, false, false, false, false, false] (by kernel_rfl) rfl rfl trivial (fun hHeld => ?_)
                              have HBd := Aside0.mk (below_drew HB.out)
                              have BKd := Aside0.mk (blk_drew BK241.out)
                              replace CT := Aside0.mk (Kd.C_below CT.out (below_drew (Below.refl _ _)))
                              replace CD := Aside0.mk (Kd.C_below CD.out (below_drew (Below.refl _ _)))
                              generalize wr.drew = wd at HBd BKd CT CD hHeld ⊢
                              refine pure_ (i := 0) (N := some 61) (v := ?_) (a' := ?_) #[true, false, false, false, false, false, false, false, false, false, false, false] rfl rfl (by kernel_rfl) (fun _ _ _ h => h) (Or.inl ⟨by rfl, ?_⟩) ?_ ?_
                              rotate_left
                              · intro w'
                                go_simp
                                with_reducible rfl
                              rotate_left
                              · simp only [Act.put, List.setIfInBounds_toArray, List.set_cons_zero, List.set_cons_succ, i64_w, i32_w]
                                rfl
                              refine pure_ (i := 1) (N := some 62) (v := ?_) (a' := ?_) #[true, true, false, false, false, false, false, false, false, false, false, false] rfl rfl (by kernel_rfl) (fun _ _ _ h => h) (Or.inl ⟨by rfl, ?_⟩) ?_ ?_
                              rotate_left
                              · intro w'
                                go_simp
                                with_reducible rfl
                              rotate_left
                              · simp only [Act.put, List.setIfInBounds_toArray, List.set_cons_zero, List.set_cons_succ, i64_w, i32_w]
                                rfl
                              refine pure_ (i := 2) (N := some 63) (v := ?_) (a' := ?_) #[true, true, true, false, false, false, false, false, false, false, false, false] rfl rfl (by kernel_rfl) (fun _ _ _ h => h) (Or.inl ⟨by rfl, ?_⟩) ?_ ?_
                              rotate_left
                              · intro w'
                                go_simp
                                with_reducible rfl
                              rotate_left
                              · simp only [Act.put, List.setIfInBounds_toArray, List.set_cons_zero, List.set_cons_succ, i64_w, i32_w]
                                rfl
                              refine pure_ (i := 4) (N := some 65) (v := ?_) (a' := ?_) #[true, true, true, false, true, false, false, false, false, false, false, false] rfl rfl (by kernel_rfl) (fun _ _ _ h => h) (Or.inl ⟨by rfl, ?_⟩) ?_ ?_
                              rotate_left
                              · intro w'
                                go_simp
                                with_reducible rfl
                              rotate_left
                              · simp only [Act.put, List.setIfInBounds_toArray, List.set_cons_zero, List.set_cons_succ, i64_w, i32_w]
                                rfl
                              refine pure_ (i := 7) (N := some 68) (v := ?_) (a' := ?_) #[true, true, true, false, true, false, false, true, false, false, false, false] rfl rfl (by kernel_rfl) (fun _ _ _ h => h) (Or.inl ⟨by rfl, ?_⟩) ?_ ?_
                              rotate_left
                              · intro w'
                                go_simp
                                with_reducible rfl
                              rotate_left
                              · simp only [Act.put, List.setIfInBounds_toArray, List.set_cons_zero, List.set_cons_succ, i64_w, i32_w]
                                rfl
                              refine pure_ (i := 8) (N := some 69) (v := ?_) (a' := ?_) #[true, true, true, false, true, false, false, true, true, false, false, false] rfl rfl (by kernel_rfl) (fun _ _ _ h => h) (Or.inl ⟨by rfl, ?_⟩) ?_ ?_
                              rotate_left
                              · intro w'
                                go_simp
                                with_reducible rfl
                              rotate_left
                              · simp only [Act.put, List.setIfInBounds_toArray, List.set_cons_zero, List.set_cons_succ, i64_w, i32_w]
                                rfl
                              refine pure_ (i := 9) (N := some 70) (v := ?_) (a' := ?_) #[true, true, true, false, true, false, false, true, true, true, false, false] rfl rfl (by kernel_rfl) (fun _ _ _ h => h) (Or.inl ⟨by rfl, ?_⟩) ?_ ?_
                              rotate_left
                              · intro w'
                                go_simp
                                with_reducible rfl
                              rotate_left
                              · simp only [Act.put, List.setIfInBounds_toArray, List.set_cons_zero, List.set_cons_succ, i64_w, i32_w]
                                rfl
                              refine join_ (σ := Value × Nat) 3 #[true, true, true, true, true, true, false, true, true, true, false, false] (fun s => [(64, s.1), (66, .slice (some ⟨s.2, 0, none⟩) 1 1)]) (fun s w' => Kd.R (Kd.int .i64) 3 w' w.heap.size (fun _ => True) s.1 (x3_2.take x7_3.toNat) ∧ w'.cell? ⟨s.2, 0, none⟩ = some (.int .i64 (rd ((rd_T46 l0_1 x4_1).f1) x5_2)) ∧ Below wd.heap.size wd w' ∧ (∀ k, s.1.ownBlock = some k → wd.heap.size ≤ k)) ?contHO252 ?ordersHO252
                              case ordersHO252 =>
                                intro J
                                refine two_ (i := 3) (j := 5) (Ni := some 64) (Nj := some 66) #[true, true, true, true, true, false, false, true, true, true, false, false] #[true, true, true, false, true, true, false, true, true, true, false, false] rfl rfl rfl rfl (by kernel_rfl) (by decide) (by decide) (fun K hK => ?_) (fun K hK => ?_)
                                · refine Kd.R_append_rows_step (Kd.int .i64) (Rr := fun z cs => cs = [.int .i64 z]) (w0 := w) w.heap.size (by rfl) (.const (.slice none 0 0)) (.tmp 63) 44 3 (.int .i64 0) 8 rfl Tryd.underlying44 info3 rfl (by decide) (by decide) (.slice none 0 0) [] (x3_2.take x7_3.toNat) Ao20 x7_3.toNat co20 (fun _ => True) (fun _ => False) (by rfl) (by rfl) (Kd.R_nil _ _ _ _ _) CT.out (fun _ _ h => h) (fun _ h => h.elim) (fun _ _ => trivial) HBd.out (HBd.out).size (by have := LX.out; simp only [List.length_nil]; omega) ?_
                                  intro v1 w1 ho hb hg hat
                                  refine hK.out _ _ trivial (fun _ => ?_)
                                  clear hK K
                                  refine norm_ (a' := ?_) ?_ ?_
                                  rotate_left
                                  · show Act.put _ (some 64) _ = _
                                    simp only [Act.put, List.setIfInBounds_toArray, List.set_cons_zero, List.set_cons_succ, i64_w, i32_w]
                                    rfl
                                  refine one_ (i := 5) (N := some 66) #[true, true, true, true, true, true, false, true, true, true, false, false] rfl rfl (by kernel_rfl) (by decide) (fun K hK => ?_)
                                  refine value_ (w1 := ?_) (v := ?_) (by rfl) rfl ?_ ?_
                                  rotate_left 2
                                  · go_simp
                                    constructor
                                    · rfl
                                    · rfl
                                  refine hK.out _ _ trivial (fun _ => ?_)
                                  clear hK K
                                  have hs_ : Below wd.heap.size wd w1 := (Below.refl wd.heap.size wd).grown hg (Nat.le_refl _) (fun k hk => by cases hk)
                                  have ha_ : ∀ k, v1.ownBlock = some k → wd.heap.size ≤ k := fun k hk => by
                                    rcases hat with h | ⟨b, h, hl⟩
                                    · rw [hk] at h; cases h
                                    · rw [hk] at h; injection h with h; omega
                                  exact J (v1, w1.heap.size) _ ⟨Kd.R_alloc ho _, (blk_cell (blk_new w1 _) 0).trans rfl, below_alloc hs_ _, ha_⟩
                                · refine value_ (w1 := ?_) (v := ?_) (by rfl) rfl ?_ ?_
                                  rotate_left 2
                                  · go_simp
                                    constructor
                                    · rfl
                                    · rfl
                                  refine hK.out _ _ trivial (fun _ => ?_)
                                  clear hK K
                                  refine norm_ (a' := ?_) ?_ ?_
                                  rotate_left
                                  · show Act.put _ (some 66) _ = _
                                    simp only [Act.put, List.setIfInBounds_toArray, List.set_cons_zero, List.set_cons_succ, i64_w, i32_w]
                                    rfl
                                  refine one_ (i := 3) (N := some 64) #[true, true, true, true, true, true, false, true, true, true, false, false] rfl rfl (by kernel_rfl) (by decide) (fun K hK => ?_)
                                  refine Kd.R_append_rows_step (Kd.int .i64) (Rr := fun z cs => cs = [.int .i64 z]) (w0 := w) w.heap.size (by rfl) (.const (.slice none 0 0)) (.tmp 63) 44 3 (.int .i64 0) 8 rfl Tryd.underlying44 info3 rfl (by decide) (by decide) (.slice none 0 0) [] (x3_2.take x7_3.toNat) Ao20 x7_3.toNat co20 (fun _ => True) (fun _ => False) (by rfl) (by rfl) (Kd.R_nil _ _ _ _ _) (Kd.C_alloc CT.out _) (fun _ _ h => h) (fun _ h => h.elim) (fun _ _ => trivial) (below_alloc HBd.out _) ((below_alloc HBd.out _)).size (by have := LX.out; simp only [List.length_nil]; omega) ?_
                                  intro v1 w1 ho hb hg hat
                                  refine hK.out _ _ trivial (fun _ => ?_)
                                  clear hK K
                                  have hs_ : Below wd.heap.size wd w1 := (below_alloc (Below.refl wd.heap.size wd) _).grown hg (by simp) (fun k hk => by cases hk)
                                  have ha_ : ∀ k, v1.ownBlock = some k → wd.heap.size ≤ k := fun k hk => by
                                    rcases hat with h | ⟨b, h, hl⟩
                                    · rw [hk] at h; cases h
                                    · rw [hk] at h; injection h with h; rw [World.size_alloc] at hl; omega
                                  exact J (v1, wd.heap.size) _ ⟨ho, (blk_cell (blk_grown (blk_new wd _) hg (by simp [Value.ownBlock])) 0).trans rfl, hs_, ha_⟩
                              rintro ⟨u64, b66⟩ w5 ⟨ho5, hc66, hs5, ha5⟩
                              simp only [putAll]
                              refine norm_ (a' := ?_) ?_ ?_
                              rotate_left
                              · simp only [Act.put, List.setIfInBounds_toArray, List.set_cons_zero, List.set_cons_succ, i64_w, i32_w]
                                rfl
                              refine one_ (i := 6) (N := some 67) #[true, true, true, true, true, true, true, true, true, true, false, false] rfl rfl (by kernel_rfl) (by decide) (fun K hK => ?_)
                              refine Kd.R_append_rows_step (Kd.int .i64) (Rr := fun z cs => cs = [.int .i64 z]) (w0 := w) w.heap.size (by rfl) (.tmp 64) (.tmp 66) 44 3 (.int .i64 0) 8 rfl Tryd.underlying44 info3 rfl (by decide) (by decide) u64 (x3_2.take x7_3.toNat) [(rd ((rd_T46 l0_1 x4_1).f1) x5_2)] (some ⟨b66, 0, none⟩) 1 1 (fun _ => True) (fun _ => False) (by rfl) (by rfl) ho5 (row_one hc66) (fun _ _ h => h) (fun _ h => h.elim) (fun _ _ => trivial) (below_then HBd.out HBd.out.size hs5) (below_then HBd.out HBd.out.size hs5).size (by have := LX.out; have := HLT.out; omega) ?_
                              intro v6 w6 ho6 hb6 hg6 hat6
                              refine hK.out _ _ trivial (fun _ => ?_)
                              clear hK K
                              refine norm_ (a' := ?_) ?_ ?_
                              rotate_left
                              · show Act.put _ (some 67) _ = _
                                simp only [Act.put, List.setIfInBounds_toArray, List.set_cons_zero, List.set_cons_succ, i64_w, i32_w]
                                rfl
                              have hs6 : Below wd.heap.size wd w6 := hs5.grown hg6 hs5.size (fun k hk => ha5 k hk)
                              refine one_ (i := 10) (N := some 71) #[true, true, true, true, true, true, true, true, true, true, true, false] rfl rfl (by kernel_rfl) (by decide) (fun K hK => ?_)
                              refine Kd.R_append_rows_step (Kd.int .i64) (Rr := fun z cs => cs = [.int .i64 z]) (w0 := w) w.heap.size (by rfl) (.tmp 67) (.tmp 70) 44 3 (.int .i64 0) 8 rfl Tryd.underlying44 info3 rfl (by decide) (by decide) v6 (x3_2.take x7_3.toNat ++ [(rd ((rd_T46 l0_1 x4_1).f1) x5_2)]) (x3_2.drop x7_3.toNat) AD m2 cc2 (fun _ => True) (fun _ => False) (by rfl) (by rfl) ho6 (Kd.C_below CD.out hs6) (fun _ _ h => h) (fun _ h => h.elim) (fun _ _ => trivial) hb6 hb6.size (by have := LX.out; have := HLT.out; have := HLM.out; simp only [List.length_append, List.length_cons, List.length_nil]; omega) ?_
                              intro v7 w7 ho7 hb7 hg7 hat7
                              refine hK.out _ _ trivial (fun _ => ?_)
                              clear hK K
                              refine norm_ (a' := ?_) ?_ ?_
                              rotate_left
                              · show Act.put _ (some 71) _ = _
                                simp only [Act.put, List.setIfInBounds_toArray, List.set_cons_zero, List.set_cons_succ, i64_w, i32_w]
                                rfl
                              refine pure_ (i := 11) (N := some 3) (v := ?_) (a' := ?_) #[true, true, true, true, true, true, true, true, true, true, true, true] rfl rfl (by kernel_rfl) (fun _ _ _ h => h) (Or.inl ⟨by rfl, ?_⟩) ?_ ?_
                              rotate_left
                              · intro w'
                                go_simp
                                with_reducible rfl
                              rotate_left
                              · simp only [Act.put, List.setIfInBounds_toArray, List.set_cons_zero, List.set_cons_succ, i64_w, i32_w]
                                rfl
                              refine done_ (by kernel_rfl) ?_
                              have hs7 : Below wd.heap.size wd w7 := hs6.grown hg7 hs6.size (fun k hk => by
                                rcases hat6 with h | ⟨b, h, hl⟩
                                · exact ha5 k (by rw [← h]; exact hk)
                                · rw [hk] at h; injection h with h; have := hs5.size; omega)
                              have n0_ := Aside0.mk (blk_below BKd.out hs7)
                              have HO252 : Aside0 (Kd.R (Kd.int .i64) 3 w7 w.heap.size (fun _ => True) v7 y250) := ⟨by rw [Ny250.out]; unfold insAt; rw [List.append_cons]; exact ho7⟩
                              clear HB BK241 HO_3
                              have HB := Aside0.mk hb7
                              have BK241 := n0_
                              clear n0_ ho7 hb7 hs7 hs6 hs5 ho6 hb6 ho5 hc66 cutT cutF
                              try go_wp2
                              go_roundg k3
                              case measure => have := HK1.out; have := HK2.out; have := HK3.out; omega
                              case rel => exact ⟨(y250), (wrap64 (x5_2 + 1)), (by first | rfl | (simp; done) | (simp [*]; done)), H', ⟨by have := HK1.out; have := HK2.out; have := HK3.out; omega⟩, ⟨by (with_reducible repeat (first | apply Kd.R_alloc | apply Kd.R_drewN | apply Kd.R_drew)); exact HO252.out⟩, ⟨by (with_reducible repeat (first | refine blk_drewN ?_ _ | refine blk_drew ?_ | refine blk_alloc ?_ _)); exact BK241.out⟩, ⟨by repeat (first | (with_reducible first | exact HB.out | apply below_alloc | apply pw_below_drewN | apply below_drew1 | refine below_set ?_ GE241.out) | exact HB.out)⟩⟩
                            · rw [if_neg c19] at H
                              exact absurd H (by simp)
                          · rw [if_neg c18] at H
                            exact absurd H (by simp)
                  · rw [if_neg c8] at H
                    exact absurd H (by simp)
                · rw [if_neg c7] at H
                  have c7b0 : decide (x5_2 < (((rd_T46 l0_1 x4_1).f1).length : Int)) = false := decide_eq_false c7
                  clear c7
                  have H' := Aside0.mk H
                  clear H
                  have hcz22_0 : wr.cell? ⟨gb241, 0, none⟩ = some (.bool a0_0) := (blk_cell BK241.out 0).trans rfl
                  have hcz22_1 : wr.cell? ⟨gb241, 1, none⟩ = some (.slice A0_1 l0_1.length c0_1) := (blk_cell BK241.out 1).trans rfl
                  have hfz22_0 := blk_frozen BK241.out 0
                  have hfz22_1 := blk_frozen BK241.out 1
                  have p242 : 0 ≤ (x4_1 : Int) := of_decide_eq_true (by first | (with_reducible assumption) | assumption)
                  have q242 : x4_1 < (l0_1.length : Int) := of_decide_eq_true (by first | (with_reducible assumption) | assumption)
                  obtain ⟨ad242, A242_1, c242_1, e242, hx242_0, hx242_1, hl242_1, hi242_1⟩ := at_T46 HR0_1.out x4_1 p242 q242
                  cases e242
                  replace hx242_0 := (HB.out.cell (World.block_lt_of_cell? w _ hx242_0)).trans hx242_0
                  replace hx242_1 := (HB.out.cell (World.block_lt_of_cell? w _ hx242_1)).trans hx242_1
                  have HR242_1 := Aside0.mk hi242_1
                  have HC242_1 := Aside0.mk hl242_1
                  clear hi242_1 hl242_1
                  replace p242 := eq_true p242
                  replace q242 := eq_true q242
                  go_wp2
                  go_roundg k2
                  case measure => have := HK1.out; have := HK2.out; omega
                  case rel => exact ⟨(x3_2), (wrap64 (x4_1 + 1)), (by first | rfl | (simp; done) | (simp [*]; done)), H', ⟨by have := HK1.out; have := HK2.out; omega⟩, ⟨by (with_reducible repeat (first | apply Kd.R_alloc | apply Kd.R_drewN | apply Kd.R_drew)); exact HO_3.out⟩, ⟨by (with_reducible repeat (first | refine blk_drewN ?_ _ | refine blk_drew ?_ | refine blk_alloc ?_ _)); exact BK241.out⟩, ⟨by repeat (first | (with_reducible first | exact HB.out | apply below_alloc | apply pw_below_drewN | apply below_drew1 | refine below_set ?_ GE241.out) | exact HB.out)⟩⟩
              · rw [if_neg c6] at H
                exact absurd H (by simp)
            · rw [if_neg c5] at H
              exact absurd H (by simp)
      · rw [if_neg c3] at H
        have c3b0 : decide (x4_1 < (l0_1.length : Int)) = false := decide_eq_false c3
        clear c3
        obtain rfl := Option.some.inj H
        have hcz23_0 : wr.cell? ⟨gb241, 0, none⟩ = some (.bool a0_0) := (blk_cell BK241.out 0).trans rfl
        have hcz23_1 : wr.cell? ⟨gb241, 1, none⟩ = some (.slice A0_1 l0_1.length c0_1) := (blk_cell BK241.out 1).trans rfl
        have hfz23_0 := blk_frozen BK241.out 0
        have hfz23_1 := blk_frozen BK241.out 1
        go_wp2
        go_ret
        exact ⟨_, by first | rfl | (simp [errW_none, errW_some] <;> rfl) | (simp [*, errW_none, errW_some] <;> rfl), by (with_reducible repeat (first | apply Kd.R_alloc | apply Kd.R_drewN | apply Kd.R_drew)); exact HO_3.out, by repeat (first | (with_reducible first | exact HB.out | apply below_alloc | apply pw_below_drewN | apply below_drew1 | refine below_set ?_ GE241.out) | exact HB.out)⟩
end Go.Proofs.YtknbnnpggdegmaaDoor.PD
end
section
set_option linter.unusedVariables false
set_option linter.unusedSimpArgs false
namespace Go.Proofs.YtknbnnpggdegmaaDoor.Mp
open Go.RowKit Go.WideShapes
structure KeyEnc (P : Program) (kt : TypeId) (κ : Type) where
  val : κ → Value
  lit : κ → Lit
  ok : κ → Prop
  law : Maps.Keyed P kt
  key : ∀ k, ok k → keyOf P kt (val k) = some (lit k)
  inj : ∀ k k', lit k = lit k' → k = k'
  isLit : ∀ k, WideAt.IsKeyLit (lit k)
structure ElEnc (P : Program) (et : TypeId) (ε : Type) where
  val : ε → Value
  lit : ε → Lit
  zero : ε
  ok : ε → Prop
  hz : ∀ w, (zeroValue et).run P w = .ok (val zero) w
  read : ∀ x, ok x → plainElem (H := Unit) P et (val x) = some (.lit (lit x), [])
  zok : ok zero
  inv : ∀ v z, plainElem (H := Unit) P et v = some z → ∃ x, v = val x ∧ z = (.lit (lit x), [])
  inj : ∀ x x', lit x = lit x' → x = x'
def intKey {P : Program} {kt : TypeId} (h : P.underlying kt = some (.int .i64)) : KeyEnc P kt Int where
  val := Value.int .i64
  lit := Lit.int .i64
  ok := fun k => (Lit.int .i64 k).wf = true
  law := Maps.int_keyed h
  key := fun k hk => Maps.keyOf_int_mk h hk
  inj := fun k k' e => by injection e
  isLit := fun k => by simp [WideAt.IsKeyLit]
theorem bool_inv {P : Program} {e : TypeId} (he : P.underlying e = some .bool) {v : Value} {z : DataW Unit × List MemPlace} (h : plainElem P e v = some z) : ∃ x, v = .bool x ∧ z = (.lit (.bool x), []) := by
  unfold plainElem at h
  rw [he] at h
  cases v <;> simp at h
  exact ⟨_, rfl, h.symm⟩
def intEl {P : Program} {et : TypeId} (h : P.underlying et = some (.int .i64)) (hz : ∀ w, (zeroValue et).run P w = .ok (.int .i64 0) w) : ElEnc P et Int where
  val := Value.int .i64
  lit := Lit.int .i64
  zero := 0
  ok := fun k => (Lit.int .i64 k).wf = true
  hz := hz
  read := fun x hx => plainElem_int h hx
  zok := by decide
  inv := fun v z hv => by
    obtain ⟨x, h1, h2, _⟩ := plainElem_int_inv h hv
    exact ⟨x, h1, h2⟩
  inj := fun k k' e => by injection e
def boolEl {P : Program} {et : TypeId} (h : P.underlying et = some .bool) (hz : ∀ w, (zeroValue et).run P w = .ok (.bool false) w) : ElEnc P et Bool where
  val := Value.bool
  lit := Lit.bool
  zero := false
  ok := fun _ => True
  hz := hz
  read := fun x _ => plainElem_bool h x
  zok := trivial
  inv := fun v z hv => bool_inv h hv
  inj := fun k k' e => by injection e
section
variable {P : Program} {kt et t : TypeId} {κ ε : Type} (K : KeyEnc P kt κ) (V : ElEnc P et ε)
structure MapOf (w : World) (b n : Nat) (f : κ → Option ε) : Prop where mk ::
  out : ∃ D : DataW Unit, w.ownsMap P kt (plainElem P et) b n D ∧ Maps.IsMap D ∧ ∀ k, Maps.has D (K.lit k) = (f k).isSome ∧ ∀ z, D.atKey (K.lit k) (.lit (V.lit z)) = .lit (V.lit ((f k).getD z))
variable {K V}
variable {w w' : World} {b n : Nat} {f : κ → Option ε}
theorem MapOf.made (w : World) : MapOf K V (w.alloc (.map #[] 0)) w.heap.size 0 (fun _ => none) :=
  ⟨.map [], World.ownsMap_made w P kt _, ⟨[], rfl⟩, fun k => ⟨rfl, fun z => rfl⟩⟩
theorem MapOf.mono (h : MapOf K V w b n f) {n' : Nat} (hn : n ≤ n') : MapOf K V w b n' f := by
  obtain ⟨D, h1, h2⟩ := h.out; exact ⟨D, h1.mono hn, h2⟩
theorem MapOf.lt (h : MapOf K V w b n f) : b < w.heap.size := by obtain ⟨D, h1, _⟩ := h.out; exact h1.lt
theorem MapOf.grown (h : MapOf K V w b n f) {row : Option Nat} (hg : w.grownBy w' row) (hne : some b ≠ row) : MapOf K V w' b n f := by
  obtain ⟨D, h1, h2⟩ := h.out; exact ⟨D, h1.kept hg hne, h2⟩
theorem MapOf.below (h : MapOf K V w b n f) (hb : Below w.heap.size w w') : MapOf K V w' b n f :=
  h.grown (row := none) ⟨hb.os, hb.tape, hb.output, hb.size, fun i hi _ => hb.block i hi⟩ (by simp)
theorem MapOf.alloc (h : MapOf K V w b n f) (o : Obj) : MapOf K V (w.alloc o) b n f := by
  obtain ⟨D, h1, h2⟩ := h.out; exact ⟨D, h1.alloc o, h2⟩
theorem MapOf.drew (h : MapOf K V w b n f) : MapOf K V w.drew b n f := by
  obtain ⟨D, h1, h2⟩ := h.out; exact ⟨D, h1.drew, h2⟩
theorem MapOf.drewN (h : MapOf K V w b n f) (m : Nat) : MapOf K V (w.drewN m) b n f := by
  obtain ⟨D, h1, h2⟩ := h.out; exact ⟨D, h1, h2⟩
theorem MapOf.setCell (h : MapOf K V w b n f) {a : Addr} (ha : b ≠ a.block) (u : Value) : MapOf K V (w.setCell a u) b n f := by
  obtain ⟨D, h1, h2⟩ := h.out; exact ⟨D, h1.setCell ha u, h2⟩
theorem MapOf.noCells (h : MapOf K V w b n f) {c : Array Value} {tt : TypeId} {fr : Nat × Nat} (hc : w.heap[b]? = some (.cells c tt fr)) : False := by
  obtain ⟨D, ⟨es, clock, h1, _⟩, _⟩ := h.out
  rw [h1] at hc; cases hc
theorem MapOf.run_ok (h : MapOf K V w b n f) (ht : P.underlying t = some (.map kt et)) {k : κ} (hk : K.ok k) :
    (Instr.lookup t (.map (some b)) (K.val k) true).run P w = .ok (.tuple #[V.val ((f k).getD V.zero), .bool (f k).isSome]) w := by
  obtain ⟨D, h1, h2, h3⟩ := h.out
  obtain ⟨v, ps, hrun, hv⟩ := h1.look_ok K.law ht (V.hz w) (V.read _ V.zok) (K.key k hk)
  rw [(h3 k).2] at hv
  obtain ⟨x, rfl, hx⟩ := V.inv _ _ hv
  simp only [Prod.mk.injEq, DataW.lit.injEq] at hx
  rw [hrun, (h3 k).1, ← V.inj _ _ hx.1]
theorem MapOf.run_plain (h : MapOf K V w b n f) (ht : P.underlying t = some (.map kt et)) {k : κ} (hk : K.ok k) :
    (Instr.lookup t (.map (some b)) (K.val k) false).run P w = .ok (V.val ((f k).getD V.zero)) w := by
  obtain ⟨D, h1, h2, h3⟩ := h.out
  obtain ⟨v, ps, hrun, hv⟩ := h1.lookup K.law ht (V.hz w) (V.read _ V.zok) (K.key k hk)
  rw [(h3 k).2] at hv
  obtain ⟨x, rfl, hx⟩ := V.inv _ _ hv
  simp only [Prod.mk.injEq, DataW.lit.injEq] at hx
  rw [hrun, ← V.inj _ _ hx.1]
theorem MapOf.put [DecidableEq κ] {D : DataW Unit} (h2 : Maps.IsMap D) (h3 : ∀ k, Maps.has D (K.lit k) = (f k).isSome ∧ ∀ z, D.atKey (K.lit k) (.lit (V.lit z)) = .lit (V.lit ((f k).getD z))) (k : κ) (x : ε) :
    Maps.IsMap (D.put (K.lit k) (.lit (V.lit x))) ∧ ∀ k', Maps.has (D.put (K.lit k) (.lit (V.lit x))) (K.lit k') = (if k' = k then some x else f k').isSome ∧ ∀ z, (D.put (K.lit k) (.lit (V.lit x))).atKey (K.lit k') (.lit (V.lit z)) = .lit (V.lit ((if k' = k then some x else f k').getD z)) := by
  refine ⟨h2.put _ _, fun k' => ?_⟩
  by_cases e : k' = k
  · subst e
    rw [if_pos rfl]
    exact ⟨Maps.has_put_same h2 (K.isLit _) _, fun z => Maps.atKey_put_same h2 (K.isLit _) _ _⟩
  · rw [if_neg e]
    have hne : K.lit k' ≠ K.lit k := fun h => e (K.inj _ _ h)
    exact ⟨by rw [Maps.has_put_other hne]; exact (h3 k').1, fun z => by rw [Maps.atKey_put_other hne]; exact (h3 k').2 z⟩
theorem MapOf.update [DecidableEq κ] (h : MapOf K V w b n f) (ht : P.underlying t = some (.map kt et)) (hn : n < maxLen) {k : κ} (hk : K.ok k) {x : ε} (hx : V.ok x) :
    ∃ w', (Instr.mapUpdate t (.map (some b)) (K.val k) (V.val x)).run P w = .ok () w' ∧ MapOf K V w' b (n + 1) (fun k' => if k' = k then some x else f k') ∧ w.grownBy w' (some b) := by
  obtain ⟨D, h1, h2, h3⟩ := h.out
  obtain ⟨w', hrun, h4, h5⟩ := h1.update K.law ht hn (K.key k hk) (V.read x hx)
  exact ⟨w', hrun, ⟨_, h4, MapOf.put h2 h3 k x⟩, h5⟩
variable {ops : Array Oper} {rest : List Oper} {o : Oper} {a : Act} {Q : Exit → Act → World → Prop}
theorem wpList_look_ok (w : World) (hg : o.guard = none) (m x : Operand) (t : TypeId) (hop : o.op = Op.lookup t m x true) (ht : P.underlying t = some (.map kt et))
    (hm : a.eval m = .map (some b)) (h : MapOf K V w b n f) (k : κ) (hx : a.eval x = K.val k) (hk : K.ok k)
    (hK : wpList P ops Q rest (a.put o.dst (.tuple #[V.val ((f k).getD V.zero), .bool (f k).isSome])) w) : wpList P ops Q (o :: rest) a w := by
  refine wpList_plain hg fun K' hK' => ?_
  have hrun := h.run_ok ht hk
  unfold Oper.wp
  simp [execOp, hop, hm, hx, hrun, Result.andThen]
  exact hK' _ _ hK
theorem wpList_wanted (hw : Region.wanted o (yielded ops a.tmps) = true) {w : World}
    (h : ∀ K : Act → World → Prop, (∀ a w, wpList P ops Q rest a w → K a w) → o.wp P a w K Q) : wpList P ops Q (o :: rest) a w :=
  wpList_step fun K hK => by simp only [hw, if_true]; exact h K hK
theorem wpList_ins [DecidableEq κ] (w : World) (hw : Region.wanted o (yielded ops a.tmps) = true) (m x v : Operand) (t : TypeId) (hop : o.op = Op.insert t m x v) (ht : P.underlying t = some (.map kt et))
    (hm : a.eval m = .map (some b)) (h : MapOf K V w b n f) (hn : n < maxLen) (k : κ) (hx : a.eval x = K.val k) (hk : K.ok k) (y : ε) (hv : a.eval v = V.val y) (hy : V.ok y)
    (hK : ∀ w', MapOf K V w' b (n + 1) (fun k' => if k' = k then some y else f k') → w.grownBy w' (some b) → wpList P ops Q rest (a.put o.dst undef) w') : wpList P ops Q (o :: rest) a w := by
  refine wpList_wanted hw fun K' hK' => ?_
  obtain ⟨w', hrun, r1, r2⟩ := h.update ht hn hk hy
  unfold Oper.wp
  simp [execOp, hop, hm, hx, hv, hrun, Result.andThen]
  exact hK' _ _ (hK w' r1 r2)
end
end Go.Proofs.YtknbnnpggdegmaaDoor.Mp
end
section
namespace Go.Proofs.YtknbnnpggdegmaaDoor.At
open Go.RowKit Go.Proofs.YtknbnnpggdegmaaDoorW.PrintWords Go.Proofs.YtknbnnpggdegmaaDoorW.PrintLast Go.Proofs.YtknbnnpggdegmaaDoorW.PrintMore Go.Proofs.YtknbnnpggdegmaaDoor.PD Go.Proofs.YtknbnnpggdegmaaDoor.Mp
set_option linter.unusedVariables false
set_option linter.unusedSimpArgs false
def endedL (s : Int) : Bool := decide (3 ≤ s) && decide (s ≤ 6)
def holdsL (kd s : Int) : Bool := if kd = 1 then s == 2 || endedL s else if kd = 2 then s == 3 else if kd = 3 then s == 4 || s == 6 else endedL s
def oneL (kd s : Int) : Int := if kd < 1 ∨ 4 < kd then 0 else if holdsL kd s then 1 else if endedL s || s == 7 then 2 else 0
theorem ended_f (s : Int) : dep_Ended.f s = some (endedL s) := by
  unfold dep_Ended.f endedL
  by_cases h : s ≥ 3
  · rw [if_pos h]; simp [h]
  · rw [if_neg h]; simp; omega
theorem one_j (k : Nat) (s : Int) (b : Bool) : dep_One.j0 (k + 1) s b = some (if b then 1 else if endedL s || s == 7 then 2 else 0) := by
  simp only [dep_One.j0]
  cases b
  · simp [ended_f]
    cases h : endedL s <;> simp
    split <;> rfl
  · simp
theorem one_f (k : Nat) (kd s : Int) : dep_One.f (k + 1) kd s = some (oneL kd s) := by
  unfold dep_One.f oneL
  simp only [one_j, ended_f, Option.bind_some]
  by_cases h1 : kd = 1
  · subst h1; simp [holdsL]; by_cases h : s = 2 <;> simp [h]
  by_cases h2 : kd = 2
  · subst h2; simp [holdsL]
  by_cases h3 : kd = 3
  · subst h3; simp [holdsL]; by_cases h : s = 4 <;> simp [h]
  by_cases h4 : kd = 4
  · subst h4; simp [holdsL]
  rw [if_neg h1, if_neg h2, if_neg h3, if_neg h4, if_pos (by omega)]
theorem one_calls (kd s : Int) (w : World) : Calls Tryd.prog 24 #[.int .i64 kd, .int .i64 s] w fun e w' => e = .returned (.int .i64 (oneL kd s)) ∧ Drawn0 w w' :=
  dep_One.calls 1 kd s _ w (one_f 0 kd s)
theorem rlist_int (l : List Int) (i : Nat) (h : i < l.length) : l.drop i = rd l i :: l.drop (i + 1) := by
  rw [List.drop_eq_getElem_cons h]; simp [rd, h]
theorem ret_int {k : IntKind} {a b : Int} (h : a = b) : Ending.returned (.int k a) = .returned (.int k b) := by rw [h]
def atL (look : Int → Option Int) (kd : Int) : List Int → Int → Int
  | [], out => out
  | n :: ns, out => if oneL kd ((look n).getD 7) = 2 then 2 else if oneL kd ((look n).getD 7) = 0 then atL look kd ns 0 else atL look kd ns out
def atF (look : Int → Option Int) (kd : Int) (l : List Int) (al : Bool) : Int := if kd = 5 then (if al then 1 else 0) else atL look kd l 1
noncomputable def KI : KeyEnc Tryd.prog 3 Int := intKey Tryd.underlying3
noncomputable def EI : ElEnc Tryd.prog 3 Int := intEl Tryd.underlying3 (fun w => by kernel_rfl)
abbrev MapII := MapOf KI EI
section
variable {ops : Array Oper} {rest : List Oper} {o : Oper} {a : Act} {Q : Exit → Act → World → Prop} {b n : Nat} {f : Int → Option Int}
theorem look_none (w : World) (hg : o.guard = none) (m x : Operand) (hop : o.op = Op.lookup 33 m x true) (hm : a.eval m = .map (some b)) (h : MapII w b n f) (k : Int) (hx : a.eval x = .int .i64 k) (hk : (Lit.int .i64 k).wf = true) (hf : f k = none)
    (hK : wpList Tryd.prog ops Q rest (a.put o.dst (.tuple #[.int .i64 0, .bool false])) w) : wpList Tryd.prog ops Q (o :: rest) a w :=
  wpList_look_ok (K := KI) (V := EI) w hg m x 33 hop Tryd.underlying33 hm h k hx hk (by rw [hf]; exact hK)
theorem look_some (w : World) (hg : o.guard = none) (m x : Operand) (hop : o.op = Op.lookup 33 m x true) (hm : a.eval m = .map (some b)) (h : MapII w b n f) (k : Int) (hx : a.eval x = .int .i64 k) (hk : (Lit.int .i64 k).wf = true) {s : Int} (hf : f k = some s)
    (hK : wpList Tryd.prog ops Q rest (a.put o.dst (.tuple #[.int .i64 s, .bool true])) w) : wpList Tryd.prog ops Q (o :: rest) a w :=
  wpList_look_ok (K := KI) (V := EI) w hg m x 33 hop Tryd.underlying33 hm h k hx hk (by rw [hf]; exact hK)
end
set_option maxHeartbeats 2000000 in
set_option maxRecDepth 100000 in
theorem at_calls (kd : Int) (A : Option Addr) (c : Nat) (l : List Int) (al : Bool) (bm n : Nat) (look : Int → Option Int) (w : World) (hr : Kd.C (Kd.int .i64) w A l.length l) (hc : l.length ≤ c) (hm : MapII w bm n look) (hok : ∀ x ∈ l, (Lit.int .i64 x).wf = true) :
    Calls Tryd.prog 28 #[.agg #[.int .i64 kd, .slice A l.length c], .map (some bm), .bool al] w fun e w' => e = .returned (.int .i64 (atF look kd l al)) ∧ Below w.heap.size w w' := by
  have HR := Aside0.mk hr
  have HM := Aside0.mk hm
  have HO := Aside0.mk hok
  have HL := Aside0.mk hr.2.1
  have hu52 := Tryd.underlying52
  clear hr hm hok hc
  by_cases h5 : kd = 5
  · subst h5
    cases al
    · go_enter Tryd.func28, Tryd.ntmps28
      go_wp2
      go_ret
      exact ⟨rfl, below_alloc (Below.refl _ _) _⟩
    · go_enter Tryd.func28, Tryd.ntmps28
      go_wp2
      go_ret
      exact ⟨rfl, below_alloc (Below.refl _ _) _⟩
  · have e5 : atF look kd l al = atL look kd l 1 := if_neg h5
    rw [e5]
    obtain ⟨R, hR⟩ : ∃ R, atL look kd l 1 = R := ⟨_, rfl⟩
    have HA := Aside0.mk hR
    rw [hR]
    clear hR e5
    have h5b : (kd == 5) = false := beq_eq_false_iff_ne.mpr h5
    clear h5
    go_enter Tryd.func28, Tryd.ntmps28
    go_wp2
    go_loopw [7, 19] (fun v7 v19 wr => ∃ (o : Int) (i : Nat), v7 = .int .i64 o ∧ v19 = .int .i64 i ∧ i ≤ l.length ∧ Aside0 (atL look kd (l.drop i) o = R) ∧ Aside0 (wr.heap[w.heap.size]? = some (.cells #[.int .i64 kd, .slice A l.length c] 52 (0, 0))) ∧ Aside0 (Below w.heap.size w wr)) (fun _ v19 _ => l.length - (intOf v19).toNat)
    case atStart => exact ⟨1, 0, rfl, rfl, Nat.zero_le _, HA, ⟨heap_alloc_new _ _⟩, ⟨below_alloc (Below.refl _ _) _⟩⟩
    case round =>
      obtain ⟨o, i, rfl, rfl, hi, HA1, BK, HB⟩ := hrel
      clear HA
      have hlen := HL.out
      by_cases hlt : i < l.length
      · have hz0 : wr.cell? ⟨w.heap.size, 0, none⟩ = some (.int .i64 kd) := (blk_cell BK.out 0).trans rfl
        have hz1 : wr.cell? ⟨w.heap.size, 1, none⟩ = some (.slice A l.length c) := (blk_cell BK.out 1).trans rfl
        obtain ⟨ad, rfl, hx⟩ := Kd.at_int HR.out i (by omega) (by omega)
        rw [Int.toNat_natCast] at hx
        replace hx := (HB.out.cell (World.block_lt_of_cell? w _ hx)).trans hx
        have HM1 := Aside0.mk (HM.out.below HB.out)
        have hmem := Aside0.mk (HO.out (rd l i) (by simp [rd, hlt]))
        have H1 : Aside0 ((if oneL kd ((look (rd l i)).getD 7) = 2 then 2 else if oneL kd ((look (rd l i)).getD 7) = 0 then atL look kd (l.drop (i + 1)) 0 else atL look kd (l.drop (i + 1)) o) = R) := ⟨by have := HA1.out; rwa [rlist_int l i hlt, atL] at this⟩
        clear HA1
        obtain ⟨q, hq⟩ : ∃ q, oneL kd ((look (rd l i)).getD 7) = q := ⟨_, rfl⟩
        rw [hq] at H1
        have HQ := Aside0.mk hq
        clear hq
        cases hlk : look (rd l i) with
        | none =>
          have HK := Aside0.mk hlk
          have e1 := HQ.out
          rw [hlk] at e1
          simp only [Option.getD_none] at e1
          clear hlk HQ
          by_cases q2 : q = 2
          · have t2 : (oneL kd 7 == 2) = true := by rw [e1]; exact beq_iff_eq.mpr q2
            have HR2 := Aside0.mk (show (2 : Int) = R by have := H1.out; rwa [if_pos q2] at this)
            clear e1 q2 H1
            go_wp2_with (first | (at_lookup; refine look_none _ rfl _ _ rfl rfl HM1.out (rd l i) rfl hmem.out HK.out ?_) | fail)
            refine (one_calls kd 7 _).mono ?_
            rintro e w2 ⟨rfl, hd⟩
            have HD := Aside0.mk hd
            clear hd
            go_wp2
            go_ret
            exact ⟨ret_int HR2.out, below_then HB.out HB.out.size HD.out.below⟩
          · have t2 : (oneL kd 7 == 2) = false := by rw [e1]; exact beq_eq_false_iff_ne.mpr q2
            by_cases q0 : q = 0
            · have t0 : (oneL kd 7 == 0) = true := by rw [e1]; exact beq_iff_eq.mpr q0
              have HR2 := Aside0.mk (show atL look kd (l.drop (i + 1)) 0 = R by have := H1.out; rwa [if_neg q2, if_pos q0] at this)
              clear e1 q2 q0 H1
              go_wp2_with (first | (at_lookup; refine look_none _ rfl _ _ rfl rfl HM1.out (rd l i) rfl hmem.out HK.out ?_) | fail)
              refine (one_calls kd 7 _).mono ?_
              rintro e w2 ⟨rfl, hd⟩
              have HD := Aside0.mk hd
              clear hd
              go_wp2
              go_roundw
              case rel => exact ⟨0, i + 1, rfl, by go_num, by omega, HR2, ⟨blk_below BK.out HD.out.below⟩, ⟨below_then HB.out HB.out.size HD.out.below⟩⟩
              case measure => simp [intOf]; omega
            · have t0 : (oneL kd 7 == 0) = false := by rw [e1]; exact beq_eq_false_iff_ne.mpr q0
              have HR2 := Aside0.mk (show atL look kd (l.drop (i + 1)) o = R by have := H1.out; rwa [if_neg q2, if_neg q0] at this)
              clear e1 q2 q0 H1
              go_wp2_with (first | (at_lookup; refine look_none _ rfl _ _ rfl rfl HM1.out (rd l i) rfl hmem.out HK.out ?_) | fail)
              refine (one_calls kd 7 _).mono ?_
              rintro e w2 ⟨rfl, hd⟩
              have HD := Aside0.mk hd
              clear hd
              go_wp2
              go_roundw
              case rel => exact ⟨o, i + 1, rfl, by go_num, by omega, HR2, ⟨blk_below BK.out HD.out.below⟩, ⟨below_then HB.out HB.out.size HD.out.below⟩⟩
              case measure => simp [intOf]; omega
        | some s =>
          have HK := Aside0.mk hlk
          have e1 := HQ.out
          rw [hlk] at e1
          simp only [Option.getD_some] at e1
          clear hlk HQ
          by_cases q2 : q = 2
          · have t2 : (oneL kd s == 2) = true := by rw [e1]; exact beq_iff_eq.mpr q2
            have HR2 := Aside0.mk (show (2 : Int) = R by have := H1.out; rwa [if_pos q2] at this)
            clear e1 q2 H1
            go_wp2_with (first | (at_lookup; refine look_some _ rfl _ _ rfl rfl HM1.out (rd l i) rfl hmem.out HK.out ?_) | fail)
            refine (one_calls kd s _).mono ?_
            rintro e w2 ⟨rfl, hd⟩
            have HD := Aside0.mk hd
            clear hd
            go_wp2
            go_ret
            exact ⟨ret_int HR2.out, below_then HB.out HB.out.size HD.out.below⟩
          · have t2 : (oneL kd s == 2) = false := by rw [e1]; exact beq_eq_false_iff_ne.mpr q2
            by_cases q0 : q = 0
            · have t0 : (oneL kd s == 0) = true := by rw [e1]; exact beq_iff_eq.mpr q0
              have HR2 := Aside0.mk (show atL look kd (l.drop (i + 1)) 0 = R by have := H1.out; rwa [if_neg q2, if_pos q0] at this)
              clear e1 q2 q0 H1
              go_wp2_with (first | (at_lookup; refine look_some _ rfl _ _ rfl rfl HM1.out (rd l i) rfl hmem.out HK.out ?_) | fail)
              refine (one_calls kd s _).mono ?_
              rintro e w2 ⟨rfl, hd⟩
              have HD := Aside0.mk hd
              clear hd
              go_wp2
              go_roundw
              case rel => exact ⟨0, i + 1, rfl, by go_num, by omega, HR2, ⟨blk_below BK.out HD.out.below⟩, ⟨below_then HB.out HB.out.size HD.out.below⟩⟩
              case measure => simp [intOf]; omega
            · have t0 : (oneL kd s == 0) = false := by rw [e1]; exact beq_eq_false_iff_ne.mpr q0
              have HR2 := Aside0.mk (show atL look kd (l.drop (i + 1)) o = R by have := H1.out; rwa [if_neg q2, if_neg q0] at this)
              clear e1 q2 q0 H1
              go_wp2_with (first | (at_lookup; refine look_some _ rfl _ _ rfl rfl HM1.out (rd l i) rfl hmem.out HK.out ?_) | fail)
              refine (one_calls kd s _).mono ?_
              rintro e w2 ⟨rfl, hd⟩
              have HD := Aside0.mk hd
              clear hd
              go_wp2
              go_roundw
              case rel => exact ⟨o, i + 1, rfl, by go_num, by omega, HR2, ⟨blk_below BK.out HD.out.below⟩, ⟨below_then HB.out HB.out.size HD.out.below⟩⟩
              case measure => simp [intOf]; omega
      · have HR2 := Aside0.mk (show o = R by have := HA1.out; rwa [List.drop_eq_nil_of_le (by omega), atL] at this)
        clear HA1
        go_wp2
        go_ret
        exact ⟨ret_int HR2.out, HB.out⟩
end Go.Proofs.YtknbnnpggdegmaaDoor.At
end
section
namespace Go.Proofs.YtknbnnpggdegmaaDoor.At
open Go.RowKit Go.Proofs.YtknbnnpggdegmaaDoorW.PrintWords Go.Proofs.YtknbnnpggdegmaaDoorW.PrintLast Go.Proofs.YtknbnnpggdegmaaDoorW.PrintMore Go.Proofs.YtknbnnpggdegmaaDoor.PD Go.Proofs.YtknbnnpggdegmaaDoor.Mp
set_option linter.unusedVariables false
set_option linter.unusedSimpArgs false
abbrev atS (look : Int → Option Int) (al : Bool) (x : S52) : Int := atF look x.f0 x.f1 al
def cnt (look : Int → Option Int) (al : Bool) (q : Int) (l : List S52) : Nat := (l.filter fun x => atS look al x == q).length
def askF (look : Int → Option Int) (any : Bool) (l : List S52) (al : Bool) : Int :=
  if any then (if 0 < cnt look al 1 l then 1 else if cnt look al 2 l = l.length then 2 else 0)
  else (if 0 < cnt look al 2 l then 2 else if cnt look al 1 l = l.length then 1 else 0)
theorem atL_range (look : Int → Option Int) (kd : Int) : ∀ (l : List Int) (o : Int), 0 ≤ o → o ≤ 2 → 0 ≤ atL look kd l o ∧ atL look kd l o ≤ 2
  | [], o, h0, h1 => ⟨h0, h1⟩
  | n :: ns, o, h0, h1 => by
    unfold atL
    split
    · omega
    · split
      · exact atL_range look kd ns 0 (by omega) (by omega)
      · exact atL_range look kd ns o h0 h1
theorem atF_range (look : Int → Option Int) (kd : Int) (l : List Int) (al : Bool) : 0 ≤ atF look kd l al ∧ atF look kd l al ≤ 2 := by
  unfold atF
  split
  · split <;> omega
  · exact atL_range look kd l 1 (by omega) (by omega)
theorem rd_getElem (l : List S52) (i : Nat) (h : i < l.length) : rd_T52 l i = l[i] := by simp [rd_T52, h]
theorem cnt_snoc (look : Int → Option Int) (al : Bool) (q : Int) (l : List S52) (i : Nat) (h : i < l.length) : cnt look al q (l.take (i + 1)) = cnt look al q (l.take i) + if atS look al (rd_T52 l i) = q then 1 else 0 := by
  unfold cnt
  rw [List.take_succ_eq_append_getElem h, List.filter_append, rd_getElem l i h]
  by_cases e : atS look al l[i] = q <;> simp [List.filter_cons, e]
theorem cnt_le (look : Int → Option Int) (al : Bool) (q : Int) (l : List S52) : cnt look al q l ≤ l.length := List.length_filter_le _ _
theorem cnt_take_le (look : Int → Option Int) (al : Bool) (q : Int) (l : List S52) (i : Nat) : cnt look al q (l.take i) ≤ i := Nat.le_trans (cnt_le look al q _) (by simp; omega)
set_option maxHeartbeats 4000000 in
set_option maxRecDepth 100000 in
theorem ask_calls (any : Bool) (A : Option Addr) (c : Nat) (l : List S52) (al : Bool) (bm n : Nat) (look : Int → Option Int) (w : World) (hr : Kd.C k52 w A l.length l) (hc : l.length ≤ c) (hm : MapII w bm n look) (hok : ∀ x ∈ l, ∀ y ∈ x.f1, (Lit.int .i64 y).wf = true) :
    Calls Tryd.prog 12 #[.agg #[.bool any, .slice A l.length c], .map (some bm), .bool al] w fun e w' => e = .returned (.int .i64 (askF look any l al)) ∧ Below w.heap.size w w' := by
  have HR := Aside0.mk hr
  have HM := Aside0.mk hm
  have HO := Aside0.mk hok
  have HL := Aside0.mk hr.2.1
  have hu52 := Tryd.underlying52
  have hu31 := Tryd.underlying31
  have hu66 := Tryd.underlying66
  obtain ⟨R, hR⟩ : ∃ R, askF look any l al = R := ⟨_, rfl⟩
  have HA := Aside0.mk hR
  rw [hR]
  clear hr hm hok hc hR
  have hlen := HL.out
  go_enter Tryd.func12, Tryd.ntmps12
  go_wp2
  go_loopw [14] (fun v14 wr => ∃ (i : Nat), v14 = .int .i64 i ∧ i ≤ l.length ∧ Aside0 (wr.heap[w.heap.size]? = some (.cells #[.bool any, .slice A l.length c] 31 (0, 0))) ∧ Aside0 (wr.heap[w.heap.size + 1]? = some (.cells #[.int .i64 (cnt look al 0 (l.take i)), .int .i64 (cnt look al 1 (l.take i)), .int .i64 (cnt look al 2 (l.take i))] 66 (0, 0))) ∧ Aside0 (Below w.heap.size w wr)) (fun v14 _ => l.length - (intOf v14).toNat)
  case atStart => exact ⟨0, rfl, Nat.zero_le _, ⟨blk_alloc (blk_new _ _) _⟩, ⟨by have := heap_alloc_new (w.alloc (.cells #[.bool any, .slice A l.length c] 31)) (.cells #[.int .i64 0, .int .i64 0, .int .i64 0] 66); rw [World.size_alloc] at this; exact this⟩, ⟨below_alloc (below_alloc (Below.refl _ _) _) _⟩⟩
  case round =>
    obtain ⟨i, rfl, hi, BK, BA, HB⟩ := hrel
    by_cases hlt : i < l.length
    · have hz0 : wr.cell? ⟨w.heap.size, 0, none⟩ = some (.bool any) := (blk_cell BK.out 0).trans rfl
      have hz1 : wr.cell? ⟨w.heap.size, 1, none⟩ = some (.slice A l.length c) := (blk_cell BK.out 1).trans rfl
      obtain ⟨ad, A1, c1, rfl, hx0, hx1, hl1, hi1⟩ := at_T52 HR.out i (by omega) (by omega)
      rw [Int.toNat_natCast] at hx0 hx1
      replace hx0 := (HB.out.cell (World.block_lt_of_cell? w _ hx0)).trans hx0
      replace hx1 := (HB.out.cell (World.block_lt_of_cell? w _ hx1)).trans hx1
      have HI1 := Aside0.mk hi1
      have HL1 := Aside0.mk hl1
      clear hi1 hl1
      obtain ⟨v, hv⟩ : ∃ v, atS look al (rd_T52 l i) = v := ⟨_, rfl⟩
      have hvr := atF_range look (rd_T52 l i).f0 (rd_T52 l i).f1 al
      have hm1 := Aside0.mk (show rd_T52 l i ∈ l by rw [rd_getElem l i hlt]; exact List.getElem_mem _)
      have b0 := cnt_take_le look al 0 l i
      have b1 := cnt_take_le look al 1 l i
      have b2 := cnt_take_le look al 2 l i
      rw [show atF look (rd_T52 l i).f0 (rd_T52 l i).f1 al = v from hv] at hvr
      have HV := Aside0.mk hv
      clear hv
      go_wp2_with fail
      refine (at_calls (rd_T52 l i).f0 A1 c1 (rd_T52 l i).f1 al bm n look _ ?r1 HL1.out ?m1 (HO.out _ hm1.out)).mono ?_
      case r1 => exact Kd.C_below HI1.out (below_alloc HB.out _)
      case m1 => exact HM.out.below (below_alloc HB.out _)
      rintro e w2 ⟨he, hb⟩
      rw [show atF look (rd_T52 l i).f0 (rd_T52 l i).f1 al = v from HV.out] at he
      subst he
      have BA2 := Aside0.mk (blk_below (blk_alloc BA.out _) hb)
      have BK2 := Aside0.mk (blk_below (blk_alloc BK.out _) hb)
      have HB2 := Aside0.mk (below_then (below_alloc HB.out _) (below_alloc HB.out _).size hb)
      clear hb hx0 hx1 hz0 hz1
      have hy0 : w2.cell? ⟨w.heap.size + 1, 0, none⟩ = some (.int .i64 (cnt look al 0 (l.take i))) := (blk_cell BA2.out 0).trans rfl
      have hy1 : w2.cell? ⟨w.heap.size + 1, 1, none⟩ = some (.int .i64 (cnt look al 1 (l.take i))) := (blk_cell BA2.out 1).trans rfl
      have hy2 : w2.cell? ⟨w.heap.size + 1, 2, none⟩ = some (.int .i64 (cnt look al 2 (l.take i))) := (blk_cell BA2.out 2).trans rfl
      have hf0 := blk_frozen BA2.out 0
      have hf1 := blk_frozen BA2.out 1
      have hf2 := blk_frozen BA2.out 2
      have h3 : v = 0 ∨ v = 1 ∨ v = 2 := by omega
      clear hvr
      rcases h3 with rfl | rfl | rfl
      · skip
        have s0 := cnt_snoc look al 0 l i hlt
        have s1 := cnt_snoc look al 1 l i hlt
        have s2 := cnt_snoc look al 2 l i hlt
        rw [HV.out] at s0 s1 s2
        rw [if_pos rfl] at s0
        rw [if_neg (by decide), Nat.add_zero] at s1
        rw [if_neg (by decide), Nat.add_zero] at s2
        have S0 := Aside0.mk s0
        have S1 := Aside0.mk s1
        have S2 := Aside0.mk s2
        clear s0 s1 s2
        go_wp2
        go_roundw
        case rel =>
          refine ⟨i + 1, by go_num, by omega, ⟨?_⟩, ⟨?_⟩, ⟨?_⟩⟩
          · exact blk_far BK2.out (show w.heap.size ≠ w.heap.size + 1 by omega) _
          · rw [S0.out, S1.out, S2.out]
            exact blk_put BA2.out 0 _ (by simp only [List.setIfInBounds_toArray, List.set_cons_zero, List.set_cons_succ, Int.natCast_add]; simp)
          · exact below_set HB2.out (show w.heap.size ≤ w.heap.size + 1 by omega)
        case measure => simp [intOf]; omega
      · skip
        have s0 := cnt_snoc look al 0 l i hlt
        have s1 := cnt_snoc look al 1 l i hlt
        have s2 := cnt_snoc look al 2 l i hlt
        rw [HV.out] at s0 s1 s2
        rw [if_neg (by decide), Nat.add_zero] at s0
        rw [if_pos rfl] at s1
        rw [if_neg (by decide), Nat.add_zero] at s2
        have S0 := Aside0.mk s0
        have S1 := Aside0.mk s1
        have S2 := Aside0.mk s2
        clear s0 s1 s2
        go_wp2
        go_roundw
        case rel =>
          refine ⟨i + 1, by go_num, by omega, ⟨?_⟩, ⟨?_⟩, ⟨?_⟩⟩
          · exact blk_far BK2.out (show w.heap.size ≠ w.heap.size + 1 by omega) _
          · rw [S0.out, S1.out, S2.out]
            exact blk_put BA2.out 1 _ (by simp only [List.setIfInBounds_toArray, List.set_cons_zero, List.set_cons_succ, Int.natCast_add]; simp)
          · exact below_set HB2.out (show w.heap.size ≤ w.heap.size + 1 by omega)
        case measure => simp [intOf]; omega
      · skip
        have s0 := cnt_snoc look al 0 l i hlt
        have s1 := cnt_snoc look al 1 l i hlt
        have s2 := cnt_snoc look al 2 l i hlt
        rw [HV.out] at s0 s1 s2
        rw [if_neg (by decide), Nat.add_zero] at s0
        rw [if_neg (by decide), Nat.add_zero] at s1
        rw [if_pos rfl] at s2
        have S0 := Aside0.mk s0
        have S1 := Aside0.mk s1
        have S2 := Aside0.mk s2
        clear s0 s1 s2
        go_wp2
        go_roundw
        case rel =>
          refine ⟨i + 1, by go_num, by omega, ⟨?_⟩, ⟨?_⟩, ⟨?_⟩⟩
          · exact blk_far BK2.out (show w.heap.size ≠ w.heap.size + 1 by omega) _
          · rw [S0.out, S1.out, S2.out]
            exact blk_put BA2.out 2 _ (by simp only [List.setIfInBounds_toArray, List.set_cons_zero, List.set_cons_succ, Int.natCast_add]; simp)
          · exact below_set HB2.out (show w.heap.size ≤ w.heap.size + 1 by omega)
        case measure => simp [intOf]; omega
    · have e : l.take i = l := List.take_of_length_le (by omega)
      rw [e] at BA
      clear e
      have c0 := cnt_le look al 1 l
      have c1 := cnt_le look al 2 l
      have hz0 : wr.cell? ⟨w.heap.size, 0, none⟩ = some (.bool any) := (blk_cell BK.out 0).trans rfl
      have hz1 : wr.cell? ⟨w.heap.size, 1, none⟩ = some (.slice A l.length c) := (blk_cell BK.out 1).trans rfl
      have hy1 : wr.cell? ⟨w.heap.size + 1, 1, none⟩ = some (.int .i64 (cnt look al 1 l)) := (blk_cell BA.out 1).trans rfl
      have hy2 : wr.cell? ⟨w.heap.size + 1, 2, none⟩ = some (.int .i64 (cnt look al 2 l)) := (blk_cell BA.out 2).trans rfl
      have H1 := HA.out
      unfold askF at H1
      have HA1 := Aside0.mk H1
      clear HA H1
      cases any
      · by_cases g2 : 0 < cnt look al 2 l
        · have G2 : decide (0 < cnt look al 2 l) = true := decide_eq_true (by omega)
          have E := Aside0.mk (show (2 : Int) = R by have := HA1.out; simpa [g2] using this)
          clear g2
          go_wp2
          go_ret
          exact ⟨ret_int E.out, HB.out⟩
        · have G2 : decide (0 < cnt look al 2 l) = false := decide_eq_false (by omega)
          by_cases g1 : cnt look al 1 l = l.length
          · have G1 : ((cnt look al 1 l : Int) == (l.length : Int)) = true := by rw [g1]; simp
            have E := Aside0.mk (show (1 : Int) = R by have := HA1.out; simpa [g2, g1] using this)
            clear g2 g1
            go_wp2
            go_ret
            exact ⟨ret_int E.out, HB.out⟩
          · have G1 : ((cnt look al 1 l : Int) == (l.length : Int)) = false := beq_eq_false_iff_ne.mpr (by omega)
            have E := Aside0.mk (show (0 : Int) = R by have := HA1.out; simpa [g2, g1] using this)
            clear g2 g1
            go_wp2
            go_ret
            exact ⟨ret_int E.out, HB.out⟩
      · by_cases g1 : 0 < cnt look al 1 l
        · have G2 : decide (0 < cnt look al 1 l) = true := decide_eq_true (by omega)
          have E := Aside0.mk (show (1 : Int) = R by have := HA1.out; simpa [g1] using this)
          clear g1
          go_wp2
          go_ret
          exact ⟨ret_int E.out, HB.out⟩
        · have G2 : decide (0 < cnt look al 1 l) = false := decide_eq_false (by omega)
          by_cases g2 : cnt look al 2 l = l.length
          · have G1 : ((cnt look al 2 l : Int) == (l.length : Int)) = true := by rw [g2]; simp
            have E := Aside0.mk (show (2 : Int) = R by have := HA1.out; simpa [g2, g1] using this)
            clear g2 g1
            go_wp2
            go_ret
            exact ⟨ret_int E.out, HB.out⟩
          · have G1 : ((cnt look al 2 l : Int) == (l.length : Int)) = false := beq_eq_false_iff_ne.mpr (by omega)
            have E := Aside0.mk (show (0 : Int) = R by have := HA1.out; simpa [g2, g1] using this)
            clear g2 g1
            go_wp2
            go_ret
            exact ⟨ret_int E.out, HB.out⟩
end Go.Proofs.YtknbnnpggdegmaaDoor.At
end
section
namespace Go.Proofs.YtknbnnpggdegmaaDoor.At
open Go.RowKit Go.Proofs.YtknbnnpggdegmaaDoorW.PrintWords Go.Proofs.YtknbnnpggdegmaaDoorW.PrintLast Go.Proofs.YtknbnnpggdegmaaDoorW.PrintMore Go.Proofs.YtknbnnpggdegmaaDoor.PD Go.Proofs.YtknbnnpggdegmaaDoor.Mp
set_option linter.unusedVariables false
set_option linter.unusedSimpArgs false
end Go.Proofs.YtknbnnpggdegmaaDoor.At
end
section
namespace Go.Proofs.YtknbnnpggdegmaaDoor.PD
open Go.RowKit Go.Proofs.YtknbnnpggdegmaaDoor.Lib Go.Proofs.YtknbnnpggdegmaaDoorW.PrintWords Go.Proofs.YtknbnnpggdegmaaDoorW.PrintLast Go.Proofs.YtknbnnpggdegmaaDoorW.PrintMore
attribute [local go_sem] max2_int min2_int max_two min_two max_three min_three max_four min_four   
set_option linter.unusedVariables false
set_option linter.unusedSimpArgs false
end Go.Proofs.YtknbnnpggdegmaaDoor.PD
end
section
set_option linter.unusedVariables false
set_option linter.unusedSimpArgs false
namespace Go.Proofs.YtknbnnpggdegmaaDoor.Txt
open Go.RowKit Go.Proofs.YtknbnnpggdegmaaDoorW.PrintWords
def run (f : UInt8 → Bool) (l : List UInt8) (p : Nat) : Nat := p + ((l.drop p).takeWhile f).length
end Go.Proofs.YtknbnnpggdegmaaDoor.Txt
end
section
namespace Go.Proofs.YtknbnnpggdegmaaDoor.At
open Go.RowKit Go.Proofs.YtknbnnpggdegmaaDoorW.PrintWords Go.Proofs.YtknbnnpggdegmaaDoorW.PrintLast Go.Proofs.YtknbnnpggdegmaaDoorW.PrintMore Go.Proofs.YtknbnnpggdegmaaDoor.PD Go.Proofs.YtknbnnpggdegmaaDoor.Mp
set_option linter.unusedVariables false
set_option linter.unusedSimpArgs false
theorem wrapN {p : Nat} (h : p + 1 ≤ 9223372036854775807) : wrap64 ((p : Int) + 1) = ((p + 1 : Nat) : Int) := by unfold wrap64; omega
def cv (x : S46) : S52 := ⟨x.f0, x.f1⟩
theorem rd46 (l : List S46) (i : Nat) (h : i < l.length) : rd_T46 l i = l[i] := by simp [rd_T46, h]
theorem theirs_l (any : Bool) (l : List S46) (hl : l.length ≤ 4000000000) : ∀ (m k i : Nat), i + m = l.length → m < k →
    marlinspikelaw07_theirs.l0 k l (l.length : Int) i any ((l.take i).map cv) = some (any, l.map cv) := by
  intro m
  induction m with
  | zero =>
    intro k i hi hk
    obtain ⟨k, rfl⟩ : ∃ q, k = q + 1 := ⟨k - 1, by omega⟩
    simp only [marlinspikelaw07_theirs.l0]
    rw [if_neg (by omega), List.take_of_length_le (by omega)]
  | succ m ih =>
    intro k i hi hk
    obtain ⟨k, rfl⟩ : ∃ q, k = q + 1 := ⟨k - 1, by omega⟩
    simp only [marlinspikelaw07_theirs.l0]
    rw [if_pos (by omega), if_pos (by omega), if_pos (by omega), if_pos (by simp; omega), rd46 l i (by omega), wrapN (by omega)]
    have := ih k (i + 1) (by omega) (by omega)
    rw [List.take_succ_eq_append_getElem (by omega), List.map_append] at this
    exact this
theorem theirs_f (any : Bool) (l : List S46) (hl : l.length ≤ 4000000000) (k : Nat) (hk : l.length < k) : marlinspikelaw07_theirs.f k any l = some (any, l.map cv) := theirs_l any l hl l.length k 0 (by omega) hk
end Go.Proofs.YtknbnnpggdegmaaDoor.At
end
section
namespace Go.Proofs.YtknbnnpggdegmaaDoor.Jb
open Go.RowKit Go.Proofs.YtknbnnpggdegmaaDoorW.PrintWords Go.Proofs.YtknbnnpggdegmaaDoorW.PrintLast Go.Proofs.YtknbnnpggdegmaaDoorW.PrintMore Go.Proofs.YtknbnnpggdegmaaDoor.PD Go.Proofs.YtknbnnpggdegmaaDoor.At
set_option linter.unusedVariables false
set_option linter.unusedSimpArgs false
theorem pos_le (l : List Int) (n : Int) : pos l n ≤ l.length := by
  unfold pos
  exact (List.takeWhile_prefix _).length_le
theorem pos_lt : ∀ (l : List Int) (n : Int) (i : Nat), i < pos l n → ∃ h : i < l.length, l[i] < n
  | [], n, i, h => by simp [pos] at h
  | a :: l, n, i, h => by
    unfold pos at h
    by_cases ha : a < n
    · simp only [List.takeWhile_cons, ha, decide_true, ↓reduceIte, List.length_cons] at h
      cases i with
      | zero => exact ⟨by simp, ha⟩
      | succ i =>
        obtain ⟨h1, h2⟩ := pos_lt l n i (by unfold pos; omega)
        exact ⟨by simpa using h1, by simpa using h2⟩
    · simp [List.takeWhile_cons, ha] at h
theorem pos_ge : ∀ (l : List Int) (n : Int) (h : pos l n < l.length), ¬ l[pos l n] < n
  | [], n, h => by simp at h
  | a :: l, n, h => by
    unfold pos at h ⊢
    by_cases ha : a < n
    · simp only [List.takeWhile_cons, ha, decide_true, ↓reduceIte, List.length_cons] at h ⊢
      exact pos_ge l n (by unfold pos; omega)
    · simp [List.takeWhile_cons, ha]
theorem insS_at (l : List Int) (n : Int) : insS l n = if l[pos l n]? = some n then l else insAt l ((pos l n : Nat) : Int) n := by
  unfold insS insAt
  rw [Int.toNat_natCast]
theorem insS_len (l : List Int) (n : Int) : (insS l n).length ≤ l.length + 1 := by
  unfold insS
  have := pos_le l n
  split
  · omega
  · simp
    omega
theorem rdI (l : List Int) (i : Nat) (h : i < l.length) : rd l (i : Int) = l[i] := by simp [rd, h]
theorem ref_l2 (any : Bool) (l : List S46) (x3 : List Int) (hx : x3.length ≤ 100000) (i : Nat) (j : Nat) (hj : j ≤ 100000) (n : Int) : ∀ (d at_ k : Nat), at_ + d = pos x3 n →
    marlinspikeref07_Jobs.l2 (k + d + 1) x3 i j n at_ any l = marlinspikeref07_Jobs.l1 k (insS x3 n) i ((j + 1 : Nat) : Int) any l
  | 0, at_, k, h => by
    have hp := pos_le x3 n
    obtain rfl : at_ = pos x3 n := by omega
    simp only [marlinspikeref07_Jobs.l2, Nat.add_zero]
    rw [insS_at]
    by_cases hlt : pos x3 n < x3.length
    · have hge := pos_ge x3 n hlt
      rw [if_pos (by omega), if_pos (by omega), rdI x3 _ hlt, if_neg hge]
      by_cases he : x3[pos x3 n] = n
      · rw [if_pos he, if_pos (by rw [List.getElem?_eq_getElem hlt, he]), wrapN (by omega)]
      · rw [if_neg he, if_pos (by omega), if_neg (by rw [List.getElem?_eq_getElem hlt]; simpa using he), wrapN (by omega)]
    · rw [if_neg (by omega), if_pos (by omega), if_pos (by omega), if_neg (by rw [List.getElem?_eq_none (by omega)]; simp), wrapN (by omega)]
  | d + 1, at_, k, h => by
    obtain ⟨h1, h2⟩ := pos_lt x3 n at_ (by omega)
    obtain ⟨K, hK⟩ : ∃ K, k + d + 1 = K := ⟨_, rfl⟩
    rw [show k + (d + 1) + 1 = K + 1 by omega]
    simp only [marlinspikeref07_Jobs.l2]
    subst hK
    rw [if_pos (by omega), if_pos (by omega), rdI x3 at_ h1, if_pos h2, wrapN (by omega)]
    exact ref_l2 any l x3 hx i j hj n d (at_ + 1) k (by omega)
theorem ref_l1 (any : Bool) (l : List S46) (i : Nat) (hi : i < l.length) (hl : l.length ≤ 60) (hjs : l[i].f1.length ≤ 300) : ∀ (d j : Nat) (x3 : List Int), j + d = l[i].f1.length → x3.length + d ≤ 100000 →
    ∃ m, ∀ k, marlinspikeref07_Jobs.l1 (k + m) x3 i j any l = marlinspikeref07_Jobs.l0 k ((l[i].f1.drop j).foldl insS x3) ((i + 1 : Nat) : Int) any l
  | 0, j, x3, h, hx => ⟨1, fun k => by
    simp only [marlinspikeref07_Jobs.l1]
    rw [rd46 l i hi, if_pos (by omega), if_pos (by omega), if_neg (by omega), wrapN (by omega), List.drop_eq_nil_of_le (by omega)]
    rfl⟩
  | d + 1, j, x3, h, hx => by
    have hjl : j < l[i].f1.length := by omega
    obtain ⟨m, hm⟩ := ref_l1 any l i hi hl hjs d (j + 1) (insS x3 l[i].f1[j]) (by omega) (by have := insS_len x3 l[i].f1[j]; omega)
    refine ⟨m + pos x3 l[i].f1[j] + 1 + 1, fun k => ?_⟩
    rw [show k + (m + pos x3 l[i].f1[j] + 1 + 1) = (k + m + pos x3 l[i].f1[j] + 1) + 1 by omega]
    simp only [marlinspikeref07_Jobs.l1]
    rw [rd46 l i hi, if_pos (by omega), if_pos (by omega), if_pos (by omega), if_pos (by omega), rdI _ j hjl]
    have := ref_l2 any l x3 (by omega) i j (by omega) l[i].f1[j] (pos x3 l[i].f1[j]) 0 (k + m) (by omega)
    rw [show ((0 : Nat) : Int) = 0 from rfl] at this
    rw [this, hm k, List.drop_eq_getElem_cons hjl, List.foldl_cons]
def allJobs (l : List S46) : List Int := l.flatMap (·.f1)
theorem fold_len : ∀ (zs acc : List Int), (zs.foldl insS acc).length ≤ acc.length + zs.length
  | [], acc => by simp
  | z :: zs, acc => by
    have := fold_len zs (insS acc z)
    have := insS_len acc z
    simp only [List.foldl_cons, List.length_cons]
    omega
theorem ref_l0 (any : Bool) (l : List S46) (hl : l.length ≤ 60) (hjs : ∀ x ∈ l, x.f1.length ≤ 300) : ∀ (d i : Nat) (x3 : List Int), i + d = l.length → x3.length ≤ 300 * i →
    ∃ m, ∀ k, marlinspikeref07_Jobs.l0 (k + m) x3 i any l = some ((allJobs (l.drop i)).foldl insS x3)
  | 0, i, x3, h, hx => ⟨1, fun k => by
    simp only [marlinspikeref07_Jobs.l0]
    rw [if_neg (by omega), List.drop_eq_nil_of_le (by omega)]
    rfl⟩
  | d + 1, i, x3, h, hx => by
    have hi : i < l.length := by omega
    have hj := hjs l[i] (List.getElem_mem _)
    have hlen := fold_len l[i].f1 x3
    obtain ⟨m, hm⟩ := ref_l0 any l hl hjs d (i + 1) (l[i].f1.foldl insS x3) (by omega) (by omega)
    obtain ⟨m1, hm1⟩ := ref_l1 any l i hi hl hj l[i].f1.length 0 x3 (by omega) (by omega)
    refine ⟨m + m1 + 1, fun k => ?_⟩
    rw [show k + (m + m1 + 1) = (k + m + m1) + 1 by omega]
    simp only [marlinspikeref07_Jobs.l0]
    have h0 := hm1 (k + m)
    rw [show ((0 : Nat) : Int) = 0 from rfl] at h0
    rw [if_pos (by omega), h0, List.drop_zero, hm k, List.drop_eq_getElem_cons hi]
    unfold allJobs
    rw [List.flatMap_cons, List.foldl_append]
theorem dep_l0 (l : List S52) (hl : l.length ≤ 60) (hjs : ∀ x ∈ l, x.f1.length ≤ 300) : ∀ (d i : Nat) (x3 : List Int) (k : Nat), i + d = l.length → x3.length ≤ 300 * i → d < k →
    dep_Jobs.l0 k x3 l (l.length : Int) i = some (x3 ++ (l.drop i).flatMap (·.f1))
  | 0, i, x3, k, h, hx, hk => by
    obtain ⟨k, rfl⟩ : ∃ q, k = q + 1 := ⟨k - 1, by omega⟩
    simp only [dep_Jobs.l0]
    rw [if_neg (by omega), List.drop_eq_nil_of_le (by omega)]
    simp
  | d + 1, i, x3, k, h, hx, hk => by
    obtain ⟨k, rfl⟩ : ∃ q, k = q + 1 := ⟨k - 1, by omega⟩
    have hi : i < l.length := by omega
    have hj := hjs l[i] (List.getElem_mem _)
    simp only [dep_Jobs.l0]
    rw [if_pos (by omega), if_pos (by omega), if_pos (by omega), rd_getElem l i hi, if_pos (by omega), wrapN (by omega), dep_l0 l hl hjs d (i + 1) _ k (by omega) (by simp; omega) (by omega), List.drop_eq_getElem_cons hi, List.flatMap_cons, List.append_assoc]
theorem dep_jobs (any : Bool) (l : List S52) (hl : l.length ≤ 60) (hjs : ∀ x ∈ l, x.f1.length ≤ 300) : dep_Jobs.f (l.length + 1) any l = some (l.flatMap (·.f1)) := by
  unfold dep_Jobs.f
  have := dep_l0 l hl hjs l.length 0 [] (l.length + 1) (by omega) (by simp) (by omega)
  rw [show ((0 : Nat) : Int) = 0 from rfl] at this
  rw [this]
  simp
end Go.Proofs.YtknbnnpggdegmaaDoor.Jb
end
section
set_option linter.unusedVariables false
set_option linter.unusedSimpArgs false
namespace Go.Proofs.YtknbnnpggdegmaaDoor.Mp
open Go.RowKit Go.WideShapes
def rawR : Value → Option (DataW Value × List MemPlace) := fun v => some (.held v, [])
section
variable {P : Program} {kt et t : TypeId} {κ : Type} (K : KeyEnc P kt κ)
structure RawOf (w : World) (b n : Nat) (f : κ → Option Value) : Prop where mk ::
  out : ∃ D : DataW Value, w.ownsMap P kt rawR b n D ∧ Maps.IsMap D ∧ ∀ k, Maps.has D (K.lit k) = (f k).isSome ∧ ∀ z, D.atKey (K.lit k) (.held z) = .held ((f k).getD z)
variable {K}
variable {w w' : World} {b n : Nat} {f : κ → Option Value}
theorem RawOf.made (w : World) : RawOf K (w.alloc (.map #[] 0)) w.heap.size 0 (fun _ => none) :=
  ⟨.map [], World.ownsMap_made w P kt _, ⟨[], rfl⟩, fun k => ⟨rfl, fun z => rfl⟩⟩
theorem RawOf.mono (h : RawOf K w b n f) {n' : Nat} (hn : n ≤ n') : RawOf K w b n' f := by
  obtain ⟨D, h1, h2⟩ := h.out; exact ⟨D, h1.mono hn, h2⟩
theorem RawOf.lt (h : RawOf K w b n f) : b < w.heap.size := by obtain ⟨D, h1, _⟩ := h.out; exact h1.lt
theorem RawOf.grown (h : RawOf K w b n f) {row : Option Nat} (hg : w.grownBy w' row) (hne : some b ≠ row) : RawOf K w' b n f := by
  obtain ⟨D, h1, h2⟩ := h.out; exact ⟨D, h1.kept hg hne, h2⟩
theorem RawOf.below (h : RawOf K w b n f) (hb : Below w.heap.size w w') : RawOf K w' b n f :=
  h.grown (row := none) ⟨hb.os, hb.tape, hb.output, hb.size, fun i hi _ => hb.block i hi⟩ (by simp)
theorem RawOf.alloc (h : RawOf K w b n f) (o : Obj) : RawOf K (w.alloc o) b n f := by
  obtain ⟨D, h1, h2⟩ := h.out; exact ⟨D, h1.alloc o, h2⟩
theorem RawOf.drew (h : RawOf K w b n f) : RawOf K w.drew b n f := by
  obtain ⟨D, h1, h2⟩ := h.out; exact ⟨D, h1.drew, h2⟩
theorem RawOf.setCell (h : RawOf K w b n f) {a : Addr} (ha : b ≠ a.block) (u : Value) : RawOf K (w.setCell a u) b n f := by
  obtain ⟨D, h1, h2⟩ := h.out; exact ⟨D, h1.setCell ha u, h2⟩
theorem RawOf.noCells (h : RawOf K w b n f) {c : Array Value} {tt : TypeId} {fr : Nat × Nat} (hc : w.heap[b]? = some (.cells c tt fr)) : False := by
  obtain ⟨D, ⟨es, clock, h1, _⟩, _⟩ := h.out
  rw [h1] at hc; cases hc
theorem RawOf.run_ok (h : RawOf K w b n f) (ht : P.underlying t = some (.map kt et)) {z : Value} (hz : (zeroValue et).run P w = .ok z w) {k : κ} (hk : K.ok k) :
    (Instr.lookup t (.map (some b)) (K.val k) true).run P w = .ok (.tuple #[(f k).getD z, .bool (f k).isSome]) w := by
  obtain ⟨D, h1, h2, h3⟩ := h.out
  obtain ⟨v, ps, hrun, hv⟩ := h1.look_ok K.law ht hz (show rawR z = some (.held z, []) from rfl) (K.key k hk)
  rw [(h3 k).2] at hv
  unfold rawR at hv
  simp only [Option.some.injEq, Prod.mk.injEq, DataW.held.injEq] at hv
  rw [hrun, (h3 k).1, hv.1]
theorem RawOf.run_plain (h : RawOf K w b n f) (ht : P.underlying t = some (.map kt et)) {z : Value} (hz : (zeroValue et).run P w = .ok z w) {k : κ} (hk : K.ok k) :
    (Instr.lookup t (.map (some b)) (K.val k) false).run P w = .ok ((f k).getD z) w := by
  obtain ⟨D, h1, h2, h3⟩ := h.out
  obtain ⟨v, ps, hrun, hv⟩ := h1.lookup K.law ht hz (show rawR z = some (.held z, []) from rfl) (K.key k hk)
  rw [(h3 k).2] at hv
  unfold rawR at hv
  simp only [Option.some.injEq, Prod.mk.injEq, DataW.held.injEq] at hv
  rw [hrun, hv.1]
theorem RawOf.put [DecidableEq κ] {D : DataW Value} (h2 : Maps.IsMap D) (h3 : ∀ k, Maps.has D (K.lit k) = (f k).isSome ∧ ∀ z, D.atKey (K.lit k) (.held z) = .held ((f k).getD z)) (k : κ) (x : Value) :
    Maps.IsMap (D.put (K.lit k) (.held x)) ∧ ∀ k', Maps.has (D.put (K.lit k) (.held x)) (K.lit k') = (if k' = k then some x else f k').isSome ∧ ∀ z, (D.put (K.lit k) (.held x)).atKey (K.lit k') (.held z) = .held ((if k' = k then some x else f k').getD z) := by
  refine ⟨h2.put _ _, fun k' => ?_⟩
  by_cases e : k' = k
  · subst e
    rw [if_pos rfl]
    exact ⟨Maps.has_put_same h2 (K.isLit _) _, fun z => Maps.atKey_put_same h2 (K.isLit _) _ _⟩
  · rw [if_neg e]
    have hne : K.lit k' ≠ K.lit k := fun h => e (K.inj _ _ h)
    exact ⟨by rw [Maps.has_put_other hne]; exact (h3 k').1, fun z => by rw [Maps.atKey_put_other hne]; exact (h3 k').2 z⟩
theorem RawOf.update [DecidableEq κ] (h : RawOf K w b n f) (ht : P.underlying t = some (.map kt et)) (hn : n < maxLen) {k : κ} (hk : K.ok k) (x : Value) :
    ∃ w', (Instr.mapUpdate t (.map (some b)) (K.val k) x).run P w = .ok () w' ∧ RawOf K w' b (n + 1) (fun k' => if k' = k then some x else f k') ∧ w.grownBy w' (some b) := by
  obtain ⟨D, h1, h2, h3⟩ := h.out
  obtain ⟨w', hrun, h4, h5⟩ := h1.update K.law ht hn (K.key k hk) (show rawR x = some (.held x, []) from rfl)
  exact ⟨w', hrun, ⟨_, h4, RawOf.put h2 h3 k x⟩, h5⟩
end
end Go.Proofs.YtknbnnpggdegmaaDoor.Mp
end
section
set_option linter.unusedVariables false
namespace Go.Proofs.YtknbnnpggdegmaaDoor.Reach
variable (nb : Int → List Int) (src : Int)
inductive Way : Int → Int → Prop
  | one {a b : Int} : b ∈ nb a → Way a b
  | more {a b c : Int} : b ∈ nb a → Way b c → Way a c
theorem Way.snoc {a b c : Int} (h : Way nb a b) (k : c ∈ nb b) : Way nb a c := by
  induction h with
  | one h => exact .more h (.one k)
  | more h _ ih => exact .more h (ih k)
theorem no_way {M : List Int} (h0 : ∀ y ∈ nb src, y ≠ src ∧ y ∈ M) (h : ∀ x ∈ M, ∀ y ∈ nb x, y ≠ src ∧ y ∈ M) : ¬ Way nb src src := by
  have key : ∀ a b, Way nb a b → (a = src ∨ a ∈ M) → b ≠ src := by
    intro a b hw
    induction hw with
    | one hb =>
      intro ha
      rcases ha with rfl | ha
      · exact (h0 _ hb).1
      · exact (h _ ha _ hb).1
    | more hb _ ih =>
      intro ha
      rcases ha with rfl | ha
      · exact ih (.inr (h0 _ hb).2)
      · exact ih (.inr (h _ ha _ hb).2)
  exact fun hw => key _ _ hw (.inl rfl) rfl
def deep : Nat → List Int → List Int → Option (Bool × List Int)
  | _, [], M => some (false, M)
  | 0, _ :: _, _ => none
  | f + 1, k :: ks, M =>
    if k = src then some (true, M)
    else if k ∈ M then deep (f + 1) ks M
    else (deep f (nb k) (k :: M)).bind fun r => if r.1 then some (true, r.2) else deep (f + 1) ks r.2
termination_by f ks => (f, ks.length)
theorem deep_false : ∀ (f : Nat) (ks M M' : List Int), deep nb src f ks M = some (false, M') →
    (∀ x ∈ M, x ∈ M') ∧ (∀ k ∈ ks, k ≠ src ∧ k ∈ M') ∧ ∀ x ∈ M', x ∉ M → ∀ y ∈ nb x, y ≠ src ∧ y ∈ M' := by
  intro f
  induction f with
  | zero =>
    intro ks M M' h
    cases ks with
    | nil =>
      simp only [deep, Option.some.injEq, Prod.mk.injEq, true_and] at h
      subst h
      refine ⟨fun x hx => hx, ?_, fun x hx hn => absurd hx hn⟩
      intro k hk
      exact absurd hk List.not_mem_nil
    | cons k ks => simp [deep] at h
  | succ f ihf =>
    intro ks
    induction ks with
    | nil =>
      intro M M' h
      simp only [deep, Option.some.injEq, Prod.mk.injEq, true_and] at h
      subst h
      refine ⟨fun x hx => hx, ?_, fun x hx hn => absurd hx hn⟩
      intro k hk
      exact absurd hk List.not_mem_nil
    | cons k ks ih =>
      intro M M' h
      rw [deep] at h
      by_cases hs : k = src
      · rw [if_pos hs] at h; simp at h
      · rw [if_neg hs] at h
        by_cases hm : k ∈ M
        · rw [if_pos hm] at h
          obtain ⟨a1, a2, a3⟩ := ih M M' h
          refine ⟨a1, fun q hq => ?_, a3⟩
          rcases List.mem_cons.1 hq with rfl | hq
          · exact ⟨hs, a1 _ hm⟩
          · exact a2 q hq
        · rw [if_neg hm] at h
          obtain ⟨⟨r, M1⟩, h1, h2⟩ := Option.bind_eq_some_iff.1 h
          cases r with
          | true => simp at h2
          | false =>
            simp only [Bool.false_eq_true, ↓reduceIte] at h2
            obtain ⟨b1, b2, b3⟩ := ihf (nb k) (k :: M) M1 h1
            obtain ⟨a1, a2, a3⟩ := ih M1 M' h2
            refine ⟨fun x hx => a1 x (b1 x (List.mem_cons_of_mem _ hx)), fun q hq => ?_, fun x hx hn y hy => ?_⟩
            · rcases List.mem_cons.1 hq with rfl | hq
              · exact ⟨hs, a1 _ (b1 _ (List.mem_cons_self ..))⟩
              · exact a2 q hq
            · by_cases hx1 : x ∈ M1
              · by_cases hk : x = k
                · subst hk
                  have := b2 y hy
                  exact ⟨this.1, a1 _ this.2⟩
                · have := b3 x hx1 (fun hc => by rcases List.mem_cons.1 hc with h | h; exact hk h; exact hn h) y hy
                  exact ⟨this.1, a1 _ this.2⟩
              · exact a3 x hx hx1 y hy
theorem deep_true : ∀ (f : Nat) (ks M M' : List Int), deep nb src f ks M = some (true, M') → ∃ k ∈ ks, k = src ∨ Way nb k src := by
  intro f
  induction f with
  | zero =>
    intro ks M M' h
    cases ks with
    | nil => simp [deep] at h
    | cons k ks => simp [deep] at h
  | succ f ihf =>
    intro ks
    induction ks with
    | nil => intro M M' h; simp [deep] at h
    | cons k ks ih =>
      intro M M' h
      rw [deep] at h
      by_cases hs : k = src
      · exact ⟨k, List.mem_cons_self .., .inl hs⟩
      · rw [if_neg hs] at h
        by_cases hm : k ∈ M
        · rw [if_pos hm] at h
          obtain ⟨q, hq, hw⟩ := ih M M' h
          exact ⟨q, List.mem_cons_of_mem _ hq, hw⟩
        · rw [if_neg hm] at h
          obtain ⟨⟨r, M1⟩, h1, h2⟩ := Option.bind_eq_some_iff.1 h
          cases r with
          | true =>
            obtain ⟨q, hq, hw⟩ := ihf (nb k) (k :: M) M1 h1
            refine ⟨k, List.mem_cons_self .., .inr ?_⟩
            rcases hw with rfl | hw
            · exact .one hq
            · exact .more hq hw
          | false =>
            simp only [Bool.false_eq_true, ↓reduceIte] at h2
            obtain ⟨q, hq, hw⟩ := ih M1 M' h2
            exact ⟨q, List.mem_cons_of_mem _ hq, hw⟩
theorem deep_iff {f : Nat} {r : Bool} {M' : List Int} (h : deep nb src f (nb src) [] = some (r, M')) : r = true ↔ Way nb src src := by
  cases r with
  | true =>
    simp only [true_iff]
    obtain ⟨k, hk, hw⟩ := deep_true nb src f _ _ _ h
    rcases hw with rfl | hw
    · exact .one hk
    · exact .more hk hw
  | false =>
    simp only [Bool.false_eq_true, false_iff]
    obtain ⟨_, h2, h3⟩ := deep_false nb src f _ _ _ h
    exact no_way nb src h2 (fun x hx => h3 x hx (by simp))
def addAll : List Int → List Int → Option (List Int)
  | [], T => some T
  | y :: ys, T => if y = src then none else addAll ys (if y ∈ T then T else T ++ [y])
theorem addAll_some : ∀ (ys T T' : List Int), addAll src ys T = some T' → (∃ S, T' = T ++ S ∧ ∀ s ∈ S, s ∈ ys) ∧ ∀ y ∈ ys, y ≠ src ∧ y ∈ T'
  | [], T, T', h => by
    simp only [addAll, Option.some.injEq] at h
    subst h
    exact ⟨⟨[], by simp, fun s hs => by cases hs⟩, fun y hy => by cases hy⟩
  | y :: ys, T, T', h => by
    unfold addAll at h
    by_cases hy : y = src
    · rw [if_pos hy] at h; cases h
    · rw [if_neg hy] at h
      obtain ⟨⟨S, rfl, hS⟩, hall⟩ := addAll_some ys _ _ h
      by_cases hm : y ∈ T
      · rw [if_pos hm] at hall ⊢
        refine ⟨⟨S, rfl, fun s hs => List.mem_cons_of_mem _ (hS s hs)⟩, fun q hq => ?_⟩
        rcases List.mem_cons.1 hq with rfl | hq
        · exact ⟨hy, List.mem_append_left _ hm⟩
        · exact hall q hq
      · rw [if_neg hm] at hall ⊢
        refine ⟨⟨y :: S, by simp, fun s hs => ?_⟩, fun q hq => ?_⟩
        · rcases List.mem_cons.1 hs with rfl | hs
          · exact List.mem_cons_self ..
          · exact List.mem_cons_of_mem _ (hS s hs)
        · rcases List.mem_cons.1 hq with rfl | hq
          · exact ⟨hy, by simp⟩
          · exact hall q hq
theorem addAll_none : ∀ (ys T : List Int), addAll src ys T = none → src ∈ ys
  | [], T, h => by simp [addAll] at h
  | y :: ys, T, h => by
    unfold addAll at h
    by_cases hy : y = src
    · rw [hy]; exact List.mem_cons_self ..
    · rw [if_neg hy] at h
      exact List.mem_cons_of_mem _ (addAll_none ys _ h)
def broad : Nat → List Int → Nat → Option Bool
  | 0, _, _ => none
  | f + 1, T, i => if h : i < T.length then (match addAll src (nb T[i]) T with
      | none => some true
      | some T' => broad f T' (i + 1)) else some false
theorem broad_iff : ∀ (f : Nat) (T : List Int) (i : Nat) (r : Bool), (∀ x ∈ T, x = src ∨ Way nb src x) → (∀ j (h : j < T.length), j < i → ∀ y ∈ nb T[j], y ≠ src ∧ y ∈ T) → src ∈ T → broad nb src f T i = some r → (r = true ↔ Way nb src src) := by
  intro f
  induction f with
  | zero => intro T i r _ _ _ h; simp [broad] at h
  | succ f ih =>
    intro T i r hT hC h0 h
    unfold broad at h
    by_cases hi : i < T.length
    · rw [dif_pos hi] at h
      cases ha : addAll src (nb T[i]) T with
      | none =>
        rw [ha] at h
        simp only [Option.some.injEq] at h
        subst h
        simp only [true_iff]
        have hm := addAll_none src _ _ ha
        rcases hT _ (List.getElem_mem hi) with e | hw
        · rw [e] at hm; exact .one hm
        · exact hw.snoc nb hm
      | some T' =>
        rw [ha] at h
        simp only at h
        obtain ⟨⟨S, rfl, hS⟩, hall⟩ := addAll_some src _ _ _ ha
        refine ih (T ++ S) (i + 1) r ?_ ?_ (List.mem_append_left _ h0) h
        · intro x hx
          rcases List.mem_append.1 hx with hx | hx
          · exact hT x hx
          · rcases hT _ (List.getElem_mem hi) with e | hw
            · have := hS x hx; rw [e] at this; exact .inr (.one this)
            · exact .inr (hw.snoc nb (hS x hx))
        · intro j hj hji y hy
          have hjT : j < T.length := by omega
          rw [List.getElem_append_left hjT] at hy
          by_cases hj2 : j = i
          · subst hj2; exact hall y hy
          · have := hC j hjT (by omega) y hy
            exact ⟨this.1, List.mem_append_left _ this.2⟩
    · rw [dif_neg hi] at h
      simp only [Option.some.injEq] at h
      subst h
      simp only [Bool.false_eq_true, false_iff]
      have hall : ∀ x ∈ T, ∀ y ∈ nb x, y ≠ src ∧ y ∈ T := fun x hx y hy => by
        obtain ⟨j, hj, rfl⟩ := List.getElem_of_mem hx
        exact hC j hj (by omega) y hy
      exact no_way nb src (M := T) (hall src h0) hall
theorem same {f g : Nat} {r q : Bool} {M' : List Int} (h : deep nb src f (nb src) [] = some (r, M')) (k : broad nb src g [src] 0 = some q) : r = q := by
  have h1 := deep_iff nb src h
  have h2 := broad_iff nb src g [src] 0 q (fun x hx => .inl (by simpa using hx)) (fun j hj hj0 => by omega) (by simp) k
  cases r <;> cases q <;> simp_all
def left (keys M : List Int) : Nat := (keys.filter fun k => !decide (k ∈ M)).length
theorem left_le (keys M M' : List Int) (h : ∀ x ∈ M, x ∈ M') : left keys M' ≤ left keys M := by
  unfold left
  induction keys with
  | nil => simp
  | cons k keys ih =>
    simp only [List.filter_cons]
    by_cases h1 : k ∈ M
    · have h2 := h k h1
      simp [h1, h2]; exact ih
    · by_cases h2 : k ∈ M'
      · simp [h1, h2]; omega
      · simp [h1, h2]; exact ih
theorem left_lt (keys M : List Int) (k : Int) (hk : k ∈ keys) (hm : k ∉ M) : left keys (k :: M) < left keys M := by
  unfold left
  induction keys with
  | nil => cases hk
  | cons q keys ih =>
    simp only [List.filter_cons]
    by_cases hq : q = k
    · subst hq
      have h1 := left_le keys M (q :: M) (fun x hx => List.mem_cons_of_mem _ hx)
      unfold left at h1
      simp [hm]
      simp at h1
      omega
    · have hk' : k ∈ keys := by rcases List.mem_cons.1 hk with h | h; exact absurd h.symm hq; exact h
      have := ih hk'
      by_cases h1 : q ∈ M
      · simp [h1, hq] at this ⊢; exact this
      · simp [h1, hq] at this ⊢; exact this
theorem deep_some (keys : List Int) (hkeys : ∀ x, nb x ≠ [] → x ∈ keys) : ∀ (f : Nat) (ks M : List Int), left keys M < f → ∃ r, deep nb src f ks M = some r := by
  intro f
  induction f with
  | zero => intro ks M h; omega
  | succ f ihf =>
    intro ks
    induction ks with
    | nil => intro M h; exact ⟨_, by rw [deep]⟩
    | cons k ks ih =>
      intro M h
      rw [deep]
      by_cases hs : k = src
      · rw [if_pos hs]; exact ⟨_, rfl⟩
      · rw [if_neg hs]
        by_cases hm : k ∈ M
        · rw [if_pos hm]; exact ih M h
        · rw [if_neg hm]
          have h1 : ∃ r, deep nb src f (nb k) (k :: M) = some r := by
            by_cases hn : nb k = []
            · rw [hn]; cases f with
              | zero => exact ⟨_, by rw [deep]⟩
              | succ f => exact ⟨_, by rw [deep]⟩
            · have := left_lt keys M k (hkeys k hn) hm
              exact ihf _ _ (by omega)
          obtain ⟨⟨r, M1⟩, h1⟩ := h1
          rw [h1]
          simp only [Option.bind_some]
          cases r with
          | true => exact ⟨_, rfl⟩
          | false =>
            simp only [Bool.false_eq_true, ↓reduceIte]
            have hsub := (deep_false nb src f _ _ _ h1).1
            have := left_le keys M M1 (fun x hx => hsub x (List.mem_cons_of_mem _ hx))
            exact ih M1 (by omega)
theorem deep_start (keys : List Int) (hkeys : ∀ x, nb x ≠ [] → x ∈ keys) : ∃ r, deep nb src (keys.length + 1) (nb src) [] = some r := by
  refine deep_some nb src keys hkeys _ _ _ ?_
  unfold left
  have := List.length_filter_le (fun k => !decide (k ∈ ([] : List Int))) keys
  omega
end Go.Proofs.YtknbnnpggdegmaaDoor.Reach
end
section
namespace Go.Proofs.YtknbnnpggdegmaaDoor.Lp
open Go.RowKit Go.Proofs.YtknbnnpggdegmaaDoor.Lib Go.Proofs.YtknbnnpggdegmaaDoorW.PrintWords Go.Proofs.YtknbnnpggdegmaaDoorW.PrintLast Go.Proofs.YtknbnnpggdegmaaDoorW.PrintMore Go.Proofs.YtknbnnpggdegmaaDoor.PD Go.Proofs.YtknbnnpggdegmaaDoor.Mp Go.Proofs.YtknbnnpggdegmaaDoor.Reach
set_option linter.unusedVariables false
set_option linter.unusedSimpArgs false
noncomputable def KI : KeyEnc Tryd.prog 3 Int := intKey Tryd.underlying3
theorem zero4 (w : World) : (zeroValue 4).run Tryd.prog w = .ok (.bool false) w := by kernel_rfl
theorem zero31 (w : World) : (zeroValue 31).run Tryd.prog w = .ok (.agg #[.bool false, .slice none 0 0]) w := by kernel_rfl
noncomputable def VB : ElEnc Tryd.prog 4 Bool := boolEl Tryd.underlying4 zero4
def metF (M : List Int) : Int → Option Bool := fun k => if k ∈ M then some true else none
theorem metF_put (M : List Int) (n : Int) : (fun k' => if k' = n then some true else metF M k') = metF (n :: M) := by
  funext k
  unfold metF
  by_cases e : k = n
  · subst e; simp
  · simp [e]
theorem mapOf_fun {W : World} {b n : Nat} {f f' : Int → Option Bool} (h : MapOf KI VB W b n f) (e : f = f') : MapOf KI VB W b n f' := e ▸ h
theorem nodup_len : ∀ (M U : List Int), M.Nodup → (∀ x ∈ M, x ∈ U) → M.length ≤ U.length
  | [], U, _, _ => by simp
  | x :: M, U, hn, hs => by
    have hx : x ∈ U := hs x (by simp)
    obtain ⟨h1, h2⟩ := List.nodup_cons.1 hn
    have ih := nodup_len M (U.erase x) h2 (fun y hy => by
      have hne : y ≠ x := fun e => h1 (e ▸ hy)
      exact (List.mem_erase_of_ne hne).2 (hs y (List.mem_cons_of_mem _ hy)))
    rw [List.length_erase_of_mem hx] at ih
    have : 0 < U.length := List.length_pos_of_mem hx
    simp only [List.length_cons]
    omega
def nbOf (ds : Int → List S52) (n : Int) : List Int := sorted ((ds n).flatMap (·.f1))
structure Deps (w0 : World) (bm nm : Nat) (F : Int → Option Value) (ds : Int → List S52) (U : List Int) : Prop where mk ::
  mm : RawOf KI w0 bm nm F
  dd : ∀ id, ∃ any A c, (F id).getD (.agg #[.bool false, .slice none 0 0]) = .agg #[.bool any, .slice A (ds id).length c] ∧ (ds id).length ≤ c ∧ Kd.C k52 w0 A (ds id).length (ds id)
  few : ∀ id, (ds id).length ≤ 60 ∧ ∀ x ∈ ds id, x.f1.length ≤ 300
  wf : ∀ id, ∀ k ∈ nbOf ds id, (Lit.int .i64 k).wf = true ∧ k ∈ U
  len : U.length ≤ 2000000
structure Env (w0 : World) (b1 b2 b3 b4 bm bt : Nat) (src : Int) (U M : List Int) (w : World) : Prop where mk ::
  bel : Below w0.heap.size w0 w
  c1 : w.heap[b1]? = some (.cells #[.map (some bm)] 60 (0, 0))
  c2 : w.heap[b2]? = some (.cells #[.int .i64 src] 3 (0, 0))
  c3 : w.heap[b3]? = some (.cells #[.map (some bt)] 82 (0, 0))
  c4 : w.heap[b4]? = some (.cells #[.func (.func 41) #[] #[.pointer (some ⟨b1, 0, none⟩), .pointer (some ⟨b2, 0, none⟩), .pointer (some ⟨b3, 0, none⟩), .pointer (some ⟨b4, 0, none⟩)]] 50 (0, 0))
  tt : MapOf KI VB w bt M.length (metF M)
  nd : M.Nodup
  su : ∀ x ∈ M, x ∈ U
  ge : w0.heap.size ≤ bt
structure Frame (bt : Nat) (w w' : World) : Prop where mk ::
  size : w.heap.size ≤ w'.heap.size
  block : ∀ i, i < w.heap.size → i ≠ bt → w'.heap[i]? = w.heap[i]?
theorem Frame.refl (bt : Nat) (w : World) : Frame bt w w := ⟨Nat.le_refl _, fun _ _ _ => rfl⟩
theorem Frame.trans {bt : Nat} {a b c : World} (h : Frame bt a b) (k : Frame bt b c) : Frame bt a c :=
  ⟨Nat.le_trans h.size k.size, fun i hi hn => by rw [k.block i (Nat.lt_of_lt_of_le hi h.size) hn, h.block i hi hn]⟩
theorem Frame.of_below {bt : Nat} {w w' : World} (h : Below w.heap.size w w') : Frame bt w w' := ⟨h.size, fun i hi _ => h.block i hi⟩
theorem Env.below {w0 : World} {b1 b2 b3 b4 bm bt : Nat} {src : Int} {U M : List Int} {w w' : World} (h : Env w0 b1 b2 b3 b4 bm bt src U M w) (hb : Below w.heap.size w w') : Env w0 b1 b2 b3 b4 bm bt src U M w' :=
  ⟨below_then h.bel h.bel.size hb, blk_below h.c1 hb, blk_below h.c2 hb, blk_below h.c3 hb, blk_below h.c4 hb, h.tt.below hb, h.nd, h.su, h.ge⟩
theorem Env.ne {w0 : World} {b1 b2 b3 b4 bm bt : Nat} {src : Int} {U M : List Int} {w : World} (h : Env w0 b1 b2 b3 b4 bm bt src U M w) {b t : Nat} {cs : Array Value} (hb : w.heap[b]? = some (.cells cs t (0, 0))) : b ≠ bt := fun e => by
  rw [e] at hb
  exact h.tt.noCells hb
theorem Env.put {w0 : World} {b1 b2 b3 b4 bm bt : Nat} {src : Int} {U M : List Int} {w : World} (h : Env w0 b1 b2 b3 b4 bm bt src U M w) (hU : U.length ≤ 2000000) (k : Int) (hw : (Lit.int .i64 k).wf = true) (hk : k ∈ U) (hn : k ∉ M) :
    ∃ w', (Instr.mapUpdate 82 (.map (some bt)) (.int .i64 k) (.bool true)).run Tryd.prog w = .ok () w' ∧ Env w0 b1 b2 b3 b4 bm bt src U (k :: M) w' ∧ Frame bt w w' := by
  have hl := nodup_len M U h.nd h.su
  obtain ⟨w', hr, hm, hg⟩ := h.tt.update (t := 82) Tryd.underlying82 (Nat.lt_of_le_of_lt (show M.length ≤ 2000000 by omega) (by decide)) (k := k) hw (x := true) trivial
  have far : ∀ {b t : Nat} {cs : Array Value}, w.heap[b]? = some (.cells cs t (0, 0)) → w'.heap[b]? = some (.cells cs t (0, 0)) := fun hb => blk_grown hb hg (fun e => h.ne hb (Option.some.inj e))
  exact ⟨w', hr, ⟨h.bel.grown hg h.bel.size (fun q hq => (Option.some.inj hq) ▸ h.ge), far h.c1, far h.c2, far h.c3, far h.c4, mapOf_fun hm (metF_put M k), List.nodup_cons.2 ⟨hn, h.nd⟩, fun x hx => by
    rcases List.mem_cons.1 hx with rfl | hx
    · exact hk
    · exact h.su x hx, h.ge⟩, ⟨hg.size, fun i hi hne => hg.block i hi (fun e => hne (Option.some.inj e))⟩⟩
theorem Env.look {w0 : World} {b1 b2 b3 b4 bm bt : Nat} {src : Int} {U M : List Int} {w : World} (h : Env w0 b1 b2 b3 b4 bm bt src U M w) (k : Int) (hw : (Lit.int .i64 k).wf = true) (b : Bool) (hb : decide (k ∈ M) = b) :
    (Instr.lookup 82 (.map (some bt)) (.int .i64 k) false).run Tryd.prog w = .ok (.bool b) w := by
  have e := h.tt.run_plain (t := 82) Tryd.underlying82 (k := k) hw
  have ev : VB.val ((metF M k).getD VB.zero) = .bool b := by
    show Value.bool ((metF M k).getD false) = .bool b
    unfold metF
    rw [← hb]
    by_cases hm : k ∈ M <;> simp [hm]
  rw [ev] at e
  exact e
end Go.Proofs.YtknbnnpggdegmaaDoor.Lp
end
section
namespace Go.Proofs.YtknbnnpggdegmaaDoor.Lp
open Go.RowKit Go.Proofs.YtknbnnpggdegmaaDoor.Lib Go.Proofs.YtknbnnpggdegmaaDoorW.PrintWords Go.Proofs.YtknbnnpggdegmaaDoorW.PrintLast Go.Proofs.YtknbnnpggdegmaaDoorW.PrintMore Go.Proofs.YtknbnnpggdegmaaDoor.PD Go.Proofs.YtknbnnpggdegmaaDoor.Mp Go.Proofs.YtknbnnpggdegmaaDoor.Reach
set_option linter.unusedVariables false
set_option linter.unusedSimpArgs false
def Vis (w0 : World) (b1 b2 b3 b4 bm bt : Nat) (src : Int) (ds : Int → List S52) (U : List Int) (f : Nat) : Prop :=
  ∀ (n : Int) (M M' : List Int) (r : Bool) (w : World), (Lit.int .i64 n).wf = true → Env w0 b1 b2 b3 b4 bm bt src U M w → deep (nbOf ds) src f (nbOf ds n) M = some (r, M') →
    Calls Tryd.prog 41 #[.int .i64 n, .pointer (some ⟨b1, 0, none⟩), .pointer (some ⟨b2, 0, none⟩), .pointer (some ⟨b3, 0, none⟩), .pointer (some ⟨b4, 0, none⟩)] w fun e w' => e = .returned (.bool r) ∧ Env w0 b1 b2 b3 b4 bm bt src U M' w' ∧ Frame bt w w'
theorem cell_ne {w : World} {b n : Nat} {f : Int → Option Bool} (h : MapOf KI VB w b n f) {a : Addr} {v : Value} (hc : w.cell? a = some v) : a.block ≠ b := by
  intro e
  unfold World.cell? at hc
  rw [e] at hc
  obtain ⟨D, ⟨es, clock, h1, _⟩, _⟩ := h.out
  rw [h1] at hc
  cases hc
set_option maxHeartbeats 16000000 in
set_option maxRecDepth 100000 in
theorem visit_step {w0 : World} {b1 b2 b3 b4 bm bt nm : Nat} {src : Int} {F : Int → Option Value} {ds : Int → List S52} {U : List Int} (D : Deps w0 bm nm F ds U) (f : Nat) (ih : ∀ f', f = f' + 1 → Vis w0 b1 b2 b3 b4 bm bt src ds U f') : Vis w0 b1 b2 b3 b4 bm bt src ds U f := by
    intro n M M' r w hwf hE hd
    obtain ⟨any, A, c, hF, hlc, hC⟩ := D.dd n
    have hfew := D.few n
    have HD := Aside0.mk D
    have IH := Aside0.mk ih
    have HE := Aside0.mk hE
    have hC' := Aside0.mk (Kd.C_below hC hE.bel)
    have HLC := Aside0.mk hlc
    have hlook : (Instr.lookup 60 (.map (some bm)) (.int .i64 n) false).run Tryd.prog w = .ok (.agg #[.bool any, .slice A (ds n).length c]) w := by
      have h := (D.mm.below hE.bel).run_plain (t := 60) Tryd.underlying60 (zero31 w) (k := n) hwf
      rw [hF] at h
      exact h
    have J1 := Aside0.mk (Jb.dep_jobs any (ds n) hfew.1 hfew.2)
    have hzl : ((ds n).flatMap (·.f1)).length < 4611686018427387904 := by
      have key : ∀ (m : List S52), (∀ x ∈ m, x.f1.length ≤ 300) → (m.flatMap (·.f1)).length ≤ m.length * 300 := by
        intro m
        induction m with
        | nil => intro _; simp
        | cons a m ih2 =>
          intro hh
          have h1 := ih2 (fun x hx => hh x (List.mem_cons_of_mem _ hx))
          have h2 := hh a (by simp)
          rw [List.flatMap_cons, List.length_append, List.length_cons]
          omega
      have := key (ds n) hfew.2
      omega
    have HZ := Aside0.mk hzl
    obtain ⟨l, hl⟩ : ∃ l, nbOf ds n = l := ⟨_, rfl⟩
    have HL := Aside0.mk hl
    have HLW : Aside0 (∀ k ∈ l, (Lit.int .i64 k).wf = true ∧ k ∈ U) := ⟨by rw [← hl]; exact D.wf n⟩
    have hll : l.length < 4611686018427387904 := by
      rw [← hl]
      unfold nbOf sorted
      have h1 := Go.Lib.compact_length_le (sortL ((ds n).flatMap (·.f1)))
      have h2 : (sortL ((ds n).flatMap (·.f1))).length = ((ds n).flatMap (·.f1)).length := by simp [sortL]
      omega
    have HLL := Aside0.mk hll
    rw [hl] at hd
    have HDp := Aside0.mk hd
    have hx1 : w.cell? ⟨b1, 0, none⟩ = some (.map (some bm)) := (blk_cell hE.c1 0).trans rfl
    clear hd hl hll hzl hfew hC hF hlc hE D ih hwf
    go_enter Tryd.func41, Tryd.ntmps41
    go_wp2_with fail
    refine (dep_Jobs.walk ((ds n).length + 1) any A c (ds n) _ w hC'.out HLC.out J1.out HZ.out).mono ?_
    rintro e w2 ⟨A2, c2, rfl, hc2, hr2, hb⟩
    rw [show sorted ((ds n).flatMap (·.f1)) = l from HL.out] at *
    have HE2 := Aside0.mk (HE.out.below hb)
    have HF2 := Aside0.mk (Frame.of_below (bt := bt) hb)
    have HR2 := Aside0.mk hr2
    clear hb hr2 hc2 hx1 hlook
    go_wp2_with fail
    have HDL := Aside0.mk HD.out.len
    go_loopg [14] (l.length + 1) (fun kq v14 W' => ∃ (j : Nat) (Mj : List Int), v14 = .int .i64 (j : Int) ∧ Aside0 (kq + j = l.length + 1 ∧ j ≤ l.length) ∧ Aside0 (deep (nbOf ds) src f (l.drop j) Mj = some (r, M')) ∧ Aside0 (Env w0 b1 b2 b3 b4 bm bt src U Mj W') ∧ Aside0 (Frame bt w2 W'))
    case atStart => exact ⟨0, M, rfl, ⟨by omega⟩, ⟨by rw [List.drop_zero]; exact HDp.out⟩, HE2, ⟨Frame.refl _ _⟩⟩
    case round =>
      obtain ⟨j, Mj, rfl, HJ, HDj, HEj, HFj⟩ := hrel
      obtain ⟨k1, rfl⟩ : ∃ m, gk = m + 1 := ⟨gk - 1, by have := HJ.out; omega⟩
      by_cases hlt : j < l.length
      · have hltb : decide (j < l.length) = true := decide_eq_true hlt
        have p0 : (0 : Int) ≤ (j : Int) := by omega
        have q0 : (j : Int) < (l.length : Int) := by omega
        obtain ⟨ad, e0, hx⟩ := Kd.at_int HR2.out (j : Int) p0 q0
        cases e0
        replace hx := (World.cell?_of_block (HFj.out.block _ (World.block_lt_of_cell? w2 _ hx) (cell_ne HE2.out.tt hx))).trans hx
        rw [Jb.rdI l j hlt, Int.toNat_natCast] at hx
        have hd := HDj.out
        rw [List.drop_eq_getElem_cons hlt] at hd
        obtain ⟨f', rfl⟩ : ∃ f', f = f' + 1 := by
          cases f with
          | zero => rw [deep] at hd; cases hd
          | succ f' => exact ⟨f', rfl⟩
        rw [deep] at hd
        obtain ⟨hkw, hku⟩ := HLW.out l[j] (List.getElem_mem hlt)
        have HRest : Aside0 (∀ X, deep (nbOf ds) src (f' + 1) (l.drop (j + 1)) X = deep (nbOf ds) src (f' + 1) (l.drop (j + 1)) X) := ⟨fun _ => rfl⟩
        have hc1 : wr.cell? ⟨b2, 0, none⟩ = some (.int .i64 src) := (blk_cell HEj.out.c2 0).trans rfl
        have hc3 : wr.cell? ⟨b3, 0, none⟩ = some (.map (some bt)) := (blk_cell HEj.out.c3 0).trans rfl
        have hwi : IntKind.i64.wrap ((j : Int) + 1) = ((j + 1 : Nat) : Int) := by rw [i64_w]; unfold wrap64; have := HLL.out; omega
        have HLT := Aside0.mk hlt
        replace p0 := eq_true p0
        replace q0 := eq_true q0
        generalize hk : l[j] = k at hx hd hkw hku
        clear hk hlt
        by_cases hs : k = src
        · rw [if_pos hs] at hd
          simp only [Option.some.injEq, Prod.mk.injEq] at hd
          obtain ⟨rfl, rfl⟩ := hd
          have hkb : (k == src) = true := beq_iff_eq.mpr hs
          clear hs hkw hku
          go_wp2
          go_ret
          exact ⟨rfl, HEj.out, HF2.out.trans HFj.out⟩
        · rw [if_neg hs] at hd
          have hkb : (k == src) = false := beq_eq_false_iff_ne.mpr hs
          by_cases hm : k ∈ Mj
          · rw [if_pos hm] at hd
            have hlook := HEj.out.look k hkw true (decide_eq_true hm)
            have HDn := Aside0.mk hd
            clear hs hm hkw hku hd
            go_wp2
            go_roundg k1
            case measure => have := HJ.out; have := HLT.out; omega
            case rel => exact ⟨j + 1, Mj, rfl, ⟨by have := HJ.out; have := HLT.out; omega⟩, HDn, HEj, HFj⟩
          · rw [if_neg hm] at hd
            have hlook := HEj.out.look k hkw false (decide_eq_false hm)
            obtain ⟨w5, hput, hE5, hF5⟩ := HEj.out.put HDL.out k hkw hku hm
            obtain ⟨⟨r1, M1⟩, h1, h2⟩ := Option.bind_eq_some_iff.1 hd
            have HE5 := Aside0.mk hE5
            have HF5 := Aside0.mk hF5
            have HKW := Aside0.mk hkw
            have H1 := Aside0.mk h1
            have H2 := Aside0.mk h2
            have hc4 : w5.cell? ⟨b4, 0, none⟩ = some (.func (.func 41) #[] #[.pointer (some ⟨b1, 0, none⟩), .pointer (some ⟨b2, 0, none⟩), .pointer (some ⟨b3, 0, none⟩), .pointer (some ⟨b4, 0, none⟩)]) := (blk_cell hE5.c4 0).trans rfl
            clear hs hm hkw hku hd hE5 hF5 h1 h2
            go_wp2_with fail
            refine (IH.out f' rfl k (k :: Mj) M1 r1 _ HKW.out HE5.out H1.out).mono ?_
            rintro e w6 ⟨rfl, hE6, hF6⟩
            have HE6 := Aside0.mk hE6
            have HF6 := Aside0.mk ((HFj.out.trans HF5.out).trans hF6)
            clear hE6 hF6 hc4 hput
            cases r1 with
            | true =>
              have h2 := H2.out
              rw [if_pos rfl] at h2
              simp only [Option.some.injEq, Prod.mk.injEq] at h2
              obtain ⟨rfl, rfl⟩ := h2
              go_wp2
              go_ret
              exact ⟨rfl, HE6.out, HF2.out.trans HF6.out⟩
            | false =>
              have HDn : Aside0 (deep (nbOf ds) src (f' + 1) (l.drop (j + 1)) M1 = some (r, M')) := ⟨by have h2 := H2.out; rw [if_neg (by decide)] at h2; exact h2⟩
              clear H2
              go_wp2
              go_roundg k1
              case measure => have := HJ.out; have := HLT.out; omega
              case rel => exact ⟨j + 1, M1, rfl, ⟨by have := HJ.out; have := HLT.out; omega⟩, HDn, HE6, HF6⟩
      · have hltb : decide (j < l.length) = false := decide_eq_false hlt
        have hd := HDj.out
        rw [List.drop_eq_nil_of_le (by omega)] at hd
        have hd2 : deep (nbOf ds) src f [] Mj = some (false, Mj) := by rw [deep]
        rw [hd2] at hd
        simp only [Option.some.injEq, Prod.mk.injEq] at hd
        obtain ⟨rfl, rfl⟩ := hd
        clear hlt hd2
        go_wp2
        go_ret
        exact ⟨rfl, HEj.out, HF2.out.trans HFj.out⟩
theorem visit {w0 : World} {b1 b2 b3 b4 bm bt nm : Nat} {src : Int} {F : Int → Option Value} {ds : Int → List S52} {U : List Int} (D : Deps w0 bm nm F ds U) : ∀ f, Vis w0 b1 b2 b3 b4 bm bt src ds U f := by
  intro f
  induction f with
  | zero => exact visit_step D 0 (fun f' h => by omega)
  | succ f ih => exact visit_step D (f + 1) (fun f' h => by obtain rfl : f = f' := by omega
                                                            exact ih)
end Go.Proofs.YtknbnnpggdegmaaDoor.Lp
end
section
namespace Go.Proofs.YtknbnnpggdegmaaDoor.Lp
open Go.RowKit Go.Proofs.YtknbnnpggdegmaaDoor.Lib Go.Proofs.YtknbnnpggdegmaaDoorW.PrintWords Go.Proofs.YtknbnnpggdegmaaDoorW.PrintLast Go.Proofs.YtknbnnpggdegmaaDoorW.PrintMore Go.Proofs.YtknbnnpggdegmaaDoor.PD Go.Proofs.YtknbnnpggdegmaaDoor.Mp Go.Proofs.YtknbnnpggdegmaaDoor.Reach
set_option linter.unusedVariables false
set_option linter.unusedSimpArgs false
set_option maxHeartbeats 8000000 in
set_option maxRecDepth 100000 in
theorem loop_calls {bm nm : Nat} {F : Int → Option Value} {ds : Int → List S52} {U : List Int} (w : World) (D : Deps w bm nm F ds U) (src : Int) (hs : (Lit.int .i64 src).wf = true) (f : Nat) (r : Bool) (M' : List Int) (hd : deep (nbOf ds) src f (nbOf ds src) [] = some (r, M')) :
    Calls Tryd.prog 26 #[.map (some bm), .int .i64 src] w fun e w' => e = .returned (.bool r) ∧ Below w.heap.size w w' := by
  have HD := Aside0.mk D
  have HS := Aside0.mk hs
  have HDp := Aside0.mk hd
  clear D hs hd
  have hmm := @run_makeMap Tryd.prog
  go_enter Tryd.func26, Tryd.ntmps26
  go_wp2_with fail
  have hE : Env w w.heap.size (w.heap.size + 1) (w.heap.size + 1 + 1 + 1) (w.heap.size + 1 + 1 + 1 + 1) bm (w.heap.size + 1 + 1) src U [] (((((w.alloc (.cells #[.map (some bm)] 60)).alloc (.cells #[.int .i64 src] 3)).alloc (.map #[] 0)).alloc (.cells #[.map (some (w.heap.size + 1 + 1))] 82)).alloc (.cells #[(.func (.func 41) #[] #[.pointer (some ⟨w.heap.size, 0, none⟩), .pointer (some ⟨w.heap.size + 1, 0, none⟩), .pointer (some ⟨w.heap.size + 1 + 1 + 1, 0, none⟩), .pointer (some ⟨w.heap.size + 1 + 1 + 1 + 1, 0, none⟩)])] 50)) := by
    have h1 := blk_alloc (blk_alloc (blk_alloc (blk_alloc (blk_new w (.cells #[.map (some bm)] 60)) (.cells #[.int .i64 src] 3)) (.map #[] 0)) (.cells #[.map (some (w.heap.size + 1 + 1))] 82)) (.cells #[(.func (.func 41) #[] #[.pointer (some ⟨w.heap.size, 0, none⟩), .pointer (some ⟨w.heap.size + 1, 0, none⟩), .pointer (some ⟨w.heap.size + 1 + 1 + 1, 0, none⟩), .pointer (some ⟨w.heap.size + 1 + 1 + 1 + 1, 0, none⟩)])] 50)
    have h2 := blk_alloc (blk_alloc (blk_alloc (blk_new (w.alloc (.cells #[.map (some bm)] 60)) (.cells #[.int .i64 src] 3)) (.map #[] 0)) (.cells #[.map (some (w.heap.size + 1 + 1))] 82)) (.cells #[(.func (.func 41) #[] #[.pointer (some ⟨w.heap.size, 0, none⟩), .pointer (some ⟨w.heap.size + 1, 0, none⟩), .pointer (some ⟨w.heap.size + 1 + 1 + 1, 0, none⟩), .pointer (some ⟨w.heap.size + 1 + 1 + 1 + 1, 0, none⟩)])] 50)
    have h3 := blk_alloc (blk_new (((w.alloc (.cells #[.map (some bm)] 60)).alloc (.cells #[.int .i64 src] 3)).alloc (.map #[] 0)) (.cells #[.map (some (w.heap.size + 1 + 1))] 82)) (.cells #[(.func (.func 41) #[] #[.pointer (some ⟨w.heap.size, 0, none⟩), .pointer (some ⟨w.heap.size + 1, 0, none⟩), .pointer (some ⟨w.heap.size + 1 + 1 + 1, 0, none⟩), .pointer (some ⟨w.heap.size + 1 + 1 + 1 + 1, 0, none⟩)])] 50)
    have h4 := blk_new ((((w.alloc (.cells #[.map (some bm)] 60)).alloc (.cells #[.int .i64 src] 3)).alloc (.map #[] 0)).alloc (.cells #[.map (some (w.heap.size + 1 + 1))] 82)) (.cells #[(.func (.func 41) #[] #[.pointer (some ⟨w.heap.size, 0, none⟩), .pointer (some ⟨w.heap.size + 1, 0, none⟩), .pointer (some ⟨w.heap.size + 1 + 1 + 1, 0, none⟩), .pointer (some ⟨w.heap.size + 1 + 1 + 1 + 1, 0, none⟩)])] 50)
    have hm := ((MapOf.made (K := KI) (V := VB) ((w.alloc (.cells #[.map (some bm)] 60)).alloc (.cells #[.int .i64 src] 3))).alloc (.cells #[.map (some (w.heap.size + 1 + 1))] 82)).alloc (.cells #[(.func (.func 41) #[] #[.pointer (some ⟨w.heap.size, 0, none⟩), .pointer (some ⟨w.heap.size + 1, 0, none⟩), .pointer (some ⟨w.heap.size + 1 + 1 + 1, 0, none⟩), .pointer (some ⟨w.heap.size + 1 + 1 + 1 + 1, 0, none⟩)])] 50)
    simp only [World.size_alloc] at h2 h3 h4 hm
    exact ⟨below_alloc (below_alloc (below_alloc (below_alloc (below_alloc (Below.refl _ _) _) _) _) _) _, h1, h2, h3, h4, mapOf_fun hm (by funext k; simp [metF]), List.nodup_nil, fun x hx => absurd hx List.not_mem_nil, by omega⟩
  refine (visit HD.out f src [] M' r _ HS.out hE HDp.out).mono ?_
  rintro e w9 ⟨rfl, hE9, hF9⟩
  have HB9 := Aside0.mk hE9.bel
  clear hE hE9 hF9
  go_wp2
  go_ret
  exact ⟨rfl, HB9.out⟩
end Go.Proofs.YtknbnnpggdegmaaDoor.Lp
end
