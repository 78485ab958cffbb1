/- Part 11 of the proof of DepTellsCardSaid. -/
import Derived.Test.YtknbnnpggdegmaaDoorZ07
import Derived.Test.YtknbnnpggdegmaaDoorZ10
import Derived.Test.YtknbnnpggdegmaaDoorZ09
section
namespace Go.Proofs.YtknbnnpggdegmaaDoor.PD
open Go.RowKit Go.Proofs.YtknbnnpggdegmaaDoor.Lib Go.Proofs.YtknbnnpggdegmaaDoorW.PrintWords Go.Proofs.YtknbnnpggdegmaaDoorW.PrintLast Go.Proofs.YtknbnnpggdegmaaDoorW.PrintMore
set_option linter.unusedVariables false
set_option linter.unusedSimpArgs false
def insAt (l : List Int) (at_ n : Int) : List Int := l.take at_.toNat ++ n :: l.drop at_.toNat
theorem row_one {w : World} {b : Nat} {n : Int} (h : w.cell? ⟨b, 0, none⟩ = some (.int .i64 n)) : ReadsRow (fun z cs => cs = [.int .i64 z]) 1 w (some ⟨b, 0, none⟩) 1 [n] :=
  ⟨rfl, by decide, fun _ => ⟨_, rfl, fun j p hj => by
    cases j with
    | zero =>
      simp only [List.getElem?_cons_zero, Option.some.injEq] at hj
      subst hj
      refine ⟨_, rfl, rfl, fun i u hu => ?_⟩
      cases i with
      | zero =>
        simp only [List.getElem?_cons_zero, Option.some.injEq] at hu
        subst hu
        exact h
      | succ i => simp at hu
    | succ j => simp at hj⟩⟩
mutual
def marlinspikeref07_Jobs.l0 : Nat → List Int → Int → Bool → List (S46) → Option (List Int)
  | 0, _, _, _, _ => none
  | k + 1, x3, x4, x242000, x242001 => if x4 < (x242001.length : Int) then (marlinspikeref07_Jobs.l1 k x3 x4 0 x242000 x242001) else (some x3)
def marlinspikeref07_Jobs.l1 : Nat → List Int → Int → Int → Bool → List (S46) → Option (List Int)
  | 0, _, _, _, _, _ => none
  | k + 1, x3, x4, x5, x242000, x242001 => if 0 ≤ x4 then (if x4 < (x242001.length : Int) then (if x5 < (((rd_T46 x242001 x4).f1).length : Int) then (if 0 ≤ x5 then (marlinspikeref07_Jobs.l2 k x3 x4 x5 (rd ((rd_T46 x242001 x4).f1) x5) 0 x242000 x242001) else (none)) else (marlinspikeref07_Jobs.l0 k x3 (wrap64 (x4 + 1)) x242000 x242001)) else (none)) else (none)
def marlinspikeref07_Jobs.l2 : Nat → List Int → Int → Int → Int → Int → Bool → List (S46) → Option (List Int)
  | 0, _, _, _, _, _, _, _ => none
  | k + 1, x3, x4, x5, x6, x7, x242000, x242001 => if x7 < (x3.length : Int) then (if 0 ≤ x7 then (if (rd x3 x7) < x6 then (marlinspikeref07_Jobs.l2 k x3 x4 x5 x6 (wrap64 (x7 + 1)) x242000 x242001) else (if (rd x3 x7) = x6 then (marlinspikeref07_Jobs.l1 k x3 x4 (wrap64 (x5 + 1)) x242000 x242001) else (if x3.length < 17592186044416 then (marlinspikeref07_Jobs.l1 k (insAt x3 x7 x6) x4 (wrap64 (x5 + 1)) x242000 x242001) else (none)))) else (none)) else (if x7 = (x3.length : Int) then (if x3.length < 17592186044416 then (marlinspikeref07_Jobs.l1 k (insAt x3 x7 x6) x4 (wrap64 (x5 + 1)) x242000 x242001) else (none)) else (none))
end
def marlinspikeref07_Jobs.f (k : Nat) (a0_0 : Bool) (l0_1 : List (S46)) : Option (List Int) := marlinspikeref07_Jobs.l0 k ([] : List Int) 0 a0_0 l0_1
set_option maxHeartbeats 8000000 in
set_option maxRecDepth 100000 in
theorem marlinspikeref07_Jobs.walk (k : Nat) (a0_0 : Bool) (A0_1 : Option Addr) (c0_1 : Nat) (l0_1 : List (S46)) (r : List Int) (w : World) (hr0_1 : Kd.C k46 w A0_1 l0_1.length l0_1) (hc0_1 : l0_1.length ≤ c0_1) (h : marlinspikeref07_Jobs.f k a0_0 l0_1 = some r) :
    Calls Tryd.prog 22 #[.agg #[.bool a0_0, .slice A0_1 l0_1.length c0_1]] w fun e w' => ∃ v0_ : Value, e = .returned (v0_) ∧ Kd.R (Kd.int .i64) 3 w' w.heap.size (fun _ => True) v0_ r ∧ Below w.heap.size w w' := by
  have hu24 := Tryd.underlying24
  have HR0_1 := Aside0.mk hr0_1
  have HC0_1 := Aside0.mk hc0_1
  clear hr0_1 hc0_1
  have HB := Aside0.mk (Below.refl w.heap.size w)
  have H : (marlinspikeref07_Jobs.l0 k ([] : List Int) 0 a0_0 l0_1) = some r := h
  clear h
  have H' := Aside0.mk H
  clear H
  go_enter Tryd.func22, Tryd.ntmps22
  go_wp2_with (first | ((with_reducible refine gate_dst (N := 1) rfl ?_); refine box_event ?hg (N := 1) ?hd (cs := #[.bool a0_0, .slice A0_1 l0_1.length c0_1]) (t := 24) ?hr ?_; (case hd => rfl); (case hg => rfl); (case hr => first | (go_simp; done) | (go_simp; rfl)); intro gb241 hg w2 hbox hb; have n0_ := Aside0.mk (below_step (by repeat (first | (with_reducible first | exact HB.out | apply below_alloc | apply pw_below_drewN | apply below_drew1) | exact HB.out)) hb); have n1_ := Aside0.mk (hbox); have n2_ := Aside0.mk ((by rw [hg]; exact (below_size (by repeat (first | (with_reducible first | exact HB.out | apply below_alloc | apply pw_below_drewN | apply below_drew1) | exact HB.out))) : w.heap.size ≤ gb241)); have n3_ := Aside0.mk ((by rw [hg]; exact (below_size (by repeat (first | (with_reducible first | exact HB.out | apply below_alloc | apply pw_below_drewN | apply below_drew1) | exact HB.out))) : w.heap.size ≤ gb241)); clear HB; have HB := n0_; have BK241 := n1_; have GW241 := n2_; have GE241 := n3_; clear n0_ n1_ n2_ n3_; clear hb hbox hg))
  go_loopg [3, 4] k (fun kq v3 v4 w' => ∃ (x3_1 : List Int) (x4_1 : Int), v4 = .int .i64 x4_1 ∧ Aside0 (marlinspikeref07_Jobs.l0 kq x3_1 x4_1 a0_0 l0_1 = some r) ∧ Aside0 (kq ≤ k) ∧ Aside0 (Kd.R (Kd.int .i64) 3 w' w.heap.size (fun _ => True) v3 x3_1) ∧ Aside0 (w'.heap[gb241]? = some (.cells #[.bool a0_0, (.slice A0_1 l0_1.length c0_1)] 24 (0, 0))) ∧ Aside0 (Below w.heap.size w w'))
  case atStart => exact ⟨(([] : List Int)), (0), (by first | rfl | (simp; done) | (simp [*]; done)), H', ⟨Nat.le_refl _⟩, ⟨by first | exact Kd.R_nil _ _ _ _ _ | exact Kd.N_nil _ _ _ _ _ | exact Kd.V_nil _ _ _ _ _ | exact Kd.Q_nil _ _ _ _ _ | exact Kd.S_nil _ _ _ _ _⟩, ⟨by (with_reducible repeat (first | refine blk_drewN ?_ _ | refine blk_drew ?_ | refine blk_alloc ?_ _)); exact BK241.out⟩, ⟨by repeat (first | (with_reducible first | exact HB.out | apply below_alloc | apply pw_below_drewN | apply below_drew1 | refine below_set ?_ GE241.out) | exact HB.out)⟩⟩
  case round =>
    clear H'
    try clear c2
    try clear p2
    obtain ⟨x3_1, x4_1, rfl, HA, HK1, HO_3, BK241, HB⟩ := hrel
    cases gk with
    | zero => exact absurd HA.out (by simp [marlinspikeref07_Jobs.l0])
    | succ k1 =>
      have H := HA.out
      clear HA
      simp only [marlinspikeref07_Jobs.l0] at H
      by_cases c3 : x4_1 < (l0_1.length : Int)
      · rw [if_pos c3] at H
        have c3b0 : decide (x4_1 < (l0_1.length : Int)) = true := decide_eq_true c3
        clear c3
        have H' := Aside0.mk H
        clear H
        have hcz4_0 : wr.cell? ⟨gb241, 0, none⟩ = some (.bool a0_0) := (blk_cell BK241.out 0).trans rfl
        have hcz4_1 : wr.cell? ⟨gb241, 1, none⟩ = some (.slice A0_1 l0_1.length c0_1) := (blk_cell BK241.out 1).trans rfl
        have hfz4_0 := blk_frozen BK241.out 0
        have hfz4_1 := blk_frozen BK241.out 1
        go_wp2
        go_loopg [3, 5] k1 (fun kq v3 v5 w' => ∃ (x3_2 : List Int) (x5_2 : Int), v5 = .int .i64 x5_2 ∧ Aside0 (marlinspikeref07_Jobs.l1 kq x3_2 x4_1 x5_2 a0_0 l0_1 = some r) ∧ Aside0 (kq ≤ k1) ∧ Aside0 (Kd.R (Kd.int .i64) 3 w' w.heap.size (fun _ => True) v3 x3_2) ∧ Aside0 (w'.heap[gb241]? = some (.cells #[.bool a0_0, (.slice A0_1 l0_1.length c0_1)] 24 (0, 0))) ∧ Aside0 (Below w.heap.size w w'))
        case atStart => exact ⟨(x3_1), (0), (by first | rfl | (simp; done) | (simp [*]; done)), H', ⟨Nat.le_refl _⟩, ⟨by (with_reducible repeat (first | apply Kd.R_alloc | apply Kd.R_drewN | apply Kd.R_drew)); exact HO_3.out⟩, ⟨by (with_reducible repeat (first | refine blk_drewN ?_ _ | refine blk_drew ?_ | refine blk_alloc ?_ _)); exact BK241.out⟩, ⟨by repeat (first | (with_reducible first | exact HB.out | apply below_alloc | apply pw_below_drewN | apply below_drew1 | refine below_set ?_ GE241.out) | exact HB.out)⟩⟩
        case round =>
          clear H'
          try clear c2
          try clear p2
          try clear c3
          try clear c3b0
          try clear hcz4_0
          try clear hcz4_1
          try clear hfz4_0
          try clear hfz4_1
          try clear p2
          obtain ⟨x3_2, x5_2, rfl, HA, HK2, HO_3, BK241, HB⟩ := hrel
          cases gk with
          | zero => exact absurd HA.out (by simp [marlinspikeref07_Jobs.l1])
          | succ k2 =>
            have H := HA.out
            clear HA
            simp only [marlinspikeref07_Jobs.l1] at H
            by_cases c5 : 0 ≤ x4_1
            · rw [if_pos c5] at H
              have c5b0 : decide (0 ≤ x4_1) = true := decide_eq_true c5
              clear c5
              by_cases c6 : x4_1 < (l0_1.length : Int)
              · rw [if_pos c6] at H
                have c6b0 : decide (x4_1 < (l0_1.length : Int)) = true := decide_eq_true c6
                clear c6
                by_cases c7 : x5_2 < (((rd_T46 l0_1 x4_1).f1).length : Int)
                · rw [if_pos c7] at H
                  have c7b0 : decide (x5_2 < (((rd_T46 l0_1 x4_1).f1).length : Int)) = true := decide_eq_true c7
                  clear c7
                  by_cases c8 : 0 ≤ x5_2
                  · rw [if_pos c8] at H
                    have c8b0 : decide (0 ≤ x5_2) = true := decide_eq_true c8
                    clear c8
                    have H' := Aside0.mk H
                    clear H
                    have hcz9_0 : wr.cell? ⟨gb241, 0, none⟩ = some (.bool a0_0) := (blk_cell BK241.out 0).trans rfl
                    have hcz9_1 : wr.cell? ⟨gb241, 1, none⟩ = some (.slice A0_1 l0_1.length c0_1) := (blk_cell BK241.out 1).trans rfl
                    have hfz9_0 := blk_frozen BK241.out 0
                    have hfz9_1 := blk_frozen BK241.out 1
                    have p242 : 0 ≤ (x4_1 : Int) := of_decide_eq_true (by first | (with_reducible assumption) | assumption)
                    have q242 : x4_1 < (l0_1.length : Int) := of_decide_eq_true (by first | (with_reducible assumption) | assumption)
                    obtain ⟨ad242, A242_1, c242_1, e242, hx242_0, hx242_1, hl242_1, hi242_1⟩ := at_T46 HR0_1.out x4_1 p242 q242
                    cases e242
                    replace hx242_0 := (HB.out.cell (World.block_lt_of_cell? w _ hx242_0)).trans hx242_0
                    replace hx242_1 := (HB.out.cell (World.block_lt_of_cell? w _ hx242_1)).trans hx242_1
                    have HR242_1 := Aside0.mk hi242_1
                    have HC242_1 := Aside0.mk hl242_1
                    clear hi242_1 hl242_1
                    replace p242 := eq_true p242
                    replace q242 := eq_true q242
                    have p243 : 0 ≤ (x4_1 : Int) := of_decide_eq_true (by first | (with_reducible assumption) | assumption)
                    have q243 : x4_1 < (l0_1.length : Int) := of_decide_eq_true (by first | (with_reducible assumption) | assumption)
                    obtain ⟨ad243, A243_1, c243_1, e243, hx243_0, hx243_1, hl243_1, hi243_1⟩ := at_T46 HR0_1.out x4_1 p243 q243
                    obtain rfl : ad242 = ad243 := (by injection e243)
                    replace hx243_0 := (HB.out.cell (World.block_lt_of_cell? w _ hx243_0)).trans hx243_0
                    replace hx243_1 := (HB.out.cell (World.block_lt_of_cell? w _ hx243_1)).trans hx243_1
                    have HR243_1 := Aside0.mk hi243_1
                    have HC243_1 := Aside0.mk hl243_1
                    clear hi243_1 hl243_1
                    replace p243 := eq_true p243
                    replace q243 := eq_true q243
                    have ea_ := Option.some.inj (hx242_1.symm.trans hx243_1)
                    injection ea_ with ea_ en_ ec_
                    subst ea_
                    subst ec_
                    clear en_
                    have p244 : 0 ≤ (x5_2 : Int) := of_decide_eq_true (by first | (with_reducible assumption) | assumption)
                    have q244 : x5_2 < (((rd_T46 l0_1 x4_1).f1).length : Int) := of_decide_eq_true (by first | (with_reducible assumption) | assumption)
                    obtain ⟨ad244, e244, hx244_0⟩ := Kd.at_int HR243_1.out x5_2 p244 q244
                    cases e244
                    replace hx244_0 := (HB.out.cell (World.block_lt_of_cell? w _ hx244_0)).trans hx244_0
                    replace p244 := eq_true p244
                    replace q244 := eq_true q244
                    go_wp2
                    go_loopg [7] k2 (fun kq v7 w' => ∃ (x7_3 : Int), v7 = .int .i64 x7_3 ∧ Aside0 (marlinspikeref07_Jobs.l2 kq x3_2 x4_1 x5_2 (rd ((rd_T46 l0_1 x4_1).f1) x5_2) x7_3 a0_0 l0_1 = some r) ∧ Aside0 (kq ≤ k2) ∧ Aside0 (Kd.R (Kd.int .i64) 3 w' w.heap.size (fun _ => True) u3 x3_2) ∧ Aside0 (w'.heap[gb241]? = some (.cells #[.bool a0_0, (.slice (some ad242) l0_1.length c0_1)] 24 (0, 0))) ∧ Aside0 (Below w.heap.size w w'))
                    case atStart => exact ⟨(0), (by first | rfl | (simp; done) | (simp [*]; done)), H', ⟨Nat.le_refl _⟩, ⟨by (with_reducible repeat (first | apply Kd.R_alloc | apply Kd.R_drewN | apply Kd.R_drew)); exact HO_3.out⟩, ⟨by (with_reducible repeat (first | refine blk_drewN ?_ _ | refine blk_drew ?_ | refine blk_alloc ?_ _)); exact BK241.out⟩, ⟨by repeat (first | (with_reducible first | exact HB.out | apply below_alloc | apply pw_below_drewN | apply below_drew1 | refine below_set ?_ GE241.out) | exact HB.out)⟩⟩
                    case round =>
                      clear H'
                      try clear c2
                      try clear p2
                      try clear q2
                      try clear hx2
                      try clear c3
                      try clear c3b0
                      try clear c5
                      try clear c5b0
                      try clear c6
                      try clear c6b0
                      try clear c7
                      try clear c7b0
                      try clear c8
                      try clear c8b0
                      try clear hcz4_0
                      try clear hcz4_1
                      try clear hcz9_0
                      try clear hcz9_1
                      try clear hfz4_0
                      try clear hfz4_1
                      try clear hfz9_0
                      try clear hfz9_1
                      try clear hx242_0
                      try clear hx242_1
                      try clear hx243_0
                      try clear hx243_1
                      try clear hx244_0
                      try clear p2
                      try clear p242
                      try clear p243
                      try clear p244
                      try clear q242
                      try clear q243
                      try clear q244
                      obtain ⟨x7_3, rfl, HA, HK3, HO_3, BK241, HB⟩ := hrel
                      cases gk with
                      | zero => exact absurd HA.out (by simp [marlinspikeref07_Jobs.l2])
                      | succ k3 =>
                        have H := HA.out
                        clear HA
                        simp only [marlinspikeref07_Jobs.l2] at H
                        by_cases c10 : x7_3 < (x3_2.length : Int)
                        · rw [if_pos c10] at H
                          have c10b0 : decide (x7_3 < (x3_2.length : Int)) = true := decide_eq_true c10
                          clear c10
                          by_cases c11 : 0 ≤ x7_3
                          · rw [if_pos c11] at H
                            have c11b0 : decide (0 ≤ x7_3) = true := decide_eq_true c11
                            clear c11
                            by_cases c12 : (rd x3_2 x7_3) < (rd ((rd_T46 l0_1 x4_1).f1) x5_2)
                            · rw [if_pos c12] at H
                              have c12b0 : decide ((rd x3_2 x7_3) < (rd ((rd_T46 l0_1 x4_1).f1) x5_2)) = true := decide_eq_true c12
                              clear c12
                              have H' := Aside0.mk H
                              clear H
                              obtain ⟨Ao13, co13, eo13⟩ := Kd.R_slice HO_3.out
                              subst eo13
                              have p245 : 0 ≤ (x7_3 : Int) := of_decide_eq_true (by first | (with_reducible assumption) | assumption)
                              have q245 : x7_3 < (x3_2.length : Int) := of_decide_eq_true (by first | (with_reducible assumption) | assumption)
                              obtain ⟨ad245, e245, hx245_0⟩ := Kd.at_int (Kd.R_reads' HO_3.out).2.2 x7_3 p245 q245
                              cases e245
                              replace p245 := eq_true p245
                              replace q245 := eq_true q245
                              go_wp2
                              go_roundg k3
                              case measure => have := HK1.out; have := HK2.out; have := HK3.out; omega
                              case rel => exact ⟨(wrap64 (x7_3 + 1)), (by first | rfl | (simp; done) | (simp [*]; done)), H', ⟨by have := HK1.out; have := HK2.out; have := HK3.out; omega⟩, ⟨by (with_reducible repeat (first | apply Kd.R_alloc | apply Kd.R_drewN | apply Kd.R_drew)); exact HO_3.out⟩, ⟨by (with_reducible repeat (first | refine blk_drewN ?_ _ | refine blk_drew ?_ | refine blk_alloc ?_ _)); exact BK241.out⟩, ⟨by repeat (first | (with_reducible first | exact HB.out | apply below_alloc | apply pw_below_drewN | apply below_drew1 | refine below_set ?_ GE241.out) | exact HB.out)⟩⟩
                            · rw [if_neg c12] at H
                              have c12b0 : decide ((rd x3_2 x7_3) < (rd ((rd_T46 l0_1 x4_1).f1) x5_2)) = false := decide_eq_false c12
                              clear c12
                              by_cases c14 : (rd x3_2 x7_3) = (rd ((rd_T46 l0_1 x4_1).f1) x5_2)
                              · rw [if_pos c14] at H
                                have c14b0 : ((rd x3_2 x7_3) == (rd ((rd_T46 l0_1 x4_1).f1) x5_2)) = true := beq_iff_eq.mpr c14
                                have c14b1 : ((rd x3_2 x7_3) != (rd ((rd_T46 l0_1 x4_1).f1) x5_2)) = false := bne_eq_false_iff_eq.mpr c14
                                clear c14
                                have H' := Aside0.mk H
                                clear H
                                obtain ⟨Ao15, co15, eo15⟩ := Kd.R_slice HO_3.out
                                subst eo15
                                have p245 : 0 ≤ (x7_3 : Int) := of_decide_eq_true (by first | (with_reducible assumption) | assumption)
                                have q245 : x7_3 < (x3_2.length : Int) := of_decide_eq_true (by first | (with_reducible assumption) | assumption)
                                obtain ⟨ad245, e245, hx245_0⟩ := Kd.at_int (Kd.R_reads' HO_3.out).2.2 x7_3 p245 q245
                                cases e245
                                replace p245 := eq_true p245
                                replace q245 := eq_true q245
                                have p246 : 0 ≤ (x7_3 : Int) := of_decide_eq_true (by first | (with_reducible assumption) | assumption)
                                have q246 : x7_3 < (x3_2.length : Int) := of_decide_eq_true (by first | (with_reducible assumption) | assumption)
                                obtain ⟨ad246, e246, hx246_0⟩ := Kd.at_int (Kd.R_reads' HO_3.out).2.2 x7_3 p246 q246
                                obtain rfl : ad245 = ad246 := (by injection e246)
                                replace p246 := eq_true p246
                                replace q246 := eq_true q246
                                go_wp2
                                go_roundg k3
                                case measure => have := HK1.out; have := HK2.out; have := HK3.out; omega
                                case rel => exact ⟨(x3_2), (wrap64 (x5_2 + 1)), (by first | rfl | (simp; done) | (simp [*]; done)), H', ⟨by have := HK1.out; have := HK2.out; have := HK3.out; omega⟩, ⟨by (with_reducible repeat (first | apply Kd.R_alloc | apply Kd.R_drewN | apply Kd.R_drew)); exact HO_3.out⟩, ⟨by (with_reducible repeat (first | refine blk_drewN ?_ _ | refine blk_drew ?_ | refine blk_alloc ?_ _)); exact BK241.out⟩, ⟨by repeat (first | (with_reducible first | exact HB.out | apply below_alloc | apply pw_below_drewN | apply below_drew1 | refine below_set ?_ GE241.out) | exact HB.out)⟩⟩
                              · rw [if_neg c14] at H
                                have c14b0 : ((rd x3_2 x7_3) == (rd ((rd_T46 l0_1 x4_1).f1) x5_2)) = false := beq_eq_false_iff_ne.mpr c14
                                have c14b1 : ((rd x3_2 x7_3) != (rd ((rd_T46 l0_1 x4_1).f1) x5_2)) = true := bne_iff_ne.mpr c14
                                by_cases c16 : x3_2.length < 17592186044416
                                · rw [if_pos c16] at H
                                  have LMc16 := Aside0.mk c16
                                  clear c16
                                  obtain ⟨y247, hy247⟩ : ∃ y_ : List Int, y_ = (insAt x3_2 x7_3 (rd ((rd_T46 l0_1 x4_1).f1) x5_2)) := ⟨_, rfl⟩
                                  replace H : (marlinspikeref07_Jobs.l1 k3 y247 x4_1 (wrap64 (x5_2 + 1)) a0_0 l0_1) = some r := by first | (rw [hy247]; with_reducible exact H) | (have H2_ := (Option.bind_some _ _).symm.trans H; rw [hy247]; with_reducible exact H2_) | (have H2_ := (Option.bind_some _ _).symm.trans H; with_reducible exact H2_) | with_reducible exact H | (rw [hy247]; exact H) | exact H
                                  have Ny247 := Aside0.mk hy247
                                  clear hy247
                                  have H' := Aside0.mk H
                                  clear H
                                  obtain ⟨Ao17, co17, eo17⟩ := Kd.R_slice HO_3.out
                                  subst eo17
                                  have p245 : 0 ≤ (x7_3 : Int) := of_decide_eq_true (by first | (with_reducible assumption) | assumption)
                                  have q245 : x7_3 < (x3_2.length : Int) := of_decide_eq_true (by first | (with_reducible assumption) | assumption)
                                  obtain ⟨ad245, e245, hx245_0⟩ := Kd.at_int (Kd.R_reads' HO_3.out).2.2 x7_3 p245 q245
                                  cases e245
                                  replace p245 := eq_true p245
                                  replace q245 := eq_true q245
                                  have p246 : 0 ≤ (x7_3 : Int) := of_decide_eq_true (by first | (with_reducible assumption) | assumption)
                                  have q246 : x7_3 < (x3_2.length : Int) := of_decide_eq_true (by first | (with_reducible assumption) | assumption)
                                  obtain ⟨ad246, e246, hx246_0⟩ := Kd.at_int (Kd.R_reads' HO_3.out).2.2 x7_3 p246 q246
                                  obtain rfl : ad245 = ad246 := (by injection e246)
                                  replace p246 := eq_true p246
                                  replace q246 := eq_true q246
                                  have hm0 : 0 ≤ x7_3 := of_eq_true p245
                                  have hmle : x7_3 ≤ (x3_2.length : Int) := Int.le_of_lt (of_eq_true q245)
                                  have hcap3 : x3_2.length ≤ co17 := (Kd.R_reads' HO_3.out).2.1
                                  obtain ⟨i0, hi0, _, hsz0, _⟩ := info_parts info3
                                  have cutT := cut_to (P := Tryd.prog) 44 3 .i64 Tryd.underlying44 hi0 (some ad245) x3_2.length co17 x7_3 hm0 hmle hcap3
                                  have cutF := cut_from (P := Tryd.prog) 44 3 .i64 Tryd.underlying44 hi0 1 hsz0 (some ad245) x3_2.length co17 x7_3 hm0 hmle
                                  have hlt_ : (x3_2.take x7_3.toNat).length = x7_3.toNat := by rw [List.length_take]; omega
                                  have hld_ : (x3_2.drop x7_3.toNat).length = x3_2.length - x7_3.toNat := List.length_drop
                                  obtain ⟨AD, hAD⟩ : ∃ AD, (if co17 = x7_3.toNat then (some ad245) else Option.map (fun z => z.add (x7_3.toNat * 1)) (some ad245)) = AD := ⟨_, rfl⟩
                                  obtain ⟨m2, hm2⟩ : ∃ m2, x3_2.length - x7_3.toNat = m2 := ⟨_, rfl⟩
                                  obtain ⟨cc2, hcc2⟩ : ∃ cc2, co17 - x7_3.toNat = cc2 := ⟨_, rfl⟩
                                  have hm2le : m2 ≤ x3_2.length := by omega
                                  rw [hAD, hm2, hcc2] at cutF
                                  rw [hm2] at hld_
                                  have CT : Aside0 (Kd.C (Kd.int .i64) wr (some ad245) x7_3.toNat (x3_2.take x7_3.toNat)) := ⟨by have h := Kd.C_take (m := x7_3.toNat) (Kd.R_reads' HO_3.out).2.2 (by omega); rw [hlt_] at h; exact h⟩
                                  have CD : Aside0 (Kd.C (Kd.int .i64) wr AD m2 (x3_2.drop x7_3.toNat)) := ⟨by have h := Kd.C_drop (m := x7_3.toNat) (Kd.R_reads' HO_3.out).2.2 (by omega) hcap3; rw [hld_, show (Kd.int .i64).sz = 1 from rfl, hAD] at h; exact h⟩
                                  have HLT := Aside0.mk hlt_
                                  have HLM := Aside0.mk (show x7_3.toNat + m2 ≤ x3_2.length from by omega)
                                  clear hAD hm2 hcc2 hlt_ hld_
                                  have LX := Aside0.mk (show x3_2.length < 17592186044416 from by first | exact LMc16.out | exact LMc19.out)
                                  go_wp2_with fail
                                  refine start_ (n := 12) (S := fun _ => True) (ds := []) #[false, false, false, false, false, false, false, false, false, false, false, false] (by kernel_rfl) rfl rfl trivial (fun hHeld => ?_)
                                  have HBd := Aside0.mk (below_drew HB.out)
                                  have BKd := Aside0.mk (blk_drew BK241.out)
                                  replace CT := Aside0.mk (Kd.C_below CT.out (below_drew (Below.refl _ _)))
                                  replace CD := Aside0.mk (Kd.C_below CD.out (below_drew (Below.refl _ _)))
                                  generalize wr.drew = wd at HBd BKd CT CD hHeld ⊢
                                  refine pure_ (i := 0) (N := some 61) (v := ?_) (a' := ?_) #[true, false, false, false, false, false, false, false, false, false, false, false] rfl rfl (by kernel_rfl) (fun _ _ _ h => h) (Or.inl ⟨by rfl, ?_⟩) ?_ ?_
                                  rotate_left
                                  · intro w'
                                    go_simp
                                    with_reducible rfl
                                  rotate_left
                                  · simp only [Act.put, List.setIfInBounds_toArray, List.set_cons_zero, List.set_cons_succ, i64_w, i32_w]
                                    rfl
                                  refine pure_ (i := 1) (N := some 62) (v := ?_) (a' := ?_) #[true, true, false, false, false, false, false, false, false, false, false, false] rfl rfl (by kernel_rfl) (fun _ _ _ h => h) (Or.inl ⟨by rfl, ?_⟩) ?_ ?_
                                  rotate_left
                                  · intro w'
                                    go_simp
                                    with_reducible rfl
                                  rotate_left
                                  · simp only [Act.put, List.setIfInBounds_toArray, List.set_cons_zero, List.set_cons_succ, i64_w, i32_w]
                                    rfl
                                  refine pure_ (i := 2) (N := some 63) (v := ?_) (a' := ?_) #[true, true, true, false, false, false, false, false, false, false, false, false] rfl rfl (by kernel_rfl) (fun _ _ _ h => h) (Or.inl ⟨by rfl, ?_⟩) ?_ ?_
                                  rotate_left
                                  · intro w'
                                    go_simp
                                    with_reducible rfl
                                  rotate_left
                                  · simp only [Act.put, List.setIfInBounds_toArray, List.set_cons_zero, List.set_cons_succ, i64_w, i32_w]
                                    rfl
                                  refine pure_ (i := 4) (N := some 65) (v := ?_) (a' := ?_) #[true, true, true, false, true, false, false, false, false, false, false, false] rfl rfl (by kernel_rfl) (fun _ _ _ h => h) (Or.inl ⟨by rfl, ?_⟩) ?_ ?_
                                  rotate_left
                                  · intro w'
                                    go_simp
                                    with_reducible rfl
                                  rotate_left
                                  · simp only [Act.put, List.setIfInBounds_toArray, List.set_cons_zero, List.set_cons_succ, i64_w, i32_w]
                                    rfl
                                  refine pure_ (i := 7) (N := some 68) (v := ?_) (a' := ?_) #[true, true, true, false, true, false, false, true, false, false, false, false] rfl rfl (by kernel_rfl) (fun _ _ _ h => h) (Or.inl ⟨by rfl, ?_⟩) ?_ ?_
                                  rotate_left
                                  · intro w'
                                    go_simp
                                    with_reducible rfl
                                  rotate_left
                                  · simp only [Act.put, List.setIfInBounds_toArray, List.set_cons_zero, List.set_cons_succ, i64_w, i32_w]
                                    rfl
                                  refine pure_ (i := 8) (N := some 69) (v := ?_) (a' := ?_) #[true, true, true, false, true, false, false, true, true, false, false, false] rfl rfl (by kernel_rfl) (fun _ _ _ h => h) (Or.inl ⟨by rfl, ?_⟩) ?_ ?_
                                  rotate_left
                                  · intro w'
                                    go_simp
                                    with_reducible rfl
                                  rotate_left
                                  · simp only [Act.put, List.setIfInBounds_toArray, List.set_cons_zero, List.set_cons_succ, i64_w, i32_w]
                                    rfl
                                  refine pure_ (i := 9) (N := some 70) (v := ?_) (a' := ?_) #[true, true, true, false, true, false, false, true, true, true, false, false] rfl rfl (by kernel_rfl) (fun _ _ _ h => h) (Or.inl ⟨by rfl, ?_⟩) ?_ ?_
                                  rotate_left
                                  · intro w'
                                    go_simp
                                    with_reducible rfl
                                  rotate_left
                                  · simp only [Act.put, List.setIfInBounds_toArray, List.set_cons_zero, List.set_cons_succ, i64_w, i32_w]
                                    rfl
                                  refine join_ (σ := Value × Nat) 3 #[true, true, true, true, true, true, false, true, true, true, false, false] (fun s => [(64, s.1), (66, .slice (some ⟨s.2, 0, none⟩) 1 1)]) (fun s w' => Kd.R (Kd.int .i64) 3 w' w.heap.size (fun _ => True) s.1 (x3_2.take x7_3.toNat) ∧ w'.cell? ⟨s.2, 0, none⟩ = some (.int .i64 (rd ((rd_T46 l0_1 x4_1).f1) x5_2)) ∧ Below wd.heap.size wd w' ∧ (∀ k, s.1.ownBlock = some k → wd.heap.size ≤ k)) ?contHO249 ?ordersHO249
                                  case ordersHO249 =>
                                    intro J
                                    refine two_ (i := 3) (j := 5) (Ni := some 64) (Nj := some 66) #[true, true, true, true, true, false, false, true, true, true, false, false] #[true, true, true, false, true, true, false, true, true, true, false, false] rfl rfl rfl rfl (by kernel_rfl) (by decide) (by decide) (fun K hK => ?_) (fun K hK => ?_)
                                    · refine Kd.R_append_rows_step (Kd.int .i64) (Rr := fun z cs => cs = [.int .i64 z]) (w0 := w) w.heap.size (by rfl) (.const (.slice none 0 0)) (.tmp 63) 44 3 (.int .i64 0) 8 rfl Tryd.underlying44 info3 rfl (by decide) (by decide) (.slice none 0 0) [] (x3_2.take x7_3.toNat) (some ad245) x7_3.toNat co17 (fun _ => True) (fun _ => False) (by rfl) (by rfl) (Kd.R_nil _ _ _ _ _) CT.out (fun _ _ h => h) (fun _ h => h.elim) (fun _ _ => trivial) HBd.out (HBd.out).size (by have := LX.out; simp only [List.length_nil]; omega) ?_
                                      intro v1 w1 ho hb hg hat
                                      refine hK.out _ _ trivial (fun _ => ?_)
                                      clear hK K
                                      refine norm_ (a' := ?_) ?_ ?_
                                      rotate_left
                                      · show Act.put _ (some 64) _ = _
                                        simp only [Act.put, List.setIfInBounds_toArray, List.set_cons_zero, List.set_cons_succ, i64_w, i32_w]
                                        rfl
                                      refine one_ (i := 5) (N := some 66) #[true, true, true, true, true, true, false, true, true, true, false, false] rfl rfl (by kernel_rfl) (by decide) (fun K hK => ?_)
                                      refine value_ (w1 := ?_) (v := ?_) (by rfl) rfl ?_ ?_
                                      rotate_left 2
                                      · go_simp
                                        constructor
                                        · rfl
                                        · rfl
                                      refine hK.out _ _ trivial (fun _ => ?_)
                                      clear hK K
                                      have hs_ : Below wd.heap.size wd w1 := (Below.refl wd.heap.size wd).grown hg (Nat.le_refl _) (fun k hk => by cases hk)
                                      have ha_ : ∀ k, v1.ownBlock = some k → wd.heap.size ≤ k := fun k hk => by
                                        rcases hat with h | ⟨b, h, hl⟩
                                        · rw [hk] at h; cases h
                                        · rw [hk] at h; injection h with h; omega
                                      exact J (v1, w1.heap.size) _ ⟨Kd.R_alloc ho _, (blk_cell (blk_new w1 _) 0).trans rfl, below_alloc hs_ _, ha_⟩
                                    · refine value_ (w1 := ?_) (v := ?_) (by rfl) rfl ?_ ?_
                                      rotate_left 2
                                      · go_simp
                                        constructor
                                        · rfl
                                        · rfl
                                      refine hK.out _ _ trivial (fun _ => ?_)
                                      clear hK K
                                      refine norm_ (a' := ?_) ?_ ?_
                                      rotate_left
                                      · show Act.put _ (some 66) _ = _
                                        simp only [Act.put, List.setIfInBounds_toArray, List.set_cons_zero, List.set_cons_succ, i64_w, i32_w]
                                        rfl
                                      refine one_ (i := 3) (N := some 64) #[true, true, true, true, true, true, false, true, true, true, false, false] rfl rfl (by kernel_rfl) (by decide) (fun K hK => ?_)
                                      refine Kd.R_append_rows_step (Kd.int .i64) (Rr := fun z cs => cs = [.int .i64 z]) (w0 := w) w.heap.size (by rfl) (.const (.slice none 0 0)) (.tmp 63) 44 3 (.int .i64 0) 8 rfl Tryd.underlying44 info3 rfl (by decide) (by decide) (.slice none 0 0) [] (x3_2.take x7_3.toNat) (some ad245) x7_3.toNat co17 (fun _ => True) (fun _ => False) (by rfl) (by rfl) (Kd.R_nil _ _ _ _ _) (Kd.C_alloc CT.out _) (fun _ _ h => h) (fun _ h => h.elim) (fun _ _ => trivial) (below_alloc HBd.out _) ((below_alloc HBd.out _)).size (by have := LX.out; simp only [List.length_nil]; omega) ?_
                                      intro v1 w1 ho hb hg hat
                                      refine hK.out _ _ trivial (fun _ => ?_)
                                      clear hK K
                                      have hs_ : Below wd.heap.size wd w1 := (below_alloc (Below.refl wd.heap.size wd) _).grown hg (by simp) (fun k hk => by cases hk)
                                      have ha_ : ∀ k, v1.ownBlock = some k → wd.heap.size ≤ k := fun k hk => by
                                        rcases hat with h | ⟨b, h, hl⟩
                                        · rw [hk] at h; cases h
                                        · rw [hk] at h; injection h with h; rw [World.size_alloc] at hl; omega
                                      exact J (v1, wd.heap.size) _ ⟨ho, (blk_cell (blk_grown (blk_new wd _) hg (by simp [Value.ownBlock])) 0).trans rfl, hs_, ha_⟩
                                  rintro ⟨u64, b66⟩ w5 ⟨ho5, hc66, hs5, ha5⟩
                                  simp only [putAll]
                                  refine norm_ (a' := ?_) ?_ ?_
                                  rotate_left
                                  · simp only [Act.put, List.setIfInBounds_toArray, List.set_cons_zero, List.set_cons_succ, i64_w, i32_w]
                                    rfl
                                  refine one_ (i := 6) (N := some 67) #[true, true, true, true, true, true, true, true, true, true, false, false] rfl rfl (by kernel_rfl) (by decide) (fun K hK => ?_)
                                  refine Kd.R_append_rows_step (Kd.int .i64) (Rr := fun z cs => cs = [.int .i64 z]) (w0 := w) w.heap.size (by rfl) (.tmp 64) (.tmp 66) 44 3 (.int .i64 0) 8 rfl Tryd.underlying44 info3 rfl (by decide) (by decide) u64 (x3_2.take x7_3.toNat) [(rd ((rd_T46 l0_1 x4_1).f1) x5_2)] (some ⟨b66, 0, none⟩) 1 1 (fun _ => True) (fun _ => False) (by rfl) (by rfl) ho5 (row_one hc66) (fun _ _ h => h) (fun _ h => h.elim) (fun _ _ => trivial) (below_then HBd.out HBd.out.size hs5) (below_then HBd.out HBd.out.size hs5).size (by have := LX.out; have := HLT.out; omega) ?_
                                  intro v6 w6 ho6 hb6 hg6 hat6
                                  refine hK.out _ _ trivial (fun _ => ?_)
                                  clear hK K
                                  refine norm_ (a' := ?_) ?_ ?_
                                  rotate_left
                                  · show Act.put _ (some 67) _ = _
                                    simp only [Act.put, List.setIfInBounds_toArray, List.set_cons_zero, List.set_cons_succ, i64_w, i32_w]
                                    rfl
                                  have hs6 : Below wd.heap.size wd w6 := hs5.grown hg6 hs5.size (fun k hk => ha5 k hk)
                                  refine one_ (i := 10) (N := some 71) #[true, true, true, true, true, true, true, true, true, true, true, false] rfl rfl (by kernel_rfl) (by decide) (fun K hK => ?_)
                                  refine Kd.R_append_rows_step (Kd.int .i64) (Rr := fun z cs => cs = [.int .i64 z]) (w0 := w) w.heap.size (by rfl) (.tmp 67) (.tmp 70) 44 3 (.int .i64 0) 8 rfl Tryd.underlying44 info3 rfl (by decide) (by decide) v6 (x3_2.take x7_3.toNat ++ [(rd ((rd_T46 l0_1 x4_1).f1) x5_2)]) (x3_2.drop x7_3.toNat) AD m2 cc2 (fun _ => True) (fun _ => False) (by rfl) (by rfl) ho6 (Kd.C_below CD.out hs6) (fun _ _ h => h) (fun _ h => h.elim) (fun _ _ => trivial) hb6 hb6.size (by have := LX.out; have := HLT.out; have := HLM.out; simp only [List.length_append, List.length_cons, List.length_nil]; omega) ?_
                                  intro v7 w7 ho7 hb7 hg7 hat7
                                  refine hK.out _ _ trivial (fun _ => ?_)
                                  clear hK K
                                  refine norm_ (a' := ?_) ?_ ?_
                                  rotate_left
                                  · show Act.put _ (some 71) _ = _
                                    simp only [Act.put, List.setIfInBounds_toArray, List.set_cons_zero, List.set_cons_succ, i64_w, i32_w]
                                    rfl
                                  refine pure_ (i := 11) (N := some 3) (v := ?_) (a' := ?_) #[true, true, true, true, true, true, true, true, true, true, true, true] rfl rfl (by kernel_rfl) (fun _ _ _ h => h) (Or.inl ⟨by rfl, ?_⟩) ?_ ?_
                                  rotate_left
                                  · intro w'
                                    go_simp
                                    with_reducible rfl
                                  rotate_left
                                  · simp only [Act.put, List.setIfInBounds_toArray, List.set_cons_zero, List.set_cons_succ, i64_w, i32_w]
                                    rfl
                                  refine done_ (by kernel_rfl) ?_
                                  have hs7 : Below wd.heap.size wd w7 := hs6.grown hg7 hs6.size (fun k hk => by
                                    rcases hat6 with h | ⟨b, h, hl⟩
                                    · exact ha5 k (by rw [← h]; exact hk)
                                    · rw [hk] at h; injection h with h; have := hs5.size; omega)
                                  have n0_ := Aside0.mk (blk_below BKd.out hs7)
                                  have HO249 : Aside0 (Kd.R (Kd.int .i64) 3 w7 w.heap.size (fun _ => True) v7 y247) := ⟨by rw [Ny247.out]; unfold insAt; rw [List.append_cons]; exact ho7⟩
                                  clear HB BK241 HO_3
                                  have HB := Aside0.mk hb7
                                  have BK241 := n0_
                                  clear n0_ ho7 hb7 hs7 hs6 hs5 ho6 hb6 ho5 hc66 cutT cutF
                                  try go_wp2
                                  go_roundg k3
                                  case measure => have := HK1.out; have := HK2.out; have := HK3.out; omega
                                  case rel => exact ⟨(y247), (wrap64 (x5_2 + 1)), (by first | rfl | (simp; done) | (simp [*]; done)), H', ⟨by have := HK1.out; have := HK2.out; have := HK3.out; omega⟩, ⟨by (with_reducible repeat (first | apply Kd.R_alloc | apply Kd.R_drewN | apply Kd.R_drew)); exact HO249.out⟩, ⟨by (with_reducible repeat (first | refine blk_drewN ?_ _ | refine blk_drew ?_ | refine blk_alloc ?_ _)); exact BK241.out⟩, ⟨by repeat (first | (with_reducible first | exact HB.out | apply below_alloc | apply pw_below_drewN | apply below_drew1 | refine below_set ?_ GE241.out) | exact HB.out)⟩⟩
                                · rw [if_neg c16] at H
                                  exact absurd H (by simp)
                          · rw [if_neg c11] at H
                            exact absurd H (by simp)
                        · rw [if_neg c10] at H
                          have c10b0 : decide (x7_3 < (x3_2.length : Int)) = false := decide_eq_false c10
                          clear c10
                          by_cases c18 : x7_3 = (x3_2.length : Int)
                          · rw [if_pos c18] at H
                            by_cases c19 : x3_2.length < 17592186044416
                            · rw [if_pos c19] at H
                              have LMc19 := Aside0.mk c19
                              clear c19
                              obtain ⟨y250, hy250⟩ : ∃ y_ : List Int, y_ = (insAt x3_2 x7_3 (rd ((rd_T46 l0_1 x4_1).f1) x5_2)) := ⟨_, rfl⟩
                              replace H : (marlinspikeref07_Jobs.l1 k3 y250 x4_1 (wrap64 (x5_2 + 1)) a0_0 l0_1) = some r := by first | (rw [hy250]; with_reducible exact H) | (have H2_ := (Option.bind_some _ _).symm.trans H; rw [hy250]; with_reducible exact H2_) | (have H2_ := (Option.bind_some _ _).symm.trans H; with_reducible exact H2_) | with_reducible exact H | (rw [hy250]; exact H) | exact H
                              have Ny250 := Aside0.mk hy250
                              clear hy250
                              have H' := Aside0.mk H
                              clear H
                              obtain ⟨Ao20, co20, eo20⟩ := Kd.R_slice HO_3.out
                              subst eo20
                              have hm0 : 0 ≤ x7_3 := by omega
                              have hmle : x7_3 ≤ (x3_2.length : Int) := by omega
                              clear c18
                              have hcap3 : x3_2.length ≤ co20 := (Kd.R_reads' HO_3.out).2.1
                              obtain ⟨i0, hi0, _, hsz0, _⟩ := info_parts info3
                              have cutT := cut_to (P := Tryd.prog) 44 3 .i64 Tryd.underlying44 hi0 Ao20 x3_2.length co20 x7_3 hm0 hmle hcap3
                              have cutF := cut_from (P := Tryd.prog) 44 3 .i64 Tryd.underlying44 hi0 1 hsz0 Ao20 x3_2.length co20 x7_3 hm0 hmle
                              have hlt_ : (x3_2.take x7_3.toNat).length = x7_3.toNat := by rw [List.length_take]; omega
                              have hld_ : (x3_2.drop x7_3.toNat).length = x3_2.length - x7_3.toNat := List.length_drop
                              obtain ⟨AD, hAD⟩ : ∃ AD, (if co20 = x7_3.toNat then Ao20 else Option.map (fun z => z.add (x7_3.toNat * 1)) Ao20) = AD := ⟨_, rfl⟩
                              obtain ⟨m2, hm2⟩ : ∃ m2, x3_2.length - x7_3.toNat = m2 := ⟨_, rfl⟩
                              obtain ⟨cc2, hcc2⟩ : ∃ cc2, co20 - x7_3.toNat = cc2 := ⟨_, rfl⟩
                              have hm2le : m2 ≤ x3_2.length := by omega
                              rw [hAD, hm2, hcc2] at cutF
                              rw [hm2] at hld_
                              have CT : Aside0 (Kd.C (Kd.int .i64) wr Ao20 x7_3.toNat (x3_2.take x7_3.toNat)) := ⟨by have h := Kd.C_take (m := x7_3.toNat) (Kd.R_reads' HO_3.out).2.2 (by omega); rw [hlt_] at h; exact h⟩
                              have CD : Aside0 (Kd.C (Kd.int .i64) wr AD m2 (x3_2.drop x7_3.toNat)) := ⟨by have h := Kd.C_drop (m := x7_3.toNat) (Kd.R_reads' HO_3.out).2.2 (by omega) hcap3; rw [hld_, show (Kd.int .i64).sz = 1 from rfl, hAD] at h; exact h⟩
                              have HLT := Aside0.mk hlt_
                              have HLM := Aside0.mk (show x7_3.toNat + m2 ≤ x3_2.length from by omega)
                              clear hAD hm2 hcc2 hlt_ hld_
                              have LX := Aside0.mk (show x3_2.length < 17592186044416 from by first | exact LMc16.out | exact LMc19.out)
                              go_wp2_with fail
                              refine start_ (n := 12) (S := fun _ => True) (ds := []) #[false, false, false, false, false, false, false, false, false, false, false, false] (by kernel_rfl) rfl rfl trivial (fun hHeld => ?_)
                              have HBd := Aside0.mk (below_drew HB.out)
                              have BKd := Aside0.mk (blk_drew BK241.out)
                              replace CT := Aside0.mk (Kd.C_below CT.out (below_drew (Below.refl _ _)))
                              replace CD := Aside0.mk (Kd.C_below CD.out (below_drew (Below.refl _ _)))
                              generalize wr.drew = wd at HBd BKd CT CD hHeld ⊢
                              refine pure_ (i := 0) (N := some 61) (v := ?_) (a' := ?_) #[true, false, false, false, false, false, false, false, false, false, false, false] rfl rfl (by kernel_rfl) (fun _ _ _ h => h) (Or.inl ⟨by rfl, ?_⟩) ?_ ?_
                              rotate_left
                              · intro w'
                                go_simp
                                with_reducible rfl
                              rotate_left
                              · simp only [Act.put, List.setIfInBounds_toArray, List.set_cons_zero, List.set_cons_succ, i64_w, i32_w]
                                rfl
                              refine pure_ (i := 1) (N := some 62) (v := ?_) (a' := ?_) #[true, true, false, false, false, false, false, false, false, false, false, false] rfl rfl (by kernel_rfl) (fun _ _ _ h => h) (Or.inl ⟨by rfl, ?_⟩) ?_ ?_
                              rotate_left
                              · intro w'
                                go_simp
                                with_reducible rfl
                              rotate_left
                              · simp only [Act.put, List.setIfInBounds_toArray, List.set_cons_zero, List.set_cons_succ, i64_w, i32_w]
                                rfl
                              refine pure_ (i := 2) (N := some 63) (v := ?_) (a' := ?_) #[true, true, true, false, false, false, false, false, false, false, false, false] rfl rfl (by kernel_rfl) (fun _ _ _ h => h) (Or.inl ⟨by rfl, ?_⟩) ?_ ?_
                              rotate_left
                              · intro w'
                                go_simp
                                with_reducible rfl
                              rotate_left
                              · simp only [Act.put, List.setIfInBounds_toArray, List.set_cons_zero, List.set_cons_succ, i64_w, i32_w]
                                rfl
                              refine pure_ (i := 4) (N := some 65) (v := ?_) (a' := ?_) #[true, true, true, false, true, false, false, false, false, false, false, false] rfl rfl (by kernel_rfl) (fun _ _ _ h => h) (Or.inl ⟨by rfl, ?_⟩) ?_ ?_
                              rotate_left
                              · intro w'
                                go_simp
                                with_reducible rfl
                              rotate_left
                              · simp only [Act.put, List.setIfInBounds_toArray, List.set_cons_zero, List.set_cons_succ, i64_w, i32_w]
                                rfl
                              refine pure_ (i := 7) (N := some 68) (v := ?_) (a' := ?_) #[true, true, true, false, true, false, false, true, false, false, false, false] rfl rfl (by kernel_rfl) (fun _ _ _ h => h) (Or.inl ⟨by rfl, ?_⟩) ?_ ?_
                              rotate_left
                              · intro w'
                                go_simp
                                with_reducible rfl
                              rotate_left
                              · simp only [Act.put, List.setIfInBounds_toArray, List.set_cons_zero, List.set_cons_succ, i64_w, i32_w]
                                rfl
                              refine pure_ (i := 8) (N := some 69) (v := ?_) (a' := ?_) #[true, true, true, false, true, false, false, true, true, false, false, false] rfl rfl (by kernel_rfl) (fun _ _ _ h => h) (Or.inl ⟨by rfl, ?_⟩) ?_ ?_
                              rotate_left
                              · intro w'
                                go_simp
                                with_reducible rfl
                              rotate_left
                              · simp only [Act.put, List.setIfInBounds_toArray, List.set_cons_zero, List.set_cons_succ, i64_w, i32_w]
                                rfl
                              refine pure_ (i := 9) (N := some 70) (v := ?_) (a' := ?_) #[true, true, true, false, true, false, false, true, true, true, false, false] rfl rfl (by kernel_rfl) (fun _ _ _ h => h) (Or.inl ⟨by rfl, ?_⟩) ?_ ?_
                              rotate_left
                              · intro w'
                                go_simp
                                with_reducible rfl
                              rotate_left
                              · simp only [Act.put, List.setIfInBounds_toArray, List.set_cons_zero, List.set_cons_succ, i64_w, i32_w]
                                rfl
                              refine join_ (σ := Value × Nat) 3 #[true, true, true, true, true, true, false, true, true, true, false, false] (fun s => [(64, s.1), (66, .slice (some ⟨s.2, 0, none⟩) 1 1)]) (fun s w' => Kd.R (Kd.int .i64) 3 w' w.heap.size (fun _ => True) s.1 (x3_2.take x7_3.toNat) ∧ w'.cell? ⟨s.2, 0, none⟩ = some (.int .i64 (rd ((rd_T46 l0_1 x4_1).f1) x5_2)) ∧ Below wd.heap.size wd w' ∧ (∀ k, s.1.ownBlock = some k → wd.heap.size ≤ k)) ?contHO252 ?ordersHO252
                              case ordersHO252 =>
                                intro J
                                refine two_ (i := 3) (j := 5) (Ni := some 64) (Nj := some 66) #[true, true, true, true, true, false, false, true, true, true, false, false] #[true, true, true, false, true, true, false, true, true, true, false, false] rfl rfl rfl rfl (by kernel_rfl) (by decide) (by decide) (fun K hK => ?_) (fun K hK => ?_)
                                · refine Kd.R_append_rows_step (Kd.int .i64) (Rr := fun z cs => cs = [.int .i64 z]) (w0 := w) w.heap.size (by rfl) (.const (.slice none 0 0)) (.tmp 63) 44 3 (.int .i64 0) 8 rfl Tryd.underlying44 info3 rfl (by decide) (by decide) (.slice none 0 0) [] (x3_2.take x7_3.toNat) Ao20 x7_3.toNat co20 (fun _ => True) (fun _ => False) (by rfl) (by rfl) (Kd.R_nil _ _ _ _ _) CT.out (fun _ _ h => h) (fun _ h => h.elim) (fun _ _ => trivial) HBd.out (HBd.out).size (by have := LX.out; simp only [List.length_nil]; omega) ?_
                                  intro v1 w1 ho hb hg hat
                                  refine hK.out _ _ trivial (fun _ => ?_)
                                  clear hK K
                                  refine norm_ (a' := ?_) ?_ ?_
                                  rotate_left
                                  · show Act.put _ (some 64) _ = _
                                    simp only [Act.put, List.setIfInBounds_toArray, List.set_cons_zero, List.set_cons_succ, i64_w, i32_w]
                                    rfl
                                  refine one_ (i := 5) (N := some 66) #[true, true, true, true, true, true, false, true, true, true, false, false] rfl rfl (by kernel_rfl) (by decide) (fun K hK => ?_)
                                  refine value_ (w1 := ?_) (v := ?_) (by rfl) rfl ?_ ?_
                                  rotate_left 2
                                  · go_simp
                                    constructor
                                    · rfl
                                    · rfl
                                  refine hK.out _ _ trivial (fun _ => ?_)
                                  clear hK K
                                  have hs_ : Below wd.heap.size wd w1 := (Below.refl wd.heap.size wd).grown hg (Nat.le_refl _) (fun k hk => by cases hk)
                                  have ha_ : ∀ k, v1.ownBlock = some k → wd.heap.size ≤ k := fun k hk => by
                                    rcases hat with h | ⟨b, h, hl⟩
                                    · rw [hk] at h; cases h
                                    · rw [hk] at h; injection h with h; omega
                                  exact J (v1, w1.heap.size) _ ⟨Kd.R_alloc ho _, (blk_cell (blk_new w1 _) 0).trans rfl, below_alloc hs_ _, ha_⟩
                                · refine value_ (w1 := ?_) (v := ?_) (by rfl) rfl ?_ ?_
                                  rotate_left 2
                                  · go_simp
                                    constructor
                                    · rfl
                                    · rfl
                                  refine hK.out _ _ trivial (fun _ => ?_)
                                  clear hK K
                                  refine norm_ (a' := ?_) ?_ ?_
                                  rotate_left
                                  · show Act.put _ (some 66) _ = _
                                    simp only [Act.put, List.setIfInBounds_toArray, List.set_cons_zero, List.set_cons_succ, i64_w, i32_w]
                                    rfl
                                  refine one_ (i := 3) (N := some 64) #[true, true, true, true, true, true, false, true, true, true, false, false] rfl rfl (by kernel_rfl) (by decide) (fun K hK => ?_)
                                  refine Kd.R_append_rows_step (Kd.int .i64) (Rr := fun z cs => cs = [.int .i64 z]) (w0 := w) w.heap.size (by rfl) (.const (.slice none 0 0)) (.tmp 63) 44 3 (.int .i64 0) 8 rfl Tryd.underlying44 info3 rfl (by decide) (by decide) (.slice none 0 0) [] (x3_2.take x7_3.toNat) Ao20 x7_3.toNat co20 (fun _ => True) (fun _ => False) (by rfl) (by rfl) (Kd.R_nil _ _ _ _ _) (Kd.C_alloc CT.out _) (fun _ _ h => h) (fun _ h => h.elim) (fun _ _ => trivial) (below_alloc HBd.out _) ((below_alloc HBd.out _)).size (by have := LX.out; simp only [List.length_nil]; omega) ?_
                                  intro v1 w1 ho hb hg hat
                                  refine hK.out _ _ trivial (fun _ => ?_)
                                  clear hK K
                                  have hs_ : Below wd.heap.size wd w1 := (below_alloc (Below.refl wd.heap.size wd) _).grown hg (by simp) (fun k hk => by cases hk)
                                  have ha_ : ∀ k, v1.ownBlock = some k → wd.heap.size ≤ k := fun k hk => by
                                    rcases hat with h | ⟨b, h, hl⟩
                                    · rw [hk] at h; cases h
                                    · rw [hk] at h; injection h with h; rw [World.size_alloc] at hl; omega
                                  exact J (v1, wd.heap.size) _ ⟨ho, (blk_cell (blk_grown (blk_new wd _) hg (by simp [Value.ownBlock])) 0).trans rfl, hs_, ha_⟩
                              rintro ⟨u64, b66⟩ w5 ⟨ho5, hc66, hs5, ha5⟩
                              simp only [putAll]
                              refine norm_ (a' := ?_) ?_ ?_
                              rotate_left
                              · simp only [Act.put, List.setIfInBounds_toArray, List.set_cons_zero, List.set_cons_succ, i64_w, i32_w]
                                rfl
                              refine one_ (i := 6) (N := some 67) #[true, true, true, true, true, true, true, true, true, true, false, false] rfl rfl (by kernel_rfl) (by decide) (fun K hK => ?_)
                              refine Kd.R_append_rows_step (Kd.int .i64) (Rr := fun z cs => cs = [.int .i64 z]) (w0 := w) w.heap.size (by rfl) (.tmp 64) (.tmp 66) 44 3 (.int .i64 0) 8 rfl Tryd.underlying44 info3 rfl (by decide) (by decide) u64 (x3_2.take x7_3.toNat) [(rd ((rd_T46 l0_1 x4_1).f1) x5_2)] (some ⟨b66, 0, none⟩) 1 1 (fun _ => True) (fun _ => False) (by rfl) (by rfl) ho5 (row_one hc66) (fun _ _ h => h) (fun _ h => h.elim) (fun _ _ => trivial) (below_then HBd.out HBd.out.size hs5) (below_then HBd.out HBd.out.size hs5).size (by have := LX.out; have := HLT.out; omega) ?_
                              intro v6 w6 ho6 hb6 hg6 hat6
                              refine hK.out _ _ trivial (fun _ => ?_)
                              clear hK K
                              refine norm_ (a' := ?_) ?_ ?_
                              rotate_left
                              · show Act.put _ (some 67) _ = _
                                simp only [Act.put, List.setIfInBounds_toArray, List.set_cons_zero, List.set_cons_succ, i64_w, i32_w]
                                rfl
                              have hs6 : Below wd.heap.size wd w6 := hs5.grown hg6 hs5.size (fun k hk => ha5 k hk)
                              refine one_ (i := 10) (N := some 71) #[true, true, true, true, true, true, true, true, true, true, true, false] rfl rfl (by kernel_rfl) (by decide) (fun K hK => ?_)
                              refine Kd.R_append_rows_step (Kd.int .i64) (Rr := fun z cs => cs = [.int .i64 z]) (w0 := w) w.heap.size (by rfl) (.tmp 67) (.tmp 70) 44 3 (.int .i64 0) 8 rfl Tryd.underlying44 info3 rfl (by decide) (by decide) v6 (x3_2.take x7_3.toNat ++ [(rd ((rd_T46 l0_1 x4_1).f1) x5_2)]) (x3_2.drop x7_3.toNat) AD m2 cc2 (fun _ => True) (fun _ => False) (by rfl) (by rfl) ho6 (Kd.C_below CD.out hs6) (fun _ _ h => h) (fun _ h => h.elim) (fun _ _ => trivial) hb6 hb6.size (by have := LX.out; have := HLT.out; have := HLM.out; simp only [List.length_append, List.length_cons, List.length_nil]; omega) ?_
                              intro v7 w7 ho7 hb7 hg7 hat7
                              refine hK.out _ _ trivial (fun _ => ?_)
                              clear hK K
                              refine norm_ (a' := ?_) ?_ ?_
                              rotate_left
                              · show Act.put _ (some 71) _ = _
                                simp only [Act.put, List.setIfInBounds_toArray, List.set_cons_zero, List.set_cons_succ, i64_w, i32_w]
                                rfl
                              refine pure_ (i := 11) (N := some 3) (v := ?_) (a' := ?_) #[true, true, true, true, true, true, true, true, true, true, true, true] rfl rfl (by kernel_rfl) (fun _ _ _ h => h) (Or.inl ⟨by rfl, ?_⟩) ?_ ?_
                              rotate_left
                              · intro w'
                                go_simp
                                with_reducible rfl
                              rotate_left
                              · simp only [Act.put, List.setIfInBounds_toArray, List.set_cons_zero, List.set_cons_succ, i64_w, i32_w]
                                rfl
                              refine done_ (by kernel_rfl) ?_
                              have hs7 : Below wd.heap.size wd w7 := hs6.grown hg7 hs6.size (fun k hk => by
                                rcases hat6 with h | ⟨b, h, hl⟩
                                · exact ha5 k (by rw [← h]; exact hk)
                                · rw [hk] at h; injection h with h; have := hs5.size; omega)
                              have n0_ := Aside0.mk (blk_below BKd.out hs7)
                              have HO252 : Aside0 (Kd.R (Kd.int .i64) 3 w7 w.heap.size (fun _ => True) v7 y250) := ⟨by rw [Ny250.out]; unfold insAt; rw [List.append_cons]; exact ho7⟩
                              clear HB BK241 HO_3
                              have HB := Aside0.mk hb7
                              have BK241 := n0_
                              clear n0_ ho7 hb7 hs7 hs6 hs5 ho6 hb6 ho5 hc66 cutT cutF
                              try go_wp2
                              go_roundg k3
                              case measure => have := HK1.out; have := HK2.out; have := HK3.out; omega
                              case rel => exact ⟨(y250), (wrap64 (x5_2 + 1)), (by first | rfl | (simp; done) | (simp [*]; done)), H', ⟨by have := HK1.out; have := HK2.out; have := HK3.out; omega⟩, ⟨by (with_reducible repeat (first | apply Kd.R_alloc | apply Kd.R_drewN | apply Kd.R_drew)); exact HO252.out⟩, ⟨by (with_reducible repeat (first | refine blk_drewN ?_ _ | refine blk_drew ?_ | refine blk_alloc ?_ _)); exact BK241.out⟩, ⟨by repeat (first | (with_reducible first | exact HB.out | apply below_alloc | apply pw_below_drewN | apply below_drew1 | refine below_set ?_ GE241.out) | exact HB.out)⟩⟩
                            · rw [if_neg c19] at H
                              exact absurd H (by simp)
                          · rw [if_neg c18] at H
                            exact absurd H (by simp)
                  · rw [if_neg c8] at H
                    exact absurd H (by simp)
                · rw [if_neg c7] at H
                  have c7b0 : decide (x5_2 < (((rd_T46 l0_1 x4_1).f1).length : Int)) = false := decide_eq_false c7
                  clear c7
                  have H' := Aside0.mk H
                  clear H
                  have hcz22_0 : wr.cell? ⟨gb241, 0, none⟩ = some (.bool a0_0) := (blk_cell BK241.out 0).trans rfl
                  have hcz22_1 : wr.cell? ⟨gb241, 1, none⟩ = some (.slice A0_1 l0_1.length c0_1) := (blk_cell BK241.out 1).trans rfl
                  have hfz22_0 := blk_frozen BK241.out 0
                  have hfz22_1 := blk_frozen BK241.out 1
                  have p242 : 0 ≤ (x4_1 : Int) := of_decide_eq_true (by first | (with_reducible assumption) | assumption)
                  have q242 : x4_1 < (l0_1.length : Int) := of_decide_eq_true (by first | (with_reducible assumption) | assumption)
                  obtain ⟨ad242, A242_1, c242_1, e242, hx242_0, hx242_1, hl242_1, hi242_1⟩ := at_T46 HR0_1.out x4_1 p242 q242
                  cases e242
                  replace hx242_0 := (HB.out.cell (World.block_lt_of_cell? w _ hx242_0)).trans hx242_0
                  replace hx242_1 := (HB.out.cell (World.block_lt_of_cell? w _ hx242_1)).trans hx242_1
                  have HR242_1 := Aside0.mk hi242_1
                  have HC242_1 := Aside0.mk hl242_1
                  clear hi242_1 hl242_1
                  replace p242 := eq_true p242
                  replace q242 := eq_true q242
                  go_wp2
                  go_roundg k2
                  case measure => have := HK1.out; have := HK2.out; omega
                  case rel => exact ⟨(x3_2), (wrap64 (x4_1 + 1)), (by first | rfl | (simp; done) | (simp [*]; done)), H', ⟨by have := HK1.out; have := HK2.out; omega⟩, ⟨by (with_reducible repeat (first | apply Kd.R_alloc | apply Kd.R_drewN | apply Kd.R_drew)); exact HO_3.out⟩, ⟨by (with_reducible repeat (first | refine blk_drewN ?_ _ | refine blk_drew ?_ | refine blk_alloc ?_ _)); exact BK241.out⟩, ⟨by repeat (first | (with_reducible first | exact HB.out | apply below_alloc | apply pw_below_drewN | apply below_drew1 | refine below_set ?_ GE241.out) | exact HB.out)⟩⟩
              · rw [if_neg c6] at H
                exact absurd H (by simp)
            · rw [if_neg c5] at H
              exact absurd H (by simp)
      · rw [if_neg c3] at H
        have c3b0 : decide (x4_1 < (l0_1.length : Int)) = false := decide_eq_false c3
        clear c3
        obtain rfl := Option.some.inj H
        have hcz23_0 : wr.cell? ⟨gb241, 0, none⟩ = some (.bool a0_0) := (blk_cell BK241.out 0).trans rfl
        have hcz23_1 : wr.cell? ⟨gb241, 1, none⟩ = some (.slice A0_1 l0_1.length c0_1) := (blk_cell BK241.out 1).trans rfl
        have hfz23_0 := blk_frozen BK241.out 0
        have hfz23_1 := blk_frozen BK241.out 1
        go_wp2
        go_ret
        exact ⟨_, by first | rfl | (simp [errW_none, errW_some] <;> rfl) | (simp [*, errW_none, errW_some] <;> rfl), by (with_reducible repeat (first | apply Kd.R_alloc | apply Kd.R_drewN | apply Kd.R_drew)); exact HO_3.out, by repeat (first | (with_reducible first | exact HB.out | apply below_alloc | apply pw_below_drewN | apply below_drew1 | refine below_set ?_ GE241.out) | exact HB.out)⟩
end Go.Proofs.YtknbnnpggdegmaaDoor.PD
end
section
namespace Go.Proofs.YtknbnnpggdegmaaDoor.Jb
open Go.RowKit Go.Proofs.YtknbnnpggdegmaaDoorW.PrintWords Go.Proofs.YtknbnnpggdegmaaDoorW.PrintLast Go.Proofs.YtknbnnpggdegmaaDoorW.PrintMore Go.Proofs.YtknbnnpggdegmaaDoor.PD Go.Proofs.YtknbnnpggdegmaaDoor.At
set_option linter.unusedVariables false
set_option linter.unusedSimpArgs false
theorem pos_le (l : List Int) (n : Int) : pos l n ≤ l.length := by
  unfold pos
  exact (List.takeWhile_prefix _).length_le
theorem pos_lt : ∀ (l : List Int) (n : Int) (i : Nat), i < pos l n → ∃ h : i < l.length, l[i] < n
  | [], n, i, h => by simp [pos] at h
  | a :: l, n, i, h => by
    unfold pos at h
    by_cases ha : a < n
    · simp only [List.takeWhile_cons, ha, decide_true, ↓reduceIte, List.length_cons] at h
      cases i with
      | zero => exact ⟨by simp, ha⟩
      | succ i =>
        obtain ⟨h1, h2⟩ := pos_lt l n i (by unfold pos; omega)
        exact ⟨by simpa using h1, by simpa using h2⟩
    · simp [List.takeWhile_cons, ha] at h
theorem pos_ge : ∀ (l : List Int) (n : Int) (h : pos l n < l.length), ¬ l[pos l n] < n
  | [], n, h => by simp at h
  | a :: l, n, h => by
    unfold pos at h ⊢
    by_cases ha : a < n
    · simp only [List.takeWhile_cons, ha, decide_true, ↓reduceIte, List.length_cons] at h ⊢
      exact pos_ge l n (by unfold pos; omega)
    · simp [List.takeWhile_cons, ha]
theorem insS_at (l : List Int) (n : Int) : insS l n = if l[pos l n]? = some n then l else insAt l ((pos l n : Nat) : Int) n := by
  unfold insS insAt
  rw [Int.toNat_natCast]
theorem insS_len (l : List Int) (n : Int) : (insS l n).length ≤ l.length + 1 := by
  unfold insS
  have := pos_le l n
  split
  · omega
  · simp
    omega
theorem rdI (l : List Int) (i : Nat) (h : i < l.length) : rd l (i : Int) = l[i] := by simp [rd, h]
theorem ref_l2 (any : Bool) (l : List S46) (x3 : List Int) (hx : x3.length ≤ 100000) (i : Nat) (j : Nat) (hj : j ≤ 100000) (n : Int) : ∀ (d at_ k : Nat), at_ + d = pos x3 n →
    marlinspikeref07_Jobs.l2 (k + d + 1) x3 i j n at_ any l = marlinspikeref07_Jobs.l1 k (insS x3 n) i ((j + 1 : Nat) : Int) any l
  | 0, at_, k, h => by
    have hp := pos_le x3 n
    obtain rfl : at_ = pos x3 n := by omega
    simp only [marlinspikeref07_Jobs.l2, Nat.add_zero]
    rw [insS_at]
    by_cases hlt : pos x3 n < x3.length
    · have hge := pos_ge x3 n hlt
      rw [if_pos (by omega), if_pos (by omega), rdI x3 _ hlt, if_neg hge]
      by_cases he : x3[pos x3 n] = n
      · rw [if_pos he, if_pos (by rw [List.getElem?_eq_getElem hlt, he]), wrapN (by omega)]
      · rw [if_neg he, if_pos (by omega), if_neg (by rw [List.getElem?_eq_getElem hlt]; simpa using he), wrapN (by omega)]
    · rw [if_neg (by omega), if_pos (by omega), if_pos (by omega), if_neg (by rw [List.getElem?_eq_none (by omega)]; simp), wrapN (by omega)]
  | d + 1, at_, k, h => by
    obtain ⟨h1, h2⟩ := pos_lt x3 n at_ (by omega)
    obtain ⟨K, hK⟩ : ∃ K, k + d + 1 = K := ⟨_, rfl⟩
    rw [show k + (d + 1) + 1 = K + 1 by omega]
    simp only [marlinspikeref07_Jobs.l2]
    subst hK
    rw [if_pos (by omega), if_pos (by omega), rdI x3 at_ h1, if_pos h2, wrapN (by omega)]
    exact ref_l2 any l x3 hx i j hj n d (at_ + 1) k (by omega)
theorem ref_l1 (any : Bool) (l : List S46) (i : Nat) (hi : i < l.length) (hl : l.length ≤ 60) (hjs : l[i].f1.length ≤ 300) : ∀ (d j : Nat) (x3 : List Int), j + d = l[i].f1.length → x3.length + d ≤ 100000 →
    ∃ m, ∀ k, marlinspikeref07_Jobs.l1 (k + m) x3 i j any l = marlinspikeref07_Jobs.l0 k ((l[i].f1.drop j).foldl insS x3) ((i + 1 : Nat) : Int) any l
  | 0, j, x3, h, hx => ⟨1, fun k => by
    simp only [marlinspikeref07_Jobs.l1]
    rw [rd46 l i hi, if_pos (by omega), if_pos (by omega), if_neg (by omega), wrapN (by omega), List.drop_eq_nil_of_le (by omega)]
    rfl⟩
  | d + 1, j, x3, h, hx => by
    have hjl : j < l[i].f1.length := by omega
    obtain ⟨m, hm⟩ := ref_l1 any l i hi hl hjs d (j + 1) (insS x3 l[i].f1[j]) (by omega) (by have := insS_len x3 l[i].f1[j]; omega)
    refine ⟨m + pos x3 l[i].f1[j] + 1 + 1, fun k => ?_⟩
    rw [show k + (m + pos x3 l[i].f1[j] + 1 + 1) = (k + m + pos x3 l[i].f1[j] + 1) + 1 by omega]
    simp only [marlinspikeref07_Jobs.l1]
    rw [rd46 l i hi, if_pos (by omega), if_pos (by omega), if_pos (by omega), if_pos (by omega), rdI _ j hjl]
    have := ref_l2 any l x3 (by omega) i j (by omega) l[i].f1[j] (pos x3 l[i].f1[j]) 0 (k + m) (by omega)
    rw [show ((0 : Nat) : Int) = 0 from rfl] at this
    rw [this, hm k, List.drop_eq_getElem_cons hjl, List.foldl_cons]
def allJobs (l : List S46) : List Int := l.flatMap (·.f1)
theorem fold_len : ∀ (zs acc : List Int), (zs.foldl insS acc).length ≤ acc.length + zs.length
  | [], acc => by simp
  | z :: zs, acc => by
    have := fold_len zs (insS acc z)
    have := insS_len acc z
    simp only [List.foldl_cons, List.length_cons]
    omega
theorem ref_l0 (any : Bool) (l : List S46) (hl : l.length ≤ 60) (hjs : ∀ x ∈ l, x.f1.length ≤ 300) : ∀ (d i : Nat) (x3 : List Int), i + d = l.length → x3.length ≤ 300 * i →
    ∃ m, ∀ k, marlinspikeref07_Jobs.l0 (k + m) x3 i any l = some ((allJobs (l.drop i)).foldl insS x3)
  | 0, i, x3, h, hx => ⟨1, fun k => by
    simp only [marlinspikeref07_Jobs.l0]
    rw [if_neg (by omega), List.drop_eq_nil_of_le (by omega)]
    rfl⟩
  | d + 1, i, x3, h, hx => by
    have hi : i < l.length := by omega
    have hj := hjs l[i] (List.getElem_mem _)
    have hlen := fold_len l[i].f1 x3
    obtain ⟨m, hm⟩ := ref_l0 any l hl hjs d (i + 1) (l[i].f1.foldl insS x3) (by omega) (by omega)
    obtain ⟨m1, hm1⟩ := ref_l1 any l i hi hl hj l[i].f1.length 0 x3 (by omega) (by omega)
    refine ⟨m + m1 + 1, fun k => ?_⟩
    rw [show k + (m + m1 + 1) = (k + m + m1) + 1 by omega]
    simp only [marlinspikeref07_Jobs.l0]
    have h0 := hm1 (k + m)
    rw [show ((0 : Nat) : Int) = 0 from rfl] at h0
    rw [if_pos (by omega), h0, List.drop_zero, hm k, List.drop_eq_getElem_cons hi]
    unfold allJobs
    rw [List.flatMap_cons, List.foldl_append]
theorem ref_jobs (any : Bool) (l : List S46) (hl : l.length ≤ 60) (hjs : ∀ x ∈ l, x.f1.length ≤ 300) : ∃ k, marlinspikeref07_Jobs.f k any l = some (sorted (allJobs l)) := by
  obtain ⟨m, hm⟩ := ref_l0 any l hl hjs l.length 0 [] (by omega) (by simp)
  refine ⟨0 + m, ?_⟩
  unfold marlinspikeref07_Jobs.f
  have := hm 0
  rw [show ((0 : Nat) : Int) = 0 from rfl] at this
  rw [this, List.drop_zero, fold_sorted]
theorem dep_l0 (l : List S52) (hl : l.length ≤ 60) (hjs : ∀ x ∈ l, x.f1.length ≤ 300) : ∀ (d i : Nat) (x3 : List Int) (k : Nat), i + d = l.length → x3.length ≤ 300 * i → d < k →
    dep_Jobs.l0 k x3 l (l.length : Int) i = some (x3 ++ (l.drop i).flatMap (·.f1))
  | 0, i, x3, k, h, hx, hk => by
    obtain ⟨k, rfl⟩ : ∃ q, k = q + 1 := ⟨k - 1, by omega⟩
    simp only [dep_Jobs.l0]
    rw [if_neg (by omega), List.drop_eq_nil_of_le (by omega)]
    simp
  | d + 1, i, x3, k, h, hx, hk => by
    obtain ⟨k, rfl⟩ : ∃ q, k = q + 1 := ⟨k - 1, by omega⟩
    have hi : i < l.length := by omega
    have hj := hjs l[i] (List.getElem_mem _)
    simp only [dep_Jobs.l0]
    rw [if_pos (by omega), if_pos (by omega), if_pos (by omega), rd_getElem l i hi, if_pos (by omega), wrapN (by omega), dep_l0 l hl hjs d (i + 1) _ k (by omega) (by simp; omega) (by omega), List.drop_eq_getElem_cons hi, List.flatMap_cons, List.append_assoc]
theorem dep_jobs (any : Bool) (l : List S52) (hl : l.length ≤ 60) (hjs : ∀ x ∈ l, x.f1.length ≤ 300) : dep_Jobs.f (l.length + 1) any l = some (l.flatMap (·.f1)) := by
  unfold dep_Jobs.f
  have := dep_l0 l hl hjs l.length 0 [] (l.length + 1) (by omega) (by simp) (by omega)
  rw [show ((0 : Nat) : Int) = 0 from rfl] at this
  rw [this]
  simp
end Go.Proofs.YtknbnnpggdegmaaDoor.Jb
end
section
namespace Go.Proofs.YtknbnnpggdegmaaDoor.At
open Go.RowKit Go.Proofs.YtknbnnpggdegmaaDoor.Lib Go.Proofs.YtknbnnpggdegmaaDoorW.PrintWords Go.Proofs.YtknbnnpggdegmaaDoorW.PrintLast Go.Proofs.YtknbnnpggdegmaaDoorW.PrintMore Go.Proofs.YtknbnnpggdegmaaDoor.PD Go.Proofs.YtknbnnpggdegmaaDoor.Mp
set_option linter.unusedVariables false
set_option linter.unusedSimpArgs false
theorem heap46 : Kd.Heap k46 := Kd.heap_iso _ (Kd.heap_pair (Kd.heap_int _) (Kd.heap_slice _ (Kd.heap_int _)))
theorem V46 {w : World} {A : Option Addr} {c : Nat} {l : List S46} (hr : Kd.C k46 w A l.length l) (hc : l.length ≤ c) : Kd.V k46 46 w w.heap.size (fun k => k < w.heap.size) (.slice A l.length c) l := Kd.V_mk hc (Kd.C_F heap46 hr)
structure Fit (l : List S46) (l1 : List S48) : Prop where mk ::
  len : l.length ≤ 9223372036854775807
  jobs : ∀ x ∈ l, x.f1.length ≤ 9223372036854775807
  wf : ∀ x ∈ l, ∀ y ∈ x.f1, (Lit.int .i64 y).wf = true
  len1 : l1.length ≤ 9223372036854775807
  wf1 : ∀ x ∈ l1, (Lit.int .i64 x.f0).wf = true ∧ (Lit.int .i64 x.f1).wf = true
theorem Fit.cv {l : List S46} {l1 : List S48} (h : Fit l l1) : ∀ x ∈ l.map At.cv, ∀ y ∈ x.f1, (Lit.int .i64 y).wf = true := by
  intro x hx
  obtain ⟨z, hz, rfl⟩ := List.mem_map.1 hx
  exact h.wf z hz
end Go.Proofs.YtknbnnpggdegmaaDoor.At
end
