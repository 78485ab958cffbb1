-- Written by wip/tools/pr.py of this repo, over the kit's print tool. Not trusted: Lean checks it.
import Derived.Test.YtknbnnpggdegmaaDoorPDx0
import Derived.Test.YtknbnnpggdegmaaDoorPDx2
namespace Go.Proofs.YtknbnnpggdegmaaDoor.PD
open Go.RowKit Go.Proofs.YtknbnnpggdegmaaDoor.Lib Go.Proofs.YtknbnnpggdegmaaDoorW.PrintWords Go.Proofs.YtknbnnpggdegmaaDoorW.PrintLast Go.Proofs.YtknbnnpggdegmaaDoorW.PrintMore
attribute [local go_sem] max2_int min2_int max_two min_two max_three min_three max_four min_four   -- for this text's walks alone
set_option linter.unusedVariables false
set_option linter.unusedSimpArgs false

/-! ### dep_reader_take: function 43 -/
def dep_reader_take.l0 : Nat → Int → Int → Int → ByteArray → Int → Int → Int → Option (ByteArray × ByteArray × Int × Int × Int)
  | 0, _, _, _, _, _, _, _ => none
  | k + 1, x1, x2, x7, x1000, x1001, x1002, x1003 => if x1001 < (x1000.size : Int) then (if 0 ≤ x1001 then (if (bt x1000 x1001) ≥ x1 then (if (bt x1000 x1001) ≤ x2 then (dep_reader_take.l0 k x1 x2 x7 x1000 (wrap64 (x1001 + 1)) x1002 x1003) else (if 0 ≤ x7 then (if x7 ≤ x1001 then (if x1001 ≤ (x1000.size : Int) then (some (x1000.extract (x7 : Int).toNat (x1001 : Int).toNat, x1000, x1001, x1002, x1003)) else (none)) else (none)) else (none))) else (if 0 ≤ x7 then (if x7 ≤ x1001 then (if x1001 ≤ (x1000.size : Int) then (some (x1000.extract (x7 : Int).toNat (x1001 : Int).toNat, x1000, x1001, x1002, x1003)) else (none)) else (none)) else (none))) else (none)) else (if 0 ≤ x7 then (if x7 ≤ x1001 then (if x1001 ≤ (x1000.size : Int) then (some (x1000.extract (x7 : Int).toNat (x1001 : Int).toNat, x1000, x1001, x1002, x1003)) else (none)) else (none)) else (none))
def dep_reader_take.f (k : Nat) (s0_0 : ByteArray) (s0_1 : Int) (s0_2 : Int) (s0_3 : Int) (a1 : Int) (a2 : Int) : Option (ByteArray × ByteArray × Int × Int × Int) := dep_reader_take.l0 k a1 a2 s0_1 s0_0 s0_1 s0_2 s0_3
theorem dep_reader_take.mono_l : ∀ k, (∀ y0 y1 y2 y3 y4 y5 y6, LeO (dep_reader_take.l0 k y0 y1 y2 y3 y4 y5 y6) (dep_reader_take.l0 (k + 1) y0 y1 y2 y3 y4 y5 y6))
  | 0 => fun _ _ _ _ _ _ _ r h => by simp [dep_reader_take.l0] at h
  | k + 1 => by
    have ih0 := dep_reader_take.mono_l k
    · intro y0 y1 y2 y3 y4 y5 y6
      unfold dep_reader_take.l0
      repeat' first
      | (with_reducible exact ih0 _ _ _ _ _ _ _)
      | (with_reducible exact LeO.refl _)
      | (with_reducible exact LeO.none _)
      | (with_reducible refine LeO.ite ?_ ?_)
      | (with_reducible refine LeO.bind ?_ (fun _ => ?_))
      | exact ih0 _ _ _ _ _ _ _
      | exact LeO.none _
      | refine LeO.ite ?_ ?_
      | refine LeO.bind ?_ (fun _ => ?_)
theorem dep_reader_take.mono : ∀ a0 a1 a2 a3 a4 a5 k, LeO (dep_reader_take.f k a0 a1 a2 a3 a4 a5) (dep_reader_take.f (k + 1) a0 a1 a2 a3 a4 a5) := by
  intro a0 a1 a2 a3 a4 a5 k
  have ih0 := dep_reader_take.mono_l k
  unfold dep_reader_take.f
  repeat' first
      | (with_reducible exact ih0 _ _ _ _ _ _ _)
      | (with_reducible exact LeO.refl _)
      | (with_reducible exact LeO.none _)
      | (with_reducible refine LeO.ite ?_ ?_)
      | (with_reducible refine LeO.bind ?_ (fun _ => ?_))
      | exact ih0 _ _ _ _ _ _ _
      | exact LeO.none _
      | refine LeO.ite ?_ ?_
      | refine LeO.bind ?_ (fun _ => ?_)
set_option maxHeartbeats 8000000 in
set_option maxRecDepth 100000 in
theorem dep_reader_take.calls (k : Nat) (g : Nat) (s0_0 : ByteArray) (s0_1 : Int) (s0_2 : Int) (s0_3 : Int) (a1 : Int) (a2 : Int) (r1 : ByteArray) (r2 : ByteArray) (r3 : Int) (r4 : Int) (r5 : Int) (w0 w : World) (hI : IsS71 w0 w g s0_0 s0_1 s0_2 s0_3) (hB : Below w0.heap.size w0 w) (h : dep_reader_take.f k s0_0 s0_1 s0_2 s0_3 a1 a2 = some (r1, r2, r3, r4, r5)) :
    Calls Tryd.prog 43 #[.pointer (some ⟨g, 0, none⟩), .int .u8 a1, .int .u8 a2] w fun e w' => e = .returned (.string r1) ∧ IsS71 w0 w' g r2 r3 r4 r5 ∧ Below w0.heap.size w0 w' ∧ KeepBut w w' g none := by
  have HI0 := Aside0.mk hI
  have HK := Aside0.mk (KeepBut.refl w g none)
  have HL := Aside0.mk hB.size
  clear hI
  have HW0 := Aside0.mk hB.size
  have HB := Aside0.mk hB
  clear hB
  have H : (dep_reader_take.l0 k a1 a2 s0_1 s0_0 s0_1 s0_2 s0_3) = some (r1, r2, r3, r4, r5) := h
  clear h
  have H' := Aside0.mk H
  clear H
  obtain ⟨HGz4, hgz4⟩ := HI0.out
  have hcz4_0 := cellS71_0 HGz4
  have hcz4_1 := cellS71_1 HGz4
  have hcz4_2 := cellS71_2 HGz4
  have hcz4_3 := cellS71_3 HGz4
  have hfz4_0 := blk_frozen HGz4 0
  have hfz4_1 := blk_frozen HGz4 1
  have hfz4_2 := blk_frozen HGz4 2
  have hfz4_3 := blk_frozen HGz4 3
  clear HGz4 hgz4
  go_enter Tryd.func43, Tryd.ntmps43
  go_wp2
  repeat (go_quiet (fail); try go_wp2)
  go_loopg [] k (fun kq w' => ∃ (x1001_1 : Int), Aside0 (dep_reader_take.l0 kq a1 a2 s0_1 s0_0 x1001_1 s0_2 s0_3 = some (r1, r2, r3, r4, r5)) ∧ Aside0 (kq ≤ k) ∧ Aside0 (IsS71 w0 w' g s0_0 x1001_1 s0_2 s0_3) ∧ Aside0 (KeepBut w w' g none) ∧ Aside0 (Below w0.heap.size w0 w'))
  case atStart => exact ⟨(s0_1), H', ⟨Nat.le_refl _⟩, ⟨by repeat (first | (with_reducible first | exact HI0.out | apply IsS71.alloc | apply IsS71.drewN | apply IsS71.drew | apply IsS71.set_0 | apply IsS71.set_1 | apply IsS71.set_2 | apply IsS71.set_3) | exact HI0.out)⟩, ⟨by repeat (first | (with_reducible first | exact HK.out | apply KeepBut.set_ | apply keep_drewN | apply keep_drew | apply keep_alloc) | exact HK.out)⟩, ⟨by repeat (first | (with_reducible first | exact HB.out | apply below_alloc | apply pw_below_drewN | apply below_drew1 | refine below_set ?_ (IsS71.ge HI0.out)) | exact HB.out)⟩⟩
  case round =>
    clear H'
    try clear p2
    try clear c4
    try clear hcz4_0
    try clear hcz4_1
    try clear hcz4_2
    try clear hcz4_3
    try clear hfz4_0
    try clear hfz4_1
    try clear hfz4_2
    try clear hfz4_3
    obtain ⟨x1001_1, HA, HK1, HI0, HK, HB⟩ := hrel
    cases gk with
    | zero => exact absurd HA.out (by simp [dep_reader_take.l0])
    | succ k1 =>
      have H := HA.out
      clear HA
      simp only [dep_reader_take.l0] at H
      by_cases c5 : x1001_1 < (s0_0.size : Int)
      · rw [if_pos c5] at H
        have c5b0 : decide (x1001_1 < (s0_0.size : Int)) = true := decide_eq_true c5
        clear c5
        by_cases c6 : 0 ≤ x1001_1
        · rw [if_pos c6] at H
          have c6b0 : decide (0 ≤ x1001_1) = true := decide_eq_true c6
          clear c6
          by_cases c8 : (bt s0_0 x1001_1) ≥ a1
          · rw [if_pos c8] at H
            have c8b0 : decide (a1 ≤ (bt s0_0 x1001_1)) = true := decide_eq_true c8
            clear c8
            by_cases c10 : (bt s0_0 x1001_1) ≤ a2
            · rw [if_pos c10] at H
              have c10b0 : decide ((bt s0_0 x1001_1) ≤ a2) = true := decide_eq_true c10
              clear c10
              have H' := Aside0.mk H
              clear H
              obtain ⟨HGz11, hgz11⟩ := HI0.out
              have hcz11_0 := cellS71_0 HGz11
              have hcz11_1 := cellS71_1 HGz11
              have hcz11_2 := cellS71_2 HGz11
              have hcz11_3 := cellS71_3 HGz11
              have hfz11_0 := blk_frozen HGz11 0
              have hfz11_1 := blk_frozen HGz11 1
              have hfz11_2 := blk_frozen HGz11 2
              have hfz11_3 := blk_frozen HGz11 3
              clear HGz11 hgz11
              have p7 : 0 ≤ (x1001_1 : Int) := of_decide_eq_true (by first | (with_reducible assumption) | assumption)
              have q7 : x1001_1 < (s0_0.size : Int) := of_decide_eq_true (by first | (with_reducible assumption) | assumption)
              have hx7 := bt_at s0_0 x1001_1
              replace p7 := eq_true p7
              replace q7 := eq_true q7
              have p9 : 0 ≤ (x1001_1 : Int) := of_decide_eq_true (by first | (with_reducible assumption) | assumption)
              have q9 : x1001_1 < (s0_0.size : Int) := of_decide_eq_true (by first | (with_reducible assumption) | assumption)
              have hx9 := bt_at s0_0 x1001_1
              replace p9 := eq_true p9
              replace q9 := eq_true q9
              go_wp2
              repeat (go_quiet (fail); try go_wp2)
              go_roundg k1
              case measure => have := HK1.out; omega
              case rel => exact ⟨(wrap64 (x1001_1 + 1)), H', ⟨by have := HK1.out; omega⟩, ⟨by repeat (first | (with_reducible first | exact HI0.out | apply IsS71.alloc | apply IsS71.drewN | apply IsS71.drew | apply IsS71.set_0 | apply IsS71.set_1 | apply IsS71.set_2 | apply IsS71.set_3) | exact HI0.out)⟩, ⟨by repeat (first | (with_reducible first | exact HK.out | apply KeepBut.set_ | apply keep_drewN | apply keep_drew | apply keep_alloc) | exact HK.out)⟩, ⟨by repeat (first | (with_reducible first | exact HB.out | apply below_alloc | apply pw_below_drewN | apply below_drew1 | refine below_set ?_ (IsS71.ge HI0.out)) | exact HB.out)⟩⟩
            · rw [if_neg c10] at H
              have c10b0 : decide ((bt s0_0 x1001_1) ≤ a2) = false := decide_eq_false c10
              clear c10
              by_cases c12 : 0 ≤ s0_1
              · rw [if_pos c12] at H
                have c12b0 := eq_true c12
                have c12b1 : decide (0 ≤ s0_1) = true := decide_eq_true c12
                clear c12
                by_cases c13 : s0_1 ≤ x1001_1
                · rw [if_pos c13] at H
                  have c13b0 := eq_true c13
                  have c13b1 : decide (s0_1 ≤ x1001_1) = true := decide_eq_true c13
                  clear c13
                  by_cases c14 : x1001_1 ≤ (s0_0.size : Int)
                  · rw [if_pos c14] at H
                    have c14b0 := eq_true c14
                    have c14b1 : decide (x1001_1 ≤ (s0_0.size : Int)) = true := decide_eq_true c14
                    clear c14
                    simp only [Option.some.injEq, Prod.mk.injEq] at H
                    obtain ⟨rfl, rfl, rfl, rfl, rfl⟩ := H
                    obtain ⟨HGz15, hgz15⟩ := HI0.out
                    have hcz15_0 := cellS71_0 HGz15
                    have hcz15_1 := cellS71_1 HGz15
                    have hcz15_2 := cellS71_2 HGz15
                    have hcz15_3 := cellS71_3 HGz15
                    have hfz15_0 := blk_frozen HGz15 0
                    have hfz15_1 := blk_frozen HGz15 1
                    have hfz15_2 := blk_frozen HGz15 2
                    have hfz15_3 := blk_frozen HGz15 3
                    clear HGz15 hgz15
                    have p7 : 0 ≤ (x1001_1 : Int) := of_decide_eq_true (by first | (with_reducible assumption) | assumption)
                    have q7 : x1001_1 < (s0_0.size : Int) := of_decide_eq_true (by first | (with_reducible assumption) | assumption)
                    have hx7 := bt_at s0_0 x1001_1
                    replace p7 := eq_true p7
                    replace q7 := eq_true q7
                    have p9 : 0 ≤ (x1001_1 : Int) := of_decide_eq_true (by first | (with_reducible assumption) | assumption)
                    have q9 : x1001_1 < (s0_0.size : Int) := of_decide_eq_true (by first | (with_reducible assumption) | assumption)
                    have hx9 := bt_at s0_0 x1001_1
                    replace p9 := eq_true p9
                    replace q9 := eq_true q9
                    go_wp2
                    repeat (go_quiet (fail); try go_wp2)
                    go_ret
                    exact ⟨by first | rfl | (simp [errW_none, errW_some] <;> rfl) | (simp [*, errW_none, errW_some] <;> rfl), by repeat (first | (with_reducible first | exact HI0.out | apply IsS71.alloc | apply IsS71.drewN | apply IsS71.drew | apply IsS71.set_0 | apply IsS71.set_1 | apply IsS71.set_2 | apply IsS71.set_3) | exact HI0.out), by repeat (first | (with_reducible first | exact HB.out | apply below_alloc | apply pw_below_drewN | apply below_drew1 | refine below_set ?_ (IsS71.ge HI0.out)) | exact HB.out), by repeat (first | (with_reducible first | exact HK.out | apply KeepBut.set_ | apply keep_drewN | apply keep_drew | apply keep_alloc) | exact HK.out)⟩
                  · rw [if_neg c14] at H
                    exact absurd H (by simp)
                · rw [if_neg c13] at H
                  exact absurd H (by simp)
              · rw [if_neg c12] at H
                exact absurd H (by simp)
          · rw [if_neg c8] at H
            have c8b0 : decide (a1 ≤ (bt s0_0 x1001_1)) = false := decide_eq_false c8
            clear c8
            by_cases c16 : 0 ≤ s0_1
            · rw [if_pos c16] at H
              have c16b0 := eq_true c16
              have c16b1 : decide (0 ≤ s0_1) = true := decide_eq_true c16
              clear c16
              by_cases c17 : s0_1 ≤ x1001_1
              · rw [if_pos c17] at H
                have c17b0 := eq_true c17
                have c17b1 : decide (s0_1 ≤ x1001_1) = true := decide_eq_true c17
                clear c17
                by_cases c18 : x1001_1 ≤ (s0_0.size : Int)
                · rw [if_pos c18] at H
                  have c18b0 := eq_true c18
                  have c18b1 : decide (x1001_1 ≤ (s0_0.size : Int)) = true := decide_eq_true c18
                  clear c18
                  simp only [Option.some.injEq, Prod.mk.injEq] at H
                  obtain ⟨rfl, rfl, rfl, rfl, rfl⟩ := H
                  obtain ⟨HGz19, hgz19⟩ := HI0.out
                  have hcz19_0 := cellS71_0 HGz19
                  have hcz19_1 := cellS71_1 HGz19
                  have hcz19_2 := cellS71_2 HGz19
                  have hcz19_3 := cellS71_3 HGz19
                  have hfz19_0 := blk_frozen HGz19 0
                  have hfz19_1 := blk_frozen HGz19 1
                  have hfz19_2 := blk_frozen HGz19 2
                  have hfz19_3 := blk_frozen HGz19 3
                  clear HGz19 hgz19
                  have p7 : 0 ≤ (x1001_1 : Int) := of_decide_eq_true (by first | (with_reducible assumption) | assumption)
                  have q7 : x1001_1 < (s0_0.size : Int) := of_decide_eq_true (by first | (with_reducible assumption) | assumption)
                  have hx7 := bt_at s0_0 x1001_1
                  replace p7 := eq_true p7
                  replace q7 := eq_true q7
                  go_wp2
                  repeat (go_quiet (fail); try go_wp2)
                  go_ret
                  exact ⟨by first | rfl | (simp [errW_none, errW_some] <;> rfl) | (simp [*, errW_none, errW_some] <;> rfl), by repeat (first | (with_reducible first | exact HI0.out | apply IsS71.alloc | apply IsS71.drewN | apply IsS71.drew | apply IsS71.set_0 | apply IsS71.set_1 | apply IsS71.set_2 | apply IsS71.set_3) | exact HI0.out), by repeat (first | (with_reducible first | exact HB.out | apply below_alloc | apply pw_below_drewN | apply below_drew1 | refine below_set ?_ (IsS71.ge HI0.out)) | exact HB.out), by repeat (first | (with_reducible first | exact HK.out | apply KeepBut.set_ | apply keep_drewN | apply keep_drew | apply keep_alloc) | exact HK.out)⟩
                · rw [if_neg c18] at H
                  exact absurd H (by simp)
              · rw [if_neg c17] at H
                exact absurd H (by simp)
            · rw [if_neg c16] at H
              exact absurd H (by simp)
        · rw [if_neg c6] at H
          exact absurd H (by simp)
      · rw [if_neg c5] at H
        have c5b0 : decide (x1001_1 < (s0_0.size : Int)) = false := decide_eq_false c5
        clear c5
        by_cases c20 : 0 ≤ s0_1
        · rw [if_pos c20] at H
          have c20b0 := eq_true c20
          have c20b1 : decide (0 ≤ s0_1) = true := decide_eq_true c20
          clear c20
          by_cases c21 : s0_1 ≤ x1001_1
          · rw [if_pos c21] at H
            have c21b0 := eq_true c21
            have c21b1 : decide (s0_1 ≤ x1001_1) = true := decide_eq_true c21
            clear c21
            by_cases c22 : x1001_1 ≤ (s0_0.size : Int)
            · rw [if_pos c22] at H
              have c22b0 := eq_true c22
              have c22b1 : decide (x1001_1 ≤ (s0_0.size : Int)) = true := decide_eq_true c22
              clear c22
              simp only [Option.some.injEq, Prod.mk.injEq] at H
              obtain ⟨rfl, rfl, rfl, rfl, rfl⟩ := H
              obtain ⟨HGz23, hgz23⟩ := HI0.out
              have hcz23_0 := cellS71_0 HGz23
              have hcz23_1 := cellS71_1 HGz23
              have hcz23_2 := cellS71_2 HGz23
              have hcz23_3 := cellS71_3 HGz23
              have hfz23_0 := blk_frozen HGz23 0
              have hfz23_1 := blk_frozen HGz23 1
              have hfz23_2 := blk_frozen HGz23 2
              have hfz23_3 := blk_frozen HGz23 3
              clear HGz23 hgz23
              go_wp2
              repeat (go_quiet (fail); try go_wp2)
              go_ret
              exact ⟨by first | rfl | (simp [errW_none, errW_some] <;> rfl) | (simp [*, errW_none, errW_some] <;> rfl), by repeat (first | (with_reducible first | exact HI0.out | apply IsS71.alloc | apply IsS71.drewN | apply IsS71.drew | apply IsS71.set_0 | apply IsS71.set_1 | apply IsS71.set_2 | apply IsS71.set_3) | exact HI0.out), by repeat (first | (with_reducible first | exact HB.out | apply below_alloc | apply pw_below_drewN | apply below_drew1 | refine below_set ?_ (IsS71.ge HI0.out)) | exact HB.out), by repeat (first | (with_reducible first | exact HK.out | apply KeepBut.set_ | apply keep_drewN | apply keep_drew | apply keep_alloc) | exact HK.out)⟩
            · rw [if_neg c22] at H
              exact absurd H (by simp)
          · rw [if_neg c21] at H
            exact absurd H (by simp)
        · rw [if_neg c20] at H
          exact absurd H (by simp)

end Go.Proofs.YtknbnnpggdegmaaDoor.PD
