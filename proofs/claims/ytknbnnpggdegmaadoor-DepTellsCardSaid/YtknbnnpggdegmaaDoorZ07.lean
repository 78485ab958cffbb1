/- Part 7 of the proof of DepTellsCardSaid. -/
import Derived.Lib.ItoaNum
import Derived.Lib.AtoiAll
import Derived.Test.YtknbnnpggdegmaaDoorZ01
import Derived.Lib.Strings
import Derived.Test.YtknbnnpggdegmaaDoorZ06
import Derived.Test.YtknbnnpggdegmaaDoorZ04
import Derived.Maps.OwnSet
import Derived.Maps.OwnOps
import Derived.WalkKit
import Derived.KernelRfl
import Derived.Deep.Draws
section
set_option linter.unusedVariables false
set_option linter.unusedSimpArgs false
namespace Go.Proofs.YtknbnnpggdegmaaDoor.Num
end Go.Proofs.YtknbnnpggdegmaaDoor.Num
end
section
set_option linter.unusedVariables false
set_option linter.unusedSimpArgs false
namespace Go.Proofs.YtknbnnpggdegmaaDoor.Txt
open Go.RowKit Go.Proofs.YtknbnnpggdegmaaDoorW.PrintWords
def L (s : ByteArray) : List UInt8 := s.data.toList
theorem L_length (s : ByteArray) : (L s).length = s.size := by show s.data.toList.length = s.data.size; exact Array.length_toList
theorem L_inj {s t : ByteArray} (h : L s = L t) : s = t := by
  cases s; cases t; congr 1; exact Array.toList_inj.1 h
theorem L_mk (l : List UInt8) : L ⟨l.toArray⟩ = l := by simp [L]
theorem L_append (s t : ByteArray) : L (s ++ t) = L s ++ L t := by simp [L]
def run (f : UInt8 → Bool) (l : List UInt8) (p : Nat) : Nat := p + ((l.drop p).takeWhile f).length
end Go.Proofs.YtknbnnpggdegmaaDoor.Txt
end
section
namespace Go.Proofs.YtknbnnpggdegmaaDoor.Tx
open Go.RowKit Go.Proofs.YtknbnnpggdegmaaDoorW.PrintWords Go.Proofs.YtknbnnpggdegmaaDoor.PD Go.Proofs.YtknbnnpggdegmaaDoor.Lib Go.Proofs.YtknbnnpggdegmaaDoor.Num Go.Proofs.YtknbnnpggdegmaaDoor.Txt
set_option linter.unusedVariables false
set_option linter.unusedSimpArgs false
def inr (lo hi : Nat) (c : UInt8) : Bool := decide (lo ≤ c.toNat) && decide (c.toNat ≤ hi)
def wordL : Nat → List UInt8
  | 1 => [97, 102, 116, 101, 114]
  | 2 => [97, 102, 116, 101, 114, 111, 107]
  | 3 => [97, 102, 116, 101, 114, 110, 111, 116, 111, 107]
  | 4 => [97, 102, 116, 101, 114, 97, 110, 121]
  | 5 => [115, 105, 110, 103, 108, 101, 116, 111, 110]
  | _ => [63]
end Go.Proofs.YtknbnnpggdegmaaDoor.Tx
end
section
namespace Go.Proofs.YtknbnnpggdegmaaDoor.PD
open Go.RowKit Go.Proofs.YtknbnnpggdegmaaDoor.Lib Go.Proofs.YtknbnnpggdegmaaDoorW.PrintWords Go.Proofs.YtknbnnpggdegmaaDoorW.PrintLast Go.Proofs.YtknbnnpggdegmaaDoorW.PrintMore
attribute [local go_sem] max2_int min2_int max_two min_two max_three min_three max_four min_four   
set_option linter.unusedVariables false
set_option linter.unusedSimpArgs false
def dep_Ended.f (a0 : Int) : Option (Bool) := if a0 ≥ 3 then (some (decide (a0 ≤ 6))) else (some false)
set_option maxHeartbeats 8000000 in
set_option maxRecDepth 100000 in
theorem dep_Ended.calls (a0 : Int) (r : Bool) (w : World) (h : dep_Ended.f a0 = some r) :
    Calls Tryd.prog 23 #[.int .i64 a0] w fun e w' => e = .returned (.bool r) ∧ Drawn0 w w' := by
  have H : (if a0 ≥ 3 then (some (decide (a0 ≤ 6))) else (some false)) = some r := h
  clear h
  by_cases c2 : a0 ≥ 3
  · rw [if_pos c2] at H
    have c2b0 : decide (3 ≤ a0) = true := decide_eq_true c2
    clear c2
    obtain rfl := Option.some.inj H
    go_enter Tryd.func23, Tryd.ntmps23
    go_wp2
    go_ret
    exact ⟨by first | rfl | (simp; done) | (simp [*]; done), by repeat (first | exact Drawn0.refl _ | apply Drawn0.step)⟩
  · rw [if_neg c2] at H
    have c2b0 : decide (3 ≤ a0) = false := decide_eq_false c2
    clear c2
    obtain rfl := Option.some.inj H
    go_enter Tryd.func23, Tryd.ntmps23
    go_wp2
    go_ret
    exact ⟨by first | rfl | (simp; done) | (simp [*]; done), by repeat (first | exact Drawn0.refl _ | apply Drawn0.step)⟩
def dep_One.j0 : Nat → Int → Bool → Option (Int)
  | 0, _, _ => none
  | k + 1, x1, x5 => if x5 = true then (some 1) else ((dep_Ended.f x1).bind fun t193 => (if t193 = true then (some 2) else (if x1 = 7 then (some 2) else (some 0))))
def dep_One.f (k : Nat) (a0 : Int) (a1 : Int) : Option (Int) := if a0 = 1 then (if a1 = 2 then (dep_One.j0 k a1 true) else ((dep_Ended.f a1).bind fun t191 => (dep_One.j0 k a1 t191))) else (if a0 = 2 then (dep_One.j0 k a1 (a1 == 3)) else (if a0 = 3 then (if a1 = 4 then (dep_One.j0 k a1 true) else (dep_One.j0 k a1 (a1 == 6))) else (if a0 = 4 then ((dep_Ended.f a1).bind fun t192 => (dep_One.j0 k a1 t192)) else (some 0))))
theorem dep_One.mono_l : ∀ k, (∀ y0 y1, LeO (dep_One.j0 k y0 y1) (dep_One.j0 (k + 1) y0 y1))
  | 0 => fun _ _ r h => by simp [dep_One.j0] at h
  | k + 1 => by
    have ih0 := dep_One.mono_l k
    · intro y0 y1
      unfold dep_One.j0
      repeat' first
      | (with_reducible exact ih0 _ _)
      | (with_reducible exact LeO.refl _)
      | (with_reducible exact LeO.none _)
      | (with_reducible refine LeO.ite ?_ ?_)
      | (with_reducible refine LeO.bind ?_ (fun _ => ?_))
      | exact ih0 _ _
      | exact LeO.none _
      | refine LeO.ite ?_ ?_
      | refine LeO.bind ?_ (fun _ => ?_)
theorem dep_One.mono : ∀ a0 a1 k, LeO (dep_One.f k a0 a1) (dep_One.f (k + 1) a0 a1) := by
  intro a0 a1 k
  have ih0 := dep_One.mono_l k
  unfold dep_One.f
  repeat' first
      | (with_reducible exact ih0 _ _)
      | (with_reducible exact LeO.refl _)
      | (with_reducible exact LeO.none _)
      | (with_reducible refine LeO.ite ?_ ?_)
      | (with_reducible refine LeO.bind ?_ (fun _ => ?_))
      | exact ih0 _ _
      | exact LeO.none _
      | refine LeO.ite ?_ ?_
      | refine LeO.bind ?_ (fun _ => ?_)
set_option maxHeartbeats 8000000 in
set_option maxRecDepth 100000 in
theorem dep_One.calls (k : Nat) (a0 : Int) (a1 : Int) (r : Int) (w : World) (h : dep_One.f k a0 a1 = some r) :
    Calls Tryd.prog 24 #[.int .i64 a0, .int .i64 a1] w fun e w' => e = .returned (.int .i64 r) ∧ Drawn0 w w' := by
  have H : (if a0 = 1 then (if a1 = 2 then (dep_One.j0 k a1 true) else ((dep_Ended.f a1).bind fun t191 => (dep_One.j0 k a1 t191))) else (if a0 = 2 then (dep_One.j0 k a1 (a1 == 3)) else (if a0 = 3 then (if a1 = 4 then (dep_One.j0 k a1 true) else (dep_One.j0 k a1 (a1 == 6))) else (if a0 = 4 then ((dep_Ended.f a1).bind fun t192 => (dep_One.j0 k a1 t192)) else (some 0))))) = some r := h
  clear h
  have HC3 := Aside0.mk H
  clear H
  go_enter Tryd.func24, Tryd.ntmps24
  go_upto_block 0 with (fail)
  go_cut [5] (fun v5 wc => ∃ (kq : Nat) (x5_2 : Bool), v5 = .bool x5_2 ∧ Aside0 (dep_One.j0 kq a1 x5_2 = some r) ∧ Aside0 (kq ≤ k) ∧ Drawn0 w wc)
  case first =>
    have H := HC3.out
    clear HC3
    by_cases c4 : a0 = 1
    · rw [if_pos c4] at H
      have c4b0 : (a0 == 1) = true := beq_iff_eq.mpr c4
      have c4b1 : (a0 != 1) = false := bne_eq_false_iff_eq.mpr c4
      clear c4
      (first | rw [c4b0] | (simp only [i64_w, i32_w]; rw [c4b0]) | skip)
      by_cases c5 : a1 = 2
      · rw [if_pos c5] at H
        have c5b0 : (a1 == 2) = true := beq_iff_eq.mpr c5
        have c5b1 : (a1 != 2) = false := bne_eq_false_iff_eq.mpr c5
        clear c5
        have H' := Aside0.mk H
        clear H
        go_wp2
        go_meet
        case rel => exact ⟨_, (true), (by first | rfl | (simp; done) | (simp [*]; done)), H', ⟨by first | omega | exact Nat.le_refl _⟩, by repeat (first | exact Drawn0.refl _ | apply Drawn0.step)⟩
      · rw [if_neg c5] at H
        have c5b0 : (a1 == 2) = false := beq_eq_false_iff_ne.mpr c5
        have c5b1 : (a1 != 2) = true := bne_iff_ne.mpr c5
        replace H := Option.bind_eq_some_iff.mp H
        obtain ⟨t191, A60, H⟩ := H
        replace H : (dep_One.j0 k a1 t191) = some r := H
        have A6 := Aside0.mk A60
        clear A60
        have H' := Aside0.mk H
        clear H
        go_wp2_with (first | (go_at_call 23; (with_reducible refine (dep_Ended.calls a1 t191 _ A6.out).mono ?_); rintro e w' ⟨rfl, ⟨nd, rfl⟩⟩))
        go_meet
        case rel => exact ⟨_, (t191), (by first | rfl | (simp; done) | (simp [*]; done)), H', ⟨by first | omega | exact Nat.le_refl _⟩, by repeat (first | exact Drawn0.refl _ | apply Drawn0.step)⟩
    · rw [if_neg c4] at H
      have c4b0 : (a0 == 1) = false := beq_eq_false_iff_ne.mpr c4
      have c4b1 : (a0 != 1) = true := bne_iff_ne.mpr c4
      (first | rw [c4b0] | (simp only [i64_w, i32_w]; rw [c4b0]) | skip)
      by_cases c7 : a0 = 2
      · rw [if_pos c7] at H
        have c7b0 : (a0 == 2) = true := beq_iff_eq.mpr c7
        have c7b1 : (a0 != 2) = false := bne_eq_false_iff_eq.mpr c7
        clear c7
        have H' := Aside0.mk H
        clear H
        go_wp2
        go_meet
        case rel => exact ⟨_, ((a1 == 3)), (by first | rfl | (simp; done) | (simp [*]; done)), H', ⟨by first | omega | exact Nat.le_refl _⟩, by repeat (first | exact Drawn0.refl _ | apply Drawn0.step)⟩
      · rw [if_neg c7] at H
        have c7b0 : (a0 == 2) = false := beq_eq_false_iff_ne.mpr c7
        have c7b1 : (a0 != 2) = true := bne_iff_ne.mpr c7
        by_cases c8 : a0 = 3
        · rw [if_pos c8] at H
          have c8b0 : (a0 == 3) = true := beq_iff_eq.mpr c8
          have c8b1 : (a0 != 3) = false := bne_eq_false_iff_eq.mpr c8
          clear c8
          by_cases c9 : a1 = 4
          · rw [if_pos c9] at H
            have c9b0 : (a1 == 4) = true := beq_iff_eq.mpr c9
            have c9b1 : (a1 != 4) = false := bne_eq_false_iff_eq.mpr c9
            clear c9
            have H' := Aside0.mk H
            clear H
            go_wp2
            go_meet
            case rel => exact ⟨_, (true), (by first | rfl | (simp; done) | (simp [*]; done)), H', ⟨by first | omega | exact Nat.le_refl _⟩, by repeat (first | exact Drawn0.refl _ | apply Drawn0.step)⟩
          · rw [if_neg c9] at H
            have c9b0 : (a1 == 4) = false := beq_eq_false_iff_ne.mpr c9
            have c9b1 : (a1 != 4) = true := bne_iff_ne.mpr c9
            have H' := Aside0.mk H
            clear H
            go_wp2
            go_meet
            case rel => exact ⟨_, ((a1 == 6)), (by first | rfl | (simp; done) | (simp [*]; done)), H', ⟨by first | omega | exact Nat.le_refl _⟩, by repeat (first | exact Drawn0.refl _ | apply Drawn0.step)⟩
        · rw [if_neg c8] at H
          have c8b0 : (a0 == 3) = false := beq_eq_false_iff_ne.mpr c8
          have c8b1 : (a0 != 3) = true := bne_iff_ne.mpr c8
          by_cases c10 : a0 = 4
          · rw [if_pos c10] at H
            have c10b0 : (a0 == 4) = true := beq_iff_eq.mpr c10
            have c10b1 : (a0 != 4) = false := bne_eq_false_iff_eq.mpr c10
            clear c10
            replace H := Option.bind_eq_some_iff.mp H
            obtain ⟨t192, A110, H⟩ := H
            replace H : (dep_One.j0 k a1 t192) = some r := H
            have A11 := Aside0.mk A110
            clear A110
            have H' := Aside0.mk H
            clear H
            go_wp2_with (first | ((with_reducible refine gate_callee (f := 23) rfl ?_); refine goesL_ (some 30) rfl rfl Tryd.func23 (by kernel_rfl) rfl #[.int .i64 a1] rfl (by (try simp only [List.map_toArray, List.map_cons, List.map_nil]); first | done | rfl | (simp only [List.length_drop, List.length_take]; rfl)) ?_; (with_reducible refine (dep_Ended.calls a1 t192 _ A11.out).mono ?_); rintro e w' ⟨rfl, ⟨nd, rfl⟩⟩; refine ⟨_, rfl, ?_⟩))
            go_meet
            case rel => exact ⟨_, (t192), (by first | rfl | (simp; done) | (simp [*]; done)), H', ⟨by first | omega | exact Nat.le_refl _⟩, by repeat (first | exact Drawn0.refl _ | apply Drawn0.step)⟩
          · rw [if_neg c10] at H
            have c10b0 : (a0 == 4) = false := beq_eq_false_iff_ne.mpr c10
            have c10b1 : (a0 != 4) = true := bne_iff_ne.mpr c10
            obtain rfl := Option.some.inj H
            go_wp2
            go_ret
            exact ⟨by first | rfl | (simp; done) | (simp [*]; done), by repeat (first | exact Drawn0.refl _ | apply Drawn0.step)⟩
  case rest =>
    clear HC3
    try clear c1
    try clear c2
    try clear p2
    try clear c4
    try clear c4b0
    try clear c4b1
    try clear c5
    try clear c5b0
    try clear c5b1
    try clear c7
    try clear c7b0
    try clear c7b1
    try clear c8
    try clear c8b0
    try clear c8b1
    try clear c9
    try clear c9b0
    try clear c9b1
    try clear c10
    try clear c10b0
    try clear c10b1
    obtain ⟨kq, x5_2, rfl, HA, HJ2, ⟨mc2, rfl⟩⟩ := hcut
    cases kq with
    | zero => exact absurd HA.out (by simp [dep_One.j0])
    | succ kj2 =>
      have H := HA.out
      clear HA
      simp only [dep_One.j0] at H
      by_cases c12 : x5_2 = true
      · subst c12
        have H1 : (some 1) = some r := by rw [if_pos rfl] at H; exact H
        clear H
        have H := H1
        clear H1
        obtain rfl := Option.some.inj H
        go_wp2
        go_ret
        exact ⟨by first | rfl | (simp; done) | (simp [*]; done), by repeat (first | exact Drawn0.refl _ | apply Drawn0.step)⟩
      · replace c12 := Bool.eq_false_iff.mpr c12
        subst c12
        have H1 : ((dep_Ended.f a1).bind fun t193 => (if t193 = true then (some 2) else (if a1 = 7 then (some 2) else (some 0)))) = some r := by rw [if_neg (show ¬ (false = true) by decide)] at H; exact H
        clear H
        have H := H1
        clear H1
        replace H := Option.bind_eq_some_iff.mp H
        obtain ⟨t193, A130, H⟩ := H
        replace H : (if t193 = true then (some 2) else (if a1 = 7 then (some 2) else (some 0))) = some r := H
        have A13 := Aside0.mk A130
        clear A130
        by_cases c14 : t193 = true
        · subst c14
          have H1 : (some 2) = some r := by rw [if_pos rfl] at H; exact H
          clear H
          have H := H1
          clear H1
          obtain rfl := Option.some.inj H
          go_wp2_with (first | ((with_reducible refine gate_callee (f := 23) rfl ?_); refine goesL_ (some 33) rfl rfl Tryd.func23 (by kernel_rfl) rfl #[.int .i64 a1] rfl (by (try simp only [List.map_toArray, List.map_cons, List.map_nil]); first | done | rfl | (simp only [List.length_drop, List.length_take]; rfl)) ?_; (with_reducible refine (dep_Ended.calls a1 true _ A13.out).mono ?_); rintro e w' ⟨rfl, ⟨nd, rfl⟩⟩; refine ⟨_, rfl, ?_⟩))
          go_ret
          exact ⟨by first | rfl | (simp; done) | (simp [*]; done), by repeat (first | exact Drawn0.refl _ | apply Drawn0.step)⟩
        · replace c14 := Bool.eq_false_iff.mpr c14
          subst c14
          have H1 : (if a1 = 7 then (some 2) else (some 0)) = some r := by rw [if_neg (show ¬ (false = true) by decide)] at H; exact H
          clear H
          have H := H1
          clear H1
          by_cases c15 : a1 = 7
          · rw [if_pos c15] at H
            have c15b0 : (a1 == 7) = true := beq_iff_eq.mpr c15
            have c15b1 : (a1 != 7) = false := bne_eq_false_iff_eq.mpr c15
            clear c15
            obtain rfl := Option.some.inj H
            go_wp2_with (first | ((with_reducible refine gate_callee (f := 23) rfl ?_); refine goesL_ (some 33) rfl rfl Tryd.func23 (by kernel_rfl) rfl #[.int .i64 a1] rfl (by (try simp only [List.map_toArray, List.map_cons, List.map_nil]); first | done | rfl | (simp only [List.length_drop, List.length_take]; rfl)) ?_; (with_reducible refine (dep_Ended.calls a1 false _ A13.out).mono ?_); rintro e w' ⟨rfl, ⟨nd, rfl⟩⟩; refine ⟨_, rfl, ?_⟩))
            go_ret
            exact ⟨by first | rfl | (simp; done) | (simp [*]; done), by repeat (first | exact Drawn0.refl _ | apply Drawn0.step)⟩
          · rw [if_neg c15] at H
            have c15b0 : (a1 == 7) = false := beq_eq_false_iff_ne.mpr c15
            have c15b1 : (a1 != 7) = true := bne_iff_ne.mpr c15
            obtain rfl := Option.some.inj H
            go_wp2_with (first | ((with_reducible refine gate_callee (f := 23) rfl ?_); refine goesL_ (some 33) rfl rfl Tryd.func23 (by kernel_rfl) rfl #[.int .i64 a1] rfl (by (try simp only [List.map_toArray, List.map_cons, List.map_nil]); first | done | rfl | (simp only [List.length_drop, List.length_take]; rfl)) ?_; (with_reducible refine (dep_Ended.calls a1 false _ A13.out).mono ?_); rintro e w' ⟨rfl, ⟨nd, rfl⟩⟩; refine ⟨_, rfl, ?_⟩))
            go_ret
            exact ⟨by first | rfl | (simp; done) | (simp [*]; done), by repeat (first | exact Drawn0.refl _ | apply Drawn0.step)⟩
def marlinspikelaw07_much.l0 : Nat → Int → List (S46) → Int → Int → Bool → List (S46) → Option (Bool)
  | 0, _, _, _, _, _, _ => none
  | k + 1, x3, x12, x13, x14, x195000, x195001 => if x14 < x13 then (if 0 ≤ x14 then (if x14 < (x12.length : Int) then (marlinspikelaw07_much.l0 k (wrap64 (x3 + (mn (((rd_T46 x12 x14).f1).length : Int) 1000))) x12 x13 (wrap64 (x14 + 1)) x195000 x195001) else (none)) else (none)) else (if (x195001.length : Int) > 60 then (some true) else (some (decide (x3 > 300))))
def marlinspikelaw07_much.f (k : Nat) (a0_0 : Bool) (l0_1 : List (S46)) : Option (Bool) := if 0 ≤ (mn (l0_1.length : Int) 100) then (if (mn (l0_1.length : Int) 100) ≤ (l0_1.length : Int) then ((some (l0_1.take ((mn (l0_1.length : Int) 100) : Int).toNat : List (S46))).bind fun y195 => (marlinspikelaw07_much.l0 k 0 y195 (y195.length : Int) 0 a0_0 l0_1)) else (none)) else (none)
theorem marlinspikelaw07_much.mono_l : ∀ k, (∀ y0 y1 y2 y3 y4 y5, LeO (marlinspikelaw07_much.l0 k y0 y1 y2 y3 y4 y5) (marlinspikelaw07_much.l0 (k + 1) y0 y1 y2 y3 y4 y5))
  | 0 => fun _ _ _ _ _ _ r h => by simp [marlinspikelaw07_much.l0] at h
  | k + 1 => by
    have ih0 := marlinspikelaw07_much.mono_l k
    · intro y0 y1 y2 y3 y4 y5
      unfold marlinspikelaw07_much.l0
      repeat' first
      | (with_reducible exact ih0 _ _ _ _ _ _)
      | (with_reducible exact LeO.refl _)
      | (with_reducible exact LeO.none _)
      | (with_reducible refine LeO.ite ?_ ?_)
      | (with_reducible refine LeO.bind ?_ (fun _ => ?_))
      | exact ih0 _ _ _ _ _ _
      | exact LeO.none _
      | refine LeO.ite ?_ ?_
      | refine LeO.bind ?_ (fun _ => ?_)
theorem marlinspikelaw07_much.mono : ∀ a0 a1 k, LeO (marlinspikelaw07_much.f k a0 a1) (marlinspikelaw07_much.f (k + 1) a0 a1) := by
  intro a0 a1 k
  have ih0 := marlinspikelaw07_much.mono_l k
  unfold marlinspikelaw07_much.f
  repeat' first
      | (with_reducible exact ih0 _ _ _ _ _ _)
      | (with_reducible exact LeO.refl _)
      | (with_reducible exact LeO.none _)
      | (with_reducible refine LeO.ite ?_ ?_)
      | (with_reducible refine LeO.bind ?_ (fun _ => ?_))
      | exact ih0 _ _ _ _ _ _
      | exact LeO.none _
      | refine LeO.ite ?_ ?_
      | refine LeO.bind ?_ (fun _ => ?_)
set_option maxHeartbeats 8000000 in
set_option maxRecDepth 100000 in
theorem marlinspikelaw07_much.calls (k : Nat) (a0_0 : Bool) (A0_1 : Option Addr) (c0_1 : Nat) (l0_1 : List (S46)) (r : Bool) (w : World) (hr0_1 : Kd.C k46 w A0_1 l0_1.length l0_1) (hc0_1 : l0_1.length ≤ c0_1) (h : marlinspikelaw07_much.f k a0_0 l0_1 = some r) :
    Calls Tryd.prog 10 #[.agg #[.bool a0_0, .slice A0_1 l0_1.length c0_1]] w fun e w' => e = .returned (.bool r) ∧ Below w.heap.size w w' := by
  have hu24 := Tryd.underlying24
  have hu46 := Tryd.underlying46
  have HR0_1 := Aside0.mk hr0_1
  have HC0_1 := Aside0.mk hc0_1
  clear hr0_1 hc0_1
  have HB := Aside0.mk (Below.refl w.heap.size w)
  have H : (if 0 ≤ (mn (l0_1.length : Int) 100) then (if (mn (l0_1.length : Int) 100) ≤ (l0_1.length : Int) then ((some (l0_1.take ((mn (l0_1.length : Int) 100) : Int).toNat : List (S46))).bind fun y195 => (marlinspikelaw07_much.l0 k 0 y195 (y195.length : Int) 0 a0_0 l0_1)) else (none)) else (none)) = some r := h
  clear h
  obtain ⟨ji2, hji2⟩ : ∃ j_ : Int, (mn (l0_1.length : Int) 100) = j_ := ⟨_, rfl⟩
  replace H : (if 0 ≤ (ji2) then (if (ji2) ≤ (l0_1.length : Int) then ((some (l0_1.take ((ji2) : Int).toNat : List (S46))).bind fun y195 => (marlinspikelaw07_much.l0 k 0 y195 (y195.length : Int) 0 a0_0 l0_1)) else (none)) else (none)) = some r := by first | (rw [hji2] at H; exact H) | (simp only [hji2] at H ⊢; exact H)
  (try (have hji2h : ji2 ≤ 100 := by (rw [← hji2]; unfold mn; (repeat' split) <;> omega)))
  (try (have hji2g : ji2 ≤ 64 := by omega))
  (try (have hji2l : 0 ≤ ji2 := by (rw [← hji2]; unfold mn; (repeat' split) <;> omega)))
  (try (have hji2m : 0 ≤ ji2 := by omega))
  have hji2_ : (if 100 < (l0_1.length : Int) then 100 else (l0_1.length : Int)) = ji2 := hji2
  by_cases c3 : 0 ≤ (ji2)
  · rw [if_pos c3] at H
    have c3b0 := eq_true c3
    have c3b1 : decide (0 ≤ (ji2)) = true := decide_eq_true c3
    clear c3
    by_cases c4 : (ji2) ≤ (l0_1.length : Int)
    · rw [if_pos c4] at H
      have c4b0 := eq_true c4
      have c4b1 : decide ((ji2) ≤ (l0_1.length : Int)) = true := decide_eq_true c4
      clear c4
      obtain ⟨y195, hy195⟩ : ∃ y_ : List (S46), y_ = (l0_1.take ((ji2) : Int).toNat) := ⟨_, rfl⟩
      replace H : (marlinspikelaw07_much.l0 k 0 y195 (y195.length : Int) 0 a0_0 l0_1) = some r := by first | (rw [hy195]; with_reducible exact H) | (have H2_ := (Option.bind_some _ _).symm.trans H; rw [hy195]; with_reducible exact H2_) | (have H2_ := (Option.bind_some _ _).symm.trans H; with_reducible exact H2_) | with_reducible exact H | (rw [hy195]; exact H) | exact H
      have Ny195 := Aside0.mk hy195
      clear hy195
      have H' := Aside0.mk H
      clear H
      go_enter Tryd.func10, Tryd.ntmps10
      go_wp2_with (first | ((with_reducible refine gate_dst (N := 1) rfl ?_); refine box_event ?hg (N := 1) ?hd (cs := #[.bool a0_0, .slice A0_1 l0_1.length c0_1]) (t := 24) ?hr ?_; (case hd => rfl); (case hg => rfl); (case hr => first | (go_simp; done) | (go_simp; rfl)); intro gb194 hg w5 hbox hb; have n0_ := Aside0.mk (below_step (by repeat (first | (with_reducible first | exact HB.out | apply below_alloc | apply pw_below_drewN | apply below_drew1) | exact HB.out)) hb); have n1_ := Aside0.mk (hbox); have n2_ := Aside0.mk ((by rw [hg]; exact (below_size (by repeat (first | (with_reducible first | exact HB.out | apply below_alloc | apply pw_below_drewN | apply below_drew1) | exact HB.out))) : w.heap.size ≤ gb194)); have n3_ := Aside0.mk ((by rw [hg]; exact (below_size (by repeat (first | (with_reducible first | exact HB.out | apply below_alloc | apply pw_below_drewN | apply below_drew1) | exact HB.out))) : w.heap.size ≤ gb194)); clear HB; have HB := n0_; have BK194 := n1_; have GW194 := n2_; have GE194 := n3_; clear n0_ n1_ n2_ n3_; clear hb hbox hg; have hcz6_0 : w5.cell? ⟨gb194, 0, none⟩ = some (.bool a0_0) := (blk_cell BK194.out 0).trans rfl; have hcz6_1 : w5.cell? ⟨gb194, 1, none⟩ = some (.slice A0_1 l0_1.length c0_1) := (blk_cell BK194.out 1).trans rfl; have hfz6_0 := blk_frozen BK194.out 0; have hfz6_1 := blk_frozen BK194.out 1; have q7 : ((ji2) : Int) ≤ ((l0_1.length : Int) : Int) := of_decide_eq_true (by first | (with_reducible assumption) | assumption); obtain ⟨i07, hi07, _, hsz7, _⟩ := info_parts info46; have hroom7 : l0_1.length ≤ c0_1 := HC0_1.out; have hC7 : Kd.C k46 _ A0_1 l0_1.length l0_1 := HR0_1.out; have hcut7 := cut_to (P := Tryd.prog) 22 46 .i64 Tryd.underlying22 hi07 A0_1 l0_1.length c0_1 (ji2) (of_decide_eq_true (by first | (with_reducible assumption) | assumption)) q7 hroom7; have hr7 := Kd.C_take (m := ((ji2) : Int).toNat) hC7 (by omega); have hy7 : y195.length = ((ji2) : Int).toNat := (by rw [Ny195.out, List.length_take]; omega); rw [← Ny195.out] at hr7; rw [← hy7] at hcut7; have HR198 := Aside0.mk hr7; have HC198 := Aside0.mk (show y195.length ≤ c0_1 from by omega); clear hr7 hC7 hroom7 hi07 hsz7; have KY7 := Aside0.mk hy7; clear hy7; replace q7 := eq_true q7))
      go_loopg [3, 14] k (fun kq v3 v14 w' => ∃ (x3_1 : Int) (x14_1 : Int), v3 = .int .i64 x3_1 ∧ v14 = .int .i64 x14_1 ∧ Aside0 (marlinspikelaw07_much.l0 kq x3_1 y195 (y195.length : Int) x14_1 a0_0 l0_1 = some r) ∧ Aside0 (kq ≤ k) ∧ Aside0 (w'.heap[gb194]? = some (.cells #[.bool a0_0, (.slice A0_1 l0_1.length c0_1)] 24 (0, 0))) ∧ Aside0 (Below w.heap.size w w'))
      case atStart => exact ⟨(0), (0), (by first | rfl | (simp; done) | (simp [*]; done)), (by first | rfl | (simp; done) | (simp [*]; done)), H', ⟨Nat.le_refl _⟩, ⟨by (with_reducible repeat (first | refine blk_drewN ?_ _ | refine blk_drew ?_ | refine blk_alloc ?_ _)); exact BK194.out⟩, ⟨by repeat (first | (with_reducible first | exact HB.out | apply below_alloc | apply pw_below_drewN | apply below_drew1 | refine below_set ?_ GE194.out) | exact HB.out)⟩⟩
      case round =>
        clear H'
        try clear c1
        try clear p2
        try clear c3
        try clear c3b0
        try clear c3b1
        try clear c4
        try clear c4b0
        try clear c4b1
        try clear q7
        try clear hcz6_0
        try clear hcz6_1
        try clear hfz6_0
        try clear hfz6_1
        try clear q7
        obtain ⟨x3_1, x14_1, rfl, rfl, HA, HK1, BK194, HB⟩ := hrel
        cases gk with
        | zero => exact absurd HA.out (by simp [marlinspikelaw07_much.l0])
        | succ k1 =>
          have H := HA.out
          clear HA
          simp only [marlinspikelaw07_much.l0] at H
          by_cases c8 : x14_1 < (y195.length : Int)
          · rw [if_pos c8] at H
            have c8b0 : decide (x14_1 < (y195.length : Int)) = true := decide_eq_true c8
            clear c8
            by_cases c9 : 0 ≤ x14_1
            · rw [if_pos c9] at H
              have c9b0 : decide (0 ≤ x14_1) = true := decide_eq_true c9
              clear c9
              by_cases c10 : x14_1 < (y195.length : Int)
              · rw [if_pos c10] at H
                have c10b0 : decide (x14_1 < (y195.length : Int)) = true := decide_eq_true c10
                clear c10
                obtain ⟨ji11, hji11⟩ : ∃ j_ : Int, (mn (((rd_T46 y195 x14_1).f1).length : Int) 1000) = j_ := ⟨_, rfl⟩
                replace H : (marlinspikelaw07_much.l0 k1 (wrap64 (x3_1 + (ji11))) y195 (y195.length : Int) (wrap64 (x14_1 + 1)) a0_0 l0_1) = some r := by first | (rw [hji11] at H; exact H) | (simp only [hji11] at H ⊢; exact H)
                have hji11_ : (if 1000 < (((rd_T46 y195 x14_1).f1).length : Int) then 1000 else (((rd_T46 y195 x14_1).f1).length : Int)) = ji11 := hji11
                have H' := Aside0.mk H
                clear H
                have p199 : 0 ≤ (x14_1 : Int) := of_decide_eq_true (by first | (with_reducible assumption) | assumption)
                have q199 : x14_1 < (y195.length : Int) := of_decide_eq_true (by first | (with_reducible assumption) | assumption)
                obtain ⟨ad199, A199_1, c199_1, e199, hx199_0, hx199_1, hl199_1, hi199_1⟩ := at_T46 HR198.out x14_1 p199 q199
                cases e199
                replace hx199_0 := (HB.out.cell (World.block_lt_of_cell? w _ hx199_0)).trans hx199_0
                replace hx199_1 := (HB.out.cell (World.block_lt_of_cell? w _ hx199_1)).trans hx199_1
                have HR199_1 := Aside0.mk hi199_1
                have HC199_1 := Aside0.mk hl199_1
                clear hi199_1 hl199_1
                replace p199 := eq_true p199
                replace q199 := eq_true q199
                go_wp2_with (first | ((with_reducible refine gate_dst (N := 5) rfl ?_); refine box_event ?hg (N := 5) ?hd (cs := #[.int .i64 0, .slice none 0 0]) (t := 46) ?hr ?_; (case hd => rfl); (case hg => rfl); (case hr => first | (go_simp; done) | (go_simp; rfl)); intro gb200 hg w12 hbox hb; have n0_ := Aside0.mk (blk_below (g := gb194) (o := .cells #[.bool a0_0, .slice (some ad199) l0_1.length c0_1] 24 (0, 0)) (by (with_reducible repeat (first | refine blk_drewN ?_ _ | refine blk_drew ?_ | refine blk_alloc ?_ _)); exact BK194.out) hb); have n1_ := Aside0.mk (below_step (by repeat (first | (with_reducible first | exact HB.out | apply below_alloc | apply pw_below_drewN | apply below_drew1 | refine below_set ?_ GE194.out) | exact HB.out)) hb); have n2_ := Aside0.mk (hbox); have n3_ := Aside0.mk ((by rw [hg]; exact (below_size (by repeat (first | (with_reducible first | exact HB.out | apply below_alloc | apply pw_below_drewN | apply below_drew1 | refine below_set ?_ GE194.out) | exact HB.out))) : w.heap.size ≤ gb200)); have n4_ := Aside0.mk ((by rw [hg]; exact (below_size (by repeat (first | (with_reducible first | exact HB.out | apply below_alloc | apply pw_below_drewN | apply below_drew1 | refine below_set ?_ GE194.out) | exact HB.out))) : w.heap.size ≤ gb200)); have n5_ := Aside0.mk ((by rw [hg]; exact Nat.ne_of_lt (blk_lt (g := gb194) (o := .cells #[.bool a0_0, .slice (some ad199) l0_1.length c0_1] 24 (0, 0)) (by (with_reducible repeat (first | refine blk_drewN ?_ _ | refine blk_drew ?_ | refine blk_alloc ?_ _)); exact BK194.out)) : gb194 ≠ gb200)); have n6_ := Aside0.mk ((by rw [hg]; exact Nat.ne_of_gt (blk_lt (g := gb194) (o := .cells #[.bool a0_0, .slice (some ad199) l0_1.length c0_1] 24 (0, 0)) (by (with_reducible repeat (first | refine blk_drewN ?_ _ | refine blk_drew ?_ | refine blk_alloc ?_ _)); exact BK194.out)) : gb200 ≠ gb194)); clear BK194; clear HB; have BK194 := n0_; have HB := n1_; have BK200 := n2_; have GW200 := n3_; have GE200 := n4_; have NB194_200 := n5_; have NB200_194 := n6_; clear n0_ n1_ n2_ n3_ n4_ n5_ n6_; clear hb hbox hg; have hnb13 := NB200_194.out; have hnc13 := NB194_200.out; have hcz14_0 : w12.cell? ⟨gb200, 0, none⟩ = some (.int .i64 0) := (blk_cell BK200.out 0).trans rfl; have hcz14_1 : w12.cell? ⟨gb200, 1, none⟩ = some (.slice none 0 0) := (blk_cell BK200.out 1).trans rfl; have hfz14_0 := blk_frozen BK200.out 0; have hfz14_1 := blk_frozen BK200.out 1))
                go_roundg k1
                case measure => have := HK1.out; omega
                case rel => exact ⟨(wrap64 (x3_1 + (ji11))), (wrap64 (x14_1 + 1)), (by first | rfl | (simp; done) | (simp only [← hji11] <;> (first | rfl | simp)) | (simp [*]; done)), (by first | rfl | (simp; done) | (simp [*]; done)), H', ⟨by have := HK1.out; omega⟩, ⟨by (with_reducible repeat (first | refine blk_drewN ?_ _ | refine blk_drew ?_ | refine blk_alloc ?_ _)); refine blk_far ?_ NB194_200.out _; (with_reducible repeat (first | refine blk_drewN ?_ _ | refine blk_drew ?_ | refine blk_alloc ?_ _)); refine blk_far ?_ NB194_200.out _; (with_reducible repeat (first | refine blk_drewN ?_ _ | refine blk_drew ?_ | refine blk_alloc ?_ _)); exact BK194.out⟩, ⟨by repeat (first | (with_reducible first | exact HB.out | apply below_alloc | apply pw_below_drewN | apply below_drew1 | refine below_set ?_ GE194.out | refine below_set ?_ GE200.out) | exact HB.out)⟩⟩
              · rw [if_neg c10] at H
                exact absurd H (by simp)
            · rw [if_neg c9] at H
              exact absurd H (by simp)
          · rw [if_neg c8] at H
            have c8b0 : decide (x14_1 < (y195.length : Int)) = false := decide_eq_false c8
            clear c8
            by_cases c15 : (l0_1.length : Int) > 60
            · rw [if_pos c15] at H
              have c15b0 : decide (60 < (l0_1.length : Int)) = true := decide_eq_true c15
              have c15b1 : decide (60 < l0_1.length) = true := decide_eq_true (by omega)
              clear c15
              obtain rfl := Option.some.inj H
              have hcz16_0 : wr.cell? ⟨gb194, 0, none⟩ = some (.bool a0_0) := (blk_cell BK194.out 0).trans rfl
              have hcz16_1 : wr.cell? ⟨gb194, 1, none⟩ = some (.slice A0_1 l0_1.length c0_1) := (blk_cell BK194.out 1).trans rfl
              have hfz16_0 := blk_frozen BK194.out 0
              have hfz16_1 := blk_frozen BK194.out 1
              go_wp2
              go_ret
              exact ⟨by first | rfl | (simp [errW_none, errW_some] <;> rfl) | (simp only [← hji2]; first | rfl | (simp [errW_none, errW_some] <;> rfl)) | (simp [*, errW_none, errW_some] <;> rfl), by repeat (first | (with_reducible first | exact HB.out | apply below_alloc | apply pw_below_drewN | apply below_drew1 | refine below_set ?_ GE194.out) | exact HB.out)⟩
            · rw [if_neg c15] at H
              have c15b0 : decide (60 < (l0_1.length : Int)) = false := decide_eq_false c15
              have c15b1 : decide (60 < l0_1.length) = false := decide_eq_false (by omega)
              clear c15
              obtain rfl := Option.some.inj H
              have hcz17_0 : wr.cell? ⟨gb194, 0, none⟩ = some (.bool a0_0) := (blk_cell BK194.out 0).trans rfl
              have hcz17_1 : wr.cell? ⟨gb194, 1, none⟩ = some (.slice A0_1 l0_1.length c0_1) := (blk_cell BK194.out 1).trans rfl
              have hfz17_0 := blk_frozen BK194.out 0
              have hfz17_1 := blk_frozen BK194.out 1
              go_wp2
              go_ret
              exact ⟨by first | rfl | (simp [errW_none, errW_some] <;> rfl) | (simp only [← hji2]; first | rfl | (simp [errW_none, errW_some] <;> rfl)) | (simp [*, errW_none, errW_some] <;> rfl), by repeat (first | (with_reducible first | exact HB.out | apply below_alloc | apply pw_below_drewN | apply below_drew1 | refine below_set ?_ GE194.out) | exact HB.out)⟩
    · rw [if_neg c4] at H
      exact absurd H (by simp)
  · rw [if_neg c3] at H
    exact absurd H (by simp)
def marlinspikelaw07_theirs.l0 : Nat → List (S46) → Int → Int → Bool → List (S52) → Option (Bool × (List (S52)))
  | 0, _, _, _, _, _ => none
  | k + 1, x10, x11, x12, x204000, x204001 => if x12 < x11 then (if 0 ≤ x12 then (if x12 < (x10.length : Int) then (if x204001.length < 4398046511104 then (marlinspikelaw07_theirs.l0 k x10 x11 (wrap64 (x12 + 1)) x204000 (x204001 ++ [(⟨(rd_T46 x10 x12).f0, (rd_T46 x10 x12).f1⟩ : S52)])) else (none)) else (none)) else (none)) else (some (x204000, x204001))
def marlinspikelaw07_theirs.f (k : Nat) (a0_0 : Bool) (l0_1 : List (S46)) : Option (Bool × (List (S52))) := marlinspikelaw07_theirs.l0 k l0_1 (l0_1.length : Int) 0 a0_0 ([] : List (S52))
theorem marlinspikelaw07_theirs.mono_l : ∀ k, (∀ y0 y1 y2 y3 y4, LeO (marlinspikelaw07_theirs.l0 k y0 y1 y2 y3 y4) (marlinspikelaw07_theirs.l0 (k + 1) y0 y1 y2 y3 y4))
  | 0 => fun _ _ _ _ _ r h => by simp [marlinspikelaw07_theirs.l0] at h
  | k + 1 => by
    have ih0 := marlinspikelaw07_theirs.mono_l k
    · intro y0 y1 y2 y3 y4
      unfold marlinspikelaw07_theirs.l0
      repeat' first
      | (with_reducible exact ih0 _ _ _ _ _)
      | (with_reducible exact LeO.refl _)
      | (with_reducible exact LeO.none _)
      | (with_reducible refine LeO.ite ?_ ?_)
      | (with_reducible refine LeO.bind ?_ (fun _ => ?_))
      | exact ih0 _ _ _ _ _
      | exact LeO.none _
      | refine LeO.ite ?_ ?_
      | refine LeO.bind ?_ (fun _ => ?_)
theorem marlinspikelaw07_theirs.mono : ∀ a0 a1 k, LeO (marlinspikelaw07_theirs.f k a0 a1) (marlinspikelaw07_theirs.f (k + 1) a0 a1) := by
  intro a0 a1 k
  have ih0 := marlinspikelaw07_theirs.mono_l k
  unfold marlinspikelaw07_theirs.f
  repeat' first
      | (with_reducible exact ih0 _ _ _ _ _)
      | (with_reducible exact LeO.refl _)
      | (with_reducible exact LeO.none _)
      | (with_reducible refine LeO.ite ?_ ?_)
      | (with_reducible refine LeO.bind ?_ (fun _ => ?_))
      | exact ih0 _ _ _ _ _
      | exact LeO.none _
      | refine LeO.ite ?_ ?_
      | refine LeO.bind ?_ (fun _ => ?_)
set_option maxHeartbeats 8000000 in
set_option maxRecDepth 100000 in
theorem marlinspikelaw07_theirs.calls (k : Nat) (a0_0 : Bool) (P0_1_ : Nat → Prop) (A0_1 : Option Addr) (c0_1 : Nat) (l0_1 : List (S46)) (r1 : Bool) (r2 : List (S52)) (w : World) (hs0_1 : Kd.V k46 46 w w.heap.size (fun k_ => P0_1_ k_) (.slice A0_1 l0_1.length c0_1) l0_1) (h : marlinspikelaw07_theirs.f k a0_0 l0_1 = some (r1, r2)) :
    Calls Tryd.prog 13 #[.agg #[.bool a0_0, .slice A0_1 l0_1.length c0_1]] w fun e w' => ∃ v1_ : Value, e = .returned (.agg #[.bool r1, v1_]) ∧ Kd.N k52 52 w' w.heap.size (fun k_ => (P0_1_ k_ ∨ w.heap.size ≤ k_)) v1_ r2 ∧ Below w.heap.size w w' := by
  have hu24 := Tryd.underlying24
  have hu31 := Tryd.underlying31
  have hu46 := Tryd.underlying46
  have hu52 := Tryd.underlying52
  have HO0_1 := Aside0.mk (show Kd.V k46 46 w w.heap.size (fun k_ => (P0_1_ k_ ∨ w.heap.size ≤ k_)) (.slice A0_1 l0_1.length c0_1) l0_1 from Kd.V_mono hs0_1 (fun k_ hk => .inl hk))
  have HB := Aside0.mk (Below.refl w.heap.size w)
  have H : (marlinspikelaw07_theirs.l0 k l0_1 (l0_1.length : Int) 0 a0_0 ([] : List (S52))) = some (r1, r2) := h
  clear h
  have H' := Aside0.mk H
  clear H
  go_enter Tryd.func13, Tryd.ntmps13
  go_wp2_with (first | ((with_reducible refine gate_dst (N := 1) rfl ?_); refine box_event ?hg (N := 1) ?hd (cs := #[.bool a0_0, .slice A0_1 l0_1.length c0_1]) (t := 24) ?hr ?_; (case hd => rfl); (case hg => rfl); (case hr => first | (go_simp; done) | (go_simp; rfl)); intro gb201 hg w2 hbox hb; have n0_ := Aside0.mk (Kd.V_below (Kd.V_elderB (by (with_reducible repeat (first | apply Kd.V_alloc | apply Kd.V_drewN | apply Kd.V_drew)); exact HO0_1.out) gb201 (Nat.le_of_eq hg.symm)) hb); have n1_ := Aside0.mk (below_step (by repeat (first | (with_reducible first | exact HB.out | apply below_alloc | apply pw_below_drewN | apply below_drew1) | exact HB.out)) hb); have n2_ := Aside0.mk (hbox); have n3_ := Aside0.mk ((by rw [hg]; exact (below_size (by repeat (first | (with_reducible first | exact HB.out | apply below_alloc | apply pw_below_drewN | apply below_drew1) | exact HB.out))) : w.heap.size ≤ gb201)); have n4_ := Aside0.mk ((by rw [hg]; exact (below_size (by repeat (first | (with_reducible first | exact HB.out | apply below_alloc | apply pw_below_drewN | apply below_drew1) | exact HB.out))) : w.heap.size ≤ gb201)); clear HO0_1; clear HB; have HO0_1 := n0_; have HB := n1_; have BK201 := n2_; have GW201 := n3_; have GE201 := n4_; clear n0_ n1_ n2_ n3_ n4_; clear hb hbox hg) | ((with_reducible refine gate_dst (N := 2) rfl ?_); refine box_event ?hg (N := 2) ?hd (cs := #[.bool false, .slice none 0 0]) (t := 31) ?hr ?_; (case hd => rfl); (case hg => rfl); (case hr => first | (go_simp; done) | (go_simp; rfl)); intro gb202 hg w3 hbox hb; have n0_ := Aside0.mk (Kd.V_below (Kd.V_elderB (by (with_reducible repeat (first | apply Kd.V_alloc | apply Kd.V_drewN | apply Kd.V_drew)); exact HO0_1.out) gb202 (Nat.le_of_eq hg.symm)) hb); have n1_ := Aside0.mk (blk_below (g := gb201) (o := .cells #[.bool a0_0, .slice A0_1 l0_1.length c0_1] 24 (0, 0)) (by (with_reducible repeat (first | refine blk_drewN ?_ _ | refine blk_drew ?_ | refine blk_alloc ?_ _)); exact BK201.out) hb); have n2_ := Aside0.mk (below_step (by repeat (first | (with_reducible first | exact HB.out | apply below_alloc | apply pw_below_drewN | apply below_drew1 | refine below_set ?_ GE201.out) | exact HB.out)) hb); have n3_ := Aside0.mk (hbox); have n4_ := Aside0.mk ((by rw [hg]; exact (below_size (by repeat (first | (with_reducible first | exact HB.out | apply below_alloc | apply pw_below_drewN | apply below_drew1 | refine below_set ?_ GE201.out) | exact HB.out))) : w.heap.size ≤ gb202)); have n5_ := Aside0.mk ((by rw [hg]; exact (below_size (by repeat (first | (with_reducible first | exact HB.out | apply below_alloc | apply pw_below_drewN | apply below_drew1 | refine below_set ?_ GE201.out) | exact HB.out))) : w.heap.size ≤ gb202)); have n6_ := Aside0.mk ((by rw [hg]; exact Nat.ne_of_lt (blk_lt (g := gb201) (o := .cells #[.bool a0_0, .slice A0_1 l0_1.length c0_1] 24 (0, 0)) (by (with_reducible repeat (first | refine blk_drewN ?_ _ | refine blk_drew ?_ | refine blk_alloc ?_ _)); exact BK201.out)) : gb201 ≠ gb202)); have n7_ := Aside0.mk ((by rw [hg]; exact Nat.ne_of_gt (blk_lt (g := gb201) (o := .cells #[.bool a0_0, .slice A0_1 l0_1.length c0_1] 24 (0, 0)) (by (with_reducible repeat (first | refine blk_drewN ?_ _ | refine blk_drew ?_ | refine blk_alloc ?_ _)); exact BK201.out)) : gb202 ≠ gb201)); clear HO0_1; clear BK201; clear HB; have HO0_1 := n0_; have BK201 := n1_; have HB := n2_; have BK202 := n3_; have GW202 := n4_; have GE202 := n5_; have NB201_202 := n6_; have NB202_201 := n7_; clear n0_ n1_ n2_ n3_ n4_ n5_ n6_ n7_; clear hb hbox hg; have hnb4 := NB201_202.out; have hnc4 := NB202_201.out; have hcz5_0 : w3.cell? ⟨gb201, 0, none⟩ = some (.bool a0_0) := (blk_cell BK201.out 0).trans rfl; have hcz5_1 : w3.cell? ⟨gb201, 1, none⟩ = some (.slice A0_1 l0_1.length c0_1) := (blk_cell BK201.out 1).trans rfl; have hfz5_0 := blk_frozen BK201.out 0; have hfz5_1 := blk_frozen BK201.out 1) | ((with_reducible refine gate_dst (N := 3) rfl ?_); refine box_event ?hg (N := 3) ?hd (cs := #[.bool false, .slice none 0 0]) (t := 31) ?hr ?_; (case hd => rfl); (case hg => rfl); (case hr => first | (go_simp; done) | (go_simp; rfl)); intro gb203 hg w6 hbox hb; have n0_ := Aside0.mk (Kd.V_below (Kd.V_elderB (by (with_reducible repeat (first | apply Kd.V_alloc | apply Kd.V_drewN | apply Kd.V_drew)); exact HO0_1.out) gb203 (Nat.le_of_eq hg.symm)) hb); have n1_ := Aside0.mk (blk_below (g := gb201) (o := .cells #[.bool a0_0, .slice A0_1 l0_1.length c0_1] 24 (0, 0)) (by (with_reducible repeat (first | refine blk_drewN ?_ _ | refine blk_drew ?_ | refine blk_alloc ?_ _)); exact BK201.out) hb); have n2_ := Aside0.mk (blk_below (g := gb202) (o := .cells #[.bool false, .slice none 0 0] 31 (0, 0)) (by (with_reducible repeat (first | refine blk_drewN ?_ _ | refine blk_drew ?_ | refine blk_alloc ?_ _)); exact BK202.out) hb); have n3_ := Aside0.mk (below_step (by repeat (first | (with_reducible first | exact HB.out | apply below_alloc | apply pw_below_drewN | apply below_drew1 | refine below_set ?_ GE201.out | refine below_set ?_ GE202.out) | exact HB.out)) hb); have n4_ := Aside0.mk (hbox); have n5_ := Aside0.mk ((by rw [hg]; exact (below_size (by repeat (first | (with_reducible first | exact HB.out | apply below_alloc | apply pw_below_drewN | apply below_drew1 | refine below_set ?_ GE201.out | refine below_set ?_ GE202.out) | exact HB.out))) : w.heap.size ≤ gb203)); have n6_ := Aside0.mk ((by rw [hg]; exact (below_size (by repeat (first | (with_reducible first | exact HB.out | apply below_alloc | apply pw_below_drewN | apply below_drew1 | refine below_set ?_ GE201.out | refine below_set ?_ GE202.out) | exact HB.out))) : w.heap.size ≤ gb203)); have n7_ := Aside0.mk ((by rw [hg]; exact Nat.ne_of_lt (blk_lt (g := gb201) (o := .cells #[.bool a0_0, .slice A0_1 l0_1.length c0_1] 24 (0, 0)) (by (with_reducible repeat (first | refine blk_drewN ?_ _ | refine blk_drew ?_ | refine blk_alloc ?_ _)); exact BK201.out)) : gb201 ≠ gb203)); have n8_ := Aside0.mk ((by rw [hg]; exact Nat.ne_of_gt (blk_lt (g := gb201) (o := .cells #[.bool a0_0, .slice A0_1 l0_1.length c0_1] 24 (0, 0)) (by (with_reducible repeat (first | refine blk_drewN ?_ _ | refine blk_drew ?_ | refine blk_alloc ?_ _)); exact BK201.out)) : gb203 ≠ gb201)); have n9_ := Aside0.mk ((by rw [hg]; exact Nat.ne_of_lt (blk_lt (g := gb202) (o := .cells #[.bool false, .slice none 0 0] 31 (0, 0)) (by (with_reducible repeat (first | refine blk_drewN ?_ _ | refine blk_drew ?_ | refine blk_alloc ?_ _)); exact BK202.out)) : gb202 ≠ gb203)); have n10_ := Aside0.mk ((by rw [hg]; exact Nat.ne_of_gt (blk_lt (g := gb202) (o := .cells #[.bool false, .slice none 0 0] 31 (0, 0)) (by (with_reducible repeat (first | refine blk_drewN ?_ _ | refine blk_drew ?_ | refine blk_alloc ?_ _)); exact BK202.out)) : gb203 ≠ gb202)); clear HO0_1; clear BK201; clear BK202; clear HB; have HO0_1 := n0_; have BK201 := n1_; have BK202 := n2_; have HB := n3_; have BK203 := n4_; have GW203 := n5_; have GE203 := n6_; have NB201_203 := n7_; have NB203_201 := n8_; have NB202_203 := n9_; have NB203_202 := n10_; clear n0_ n1_ n2_ n3_ n4_ n5_ n6_ n7_ n8_ n9_ n10_; clear hb hbox hg; have hnb7 := NB203_201.out; have hnc7 := NB201_203.out; have hnb8 := NB203_202.out; have hnc8 := NB202_203.out; have hcz9_0 : w6.cell? ⟨gb203, 0, none⟩ = some (.bool false) := (blk_cell BK203.out 0).trans rfl; have hcz9_1 : w6.cell? ⟨gb203, 1, none⟩ = some (.slice none 0 0) := (blk_cell BK203.out 1).trans rfl; have hfz9_0 := blk_frozen BK203.out 0; have hfz9_1 := blk_frozen BK203.out 1; have hcz10_0 : w6.cell? ⟨gb201, 0, none⟩ = some (.bool a0_0) := (blk_cell BK201.out 0).trans rfl; have hcz10_1 : w6.cell? ⟨gb201, 1, none⟩ = some (.slice A0_1 l0_1.length c0_1) := (blk_cell BK201.out 1).trans rfl; have hfz10_0 := blk_frozen BK201.out 0; have hfz10_1 := blk_frozen BK201.out 1))
  go_loopg [12] k (fun kq v12 w' => ∃ (x12_1 : Int) (x204001_1 : List (S52)) (u204001 : Value), v12 = .int .i64 x12_1 ∧ Aside0 (marlinspikelaw07_theirs.l0 kq l0_1 (l0_1.length : Int) x12_1 a0_0 x204001_1 = some (r1, r2)) ∧ Aside0 (kq ≤ k) ∧ Aside0 (Kd.V k46 46 w' w.heap.size (fun k_ => (P0_1_ k_ ∨ w.heap.size ≤ k_) ∧ some k_ ≠ (u204001 : Value).ownBlock ∧ k_ ≠ gb201 ∧ k_ ≠ gb202 ∧ k_ ≠ gb203) (.slice A0_1 l0_1.length c0_1) l0_1) ∧ Aside0 (Kd.V k46 46 w' w.heap.size (fun k_ => (P0_1_ k_ ∨ w.heap.size ≤ k_) ∧ some k_ ≠ (u204001 : Value).ownBlock ∧ k_ ≠ gb201 ∧ k_ ≠ gb202 ∧ k_ ≠ gb203) (.slice A0_1 l0_1.length c0_1) l0_1) ∧ Aside0 (Kd.N k52 52 w' w.heap.size (fun k_ => (P0_1_ k_ ∨ w.heap.size ≤ k_) ∧ k_ ≠ gb201 ∧ k_ ≠ gb202 ∧ k_ ≠ gb203) u204001 x204001_1) ∧ Aside0 (w'.heap[gb201]? = some (.cells #[.bool a0_0, (.slice A0_1 l0_1.length c0_1)] 24 (0, 0))) ∧ Aside0 (w'.heap[gb202]? = some (.cells #[.bool false, (.slice none 0 0)] 31 (0, 0))) ∧ Aside0 (w'.heap[gb203]? = some (.cells #[.bool a0_0, u204001] 31 (0, 0))) ∧ Aside0 (Below w.heap.size w w'))
  case atStart => exact ⟨(0), (([] : List (S52))), (.slice none 0 0), (by first | rfl | (simp; done) | (simp [*]; done)), H', ⟨Nat.le_refl _⟩, ⟨by (with_reducible repeat (first | apply Kd.V_alloc | apply Kd.V_drewN | apply Kd.V_drew)); exact Kd.V_mono (Kd.V_far (p := ⟨gb203, 1, none⟩) (Kd.V_far (p := ⟨gb203, 0, none⟩) (Kd.V_mono HO0_1.out (fun k_ hk => (⟨hk, hk.2⟩ : _ ∧ k_ ≠ gb203))) (fun _ hk => hk.2) (.bool a0_0)) (fun _ hk => hk.2) (.slice none 0 0)) (fun _ hk => ⟨hk.1.1.1.1, ⟨(by simp [Value.ownBlock]), ⟨hk.1.1.1.2, ⟨hk.1.1.2, hk.1.2⟩⟩⟩⟩)⟩, ⟨by (with_reducible repeat (first | apply Kd.V_alloc | apply Kd.V_drewN | apply Kd.V_drew)); exact Kd.V_mono (Kd.V_far (p := ⟨gb203, 1, none⟩) (Kd.V_far (p := ⟨gb203, 0, none⟩) (Kd.V_mono HO0_1.out (fun k_ hk => (⟨hk, hk.2⟩ : _ ∧ k_ ≠ gb203))) (fun _ hk => hk.2) (.bool a0_0)) (fun _ hk => hk.2) (.slice none 0 0)) (fun _ hk => ⟨hk.1.1.1.1, ⟨(by simp [Value.ownBlock]), ⟨hk.1.1.1.2, ⟨hk.1.1.2, hk.1.2⟩⟩⟩⟩)⟩, ⟨by first | exact Kd.S_nil _ _ _ _ _ | exact Kd.N_nil _ _ _ _ _ | exact Kd.V_nil _ _ _ _ _ | exact Kd.Q_nil _ _ _ _ _ | exact Kd.R_nil _ _ _ _ _⟩, ⟨by (with_reducible repeat (first | refine blk_drewN ?_ _ | refine blk_drew ?_ | refine blk_alloc ?_ _)); refine blk_far ?_ NB201_203.out _; (with_reducible repeat (first | refine blk_drewN ?_ _ | refine blk_drew ?_ | refine blk_alloc ?_ _)); refine blk_far ?_ NB201_203.out _; (with_reducible repeat (first | refine blk_drewN ?_ _ | refine blk_drew ?_ | refine blk_alloc ?_ _)); exact BK201.out⟩, ⟨by (with_reducible repeat (first | refine blk_drewN ?_ _ | refine blk_drew ?_ | refine blk_alloc ?_ _)); refine blk_far ?_ NB202_203.out _; (with_reducible repeat (first | refine blk_drewN ?_ _ | refine blk_drew ?_ | refine blk_alloc ?_ _)); refine blk_far ?_ NB202_203.out _; (with_reducible repeat (first | refine blk_drewN ?_ _ | refine blk_drew ?_ | refine blk_alloc ?_ _)); exact BK202.out⟩, ⟨by (with_reducible repeat (first | refine blk_drewN ?_ _ | refine blk_drew ?_ | refine blk_alloc ?_ _)); refine blk_put (cs := #[.bool a0_0, .slice none 0 0]) ?_ 1 _ rfl; (with_reducible repeat (first | refine blk_drewN ?_ _ | refine blk_drew ?_ | refine blk_alloc ?_ _)); refine blk_put (cs := #[.bool false, .slice none 0 0]) ?_ 0 _ rfl; (with_reducible repeat (first | refine blk_drewN ?_ _ | refine blk_drew ?_ | refine blk_alloc ?_ _)); exact BK203.out⟩, ⟨by repeat (first | (with_reducible first | exact HB.out | apply below_alloc | apply pw_below_drewN | apply below_drew1 | refine below_set ?_ GE201.out | refine below_set ?_ GE202.out | refine below_set ?_ GE203.out) | exact HB.out)⟩⟩
  case round =>
    clear H'
    try clear c1
    try clear p2
    try clear c4
    try clear c7
    try clear c8
    try clear hcz10_0
    try clear hcz10_1
    try clear hcz5_0
    try clear hcz5_1
    try clear hcz9_0
    try clear hcz9_1
    try clear hfz10_0
    try clear hfz10_1
    try clear hfz5_0
    try clear hfz5_1
    try clear hfz9_0
    try clear hfz9_1
    obtain ⟨x12_1, x204001_1, u204001, rfl, HA, HK1, HO_10, HO_202001, HO_204001, BK201, BK202, BK203, HB⟩ := hrel
    cases gk with
    | zero => exact absurd HA.out (by simp [marlinspikelaw07_theirs.l0])
    | succ k1 =>
      have H := HA.out
      clear HA
      simp only [marlinspikelaw07_theirs.l0] at H
      by_cases c11 : x12_1 < (l0_1.length : Int)
      · rw [if_pos c11] at H
        have c11b0 : decide (x12_1 < (l0_1.length : Int)) = true := decide_eq_true c11
        clear c11
        by_cases c12 : 0 ≤ x12_1
        · rw [if_pos c12] at H
          have c12b0 : decide (0 ≤ x12_1) = true := decide_eq_true c12
          clear c12
          by_cases c13 : x12_1 < (l0_1.length : Int)
          · rw [if_pos c13] at H
            have c13b0 : decide (x12_1 < (l0_1.length : Int)) = true := decide_eq_true c13
            clear c13
            by_cases c14 : x204001_1.length < 4398046511104
            · rw [if_pos c14] at H
              have LMc14 := Aside0.mk c14
              clear c14
              obtain ⟨y206, hy206⟩ : ∃ y_ : List (S52), y_ = (x204001_1 ++ [(⟨(rd_T46 l0_1 x12_1).f0, (rd_T46 l0_1 x12_1).f1⟩ : S52)]) := ⟨_, rfl⟩
              replace H : (marlinspikelaw07_theirs.l0 k1 l0_1 (l0_1.length : Int) (wrap64 (x12_1 + 1)) a0_0 y206) = some (r1, r2) := by first | (rw [hy206]; with_reducible exact H) | (have H2_ := (Option.bind_some _ _).symm.trans H; rw [hy206]; with_reducible exact H2_) | (have H2_ := (Option.bind_some _ _).symm.trans H; with_reducible exact H2_) | with_reducible exact H | (rw [hy206]; exact H) | exact H
              have Ny206 := Aside0.mk hy206
              clear hy206
              have H' := Aside0.mk H
              clear H
              have p204 : 0 ≤ (x12_1 : Int) := of_decide_eq_true (by first | (with_reducible assumption) | assumption)
              have q204 : x12_1 < (l0_1.length : Int) := of_decide_eq_true (by first | (with_reducible assumption) | assumption)
              obtain ⟨ad204, A204_1, c204_1, e204, hx204_0, hx204_1, hl204_1, hi204_1⟩ := at_T46 (Kd.V_reads' HO_10.out).2.2 x12_1 p204 q204
              cases e204
              obtain ⟨ce204, hce204, hMe204, hcc204⟩ := Kd.V_get HO_10.out z46 x12_1 p204 (by first | exact q204 | exact of_decide_eq_true (by first | (with_reducible assumption) | assumption) | (have e_ := (Kd.V_reads' HO_10.out).1; omega))
              obtain ⟨ua204_1, uc204_1, rfl, ul204_1, ge204_1⟩ := k46_openF hMe204
              have hv204_1 := hcc204 1 _ rfl
              rw [add_field _ _ 1 (by omega)] at hv204_1
              replace hv204_1 := Option.some.inj (hv204_1.symm.trans hx204_1)
              injection hv204_1 with hva_ hvn_ hvc_
              rw [hva_] at ge204_1
              rw [hvc_] at ul204_1
              have HL204_1 := Aside0.mk (show Kd.V (Kd.int .i64) 3 _ w.heap.size _ _ ((rd_T46 l0_1 x12_1).f1) from Kd.V_mk ul204_1 ge204_1)
              clear hva_ hvn_ hvc_ ge204_1 ul204_1
              clear hcc204 hce204
              have HR204_1 := Aside0.mk hi204_1
              have HC204_1 := Aside0.mk hl204_1
              clear hi204_1 hl204_1
              replace p204 := eq_true p204
              replace q204 := eq_true q204
              go_wp2_with (first | ((with_reducible refine gate_dst (N := 5) rfl ?_); refine box_event ?hg (N := 5) ?hd (cs := #[.int .i64 0, .slice none 0 0]) (t := 46) ?hr ?_; (case hd => rfl); (case hg => rfl); (case hr => first | (go_simp; done) | (go_simp; rfl)); intro gb205 hg w15 hbox hb; have n0_ := Aside0.mk (Kd.V_below (Kd.V_elderB (by (with_reducible repeat (first | apply Kd.V_alloc | apply Kd.V_drewN | apply Kd.V_drew)); exact HO_10.out) gb205 (Nat.le_of_eq hg.symm)) hb); have n1_ := Aside0.mk (Kd.V_below (Kd.V_elderB (by (with_reducible repeat (first | apply Kd.V_alloc | apply Kd.V_drewN | apply Kd.V_drew)); exact HO_202001.out) gb205 (Nat.le_of_eq hg.symm)) hb); have n2_ := Aside0.mk (Kd.N_below (Kd.N_elderB (by (with_reducible repeat (first | apply Kd.N_alloc | apply Kd.N_drewN | apply Kd.N_drew)); exact HO_204001.out) gb205 (Nat.le_of_eq hg.symm)) hb); have n3_ := Aside0.mk (Kd.V_below (Kd.V_elderB (by (with_reducible repeat (first | apply Kd.V_alloc | apply Kd.V_drewN | apply Kd.V_drew)); exact HL204_1.out) gb205 (Nat.le_of_eq hg.symm)) hb); have n4_ := Aside0.mk (blk_below (g := gb201) (o := .cells #[.bool a0_0, .slice (some ad204) l0_1.length c0_1] 24 (0, 0)) (by (with_reducible repeat (first | refine blk_drewN ?_ _ | refine blk_drew ?_ | refine blk_alloc ?_ _)); exact BK201.out) hb); have n5_ := Aside0.mk (blk_below (g := gb202) (o := .cells #[.bool false, .slice none 0 0] 31 (0, 0)) (by (with_reducible repeat (first | refine blk_drewN ?_ _ | refine blk_drew ?_ | refine blk_alloc ?_ _)); exact BK202.out) hb); have n6_ := Aside0.mk (blk_below (g := gb203) (o := .cells #[.bool a0_0, u204001] 31 (0, 0)) (by (with_reducible repeat (first | refine blk_drewN ?_ _ | refine blk_drew ?_ | refine blk_alloc ?_ _)); exact BK203.out) hb); have n7_ := Aside0.mk (Kd.C_below (by repeat (first | (with_reducible exact HR204_1.out) | (with_reducible refine Kd.C_alloc ?_ _) | (with_reducible refine Kd.C_drewN ?_ _) | (with_reducible refine Kd.C_drew ?_) | exact HR204_1.out)) hb); have n8_ := Aside0.mk (below_step (by repeat (first | (with_reducible first | exact HB.out | apply below_alloc | apply pw_below_drewN | apply below_drew1 | refine below_set ?_ GE201.out | refine below_set ?_ GE202.out | refine below_set ?_ GE203.out) | exact HB.out)) hb); have n9_ := Aside0.mk (hbox); have n10_ := Aside0.mk ((by rw [hg]; exact (below_size (by repeat (first | (with_reducible first | exact HB.out | apply below_alloc | apply pw_below_drewN | apply below_drew1 | refine below_set ?_ GE201.out | refine below_set ?_ GE202.out | refine below_set ?_ GE203.out) | exact HB.out))) : w.heap.size ≤ gb205)); have n11_ := Aside0.mk ((by rw [hg]; exact (below_size (by repeat (first | (with_reducible first | exact HB.out | apply below_alloc | apply pw_below_drewN | apply below_drew1 | refine below_set ?_ GE201.out | refine below_set ?_ GE202.out | refine below_set ?_ GE203.out) | exact HB.out))) : w.heap.size ≤ gb205)); have n12_ := Aside0.mk ((by rw [hg]; exact Nat.ne_of_lt (blk_lt (g := gb201) (o := .cells #[.bool a0_0, .slice (some ad204) l0_1.length c0_1] 24 (0, 0)) (by (with_reducible repeat (first | refine blk_drewN ?_ _ | refine blk_drew ?_ | refine blk_alloc ?_ _)); exact BK201.out)) : gb201 ≠ gb205)); have n13_ := Aside0.mk ((by rw [hg]; exact Nat.ne_of_gt (blk_lt (g := gb201) (o := .cells #[.bool a0_0, .slice (some ad204) l0_1.length c0_1] 24 (0, 0)) (by (with_reducible repeat (first | refine blk_drewN ?_ _ | refine blk_drew ?_ | refine blk_alloc ?_ _)); exact BK201.out)) : gb205 ≠ gb201)); have n14_ := Aside0.mk ((by rw [hg]; exact Nat.ne_of_lt (blk_lt (g := gb202) (o := .cells #[.bool false, .slice none 0 0] 31 (0, 0)) (by (with_reducible repeat (first | refine blk_drewN ?_ _ | refine blk_drew ?_ | refine blk_alloc ?_ _)); exact BK202.out)) : gb202 ≠ gb205)); have n15_ := Aside0.mk ((by rw [hg]; exact Nat.ne_of_gt (blk_lt (g := gb202) (o := .cells #[.bool false, .slice none 0 0] 31 (0, 0)) (by (with_reducible repeat (first | refine blk_drewN ?_ _ | refine blk_drew ?_ | refine blk_alloc ?_ _)); exact BK202.out)) : gb205 ≠ gb202)); have n16_ := Aside0.mk ((by rw [hg]; exact Nat.ne_of_lt (blk_lt (g := gb203) (o := .cells #[.bool a0_0, u204001] 31 (0, 0)) (by (with_reducible repeat (first | refine blk_drewN ?_ _ | refine blk_drew ?_ | refine blk_alloc ?_ _)); exact BK203.out)) : gb203 ≠ gb205)); have n17_ := Aside0.mk ((by rw [hg]; exact Nat.ne_of_gt (blk_lt (g := gb203) (o := .cells #[.bool a0_0, u204001] 31 (0, 0)) (by (with_reducible repeat (first | refine blk_drewN ?_ _ | refine blk_drew ?_ | refine blk_alloc ?_ _)); exact BK203.out)) : gb205 ≠ gb203)); clear HO_10; clear HO_202001; clear HO_204001; clear HL204_1; clear BK201; clear BK202; clear BK203; clear HR204_1; clear HB; have HO_10 := n0_; have HO_202001 := n1_; have HO_204001 := n2_; have HL204_1 := n3_; have BK201 := n4_; have BK202 := n5_; have BK203 := n6_; have HR204_1 := n7_; have HB := n8_; have BK205 := n9_; have GW205 := n10_; have GE205 := n11_; have NB201_205 := n12_; have NB205_201 := n13_; have NB202_205 := n14_; have NB205_202 := n15_; have NB203_205 := n16_; have NB205_203 := n17_; clear n0_ n1_ n2_ n3_ n4_ n5_ n6_ n7_ n8_ n9_ n10_ n11_ n12_ n13_ n14_ n15_ n16_ n17_; clear hb hbox hg; have hnb16 := NB205_201.out; have hnc16 := NB201_205.out; have hnb17 := NB205_202.out; have hnc17 := NB202_205.out; have hnb18 := NB205_203.out; have hnc18 := NB203_205.out; have hcz19_0 : w15.cell? ⟨gb205, 0, none⟩ = some (.int .i64 0) := (blk_cell BK205.out 0).trans rfl; have hcz19_1 : w15.cell? ⟨gb205, 1, none⟩ = some (.slice none 0 0) := (blk_cell BK205.out 1).trans rfl; have hfz19_0 := blk_frozen BK205.out 0; have hfz19_1 := blk_frozen BK205.out 1) | ((with_reducible refine gate_store (t := 46) (p := 5) rfl ?_); refine store_event (t := 46) (p := 5) (v := ?vo_w20) (w1 := ((w15.setCell ⟨gb205, 0, none⟩ (.int .i64 ((rd_T46 l0_1 x12_1).f0))).setCell ⟨gb205, 1, none⟩ (.slice A204_1 ((rd_T46 l0_1 x12_1).f1).length c204_1))) ?hg ?ho ?hn ?hr ?_; (case ho => rfl); (case hg => rfl); (case hn => rfl); (case hr => first | (go_simp; done) | (go_simp; rfl)); intro w20 hw; have n0_ : Aside0 (Kd.V k46 46 w20 w.heap.size (fun k_ => (P0_1_ k_ ∨ w.heap.size ≤ k_) ∧ some k_ ≠ (u204001 : Value).ownBlock ∧ k_ ≠ gb201 ∧ k_ ≠ gb202 ∧ k_ ≠ gb203 ∧ k_ ≠ gb205) (.slice (some ad204) l0_1.length c0_1) l0_1) := ⟨(by rw [hw]; exact (by (with_reducible repeat (first | apply Kd.V_alloc | apply Kd.V_drewN | apply Kd.V_drew)); exact Kd.V_mono (Kd.V_far (p := ⟨gb205, 1, none⟩) (Kd.V_far (p := ⟨gb205, 0, none⟩) (Kd.V_mono HO_10.out (fun k_ hk => (⟨hk, hk.2⟩ : _ ∧ k_ ≠ gb205))) (fun _ hk => hk.2) (.int .i64 ((rd_T46 l0_1 x12_1).f0))) (fun _ hk => hk.2) (.slice A204_1 ((rd_T46 l0_1 x12_1).f1).length c204_1)) (fun _ hk => ⟨hk.1.1.1, ⟨hk.1.1.2.1, ⟨hk.1.1.2.2.1, ⟨hk.1.1.2.2.2.1, ⟨hk.1.1.2.2.2.2, hk.1.2⟩⟩⟩⟩⟩)))⟩; have n1_ : Aside0 (Kd.V k46 46 w20 w.heap.size (fun k_ => (P0_1_ k_ ∨ w.heap.size ≤ k_) ∧ some k_ ≠ (u204001 : Value).ownBlock ∧ k_ ≠ gb201 ∧ k_ ≠ gb202 ∧ k_ ≠ gb203 ∧ k_ ≠ gb205) (.slice (some ad204) l0_1.length c0_1) l0_1) := ⟨(by rw [hw]; exact (by (with_reducible repeat (first | apply Kd.V_alloc | apply Kd.V_drewN | apply Kd.V_drew)); exact Kd.V_mono (Kd.V_far (p := ⟨gb205, 1, none⟩) (Kd.V_far (p := ⟨gb205, 0, none⟩) (Kd.V_mono HO_202001.out (fun k_ hk => (⟨hk, hk.2⟩ : _ ∧ k_ ≠ gb205))) (fun _ hk => hk.2) (.int .i64 ((rd_T46 l0_1 x12_1).f0))) (fun _ hk => hk.2) (.slice A204_1 ((rd_T46 l0_1 x12_1).f1).length c204_1)) (fun _ hk => ⟨hk.1.1.1, ⟨hk.1.1.2.1, ⟨hk.1.1.2.2.1, ⟨hk.1.1.2.2.2.1, ⟨hk.1.1.2.2.2.2, hk.1.2⟩⟩⟩⟩⟩)))⟩; have n2_ : Aside0 (Kd.N k52 52 w20 w.heap.size (fun k_ => (P0_1_ k_ ∨ w.heap.size ≤ k_) ∧ k_ ≠ gb201 ∧ k_ ≠ gb202 ∧ k_ ≠ gb203 ∧ k_ ≠ gb205) u204001 x204001_1) := ⟨(by rw [hw]; exact (by (with_reducible repeat (first | apply Kd.N_alloc | apply Kd.N_drewN | apply Kd.N_drew)); exact Kd.N_mono (Kd.N_far (p := ⟨gb205, 1, none⟩) (Kd.N_far (p := ⟨gb205, 0, none⟩) (Kd.N_mono HO_204001.out (fun k_ hk => (⟨hk, hk.2⟩ : _ ∧ k_ ≠ gb205))) (fun _ hk => hk.2) (.int .i64 ((rd_T46 l0_1 x12_1).f0))) (fun _ hk => hk.2) (.slice A204_1 ((rd_T46 l0_1 x12_1).f1).length c204_1)) (fun _ hk => ⟨hk.1.1.1, ⟨hk.1.1.2.1, ⟨hk.1.1.2.2.1, ⟨hk.1.1.2.2.2, hk.1.2⟩⟩⟩⟩)))⟩; have n3_ : Aside0 (Kd.V (Kd.int .i64) 3 w20 w.heap.size (fun k_ => (P0_1_ k_ ∨ w.heap.size ≤ k_) ∧ some k_ ≠ (u204001 : Value).ownBlock ∧ k_ ≠ gb201 ∧ k_ ≠ gb202 ∧ k_ ≠ gb203 ∧ k_ ≠ gb205) (.slice A204_1 ((rd_T46 l0_1 x12_1).f1).length c204_1) ((rd_T46 l0_1 x12_1).f1)) := ⟨(by rw [hw]; exact (by (with_reducible repeat (first | apply Kd.V_alloc | apply Kd.V_drewN | apply Kd.V_drew)); exact Kd.V_mono (Kd.V_far (p := ⟨gb205, 1, none⟩) (Kd.V_far (p := ⟨gb205, 0, none⟩) (Kd.V_mono HL204_1.out (fun k_ hk => (⟨hk, hk.2⟩ : _ ∧ k_ ≠ gb205))) (fun _ hk => hk.2) (.int .i64 ((rd_T46 l0_1 x12_1).f0))) (fun _ hk => hk.2) (.slice A204_1 ((rd_T46 l0_1 x12_1).f1).length c204_1)) (fun _ hk => ⟨hk.1.1.1, ⟨hk.1.1.2.1, ⟨hk.1.1.2.2.1, ⟨hk.1.1.2.2.2.1, ⟨hk.1.1.2.2.2.2, hk.1.2⟩⟩⟩⟩⟩)))⟩; have n4_ : Aside0 (w20.heap[gb201]? = some (.cells #[.bool a0_0, .slice (some ad204) l0_1.length c0_1] 24 (0, 0))) := ⟨(by rw [hw]; exact (by (with_reducible repeat (first | refine blk_drewN ?_ _ | refine blk_drew ?_ | refine blk_alloc ?_ _)); refine blk_far ?_ NB201_205.out _; (with_reducible repeat (first | refine blk_drewN ?_ _ | refine blk_drew ?_ | refine blk_alloc ?_ _)); refine blk_far ?_ NB201_205.out _; (with_reducible repeat (first | refine blk_drewN ?_ _ | refine blk_drew ?_ | refine blk_alloc ?_ _)); exact BK201.out))⟩; have n5_ : Aside0 (w20.heap[gb202]? = some (.cells #[.bool false, .slice none 0 0] 31 (0, 0))) := ⟨(by rw [hw]; exact (by (with_reducible repeat (first | refine blk_drewN ?_ _ | refine blk_drew ?_ | refine blk_alloc ?_ _)); refine blk_far ?_ NB202_205.out _; (with_reducible repeat (first | refine blk_drewN ?_ _ | refine blk_drew ?_ | refine blk_alloc ?_ _)); refine blk_far ?_ NB202_205.out _; (with_reducible repeat (first | refine blk_drewN ?_ _ | refine blk_drew ?_ | refine blk_alloc ?_ _)); exact BK202.out))⟩; have n6_ : Aside0 (w20.heap[gb203]? = some (.cells #[.bool a0_0, u204001] 31 (0, 0))) := ⟨(by rw [hw]; exact (by (with_reducible repeat (first | refine blk_drewN ?_ _ | refine blk_drew ?_ | refine blk_alloc ?_ _)); refine blk_far ?_ NB203_205.out _; (with_reducible repeat (first | refine blk_drewN ?_ _ | refine blk_drew ?_ | refine blk_alloc ?_ _)); refine blk_far ?_ NB203_205.out _; (with_reducible repeat (first | refine blk_drewN ?_ _ | refine blk_drew ?_ | refine blk_alloc ?_ _)); exact BK203.out))⟩; have n7_ : Aside0 (w20.heap[gb205]? = some (.cells #[.int .i64 ((rd_T46 l0_1 x12_1).f0), .slice A204_1 ((rd_T46 l0_1 x12_1).f1).length c204_1] 46 (0, 0))) := ⟨(by rw [hw]; exact (by (with_reducible repeat (first | refine blk_drewN ?_ _ | refine blk_drew ?_ | refine blk_alloc ?_ _)); refine blk_put (cs := #[.int .i64 ((rd_T46 l0_1 x12_1).f0), .slice none 0 0]) ?_ 1 _ rfl; (with_reducible repeat (first | refine blk_drewN ?_ _ | refine blk_drew ?_ | refine blk_alloc ?_ _)); refine blk_put (cs := #[.int .i64 0, .slice none 0 0]) ?_ 0 _ rfl; (with_reducible repeat (first | refine blk_drewN ?_ _ | refine blk_drew ?_ | refine blk_alloc ?_ _)); exact BK205.out))⟩; have n8_ : Aside0 (Below w.heap.size w w20) := ⟨(by rw [hw]; exact (by repeat (first | (with_reducible first | exact HB.out | apply below_alloc | apply pw_below_drewN | apply below_drew1 | refine below_set ?_ GE201.out | refine below_set ?_ GE202.out | refine below_set ?_ GE203.out | refine below_set ?_ GE205.out) | exact HB.out)))⟩; clear hw; clear HO_10; clear HO_202001; clear HO_204001; clear HL204_1; clear BK201; clear BK202; clear BK203; clear BK205; clear HB; have HO_10 := n0_; have HO_202001 := n1_; have HO_204001 := n2_; have HL204_1 := n3_; have BK201 := n4_; have BK202 := n5_; have BK203 := n6_; have BK205 := n7_; have HB := n8_; clear n0_ n1_ n2_ n3_ n4_ n5_ n6_ n7_ n8_; have hnb21 := NB203_201.out; have hnc21 := NB201_203.out; have hnb22 := NB203_202.out; have hnc22 := NB202_203.out; have hcz23_0 : w20.cell? ⟨gb203, 0, none⟩ = some (.bool a0_0) := (blk_cell BK203.out 0).trans rfl; have hcz23_1 : w20.cell? ⟨gb203, 1, none⟩ = some (u204001) := (blk_cell BK203.out 1).trans rfl; have hfz23_0 := blk_frozen BK203.out 0; have hfz23_1 := blk_frozen BK203.out 1; have hcz24_0 : w20.cell? ⟨gb205, 0, none⟩ = some (.int .i64 ((rd_T46 l0_1 x12_1).f0)) := (blk_cell BK205.out 0).trans rfl; have hcz24_1 : w20.cell? ⟨gb205, 1, none⟩ = some (.slice A204_1 ((rd_T46 l0_1 x12_1).f1).length c204_1) := (blk_cell BK205.out 1).trans rfl; have hfz24_0 := blk_frozen BK205.out 0; have hfz24_1 := blk_frozen BK205.out 1) | ((with_reducible refine gate_builtin (b := .append) (xs := #[.tmp 17, .tmp 23]) rfl ?_); at_builtin; refine Kd.N_append k52 (w0 := w) w.heap.size rfl (.tmp 17) (.tmp 23) 29 52 (.agg #[(.int .i64 0), (.slice none 0 0)]) 32 rfl Tryd.underlying29 info52 rfl (by decide) (by omega) u204001 x204001_1 (⟨(rd_T46 l0_1 x12_1).f0, (rd_T46 l0_1 x12_1).f1⟩ : S52) [.int .i64 ((rd_T46 l0_1 x12_1).f0), .slice A204_1 ((rd_T46 l0_1 x12_1).f1).length c204_1] (fun k_ => (P0_1_ k_ ∨ w.heap.size ≤ k_) ∧ k_ ≠ gb201 ∧ k_ ≠ gb202 ∧ k_ ≠ gb203 ∧ k_ ≠ gb205) (fun k_ => ((fun k_ => (P0_1_ k_ ∨ w.heap.size ≤ k_) ∧ k_ ≠ gb201 ∧ k_ ≠ gb202 ∧ k_ ≠ gb203 ∧ k_ ≠ gb205)) k_ ∧ some k_ ≠ (u204001 : Value).ownBlock) rfl rfl ?aP (fun _ hk => hk) ?aF ?aO ?aB ?aS ?aL ?_; (case aP => exact (k52_mkF _ _ (⟨(rd_T46 l0_1 x12_1).f0, (rd_T46 l0_1 x12_1).f1⟩ : S52) (Kd.V_reads' (Kd.V_mono (ok' := (fun k_ => ((fun k_ => (P0_1_ k_ ∨ w.heap.size ≤ k_) ∧ k_ ≠ gb201 ∧ k_ ≠ gb202 ∧ k_ ≠ gb203 ∧ k_ ≠ gb205)) k_ ∧ some k_ ≠ (u204001 : Value).ownBlock)) (HL204_1.out) (fun k_ hk => ⟨⟨hk.1, ⟨hk.2.2.1, ⟨hk.2.2.2.1, ⟨hk.2.2.2.2.1, hk.2.2.2.2.2⟩⟩⟩⟩, hk.2.1⟩))).2.1 (Kd.V_F (Kd.V_mono (ok' := (fun k_ => ((fun k_ => (P0_1_ k_ ∨ w.heap.size ≤ k_) ∧ k_ ≠ gb201 ∧ k_ ≠ gb202 ∧ k_ ≠ gb203 ∧ k_ ≠ gb205)) k_ ∧ some k_ ≠ (u204001 : Value).ownBlock)) (HL204_1.out) (fun k_ hk => ⟨⟨hk.1, ⟨hk.2.2.1, ⟨hk.2.2.2.1, ⟨hk.2.2.2.2.1, hk.2.2.2.2.2⟩⟩⟩⟩, hk.2.1⟩))))); (case aB => exact (by repeat (first | (with_reducible first | exact HB.out | apply below_alloc | apply pw_below_drewN | apply below_drew1 | refine below_set ?_ GE201.out | refine below_set ?_ GE202.out | refine below_set ?_ GE203.out | refine below_set ?_ GE205.out) | exact HB.out))); (case aF => exact (fun k_ hk => ⟨(.inr (Nat.le_trans (below_size (by repeat (first | (with_reducible first | exact HB.out | apply below_alloc | apply pw_below_drewN | apply below_drew1 | refine below_set ?_ GE201.out | refine below_set ?_ GE202.out | refine below_set ?_ GE203.out | refine below_set ?_ GE205.out) | exact HB.out))) hk)), Kd.freshB (g := gb201) (o := .cells #[.bool a0_0, .slice (some ad204) l0_1.length c0_1] 24 (0, 0)) (by (with_reducible repeat (first | refine blk_drewN ?_ _ | refine blk_drew ?_ | refine blk_alloc ?_ _)); exact BK201.out) k_ hk, Kd.freshB (g := gb202) (o := .cells #[.bool false, .slice none 0 0] 31 (0, 0)) (by (with_reducible repeat (first | refine blk_drewN ?_ _ | refine blk_drew ?_ | refine blk_alloc ?_ _)); exact BK202.out) k_ hk, Kd.freshB (g := gb203) (o := .cells #[.bool a0_0, u204001] 31 (0, 0)) (by (with_reducible repeat (first | refine blk_drewN ?_ _ | refine blk_drew ?_ | refine blk_alloc ?_ _)); exact BK203.out) k_ hk, Kd.freshB (g := gb205) (o := .cells #[.int .i64 ((rd_T46 l0_1 x12_1).f0), .slice A204_1 ((rd_T46 l0_1 x12_1).f1).length c204_1] 46 (0, 0)) (by (with_reducible repeat (first | refine blk_drewN ?_ _ | refine blk_drew ?_ | refine blk_alloc ?_ _)); exact BK205.out) k_ hk⟩)); (case aO => exact (by (with_reducible repeat (first | apply Kd.N_alloc | apply Kd.N_drewN | apply Kd.N_drew)); exact HO_204001.out)); (case aS => exact (below_size (by repeat (first | (with_reducible first | exact HB.out | apply below_alloc | apply pw_below_drewN | apply below_drew1 | refine below_set ?_ GE201.out | refine below_set ?_ GE202.out | refine below_set ?_ GE203.out | refine below_set ?_ GE205.out) | exact HB.out)))); (case aL => have := LMc14.out; omega); intro v207 w25 ho hb hg hat; rw [← Ny206.out] at ho; have n0_ := Aside0.mk (Kd.V_afterv (ok := (fun k_ => (P0_1_ k_ ∨ w.heap.size ≤ k_) ∧ k_ ≠ gb201 ∧ k_ ≠ gb202 ∧ k_ ≠ gb203 ∧ k_ ≠ gb205)) (by (with_reducible repeat (first | apply Kd.V_alloc | apply Kd.V_drewN | apply Kd.V_drew)); exact Kd.V_mono HO_10.out (fun _ hk => ⟨⟨hk.1, ⟨hk.2.2.1, ⟨hk.2.2.2.1, ⟨hk.2.2.2.2.1, hk.2.2.2.2.2⟩⟩⟩⟩, hk.2.1⟩)) hg hat); have n1_ := Aside0.mk (Kd.V_afterv (ok := (fun k_ => (P0_1_ k_ ∨ w.heap.size ≤ k_) ∧ k_ ≠ gb201 ∧ k_ ≠ gb202 ∧ k_ ≠ gb203 ∧ k_ ≠ gb205)) (by (with_reducible repeat (first | apply Kd.V_alloc | apply Kd.V_drewN | apply Kd.V_drew)); exact Kd.V_mono HO_202001.out (fun _ hk => ⟨⟨hk.1, ⟨hk.2.2.1, ⟨hk.2.2.2.1, ⟨hk.2.2.2.2.1, hk.2.2.2.2.2⟩⟩⟩⟩, hk.2.1⟩)) hg hat); have n2_ := Aside0.mk (blk_grown (g := gb201) (o := .cells #[.bool a0_0, .slice (some ad204) l0_1.length c0_1] 24 (0, 0)) (by (with_reducible repeat (first | refine blk_drewN ?_ _ | refine blk_drew ?_ | refine blk_alloc ?_ _)); exact BK201.out) hg (Kd.N_ne HO_204001.out BK201.out (by decide))); have n3_ := Aside0.mk (blk_grown (g := gb202) (o := .cells #[.bool false, .slice none 0 0] 31 (0, 0)) (by (with_reducible repeat (first | refine blk_drewN ?_ _ | refine blk_drew ?_ | refine blk_alloc ?_ _)); exact BK202.out) hg (Kd.N_ne HO_204001.out BK202.out (by decide))); have n4_ := Aside0.mk (blk_grown (g := gb203) (o := .cells #[.bool a0_0, u204001] 31 (0, 0)) (by (with_reducible repeat (first | refine blk_drewN ?_ _ | refine blk_drew ?_ | refine blk_alloc ?_ _)); exact BK203.out) hg (Kd.N_ne HO_204001.out BK203.out (by decide))); have n5_ := Aside0.mk (Kd.V_afterv (ok := (fun k_ => (P0_1_ k_ ∨ w.heap.size ≤ k_) ∧ k_ ≠ gb201 ∧ k_ ≠ gb202 ∧ k_ ≠ gb203 ∧ k_ ≠ gb205)) (by (with_reducible repeat (first | apply Kd.V_alloc | apply Kd.V_drewN | apply Kd.V_drew)); exact Kd.V_mono HL204_1.out (fun _ hk => ⟨⟨hk.1, ⟨hk.2.2.1, ⟨hk.2.2.2.1, ⟨hk.2.2.2.2.1, hk.2.2.2.2.2⟩⟩⟩⟩, hk.2.1⟩)) hg hat); have n6_ := Aside0.mk (blk_grown (g := gb205) (o := .cells #[.int .i64 ((rd_T46 l0_1 x12_1).f0), .slice A204_1 ((rd_T46 l0_1 x12_1).f1).length c204_1] 46 (0, 0)) (by (with_reducible repeat (first | refine blk_drewN ?_ _ | refine blk_drew ?_ | refine blk_alloc ?_ _)); exact BK205.out) hg (Kd.N_ne HO_204001.out BK205.out (by decide))); have n7_ := Aside0.mk (hb); have n8_ := Aside0.mk (ho); clear HO_10; clear HO_202001; clear BK201; clear BK202; clear BK203; clear HL204_1; clear BK205; clear HB; clear HO_204001; have HO_10 := n0_; have HO_202001 := n1_; have BK201 := n2_; have BK202 := n3_; have BK203 := n4_; have HL204_1 := n5_; have BK205 := n6_; have HB := n7_; have HO208 := n8_; clear n0_ n1_ n2_ n3_ n4_ n5_ n6_ n7_ n8_; clear ho hb hg hat; obtain ⟨Ao26, co26, eo26⟩ := Kd.N_slice HO208.out; subst eo26; have hcz27_0 : w25.cell? ⟨gb203, 0, none⟩ = some (.bool a0_0) := (blk_cell BK203.out 0).trans rfl; have hcz27_1 : w25.cell? ⟨gb203, 1, none⟩ = some (u204001) := (blk_cell BK203.out 1).trans rfl; have hfz27_0 := blk_frozen BK203.out 0; have hfz27_1 := blk_frozen BK203.out 1))
              go_roundg k1
              case measure => have := HK1.out; omega
              case rel => exact ⟨(wrap64 (x12_1 + 1)), (y206), (.slice Ao26 y206.length co26), (by first | rfl | (simp; done) | (simp [*]; done)), H', ⟨by have := HK1.out; omega⟩, ⟨by (with_reducible repeat (first | apply Kd.V_alloc | apply Kd.V_drewN | apply Kd.V_drew)); exact Kd.V_mono (Kd.V_far (p := ⟨gb203, 1, none⟩) (Kd.V_mono HO_10.out (fun k_ hk => (⟨hk, hk.1.2.2.2.1⟩ : _ ∧ k_ ≠ gb203))) (fun _ hk => hk.2) (.slice Ao26 y206.length co26)) (fun _ hk => ⟨hk.1.1.1, ⟨hk.1.2, ⟨hk.1.1.2.1, ⟨hk.1.1.2.2.1, hk.1.1.2.2.2.1⟩⟩⟩⟩)⟩, ⟨by (with_reducible repeat (first | apply Kd.V_alloc | apply Kd.V_drewN | apply Kd.V_drew)); exact Kd.V_mono (Kd.V_far (p := ⟨gb203, 1, none⟩) (Kd.V_mono HO_202001.out (fun k_ hk => (⟨hk, hk.1.2.2.2.1⟩ : _ ∧ k_ ≠ gb203))) (fun _ hk => hk.2) (.slice Ao26 y206.length co26)) (fun _ hk => ⟨hk.1.1.1, ⟨hk.1.2, ⟨hk.1.1.2.1, ⟨hk.1.1.2.2.1, hk.1.1.2.2.2.1⟩⟩⟩⟩)⟩, ⟨by (with_reducible repeat (first | apply Kd.N_alloc | apply Kd.N_drewN | apply Kd.N_drew)); exact Kd.N_mono (Kd.N_far (p := ⟨gb203, 1, none⟩) (Kd.N_mono HO208.out (fun k_ hk => (⟨hk, hk.2.2.2.1⟩ : _ ∧ k_ ≠ gb203))) (fun _ hk => hk.2) (.slice Ao26 y206.length co26)) (fun _ hk => ⟨hk.1.1, ⟨hk.1.2.1, ⟨hk.1.2.2.1, hk.1.2.2.2.1⟩⟩⟩)⟩, ⟨by (with_reducible repeat (first | refine blk_drewN ?_ _ | refine blk_drew ?_ | refine blk_alloc ?_ _)); refine blk_far ?_ NB201_203.out _; (with_reducible repeat (first | refine blk_drewN ?_ _ | refine blk_drew ?_ | refine blk_alloc ?_ _)); exact BK201.out⟩, ⟨by (with_reducible repeat (first | refine blk_drewN ?_ _ | refine blk_drew ?_ | refine blk_alloc ?_ _)); refine blk_far ?_ NB202_203.out _; (with_reducible repeat (first | refine blk_drewN ?_ _ | refine blk_drew ?_ | refine blk_alloc ?_ _)); exact BK202.out⟩, ⟨by (with_reducible repeat (first | refine blk_drewN ?_ _ | refine blk_drew ?_ | refine blk_alloc ?_ _)); refine blk_put (cs := #[.bool a0_0, u204001]) ?_ 1 _ rfl; (with_reducible repeat (first | refine blk_drewN ?_ _ | refine blk_drew ?_ | refine blk_alloc ?_ _)); exact BK203.out⟩, ⟨by repeat (first | (with_reducible first | exact HB.out | apply below_alloc | apply pw_below_drewN | apply below_drew1 | refine below_set ?_ GE201.out | refine below_set ?_ GE202.out | refine below_set ?_ GE203.out | refine below_set ?_ GE205.out) | exact HB.out)⟩⟩
            · rw [if_neg c14] at H
              exact absurd H (by simp)
          · rw [if_neg c13] at H
            exact absurd H (by simp)
        · rw [if_neg c12] at H
          exact absurd H (by simp)
      · rw [if_neg c11] at H
        have c11b0 : decide (x12_1 < (l0_1.length : Int)) = false := decide_eq_false c11
        clear c11
        simp only [Option.some.injEq, Prod.mk.injEq] at H
        obtain ⟨rfl, rfl⟩ := H
        have hnb28 := NB203_201.out
        have hnc28 := NB201_203.out
        have hnb29 := NB203_202.out
        have hnc29 := NB202_203.out
        have hcz30_0 : wr.cell? ⟨gb203, 0, none⟩ = some (.bool a0_0) := (blk_cell BK203.out 0).trans rfl
        have hcz30_1 : wr.cell? ⟨gb203, 1, none⟩ = some (u204001) := (blk_cell BK203.out 1).trans rfl
        have hfz30_0 := blk_frozen BK203.out 0
        have hfz30_1 := blk_frozen BK203.out 1
        have hnb31 := NB202_201.out
        have hnc31 := NB201_202.out
        have hcz32_0 : wr.cell? ⟨gb202, 0, none⟩ = some (.bool false) := (blk_cell BK202.out 0).trans rfl
        have hcz32_1 : wr.cell? ⟨gb202, 1, none⟩ = some (.slice none 0 0) := (blk_cell BK202.out 1).trans rfl
        have hfz32_0 := blk_frozen BK202.out 0
        have hfz32_1 := blk_frozen BK202.out 1
        obtain ⟨Ao33, co33, eo33⟩ := Kd.N_slice HO_204001.out
        subst eo33
        go_wp2
        refine bodyPost_ret (results_cell_row rfl _ _ gb202 31 #[.bool a0_0, .slice Ao33 x204001_1.length co33] (0, 0) _ rfl (by (with_reducible repeat (first | refine blk_drewN ?_ _ | refine blk_drew ?_ | refine blk_alloc ?_ _)); refine blk_put (cs := #[.bool a0_0, .slice none 0 0]) ?_ 1 _ rfl; (with_reducible repeat (first | refine blk_drewN ?_ _ | refine blk_drew ?_ | refine blk_alloc ?_ _)); refine blk_put (cs := #[.bool false, .slice none 0 0]) ?_ 0 _ rfl; (with_reducible repeat (first | refine blk_drewN ?_ _ | refine blk_drew ?_ | refine blk_alloc ?_ _)); exact BK202.out) Tryd.underlying31 rfl (by kernel_rfl)) rfl ?_
        exact ⟨_, by first | rfl | (simp [errW_none, errW_some] <;> rfl) | (simp [*, errW_none, errW_some] <;> rfl), by (with_reducible repeat (first | apply Kd.N_alloc | apply Kd.N_drewN | apply Kd.N_drew)); exact Kd.N_mono (Kd.N_far (p := ⟨gb202, 1, none⟩) (Kd.N_far (p := ⟨gb202, 0, none⟩) (Kd.N_mono HO_204001.out (fun k_ hk => (⟨hk, hk.2.2.1⟩ : _ ∧ k_ ≠ gb202))) (fun _ hk => hk.2) (.bool a0_0)) (fun _ hk => hk.2) (.slice Ao33 x204001_1.length co33)) (fun _ hk => hk.1.1), by repeat (first | (with_reducible first | exact HB.out | apply below_alloc | apply pw_below_drewN | apply below_drew1 | refine below_set ?_ GE201.out | refine below_set ?_ GE202.out | refine below_set ?_ GE203.out) | exact HB.out)⟩
def marlinspikeref07_Ended.f (a0 : Int) : Option (Bool) := if a0 = 3 then (some true) else (if a0 = 4 then (some true) else (if a0 = 5 then (some true) else (if a0 = 6 then (some true) else (some false))))
set_option maxHeartbeats 8000000 in
set_option maxRecDepth 100000 in
theorem marlinspikeref07_Ended.calls (a0 : Int) (r : Bool) (w : World) (h : marlinspikeref07_Ended.f a0 = some r) :
    Calls Tryd.prog 18 #[.int .i64 a0] w fun e w' => e = .returned (.bool r) ∧ Drawn0 w w' := by
  have H : (if a0 = 3 then (some true) else (if a0 = 4 then (some true) else (if a0 = 5 then (some true) else (if a0 = 6 then (some true) else (some false))))) = some r := h
  clear h
  by_cases c2 : a0 = 3
  · rw [if_pos c2] at H
    have c2b0 : (a0 == 3) = true := beq_iff_eq.mpr c2
    have c2b1 : (a0 != 3) = false := bne_eq_false_iff_eq.mpr c2
    clear c2
    obtain rfl := Option.some.inj H
    go_enter Tryd.func18, Tryd.ntmps18
    go_wp2
    go_ret
    exact ⟨by first | rfl | (simp; done) | (simp [*]; done), by repeat (first | exact Drawn0.refl _ | apply Drawn0.step)⟩
  · rw [if_neg c2] at H
    have c2b0 : (a0 == 3) = false := beq_eq_false_iff_ne.mpr c2
    have c2b1 : (a0 != 3) = true := bne_iff_ne.mpr c2
    by_cases c3 : a0 = 4
    · rw [if_pos c3] at H
      have c3b0 : (a0 == 4) = true := beq_iff_eq.mpr c3
      have c3b1 : (a0 != 4) = false := bne_eq_false_iff_eq.mpr c3
      clear c3
      obtain rfl := Option.some.inj H
      go_enter Tryd.func18, Tryd.ntmps18
      go_wp2
      go_ret
      exact ⟨by first | rfl | (simp; done) | (simp [*]; done), by repeat (first | exact Drawn0.refl _ | apply Drawn0.step)⟩
    · rw [if_neg c3] at H
      have c3b0 : (a0 == 4) = false := beq_eq_false_iff_ne.mpr c3
      have c3b1 : (a0 != 4) = true := bne_iff_ne.mpr c3
      by_cases c4 : a0 = 5
      · rw [if_pos c4] at H
        have c4b0 : (a0 == 5) = true := beq_iff_eq.mpr c4
        have c4b1 : (a0 != 5) = false := bne_eq_false_iff_eq.mpr c4
        clear c4
        obtain rfl := Option.some.inj H
        go_enter Tryd.func18, Tryd.ntmps18
        go_wp2
        go_ret
        exact ⟨by first | rfl | (simp; done) | (simp [*]; done), by repeat (first | exact Drawn0.refl _ | apply Drawn0.step)⟩
      · rw [if_neg c4] at H
        have c4b0 : (a0 == 5) = false := beq_eq_false_iff_ne.mpr c4
        have c4b1 : (a0 != 5) = true := bne_iff_ne.mpr c4
        by_cases c5 : a0 = 6
        · rw [if_pos c5] at H
          have c5b0 : (a0 == 6) = true := beq_iff_eq.mpr c5
          have c5b1 : (a0 != 6) = false := bne_eq_false_iff_eq.mpr c5
          clear c5
          obtain rfl := Option.some.inj H
          go_enter Tryd.func18, Tryd.ntmps18
          go_wp2
          go_ret
          exact ⟨by first | rfl | (simp; done) | (simp [*]; done), by repeat (first | exact Drawn0.refl _ | apply Drawn0.step)⟩
        · rw [if_neg c5] at H
          have c5b0 : (a0 == 6) = false := beq_eq_false_iff_ne.mpr c5
          have c5b1 : (a0 != 6) = true := bne_iff_ne.mpr c5
          obtain rfl := Option.some.inj H
          go_enter Tryd.func18, Tryd.ntmps18
          go_wp2
          go_ret
          exact ⟨by first | rfl | (simp; done) | (simp [*]; done), by repeat (first | exact Drawn0.refl _ | apply Drawn0.step)⟩
def marlinspikeref07_One.j0 : Nat → Int → Bool → Option (Int)
  | 0, _, _ => none
  | k + 1, x1, x5 => if x5 = true then (some 1) else ((marlinspikeref07_Ended.f x1).bind fun t211 => (if t211 = true then (some 2) else (if x1 = 7 then (some 2) else (some 0))))
def marlinspikeref07_One.f (k : Nat) (a0 : Int) (a1 : Int) : Option (Int) := if a0 = 1 then (if a1 = 2 then (marlinspikeref07_One.j0 k a1 true) else ((marlinspikeref07_Ended.f a1).bind fun t209 => (marlinspikeref07_One.j0 k a1 t209))) else (if a0 = 2 then (marlinspikeref07_One.j0 k a1 (a1 == 3)) else (if a0 = 3 then (if a1 = 4 then (marlinspikeref07_One.j0 k a1 true) else (marlinspikeref07_One.j0 k a1 (a1 == 6))) else (if a0 = 4 then ((marlinspikeref07_Ended.f a1).bind fun t210 => (marlinspikeref07_One.j0 k a1 t210)) else (some 0))))
theorem marlinspikeref07_One.mono_l : ∀ k, (∀ y0 y1, LeO (marlinspikeref07_One.j0 k y0 y1) (marlinspikeref07_One.j0 (k + 1) y0 y1))
  | 0 => fun _ _ r h => by simp [marlinspikeref07_One.j0] at h
  | k + 1 => by
    have ih0 := marlinspikeref07_One.mono_l k
    · intro y0 y1
      unfold marlinspikeref07_One.j0
      repeat' first
      | (with_reducible exact ih0 _ _)
      | (with_reducible exact LeO.refl _)
      | (with_reducible exact LeO.none _)
      | (with_reducible refine LeO.ite ?_ ?_)
      | (with_reducible refine LeO.bind ?_ (fun _ => ?_))
      | exact ih0 _ _
      | exact LeO.none _
      | refine LeO.ite ?_ ?_
      | refine LeO.bind ?_ (fun _ => ?_)
theorem marlinspikeref07_One.mono : ∀ a0 a1 k, LeO (marlinspikeref07_One.f k a0 a1) (marlinspikeref07_One.f (k + 1) a0 a1) := by
  intro a0 a1 k
  have ih0 := marlinspikeref07_One.mono_l k
  unfold marlinspikeref07_One.f
  repeat' first
      | (with_reducible exact ih0 _ _)
      | (with_reducible exact LeO.refl _)
      | (with_reducible exact LeO.none _)
      | (with_reducible refine LeO.ite ?_ ?_)
      | (with_reducible refine LeO.bind ?_ (fun _ => ?_))
      | exact ih0 _ _
      | exact LeO.none _
      | refine LeO.ite ?_ ?_
      | refine LeO.bind ?_ (fun _ => ?_)
set_option maxHeartbeats 8000000 in
set_option maxRecDepth 100000 in
theorem marlinspikeref07_One.calls (k : Nat) (a0 : Int) (a1 : Int) (r : Int) (w : World) (h : marlinspikeref07_One.f k a0 a1 = some r) :
    Calls Tryd.prog 25 #[.int .i64 a0, .int .i64 a1] w fun e w' => e = .returned (.int .i64 r) ∧ Drawn0 w w' := by
  have H : (if a0 = 1 then (if a1 = 2 then (marlinspikeref07_One.j0 k a1 true) else ((marlinspikeref07_Ended.f a1).bind fun t209 => (marlinspikeref07_One.j0 k a1 t209))) else (if a0 = 2 then (marlinspikeref07_One.j0 k a1 (a1 == 3)) else (if a0 = 3 then (if a1 = 4 then (marlinspikeref07_One.j0 k a1 true) else (marlinspikeref07_One.j0 k a1 (a1 == 6))) else (if a0 = 4 then ((marlinspikeref07_Ended.f a1).bind fun t210 => (marlinspikeref07_One.j0 k a1 t210)) else (some 0))))) = some r := h
  clear h
  have HC3 := Aside0.mk H
  clear H
  go_enter Tryd.func25, Tryd.ntmps25
  go_upto_block 0 with (fail)
  go_cut [5] (fun v5 wc => ∃ (kq : Nat) (x5_2 : Bool), v5 = .bool x5_2 ∧ Aside0 (marlinspikeref07_One.j0 kq a1 x5_2 = some r) ∧ Aside0 (kq ≤ k) ∧ Drawn0 w wc)
  case first =>
    have H := HC3.out
    clear HC3
    by_cases c4 : a0 = 1
    · rw [if_pos c4] at H
      have c4b0 : (a0 == 1) = true := beq_iff_eq.mpr c4
      have c4b1 : (a0 != 1) = false := bne_eq_false_iff_eq.mpr c4
      clear c4
      (first | rw [c4b0] | (simp only [i64_w, i32_w]; rw [c4b0]) | skip)
      by_cases c5 : a1 = 2
      · rw [if_pos c5] at H
        have c5b0 : (a1 == 2) = true := beq_iff_eq.mpr c5
        have c5b1 : (a1 != 2) = false := bne_eq_false_iff_eq.mpr c5
        clear c5
        have H' := Aside0.mk H
        clear H
        go_wp2
        go_meet
        case rel => exact ⟨_, (true), (by first | rfl | (simp; done) | (simp [*]; done)), H', ⟨by first | omega | exact Nat.le_refl _⟩, by repeat (first | exact Drawn0.refl _ | apply Drawn0.step)⟩
      · rw [if_neg c5] at H
        have c5b0 : (a1 == 2) = false := beq_eq_false_iff_ne.mpr c5
        have c5b1 : (a1 != 2) = true := bne_iff_ne.mpr c5
        replace H := Option.bind_eq_some_iff.mp H
        obtain ⟨t209, A60, H⟩ := H
        replace H : (marlinspikeref07_One.j0 k a1 t209) = some r := H
        have A6 := Aside0.mk A60
        clear A60
        have H' := Aside0.mk H
        clear H
        go_wp2_with (first | (go_at_call 18; (with_reducible refine (marlinspikeref07_Ended.calls a1 t209 _ A6.out).mono ?_); rintro e w' ⟨rfl, ⟨nd, rfl⟩⟩))
        go_meet
        case rel => exact ⟨_, (t209), (by first | rfl | (simp; done) | (simp [*]; done)), H', ⟨by first | omega | exact Nat.le_refl _⟩, by repeat (first | exact Drawn0.refl _ | apply Drawn0.step)⟩
    · rw [if_neg c4] at H
      have c4b0 : (a0 == 1) = false := beq_eq_false_iff_ne.mpr c4
      have c4b1 : (a0 != 1) = true := bne_iff_ne.mpr c4
      (first | rw [c4b0] | (simp only [i64_w, i32_w]; rw [c4b0]) | skip)
      by_cases c7 : a0 = 2
      · rw [if_pos c7] at H
        have c7b0 : (a0 == 2) = true := beq_iff_eq.mpr c7
        have c7b1 : (a0 != 2) = false := bne_eq_false_iff_eq.mpr c7
        clear c7
        have H' := Aside0.mk H
        clear H
        go_wp2
        go_meet
        case rel => exact ⟨_, ((a1 == 3)), (by first | rfl | (simp; done) | (simp [*]; done)), H', ⟨by first | omega | exact Nat.le_refl _⟩, by repeat (first | exact Drawn0.refl _ | apply Drawn0.step)⟩
      · rw [if_neg c7] at H
        have c7b0 : (a0 == 2) = false := beq_eq_false_iff_ne.mpr c7
        have c7b1 : (a0 != 2) = true := bne_iff_ne.mpr c7
        by_cases c8 : a0 = 3
        · rw [if_pos c8] at H
          have c8b0 : (a0 == 3) = true := beq_iff_eq.mpr c8
          have c8b1 : (a0 != 3) = false := bne_eq_false_iff_eq.mpr c8
          clear c8
          by_cases c9 : a1 = 4
          · rw [if_pos c9] at H
            have c9b0 : (a1 == 4) = true := beq_iff_eq.mpr c9
            have c9b1 : (a1 != 4) = false := bne_eq_false_iff_eq.mpr c9
            clear c9
            have H' := Aside0.mk H
            clear H
            go_wp2
            go_meet
            case rel => exact ⟨_, (true), (by first | rfl | (simp; done) | (simp [*]; done)), H', ⟨by first | omega | exact Nat.le_refl _⟩, by repeat (first | exact Drawn0.refl _ | apply Drawn0.step)⟩
          · rw [if_neg c9] at H
            have c9b0 : (a1 == 4) = false := beq_eq_false_iff_ne.mpr c9
            have c9b1 : (a1 != 4) = true := bne_iff_ne.mpr c9
            have H' := Aside0.mk H
            clear H
            go_wp2
            go_meet
            case rel => exact ⟨_, ((a1 == 6)), (by first | rfl | (simp; done) | (simp [*]; done)), H', ⟨by first | omega | exact Nat.le_refl _⟩, by repeat (first | exact Drawn0.refl _ | apply Drawn0.step)⟩
        · rw [if_neg c8] at H
          have c8b0 : (a0 == 3) = false := beq_eq_false_iff_ne.mpr c8
          have c8b1 : (a0 != 3) = true := bne_iff_ne.mpr c8
          by_cases c10 : a0 = 4
          · rw [if_pos c10] at H
            have c10b0 : (a0 == 4) = true := beq_iff_eq.mpr c10
            have c10b1 : (a0 != 4) = false := bne_eq_false_iff_eq.mpr c10
            clear c10
            replace H := Option.bind_eq_some_iff.mp H
            obtain ⟨t210, A110, H⟩ := H
            replace H : (marlinspikeref07_One.j0 k a1 t210) = some r := H
            have A11 := Aside0.mk A110
            clear A110
            have H' := Aside0.mk H
            clear H
            go_wp2_with (first | ((with_reducible refine gate_callee (f := 18) rfl ?_); refine goesL_ (some 30) rfl rfl Tryd.func18 (by kernel_rfl) rfl #[.int .i64 a1] rfl (by (try simp only [List.map_toArray, List.map_cons, List.map_nil]); first | done | rfl | (simp only [List.length_drop, List.length_take]; rfl)) ?_; (with_reducible refine (marlinspikeref07_Ended.calls a1 t210 _ A11.out).mono ?_); rintro e w' ⟨rfl, ⟨nd, rfl⟩⟩; refine ⟨_, rfl, ?_⟩))
            go_meet
            case rel => exact ⟨_, (t210), (by first | rfl | (simp; done) | (simp [*]; done)), H', ⟨by first | omega | exact Nat.le_refl _⟩, by repeat (first | exact Drawn0.refl _ | apply Drawn0.step)⟩
          · rw [if_neg c10] at H
            have c10b0 : (a0 == 4) = false := beq_eq_false_iff_ne.mpr c10
            have c10b1 : (a0 != 4) = true := bne_iff_ne.mpr c10
            obtain rfl := Option.some.inj H
            go_wp2
            go_ret
            exact ⟨by first | rfl | (simp; done) | (simp [*]; done), by repeat (first | exact Drawn0.refl _ | apply Drawn0.step)⟩
  case rest =>
    clear HC3
    try clear c1
    try clear c2
    try clear p2
    try clear c4
    try clear c4b0
    try clear c4b1
    try clear c5
    try clear c5b0
    try clear c5b1
    try clear c7
    try clear c7b0
    try clear c7b1
    try clear c8
    try clear c8b0
    try clear c8b1
    try clear c9
    try clear c9b0
    try clear c9b1
    try clear c10
    try clear c10b0
    try clear c10b1
    obtain ⟨kq, x5_2, rfl, HA, HJ2, ⟨mc2, rfl⟩⟩ := hcut
    cases kq with
    | zero => exact absurd HA.out (by simp [marlinspikeref07_One.j0])
    | succ kj2 =>
      have H := HA.out
      clear HA
      simp only [marlinspikeref07_One.j0] at H
      by_cases c12 : x5_2 = true
      · subst c12
        have H1 : (some 1) = some r := by rw [if_pos rfl] at H; exact H
        clear H
        have H := H1
        clear H1
        obtain rfl := Option.some.inj H
        go_wp2
        go_ret
        exact ⟨by first | rfl | (simp; done) | (simp [*]; done), by repeat (first | exact Drawn0.refl _ | apply Drawn0.step)⟩
      · replace c12 := Bool.eq_false_iff.mpr c12
        subst c12
        have H1 : ((marlinspikeref07_Ended.f a1).bind fun t211 => (if t211 = true then (some 2) else (if a1 = 7 then (some 2) else (some 0)))) = some r := by rw [if_neg (show ¬ (false = true) by decide)] at H; exact H
        clear H
        have H := H1
        clear H1
        replace H := Option.bind_eq_some_iff.mp H
        obtain ⟨t211, A130, H⟩ := H
        replace H : (if t211 = true then (some 2) else (if a1 = 7 then (some 2) else (some 0))) = some r := H
        have A13 := Aside0.mk A130
        clear A130
        by_cases c14 : t211 = true
        · subst c14
          have H1 : (some 2) = some r := by rw [if_pos rfl] at H; exact H
          clear H
          have H := H1
          clear H1
          obtain rfl := Option.some.inj H
          go_wp2_with (first | ((with_reducible refine gate_callee (f := 18) rfl ?_); refine goesL_ (some 35) rfl rfl Tryd.func18 (by kernel_rfl) rfl #[.int .i64 a1] rfl (by (try simp only [List.map_toArray, List.map_cons, List.map_nil]); first | done | rfl | (simp only [List.length_drop, List.length_take]; rfl)) ?_; (with_reducible refine (marlinspikeref07_Ended.calls a1 true _ A13.out).mono ?_); rintro e w' ⟨rfl, ⟨nd, rfl⟩⟩; refine ⟨_, rfl, ?_⟩))
          go_ret
          exact ⟨by first | rfl | (simp; done) | (simp [*]; done), by repeat (first | exact Drawn0.refl _ | apply Drawn0.step)⟩
        · replace c14 := Bool.eq_false_iff.mpr c14
          subst c14
          have H1 : (if a1 = 7 then (some 2) else (some 0)) = some r := by rw [if_neg (show ¬ (false = true) by decide)] at H; exact H
          clear H
          have H := H1
          clear H1
          by_cases c15 : a1 = 7
          · rw [if_pos c15] at H
            have c15b0 : (a1 == 7) = true := beq_iff_eq.mpr c15
            have c15b1 : (a1 != 7) = false := bne_eq_false_iff_eq.mpr c15
            clear c15
            obtain rfl := Option.some.inj H
            go_wp2_with (first | ((with_reducible refine gate_callee (f := 18) rfl ?_); refine goesL_ (some 35) rfl rfl Tryd.func18 (by kernel_rfl) rfl #[.int .i64 a1] rfl (by (try simp only [List.map_toArray, List.map_cons, List.map_nil]); first | done | rfl | (simp only [List.length_drop, List.length_take]; rfl)) ?_; (with_reducible refine (marlinspikeref07_Ended.calls a1 false _ A13.out).mono ?_); rintro e w' ⟨rfl, ⟨nd, rfl⟩⟩; refine ⟨_, rfl, ?_⟩))
            go_ret
            exact ⟨by first | rfl | (simp; done) | (simp [*]; done), by repeat (first | exact Drawn0.refl _ | apply Drawn0.step)⟩
          · rw [if_neg c15] at H
            have c15b0 : (a1 == 7) = false := beq_eq_false_iff_ne.mpr c15
            have c15b1 : (a1 != 7) = true := bne_iff_ne.mpr c15
            obtain rfl := Option.some.inj H
            go_wp2_with (first | ((with_reducible refine gate_callee (f := 18) rfl ?_); refine goesL_ (some 35) rfl rfl Tryd.func18 (by kernel_rfl) rfl #[.int .i64 a1] rfl (by (try simp only [List.map_toArray, List.map_cons, List.map_nil]); first | done | rfl | (simp only [List.length_drop, List.length_take]; rfl)) ?_; (with_reducible refine (marlinspikeref07_Ended.calls a1 false _ A13.out).mono ?_); rintro e w' ⟨rfl, ⟨nd, rfl⟩⟩; refine ⟨_, rfl, ?_⟩))
            go_ret
            exact ⟨by first | rfl | (simp; done) | (simp [*]; done), by repeat (first | exact Drawn0.refl _ | apply Drawn0.step)⟩
end Go.Proofs.YtknbnnpggdegmaaDoor.PD
end
section
set_option linter.unusedVariables false
set_option linter.unusedSimpArgs false
namespace Go.Proofs.YtknbnnpggdegmaaDoor.Mp
open Go.RowKit Go.WideShapes
structure KeyEnc (P : Program) (kt : TypeId) (κ : Type) where
  val : κ → Value
  lit : κ → Lit
  ok : κ → Prop
  law : Maps.Keyed P kt
  key : ∀ k, ok k → keyOf P kt (val k) = some (lit k)
  inj : ∀ k k', lit k = lit k' → k = k'
  isLit : ∀ k, WideAt.IsKeyLit (lit k)
structure ElEnc (P : Program) (et : TypeId) (ε : Type) where
  val : ε → Value
  lit : ε → Lit
  zero : ε
  ok : ε → Prop
  hz : ∀ w, (zeroValue et).run P w = .ok (val zero) w
  read : ∀ x, ok x → plainElem (H := Unit) P et (val x) = some (.lit (lit x), [])
  zok : ok zero
  inv : ∀ v z, plainElem (H := Unit) P et v = some z → ∃ x, v = val x ∧ z = (.lit (lit x), [])
  inj : ∀ x x', lit x = lit x' → x = x'
def intKey {P : Program} {kt : TypeId} (h : P.underlying kt = some (.int .i64)) : KeyEnc P kt Int where
  val := Value.int .i64
  lit := Lit.int .i64
  ok := fun k => (Lit.int .i64 k).wf = true
  law := Maps.int_keyed h
  key := fun k hk => Maps.keyOf_int_mk h hk
  inj := fun k k' e => by injection e
  isLit := fun k => by simp [WideAt.IsKeyLit]
def intEl {P : Program} {et : TypeId} (h : P.underlying et = some (.int .i64)) (hz : ∀ w, (zeroValue et).run P w = .ok (.int .i64 0) w) : ElEnc P et Int where
  val := Value.int .i64
  lit := Lit.int .i64
  zero := 0
  ok := fun k => (Lit.int .i64 k).wf = true
  hz := hz
  read := fun x hx => plainElem_int h hx
  zok := by decide
  inv := fun v z hv => by
    obtain ⟨x, h1, h2, _⟩ := plainElem_int_inv h hv
    exact ⟨x, h1, h2⟩
  inj := fun k k' e => by injection e
section
variable {P : Program} {kt et t : TypeId} {κ ε : Type} (K : KeyEnc P kt κ) (V : ElEnc P et ε)
structure MapOf (w : World) (b n : Nat) (f : κ → Option ε) : Prop where mk ::
  out : ∃ D : DataW Unit, w.ownsMap P kt (plainElem P et) b n D ∧ Maps.IsMap D ∧ ∀ k, Maps.has D (K.lit k) = (f k).isSome ∧ ∀ z, D.atKey (K.lit k) (.lit (V.lit z)) = .lit (V.lit ((f k).getD z))
variable {K V}
variable {w w' : World} {b n : Nat} {f : κ → Option ε}
theorem MapOf.made (w : World) : MapOf K V (w.alloc (.map #[] 0)) w.heap.size 0 (fun _ => none) :=
  ⟨.map [], World.ownsMap_made w P kt _, ⟨[], rfl⟩, fun k => ⟨rfl, fun z => rfl⟩⟩
theorem MapOf.mono (h : MapOf K V w b n f) {n' : Nat} (hn : n ≤ n') : MapOf K V w b n' f := by
  obtain ⟨D, h1, h2⟩ := h.out; exact ⟨D, h1.mono hn, h2⟩
theorem MapOf.lt (h : MapOf K V w b n f) : b < w.heap.size := by obtain ⟨D, h1, _⟩ := h.out; exact h1.lt
theorem MapOf.grown (h : MapOf K V w b n f) {row : Option Nat} (hg : w.grownBy w' row) (hne : some b ≠ row) : MapOf K V w' b n f := by
  obtain ⟨D, h1, h2⟩ := h.out; exact ⟨D, h1.kept hg hne, h2⟩
theorem MapOf.below (h : MapOf K V w b n f) (hb : Below w.heap.size w w') : MapOf K V w' b n f :=
  h.grown (row := none) ⟨hb.os, hb.tape, hb.output, hb.size, fun i hi _ => hb.block i hi⟩ (by simp)
theorem MapOf.alloc (h : MapOf K V w b n f) (o : Obj) : MapOf K V (w.alloc o) b n f := by
  obtain ⟨D, h1, h2⟩ := h.out; exact ⟨D, h1.alloc o, h2⟩
theorem MapOf.drew (h : MapOf K V w b n f) : MapOf K V w.drew b n f := by
  obtain ⟨D, h1, h2⟩ := h.out; exact ⟨D, h1.drew, h2⟩
theorem MapOf.drewN (h : MapOf K V w b n f) (m : Nat) : MapOf K V (w.drewN m) b n f := by
  obtain ⟨D, h1, h2⟩ := h.out; exact ⟨D, h1, h2⟩
theorem MapOf.setCell (h : MapOf K V w b n f) {a : Addr} (ha : b ≠ a.block) (u : Value) : MapOf K V (w.setCell a u) b n f := by
  obtain ⟨D, h1, h2⟩ := h.out; exact ⟨D, h1.setCell ha u, h2⟩
theorem MapOf.run_ok (h : MapOf K V w b n f) (ht : P.underlying t = some (.map kt et)) {k : κ} (hk : K.ok k) :
    (Instr.lookup t (.map (some b)) (K.val k) true).run P w = .ok (.tuple #[V.val ((f k).getD V.zero), .bool (f k).isSome]) w := by
  obtain ⟨D, h1, h2, h3⟩ := h.out
  obtain ⟨v, ps, hrun, hv⟩ := h1.look_ok K.law ht (V.hz w) (V.read _ V.zok) (K.key k hk)
  rw [(h3 k).2] at hv
  obtain ⟨x, rfl, hx⟩ := V.inv _ _ hv
  simp only [Prod.mk.injEq, DataW.lit.injEq] at hx
  rw [hrun, (h3 k).1, ← V.inj _ _ hx.1]
theorem MapOf.put [DecidableEq κ] {D : DataW Unit} (h2 : Maps.IsMap D) (h3 : ∀ k, Maps.has D (K.lit k) = (f k).isSome ∧ ∀ z, D.atKey (K.lit k) (.lit (V.lit z)) = .lit (V.lit ((f k).getD z))) (k : κ) (x : ε) :
    Maps.IsMap (D.put (K.lit k) (.lit (V.lit x))) ∧ ∀ k', Maps.has (D.put (K.lit k) (.lit (V.lit x))) (K.lit k') = (if k' = k then some x else f k').isSome ∧ ∀ z, (D.put (K.lit k) (.lit (V.lit x))).atKey (K.lit k') (.lit (V.lit z)) = .lit (V.lit ((if k' = k then some x else f k').getD z)) := by
  refine ⟨h2.put _ _, fun k' => ?_⟩
  by_cases e : k' = k
  · subst e
    rw [if_pos rfl]
    exact ⟨Maps.has_put_same h2 (K.isLit _) _, fun z => Maps.atKey_put_same h2 (K.isLit _) _ _⟩
  · rw [if_neg e]
    have hne : K.lit k' ≠ K.lit k := fun h => e (K.inj _ _ h)
    exact ⟨by rw [Maps.has_put_other hne]; exact (h3 k').1, fun z => by rw [Maps.atKey_put_other hne]; exact (h3 k').2 z⟩
theorem MapOf.update [DecidableEq κ] (h : MapOf K V w b n f) (ht : P.underlying t = some (.map kt et)) (hn : n < maxLen) {k : κ} (hk : K.ok k) {x : ε} (hx : V.ok x) :
    ∃ w', (Instr.mapUpdate t (.map (some b)) (K.val k) (V.val x)).run P w = .ok () w' ∧ MapOf K V w' b (n + 1) (fun k' => if k' = k then some x else f k') ∧ w.grownBy w' (some b) := by
  obtain ⟨D, h1, h2, h3⟩ := h.out
  obtain ⟨w', hrun, h4, h5⟩ := h1.update K.law ht hn (K.key k hk) (V.read x hx)
  exact ⟨w', hrun, ⟨_, h4, MapOf.put h2 h3 k x⟩, h5⟩
variable {ops : Array Oper} {rest : List Oper} {o : Oper} {a : Act} {Q : Exit → Act → World → Prop}
theorem wpList_look_ok (w : World) (hg : o.guard = none) (m x : Operand) (t : TypeId) (hop : o.op = Op.lookup t m x true) (ht : P.underlying t = some (.map kt et))
    (hm : a.eval m = .map (some b)) (h : MapOf K V w b n f) (k : κ) (hx : a.eval x = K.val k) (hk : K.ok k)
    (hK : wpList P ops Q rest (a.put o.dst (.tuple #[V.val ((f k).getD V.zero), .bool (f k).isSome])) w) : wpList P ops Q (o :: rest) a w := by
  refine wpList_plain hg fun K' hK' => ?_
  have hrun := h.run_ok ht hk
  unfold Oper.wp
  simp [execOp, hop, hm, hx, hrun, Result.andThen]
  exact hK' _ _ hK
theorem wpList_wanted (hw : Region.wanted o (yielded ops a.tmps) = true) {w : World}
    (h : ∀ K : Act → World → Prop, (∀ a w, wpList P ops Q rest a w → K a w) → o.wp P a w K Q) : wpList P ops Q (o :: rest) a w :=
  wpList_step fun K hK => by simp only [hw, if_true]; exact h K hK
theorem wpList_ins [DecidableEq κ] (w : World) (hw : Region.wanted o (yielded ops a.tmps) = true) (m x v : Operand) (t : TypeId) (hop : o.op = Op.insert t m x v) (ht : P.underlying t = some (.map kt et))
    (hm : a.eval m = .map (some b)) (h : MapOf K V w b n f) (hn : n < maxLen) (k : κ) (hx : a.eval x = K.val k) (hk : K.ok k) (y : ε) (hv : a.eval v = V.val y) (hy : V.ok y)
    (hK : ∀ w', MapOf K V w' b (n + 1) (fun k' => if k' = k then some y else f k') → w.grownBy w' (some b) → wpList P ops Q rest (a.put o.dst undef) w') : wpList P ops Q (o :: rest) a w := by
  refine wpList_wanted hw fun K' hK' => ?_
  obtain ⟨w', hrun, r1, r2⟩ := h.update ht hn hk hy
  unfold Oper.wp
  simp [execOp, hop, hm, hx, hv, hrun, Result.andThen]
  exact hK' _ _ (hK w' r1 r2)
theorem wpList_put [DecidableEq κ] (w : World) (hg : o.guard = none) (m x v : Operand) (t : TypeId) (hop : o.op = Op.mapUpdate t m x v) (ht : P.underlying t = some (.map kt et))
    (hm : a.eval m = .map (some b)) (h : MapOf K V w b n f) (hn : n < maxLen) (k : κ) (hx : a.eval x = K.val k) (hk : K.ok k) (y : ε) (hv : a.eval v = V.val y) (hy : V.ok y)
    (hK : ∀ w', MapOf K V w' b (n + 1) (fun k' => if k' = k then some y else f k') → w.grownBy w' (some b) → wpList P ops Q rest (a.put o.dst undef) w') : wpList P ops Q (o :: rest) a w := by
  refine wpList_plain hg fun K' hK' => ?_
  obtain ⟨w', hrun, r1, r2⟩ := h.update ht hn hk hy
  unfold Oper.wp
  simp [execOp, hop, hm, hx, hv, hrun, Result.andThen]
  exact hK' _ _ (hK w' r1 r2)
end
end Go.Proofs.YtknbnnpggdegmaaDoor.Mp
end
section
namespace Go.Proofs.YtknbnnpggdegmaaDoor.At
open Go.RowKit Go.Proofs.YtknbnnpggdegmaaDoorW.PrintWords Go.Proofs.YtknbnnpggdegmaaDoorW.PrintLast Go.Proofs.YtknbnnpggdegmaaDoorW.PrintMore Go.Proofs.YtknbnnpggdegmaaDoor.PD Go.Proofs.YtknbnnpggdegmaaDoor.Mp
set_option linter.unusedVariables false
set_option linter.unusedSimpArgs false
def endedL (s : Int) : Bool := decide (3 ≤ s) && decide (s ≤ 6)
def holdsL (kd s : Int) : Bool := if kd = 1 then s == 2 || endedL s else if kd = 2 then s == 3 else if kd = 3 then s == 4 || s == 6 else endedL s
def oneL (kd s : Int) : Int := if kd < 1 ∨ 4 < kd then 0 else if holdsL kd s then 1 else if endedL s || s == 7 then 2 else 0
theorem ended_f (s : Int) : dep_Ended.f s = some (endedL s) := by
  unfold dep_Ended.f endedL
  by_cases h : s ≥ 3
  · rw [if_pos h]; simp [h]
  · rw [if_neg h]; simp; omega
theorem one_j (k : Nat) (s : Int) (b : Bool) : dep_One.j0 (k + 1) s b = some (if b then 1 else if endedL s || s == 7 then 2 else 0) := by
  simp only [dep_One.j0]
  cases b
  · simp [ended_f]
    cases h : endedL s <;> simp
    split <;> rfl
  · simp
theorem one_f (k : Nat) (kd s : Int) : dep_One.f (k + 1) kd s = some (oneL kd s) := by
  unfold dep_One.f oneL
  simp only [one_j, ended_f, Option.bind_some]
  by_cases h1 : kd = 1
  · subst h1; simp [holdsL]; by_cases h : s = 2 <;> simp [h]
  by_cases h2 : kd = 2
  · subst h2; simp [holdsL]
  by_cases h3 : kd = 3
  · subst h3; simp [holdsL]; by_cases h : s = 4 <;> simp [h]
  by_cases h4 : kd = 4
  · subst h4; simp [holdsL]
  rw [if_neg h1, if_neg h2, if_neg h3, if_neg h4, if_pos (by omega)]
theorem one_calls (kd s : Int) (w : World) : Calls Tryd.prog 24 #[.int .i64 kd, .int .i64 s] w fun e w' => e = .returned (.int .i64 (oneL kd s)) ∧ Drawn0 w w' :=
  dep_One.calls 1 kd s _ w (one_f 0 kd s)
theorem rlist_int (l : List Int) (i : Nat) (h : i < l.length) : l.drop i = rd l i :: l.drop (i + 1) := by
  rw [List.drop_eq_getElem_cons h]; simp [rd, h]
theorem ret_int {k : IntKind} {a b : Int} (h : a = b) : Ending.returned (.int k a) = .returned (.int k b) := by rw [h]
def atL (look : Int → Option Int) (kd : Int) : List Int → Int → Int
  | [], out => out
  | n :: ns, out => if oneL kd ((look n).getD 7) = 2 then 2 else if oneL kd ((look n).getD 7) = 0 then atL look kd ns 0 else atL look kd ns out
def atF (look : Int → Option Int) (kd : Int) (l : List Int) (al : Bool) : Int := if kd = 5 then (if al then 1 else 0) else atL look kd l 1
noncomputable def KI : KeyEnc Tryd.prog 3 Int := intKey Tryd.underlying3
noncomputable def EI : ElEnc Tryd.prog 3 Int := intEl Tryd.underlying3 (fun w => by kernel_rfl)
abbrev MapII := MapOf KI EI
section
variable {ops : Array Oper} {rest : List Oper} {o : Oper} {a : Act} {Q : Exit → Act → World → Prop} {b n : Nat} {f : Int → Option Int}
theorem look_none (w : World) (hg : o.guard = none) (m x : Operand) (hop : o.op = Op.lookup 33 m x true) (hm : a.eval m = .map (some b)) (h : MapII w b n f) (k : Int) (hx : a.eval x = .int .i64 k) (hk : (Lit.int .i64 k).wf = true) (hf : f k = none)
    (hK : wpList Tryd.prog ops Q rest (a.put o.dst (.tuple #[.int .i64 0, .bool false])) w) : wpList Tryd.prog ops Q (o :: rest) a w :=
  wpList_look_ok (K := KI) (V := EI) w hg m x 33 hop Tryd.underlying33 hm h k hx hk (by rw [hf]; exact hK)
theorem look_some (w : World) (hg : o.guard = none) (m x : Operand) (hop : o.op = Op.lookup 33 m x true) (hm : a.eval m = .map (some b)) (h : MapII w b n f) (k : Int) (hx : a.eval x = .int .i64 k) (hk : (Lit.int .i64 k).wf = true) {s : Int} (hf : f k = some s)
    (hK : wpList Tryd.prog ops Q rest (a.put o.dst (.tuple #[.int .i64 s, .bool true])) w) : wpList Tryd.prog ops Q (o :: rest) a w :=
  wpList_look_ok (K := KI) (V := EI) w hg m x 33 hop Tryd.underlying33 hm h k hx hk (by rw [hf]; exact hK)
end
set_option maxHeartbeats 2000000 in
set_option maxRecDepth 100000 in
theorem at_calls (kd : Int) (A : Option Addr) (c : Nat) (l : List Int) (al : Bool) (bm n : Nat) (look : Int → Option Int) (w : World) (hr : Kd.C (Kd.int .i64) w A l.length l) (hc : l.length ≤ c) (hm : MapII w bm n look) (hok : ∀ x ∈ l, (Lit.int .i64 x).wf = true) :
    Calls Tryd.prog 28 #[.agg #[.int .i64 kd, .slice A l.length c], .map (some bm), .bool al] w fun e w' => e = .returned (.int .i64 (atF look kd l al)) ∧ Below w.heap.size w w' := by
  have HR := Aside0.mk hr
  have HM := Aside0.mk hm
  have HO := Aside0.mk hok
  have HL := Aside0.mk hr.2.1
  have hu52 := Tryd.underlying52
  clear hr hm hok hc
  by_cases h5 : kd = 5
  · subst h5
    cases al
    · go_enter Tryd.func28, Tryd.ntmps28
      go_wp2
      go_ret
      exact ⟨rfl, below_alloc (Below.refl _ _) _⟩
    · go_enter Tryd.func28, Tryd.ntmps28
      go_wp2
      go_ret
      exact ⟨rfl, below_alloc (Below.refl _ _) _⟩
  · have e5 : atF look kd l al = atL look kd l 1 := if_neg h5
    rw [e5]
    obtain ⟨R, hR⟩ : ∃ R, atL look kd l 1 = R := ⟨_, rfl⟩
    have HA := Aside0.mk hR
    rw [hR]
    clear hR e5
    have h5b : (kd == 5) = false := beq_eq_false_iff_ne.mpr h5
    clear h5
    go_enter Tryd.func28, Tryd.ntmps28
    go_wp2
    go_loopw [7, 19] (fun v7 v19 wr => ∃ (o : Int) (i : Nat), v7 = .int .i64 o ∧ v19 = .int .i64 i ∧ i ≤ l.length ∧ Aside0 (atL look kd (l.drop i) o = R) ∧ Aside0 (wr.heap[w.heap.size]? = some (.cells #[.int .i64 kd, .slice A l.length c] 52 (0, 0))) ∧ Aside0 (Below w.heap.size w wr)) (fun _ v19 _ => l.length - (intOf v19).toNat)
    case atStart => exact ⟨1, 0, rfl, rfl, Nat.zero_le _, HA, ⟨heap_alloc_new _ _⟩, ⟨below_alloc (Below.refl _ _) _⟩⟩
    case round =>
      obtain ⟨o, i, rfl, rfl, hi, HA1, BK, HB⟩ := hrel
      clear HA
      have hlen := HL.out
      by_cases hlt : i < l.length
      · have hz0 : wr.cell? ⟨w.heap.size, 0, none⟩ = some (.int .i64 kd) := (blk_cell BK.out 0).trans rfl
        have hz1 : wr.cell? ⟨w.heap.size, 1, none⟩ = some (.slice A l.length c) := (blk_cell BK.out 1).trans rfl
        obtain ⟨ad, rfl, hx⟩ := Kd.at_int HR.out i (by omega) (by omega)
        rw [Int.toNat_natCast] at hx
        replace hx := (HB.out.cell (World.block_lt_of_cell? w _ hx)).trans hx
        have HM1 := Aside0.mk (HM.out.below HB.out)
        have hmem := Aside0.mk (HO.out (rd l i) (by simp [rd, hlt]))
        have H1 : Aside0 ((if oneL kd ((look (rd l i)).getD 7) = 2 then 2 else if oneL kd ((look (rd l i)).getD 7) = 0 then atL look kd (l.drop (i + 1)) 0 else atL look kd (l.drop (i + 1)) o) = R) := ⟨by have := HA1.out; rwa [rlist_int l i hlt, atL] at this⟩
        clear HA1
        obtain ⟨q, hq⟩ : ∃ q, oneL kd ((look (rd l i)).getD 7) = q := ⟨_, rfl⟩
        rw [hq] at H1
        have HQ := Aside0.mk hq
        clear hq
        cases hlk : look (rd l i) with
        | none =>
          have HK := Aside0.mk hlk
          have e1 := HQ.out
          rw [hlk] at e1
          simp only [Option.getD_none] at e1
          clear hlk HQ
          by_cases q2 : q = 2
          · have t2 : (oneL kd 7 == 2) = true := by rw [e1]; exact beq_iff_eq.mpr q2
            have HR2 := Aside0.mk (show (2 : Int) = R by have := H1.out; rwa [if_pos q2] at this)
            clear e1 q2 H1
            go_wp2_with (first | (at_lookup; refine look_none _ rfl _ _ rfl rfl HM1.out (rd l i) rfl hmem.out HK.out ?_) | fail)
            refine (one_calls kd 7 _).mono ?_
            rintro e w2 ⟨rfl, hd⟩
            have HD := Aside0.mk hd
            clear hd
            go_wp2
            go_ret
            exact ⟨ret_int HR2.out, below_then HB.out HB.out.size HD.out.below⟩
          · have t2 : (oneL kd 7 == 2) = false := by rw [e1]; exact beq_eq_false_iff_ne.mpr q2
            by_cases q0 : q = 0
            · have t0 : (oneL kd 7 == 0) = true := by rw [e1]; exact beq_iff_eq.mpr q0
              have HR2 := Aside0.mk (show atL look kd (l.drop (i + 1)) 0 = R by have := H1.out; rwa [if_neg q2, if_pos q0] at this)
              clear e1 q2 q0 H1
              go_wp2_with (first | (at_lookup; refine look_none _ rfl _ _ rfl rfl HM1.out (rd l i) rfl hmem.out HK.out ?_) | fail)
              refine (one_calls kd 7 _).mono ?_
              rintro e w2 ⟨rfl, hd⟩
              have HD := Aside0.mk hd
              clear hd
              go_wp2
              go_roundw
              case rel => exact ⟨0, i + 1, rfl, by go_num, by omega, HR2, ⟨blk_below BK.out HD.out.below⟩, ⟨below_then HB.out HB.out.size HD.out.below⟩⟩
              case measure => simp [intOf]; omega
            · have t0 : (oneL kd 7 == 0) = false := by rw [e1]; exact beq_eq_false_iff_ne.mpr q0
              have HR2 := Aside0.mk (show atL look kd (l.drop (i + 1)) o = R by have := H1.out; rwa [if_neg q2, if_neg q0] at this)
              clear e1 q2 q0 H1
              go_wp2_with (first | (at_lookup; refine look_none _ rfl _ _ rfl rfl HM1.out (rd l i) rfl hmem.out HK.out ?_) | fail)
              refine (one_calls kd 7 _).mono ?_
              rintro e w2 ⟨rfl, hd⟩
              have HD := Aside0.mk hd
              clear hd
              go_wp2
              go_roundw
              case rel => exact ⟨o, i + 1, rfl, by go_num, by omega, HR2, ⟨blk_below BK.out HD.out.below⟩, ⟨below_then HB.out HB.out.size HD.out.below⟩⟩
              case measure => simp [intOf]; omega
        | some s =>
          have HK := Aside0.mk hlk
          have e1 := HQ.out
          rw [hlk] at e1
          simp only [Option.getD_some] at e1
          clear hlk HQ
          by_cases q2 : q = 2
          · have t2 : (oneL kd s == 2) = true := by rw [e1]; exact beq_iff_eq.mpr q2
            have HR2 := Aside0.mk (show (2 : Int) = R by have := H1.out; rwa [if_pos q2] at this)
            clear e1 q2 H1
            go_wp2_with (first | (at_lookup; refine look_some _ rfl _ _ rfl rfl HM1.out (rd l i) rfl hmem.out HK.out ?_) | fail)
            refine (one_calls kd s _).mono ?_
            rintro e w2 ⟨rfl, hd⟩
            have HD := Aside0.mk hd
            clear hd
            go_wp2
            go_ret
            exact ⟨ret_int HR2.out, below_then HB.out HB.out.size HD.out.below⟩
          · have t2 : (oneL kd s == 2) = false := by rw [e1]; exact beq_eq_false_iff_ne.mpr q2
            by_cases q0 : q = 0
            · have t0 : (oneL kd s == 0) = true := by rw [e1]; exact beq_iff_eq.mpr q0
              have HR2 := Aside0.mk (show atL look kd (l.drop (i + 1)) 0 = R by have := H1.out; rwa [if_neg q2, if_pos q0] at this)
              clear e1 q2 q0 H1
              go_wp2_with (first | (at_lookup; refine look_some _ rfl _ _ rfl rfl HM1.out (rd l i) rfl hmem.out HK.out ?_) | fail)
              refine (one_calls kd s _).mono ?_
              rintro e w2 ⟨rfl, hd⟩
              have HD := Aside0.mk hd
              clear hd
              go_wp2
              go_roundw
              case rel => exact ⟨0, i + 1, rfl, by go_num, by omega, HR2, ⟨blk_below BK.out HD.out.below⟩, ⟨below_then HB.out HB.out.size HD.out.below⟩⟩
              case measure => simp [intOf]; omega
            · have t0 : (oneL kd s == 0) = false := by rw [e1]; exact beq_eq_false_iff_ne.mpr q0
              have HR2 := Aside0.mk (show atL look kd (l.drop (i + 1)) o = R by have := H1.out; rwa [if_neg q2, if_neg q0] at this)
              clear e1 q2 q0 H1
              go_wp2_with (first | (at_lookup; refine look_some _ rfl _ _ rfl rfl HM1.out (rd l i) rfl hmem.out HK.out ?_) | fail)
              refine (one_calls kd s _).mono ?_
              rintro e w2 ⟨rfl, hd⟩
              have HD := Aside0.mk hd
              clear hd
              go_wp2
              go_roundw
              case rel => exact ⟨o, i + 1, rfl, by go_num, by omega, HR2, ⟨blk_below BK.out HD.out.below⟩, ⟨below_then HB.out HB.out.size HD.out.below⟩⟩
              case measure => simp [intOf]; omega
      · have HR2 := Aside0.mk (show o = R by have := HA1.out; rwa [List.drop_eq_nil_of_le (by omega), atL] at this)
        clear HA1
        go_wp2
        go_ret
        exact ⟨ret_int HR2.out, HB.out⟩
end Go.Proofs.YtknbnnpggdegmaaDoor.At
end
section
namespace Go.Proofs.YtknbnnpggdegmaaDoor.At
open Go.RowKit Go.Proofs.YtknbnnpggdegmaaDoorW.PrintWords Go.Proofs.YtknbnnpggdegmaaDoorW.PrintLast Go.Proofs.YtknbnnpggdegmaaDoorW.PrintMore Go.Proofs.YtknbnnpggdegmaaDoor.PD Go.Proofs.YtknbnnpggdegmaaDoor.Mp
set_option linter.unusedVariables false
set_option linter.unusedSimpArgs false
abbrev atS (look : Int → Option Int) (al : Bool) (x : S52) : Int := atF look x.f0 x.f1 al
def cnt (look : Int → Option Int) (al : Bool) (q : Int) (l : List S52) : Nat := (l.filter fun x => atS look al x == q).length
def askF (look : Int → Option Int) (any : Bool) (l : List S52) (al : Bool) : Int :=
  if any then (if 0 < cnt look al 1 l then 1 else if cnt look al 2 l = l.length then 2 else 0)
  else (if 0 < cnt look al 2 l then 2 else if cnt look al 1 l = l.length then 1 else 0)
theorem atL_range (look : Int → Option Int) (kd : Int) : ∀ (l : List Int) (o : Int), 0 ≤ o → o ≤ 2 → 0 ≤ atL look kd l o ∧ atL look kd l o ≤ 2
  | [], o, h0, h1 => ⟨h0, h1⟩
  | n :: ns, o, h0, h1 => by
    unfold atL
    split
    · omega
    · split
      · exact atL_range look kd ns 0 (by omega) (by omega)
      · exact atL_range look kd ns o h0 h1
theorem atF_range (look : Int → Option Int) (kd : Int) (l : List Int) (al : Bool) : 0 ≤ atF look kd l al ∧ atF look kd l al ≤ 2 := by
  unfold atF
  split
  · split <;> omega
  · exact atL_range look kd l 1 (by omega) (by omega)
theorem rd_getElem (l : List S52) (i : Nat) (h : i < l.length) : rd_T52 l i = l[i] := by simp [rd_T52, h]
theorem cnt_snoc (look : Int → Option Int) (al : Bool) (q : Int) (l : List S52) (i : Nat) (h : i < l.length) : cnt look al q (l.take (i + 1)) = cnt look al q (l.take i) + if atS look al (rd_T52 l i) = q then 1 else 0 := by
  unfold cnt
  rw [List.take_succ_eq_append_getElem h, List.filter_append, rd_getElem l i h]
  by_cases e : atS look al l[i] = q <;> simp [List.filter_cons, e]
theorem cnt_le (look : Int → Option Int) (al : Bool) (q : Int) (l : List S52) : cnt look al q l ≤ l.length := List.length_filter_le _ _
theorem cnt_take_le (look : Int → Option Int) (al : Bool) (q : Int) (l : List S52) (i : Nat) : cnt look al q (l.take i) ≤ i := Nat.le_trans (cnt_le look al q _) (by simp; omega)
set_option maxHeartbeats 4000000 in
set_option maxRecDepth 100000 in
theorem ask_calls (any : Bool) (A : Option Addr) (c : Nat) (l : List S52) (al : Bool) (bm n : Nat) (look : Int → Option Int) (w : World) (hr : Kd.C k52 w A l.length l) (hc : l.length ≤ c) (hm : MapII w bm n look) (hok : ∀ x ∈ l, ∀ y ∈ x.f1, (Lit.int .i64 y).wf = true) :
    Calls Tryd.prog 12 #[.agg #[.bool any, .slice A l.length c], .map (some bm), .bool al] w fun e w' => e = .returned (.int .i64 (askF look any l al)) ∧ Below w.heap.size w w' := by
  have HR := Aside0.mk hr
  have HM := Aside0.mk hm
  have HO := Aside0.mk hok
  have HL := Aside0.mk hr.2.1
  have hu52 := Tryd.underlying52
  have hu31 := Tryd.underlying31
  have hu66 := Tryd.underlying66
  obtain ⟨R, hR⟩ : ∃ R, askF look any l al = R := ⟨_, rfl⟩
  have HA := Aside0.mk hR
  rw [hR]
  clear hr hm hok hc hR
  have hlen := HL.out
  go_enter Tryd.func12, Tryd.ntmps12
  go_wp2
  go_loopw [14] (fun v14 wr => ∃ (i : Nat), v14 = .int .i64 i ∧ i ≤ l.length ∧ Aside0 (wr.heap[w.heap.size]? = some (.cells #[.bool any, .slice A l.length c] 31 (0, 0))) ∧ Aside0 (wr.heap[w.heap.size + 1]? = some (.cells #[.int .i64 (cnt look al 0 (l.take i)), .int .i64 (cnt look al 1 (l.take i)), .int .i64 (cnt look al 2 (l.take i))] 66 (0, 0))) ∧ Aside0 (Below w.heap.size w wr)) (fun v14 _ => l.length - (intOf v14).toNat)
  case atStart => exact ⟨0, rfl, Nat.zero_le _, ⟨blk_alloc (blk_new _ _) _⟩, ⟨by have := heap_alloc_new (w.alloc (.cells #[.bool any, .slice A l.length c] 31)) (.cells #[.int .i64 0, .int .i64 0, .int .i64 0] 66); rw [World.size_alloc] at this; exact this⟩, ⟨below_alloc (below_alloc (Below.refl _ _) _) _⟩⟩
  case round =>
    obtain ⟨i, rfl, hi, BK, BA, HB⟩ := hrel
    by_cases hlt : i < l.length
    · have hz0 : wr.cell? ⟨w.heap.size, 0, none⟩ = some (.bool any) := (blk_cell BK.out 0).trans rfl
      have hz1 : wr.cell? ⟨w.heap.size, 1, none⟩ = some (.slice A l.length c) := (blk_cell BK.out 1).trans rfl
      obtain ⟨ad, A1, c1, rfl, hx0, hx1, hl1, hi1⟩ := at_T52 HR.out i (by omega) (by omega)
      rw [Int.toNat_natCast] at hx0 hx1
      replace hx0 := (HB.out.cell (World.block_lt_of_cell? w _ hx0)).trans hx0
      replace hx1 := (HB.out.cell (World.block_lt_of_cell? w _ hx1)).trans hx1
      have HI1 := Aside0.mk hi1
      have HL1 := Aside0.mk hl1
      clear hi1 hl1
      obtain ⟨v, hv⟩ : ∃ v, atS look al (rd_T52 l i) = v := ⟨_, rfl⟩
      have hvr := atF_range look (rd_T52 l i).f0 (rd_T52 l i).f1 al
      have hm1 := Aside0.mk (show rd_T52 l i ∈ l by rw [rd_getElem l i hlt]; exact List.getElem_mem _)
      have b0 := cnt_take_le look al 0 l i
      have b1 := cnt_take_le look al 1 l i
      have b2 := cnt_take_le look al 2 l i
      rw [show atF look (rd_T52 l i).f0 (rd_T52 l i).f1 al = v from hv] at hvr
      have HV := Aside0.mk hv
      clear hv
      go_wp2_with fail
      refine (at_calls (rd_T52 l i).f0 A1 c1 (rd_T52 l i).f1 al bm n look _ ?r1 HL1.out ?m1 (HO.out _ hm1.out)).mono ?_
      case r1 => exact Kd.C_below HI1.out (below_alloc HB.out _)
      case m1 => exact HM.out.below (below_alloc HB.out _)
      rintro e w2 ⟨he, hb⟩
      rw [show atF look (rd_T52 l i).f0 (rd_T52 l i).f1 al = v from HV.out] at he
      subst he
      have BA2 := Aside0.mk (blk_below (blk_alloc BA.out _) hb)
      have BK2 := Aside0.mk (blk_below (blk_alloc BK.out _) hb)
      have HB2 := Aside0.mk (below_then (below_alloc HB.out _) (below_alloc HB.out _).size hb)
      clear hb hx0 hx1 hz0 hz1
      have hy0 : w2.cell? ⟨w.heap.size + 1, 0, none⟩ = some (.int .i64 (cnt look al 0 (l.take i))) := (blk_cell BA2.out 0).trans rfl
      have hy1 : w2.cell? ⟨w.heap.size + 1, 1, none⟩ = some (.int .i64 (cnt look al 1 (l.take i))) := (blk_cell BA2.out 1).trans rfl
      have hy2 : w2.cell? ⟨w.heap.size + 1, 2, none⟩ = some (.int .i64 (cnt look al 2 (l.take i))) := (blk_cell BA2.out 2).trans rfl
      have hf0 := blk_frozen BA2.out 0
      have hf1 := blk_frozen BA2.out 1
      have hf2 := blk_frozen BA2.out 2
      have h3 : v = 0 ∨ v = 1 ∨ v = 2 := by omega
      clear hvr
      rcases h3 with rfl | rfl | rfl
      · skip
        have s0 := cnt_snoc look al 0 l i hlt
        have s1 := cnt_snoc look al 1 l i hlt
        have s2 := cnt_snoc look al 2 l i hlt
        rw [HV.out] at s0 s1 s2
        rw [if_pos rfl] at s0
        rw [if_neg (by decide), Nat.add_zero] at s1
        rw [if_neg (by decide), Nat.add_zero] at s2
        have S0 := Aside0.mk s0
        have S1 := Aside0.mk s1
        have S2 := Aside0.mk s2
        clear s0 s1 s2
        go_wp2
        go_roundw
        case rel =>
          refine ⟨i + 1, by go_num, by omega, ⟨?_⟩, ⟨?_⟩, ⟨?_⟩⟩
          · exact blk_far BK2.out (show w.heap.size ≠ w.heap.size + 1 by omega) _
          · rw [S0.out, S1.out, S2.out]
            exact blk_put BA2.out 0 _ (by simp only [List.setIfInBounds_toArray, List.set_cons_zero, List.set_cons_succ, Int.natCast_add]; simp)
          · exact below_set HB2.out (show w.heap.size ≤ w.heap.size + 1 by omega)
        case measure => simp [intOf]; omega
      · skip
        have s0 := cnt_snoc look al 0 l i hlt
        have s1 := cnt_snoc look al 1 l i hlt
        have s2 := cnt_snoc look al 2 l i hlt
        rw [HV.out] at s0 s1 s2
        rw [if_neg (by decide), Nat.add_zero] at s0
        rw [if_pos rfl] at s1
        rw [if_neg (by decide), Nat.add_zero] at s2
        have S0 := Aside0.mk s0
        have S1 := Aside0.mk s1
        have S2 := Aside0.mk s2
        clear s0 s1 s2
        go_wp2
        go_roundw
        case rel =>
          refine ⟨i + 1, by go_num, by omega, ⟨?_⟩, ⟨?_⟩, ⟨?_⟩⟩
          · exact blk_far BK2.out (show w.heap.size ≠ w.heap.size + 1 by omega) _
          · rw [S0.out, S1.out, S2.out]
            exact blk_put BA2.out 1 _ (by simp only [List.setIfInBounds_toArray, List.set_cons_zero, List.set_cons_succ, Int.natCast_add]; simp)
          · exact below_set HB2.out (show w.heap.size ≤ w.heap.size + 1 by omega)
        case measure => simp [intOf]; omega
      · skip
        have s0 := cnt_snoc look al 0 l i hlt
        have s1 := cnt_snoc look al 1 l i hlt
        have s2 := cnt_snoc look al 2 l i hlt
        rw [HV.out] at s0 s1 s2
        rw [if_neg (by decide), Nat.add_zero] at s0
        rw [if_neg (by decide), Nat.add_zero] at s1
        rw [if_pos rfl] at s2
        have S0 := Aside0.mk s0
        have S1 := Aside0.mk s1
        have S2 := Aside0.mk s2
        clear s0 s1 s2
        go_wp2
        go_roundw
        case rel =>
          refine ⟨i + 1, by go_num, by omega, ⟨?_⟩, ⟨?_⟩, ⟨?_⟩⟩
          · exact blk_far BK2.out (show w.heap.size ≠ w.heap.size + 1 by omega) _
          · rw [S0.out, S1.out, S2.out]
            exact blk_put BA2.out 2 _ (by simp only [List.setIfInBounds_toArray, List.set_cons_zero, List.set_cons_succ, Int.natCast_add]; simp)
          · exact below_set HB2.out (show w.heap.size ≤ w.heap.size + 1 by omega)
        case measure => simp [intOf]; omega
    · have e : l.take i = l := List.take_of_length_le (by omega)
      rw [e] at BA
      clear e
      have c0 := cnt_le look al 1 l
      have c1 := cnt_le look al 2 l
      have hz0 : wr.cell? ⟨w.heap.size, 0, none⟩ = some (.bool any) := (blk_cell BK.out 0).trans rfl
      have hz1 : wr.cell? ⟨w.heap.size, 1, none⟩ = some (.slice A l.length c) := (blk_cell BK.out 1).trans rfl
      have hy1 : wr.cell? ⟨w.heap.size + 1, 1, none⟩ = some (.int .i64 (cnt look al 1 l)) := (blk_cell BA.out 1).trans rfl
      have hy2 : wr.cell? ⟨w.heap.size + 1, 2, none⟩ = some (.int .i64 (cnt look al 2 l)) := (blk_cell BA.out 2).trans rfl
      have H1 := HA.out
      unfold askF at H1
      have HA1 := Aside0.mk H1
      clear HA H1
      cases any
      · by_cases g2 : 0 < cnt look al 2 l
        · have G2 : decide (0 < cnt look al 2 l) = true := decide_eq_true (by omega)
          have E := Aside0.mk (show (2 : Int) = R by have := HA1.out; simpa [g2] using this)
          clear g2
          go_wp2
          go_ret
          exact ⟨ret_int E.out, HB.out⟩
        · have G2 : decide (0 < cnt look al 2 l) = false := decide_eq_false (by omega)
          by_cases g1 : cnt look al 1 l = l.length
          · have G1 : ((cnt look al 1 l : Int) == (l.length : Int)) = true := by rw [g1]; simp
            have E := Aside0.mk (show (1 : Int) = R by have := HA1.out; simpa [g2, g1] using this)
            clear g2 g1
            go_wp2
            go_ret
            exact ⟨ret_int E.out, HB.out⟩
          · have G1 : ((cnt look al 1 l : Int) == (l.length : Int)) = false := beq_eq_false_iff_ne.mpr (by omega)
            have E := Aside0.mk (show (0 : Int) = R by have := HA1.out; simpa [g2, g1] using this)
            clear g2 g1
            go_wp2
            go_ret
            exact ⟨ret_int E.out, HB.out⟩
      · by_cases g1 : 0 < cnt look al 1 l
        · have G2 : decide (0 < cnt look al 1 l) = true := decide_eq_true (by omega)
          have E := Aside0.mk (show (1 : Int) = R by have := HA1.out; simpa [g1] using this)
          clear g1
          go_wp2
          go_ret
          exact ⟨ret_int E.out, HB.out⟩
        · have G2 : decide (0 < cnt look al 1 l) = false := decide_eq_false (by omega)
          by_cases g2 : cnt look al 2 l = l.length
          · have G1 : ((cnt look al 2 l : Int) == (l.length : Int)) = true := by rw [g2]; simp
            have E := Aside0.mk (show (2 : Int) = R by have := HA1.out; simpa [g2, g1] using this)
            clear g2 g1
            go_wp2
            go_ret
            exact ⟨ret_int E.out, HB.out⟩
          · have G1 : ((cnt look al 2 l : Int) == (l.length : Int)) = false := beq_eq_false_iff_ne.mpr (by omega)
            have E := Aside0.mk (show (0 : Int) = R by have := HA1.out; simpa [g2, g1] using this)
            clear g2 g1
            go_wp2
            go_ret
            exact ⟨ret_int E.out, HB.out⟩
end Go.Proofs.YtknbnnpggdegmaaDoor.At
end
section
namespace Go.Proofs.YtknbnnpggdegmaaDoor.At
open Go.RowKit Go.Proofs.YtknbnnpggdegmaaDoorW.PrintWords Go.Proofs.YtknbnnpggdegmaaDoorW.PrintLast Go.Proofs.YtknbnnpggdegmaaDoorW.PrintMore Go.Proofs.YtknbnnpggdegmaaDoor.PD Go.Proofs.YtknbnnpggdegmaaDoor.Mp
set_option linter.unusedVariables false
set_option linter.unusedSimpArgs false
def lookF : List S48 → Int → Option Int
  | [], _ => none
  | x :: l, k => if x.f0 = k then some x.f1 else lookF l k
theorem lookF_append (l m : List S48) (k : Int) : lookF (l ++ m) k = (lookF l k).or (lookF m k) := by
  induction l with
  | nil => simp [lookF]
  | cons x l ih => simp only [List.cons_append, lookF]; split <;> simp [ih]
theorem rd48 (l : List S48) (i : Nat) (h : i < l.length) : rd_T48 l i = l[i] := by simp [rd_T48, h]
theorem look_there (l : List S48) (i : Nat) (h : i < l.length) {s : Int} (hs : lookF (l.take i) (rd_T48 l i).f0 = some s) : lookF (l.take (i + 1)) = lookF (l.take i) := by
  funext k
  rw [List.take_succ_eq_append_getElem h, lookF_append, ← rd48 l i h]
  cases hk : lookF (l.take i) k with
  | some q => rfl
  | none =>
    simp only [lookF, Option.none_or]
    rw [if_neg]
    rintro rfl
    rw [hs] at hk; cases hk
theorem look_put (l : List S48) (i : Nat) (h : i < l.length) (hs : lookF (l.take i) (rd_T48 l i).f0 = none) : lookF (l.take (i + 1)) = fun k => if k = (rd_T48 l i).f0 then some (rd_T48 l i).f1 else lookF (l.take i) k := by
  funext k
  rw [List.take_succ_eq_append_getElem h, lookF_append, ← rd48 l i h]
  by_cases e : k = (rd_T48 l i).f0
  · subst e; rw [if_pos rfl, hs]; simp [lookF]
  · rw [if_neg e]; simp only [lookF]; rw [if_neg (fun h => e h.symm)]; simp
section
variable {ops : Array Oper} {rest : List Oper} {o : Oper} {a : Act} {Q : Exit → Act → World → Prop} {b n : Nat} {f : Int → Option Int}
theorem put_II (w : World) (hg : o.guard = none) (m x v : Operand) (hop : o.op = Op.mapUpdate 33 m x v) (hm : a.eval m = .map (some b)) (h : MapII w b n f) (hn : n < maxLen) (k : Int) (hx : a.eval x = .int .i64 k) (hk : (Lit.int .i64 k).wf = true) (y : Int) (hv : a.eval v = .int .i64 y) (hy : (Lit.int .i64 y).wf = true)
    (hK : ∀ w', MapII w' b (n + 1) (fun k' => if k' = k then some y else f k') → w.grownBy w' (some b) → wpList Tryd.prog ops Q rest (a.put o.dst undef) w') : wpList Tryd.prog ops Q (o :: rest) a w :=
  wpList_put (K := KI) (V := EI) w hg m x v 33 hop Tryd.underlying33 hm h hn k hx hk y hv hy hK
end
set_option maxHeartbeats 4000000 in
set_option maxRecDepth 100000 in
theorem states_calls (A : Option Addr) (c : Nat) (l : List S48) (w : World) (hr : Kd.C k48 w A l.length l) (hc : l.length ≤ c) (hok : ∀ x ∈ l, (Lit.int .i64 x.f0).wf = true ∧ (Lit.int .i64 x.f1).wf = true) :
    Calls Tryd.prog 14 #[.slice A l.length c] w fun e w' => ∃ b, e = .returned (.map (some b)) ∧ MapII w' b l.length (lookF l) ∧ Below w.heap.size w w' := by
  have HR := Aside0.mk hr
  have HO := Aside0.mk hok
  have HL := Aside0.mk hr.2.1
  have hu48 := Tryd.underlying48
  have hmm := @run_makeMap Tryd.prog
  clear hr hok hc
  have hlen := HL.out
  go_enter Tryd.func14, Tryd.ntmps14
  go_wp2
  go_loopw [11] (fun v11 wr => ∃ (i : Nat), v11 = .int .i64 i ∧ i ≤ l.length ∧ Aside0 (MapII wr w.heap.size i (lookF (l.take i))) ∧ Aside0 (Below w.heap.size w wr)) (fun v11 _ => l.length - (intOf v11).toNat)
  case atStart => exact ⟨0, rfl, Nat.zero_le _, ⟨MapOf.made w⟩, ⟨below_alloc (Below.refl _ _) _⟩⟩
  case round =>
    obtain ⟨i, rfl, hi, HM, HB⟩ := hrel
    by_cases hlt : i < l.length
    · obtain ⟨ad, rfl, hx0, hx1⟩ := at_T48 HR.out i (by omega) (by omega)
      rw [Int.toNat_natCast] at hx0 hx1
      replace hx0 := (HB.out.cell (World.block_lt_of_cell? w _ hx0)).trans hx0
      replace hx1 := (HB.out.cell (World.block_lt_of_cell? w _ hx1)).trans hx1
      have hok1 := HO.out (rd_T48 l i) (by rw [rd48 l i hlt]; exact List.getElem_mem _)
      have W0 := Aside0.mk hok1.1
      have W1 := Aside0.mk hok1.2
      have HM1 := Aside0.mk (HM.out.alloc (.cells #[.int .i64 (rd_T48 l i).f0, .int .i64 (rd_T48 l i).f1] 48))
      have HB1 := Aside0.mk (below_alloc HB.out (.cells #[.int .i64 (rd_T48 l i).f0, .int .i64 (rd_T48 l i).f1] 48))
      clear hok1
      cases hlk : lookF (l.take i) (rd_T48 l i).f0 with
      | some s =>
        have HK := Aside0.mk hlk
        have HE := Aside0.mk (look_there l i hlt hlk)
        clear hlk
        go_wp2_with (first | (at_lookup; refine look_some _ rfl _ _ rfl rfl HM1.out (rd_T48 l i).f0 rfl W0.out HK.out ?_) | fail)
        go_roundw
        case rel => exact ⟨i + 1, by go_num, by omega, ⟨by rw [HE.out]; exact HM1.out.mono (Nat.le_succ _)⟩, HB1⟩
        case measure => simp [intOf]; omega
      | none =>
        have HK := Aside0.mk hlk
        have HE := Aside0.mk (look_put l i hlt hlk)
        clear hlk
        go_wp2_with (first | (at_lookup; refine look_none _ rfl _ _ rfl rfl HM1.out (rd_T48 l i).f0 rfl W0.out HK.out ?_) | (at_mapUpdate; refine put_II _ rfl _ _ _ rfl rfl HM1.out (by have := HL.out; unfold maxLen; omega) (rd_T48 l i).f0 rfl W0.out (rd_T48 l i).f1 rfl W1.out ?_; intro w1 hm1 hg1; have HM2 := Aside0.mk hm1; have HG2 := Aside0.mk hg1; clear hm1 hg1) | fail)
        go_roundw
        case rel => exact ⟨i + 1, by go_num, by omega, ⟨by rw [HE.out]; exact HM2.out⟩, ⟨HB1.out.grown HG2.out HB1.out.size (fun k hk => by injection hk with hk; omega)⟩⟩
        case measure => simp [intOf]; omega
    · have e : l.take i = l := List.take_of_length_le (by omega)
      rw [e] at HM
      clear e
      go_wp2
      go_ret
      exact ⟨w.heap.size, rfl, HM.out.mono (by omega), HB.out⟩
end Go.Proofs.YtknbnnpggdegmaaDoor.At
end
section
namespace Go.Proofs.YtknbnnpggdegmaaDoor.At
open Go.RowKit Go.Proofs.YtknbnnpggdegmaaDoorW.PrintWords Go.Proofs.YtknbnnpggdegmaaDoorW.PrintLast Go.Proofs.YtknbnnpggdegmaaDoorW.PrintMore Go.Proofs.YtknbnnpggdegmaaDoor.PD Go.Proofs.YtknbnnpggdegmaaDoor.Mp Go.Proofs.YtknbnnpggdegmaaDoor.Lib
set_option linter.unusedVariables false
set_option linter.unusedSimpArgs false
def aliveS : ByteArray := ⟨#[97, 102, 116, 101, 114, 111, 107, 58, 51, 58, 52, 44, 115, 105, 110, 103, 108, 101, 116, 111, 110]⟩
def aliveD : List S52 := [⟨2, [3, 4]⟩, ⟨5, []⟩]
theorem alive_parse : dep_Parse.f 40 aliveS = some (false, aliveD, 0, 0) := by kernel_rfl
theorem alive_format : dep_Format.f 40 false aliveD = some aliveS := by kernel_rfl
theorem alive_ask : askF (fun k => if k = 4 then some 4 else if k = 3 then some 3 else none) false aliveD true = 2 := by kernel_rfl
theorem ins_II {ops : Array Oper} {rest : List Oper} {o : Oper} {a : Act} {Q : Exit → Act → World → Prop} {b n : Nat} {f : Int → Option Int} (w : World) (hw : Region.wanted o (yielded ops a.tmps) = true) (m x v : Operand) (hop : o.op = Op.insert 33 m x v) (hm : a.eval m = .map (some b)) (h : MapII w b n f) (hn : n < maxLen) (k : Int) (hx : a.eval x = .int .i64 k) (hk : (Lit.int .i64 k).wf = true) (y : Int) (hv : a.eval v = .int .i64 y) (hy : (Lit.int .i64 y).wf = true)
    (hK : ∀ w', MapII w' b (n + 1) (fun k' => if k' = k then some y else f k') → w.grownBy w' (some b) → wpList Tryd.prog ops Q rest (a.put o.dst undef) w') : wpList Tryd.prog ops Q (o :: rest) a w :=
  wpList_ins (K := KI) (V := EI) w hw m x v 33 hop Tryd.underlying33 hm h hn k hx hk y hv hy hK
set_option maxHeartbeats 4000000 in
set_option maxRecDepth 100000 in
theorem alive_calls (w : World) (hG : Glob w) : Calls Tryd.prog 11 #[] w fun e w' => e = .returned (.bool true) ∧ Below w.heap.size w w' := by
  have HG := Aside0.mk hG
  have hu31 := Tryd.underlying31
  have hu39 := Tryd.underlying39
  have hmm := @run_makeMap Tryd.prog
  clear hG
  go_enter Tryd.func11, Tryd.ntmps11
  go_wp2_with fail
  refine (dep_Parse.calls 40 aliveS false aliveD 0 0 w alive_parse HG.out).mono ?_
  rintro e w1 ⟨v1, rfl, hS, hb⟩
  obtain ⟨A, c, rfl, hl, hC⟩ := Kd.S_reads hS
  have HC := Aside0.mk hC
  have HB := Aside0.mk hb
  have HL := Aside0.mk hl
  clear hS hl hC hb
  have hl2 : ((aliveD.length : Int) == 2) = true := rfl
  have hs2 : (aliveS.toList == [97, 102, 116, 101, 114, 111, 107, 58, 51, 58, 52, 44, 115, 105, 110, 103, 108, 101, 116, 111, 110]) = true := by kernel_rfl
  have hs3 : aliveS.toList = [97, 102, 116, 101, 114, 111, 107, 58, 51, 58, 52, 44, 115, 105, 110, 103, 108, 101, 116, 111, 110] := by kernel_rfl
  have hok : ∀ x ∈ aliveD, ∀ y ∈ x.f1, (Lit.int .i64 y).wf = true := by decide
  have HO := Aside0.mk hok
  clear hok
  go_wp2_with fail
  refine (dep_Format.calls 40 false A c aliveD aliveS _ ?r1 HL.out alive_format ?g1).mono ?_
  case r1 => exact Kd.C_alloc (Kd.C_alloc HC.out _) _
  case g1 => exact HG.out.below (below_alloc (below_alloc HB.out _) _)
  rintro e w2 ⟨rfl, hb⟩
  have HB2 := Aside0.mk (below_then (below_alloc (below_alloc HB.out _) _) (below_alloc (below_alloc HB.out _) _).size hb)
  have HC2 := Aside0.mk (Kd.C_below (Kd.C_alloc (Kd.C_alloc HC.out _) _) hb)
  have hz0 : w2.cell? ⟨w1.heap.size, 0, none⟩ = some (.bool false) := (blk_cell (blk_below (blk_alloc (blk_new w1 (.cells #[.bool false, .slice A aliveD.length c] 31)) _) hb) 0).trans rfl
  have hz1 : w2.cell? ⟨w1.heap.size, 1, none⟩ = some (.slice A aliveD.length c) := (blk_cell (blk_below (blk_alloc (blk_new w1 (.cells #[.bool false, .slice A aliveD.length c] 31)) _) hb) 1).trans rfl
  clear hb
  have HM0 : Aside0 (MapII (w2.alloc (.map #[] 0)) w2.heap.size 0 (fun _ => none)) := ⟨MapOf.made w2⟩
  have HB3 := Aside0.mk (below_alloc HB2.out (.map #[] 0))
  go_wp2_with (first
    | (refine ins_II _ ?hw _ _ _ rfl rfl HM1.out (by decide) 4 rfl (by decide) 4 rfl (by decide) ?_; (case hw => rfl); intro w4 hm4 hg4; have HM2 := Aside0.mk hm4; have HG4 := Aside0.mk hg4; clear hm4 hg4)
    | (refine ins_II _ ?hw _ _ _ rfl rfl HM0.out (by decide) 3 rfl (by decide) 3 rfl (by decide) ?_; (case hw => rfl); intro w3 hm3 hg3; have HM1 := Aside0.mk hm3; have HG3 := Aside0.mk hg3; clear hm3 hg3))
  have HB4 : Aside0 (Below w.heap.size w w4) := ⟨(HB3.out.grown HG3.out HB3.out.size (fun k hk => by injection hk with hk; have := HB2.out.size; omega)).grown HG4.out (Nat.le_trans HB3.out.size HG3.out.size) (fun k hk => by injection hk with hk; have := HB2.out.size; omega)⟩
  have hb24 : Below w2.heap.size w2 w4 := ((below_alloc (Below.refl w2.heap.size w2) (.map #[] 0)).grown HG3.out (by simp) (fun k hk => by injection hk with hk; omega)).grown HG4.out (Nat.le_trans (by simp) HG3.out.size) (fun k hk => by injection hk with hk; omega)
  have HC4 := Aside0.mk (Kd.C_below HC2.out hb24)
  clear hb24
  refine (ask_calls false A c aliveD true _ 2 _ w4 HC4.out HL.out HM2.out HO.out).mono ?_
  rintro e w5 ⟨rfl, hb⟩
  have HB5 := Aside0.mk (below_then HB4.out HB4.out.size hb)
  clear hb
  rw [alive_ask]
  go_wp2_with fail
  refine (one_calls 4 4 _).mono ?_
  rintro e w6 ⟨rfl, hd⟩
  have HB6 := Aside0.mk (below_then HB5.out HB5.out.size hd.below)
  clear hd
  rw [show oneL 4 4 = 1 from by kernel_rfl]
  go_wp2
  go_ret
  exact ⟨rfl, HB6.out⟩
end Go.Proofs.YtknbnnpggdegmaaDoor.At
namespace Go.Proofs.YtknbnnpggdegmaaDoor.PD
open Go.RowKit Go.Proofs.YtknbnnpggdegmaaDoor.Lib
def marlinspikelaw07_alive.f : Option Bool := some true
theorem marlinspikelaw07_alive.calls (r : Bool) (w : World) (h : marlinspikelaw07_alive.f = some r) (hG : Glob w) :
    Calls Tryd.prog 11 #[] w fun e w' => e = .returned (.bool r) ∧ Below w.heap.size w w' := by
  cases h
  exact At.alive_calls w hG
end Go.Proofs.YtknbnnpggdegmaaDoor.PD
end
