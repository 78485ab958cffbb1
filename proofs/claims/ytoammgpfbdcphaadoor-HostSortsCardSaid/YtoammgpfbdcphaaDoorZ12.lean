/- Sorted names are all of them, sorted again the same, and in their numbers' order (HostSorts), for every list -/
import Derived.Test.YtoammgpfbdcphaaDoorZ11
import Derived.Test.YtoammgpfbdcphaaDoorZ10
import Derived.Test.YtoammgpfbdcphaaDoorZ03
import Derived.Test.YtoammgpfbdcphaaDoorRows
import Derived.Test.YtoammgpfbdcphaaDoorCards
import Derived.Test.YtoammgpfbdcphaaDoorTie
import Derived.Test.YtoammgpfbdcphaaDoorZ02
import Derived.Lay
import Derived.WalkKit
import Derived.ProofKit
import Derived.OpenShut
import Derived.ShutString
import Derived.ChangeOld
import Derived.Below
import Derived.Carry
import Derived.SizedLaws
import Derived.Deep.DeepHandedRow
import Derived.Deep.DeepWitnessRowRef
import Derived.Stop.LaidErr
import Derived.Lib.LaidTab
import Derived.LaidMore
section
namespace Go.Proofs.YtoammgpfbdcphaaDoor.Sr
open Go.RowKit Go.Proofs.YtoammgpfbdcphaaDoor.Lib Go.Proofs.YtoammgpfbdcphaaDoor.PH Go.Proofs.YtoammgpfbdcphaaDoorW.PrintWords Go.Proofs.YtoammgpfbdcphaaDoorW.PrintLast Go.Proofs.YtoammgpfbdcphaaDoorW.PrintMore
attribute [local go_sem] max2_int min2_int max_two min_two max_three min_three max_four min_four
set_option linter.unusedVariables false
set_option linter.unusedSimpArgs false
mutual
def marlinspikelaw05_HostSorts.j0 : Nat → List ByteArray → Bool → Option (Bool)
  | 0, _, _ => none
  | k + 1, x0, x22 => if x22 = true then ((marlinspikelaw05_alive.f k).bind fun t317 => (some t317)) else ((host_Sorted.f x0).bind fun t318 => (if (t318.length : Int) = (x0.length : Int) then ((host_Sorted.f t318).bind fun t321 => ((marlinspikeref05_Same.f k t321 t318).bind fun t324 => (marlinspikelaw05_HostSorts.j1 k x0 t318 (!t324)))) else (marlinspikelaw05_HostSorts.j1 k x0 t318 true)))
def marlinspikelaw05_HostSorts.j1 : Nat → List ByteArray → List ByteArray → Bool → Option (Bool)
  | 0, _, _, _ => none
  | k + 1, x0, x3, x37 => if x37 = true then (some false) else (marlinspikelaw05_HostSorts.l0 k x0 x3 x3 (x3.length : Int) 0)
def marlinspikelaw05_HostSorts.l0 : Nat → List ByteArray → List ByteArray → List ByteArray → Int → Int → Option (Bool)
  | 0, _, _, _, _, _ => none
  | k + 1, x0, x3, x38, x39, x40 => if x40 < x39 then (if 0 ≤ x40 then (if x40 < (x38.length : Int) then (marlinspikelaw05_HostSorts.l1 k x0 x3 x40 (rdOf ByteArray.empty x38 x40) 0 x38 x39 x40 (x0.length : Int) 0) else (none)) else (none)) else ((marlinspikelaw05_alive.f k).bind fun t325 => (some t325))
def marlinspikelaw05_HostSorts.l1 : Nat → List ByteArray → List ByteArray → Int → ByteArray → Int → List ByteArray → Int → Int → Int → Int → Option (Bool)
  | 0, _, _, _, _, _, _, _, _, _, _ => none
  | k + 1, x0, x3, x4, x5, x6, x38, x39, x40, x46, x47 => if x47 < x46 then (if 0 ≤ x47 then (if x47 < (x0.length : Int) then (if (rdOf ByteArray.empty x0 x47).toList = x5.toList then (if x47 < (x3.length : Int) then (if (rdOf ByteArray.empty x3 x47).toList = x5.toList then (marlinspikelaw05_HostSorts.l1 k x0 x3 x4 x5 (wrap64 ((wrap64 (x6 + 1)) - 1)) x38 x39 x40 x46 (wrap64 (x47 + 1))) else (marlinspikelaw05_HostSorts.l1 k x0 x3 x4 x5 (wrap64 (x6 + 1)) x38 x39 x40 x46 (wrap64 (x47 + 1)))) else (none)) else (if x47 < (x3.length : Int) then (if (rdOf ByteArray.empty x3 x47).toList = x5.toList then (marlinspikelaw05_HostSorts.l1 k x0 x3 x4 x5 (wrap64 (x6 - 1)) x38 x39 x40 x46 (wrap64 (x47 + 1))) else (marlinspikelaw05_HostSorts.l1 k x0 x3 x4 x5 x6 x38 x39 x40 x46 (wrap64 (x47 + 1)))) else (none))) else (none)) else (none)) else (if x6 = 0 then (if x4 = 0 then (marlinspikelaw05_HostSorts.l0 k x0 x3 x38 x39 (wrap64 (x40 + 1))) else (if 0 ≤ (wrap64 (x4 - 1)) then (if (wrap64 (x4 - 1)) < (x3.length : Int) then ((host_Number.f k (rdOf ByteArray.empty x3 (wrap64 (x4 - 1)))).bind fun bt331 => ((host_Number.f k x5).bind fun bt335 => (if (Op.bytesLess bt335.1.toList bt331.1.toList) = true then (some false) else (if bt331.1.toList = bt335.1.toList then (if bt331.2.2.2 = true then (if bt335.2.2.2 = true then (if bt331.2.1 > bt335.2.1 then (some false) else (marlinspikelaw05_HostSorts.l0 k x0 x3 x38 x39 (wrap64 (x40 + 1)))) else (marlinspikelaw05_HostSorts.l0 k x0 x3 x38 x39 (wrap64 (x40 + 1)))) else (marlinspikelaw05_HostSorts.l0 k x0 x3 x38 x39 (wrap64 (x40 + 1)))) else (marlinspikelaw05_HostSorts.l0 k x0 x3 x38 x39 (wrap64 (x40 + 1))))))) else (none)) else (none))) else (some false))
end
def marlinspikelaw05_HostSorts.f (k : Nat) (l0 : List ByteArray) : Option (Bool) := (marlinspikelaw05_long.f k l0).bind fun t316 => (if t316 = true then (marlinspikelaw05_HostSorts.j0 k l0 true) else (marlinspikelaw05_HostSorts.j0 k l0 (decide ((l0.length : Int) > 60))))
theorem marlinspikelaw05_HostSorts.mono_l : ∀ k, (∀ y0 y1, LeO (marlinspikelaw05_HostSorts.j0 k y0 y1) (marlinspikelaw05_HostSorts.j0 (k + 1) y0 y1)) ∧ (∀ y0 y1 y2, LeO (marlinspikelaw05_HostSorts.j1 k y0 y1 y2) (marlinspikelaw05_HostSorts.j1 (k + 1) y0 y1 y2)) ∧ (∀ y0 y1 y2 y3 y4, LeO (marlinspikelaw05_HostSorts.l0 k y0 y1 y2 y3 y4) (marlinspikelaw05_HostSorts.l0 (k + 1) y0 y1 y2 y3 y4)) ∧ (∀ y0 y1 y2 y3 y4 y5 y6 y7 y8 y9, LeO (marlinspikelaw05_HostSorts.l1 k y0 y1 y2 y3 y4 y5 y6 y7 y8 y9) (marlinspikelaw05_HostSorts.l1 (k + 1) y0 y1 y2 y3 y4 y5 y6 y7 y8 y9))
  | 0 => ⟨fun _ _ r h => by simp [marlinspikelaw05_HostSorts.j0] at h, fun _ _ _ r h => by simp [marlinspikelaw05_HostSorts.j1] at h, fun _ _ _ _ _ r h => by simp [marlinspikelaw05_HostSorts.l0] at h, fun _ _ _ _ _ _ _ _ _ _ r h => by simp [marlinspikelaw05_HostSorts.l1] at h⟩
  | k + 1 => by
    obtain ⟨ih0, ih1, ih2, ih3⟩ := marlinspikelaw05_HostSorts.mono_l k
    refine ⟨?_, ?_, ?_, ?_⟩
    · intro y0 y1
      unfold marlinspikelaw05_HostSorts.j0
      repeat' first
      | (with_reducible exact ih0 _ _)
      | (with_reducible exact ih1 _ _ _)
      | (with_reducible exact ih2 _ _ _ _ _)
      | (with_reducible exact ih3 _ _ _ _ _ _ _ _ _ _)
      | (with_reducible exact host_Number.mono _ _)
      | (with_reducible exact marlinspikelaw05_alive.mono _)
      | (with_reducible exact marlinspikelaw05_long.mono _ _)
      | (with_reducible exact marlinspikeref05_Same.mono _ _ _)
      | (with_reducible exact LeO.refl _)
      | (with_reducible exact LeO.none _)
      | (with_reducible refine LeO.ite ?_ ?_)
      | (with_reducible refine LeO.bind ?_ (fun _ => ?_))
      | exact ih0 _ _
      | exact ih1 _ _ _
      | exact ih2 _ _ _ _ _
      | exact ih3 _ _ _ _ _ _ _ _ _ _
      | exact host_Number.mono _ _
      | exact marlinspikelaw05_alive.mono _
      | exact marlinspikelaw05_long.mono _ _
      | exact marlinspikeref05_Same.mono _ _ _
      | exact LeO.none _
      | refine LeO.ite ?_ ?_
      | refine LeO.bind ?_ (fun _ => ?_)
    · intro y0 y1 y2
      unfold marlinspikelaw05_HostSorts.j1
      repeat' first
      | (with_reducible exact ih0 _ _)
      | (with_reducible exact ih1 _ _ _)
      | (with_reducible exact ih2 _ _ _ _ _)
      | (with_reducible exact ih3 _ _ _ _ _ _ _ _ _ _)
      | (with_reducible exact host_Number.mono _ _)
      | (with_reducible exact marlinspikelaw05_alive.mono _)
      | (with_reducible exact marlinspikelaw05_long.mono _ _)
      | (with_reducible exact marlinspikeref05_Same.mono _ _ _)
      | (with_reducible exact LeO.refl _)
      | (with_reducible exact LeO.none _)
      | (with_reducible refine LeO.ite ?_ ?_)
      | (with_reducible refine LeO.bind ?_ (fun _ => ?_))
      | exact ih0 _ _
      | exact ih1 _ _ _
      | exact ih2 _ _ _ _ _
      | exact ih3 _ _ _ _ _ _ _ _ _ _
      | exact host_Number.mono _ _
      | exact marlinspikelaw05_alive.mono _
      | exact marlinspikelaw05_long.mono _ _
      | exact marlinspikeref05_Same.mono _ _ _
      | exact LeO.none _
      | refine LeO.ite ?_ ?_
      | refine LeO.bind ?_ (fun _ => ?_)
    · intro y0 y1 y2 y3 y4
      unfold marlinspikelaw05_HostSorts.l0
      repeat' first
      | (with_reducible exact ih0 _ _)
      | (with_reducible exact ih1 _ _ _)
      | (with_reducible exact ih2 _ _ _ _ _)
      | (with_reducible exact ih3 _ _ _ _ _ _ _ _ _ _)
      | (with_reducible exact host_Number.mono _ _)
      | (with_reducible exact marlinspikelaw05_alive.mono _)
      | (with_reducible exact marlinspikelaw05_long.mono _ _)
      | (with_reducible exact marlinspikeref05_Same.mono _ _ _)
      | (with_reducible exact LeO.refl _)
      | (with_reducible exact LeO.none _)
      | (with_reducible refine LeO.ite ?_ ?_)
      | (with_reducible refine LeO.bind ?_ (fun _ => ?_))
      | exact ih0 _ _
      | exact ih1 _ _ _
      | exact ih2 _ _ _ _ _
      | exact ih3 _ _ _ _ _ _ _ _ _ _
      | exact host_Number.mono _ _
      | exact marlinspikelaw05_alive.mono _
      | exact marlinspikelaw05_long.mono _ _
      | exact marlinspikeref05_Same.mono _ _ _
      | exact LeO.none _
      | refine LeO.ite ?_ ?_
      | refine LeO.bind ?_ (fun _ => ?_)
    · intro y0 y1 y2 y3 y4 y5 y6 y7 y8 y9
      unfold marlinspikelaw05_HostSorts.l1
      repeat' first
      | (with_reducible exact ih0 _ _)
      | (with_reducible exact ih1 _ _ _)
      | (with_reducible exact ih2 _ _ _ _ _)
      | (with_reducible exact ih3 _ _ _ _ _ _ _ _ _ _)
      | (with_reducible exact host_Number.mono _ _)
      | (with_reducible exact marlinspikelaw05_alive.mono _)
      | (with_reducible exact marlinspikelaw05_long.mono _ _)
      | (with_reducible exact marlinspikeref05_Same.mono _ _ _)
      | (with_reducible exact LeO.refl _)
      | (with_reducible exact LeO.none _)
      | (with_reducible refine LeO.ite ?_ ?_)
      | (with_reducible refine LeO.bind ?_ (fun _ => ?_))
      | exact ih0 _ _
      | exact ih1 _ _ _
      | exact ih2 _ _ _ _ _
      | exact ih3 _ _ _ _ _ _ _ _ _ _
      | exact host_Number.mono _ _
      | exact marlinspikelaw05_alive.mono _
      | exact marlinspikelaw05_long.mono _ _
      | exact marlinspikeref05_Same.mono _ _ _
      | exact LeO.none _
      | refine LeO.ite ?_ ?_
      | refine LeO.bind ?_ (fun _ => ?_)
theorem marlinspikelaw05_HostSorts.mono : ∀ a0 k, LeO (marlinspikelaw05_HostSorts.f k a0) (marlinspikelaw05_HostSorts.f (k + 1) a0) := by
  intro a0 k
  obtain ⟨ih0, ih1, ih2, ih3⟩ := marlinspikelaw05_HostSorts.mono_l k
  unfold marlinspikelaw05_HostSorts.f
  repeat' first
      | (with_reducible exact ih0 _ _)
      | (with_reducible exact ih1 _ _ _)
      | (with_reducible exact ih2 _ _ _ _ _)
      | (with_reducible exact ih3 _ _ _ _ _ _ _ _ _ _)
      | (with_reducible exact host_Number.mono _ _)
      | (with_reducible exact marlinspikelaw05_alive.mono _)
      | (with_reducible exact marlinspikelaw05_long.mono _ _)
      | (with_reducible exact marlinspikeref05_Same.mono _ _ _)
      | (with_reducible exact LeO.refl _)
      | (with_reducible exact LeO.none _)
      | (with_reducible refine LeO.ite ?_ ?_)
      | (with_reducible refine LeO.bind ?_ (fun _ => ?_))
      | exact ih0 _ _
      | exact ih1 _ _ _
      | exact ih2 _ _ _ _ _
      | exact ih3 _ _ _ _ _ _ _ _ _ _
      | exact host_Number.mono _ _
      | exact marlinspikelaw05_alive.mono _
      | exact marlinspikelaw05_long.mono _ _
      | exact marlinspikeref05_Same.mono _ _ _
      | exact LeO.none _
      | refine LeO.ite ?_ ?_
      | refine LeO.bind ?_ (fun _ => ?_)
set_option maxHeartbeats 8000000 in
set_option maxRecDepth 100000 in
theorem marlinspikelaw05_HostSorts.calls (k : Nat) (A0 : Option Addr) (c0 : Nat) (l0 : List ByteArray) (r : Bool) (w : World) (hr0 : Kd.C Kd.string w A0 l0.length l0) (hc0 : l0.length ≤ c0) (h : marlinspikelaw05_HostSorts.f k l0 = some r) (hG_ : Glob w) :
    Calls Tryd.prog 7 #[.slice A0 l0.length c0] w fun e w' => e = .returned (.bool r) ∧ Below w.heap.size w w' := by
  have HG_ := Aside0.mk hG_
  clear hG_
  have HR0 := Aside0.mk hr0
  have HC0 := Aside0.mk hc0
  clear hr0 hc0
  have HB := Aside0.mk (Below.refl w.heap.size w)
  have H : ((marlinspikelaw05_long.f k l0).bind fun t316 => (if t316 = true then (marlinspikelaw05_HostSorts.j0 k l0 true) else (marlinspikelaw05_HostSorts.j0 k l0 (decide ((l0.length : Int) > 60))))) = some r := h
  clear h
  have HC2 := Aside0.mk H
  clear H
  go_enter Tryd.func7, Tryd.ntmps7
  go_upto_region 1 with (fail)
  go_cut [22] (fun v22 wc => ∃ (kq : Nat) (x22_1 : Bool), v22 = .bool x22_1 ∧ Aside0 (marlinspikelaw05_HostSorts.j0 kq l0 x22_1 = some r) ∧ Aside0 (kq ≤ k) ∧ Aside0 (Below w.heap.size w wc))
  case first =>
    have H := HC2.out
    clear HC2
    replace H := Option.bind_eq_some_iff.mp H
    obtain ⟨t316, A30, H⟩ := H
    replace H : (if t316 = true then (marlinspikelaw05_HostSorts.j0 k l0 true) else (marlinspikelaw05_HostSorts.j0 k l0 (decide ((l0.length : Int) > 60)))) = some r := H
    have A3 := Aside0.mk A30
    clear A30
    by_cases c4 : t316 = true
    · subst c4
      have H1 : (marlinspikelaw05_HostSorts.j0 k l0 true) = some r := by rw [if_pos rfl] at H; exact H
      clear H
      have H := H1
      clear H1
      have H' := Aside0.mk H
      clear H
      go_wp2_with (first | ((with_reducible refine gate_callee (f := 8) rfl ?_); refine goesL_ (some 17) rfl rfl Tryd.func8 (by kernel_rfl) rfl #[.slice A0 l0.length c0] rfl (by (try simp only [List.map_toArray, List.map_cons, List.map_nil]); first | done | rfl | (simp only [List.length_drop, List.length_take]; rfl)) ?_; (with_reducible refine (marlinspikelaw05_long.calls k _ _ l0 true _ ?side1 ?side2 A3.out).mono ?_); (case side1 => repeat (first | exact (Kd.C_below HR0.out HB.out) | (with_reducible refine Kd.C_alloc ?_ _) | (with_reducible refine Kd.C_drewN ?_ _) | (with_reducible refine Kd.C_drew ?_))); (case side2 => exact HC0.out); rintro e w' ⟨rfl, ⟨nd, rfl⟩⟩; refine ⟨_, rfl, ?_⟩))
      go_meet
      case rel => exact ⟨_, (true), (by first | rfl | (simp; done) | (simp [*]; done)), H', ⟨by first | omega | exact Nat.le_refl _⟩, ⟨by repeat (first | (with_reducible first | exact HB.out | apply below_alloc | apply pw_below_drewN | apply below_drew1) | exact HB.out)⟩⟩
    · replace c4 := Bool.eq_false_iff.mpr c4
      subst c4
      have H1 : (marlinspikelaw05_HostSorts.j0 k l0 (decide ((l0.length : Int) > 60))) = some r := by rw [if_neg (show ¬ (false = true) by decide)] at H; exact H
      clear H
      have H := H1
      clear H1
      have H' := Aside0.mk H
      clear H
      go_wp2_with (first | ((with_reducible refine gate_callee (f := 8) rfl ?_); refine goesL_ (some 17) rfl rfl Tryd.func8 (by kernel_rfl) rfl #[.slice A0 l0.length c0] rfl (by (try simp only [List.map_toArray, List.map_cons, List.map_nil]); first | done | rfl | (simp only [List.length_drop, List.length_take]; rfl)) ?_; (with_reducible refine (marlinspikelaw05_long.calls k _ _ l0 false _ ?side1 ?side2 A3.out).mono ?_); (case side1 => repeat (first | exact (Kd.C_below HR0.out HB.out) | (with_reducible refine Kd.C_alloc ?_ _) | (with_reducible refine Kd.C_drewN ?_ _) | (with_reducible refine Kd.C_drew ?_))); (case side2 => exact HC0.out); rintro e w' ⟨rfl, ⟨nd, rfl⟩⟩; refine ⟨_, rfl, ?_⟩))
      go_meet
      case rel => exact ⟨_, (decide ((l0.length : Int) > 60)), (by first | rfl | (simp; done) | (simp [*]; done)), H', ⟨by first | omega | exact Nat.le_refl _⟩, ⟨by repeat (first | (with_reducible first | exact HB.out | apply below_alloc | apply pw_below_drewN | apply below_drew1) | exact HB.out)⟩⟩
  case rest =>
    clear HC2
    try clear p2
    try clear c4
    obtain ⟨kq, x22_1, rfl, HA, HJ1, HB⟩ := hcut
    cases kq with
    | zero => exact absurd HA.out (by simp [marlinspikelaw05_HostSorts.j0])
    | succ kj1 =>
      have H := HA.out
      clear HA
      simp only [marlinspikelaw05_HostSorts.j0] at H
      by_cases c5 : x22_1 = true
      · subst c5
        have H1 : ((marlinspikelaw05_alive.f kj1).bind fun t317 => (some t317)) = some r := by rw [if_pos rfl] at H; exact H
        clear H
        have H := H1
        clear H1
        replace H := Option.bind_eq_some_iff.mp H
        obtain ⟨t317, A60, H⟩ := H
        replace H : (some t317) = some r := H
        have A6 := Aside0.mk A60
        clear A60
        obtain rfl := Option.some.inj H
        go_wp2_with (first | ((with_reducible refine gate_callee (f := 9) rfl ?_); refine goesL_ (some 23) rfl rfl Tryd.func9 (by kernel_rfl) rfl #[] rfl (by (try simp only [List.map_toArray, List.map_cons, List.map_nil]); first | done | rfl | (simp only [List.length_drop, List.length_take]; rfl)) ?_; (with_reducible refine (marlinspikelaw05_alive.calls kj1  t317 _ A6.out (HG_.out.below (by repeat (first | (with_reducible first | exact HB.out | apply below_alloc | apply pw_below_drewN | apply below_drew1) | exact HB.out)))).mono ?_); rintro e w7 ⟨rfl, hb⟩; refine ⟨_, rfl, ?_⟩; have n0_ := Aside0.mk (below_step (by repeat (first | (with_reducible first | exact HB.out | apply below_alloc | apply pw_below_drewN | apply below_drew1) | exact HB.out)) hb); clear HB; have HB := n0_; clear n0_; (try clear hb); (try clear hb2); (try clear hk); (try clear hi)))
        go_ret
        exact ⟨by first | rfl | (simp [errW_none, errW_some] <;> rfl) | (simp [*, errW_none, errW_some] <;> rfl), by repeat (first | (with_reducible first | exact HB.out | apply below_alloc | apply pw_below_drewN | apply below_drew1) | exact HB.out)⟩
      · replace c5 := Bool.eq_false_iff.mpr c5
        subst c5
        have H1 : ((host_Sorted.f l0).bind fun t318 => (if (t318.length : Int) = (l0.length : Int) then ((host_Sorted.f t318).bind fun t321 => ((marlinspikeref05_Same.f kj1 t321 t318).bind fun t324 => (marlinspikelaw05_HostSorts.j1 kj1 l0 t318 (!t324)))) else (marlinspikelaw05_HostSorts.j1 kj1 l0 t318 true))) = some r := by rw [if_neg (show ¬ (false = true) by decide)] at H; exact H
        clear H
        have H := H1
        clear H1
        replace H := Option.bind_eq_some_iff.mp H
        obtain ⟨t318, A80, H⟩ := H
        replace H : (if (t318.length : Int) = (l0.length : Int) then ((host_Sorted.f t318).bind fun t321 => ((marlinspikeref05_Same.f kj1 t321 t318).bind fun t324 => (marlinspikelaw05_HostSorts.j1 kj1 l0 t318 (!t324)))) else (marlinspikelaw05_HostSorts.j1 kj1 l0 t318 true)) = some r := H
        have A8 := Aside0.mk A80
        clear A80
        have HC9 := Aside0.mk H
        clear H
        go_upto_region 4 with (first | ((with_reducible refine gate_callee (f := 17) rfl ?_); refine goesL_ (some 25) rfl rfl Tryd.func17 (by kernel_rfl) rfl #[.slice A0 l0.length c0] rfl (by (try simp only [List.map_toArray, List.map_cons, List.map_nil]); first | done | rfl | (simp only [List.length_drop, List.length_take]; rfl)) ?_; (with_reducible refine (host_Sorted.calls _ _ l0 t318 _ ?side1 ?side2 A8.out).mono ?_); (case side1 => repeat (first | exact (Kd.C_below HR0.out HB.out) | (with_reducible refine Kd.C_alloc ?_ _) | (with_reducible refine Kd.C_drewN ?_ _) | (with_reducible refine Kd.C_drew ?_))); (case side2 => exact HC0.out); rintro e w10 ⟨v319, rfl, ho0, hb⟩; refine ⟨_, rfl, ?_⟩; have n0_ := Aside0.mk (Kd.R_lower ho0 (below_size (by repeat (first | (with_reducible first | exact HB.out | apply below_alloc | apply pw_below_drewN | apply below_drew1) | exact HB.out)))); have n1_ := Aside0.mk (below_step (by repeat (first | (with_reducible first | exact HB.out | apply below_alloc | apply pw_below_drewN | apply below_drew1) | exact HB.out)) hb); clear HB; have HO320 := n0_; have HB := n1_; clear n0_ n1_; (try clear hb); (try clear hb2); (try clear hk); (try clear hi); (try clear ho0)))
        (try simp only [Act.put, List.setIfInBounds_toArray, List.set_cons_zero, List.set_cons_succ])
        go_cut [37] (fun v37 wc => ∃ (kq : Nat) (x37_8 : Bool), v37 = .bool x37_8 ∧ Aside0 (marlinspikelaw05_HostSorts.j1 kq l0 t318 x37_8 = some r) ∧ Aside0 (kq ≤ kj1) ∧ Aside0 (Kd.R Kd.string 9 wc w.heap.size (fun _ => True) v319 t318) ∧ Aside0 (Below w.heap.size w wc))
        case first =>
          have H := HC9.out
          clear HC9
          by_cases c11 : (t318.length : Int) = (l0.length : Int)
          · rw [if_pos c11] at H
            have c11b0 : ((t318.length : Int) == (l0.length : Int)) = true := beq_iff_eq.mpr c11
            have c11b1 : ((t318.length : Int) != (l0.length : Int)) = false := bne_eq_false_iff_eq.mpr c11
            have c11b2 : (t318.length == l0.length) = true := by first | simpa using c11 | (simp at c11 ⊢; omega)
            clear c11
            (first | rw [c11b0] | (simp only [i64_w, i32_w]; rw [c11b0]) | skip)
            replace H := Option.bind_eq_some_iff.mp H
            obtain ⟨t321, A120, H⟩ := H
            replace H : ((marlinspikeref05_Same.f kj1 t321 t318).bind fun t324 => (marlinspikelaw05_HostSorts.j1 kj1 l0 t318 (!t324))) = some r := H
            have A12 := Aside0.mk A120
            clear A120
            replace H := Option.bind_eq_some_iff.mp H
            obtain ⟨t324, A130, H⟩ := H
            replace H : (marlinspikelaw05_HostSorts.j1 kj1 l0 t318 (!t324)) = some r := H
            have A13 := Aside0.mk A130
            clear A130
            have H' := Aside0.mk H
            clear H
            obtain ⟨Ao14, co14, eo14⟩ := Kd.R_slice HO320.out
            subst eo14
            go_wp2_with (first | (go_at_call 17; (with_reducible refine (host_Sorted.calls _ _ t318 t321 _ ?side1 ?side2 A12.out).mono ?_); (case side1 => repeat (first | exact (Kd.R_reads' HO320.out).2.2 | (with_reducible refine Kd.C_alloc ?_ _) | (with_reducible refine Kd.C_drewN ?_ _) | (with_reducible refine Kd.C_drew ?_))); (case side2 => exact (Kd.R_reads' HO320.out).2.1); rintro e w15 ⟨v322, rfl, ho0, hb⟩; have n0_ := Aside0.mk (Kd.R_elder' (by (with_reducible repeat (first | apply Kd.R_alloc | apply Kd.R_drewN | apply Kd.R_drew)); exact HO320.out) (Kd.R_base ho0) hb); have n1_ := Aside0.mk (Kd.R_lower (Kd.R_new' ho0 (Kd.R_lt (by (with_reducible repeat (first | apply Kd.R_alloc | apply Kd.R_drewN | apply Kd.R_drew)); exact HO320.out))) (below_size (by repeat (first | (with_reducible first | exact HB.out | apply below_alloc | apply pw_below_drewN | apply below_drew1) | exact HB.out)))); have n2_ := Aside0.mk (below_step (by repeat (first | (with_reducible first | exact HB.out | apply below_alloc | apply pw_below_drewN | apply below_drew1) | exact HB.out)) hb); clear HO320; clear HB; have HO320 := n0_; have HO323 := n1_; have HB := n2_; clear n0_ n1_ n2_; (try clear hb); (try clear hb2); (try clear hk); (try clear hi); (try clear ho0); obtain ⟨Ao16, co16, eo16⟩ := Kd.R_slice HO323.out; subst eo16) | (go_at_call 13; (with_reducible refine (marlinspikeref05_Same.calls kj1 _ _ t321 _ _ t318 t324 _ ?side1 ?side2 ?side3 ?side4 A13.out).mono ?_); (case side1 => repeat (first | exact (Kd.R_reads' HO323.out).2.2 | (with_reducible refine Kd.C_alloc ?_ _) | (with_reducible refine Kd.C_drewN ?_ _) | (with_reducible refine Kd.C_drew ?_))); (case side2 => exact (Kd.R_reads' HO323.out).2.1); (case side3 => repeat (first | exact (Kd.R_reads' HO320.out).2.2 | (with_reducible refine Kd.C_alloc ?_ _) | (with_reducible refine Kd.C_drewN ?_ _) | (with_reducible refine Kd.C_drew ?_))); (case side4 => exact (Kd.R_reads' HO320.out).2.1); rintro e w' ⟨rfl, ⟨nd, rfl⟩⟩))
            go_meet
            case rel => exact ⟨_, (!t324), (by first | rfl | (simp; done) | (simp [*]; done)), H', ⟨by have := HJ1.out; first | omega | exact Nat.le_refl _⟩, ⟨by (with_reducible repeat (first | apply Kd.R_alloc | apply Kd.R_drewN | apply Kd.R_drew)); exact Kd.R_mono HO320.out (fun _ hk => trivial)⟩, ⟨by repeat (first | (with_reducible first | exact HB.out | apply below_alloc | apply pw_below_drewN | apply below_drew1) | exact HB.out)⟩⟩
          · rw [if_neg c11] at H
            have c11b0 : ((t318.length : Int) == (l0.length : Int)) = false := beq_eq_false_iff_ne.mpr c11
            have c11b1 : ((t318.length : Int) != (l0.length : Int)) = true := bne_iff_ne.mpr c11
            have c11b2 : (t318.length == l0.length) = false := by first | simpa using c11 | (simp at c11 ⊢; omega)
            (first | rw [c11b0] | (simp only [i64_w, i32_w]; rw [c11b0]) | skip)
            have H' := Aside0.mk H
            clear H
            obtain ⟨Ao17, co17, eo17⟩ := Kd.R_slice HO320.out
            subst eo17
            go_wp2
            go_meet
            case rel => exact ⟨_, (true), (by first | rfl | (simp; done) | (simp [*]; done)), H', ⟨by have := HJ1.out; first | omega | exact Nat.le_refl _⟩, ⟨by (with_reducible repeat (first | apply Kd.R_alloc | apply Kd.R_drewN | apply Kd.R_drew)); exact HO320.out⟩, ⟨by repeat (first | (with_reducible first | exact HB.out | apply below_alloc | apply pw_below_drewN | apply below_drew1) | exact HB.out)⟩⟩
        case rest =>
          clear HC9
          try clear c1
          try clear p2
          try clear c4
          try clear c5
          try clear c7
          try clear c8
          try clear c9
          try clear c11
          try clear c11b0
          try clear c11b1
          try clear c11b2
          try clear c17
          try clear p2
          obtain ⟨kq, x37_8, rfl, HA, HJ8, HO_3, HB⟩ := hcut
          cases kq with
          | zero => exact absurd HA.out (by simp [marlinspikelaw05_HostSorts.j1])
          | succ kj8 =>
            have H := HA.out
            clear HA
            simp only [marlinspikelaw05_HostSorts.j1] at H
            by_cases c18 : x37_8 = true
            · subst c18
              have H1 : (some false) = some r := by rw [if_pos rfl] at H; exact H
              clear H
              have H := H1
              clear H1
              obtain rfl := Option.some.inj H
              go_wp2
              go_ret
              exact ⟨by first | rfl | (simp [errW_none, errW_some] <;> rfl) | (simp [*, errW_none, errW_some] <;> rfl), by repeat (first | (with_reducible first | exact HB.out | apply below_alloc | apply pw_below_drewN | apply below_drew1) | exact HB.out)⟩
            · replace c18 := Bool.eq_false_iff.mpr c18
              subst c18
              have H1 : (marlinspikelaw05_HostSorts.l0 kj8 l0 t318 t318 (t318.length : Int) 0) = some r := by rw [if_neg (show ¬ (false = true) by decide)] at H; exact H
              clear H
              have H := H1
              clear H1
              have H' := Aside0.mk H
              clear H
              obtain ⟨Ao19, co19, eo19⟩ := Kd.R_slice HO_3.out
              subst eo19
              go_wp2
              go_loopg [40] kj8 (fun kq v40 w' => ∃ (x40_3 : Int), v40 = .int .i64 x40_3 ∧ Aside0 (marlinspikelaw05_HostSorts.l0 kq l0 t318 t318 (t318.length : Int) x40_3 = some r) ∧ Aside0 (kq ≤ kj8) ∧ Aside0 (Kd.R Kd.string 9 w' w.heap.size (fun _ => True) (.slice Ao19 t318.length co19) t318) ∧ Aside0 (Kd.R Kd.string 9 w' w.heap.size (fun _ => True) (.slice Ao19 t318.length co19) t318) ∧ Aside0 (Below w.heap.size w w'))
              case atStart => exact ⟨(0), (by first | rfl | (simp; done) | (simp [*]; done)), H', ⟨Nat.le_refl _⟩, ⟨by (with_reducible repeat (first | apply Kd.R_alloc | apply Kd.R_drewN | apply Kd.R_drew)); exact HO_3.out⟩, ⟨by (with_reducible repeat (first | apply Kd.R_alloc | apply Kd.R_drewN | apply Kd.R_drew)); exact HO_3.out⟩, ⟨by repeat (first | (with_reducible first | exact HB.out | apply below_alloc | apply pw_below_drewN | apply below_drew1) | exact HB.out)⟩⟩
              case round =>
                clear H'
                try clear c1
                try clear p2
                try clear c4
                try clear c5
                try clear c7
                try clear c8
                try clear c9
                try clear c11
                try clear c11b0
                try clear c11b1
                try clear c11b2
                try clear c17
                try clear c18
                try clear p2
                obtain ⟨x40_3, rfl, HA, HK3, HO_3, HO_38, HB⟩ := hrel
                cases gk with
                | zero => exact absurd HA.out (by simp [marlinspikelaw05_HostSorts.l0])
                | succ k3 =>
                  have H := HA.out
                  clear HA
                  simp only [marlinspikelaw05_HostSorts.l0] at H
                  by_cases c20 : x40_3 < (t318.length : Int)
                  · rw [if_pos c20] at H
                    have c20b0 : decide (x40_3 < (t318.length : Int)) = true := decide_eq_true c20
                    clear c20
                    by_cases c21 : 0 ≤ x40_3
                    · rw [if_pos c21] at H
                      have c21b0 : decide (0 ≤ x40_3) = true := decide_eq_true c21
                      clear c21
                      by_cases c22 : x40_3 < (t318.length : Int)
                      · rw [if_pos c22] at H
                        have c22b0 : decide (x40_3 < (t318.length : Int)) = true := decide_eq_true c22
                        clear c22
                        have H' := Aside0.mk H
                        clear H
                        have p326 : 0 ≤ (x40_3 : Int) := of_decide_eq_true (by first | (with_reducible assumption) | assumption)
                        have q326 : x40_3 < (t318.length : Int) := of_decide_eq_true (by first | (with_reducible assumption) | assumption)
                        obtain ⟨ad326, e326, hx326_0⟩ := Kd.at_string (Kd.R_reads' HO_38.out).2.2 x40_3 p326 q326
                        cases e326
                        replace p326 := eq_true p326
                        replace q326 := eq_true q326
                        go_wp2
                        go_loopg [6, 47] k3 (fun kq v6 v47 w' => ∃ (x6_4 : Int) (x47_4 : Int), v6 = .int .i64 x6_4 ∧ v47 = .int .i64 x47_4 ∧ Aside0 (marlinspikelaw05_HostSorts.l1 kq l0 t318 x40_3 (rdOf ByteArray.empty t318 x40_3) x6_4 t318 (t318.length : Int) x40_3 (l0.length : Int) x47_4 = some r) ∧ Aside0 (kq ≤ k3) ∧ Aside0 (Kd.R Kd.string 9 w' w.heap.size (fun _ => True) (.slice (some ad326) t318.length co19) t318) ∧ Aside0 (Kd.R Kd.string 9 w' w.heap.size (fun _ => True) (.slice (some ad326) t318.length co19) t318) ∧ Aside0 (Below w.heap.size w w'))
                        case atStart => exact ⟨(0), (0), (by first | rfl | (simp; done) | (simp [*]; done)), (by first | rfl | (simp; done) | (simp [*]; done)), H', ⟨Nat.le_refl _⟩, ⟨by (with_reducible repeat (first | apply Kd.R_alloc | apply Kd.R_drewN | apply Kd.R_drew)); exact HO_3.out⟩, ⟨by (with_reducible repeat (first | apply Kd.R_alloc | apply Kd.R_drewN | apply Kd.R_drew)); exact HO_38.out⟩, ⟨by repeat (first | (with_reducible first | exact HB.out | apply below_alloc | apply pw_below_drewN | apply below_drew1) | exact HB.out)⟩⟩
                        case round =>
                          clear H'
                          try clear c1
                          try clear c2
                          try clear p2
                          try clear p3
                          try clear q3
                          try clear hx3
                          try clear c4
                          try clear c5
                          try clear c7
                          try clear c8
                          try clear c9
                          try clear c11
                          try clear c11b0
                          try clear c11b1
                          try clear c11b2
                          try clear c17
                          try clear c18
                          try clear c20
                          try clear c20b0
                          try clear c21
                          try clear c21b0
                          try clear c22
                          try clear c22b0
                          try clear hx326_0
                          try clear p2
                          try clear p326
                          try clear q326
                          obtain ⟨x6_4, x47_4, rfl, rfl, HA, HK4, HO_3, HO_38, HB⟩ := hrel
                          cases gk with
                          | zero => exact absurd HA.out (by simp [marlinspikelaw05_HostSorts.l1])
                          | succ k4 =>
                            have H := HA.out
                            clear HA
                            simp only [marlinspikelaw05_HostSorts.l1] at H
                            by_cases c23 : x47_4 < (l0.length : Int)
                            · rw [if_pos c23] at H
                              have c23b0 : decide (x47_4 < (l0.length : Int)) = true := decide_eq_true c23
                              clear c23
                              by_cases c24 : 0 ≤ x47_4
                              · rw [if_pos c24] at H
                                have c24b0 : decide (0 ≤ x47_4) = true := decide_eq_true c24
                                clear c24
                                by_cases c25 : x47_4 < (l0.length : Int)
                                · rw [if_pos c25] at H
                                  have c25b0 : decide (x47_4 < (l0.length : Int)) = true := decide_eq_true c25
                                  clear c25
                                  by_cases c26 : (rdOf ByteArray.empty l0 x47_4).toList = (rdOf ByteArray.empty t318 x40_3).toList
                                  · rw [if_pos c26] at H
                                    have c26b0 : ((rdOf ByteArray.empty l0 x47_4).toList == (rdOf ByteArray.empty t318 x40_3).toList) = true := beq_iff_eq.mpr c26
                                    have c26b1 : ((rdOf ByteArray.empty l0 x47_4).toList != (rdOf ByteArray.empty t318 x40_3).toList) = false := bne_eq_false_iff_eq.mpr c26
                                    clear c26
                                    by_cases c27 : x47_4 < (t318.length : Int)
                                    · rw [if_pos c27] at H
                                      have c27b0 : decide (x47_4 < (t318.length : Int)) = true := decide_eq_true c27
                                      clear c27
                                      by_cases c28 : (rdOf ByteArray.empty t318 x47_4).toList = (rdOf ByteArray.empty t318 x40_3).toList
                                      · rw [if_pos c28] at H
                                        have c28b0 : ((rdOf ByteArray.empty t318 x47_4).toList == (rdOf ByteArray.empty t318 x40_3).toList) = true := beq_iff_eq.mpr c28
                                        have c28b1 : ((rdOf ByteArray.empty t318 x47_4).toList != (rdOf ByteArray.empty t318 x40_3).toList) = false := bne_eq_false_iff_eq.mpr c28
                                        clear c28
                                        have H' := Aside0.mk H
                                        clear H
                                        have p327 : 0 ≤ (x47_4 : Int) := of_decide_eq_true (by first | (with_reducible assumption) | assumption)
                                        have q327 : x47_4 < (l0.length : Int) := of_decide_eq_true (by first | (with_reducible assumption) | assumption)
                                        obtain ⟨ad327, e327, hx327_0⟩ := Kd.at_string HR0.out x47_4 p327 q327
                                        cases e327
                                        replace hx327_0 := (HB.out.cell (World.block_lt_of_cell? w _ hx327_0)).trans hx327_0
                                        replace p327 := eq_true p327
                                        replace q327 := eq_true q327
                                        have p328 : 0 ≤ (x47_4 : Int) := of_decide_eq_true (by first | (with_reducible assumption) | assumption)
                                        have q328 : x47_4 < (t318.length : Int) := of_decide_eq_true (by first | (with_reducible assumption) | assumption)
                                        obtain ⟨ad328, e328, hx328_0⟩ := Kd.at_string (Kd.R_reads' HO_3.out).2.2 x47_4 p328 q328
                                        obtain rfl : ad326 = ad328 := (by injection e328)
                                        replace p328 := eq_true p328
                                        replace q328 := eq_true q328
                                        go_wp2
                                        go_roundg k4
                                        case measure => have := HJ1.out; have := HJ8.out; have := HK3.out; have := HK4.out; omega
                                        case rel => exact ⟨(wrap64 ((wrap64 (x6_4 + 1)) - 1)), (wrap64 (x47_4 + 1)), (by first | rfl | (simp; done) | (simp [*]; done)), (by first | rfl | (simp; done) | (simp [*]; done)), H', ⟨by have := HJ1.out; have := HJ8.out; have := HK3.out; have := HK4.out; omega⟩, ⟨by (with_reducible repeat (first | apply Kd.R_alloc | apply Kd.R_drewN | apply Kd.R_drew)); exact HO_3.out⟩, ⟨by (with_reducible repeat (first | apply Kd.R_alloc | apply Kd.R_drewN | apply Kd.R_drew)); exact HO_38.out⟩, ⟨by repeat (first | (with_reducible first | exact HB.out | apply below_alloc | apply pw_below_drewN | apply below_drew1) | exact HB.out)⟩⟩
                                      · rw [if_neg c28] at H
                                        have c28b0 : ((rdOf ByteArray.empty t318 x47_4).toList == (rdOf ByteArray.empty t318 x40_3).toList) = false := beq_eq_false_iff_ne.mpr c28
                                        have c28b1 : ((rdOf ByteArray.empty t318 x47_4).toList != (rdOf ByteArray.empty t318 x40_3).toList) = true := bne_iff_ne.mpr c28
                                        have H' := Aside0.mk H
                                        clear H
                                        have p327 : 0 ≤ (x47_4 : Int) := of_decide_eq_true (by first | (with_reducible assumption) | assumption)
                                        have q327 : x47_4 < (l0.length : Int) := of_decide_eq_true (by first | (with_reducible assumption) | assumption)
                                        obtain ⟨ad327, e327, hx327_0⟩ := Kd.at_string HR0.out x47_4 p327 q327
                                        cases e327
                                        replace hx327_0 := (HB.out.cell (World.block_lt_of_cell? w _ hx327_0)).trans hx327_0
                                        replace p327 := eq_true p327
                                        replace q327 := eq_true q327
                                        have p328 : 0 ≤ (x47_4 : Int) := of_decide_eq_true (by first | (with_reducible assumption) | assumption)
                                        have q328 : x47_4 < (t318.length : Int) := of_decide_eq_true (by first | (with_reducible assumption) | assumption)
                                        obtain ⟨ad328, e328, hx328_0⟩ := Kd.at_string (Kd.R_reads' HO_3.out).2.2 x47_4 p328 q328
                                        obtain rfl : ad326 = ad328 := (by injection e328)
                                        replace p328 := eq_true p328
                                        replace q328 := eq_true q328
                                        go_wp2
                                        go_roundg k4
                                        case measure => have := HJ1.out; have := HJ8.out; have := HK3.out; have := HK4.out; omega
                                        case rel => exact ⟨(wrap64 (x6_4 + 1)), (wrap64 (x47_4 + 1)), (by first | rfl | (simp; done) | (simp [*]; done)), (by first | rfl | (simp; done) | (simp [*]; done)), H', ⟨by have := HJ1.out; have := HJ8.out; have := HK3.out; have := HK4.out; omega⟩, ⟨by (with_reducible repeat (first | apply Kd.R_alloc | apply Kd.R_drewN | apply Kd.R_drew)); exact HO_3.out⟩, ⟨by (with_reducible repeat (first | apply Kd.R_alloc | apply Kd.R_drewN | apply Kd.R_drew)); exact HO_38.out⟩, ⟨by repeat (first | (with_reducible first | exact HB.out | apply below_alloc | apply pw_below_drewN | apply below_drew1) | exact HB.out)⟩⟩
                                    · rw [if_neg c27] at H
                                      exact absurd H (by simp)
                                  · rw [if_neg c26] at H
                                    have c26b0 : ((rdOf ByteArray.empty l0 x47_4).toList == (rdOf ByteArray.empty t318 x40_3).toList) = false := beq_eq_false_iff_ne.mpr c26
                                    have c26b1 : ((rdOf ByteArray.empty l0 x47_4).toList != (rdOf ByteArray.empty t318 x40_3).toList) = true := bne_iff_ne.mpr c26
                                    by_cases c29 : x47_4 < (t318.length : Int)
                                    · rw [if_pos c29] at H
                                      have c29b0 : decide (x47_4 < (t318.length : Int)) = true := decide_eq_true c29
                                      clear c29
                                      by_cases c30 : (rdOf ByteArray.empty t318 x47_4).toList = (rdOf ByteArray.empty t318 x40_3).toList
                                      · rw [if_pos c30] at H
                                        have c30b0 : ((rdOf ByteArray.empty t318 x47_4).toList == (rdOf ByteArray.empty t318 x40_3).toList) = true := beq_iff_eq.mpr c30
                                        have c30b1 : ((rdOf ByteArray.empty t318 x47_4).toList != (rdOf ByteArray.empty t318 x40_3).toList) = false := bne_eq_false_iff_eq.mpr c30
                                        clear c30
                                        have H' := Aside0.mk H
                                        clear H
                                        have p327 : 0 ≤ (x47_4 : Int) := of_decide_eq_true (by first | (with_reducible assumption) | assumption)
                                        have q327 : x47_4 < (l0.length : Int) := of_decide_eq_true (by first | (with_reducible assumption) | assumption)
                                        obtain ⟨ad327, e327, hx327_0⟩ := Kd.at_string HR0.out x47_4 p327 q327
                                        cases e327
                                        replace hx327_0 := (HB.out.cell (World.block_lt_of_cell? w _ hx327_0)).trans hx327_0
                                        replace p327 := eq_true p327
                                        replace q327 := eq_true q327
                                        have p329 : 0 ≤ (x47_4 : Int) := of_decide_eq_true (by first | (with_reducible assumption) | assumption)
                                        have q329 : x47_4 < (t318.length : Int) := of_decide_eq_true (by first | (with_reducible assumption) | assumption)
                                        obtain ⟨ad329, e329, hx329_0⟩ := Kd.at_string (Kd.R_reads' HO_3.out).2.2 x47_4 p329 q329
                                        obtain rfl : ad326 = ad329 := (by injection e329)
                                        replace p329 := eq_true p329
                                        replace q329 := eq_true q329
                                        go_wp2
                                        go_roundg k4
                                        case measure => have := HJ1.out; have := HJ8.out; have := HK3.out; have := HK4.out; omega
                                        case rel => exact ⟨(wrap64 (x6_4 - 1)), (wrap64 (x47_4 + 1)), (by first | rfl | (simp; done) | (simp [*]; done)), (by first | rfl | (simp; done) | (simp [*]; done)), H', ⟨by have := HJ1.out; have := HJ8.out; have := HK3.out; have := HK4.out; omega⟩, ⟨by (with_reducible repeat (first | apply Kd.R_alloc | apply Kd.R_drewN | apply Kd.R_drew)); exact HO_3.out⟩, ⟨by (with_reducible repeat (first | apply Kd.R_alloc | apply Kd.R_drewN | apply Kd.R_drew)); exact HO_38.out⟩, ⟨by repeat (first | (with_reducible first | exact HB.out | apply below_alloc | apply pw_below_drewN | apply below_drew1) | exact HB.out)⟩⟩
                                      · rw [if_neg c30] at H
                                        have c30b0 : ((rdOf ByteArray.empty t318 x47_4).toList == (rdOf ByteArray.empty t318 x40_3).toList) = false := beq_eq_false_iff_ne.mpr c30
                                        have c30b1 : ((rdOf ByteArray.empty t318 x47_4).toList != (rdOf ByteArray.empty t318 x40_3).toList) = true := bne_iff_ne.mpr c30
                                        have H' := Aside0.mk H
                                        clear H
                                        have p327 : 0 ≤ (x47_4 : Int) := of_decide_eq_true (by first | (with_reducible assumption) | assumption)
                                        have q327 : x47_4 < (l0.length : Int) := of_decide_eq_true (by first | (with_reducible assumption) | assumption)
                                        obtain ⟨ad327, e327, hx327_0⟩ := Kd.at_string HR0.out x47_4 p327 q327
                                        cases e327
                                        replace hx327_0 := (HB.out.cell (World.block_lt_of_cell? w _ hx327_0)).trans hx327_0
                                        replace p327 := eq_true p327
                                        replace q327 := eq_true q327
                                        have p329 : 0 ≤ (x47_4 : Int) := of_decide_eq_true (by first | (with_reducible assumption) | assumption)
                                        have q329 : x47_4 < (t318.length : Int) := of_decide_eq_true (by first | (with_reducible assumption) | assumption)
                                        obtain ⟨ad329, e329, hx329_0⟩ := Kd.at_string (Kd.R_reads' HO_3.out).2.2 x47_4 p329 q329
                                        obtain rfl : ad326 = ad329 := (by injection e329)
                                        replace p329 := eq_true p329
                                        replace q329 := eq_true q329
                                        go_wp2
                                        go_roundg k4
                                        case measure => have := HJ1.out; have := HJ8.out; have := HK3.out; have := HK4.out; omega
                                        case rel => exact ⟨(x6_4), (wrap64 (x47_4 + 1)), (by first | rfl | (simp; done) | (simp [*]; done)), (by first | rfl | (simp; done) | (simp [*]; done)), H', ⟨by have := HJ1.out; have := HJ8.out; have := HK3.out; have := HK4.out; omega⟩, ⟨by (with_reducible repeat (first | apply Kd.R_alloc | apply Kd.R_drewN | apply Kd.R_drew)); exact HO_3.out⟩, ⟨by (with_reducible repeat (first | apply Kd.R_alloc | apply Kd.R_drewN | apply Kd.R_drew)); exact HO_38.out⟩, ⟨by repeat (first | (with_reducible first | exact HB.out | apply below_alloc | apply pw_below_drewN | apply below_drew1) | exact HB.out)⟩⟩
                                    · rw [if_neg c29] at H
                                      exact absurd H (by simp)
                                · rw [if_neg c25] at H
                                  exact absurd H (by simp)
                              · rw [if_neg c24] at H
                                exact absurd H (by simp)
                            · rw [if_neg c23] at H
                              have c23b0 : decide (x47_4 < (l0.length : Int)) = false := decide_eq_false c23
                              clear c23
                              by_cases c31 : x6_4 = 0
                              · rw [if_pos c31] at H
                                have c31b0 : (x6_4 == 0) = true := beq_iff_eq.mpr c31
                                have c31b1 : (x6_4 != 0) = false := bne_eq_false_iff_eq.mpr c31
                                clear c31
                                by_cases c32 : x40_3 = 0
                                · rw [if_pos c32] at H
                                  have c32b0 : (x40_3 == 0) = true := beq_iff_eq.mpr c32
                                  have c32b1 : (x40_3 != 0) = false := bne_eq_false_iff_eq.mpr c32
                                  clear c32
                                  have H' := Aside0.mk H
                                  clear H
                                  go_wp2
                                  go_roundg k4
                                  case measure => have := HJ1.out; have := HJ8.out; have := HK3.out; have := HK4.out; omega
                                  case rel => exact ⟨(wrap64 (x40_3 + 1)), (by first | rfl | (simp; done) | (simp [*]; done)), H', ⟨by have := HJ1.out; have := HJ8.out; have := HK3.out; have := HK4.out; omega⟩, ⟨by (with_reducible repeat (first | apply Kd.R_alloc | apply Kd.R_drewN | apply Kd.R_drew)); exact HO_3.out⟩, ⟨by (with_reducible repeat (first | apply Kd.R_alloc | apply Kd.R_drewN | apply Kd.R_drew)); exact HO_38.out⟩, ⟨by repeat (first | (with_reducible first | exact HB.out | apply below_alloc | apply pw_below_drewN | apply below_drew1) | exact HB.out)⟩⟩
                                · rw [if_neg c32] at H
                                  have c32b0 : (x40_3 == 0) = false := beq_eq_false_iff_ne.mpr c32
                                  have c32b1 : (x40_3 != 0) = true := bne_iff_ne.mpr c32
                                  obtain ⟨ji33, hji33⟩ : ∃ j_ : Int, (wrap64 (x40_3 - 1)) = j_ := ⟨_, rfl⟩
                                  replace H : (if 0 ≤ (ji33) then (if (ji33) < (t318.length : Int) then ((host_Number.f k4 (rdOf ByteArray.empty t318 (ji33))).bind fun bt331 => ((host_Number.f k4 (rdOf ByteArray.empty t318 x40_3)).bind fun bt335 => (if (Op.bytesLess bt335.1.toList bt331.1.toList) = true then (some false) else (if bt331.1.toList = bt335.1.toList then (if bt331.2.2.2 = true then (if bt335.2.2.2 = true then (if bt331.2.1 > bt335.2.1 then (some false) else (marlinspikelaw05_HostSorts.l0 k4 l0 t318 t318 (t318.length : Int) (wrap64 (x40_3 + 1)))) else (marlinspikelaw05_HostSorts.l0 k4 l0 t318 t318 (t318.length : Int) (wrap64 (x40_3 + 1)))) else (marlinspikelaw05_HostSorts.l0 k4 l0 t318 t318 (t318.length : Int) (wrap64 (x40_3 + 1)))) else (marlinspikelaw05_HostSorts.l0 k4 l0 t318 t318 (t318.length : Int) (wrap64 (x40_3 + 1))))))) else (none)) else (none)) = some r := by first | (rw [hji33] at H; exact H) | (simp only [hji33] at H ⊢; exact H)
                                  have hji33w : (IntKind.i64.wrap (x40_3 - 1)) = ji33 := (i64_w _).trans hji33
                                  by_cases c34 : 0 ≤ (ji33)
                                  · rw [if_pos c34] at H
                                    have c34b0 : decide (0 ≤ (ji33)) = true := decide_eq_true c34
                                    clear c34
                                    by_cases c35 : (ji33) < (t318.length : Int)
                                    · rw [if_pos c35] at H
                                      have c35b0 : decide ((ji33) < (t318.length : Int)) = true := decide_eq_true c35
                                      clear c35
                                      replace H := Option.bind_eq_some_iff.mp H
                                      obtain ⟨⟨t331, t332, t333, t334⟩, A360, H⟩ := H
                                      replace H : ((host_Number.f k4 (rdOf ByteArray.empty t318 x40_3)).bind fun bt335 => (if (Op.bytesLess bt335.1.toList t331.toList) = true then (some false) else (if t331.toList = bt335.1.toList then (if t334 = true then (if bt335.2.2.2 = true then (if t332 > bt335.2.1 then (some false) else (marlinspikelaw05_HostSorts.l0 k4 l0 t318 t318 (t318.length : Int) (wrap64 (x40_3 + 1)))) else (marlinspikelaw05_HostSorts.l0 k4 l0 t318 t318 (t318.length : Int) (wrap64 (x40_3 + 1)))) else (marlinspikelaw05_HostSorts.l0 k4 l0 t318 t318 (t318.length : Int) (wrap64 (x40_3 + 1)))) else (marlinspikelaw05_HostSorts.l0 k4 l0 t318 t318 (t318.length : Int) (wrap64 (x40_3 + 1)))))) = some r := H
                                      have A36 := Aside0.mk A360
                                      clear A360
                                      replace H := Option.bind_eq_some_iff.mp H
                                      obtain ⟨⟨t335, t336, t337, t338⟩, A370, H⟩ := H
                                      replace H : (if (Op.bytesLess t335.toList t331.toList) = true then (some false) else (if t331.toList = t335.toList then (if t334 = true then (if t338 = true then (if t332 > t336 then (some false) else (marlinspikelaw05_HostSorts.l0 k4 l0 t318 t318 (t318.length : Int) (wrap64 (x40_3 + 1)))) else (marlinspikelaw05_HostSorts.l0 k4 l0 t318 t318 (t318.length : Int) (wrap64 (x40_3 + 1)))) else (marlinspikelaw05_HostSorts.l0 k4 l0 t318 t318 (t318.length : Int) (wrap64 (x40_3 + 1)))) else (marlinspikelaw05_HostSorts.l0 k4 l0 t318 t318 (t318.length : Int) (wrap64 (x40_3 + 1))))) = some r := H
                                      have A37 := Aside0.mk A370
                                      clear A370
                                      by_cases c38 : (Op.bytesLess t335.toList t331.toList) = true
                                      · rw [if_pos c38] at H
                                        have c38b0 : (Op.bytesLess t335.toList t331.toList) = true := c38
                                        have c38b8 := (bl_swap c38b0).1
                                        have c38b9 := (bl_swap c38b0).2
                                        clear c38
                                        obtain rfl := Option.some.inj H
                                        have p330 : 0 ≤ ((ji33) : Int) := of_decide_eq_true (by first | (with_reducible assumption) | assumption)
                                        have q330 : (ji33) < (t318.length : Int) := of_decide_eq_true (by first | (with_reducible assumption) | assumption)
                                        obtain ⟨ad330, e330, hx330_0⟩ := Kd.at_string (Kd.R_reads' HO_3.out).2.2 (ji33) p330 q330
                                        obtain rfl : ad326 = ad330 := (by injection e330)
                                        replace p330 := eq_true p330
                                        replace q330 := eq_true q330
                                        go_wp2_with (first | ((with_reducible refine gate_callee (f := 15) rfl ?_); refine goesL_ (some 77) rfl rfl Tryd.func15 (by kernel_rfl) rfl #[.string (rdOf ByteArray.empty t318 (ji33))] rfl (by (try simp only [List.map_toArray, List.map_cons, List.map_nil]); first | done | (simp only [hji33]; rfl) | rfl | (simp only [List.length_drop, List.length_take]; rfl)) ?_; (with_reducible refine (host_Number.calls k4 (rdOf ByteArray.empty t318 (ji33)) t331 t332 t333 t334 _ A36.out (HG_.out.below (by repeat (first | (with_reducible first | exact HB.out | apply below_alloc | apply pw_below_drewN | apply below_drew1) | exact HB.out)))).mono ?_); rintro e w39 ⟨rfl, hb⟩; refine ⟨_, rfl, ?_⟩; have n0_ := Aside0.mk (Kd.R_below (by (with_reducible repeat (first | apply Kd.R_alloc | apply Kd.R_drewN | apply Kd.R_drew)); exact HO_3.out) hb); have n1_ := Aside0.mk (Kd.R_below (by (with_reducible repeat (first | apply Kd.R_alloc | apply Kd.R_drewN | apply Kd.R_drew)); exact HO_38.out) hb); have n2_ := Aside0.mk (below_step (by repeat (first | (with_reducible first | exact HB.out | apply below_alloc | apply pw_below_drewN | apply below_drew1) | exact HB.out)) hb); clear HO_3; clear HO_38; clear HB; have HO_3 := n0_; have HO_38 := n1_; have HB := n2_; clear n0_ n1_ n2_; (try clear hb); (try clear hb2); (try clear hk); (try clear hi)) | ((with_reducible refine gate_callee (f := 15) rfl ?_); refine goesL_ (some 84) rfl rfl Tryd.func15 (by kernel_rfl) rfl #[.string (rdOf ByteArray.empty t318 x40_3)] rfl (by (try simp only [List.map_toArray, List.map_cons, List.map_nil]); first | done | rfl | (simp only [List.length_drop, List.length_take]; rfl)) ?_; (with_reducible refine (host_Number.calls k4 (rdOf ByteArray.empty t318 x40_3) t335 t336 t337 t338 _ A37.out (HG_.out.below (by repeat (first | (with_reducible first | exact HB.out | apply below_alloc | apply pw_below_drewN | apply below_drew1) | exact HB.out)))).mono ?_); rintro e w40 ⟨rfl, hb⟩; refine ⟨_, rfl, ?_⟩; have n0_ := Aside0.mk (Kd.R_below (by (with_reducible repeat (first | apply Kd.R_alloc | apply Kd.R_drewN | apply Kd.R_drew)); exact HO_3.out) hb); have n1_ := Aside0.mk (Kd.R_below (by (with_reducible repeat (first | apply Kd.R_alloc | apply Kd.R_drewN | apply Kd.R_drew)); exact HO_38.out) hb); have n2_ := Aside0.mk (below_step (by repeat (first | (with_reducible first | exact HB.out | apply below_alloc | apply pw_below_drewN | apply below_drew1) | exact HB.out)) hb); clear HO_3; clear HO_38; clear HB; have HO_3 := n0_; have HO_38 := n1_; have HB := n2_; clear n0_ n1_ n2_; (try clear hb); (try clear hb2); (try clear hk); (try clear hi)))
                                        go_ret
                                        exact ⟨by first | rfl | (simp [errW_none, errW_some] <;> rfl) | (simp only [← hji33]; first | rfl | (simp [errW_none, errW_some] <;> rfl)) | (simp [*, errW_none, errW_some] <;> rfl), by repeat (first | (with_reducible first | exact HB.out | apply below_alloc | apply pw_below_drewN | apply below_drew1) | exact HB.out)⟩
                                      · rw [if_neg c38] at H
                                        have c38b0 : (Op.bytesLess t335.toList t331.toList) = false := by simpa using c38
                                        clear c38
                                        by_cases c41 : t331.toList = t335.toList
                                        · rw [if_pos c41] at H
                                          have c41b0 : (t331.toList == t335.toList) = true := beq_iff_eq.mpr c41
                                          have c41b1 : (t331.toList != t335.toList) = false := bne_eq_false_iff_eq.mpr c41
                                          clear c41
                                          by_cases c42 : t334 = true
                                          · subst c42
                                            have H1 : (if t338 = true then (if t332 > t336 then (some false) else (marlinspikelaw05_HostSorts.l0 k4 l0 t318 t318 (t318.length : Int) (wrap64 (x40_3 + 1)))) else (marlinspikelaw05_HostSorts.l0 k4 l0 t318 t318 (t318.length : Int) (wrap64 (x40_3 + 1)))) = some r := by rw [if_pos rfl] at H; exact H
                                            clear H
                                            have H := H1
                                            clear H1
                                            by_cases c43 : t338 = true
                                            · subst c43
                                              have H1 : (if t332 > t336 then (some false) else (marlinspikelaw05_HostSorts.l0 k4 l0 t318 t318 (t318.length : Int) (wrap64 (x40_3 + 1)))) = some r := by rw [if_pos rfl] at H; exact H
                                              clear H
                                              have H := H1
                                              clear H1
                                              by_cases c44 : t332 > t336
                                              · rw [if_pos c44] at H
                                                have c44b0 : decide (t336 < t332) = true := decide_eq_true c44
                                                clear c44
                                                obtain rfl := Option.some.inj H
                                                have p330 : 0 ≤ ((ji33) : Int) := of_decide_eq_true (by first | (with_reducible assumption) | assumption)
                                                have q330 : (ji33) < (t318.length : Int) := of_decide_eq_true (by first | (with_reducible assumption) | assumption)
                                                obtain ⟨ad330, e330, hx330_0⟩ := Kd.at_string (Kd.R_reads' HO_3.out).2.2 (ji33) p330 q330
                                                obtain rfl : ad326 = ad330 := (by injection e330)
                                                replace p330 := eq_true p330
                                                replace q330 := eq_true q330
                                                go_wp2_with (first | ((with_reducible refine gate_callee (f := 15) rfl ?_); refine goesL_ (some 77) rfl rfl Tryd.func15 (by kernel_rfl) rfl #[.string (rdOf ByteArray.empty t318 (ji33))] rfl (by (try simp only [List.map_toArray, List.map_cons, List.map_nil]); first | done | (simp only [hji33]; rfl) | rfl | (simp only [List.length_drop, List.length_take]; rfl)) ?_; (with_reducible refine (host_Number.calls k4 (rdOf ByteArray.empty t318 (ji33)) t331 t332 t333 true _ A36.out (HG_.out.below (by repeat (first | (with_reducible first | exact HB.out | apply below_alloc | apply pw_below_drewN | apply below_drew1) | exact HB.out)))).mono ?_); rintro e w45 ⟨rfl, hb⟩; refine ⟨_, rfl, ?_⟩; have n0_ := Aside0.mk (Kd.R_below (by (with_reducible repeat (first | apply Kd.R_alloc | apply Kd.R_drewN | apply Kd.R_drew)); exact HO_3.out) hb); have n1_ := Aside0.mk (Kd.R_below (by (with_reducible repeat (first | apply Kd.R_alloc | apply Kd.R_drewN | apply Kd.R_drew)); exact HO_38.out) hb); have n2_ := Aside0.mk (below_step (by repeat (first | (with_reducible first | exact HB.out | apply below_alloc | apply pw_below_drewN | apply below_drew1) | exact HB.out)) hb); clear HO_3; clear HO_38; clear HB; have HO_3 := n0_; have HO_38 := n1_; have HB := n2_; clear n0_ n1_ n2_; (try clear hb); (try clear hb2); (try clear hk); (try clear hi)) | ((with_reducible refine gate_callee (f := 15) rfl ?_); refine goesL_ (some 84) rfl rfl Tryd.func15 (by kernel_rfl) rfl #[.string (rdOf ByteArray.empty t318 x40_3)] rfl (by (try simp only [List.map_toArray, List.map_cons, List.map_nil]); first | done | rfl | (simp only [List.length_drop, List.length_take]; rfl)) ?_; (with_reducible refine (host_Number.calls k4 (rdOf ByteArray.empty t318 x40_3) t335 t336 t337 true _ A37.out (HG_.out.below (by repeat (first | (with_reducible first | exact HB.out | apply below_alloc | apply pw_below_drewN | apply below_drew1) | exact HB.out)))).mono ?_); rintro e w46 ⟨rfl, hb⟩; refine ⟨_, rfl, ?_⟩; have n0_ := Aside0.mk (Kd.R_below (by (with_reducible repeat (first | apply Kd.R_alloc | apply Kd.R_drewN | apply Kd.R_drew)); exact HO_3.out) hb); have n1_ := Aside0.mk (Kd.R_below (by (with_reducible repeat (first | apply Kd.R_alloc | apply Kd.R_drewN | apply Kd.R_drew)); exact HO_38.out) hb); have n2_ := Aside0.mk (below_step (by repeat (first | (with_reducible first | exact HB.out | apply below_alloc | apply pw_below_drewN | apply below_drew1) | exact HB.out)) hb); clear HO_3; clear HO_38; clear HB; have HO_3 := n0_; have HO_38 := n1_; have HB := n2_; clear n0_ n1_ n2_; (try clear hb); (try clear hb2); (try clear hk); (try clear hi)))
                                                go_ret
                                                exact ⟨by first | rfl | (simp [errW_none, errW_some] <;> rfl) | (simp only [← hji33]; first | rfl | (simp [errW_none, errW_some] <;> rfl)) | (simp [*, errW_none, errW_some] <;> rfl), by repeat (first | (with_reducible first | exact HB.out | apply below_alloc | apply pw_below_drewN | apply below_drew1) | exact HB.out)⟩
                                              · rw [if_neg c44] at H
                                                have c44b0 : decide (t336 < t332) = false := decide_eq_false c44
                                                clear c44
                                                have H' := Aside0.mk H
                                                clear H
                                                have p330 : 0 ≤ ((ji33) : Int) := of_decide_eq_true (by first | (with_reducible assumption) | assumption)
                                                have q330 : (ji33) < (t318.length : Int) := of_decide_eq_true (by first | (with_reducible assumption) | assumption)
                                                obtain ⟨ad330, e330, hx330_0⟩ := Kd.at_string (Kd.R_reads' HO_3.out).2.2 (ji33) p330 q330
                                                obtain rfl : ad326 = ad330 := (by injection e330)
                                                replace p330 := eq_true p330
                                                replace q330 := eq_true q330
                                                go_wp2_with (first | ((with_reducible refine gate_callee (f := 15) rfl ?_); refine goesL_ (some 77) rfl rfl Tryd.func15 (by kernel_rfl) rfl #[.string (rdOf ByteArray.empty t318 (ji33))] rfl (by (try simp only [List.map_toArray, List.map_cons, List.map_nil]); first | done | (simp only [hji33]; rfl) | rfl | (simp only [List.length_drop, List.length_take]; rfl)) ?_; (with_reducible refine (host_Number.calls k4 (rdOf ByteArray.empty t318 (ji33)) t331 t332 t333 true _ A36.out (HG_.out.below (by repeat (first | (with_reducible first | exact HB.out | apply below_alloc | apply pw_below_drewN | apply below_drew1) | exact HB.out)))).mono ?_); rintro e w47 ⟨rfl, hb⟩; refine ⟨_, rfl, ?_⟩; have n0_ := Aside0.mk (Kd.R_below (by (with_reducible repeat (first | apply Kd.R_alloc | apply Kd.R_drewN | apply Kd.R_drew)); exact HO_3.out) hb); have n1_ := Aside0.mk (Kd.R_below (by (with_reducible repeat (first | apply Kd.R_alloc | apply Kd.R_drewN | apply Kd.R_drew)); exact HO_38.out) hb); have n2_ := Aside0.mk (below_step (by repeat (first | (with_reducible first | exact HB.out | apply below_alloc | apply pw_below_drewN | apply below_drew1) | exact HB.out)) hb); clear HO_3; clear HO_38; clear HB; have HO_3 := n0_; have HO_38 := n1_; have HB := n2_; clear n0_ n1_ n2_; (try clear hb); (try clear hb2); (try clear hk); (try clear hi)) | ((with_reducible refine gate_callee (f := 15) rfl ?_); refine goesL_ (some 84) rfl rfl Tryd.func15 (by kernel_rfl) rfl #[.string (rdOf ByteArray.empty t318 x40_3)] rfl (by (try simp only [List.map_toArray, List.map_cons, List.map_nil]); first | done | rfl | (simp only [List.length_drop, List.length_take]; rfl)) ?_; (with_reducible refine (host_Number.calls k4 (rdOf ByteArray.empty t318 x40_3) t335 t336 t337 true _ A37.out (HG_.out.below (by repeat (first | (with_reducible first | exact HB.out | apply below_alloc | apply pw_below_drewN | apply below_drew1) | exact HB.out)))).mono ?_); rintro e w48 ⟨rfl, hb⟩; refine ⟨_, rfl, ?_⟩; have n0_ := Aside0.mk (Kd.R_below (by (with_reducible repeat (first | apply Kd.R_alloc | apply Kd.R_drewN | apply Kd.R_drew)); exact HO_3.out) hb); have n1_ := Aside0.mk (Kd.R_below (by (with_reducible repeat (first | apply Kd.R_alloc | apply Kd.R_drewN | apply Kd.R_drew)); exact HO_38.out) hb); have n2_ := Aside0.mk (below_step (by repeat (first | (with_reducible first | exact HB.out | apply below_alloc | apply pw_below_drewN | apply below_drew1) | exact HB.out)) hb); clear HO_3; clear HO_38; clear HB; have HO_3 := n0_; have HO_38 := n1_; have HB := n2_; clear n0_ n1_ n2_; (try clear hb); (try clear hb2); (try clear hk); (try clear hi)))
                                                go_roundg k4
                                                case measure => have := HJ1.out; have := HJ8.out; have := HK3.out; have := HK4.out; omega
                                                case rel => exact ⟨(wrap64 (x40_3 + 1)), (by first | rfl | (simp; done) | (simp [*]; done)), H', ⟨by have := HJ1.out; have := HJ8.out; have := HK3.out; have := HK4.out; omega⟩, ⟨by (with_reducible repeat (first | apply Kd.R_alloc | apply Kd.R_drewN | apply Kd.R_drew)); exact HO_3.out⟩, ⟨by (with_reducible repeat (first | apply Kd.R_alloc | apply Kd.R_drewN | apply Kd.R_drew)); exact HO_38.out⟩, ⟨by repeat (first | (with_reducible first | exact HB.out | apply below_alloc | apply pw_below_drewN | apply below_drew1) | exact HB.out)⟩⟩
                                            · replace c43 := Bool.eq_false_iff.mpr c43
                                              subst c43
                                              have H1 : (marlinspikelaw05_HostSorts.l0 k4 l0 t318 t318 (t318.length : Int) (wrap64 (x40_3 + 1))) = some r := by rw [if_neg (show ¬ (false = true) by decide)] at H; exact H
                                              clear H
                                              have H := H1
                                              clear H1
                                              have H' := Aside0.mk H
                                              clear H
                                              have p330 : 0 ≤ ((ji33) : Int) := of_decide_eq_true (by first | (with_reducible assumption) | assumption)
                                              have q330 : (ji33) < (t318.length : Int) := of_decide_eq_true (by first | (with_reducible assumption) | assumption)
                                              obtain ⟨ad330, e330, hx330_0⟩ := Kd.at_string (Kd.R_reads' HO_3.out).2.2 (ji33) p330 q330
                                              obtain rfl : ad326 = ad330 := (by injection e330)
                                              replace p330 := eq_true p330
                                              replace q330 := eq_true q330
                                              go_wp2_with (first | ((with_reducible refine gate_callee (f := 15) rfl ?_); refine goesL_ (some 77) rfl rfl Tryd.func15 (by kernel_rfl) rfl #[.string (rdOf ByteArray.empty t318 (ji33))] rfl (by (try simp only [List.map_toArray, List.map_cons, List.map_nil]); first | done | (simp only [hji33]; rfl) | rfl | (simp only [List.length_drop, List.length_take]; rfl)) ?_; (with_reducible refine (host_Number.calls k4 (rdOf ByteArray.empty t318 (ji33)) t331 t332 t333 true _ A36.out (HG_.out.below (by repeat (first | (with_reducible first | exact HB.out | apply below_alloc | apply pw_below_drewN | apply below_drew1) | exact HB.out)))).mono ?_); rintro e w49 ⟨rfl, hb⟩; refine ⟨_, rfl, ?_⟩; have n0_ := Aside0.mk (Kd.R_below (by (with_reducible repeat (first | apply Kd.R_alloc | apply Kd.R_drewN | apply Kd.R_drew)); exact HO_3.out) hb); have n1_ := Aside0.mk (Kd.R_below (by (with_reducible repeat (first | apply Kd.R_alloc | apply Kd.R_drewN | apply Kd.R_drew)); exact HO_38.out) hb); have n2_ := Aside0.mk (below_step (by repeat (first | (with_reducible first | exact HB.out | apply below_alloc | apply pw_below_drewN | apply below_drew1) | exact HB.out)) hb); clear HO_3; clear HO_38; clear HB; have HO_3 := n0_; have HO_38 := n1_; have HB := n2_; clear n0_ n1_ n2_; (try clear hb); (try clear hb2); (try clear hk); (try clear hi)) | ((with_reducible refine gate_callee (f := 15) rfl ?_); refine goesL_ (some 84) rfl rfl Tryd.func15 (by kernel_rfl) rfl #[.string (rdOf ByteArray.empty t318 x40_3)] rfl (by (try simp only [List.map_toArray, List.map_cons, List.map_nil]); first | done | rfl | (simp only [List.length_drop, List.length_take]; rfl)) ?_; (with_reducible refine (host_Number.calls k4 (rdOf ByteArray.empty t318 x40_3) t335 t336 t337 false _ A37.out (HG_.out.below (by repeat (first | (with_reducible first | exact HB.out | apply below_alloc | apply pw_below_drewN | apply below_drew1) | exact HB.out)))).mono ?_); rintro e w50 ⟨rfl, hb⟩; refine ⟨_, rfl, ?_⟩; have n0_ := Aside0.mk (Kd.R_below (by (with_reducible repeat (first | apply Kd.R_alloc | apply Kd.R_drewN | apply Kd.R_drew)); exact HO_3.out) hb); have n1_ := Aside0.mk (Kd.R_below (by (with_reducible repeat (first | apply Kd.R_alloc | apply Kd.R_drewN | apply Kd.R_drew)); exact HO_38.out) hb); have n2_ := Aside0.mk (below_step (by repeat (first | (with_reducible first | exact HB.out | apply below_alloc | apply pw_below_drewN | apply below_drew1) | exact HB.out)) hb); clear HO_3; clear HO_38; clear HB; have HO_3 := n0_; have HO_38 := n1_; have HB := n2_; clear n0_ n1_ n2_; (try clear hb); (try clear hb2); (try clear hk); (try clear hi)))
                                              go_roundg k4
                                              case measure => have := HJ1.out; have := HJ8.out; have := HK3.out; have := HK4.out; omega
                                              case rel => exact ⟨(wrap64 (x40_3 + 1)), (by first | rfl | (simp; done) | (simp [*]; done)), H', ⟨by have := HJ1.out; have := HJ8.out; have := HK3.out; have := HK4.out; omega⟩, ⟨by (with_reducible repeat (first | apply Kd.R_alloc | apply Kd.R_drewN | apply Kd.R_drew)); exact HO_3.out⟩, ⟨by (with_reducible repeat (first | apply Kd.R_alloc | apply Kd.R_drewN | apply Kd.R_drew)); exact HO_38.out⟩, ⟨by repeat (first | (with_reducible first | exact HB.out | apply below_alloc | apply pw_below_drewN | apply below_drew1) | exact HB.out)⟩⟩
                                          · replace c42 := Bool.eq_false_iff.mpr c42
                                            subst c42
                                            have H1 : (marlinspikelaw05_HostSorts.l0 k4 l0 t318 t318 (t318.length : Int) (wrap64 (x40_3 + 1))) = some r := by rw [if_neg (show ¬ (false = true) by decide)] at H; exact H
                                            clear H
                                            have H := H1
                                            clear H1
                                            have H' := Aside0.mk H
                                            clear H
                                            have p330 : 0 ≤ ((ji33) : Int) := of_decide_eq_true (by first | (with_reducible assumption) | assumption)
                                            have q330 : (ji33) < (t318.length : Int) := of_decide_eq_true (by first | (with_reducible assumption) | assumption)
                                            obtain ⟨ad330, e330, hx330_0⟩ := Kd.at_string (Kd.R_reads' HO_3.out).2.2 (ji33) p330 q330
                                            obtain rfl : ad326 = ad330 := (by injection e330)
                                            replace p330 := eq_true p330
                                            replace q330 := eq_true q330
                                            go_wp2_with (first | ((with_reducible refine gate_callee (f := 15) rfl ?_); refine goesL_ (some 77) rfl rfl Tryd.func15 (by kernel_rfl) rfl #[.string (rdOf ByteArray.empty t318 (ji33))] rfl (by (try simp only [List.map_toArray, List.map_cons, List.map_nil]); first | done | (simp only [hji33]; rfl) | rfl | (simp only [List.length_drop, List.length_take]; rfl)) ?_; (with_reducible refine (host_Number.calls k4 (rdOf ByteArray.empty t318 (ji33)) t331 t332 t333 false _ A36.out (HG_.out.below (by repeat (first | (with_reducible first | exact HB.out | apply below_alloc | apply pw_below_drewN | apply below_drew1) | exact HB.out)))).mono ?_); rintro e w51 ⟨rfl, hb⟩; refine ⟨_, rfl, ?_⟩; have n0_ := Aside0.mk (Kd.R_below (by (with_reducible repeat (first | apply Kd.R_alloc | apply Kd.R_drewN | apply Kd.R_drew)); exact HO_3.out) hb); have n1_ := Aside0.mk (Kd.R_below (by (with_reducible repeat (first | apply Kd.R_alloc | apply Kd.R_drewN | apply Kd.R_drew)); exact HO_38.out) hb); have n2_ := Aside0.mk (below_step (by repeat (first | (with_reducible first | exact HB.out | apply below_alloc | apply pw_below_drewN | apply below_drew1) | exact HB.out)) hb); clear HO_3; clear HO_38; clear HB; have HO_3 := n0_; have HO_38 := n1_; have HB := n2_; clear n0_ n1_ n2_; (try clear hb); (try clear hb2); (try clear hk); (try clear hi)) | ((with_reducible refine gate_callee (f := 15) rfl ?_); refine goesL_ (some 84) rfl rfl Tryd.func15 (by kernel_rfl) rfl #[.string (rdOf ByteArray.empty t318 x40_3)] rfl (by (try simp only [List.map_toArray, List.map_cons, List.map_nil]); first | done | rfl | (simp only [List.length_drop, List.length_take]; rfl)) ?_; (with_reducible refine (host_Number.calls k4 (rdOf ByteArray.empty t318 x40_3) t335 t336 t337 t338 _ A37.out (HG_.out.below (by repeat (first | (with_reducible first | exact HB.out | apply below_alloc | apply pw_below_drewN | apply below_drew1) | exact HB.out)))).mono ?_); rintro e w52 ⟨rfl, hb⟩; refine ⟨_, rfl, ?_⟩; have n0_ := Aside0.mk (Kd.R_below (by (with_reducible repeat (first | apply Kd.R_alloc | apply Kd.R_drewN | apply Kd.R_drew)); exact HO_3.out) hb); have n1_ := Aside0.mk (Kd.R_below (by (with_reducible repeat (first | apply Kd.R_alloc | apply Kd.R_drewN | apply Kd.R_drew)); exact HO_38.out) hb); have n2_ := Aside0.mk (below_step (by repeat (first | (with_reducible first | exact HB.out | apply below_alloc | apply pw_below_drewN | apply below_drew1) | exact HB.out)) hb); clear HO_3; clear HO_38; clear HB; have HO_3 := n0_; have HO_38 := n1_; have HB := n2_; clear n0_ n1_ n2_; (try clear hb); (try clear hb2); (try clear hk); (try clear hi)))
                                            go_roundg k4
                                            case measure => have := HJ1.out; have := HJ8.out; have := HK3.out; have := HK4.out; omega
                                            case rel => exact ⟨(wrap64 (x40_3 + 1)), (by first | rfl | (simp; done) | (simp [*]; done)), H', ⟨by have := HJ1.out; have := HJ8.out; have := HK3.out; have := HK4.out; omega⟩, ⟨by (with_reducible repeat (first | apply Kd.R_alloc | apply Kd.R_drewN | apply Kd.R_drew)); exact HO_3.out⟩, ⟨by (with_reducible repeat (first | apply Kd.R_alloc | apply Kd.R_drewN | apply Kd.R_drew)); exact HO_38.out⟩, ⟨by repeat (first | (with_reducible first | exact HB.out | apply below_alloc | apply pw_below_drewN | apply below_drew1) | exact HB.out)⟩⟩
                                        · rw [if_neg c41] at H
                                          have c41b0 : (t331.toList == t335.toList) = false := beq_eq_false_iff_ne.mpr c41
                                          have c41b1 : (t331.toList != t335.toList) = true := bne_iff_ne.mpr c41
                                          have c41b9 := bl_total c38b0 c41
                                          have H' := Aside0.mk H
                                          clear H
                                          have p330 : 0 ≤ ((ji33) : Int) := of_decide_eq_true (by first | (with_reducible assumption) | assumption)
                                          have q330 : (ji33) < (t318.length : Int) := of_decide_eq_true (by first | (with_reducible assumption) | assumption)
                                          obtain ⟨ad330, e330, hx330_0⟩ := Kd.at_string (Kd.R_reads' HO_3.out).2.2 (ji33) p330 q330
                                          obtain rfl : ad326 = ad330 := (by injection e330)
                                          replace p330 := eq_true p330
                                          replace q330 := eq_true q330
                                          go_wp2_with (first | ((with_reducible refine gate_callee (f := 15) rfl ?_); refine goesL_ (some 77) rfl rfl Tryd.func15 (by kernel_rfl) rfl #[.string (rdOf ByteArray.empty t318 (ji33))] rfl (by (try simp only [List.map_toArray, List.map_cons, List.map_nil]); first | done | (simp only [hji33]; rfl) | rfl | (simp only [List.length_drop, List.length_take]; rfl)) ?_; (with_reducible refine (host_Number.calls k4 (rdOf ByteArray.empty t318 (ji33)) t331 t332 t333 t334 _ A36.out (HG_.out.below (by repeat (first | (with_reducible first | exact HB.out | apply below_alloc | apply pw_below_drewN | apply below_drew1) | exact HB.out)))).mono ?_); rintro e w53 ⟨rfl, hb⟩; refine ⟨_, rfl, ?_⟩; have n0_ := Aside0.mk (Kd.R_below (by (with_reducible repeat (first | apply Kd.R_alloc | apply Kd.R_drewN | apply Kd.R_drew)); exact HO_3.out) hb); have n1_ := Aside0.mk (Kd.R_below (by (with_reducible repeat (first | apply Kd.R_alloc | apply Kd.R_drewN | apply Kd.R_drew)); exact HO_38.out) hb); have n2_ := Aside0.mk (below_step (by repeat (first | (with_reducible first | exact HB.out | apply below_alloc | apply pw_below_drewN | apply below_drew1) | exact HB.out)) hb); clear HO_3; clear HO_38; clear HB; have HO_3 := n0_; have HO_38 := n1_; have HB := n2_; clear n0_ n1_ n2_; (try clear hb); (try clear hb2); (try clear hk); (try clear hi)) | ((with_reducible refine gate_callee (f := 15) rfl ?_); refine goesL_ (some 84) rfl rfl Tryd.func15 (by kernel_rfl) rfl #[.string (rdOf ByteArray.empty t318 x40_3)] rfl (by (try simp only [List.map_toArray, List.map_cons, List.map_nil]); first | done | rfl | (simp only [List.length_drop, List.length_take]; rfl)) ?_; (with_reducible refine (host_Number.calls k4 (rdOf ByteArray.empty t318 x40_3) t335 t336 t337 t338 _ A37.out (HG_.out.below (by repeat (first | (with_reducible first | exact HB.out | apply below_alloc | apply pw_below_drewN | apply below_drew1) | exact HB.out)))).mono ?_); rintro e w54 ⟨rfl, hb⟩; refine ⟨_, rfl, ?_⟩; have n0_ := Aside0.mk (Kd.R_below (by (with_reducible repeat (first | apply Kd.R_alloc | apply Kd.R_drewN | apply Kd.R_drew)); exact HO_3.out) hb); have n1_ := Aside0.mk (Kd.R_below (by (with_reducible repeat (first | apply Kd.R_alloc | apply Kd.R_drewN | apply Kd.R_drew)); exact HO_38.out) hb); have n2_ := Aside0.mk (below_step (by repeat (first | (with_reducible first | exact HB.out | apply below_alloc | apply pw_below_drewN | apply below_drew1) | exact HB.out)) hb); clear HO_3; clear HO_38; clear HB; have HO_3 := n0_; have HO_38 := n1_; have HB := n2_; clear n0_ n1_ n2_; (try clear hb); (try clear hb2); (try clear hk); (try clear hi)))
                                          go_roundg k4
                                          case measure => have := HJ1.out; have := HJ8.out; have := HK3.out; have := HK4.out; omega
                                          case rel => exact ⟨(wrap64 (x40_3 + 1)), (by first | rfl | (simp; done) | (simp [*]; done)), H', ⟨by have := HJ1.out; have := HJ8.out; have := HK3.out; have := HK4.out; omega⟩, ⟨by (with_reducible repeat (first | apply Kd.R_alloc | apply Kd.R_drewN | apply Kd.R_drew)); exact HO_3.out⟩, ⟨by (with_reducible repeat (first | apply Kd.R_alloc | apply Kd.R_drewN | apply Kd.R_drew)); exact HO_38.out⟩, ⟨by repeat (first | (with_reducible first | exact HB.out | apply below_alloc | apply pw_below_drewN | apply below_drew1) | exact HB.out)⟩⟩
                                    · rw [if_neg c35] at H
                                      exact absurd H (by simp)
                                  · rw [if_neg c34] at H
                                    exact absurd H (by simp)
                              · rw [if_neg c31] at H
                                have c31b0 : (x6_4 == 0) = false := beq_eq_false_iff_ne.mpr c31
                                have c31b1 : (x6_4 != 0) = true := bne_iff_ne.mpr c31
                                obtain rfl := Option.some.inj H
                                go_wp2
                                go_ret
                                exact ⟨by first | rfl | (simp [errW_none, errW_some] <;> rfl) | (simp [*, errW_none, errW_some] <;> rfl), by repeat (first | (with_reducible first | exact HB.out | apply below_alloc | apply pw_below_drewN | apply below_drew1) | exact HB.out)⟩
                      · rw [if_neg c22] at H
                        exact absurd H (by simp)
                    · rw [if_neg c21] at H
                      exact absurd H (by simp)
                  · rw [if_neg c20] at H
                    have c20b0 : decide (x40_3 < (t318.length : Int)) = false := decide_eq_false c20
                    clear c20
                    replace H := Option.bind_eq_some_iff.mp H
                    obtain ⟨t325, A550, H⟩ := H
                    replace H : (some t325) = some r := H
                    have A55 := Aside0.mk A550
                    clear A550
                    obtain rfl := Option.some.inj H
                    go_wp2_with (first | ((with_reducible refine gate_callee (f := 9) rfl ?_); refine goesL_ (some 109) rfl rfl Tryd.func9 (by kernel_rfl) rfl #[] rfl (by (try simp only [List.map_toArray, List.map_cons, List.map_nil]); first | done | rfl | (simp only [List.length_drop, List.length_take]; rfl)) ?_; (with_reducible refine (marlinspikelaw05_alive.calls k3  t325 _ A55.out (HG_.out.below (by repeat (first | (with_reducible first | exact HB.out | apply below_alloc | apply pw_below_drewN | apply below_drew1) | exact HB.out)))).mono ?_); rintro e w56 ⟨rfl, hb⟩; refine ⟨_, rfl, ?_⟩; have n0_ := Aside0.mk (Kd.R_below (by (with_reducible repeat (first | apply Kd.R_alloc | apply Kd.R_drewN | apply Kd.R_drew)); exact HO_3.out) hb); have n1_ := Aside0.mk (Kd.R_below (by (with_reducible repeat (first | apply Kd.R_alloc | apply Kd.R_drewN | apply Kd.R_drew)); exact HO_38.out) hb); have n2_ := Aside0.mk (below_step (by repeat (first | (with_reducible first | exact HB.out | apply below_alloc | apply pw_below_drewN | apply below_drew1) | exact HB.out)) hb); clear HO_3; clear HO_38; clear HB; have HO_3 := n0_; have HO_38 := n1_; have HB := n2_; clear n0_ n1_ n2_; (try clear hb); (try clear hb2); (try clear hk); (try clear hi)))
                    go_ret
                    exact ⟨by first | rfl | (simp [errW_none, errW_some] <;> rfl) | (simp [*, errW_none, errW_some] <;> rfl), by repeat (first | (with_reducible first | exact HB.out | apply below_alloc | apply pw_below_drewN | apply below_drew1) | exact HB.out)⟩
end Go.Proofs.YtoammgpfbdcphaaDoor.Sr
end
section
namespace Go.Proofs.YtoammgpfbdcphaaDoor.Hx
open Go.RowKit Go.Proofs.YtoammgpfbdcphaaDoor.Lib Go.Proofs.YtoammgpfbdcphaaDoor.PH Go.Proofs.YtoammgpfbdcphaaDoor.Txt Go.Proofs.YtoammgpfbdcphaaDoor.Num Go.Proofs.YtoammgpfbdcphaaDoor.Hn Go.Proofs.YtoammgpfbdcphaaDoorW.PrintWords Go.Proofs.YtoammgpfbdcphaaDoorW.PrintLast Go.Proofs.YtoammgpfbdcphaaDoorW.PrintMore
set_option linter.unusedVariables false
set_option linter.unusedSimpArgs false
theorem long_l0 (l : List ByteArray) (hl : l.length ≤ 9223372036854775807) : ∀ (d i : Nat), l.length - i = d → i ≤ l.length → (∀ j (h : j < l.length), j < i → l[j].size ≤ 300) →
    (Ev (fun k => marlinspikelaw05_long.l0 k l l (l.length : Int) (i : Int)) true) ∨ (Ev (fun k => marlinspikelaw05_long.l0 k l l (l.length : Int) (i : Int)) false ∧ l.length ≤ 300 ∧ ∀ b ∈ l, b.size ≤ 300) := by
  intro d
  induction d with
  | zero =>
    intro i hd hi hb
    by_cases h : l.length ≤ 300
    · refine .inr ⟨Ev.shift ⟨0, fun k hk => ?_⟩, h, fun b hbm => ?_⟩
      · simp only [marlinspikelaw05_long.l0]
        rw [if_neg (by omega), decide_eq_false (show ¬ (l.length : Int) > 300 by omega)]
      · obtain ⟨j, hj, rfl⟩ := List.getElem_of_mem hbm
        exact hb j hj (by omega)
    · refine .inl (Ev.shift ⟨0, fun k hk => ?_⟩)
      simp only [marlinspikelaw05_long.l0]
      rw [if_neg (by omega), decide_eq_true (show (l.length : Int) > 300 by omega)]
  | succ d ih =>
    intro i hd hi hb
    have hlt : i < l.length := by omega
    by_cases h : l[i].size ≤ 300
    · have hstep : ∀ r, Ev (fun k => marlinspikelaw05_long.l0 k l l (l.length : Int) ((i + 1 : Nat) : Int)) r → Ev (fun k => marlinspikelaw05_long.l0 k l l (l.length : Int) (i : Int)) r := by
        intro r hr
        obtain ⟨K, hK⟩ := hr
        dsimp only at hK
        refine Ev.shift ⟨K, fun k hk => ?_⟩
        simp only [marlinspikelaw05_long.l0]
        rw [if_pos (by omega), if_pos (by omega), if_pos (by omega), rdN l i hlt, if_neg (by omega), wrap_nat (by omega)]
        exact hK k hk
      rcases ih (i + 1) (by omega) (by omega) (by
        intro j hj hji
        by_cases hji2 : j < i
        · exact hb j hj hji2
        · obtain rfl : j = i := by omega
          exact h) with h1 | ⟨h1, h2, h3⟩
      · exact .inl (hstep _ h1)
      · exact .inr ⟨hstep _ h1, h2, h3⟩
    · refine .inl (Ev.shift ⟨0, fun k hk => ?_⟩)
      simp only [marlinspikelaw05_long.l0]
      rw [if_pos (by omega), if_pos (by omega), if_pos (by omega), rdN l i hlt, if_pos (by omega)]
theorem long_ev (l : List ByteArray) (hl : l.length ≤ 9223372036854775807) : (Ev (fun k => marlinspikelaw05_long.f k l) true) ∨ (Ev (fun k => marlinspikelaw05_long.f k l) false ∧ l.length ≤ 300 ∧ ∀ b ∈ l, b.size ≤ 300) :=
  long_l0 l hl _ 0 rfl (by omega) (fun j h hj => by omega)
end Go.Proofs.YtoammgpfbdcphaaDoor.Hx
end
section
namespace Go.Proofs.YtoammgpfbdcphaaDoor.Sr
open Go.RowKit Go.Proofs.YtoammgpfbdcphaaDoor.Lib Go.Proofs.YtoammgpfbdcphaaDoor.PH Go.Proofs.YtoammgpfbdcphaaDoor.Txt Go.Proofs.YtoammgpfbdcphaaDoor.Hx Go.Proofs.YtoammgpfbdcphaaDoor.Ord Go.Proofs.YtoammgpfbdcphaaDoorW.PrintWords Go.Proofs.YtoammgpfbdcphaaDoorW.PrintLast Go.Proofs.YtoammgpfbdcphaaDoorW.PrintMore
set_option linter.unusedVariables false
set_option linter.unusedSimpArgs false
theorem srtN_len (l : List ByteArray) : (srtN l).length = l.length := srt_len _ l
theorem srtN_mem {l : List ByteArray} {b : ByteArray} (h : b ∈ srtN l) : b ∈ l := (srt_perm nameC l).mem_iff.1 h
theorem srtN_twice (l : List ByteArray) : srtN (srtN l) = srtN l := up_unique name_cmp name_eq (srt_perm _ _) (srt_up name_cmp _) (srt_up name_cmp _)
theorem numbers_law (x : ByteArray) (l : List ByteArray) (hx : x.size ≤ 4611686018427387903) (hl : l.length ≤ 9223372036854775807) : ∃ k, marlinspikelaw05_HostNumbers.f k x l = some true := by
  refine Ev.rounds (g := fun k => marlinspikelaw05_HostNumbers.f k x l) ?_
  obtain ⟨KA, hA⟩ := alive_ev
  obtain ⟨K1, h1⟩ := host_Number_ev x hx
  obtain ⟨K2, h2⟩ := rnumber_ev x hx
  dsimp only at hA h1 h2
  rcases long_ev l hl with ⟨K3, h3⟩ | ⟨⟨K3, h3⟩, hn, hs⟩
  · dsimp only at h3
    refine ⟨KA + K1 + K2 + K3, fun k hk => ?_⟩
    simp only [marlinspikelaw05_HostNumbers.f]
    rw [h1 k (by omega), Option.bind_some, h2 k (by omega), Option.bind_some, if_pos rfl, if_pos rfl, if_pos rfl, if_pos (by simp), h3 k (by omega), Option.bind_some, if_pos (by rfl), hA k (by omega)]
    rfl
  · obtain ⟨K4, h4⟩ := same_ev (srtN l) (by rw [srtN_len]; omega)
    dsimp only at h3 h4
    refine ⟨KA + K1 + K2 + K3 + K4, fun k hk => ?_⟩
    simp only [marlinspikelaw05_HostNumbers.f]
    rw [h1 k (by omega), Option.bind_some, h2 k (by omega), Option.bind_some, if_pos rfl, if_pos rfl, if_pos rfl, if_pos (by simp), h3 k (by omega), Option.bind_some, if_neg (by decide), hsorted_f l hn hs, Option.bind_some, rsorted_f l hn hs, Option.bind_some, h4 k (by omega), Option.bind_some, if_pos (by rfl), hA k (by omega)]
    rfl
def cntN (e : ByteArray) (l : List ByteArray) (t : Nat) : Nat := (l.take t).countP (fun b => decide (b.toList = e.toList))
theorem cntN_succ (e : ByteArray) (l : List ByteArray) (t : Nat) (h : t < l.length) : cntN e l (t + 1) = cntN e l t + if l[t].toList = e.toList then 1 else 0 := by
  unfold cntN
  rw [List.take_succ_eq_append_getElem h, List.countP_append]
  congr 1
  by_cases c : l[t].toList = e.toList <;> simp [c]
theorem cntN_le (e : ByteArray) (l : List ByteArray) (t : Nat) : cntN e l t ≤ l.length := by
  unfold cntN
  exact Nat.le_trans (List.countP_le_length) (by rw [List.length_take]; omega)
theorem cntN_all (e : ByteArray) (l s : List ByteArray) (hp : s.Perm l) : cntN e s s.length = cntN e l l.length := by
  unfold cntN
  rw [List.take_length, List.take_length]
  exact hp.countP_eq _
theorem sorts_l1 (l s : List ByteArray) (hl : l.length ≤ 60) (hp : s.Perm l) (e : ByteArray) (a b c : Int) (r : Bool) (i : Int)
    (hr : Ev (fun k => (if (0 : Int) = 0 then (if i = 0 then (marlinspikelaw05_HostSorts.l0 k l s s a (wrap64 (b + 1))) else (if 0 ≤ (wrap64 (i - 1)) then (if (wrap64 (i - 1)) < (s.length : Int) then ((host_Number.f k (rdOf ByteArray.empty s (wrap64 (i - 1)))).bind fun bt331 => ((host_Number.f k e).bind fun bt335 => (if (Op.bytesLess bt335.1.toList bt331.1.toList) = true then (some false) else (if bt331.1.toList = bt335.1.toList then (if bt331.2.2.2 = true then (if bt335.2.2.2 = true then (if bt331.2.1 > bt335.2.1 then (some false) else (marlinspikelaw05_HostSorts.l0 k l s s a (wrap64 (b + 1)))) else (marlinspikelaw05_HostSorts.l0 k l s s a (wrap64 (b + 1)))) else (marlinspikelaw05_HostSorts.l0 k l s s a (wrap64 (b + 1)))) else (marlinspikelaw05_HostSorts.l0 k l s s a (wrap64 (b + 1))))))) else (none)) else (none))) else (some false))) r) :
    ∀ (d t : Nat), l.length - t = d → t ≤ l.length → Ev (fun k => marlinspikelaw05_HostSorts.l1 k l s i e ((cntN e l t : Int) - (cntN e s t : Int)) s a b (l.length : Int) (t : Int)) r := by
  have hsl := hp.length_eq
  intro d
  induction d with
  | zero =>
    intro t hd ht
    obtain rfl : t = l.length := by omega
    have h0 : (cntN e l l.length : Int) - (cntN e s l.length : Int) = 0 := by
      have := cntN_all e l s hp
      rw [hsl] at this
      omega
    obtain ⟨K, hK⟩ := hr
    dsimp only at hK
    refine Ev.shift ⟨K, fun k hk => ?_⟩
    have h1 := hK k hk
    simp only [marlinspikelaw05_HostSorts.l1]
    rw [if_neg (by omega), h0]
    exact h1
  | succ d ih =>
    intro t hd ht
    have hlt : t < l.length := by omega
    have hlt2 : t < s.length := by omega
    obtain ⟨K, hK⟩ := ih (t + 1) (by omega) (by omega)
    dsimp only at hK
    refine Ev.shift ⟨K, fun k hk => ?_⟩
    have h1 := hK k hk
    have c1 := cntN_le e l t
    have c2 := cntN_le e s t
    rw [cntN_succ e l t hlt, cntN_succ e s t hlt2] at h1
    simp only [marlinspikelaw05_HostSorts.l1]
    rw [if_pos (by omega), if_pos (by omega), if_pos (by omega), rdN l t hlt, rdN s t hlt2, wrap_nat (by omega)]
    generalize cntN e l t = u at *
    generalize cntN e s t = v at *
    by_cases h2 : l[t].toList = e.toList
    · rw [if_pos h2] at h1 ⊢
      rw [if_pos (by omega)]
      by_cases h3 : s[t].toList = e.toList
      · rw [if_pos h3] at h1 ⊢
        have ew : wrap64 (wrap64 ((u : Int) - (v : Int) + 1) - 1) = ((u + 1 : Nat) : Int) - ((v + 1 : Nat) : Int) := by unfold wrap64; omega
        rw [ew]; exact h1
      · rw [if_neg h3] at h1 ⊢
        have ew : wrap64 ((u : Int) - (v : Int) + 1) = ((u + 1 : Nat) : Int) - ((v + 0 : Nat) : Int) := by unfold wrap64; omega
        rw [ew]; exact h1
    · rw [if_neg h2] at h1 ⊢
      rw [if_pos (by omega)]
      by_cases h3 : s[t].toList = e.toList
      · rw [if_pos h3] at h1 ⊢
        have ew : wrap64 ((u : Int) - (v : Int) - 1) = ((u + 0 : Nat) : Int) - ((v + 1 : Nat) : Int) := by unfold wrap64; omega
        rw [ew]; exact h1
      · rw [if_neg h3] at h1 ⊢
        exact h1
theorem sorts_l0 (l s : List ByteArray) (hl : l.length ≤ 60) (hp : s.Perm l) (hu : Up nameC s) (hs : ∀ b ∈ s, b.size ≤ 300) : ∀ (d i : Nat), s.length - i = d → i ≤ s.length → Ev (fun k => marlinspikelaw05_HostSorts.l0 k l s s (s.length : Int) (i : Int)) true := by
  have hsl := hp.length_eq
  obtain ⟨KA, hA⟩ := alive_ev
  dsimp only at hA
  intro d
  induction d with
  | zero =>
    intro i hd hi
    refine Ev.shift ⟨KA, fun k hk => ?_⟩
    simp only [marlinspikelaw05_HostSorts.l0]
    rw [if_neg (by omega), hA k hk]
    rfl
  | succ d ih =>
    intro i hd hi
    have hlt : i < s.length := by omega
    obtain ⟨K0, h0⟩ := ih (i + 1) (by omega) (by omega)
    dsimp only at h0
    have hstep := sorts_l1 l s hl hp s[i] (s.length : Int) (i : Int) 0 true (i : Int) (by
      by_cases hi0 : i = 0
      · refine ⟨K0, fun k hk => ?_⟩
        dsimp only
        rw [if_pos rfl, if_pos (by omega), wrap_nat (by omega)]
        exact h0 k hk
      · have hlt1 : i - 1 < s.length := by omega
        have ew : wrap64 ((i : Int) - 1) = ((i - 1 : Nat) : Int) := by unfold wrap64; omega
        obtain ⟨K1, h1⟩ := host_Number_ev s[i - 1] (by have := hs _ (List.getElem_mem hlt1); omega)
        obtain ⟨K2, h2⟩ := host_Number_ev s[i] (by have := hs _ (List.getElem_mem hlt); omega)
        dsimp only at h1 h2
        have hle := List.pairwise_iff_getElem.1 hu (i - 1) i hlt1 hlt (by omega)
        refine ⟨K0 + K1 + K2, fun k hk => ?_⟩
        have h0' := h0 k (by omega)
        dsimp only
        rw [if_pos rfl, if_neg (by omega), ew, if_pos (by omega), if_pos (by omega), rdN s (i - 1) hlt1, h1 k (by omega), Option.bind_some, h2 k (by omega), Option.bind_some, wrap_nat (by omega)]
        have a1 := str_cmp.anti (numOf s[i]).1 (numOf s[i - 1]).1
        unfold nameC keyN at hle
        rw [less_str]
        generalize numOf s[i] = y at *
        generalize numOf s[i - 1] = x at *
        obtain ⟨p, n, dg, b1⟩ := x
        obtain ⟨q, m, eg, b2⟩ := y
        dsimp only at a1 hle ⊢
        rw [if_neg (by
          rw [decide_eq_true_eq]
          intro h
          rcases or2_cases (strC p q) (or2 (Go.Lib.compareInt (if b1 = true then n else -1) (if b2 = true then m else -1)) (or2 (Go.Lib.compareInt dg eg) (strC s[i - 1] s[i]))) with ⟨_, b⟩ | ⟨a, _⟩
          · rw [b] at hle; omega
          · omega)]
        by_cases hpq : p.toList = q.toList
        · rw [if_pos hpq]
          have hz := (toList_eq p q).1 hpq
          cases b1
          · rw [if_neg (by decide)]; exact h0'
          · cases b2
            · rw [if_pos (by rfl), if_neg (by decide)]; exact h0'
            · rw [if_pos (by rfl), if_pos (by rfl), if_neg]
              · exact h0'
              · intro hgt
                rw [if_pos rfl, if_pos rfl] at hle
                have hc : Go.Lib.compareInt n m = 1 := by
                  unfold Go.Lib.compareInt; repeat' split
                  all_goals omega
                unfold or2 at hle
                rw [if_neg (by omega), if_pos (by omega)] at hle
                omega
        · rw [if_neg hpq]; exact h0') _ 0 rfl (Nat.zero_le _)
    obtain ⟨K, hK⟩ := hstep
    dsimp only at hK
    refine Ev.shift ⟨K, fun k hk => ?_⟩
    have h3 := hK k hk
    have e0 : (cntN s[i] l 0 : Int) - (cntN s[i] s 0 : Int) = 0 := by unfold cntN; simp
    rw [e0] at h3
    simp only [marlinspikelaw05_HostSorts.l0]
    rw [if_pos (by omega), if_pos (by omega), if_pos (by omega), rdN s i hlt]
    exact h3
theorem sorts_law (l : List ByteArray) (hl : l.length ≤ 9223372036854775807) : ∃ k, marlinspikelaw05_HostSorts.f k l = some true := by
  refine Ev.rounds (g := fun k => marlinspikelaw05_HostSorts.f k l) ?_
  obtain ⟨KA, hA⟩ := alive_ev
  dsimp only at hA
  have hj : ∀ k, KA ≤ k → marlinspikelaw05_HostSorts.j0 (k + 1) l true = some true := by
    intro k hk
    simp only [marlinspikelaw05_HostSorts.j0]
    rw [if_pos (by first | rfl | trivial), hA k hk]
    rfl
  rcases long_ev l hl with ⟨K3, h3⟩ | ⟨⟨K3, h3⟩, hn, hs⟩
  · dsimp only at h3
    refine ⟨KA + K3 + 1, fun k hk => ?_⟩
    simp only [marlinspikelaw05_HostSorts.f]
    rw [h3 k (by omega), Option.bind_some, if_pos (by rfl)]
    obtain ⟨m, rfl⟩ : ∃ m, k = m + 1 := ⟨k - 1, by omega⟩
    exact hj m (by omega)
  · dsimp only at h3
    by_cases h60 : l.length ≤ 60
    · have hss : ∀ b ∈ srtN l, b.size ≤ 300 := fun b hb => hs b (srtN_mem hb)
      obtain ⟨K4, h4⟩ := same_ev (srtN l) (by rw [srtN_len]; omega)
      obtain ⟨K5, h5⟩ := sorts_l0 l (srtN l) h60 (srt_perm _ _) (srt_up name_cmp _) hss _ 0 rfl (Nat.zero_le _)
      dsimp only at h4 h5
      refine ⟨K3 + K4 + K5 + 2, fun k hk => ?_⟩
      simp only [marlinspikelaw05_HostSorts.f]
      rw [h3 k (by omega), Option.bind_some, if_neg (by decide), decide_eq_false (by omega)]
      obtain ⟨m, rfl⟩ : ∃ m, k = m + 2 := ⟨k - 2, by omega⟩
      simp only [marlinspikelaw05_HostSorts.j0]
      rw [if_neg (by decide), hsorted_f l hn hs, Option.bind_some, if_pos (by rw [srtN_len]), hsorted_f (srtN l) (by rw [srtN_len]; exact hn) hss, Option.bind_some, srtN_twice, h4 (m + 1) (by omega), Option.bind_some]
      simp only [marlinspikelaw05_HostSorts.j1]
      rw [if_neg (by decide)]
      exact h5 m (by omega)
    · refine ⟨KA + K3 + 1, fun k hk => ?_⟩
      simp only [marlinspikelaw05_HostSorts.f]
      rw [h3 k (by omega), Option.bind_some, if_neg (by decide), decide_eq_true (by omega)]
      obtain ⟨m, rfl⟩ : ∃ m, k = m + 1 := ⟨k - 1, by omega⟩
      exact hj m (by omega)
end Go.Proofs.YtoammgpfbdcphaaDoor.Sr
end
section
namespace Go.Proofs.YtoammgpfbdcphaaDoor.Hx
open Go.RowKit Go.Proofs.YtoammgpfbdcphaaDoorW.PrintWords Go.Proofs.YtoammgpfbdcphaaDoor.Op
theorem strs_opens : Opens Tryd.prog 22 (Kd.slice 9 Kd.string).K (fun l => l.length ≤ maxLen ∧ ∀ x ∈ l, x.size ≤ maxLen) := opens_slice 9 Tryd.underlying22 (by kernel_rfl) (opens_string Tryd.underlying9)
end Go.Proofs.YtoammgpfbdcphaaDoor.Hx
end
section
namespace Go.Proofs.YtoammgpfbdcphaaDoor.hostSorts
open Go.ChangeShapes Go.WideShapes Go.ChangeAt Go.RowKit
open Go.ChangeMaps (open_string shut_string)
open Go.Proofs.YtoammgpfbdcphaaDoorW.PrintWords 
set_option linter.unusedVariables false
set_option maxRecDepth 100000
theorem own : ownKnob Tryd.prog.godebug = none := by kernel_rfl
theorem laidOut : laidOutB Tryd.prog = true := by kernel_rfl
theorem laid_met (os : Os) : laidMet Tryd.prog Rows.hostSortsRow.laid ((World.doorLaid Tryd.prog 62 os).forCall (fun _ _ => 0) ⟨#[], #[.slice none 0 0], []⟩).memory :=
  laidMet_of_run' 8 (by kernel_rfl) (by kernel_rfl)
theorem witness_row (os : Os) {H : Type} (enc : TypeId × Value → H) :
    (OpenSpec.ofChange Rows.hostSortsSpec).preRow enc Tryd.prog Tryd.f7 Rows.hostSortsRow.domain false Rows.hostSortsRow.laid ((World.doorLaid Tryd.prog 62 os).forCall (fun _ _ => 0) ⟨#[], #[.slice none 0 0], []⟩).memory #[.slice none 0 0] := by
  have hw : (DataW.whole enc Tryd.prog ((World.doorLaid Tryd.prog 62 os).forCall (fun _ _ => 0) ⟨#[], #[.slice none 0 0], []⟩).memory Tryd.f7.params.toList (OpenSpec.ofChange Rows.hostSortsSpec).vars false #[.slice none 0 0].toList 8).map (fun x => (x.1, x.2.1)) =
      some ([.nil], []) := by kernel_rfl
  obtain ⟨⟨x1, x2, x3⟩, hx, hx1⟩ := Option.map_eq_some_iff.1 hw
  simp only [Prod.mk.injEq] at hx1
  obtain ⟨rfl, rfl⟩ := hx1
  exact OpenSpec.preRow_of_cond 8 hx (by kernel_rfl) (fun k hk => by cases hk) (by kernel_rfl) (laid_met os)
theorem star : "*" ++ "errors.errorString" = "*errors.errorString" := by decide
theorem row_err (u : TypeId) (h : Tryd.prog.typeName? 3 u = some "*errors.errorString") : u = 132 :=
  typeName_ptr_named (nm := "errors.errorString") (by rw [star]; kernel_rfl) (by kernel_rfl) (by decide) u (by rw [star]; exact h)
theorem glob {W : World} (h : laidMetH Tryd.prog Rows.hostSortsRow.laid W) : Lib.Glob W := by
  rw [MakeChecks.laidMetH_plain _ _ _ (by kernel_rfl)] at h
  have h0 : laidMet Tryd.prog Rows.hostSortsRow.laid W := h
  have h1 : laidMet Tryd.prog [("math/bits.deBruijn64tab", Rows.laid_math_bits_deBruijn64tab), ("internal/strconv.uint64pow10", Rows.laid_internal_strconv_uint64pow10), ("strconv.ErrRange", Rows.laid_strconv_ErrRange), ("strconv.ErrSyntax", Rows.laid_strconv_ErrSyntax)] W := laidMet.tail h0
  have h2 : laidMet Tryd.prog [("internal/strconv.uint64pow10", Rows.laid_internal_strconv_uint64pow10), ("strconv.ErrRange", Rows.laid_strconv_ErrRange), ("strconv.ErrSyntax", Rows.laid_strconv_ErrSyntax)] W := laidMet.tail h1
  have h3 : laidMet Tryd.prog [("strconv.ErrRange", Rows.laid_strconv_ErrRange), ("strconv.ErrSyntax", Rows.laid_strconv_ErrSyntax)] W := laidMet.tail h2
  have h4 : laidMet Tryd.prog [("strconv.ErrSyntax", Rows.laid_strconv_ErrSyntax)] W := laidMet.tail h3
  have h5 : laidMet Tryd.prog [] W := laidMet.tail h4
  obtain ⟨a1, s1, v1, _⟩ := laid_sentinel (g := 0) h4 (by kernel_rfl) (by kernel_rfl) Tryd.underlying59 row_err Tryd.underlying132 Tryd.underlying134 rfl rfl Tryd.underlying9 (by kernel_rfl) (by kernel_rfl)
  obtain ⟨a2, s2, v2, _⟩ := laid_sentinel (g := 1) h3 (by kernel_rfl) (by kernel_rfl) Tryd.underlying59 row_err Tryd.underlying132 Tryd.underlying134 rfl rfl Tryd.underlying9 (by kernel_rfl) (by kernel_rfl)
  refine ⟨Go.Lib.tabIs_of_head Lib.g_tab (by kernel_rfl) Tryd.underlying140 Tryd.underlying106 (by kernel_rfl) (by kernel_rfl) h2, ⟨_, _, v1⟩, ⟨_, _, v2⟩⟩
set_option maxHeartbeats 4000000 in
theorem lifted (os : Os) (started : os.Started) (H : Type) (enc : TypeId × Value → H) (F : Stop.Interp) :
    ReturnsInHanded {} Tryd.checked os 7 .any ((OpenSpec.ofChange Rows.hostSortsSpec).preRow enc Tryd.prog Tryd.f7 Rows.hostSortsRow.domain false Rows.hostSortsRow.laid) (((OpenSpec.ofChange Rows.hostSortsSpec).at F).post enc Tryd.prog Tryd.f7 false true false false) := by
  refine returnsInHanded_of_row (C := Tryd.checked) (s := (OpenSpec.ofChange Rows.hostSortsSpec)) own started (by kernel_rfl) Tryd.func7
    (witness_row_atRef (enc := enc) (C := Tryd.checked) false (World.doorLaid Tryd.prog 62 os) #[.slice none 0 0] rfl (by kernel_rfl) (by kernel_rfl) (by kernel_rfl) (witness_row os enc)) ?_
  intro W base args ds gs before hval0 hW _ _ hsz0 hL _ _
  have hsz : (DataW.weightsEach Tryd.prog (Tryd.f7.params.toList ++ (OpenSpec.ofChange Rows.hostSortsSpec).bare.plain.varTypes Tryd.prog) (ds ++ gs)).all (· ≤ reachBytes) = true := hsz0
  have hval : ∀ (j : Nat) t v, Tryd.f7.params[j]? = some t → args[j]? = some v → Value.okWide Tryd.prog W .any base t v := hval0
  have hG := glob hL
  have hW' := hW
  obtain ⟨p, q, hA0, hV, rfl, hfz, hnd⟩ := hW
  have hA : DataW.TrodAll enc Tryd.prog W 0 (fun _ => true) true Tryd.f7.params.toList args.toList ds p := hA0
  rw [Tryd.params7] at hA hval hsz
  obtain ⟨v0, vs0, d0, ds0, p0, q0, hargs, rfl, rfl, t0, r0⟩ := trodAll_cons hA
  obtain ⟨rfl, rfl, rfl⟩ := trodAll_nil r0
  obtain rfl : args = #[v0] := by cases args; simp_all
  obtain ⟨rfl, rfl⟩ := trodVars_none hV
  have k0 := t0
  have y0 := hval 0 22 v0 rfl rfl
  obtain ⟨x0, kx0, gx0⟩ := Op.opens_arg Hx.strs_opens t0
  obtain ⟨A0, c0, e0, hc0, hr0⟩ := kx0
  obtain ⟨a0, l0, b0, rfl⟩ := okWide_slice Tryd.underlying22 y0
  have e0 : Value.slice a0 l0 b0 = .slice A0 x0.length c0 := by simpa [Value.cells] using e0
  injection e0 with ea0 eb0 ec0
  subst ea0; subst eb0; subst ec0
  clear hA0 hval0 hsz0 hsz
  refine (Sr.marlinspikelaw05_HostSorts.calls _ a0 b0 x0 true W hr0 hc0 (Sr.sorts_law x0 (Nat.le_trans gx0.1 (by decide))).choose_spec hG).mono fun e W' ⟨he, bel⟩ => ?_
  subst he
  exact ⟨_, rfl, _, _, _, [], _, [], hW', trodAll_mk1 (shut_bool Tryd.underlying4 _), (trodAll_cons_mk (Below.trod laidOut (by kernel_rfl) (of_decide_eq_true (by kernel_rfl)) k0 bel (Op.trod_lt k0)) trodAll_mk0), rfl, bel.frame _, fun h => by cases h⟩
theorem said : Rows.HostSortsSaid :=
  OpenClaim.holds_of_cond 7 Tryd.f7 rfl rfl rfl rfl rfl rfl rfl ⟨rfl, rfl, rfl, rfl, rfl⟩ rfl rfl rfl rfl rfl (by kernel_rfl) Tryd.func7 (by kernel_rfl)
    (of_decide_eq_true (by kernel_rfl)) (by unfold Func.isWrapper; first | (rw [if_pos (by decide +kernel)]; kernel_rfl) | (rw [if_neg (by decide +kernel)]; exact ⟨rfl, rfl⟩))
    (fun os started H enc _ F => by rw [OpenClaim.pre_eq_preRow]; exact lifted os started H enc F)
theorem plain (f : FuncId) (fn : Func) (hf : Tryd.pinned.checked.prog.funcNamed "marlinspike/marlinspikelaw05.HostSorts" = some f) (hfn : Tryd.pinned.checked.prog.funcs[f]? = some fn) :
    true = Tryd.pinned.checked.prog.looks [] ∧ ∀ (j : Nat) t, fn.params[j]? = some t → Tryd.pinned.checked.prog.wantsStandIn t = false := by
  obtain rfl : f = 7 := Option.some.inj ((show Tryd.prog.funcNamed "marlinspike/marlinspikelaw05.HostSorts" = some 7 by kernel_rfl).symm.trans hf) |>.symm
  obtain rfl : fn = Tryd.f7 := (Option.some.inj (Tryd.func7.symm.trans hfn)).symm
  refine ⟨by kernel_rfl, fun j t ht => ?_⟩
  rw [Tryd.params7] at ht
  have := Array.mem_of_getElem? ht
  have all : (#[22] : Array TypeId).all (fun t => Tryd.prog.wantsStandIn t = false) = true := by kernel_rfl
  exact of_decide_eq_true (Array.all_eq_true_iff_forall_mem.1 all t this)
theorem card : Rows.HostSortsCardSaid :=
  Claim7.holds_tied_plain_at .later [] _ _ _ _ said (fun _ h => by cases h) (by kernel_rfl) (fun _ h => by cases h) hostSorts_row_tie rfl ⟨rfl, rfl⟩ (by kernel_rfl) rfl plain (by kernel_rfl)
#print axioms card
end Go.Proofs.YtoammgpfbdcphaaDoor.hostSorts
namespace Go.Proofs.YtoammgpfbdcphaaDoor
theorem hostSorts_card : Rows.HostSortsCardSaid := hostSorts.card
end Go.Proofs.YtoammgpfbdcphaaDoor
end
