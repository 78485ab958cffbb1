/- Part 9 of the proof of HostAgainCardSaid. -/
import Derived.Test.YtoammgpfbdcphaaDoorZ03
import Derived.Test.YtoammgpfbdcphaaDoorZ06
import Derived.Test.YtoammgpfbdcphaaDoorZ08
namespace Go.Proofs.YtoammgpfbdcphaaDoor.PH
open Go.RowKit Go.Proofs.YtoammgpfbdcphaaDoor.Lib Go.Proofs.YtoammgpfbdcphaaDoorW.PrintWords Go.Proofs.YtoammgpfbdcphaaDoorW.PrintLast Go.Proofs.YtoammgpfbdcphaaDoorW.PrintMore
attribute [local go_sem] max2_int min2_int max_two min_two max_three min_three max_four min_four   
set_option linter.unusedVariables false
set_option linter.unusedSimpArgs false
mutual
def host_Compress.l0 : Nat → List ByteArray → List ByteArray → Option (ByteArray)
  | 0, _, _ => none
  | k + 1, x0, x3 => if (x0.length : Int) > 0 then (if 0 < (x0.length : Int) then ((host_Number.f k (rdOf ByteArray.empty x0 0)).bind fun bt221 => (if bt221.2.2.2 = true then (if bt221.2.2.1 > 1 then (if 0 ≤ (bt221.1.size : Int) then (if (bt221.1.size : Int) < ((rdOf ByteArray.empty x0 0).size : Int) then (host_Compress.j1 k x0 x3 bt221.1 bt221.2.1 bt221.2.2.1 bt221.2.2.2 ((bt (rdOf ByteArray.empty x0 0) (bt221.1.size : Int)) == 48) 0 0 0) else (none)) else (none)) else (host_Compress.j1 k x0 x3 bt221.1 bt221.2.1 bt221.2.2.1 bt221.2.2.2 false 0 0 0)) else (host_Compress.j1 k x0 x3 bt221.1 bt221.2.1 bt221.2.2.1 bt221.2.2.2 false 0 0 0))) else (none)) else ((strings_Join.f x3 (⟨#[44]⟩ : ByteArray)).bind fun t219 => (some t219))
def host_Compress.j1 : Nat → List ByteArray → List ByteArray → ByteArray → Int → Int → Bool → Bool → Int → Int → Int → Option (ByteArray)
  | 0, _, _, _, _, _, _, _, _, _, _ => none
  | k + 1, x0, x3, x4, x5, x6, x7, x40, x226000, x226001, x226002 => if x40 = true then (host_Compress.j2 k x0 x3 x4 x5 x7 x226000 x226001 x6) else (host_Compress.j2 k x0 x3 x4 x5 x7 x226000 x226001 x226002)
def host_Compress.j2 : Nat → List ByteArray → List ByteArray → ByteArray → Int → Bool → Int → Int → Int → Option (ByteArray)
  | 0, _, _, _, _, _, _, _, _ => none
  | k + 1, x0, x3, x4, x5, x7, x226000, x226001, x226002 => host_Compress.l1 k x0 x3 x4 x5 x7 1 x226000 x226001 x226002
def host_Compress.l1 : Nat → List ByteArray → List ByteArray → ByteArray → Int → Bool → Int → Int → Int → Int → Option (ByteArray)
  | 0, _, _, _, _, _, _, _, _, _ => none
  | k + 1, x0, x3, x4, x5, x7, x9, x226000, x226001, x226002 => if x7 = true then (if x9 < (x0.length : Int) then (if (wrap64 (x5 + x9)) < 1000000 then (if 0 ≤ x9 then ((host_span_text.f x226000 x226001 x226002 (wrap64 (x5 + x9))).bind fun t228 => (if x4.size + t228.size ≤ 9223372036854775807 then (host_Compress.j4 k x0 x3 x4 x5 x7 x9 ((rdOf ByteArray.empty x0 x9).toList == (x4 ++ t228).toList) x226000 x226001 x226002) else (none))) else (none)) else (host_Compress.j4 k x0 x3 x4 x5 x7 x9 false x226000 x226001 x226002)) else (host_Compress.j4 k x0 x3 x4 x5 x7 x9 false x226000 x226001 x226002)) else (host_Compress.j4 k x0 x3 x4 x5 x7 x9 false x226000 x226001 x226002)
def host_Compress.j4 : Nat → List ByteArray → List ByteArray → ByteArray → Int → Bool → Int → Bool → Int → Int → Int → Option (ByteArray)
  | 0, _, _, _, _, _, _, _, _, _, _ => none
  | k + 1, x0, x3, x4, x5, x7, x9, x69, x226000, x226001, x226002 => if x69 = true then (if 0 ≤ x9 then (if x9 < (x0.length : Int) then ((host_Number.f k (rdOf ByteArray.empty x0 x9)).bind fun bt230 => (if bt230.1.toList = x4.toList then (host_Compress.l1 k x0 x3 x4 x5 x7 (wrap64 (x9 + 1)) x226000 x226001 x226002) else (if x9 = 1 then (if 0 < (x0.length : Int) then (if x3.length < 8796093022208 then (if x9 ≤ (x0.length : Int) then (host_Compress.l0 k (x0.drop (x9 : Int).toNat) (x3 ++ [rdOf ByteArray.empty x0 0])) else (none)) else (none)) else (none)) else (if x4.size + 1 ≤ 9223372036854775807 then (if 0 < (x0.length : Int) then (if 0 ≤ (x4.size : Int) then (if (x4.size : Int) ≤ ((rdOf ByteArray.empty x0 0).size : Int) then (if (x4 ++ (⟨#[91]⟩ : ByteArray)).size + ((rdOf ByteArray.empty x0 0).extract ((x4.size : Int) : Int).toNat (rdOf ByteArray.empty x0 0).size).size ≤ 9223372036854775807 then (if ((x4 ++ (⟨#[91]⟩ : ByteArray)) ++ ((rdOf ByteArray.empty x0 0).extract ((x4.size : Int) : Int).toNat (rdOf ByteArray.empty x0 0).size)).size + 1 ≤ 9223372036854775807 then (if 0 ≤ (wrap64 (x9 - 1)) then (if (wrap64 (x9 - 1)) < (x0.length : Int) then (if (x4.size : Int) ≤ ((rdOf ByteArray.empty x0 (wrap64 (x9 - 1))).size : Int) then (if (((x4 ++ (⟨#[91]⟩ : ByteArray)) ++ ((rdOf ByteArray.empty x0 0).extract ((x4.size : Int) : Int).toNat (rdOf ByteArray.empty x0 0).size)) ++ (⟨#[45]⟩ : ByteArray)).size + ((rdOf ByteArray.empty x0 (wrap64 (x9 - 1))).extract ((x4.size : Int) : Int).toNat (rdOf ByteArray.empty x0 (wrap64 (x9 - 1))).size).size ≤ 9223372036854775807 then (if ((((x4 ++ (⟨#[91]⟩ : ByteArray)) ++ ((rdOf ByteArray.empty x0 0).extract ((x4.size : Int) : Int).toNat (rdOf ByteArray.empty x0 0).size)) ++ (⟨#[45]⟩ : ByteArray)) ++ ((rdOf ByteArray.empty x0 (wrap64 (x9 - 1))).extract ((x4.size : Int) : Int).toNat (rdOf ByteArray.empty x0 (wrap64 (x9 - 1))).size)).size + 1 ≤ 9223372036854775807 then (if x3.length < 8796093022208 then (if x9 ≤ (x0.length : Int) then (host_Compress.l0 k (x0.drop (x9 : Int).toNat) (x3 ++ [((((x4 ++ (⟨#[91]⟩ : ByteArray)) ++ ((rdOf ByteArray.empty x0 0).extract ((x4.size : Int) : Int).toNat (rdOf ByteArray.empty x0 0).size)) ++ (⟨#[45]⟩ : ByteArray)) ++ ((rdOf ByteArray.empty x0 (wrap64 (x9 - 1))).extract ((x4.size : Int) : Int).toNat (rdOf ByteArray.empty x0 (wrap64 (x9 - 1))).size)) ++ (⟨#[93]⟩ : ByteArray)])) else (none)) else (none)) else (none)) else (none)) else (none)) else (none)) else (none)) else (none)) else (none)) else (none)) else (none)) else (none)) else (none))))) else (none)) else (none)) else (if x9 = 1 then (if 0 < (x0.length : Int) then (if x3.length < 8796093022208 then (if 0 ≤ x9 then (if x9 ≤ (x0.length : Int) then (host_Compress.l0 k (x0.drop (x9 : Int).toNat) (x3 ++ [rdOf ByteArray.empty x0 0])) else (none)) else (none)) else (none)) else (none)) else (if x4.size + 1 ≤ 9223372036854775807 then (if 0 < (x0.length : Int) then (if 0 ≤ (x4.size : Int) then (if (x4.size : Int) ≤ ((rdOf ByteArray.empty x0 0).size : Int) then (if (x4 ++ (⟨#[91]⟩ : ByteArray)).size + ((rdOf ByteArray.empty x0 0).extract ((x4.size : Int) : Int).toNat (rdOf ByteArray.empty x0 0).size).size ≤ 9223372036854775807 then (if ((x4 ++ (⟨#[91]⟩ : ByteArray)) ++ ((rdOf ByteArray.empty x0 0).extract ((x4.size : Int) : Int).toNat (rdOf ByteArray.empty x0 0).size)).size + 1 ≤ 9223372036854775807 then (if 0 ≤ (wrap64 (x9 - 1)) then (if (wrap64 (x9 - 1)) < (x0.length : Int) then (if (x4.size : Int) ≤ ((rdOf ByteArray.empty x0 (wrap64 (x9 - 1))).size : Int) then (if (((x4 ++ (⟨#[91]⟩ : ByteArray)) ++ ((rdOf ByteArray.empty x0 0).extract ((x4.size : Int) : Int).toNat (rdOf ByteArray.empty x0 0).size)) ++ (⟨#[45]⟩ : ByteArray)).size + ((rdOf ByteArray.empty x0 (wrap64 (x9 - 1))).extract ((x4.size : Int) : Int).toNat (rdOf ByteArray.empty x0 (wrap64 (x9 - 1))).size).size ≤ 9223372036854775807 then (if ((((x4 ++ (⟨#[91]⟩ : ByteArray)) ++ ((rdOf ByteArray.empty x0 0).extract ((x4.size : Int) : Int).toNat (rdOf ByteArray.empty x0 0).size)) ++ (⟨#[45]⟩ : ByteArray)) ++ ((rdOf ByteArray.empty x0 (wrap64 (x9 - 1))).extract ((x4.size : Int) : Int).toNat (rdOf ByteArray.empty x0 (wrap64 (x9 - 1))).size)).size + 1 ≤ 9223372036854775807 then (if x3.length < 8796093022208 then (if 0 ≤ x9 then (if x9 ≤ (x0.length : Int) then (host_Compress.l0 k (x0.drop (x9 : Int).toNat) (x3 ++ [((((x4 ++ (⟨#[91]⟩ : ByteArray)) ++ ((rdOf ByteArray.empty x0 0).extract ((x4.size : Int) : Int).toNat (rdOf ByteArray.empty x0 0).size)) ++ (⟨#[45]⟩ : ByteArray)) ++ ((rdOf ByteArray.empty x0 (wrap64 (x9 - 1))).extract ((x4.size : Int) : Int).toNat (rdOf ByteArray.empty x0 (wrap64 (x9 - 1))).size)) ++ (⟨#[93]⟩ : ByteArray)])) else (none)) else (none)) else (none)) else (none)) else (none)) else (none)) else (none)) else (none)) else (none)) else (none)) else (none)) else (none)) else (none)) else (none)))
end
def host_Compress.f (k : Nat) (l0 : List ByteArray) : Option (ByteArray) := host_Compress.l0 k l0 ([] : List ByteArray)
theorem host_Compress.mono_l : ∀ k, (∀ y0 y1, LeO (host_Compress.l0 k y0 y1) (host_Compress.l0 (k + 1) y0 y1)) ∧ (∀ y0 y1 y2 y3 y4 y5 y6 y7 y8 y9, LeO (host_Compress.j1 k y0 y1 y2 y3 y4 y5 y6 y7 y8 y9) (host_Compress.j1 (k + 1) y0 y1 y2 y3 y4 y5 y6 y7 y8 y9)) ∧ (∀ y0 y1 y2 y3 y4 y5 y6 y7, LeO (host_Compress.j2 k y0 y1 y2 y3 y4 y5 y6 y7) (host_Compress.j2 (k + 1) y0 y1 y2 y3 y4 y5 y6 y7)) ∧ (∀ y0 y1 y2 y3 y4 y5 y6 y7 y8, LeO (host_Compress.l1 k y0 y1 y2 y3 y4 y5 y6 y7 y8) (host_Compress.l1 (k + 1) y0 y1 y2 y3 y4 y5 y6 y7 y8)) ∧ (∀ y0 y1 y2 y3 y4 y5 y6 y7 y8 y9, LeO (host_Compress.j4 k y0 y1 y2 y3 y4 y5 y6 y7 y8 y9) (host_Compress.j4 (k + 1) y0 y1 y2 y3 y4 y5 y6 y7 y8 y9))
  | 0 => ⟨fun _ _ r h => by simp [host_Compress.l0] at h, fun _ _ _ _ _ _ _ _ _ _ r h => by simp [host_Compress.j1] at h, fun _ _ _ _ _ _ _ _ r h => by simp [host_Compress.j2] at h, fun _ _ _ _ _ _ _ _ _ r h => by simp [host_Compress.l1] at h, fun _ _ _ _ _ _ _ _ _ _ r h => by simp [host_Compress.j4] at h⟩
  | k + 1 => by
    obtain ⟨ih0, ih1, ih2, ih3, ih4⟩ := host_Compress.mono_l k
    refine ⟨?_, ?_, ?_, ?_, ?_⟩
    · intro y0 y1
      unfold host_Compress.l0
      repeat' first
      | (with_reducible exact ih0 _ _)
      | (with_reducible exact ih1 _ _ _ _ _ _ _ _ _ _)
      | (with_reducible exact ih2 _ _ _ _ _ _ _ _)
      | (with_reducible exact ih3 _ _ _ _ _ _ _ _ _)
      | (with_reducible exact ih4 _ _ _ _ _ _ _ _ _ _)
      | (with_reducible exact host_Number.mono _ _)
      | (with_reducible exact LeO.refl _)
      | (with_reducible exact LeO.none _)
      | (with_reducible refine LeO.ite ?_ ?_)
      | (with_reducible refine LeO.bind ?_ (fun _ => ?_))
      | exact ih0 _ _
      | exact ih1 _ _ _ _ _ _ _ _ _ _
      | exact ih2 _ _ _ _ _ _ _ _
      | exact ih3 _ _ _ _ _ _ _ _ _
      | exact ih4 _ _ _ _ _ _ _ _ _ _
      | exact host_Number.mono _ _
      | exact LeO.none _
      | refine LeO.ite ?_ ?_
      | refine LeO.bind ?_ (fun _ => ?_)
    · intro y0 y1 y2 y3 y4 y5 y6 y7 y8 y9
      unfold host_Compress.j1
      repeat' first
      | (with_reducible exact ih0 _ _)
      | (with_reducible exact ih1 _ _ _ _ _ _ _ _ _ _)
      | (with_reducible exact ih2 _ _ _ _ _ _ _ _)
      | (with_reducible exact ih3 _ _ _ _ _ _ _ _ _)
      | (with_reducible exact ih4 _ _ _ _ _ _ _ _ _ _)
      | (with_reducible exact host_Number.mono _ _)
      | (with_reducible exact LeO.refl _)
      | (with_reducible exact LeO.none _)
      | (with_reducible refine LeO.ite ?_ ?_)
      | (with_reducible refine LeO.bind ?_ (fun _ => ?_))
      | exact ih0 _ _
      | exact ih1 _ _ _ _ _ _ _ _ _ _
      | exact ih2 _ _ _ _ _ _ _ _
      | exact ih3 _ _ _ _ _ _ _ _ _
      | exact ih4 _ _ _ _ _ _ _ _ _ _
      | exact host_Number.mono _ _
      | exact LeO.none _
      | refine LeO.ite ?_ ?_
      | refine LeO.bind ?_ (fun _ => ?_)
    · intro y0 y1 y2 y3 y4 y5 y6 y7
      unfold host_Compress.j2
      repeat' first
      | (with_reducible exact ih0 _ _)
      | (with_reducible exact ih1 _ _ _ _ _ _ _ _ _ _)
      | (with_reducible exact ih2 _ _ _ _ _ _ _ _)
      | (with_reducible exact ih3 _ _ _ _ _ _ _ _ _)
      | (with_reducible exact ih4 _ _ _ _ _ _ _ _ _ _)
      | (with_reducible exact host_Number.mono _ _)
      | (with_reducible exact LeO.refl _)
      | (with_reducible exact LeO.none _)
      | (with_reducible refine LeO.ite ?_ ?_)
      | (with_reducible refine LeO.bind ?_ (fun _ => ?_))
      | exact ih0 _ _
      | exact ih1 _ _ _ _ _ _ _ _ _ _
      | exact ih2 _ _ _ _ _ _ _ _
      | exact ih3 _ _ _ _ _ _ _ _ _
      | exact ih4 _ _ _ _ _ _ _ _ _ _
      | exact host_Number.mono _ _
      | exact LeO.none _
      | refine LeO.ite ?_ ?_
      | refine LeO.bind ?_ (fun _ => ?_)
    · intro y0 y1 y2 y3 y4 y5 y6 y7 y8
      unfold host_Compress.l1
      repeat' first
      | (with_reducible exact ih0 _ _)
      | (with_reducible exact ih1 _ _ _ _ _ _ _ _ _ _)
      | (with_reducible exact ih2 _ _ _ _ _ _ _ _)
      | (with_reducible exact ih3 _ _ _ _ _ _ _ _ _)
      | (with_reducible exact ih4 _ _ _ _ _ _ _ _ _ _)
      | (with_reducible exact host_Number.mono _ _)
      | (with_reducible exact LeO.refl _)
      | (with_reducible exact LeO.none _)
      | (with_reducible refine LeO.ite ?_ ?_)
      | (with_reducible refine LeO.bind ?_ (fun _ => ?_))
      | exact ih0 _ _
      | exact ih1 _ _ _ _ _ _ _ _ _ _
      | exact ih2 _ _ _ _ _ _ _ _
      | exact ih3 _ _ _ _ _ _ _ _ _
      | exact ih4 _ _ _ _ _ _ _ _ _ _
      | exact host_Number.mono _ _
      | exact LeO.none _
      | refine LeO.ite ?_ ?_
      | refine LeO.bind ?_ (fun _ => ?_)
    · intro y0 y1 y2 y3 y4 y5 y6 y7 y8 y9
      unfold host_Compress.j4
      repeat' first
      | (with_reducible exact ih0 _ _)
      | (with_reducible exact ih1 _ _ _ _ _ _ _ _ _ _)
      | (with_reducible exact ih2 _ _ _ _ _ _ _ _)
      | (with_reducible exact ih3 _ _ _ _ _ _ _ _ _)
      | (with_reducible exact ih4 _ _ _ _ _ _ _ _ _ _)
      | (with_reducible exact host_Number.mono _ _)
      | (with_reducible exact LeO.refl _)
      | (with_reducible exact LeO.none _)
      | (with_reducible refine LeO.ite ?_ ?_)
      | (with_reducible refine LeO.bind ?_ (fun _ => ?_))
      | exact ih0 _ _
      | exact ih1 _ _ _ _ _ _ _ _ _ _
      | exact ih2 _ _ _ _ _ _ _ _
      | exact ih3 _ _ _ _ _ _ _ _ _
      | exact ih4 _ _ _ _ _ _ _ _ _ _
      | exact host_Number.mono _ _
      | exact LeO.none _
      | refine LeO.ite ?_ ?_
      | refine LeO.bind ?_ (fun _ => ?_)
theorem host_Compress.mono : ∀ a0 k, LeO (host_Compress.f k a0) (host_Compress.f (k + 1) a0) := by
  intro a0 k
  obtain ⟨ih0, ih1, ih2, ih3, ih4⟩ := host_Compress.mono_l k
  unfold host_Compress.f
  repeat' first
      | (with_reducible exact ih0 _ _)
      | (with_reducible exact ih1 _ _ _ _ _ _ _ _ _ _)
      | (with_reducible exact ih2 _ _ _ _ _ _ _ _)
      | (with_reducible exact ih3 _ _ _ _ _ _ _ _ _)
      | (with_reducible exact ih4 _ _ _ _ _ _ _ _ _ _)
      | (with_reducible exact host_Number.mono _ _)
      | (with_reducible exact LeO.refl _)
      | (with_reducible exact LeO.none _)
      | (with_reducible refine LeO.ite ?_ ?_)
      | (with_reducible refine LeO.bind ?_ (fun _ => ?_))
      | exact ih0 _ _
      | exact ih1 _ _ _ _ _ _ _ _ _ _
      | exact ih2 _ _ _ _ _ _ _ _
      | exact ih3 _ _ _ _ _ _ _ _ _
      | exact ih4 _ _ _ _ _ _ _ _ _ _
      | exact host_Number.mono _ _
      | exact LeO.none _
      | refine LeO.ite ?_ ?_
      | refine LeO.bind ?_ (fun _ => ?_)
def host_Compress.T8 : Bool × List (List Nat × List Nat) := (true, [([], []), ([0], [0]), ([1], [1]), ([1], [1]), ([3, 1], [1, 3]), ([2, 4, 1], [1, 2, 4]), ([1, 5], [1, 5]), ([6, 1], [6]), ([7], [7]), ([7], [7]), ([8, 9, 7], [7, 8, 9]), ([10, 7], [7, 10]), ([7, 11], [7, 11]), ([12, 7], [12]), ([13], [13]), ([13], [13]), ([14, 15, 13], [13, 14, 15]), ([16, 13], [13, 16]), ([13], [13]), ([13], [13]), ([13], [13]), ([13], [13]), ([20, 21, 13], [13, 20, 21]), ([19, 22, 13, 13], [13, 19, 22]), ([18, 23, 13], [13, 18, 23]), ([17, 24, 13], [13, 17, 24]), ([13, 25], [13, 25])])
def host_Compress.B8 : List Nat := [0, 1, 3, 3, 11, 31, 63, 127, 255, 255, 1023, 2047, 4095, 8191, 16383, 16383, 65535, 131071, 16383, 16383, 16383, 16383, 3162111, 7880703, 16531455, 33554431, 67108863]
theorem host_Compress.tab8 : rtab .any (opsOf Tryd.f12 8) = host_Compress.T8 := by kernel_rfl
theorem host_Compress.bits8 : waitsOk host_Compress.T8.2 host_Compress.B8 = true := by kernel_rfl
def host_Compress.T14 : Bool × List (List Nat × List Nat) := (true, [([], []), ([], []), ([1], [1]), ([], []), ([3], [3]), ([4], [4]), ([], []), ([6], [6]), ([5, 7], [5, 7]), ([2, 8], [2, 8]), ([9], [9]), ([], []), ([], []), ([12], [12]), ([11, 13], [11, 13]), ([14], [14]), ([], []), ([16], [16]), ([15, 17], [15, 17]), ([10, 18], [10, 18]), ([19], [19]), ([20], [20]), ([0, 21], [0, 21]), ([22, 22, 0, 1, 2, 3, 4, 5, 6, 7, 8, 9, 10, 11, 12, 13, 14, 15, 16, 17, 18, 19, 20, 21, 22], [0, 22])])
def host_Compress.B14 : List Nat := [0, 0, 2, 0, 8, 24, 0, 64, 248, 510, 1022, 0, 0, 4096, 14336, 30720, 0, 65536, 260096, 524286, 1048574, 2097150, 4194303, 8388607]
theorem host_Compress.tab14 : rtab .any (opsOf Tryd.f12 14) = host_Compress.T14 := by kernel_rfl
theorem host_Compress.bits14 : waitsOk host_Compress.T14.2 host_Compress.B14 = true := by kernel_rfl
set_option maxHeartbeats 8000000 in
set_option maxRecDepth 100000 in
theorem host_Compress.calls (k : Nat) (P0_ : Nat → Prop) (A0 : Option Addr) (c0 : Nat) (l0 : List ByteArray) (r : ByteArray) (w : World) (hs0 : Kd.V Kd.string 9 w w.heap.size (fun k_ => P0_ k_) (.slice A0 l0.length c0) l0) (h : host_Compress.f k l0 = some r) (hG_ : Glob w) :
    Calls Tryd.prog 12 #[.slice A0 l0.length c0] w fun e w' => e = .returned (.string r) ∧ Below w.heap.size w w' := by
  have HG_ := Aside0.mk hG_
  clear hG_
  have hu54 := Tryd.underlying54
  have HO0 := Aside0.mk (show Kd.V Kd.string 9 w w.heap.size (fun k_ => (P0_ k_ ∨ w.heap.size ≤ k_)) (.slice A0 l0.length c0) l0 from Kd.V_mono hs0 (fun k_ hk => .inl hk))
  have HB := Aside0.mk (Below.refl w.heap.size w)
  have H : (host_Compress.l0 k l0 ([] : List ByteArray)) = some r := h
  clear h
  have H' := Aside0.mk H
  clear H
  go_enter Tryd.func12, Tryd.ntmps12
  go_wp2
  go_loopg [0, 3] k (fun kq v0 v3 w' => ∃ (x0_1 : List ByteArray) (x3_1 : List ByteArray), Aside0 (host_Compress.l0 kq x0_1 x3_1 = some r) ∧ Aside0 (kq ≤ k) ∧ Aside0 (Kd.V Kd.string 9 w' w.heap.size (fun k_ => (P0_ k_ ∨ w.heap.size ≤ k_) ∧ some k_ ≠ (v3 : Value).ownBlock) v0 x0_1) ∧ Aside0 (Kd.R Kd.string 9 w' w.heap.size (fun k_ => (w.heap.size ≤ k_)) v3 x3_1) ∧ Aside0 (Below w.heap.size w w'))
  case atStart => exact ⟨(l0), (([] : List ByteArray)), H', ⟨Nat.le_refl _⟩, ⟨by (with_reducible repeat (first | apply Kd.V_alloc | apply Kd.V_drewN | apply Kd.V_drew)); exact Kd.V_mono HO0.out (fun _ hk => ⟨hk, (by simp [Value.ownBlock])⟩)⟩, ⟨by first | exact Kd.R_nil _ _ _ _ _ | exact Kd.N_nil _ _ _ _ _ | exact Kd.V_nil _ _ _ _ _ | exact Kd.Q_nil _ _ _ _ _ | exact Kd.S_nil _ _ _ _ _⟩, ⟨by repeat (first | (with_reducible first | exact HB.out | apply below_alloc | apply pw_below_drewN | apply below_drew1) | exact HB.out)⟩⟩
  case round =>
    clear H'
    try clear c1
    obtain ⟨x0_1, x3_1, HA, HK1, HO_0, HO_3, HB⟩ := hrel
    cases gk with
    | zero => exact absurd HA.out (by simp [host_Compress.l0])
    | succ k1 =>
      have H := HA.out
      clear HA
      simp only [host_Compress.l0] at H
      by_cases c2 : (x0_1.length : Int) > 0
      · rw [if_pos c2] at H
        have c2b0 : decide (0 < (x0_1.length : Int)) = true := decide_eq_true c2
        have c2b1 : decide (0 < x0_1.length) = true := decide_eq_true (by omega)
        clear c2
        by_cases c3 : 0 < (x0_1.length : Int)
        · rw [if_pos c3] at H
          have c3b0 : decide (0 < (x0_1.length : Int)) = true := decide_eq_true c3
          have c3b1 : decide (0 < x0_1.length) = true := decide_eq_true (by omega)
          clear c3
          replace H := Option.bind_eq_some_iff.mp H
          obtain ⟨⟨t221, t222, t223, t224⟩, A40, H⟩ := H
          replace H : (if t224 = true then (if t223 > 1 then (if 0 ≤ (t221.size : Int) then (if (t221.size : Int) < ((rdOf ByteArray.empty x0_1 0).size : Int) then (host_Compress.j1 k1 x0_1 x3_1 t221 t222 t223 t224 ((bt (rdOf ByteArray.empty x0_1 0) (t221.size : Int)) == 48) 0 0 0) else (none)) else (none)) else (host_Compress.j1 k1 x0_1 x3_1 t221 t222 t223 t224 false 0 0 0)) else (host_Compress.j1 k1 x0_1 x3_1 t221 t222 t223 t224 false 0 0 0)) = some r := H
          have A4 := Aside0.mk A40
          clear A40
          have HC5 := Aside0.mk H
          clear H
          obtain ⟨Ao6, co6, eo6⟩ := Kd.V_slice HO_0.out
          subst eo6
          have p220 : 0 ≤ (0 : Int) := (by omega)
          have q220 : 0 < (x0_1.length : Int) := of_decide_eq_true (by first | (with_reducible assumption) | assumption)
          obtain ⟨ad220, e220, hx220_0⟩ := Kd.at_string (Kd.V_reads' HO_0.out).2.2 0 p220 q220
          cases e220
          have qi220 : (0 < x0_1.length) = True := eq_true (by omega)
          (try rw [show ((0 : Int)).toNat = 0 from rfl] at hx220_0)
          (try rw [Addr.add_zero'] at hx220_0)
          replace p220 := eq_true p220
          replace q220 := eq_true q220
          go_upto_region 5 with (first | ((with_reducible refine gate_callee (f := 15) rfl ?_); refine goesL_ (some 21) rfl rfl Tryd.func15 (by kernel_rfl) rfl #[.string (rdOf ByteArray.empty x0_1 0)] rfl (by (try simp only [List.map_toArray, List.map_cons, List.map_nil]); first | done | rfl | (simp only [List.length_drop, List.length_take]; rfl)) ?_; (with_reducible refine (host_Number.calls k1 (rdOf ByteArray.empty x0_1 0) t221 t222 t223 t224 _ A4.out (HG_.out.below (by repeat (first | (with_reducible first | exact HB.out | apply below_alloc | apply pw_below_drewN | apply below_drew1) | exact HB.out)))).mono ?_); rintro e w7 ⟨rfl, hb⟩; refine ⟨_, rfl, ?_⟩; have n0_ := Aside0.mk (Kd.V_below (by (with_reducible repeat (first | apply Kd.V_alloc | apply Kd.V_drewN | apply Kd.V_drew)); exact HO_0.out) hb); have n1_ := Aside0.mk (Kd.R_below (by (with_reducible repeat (first | apply Kd.R_alloc | apply Kd.R_drewN | apply Kd.R_drew)); exact HO_3.out) hb); have n2_ := Aside0.mk (below_step (by repeat (first | (with_reducible first | exact HB.out | apply below_alloc | apply pw_below_drewN | apply below_drew1) | exact HB.out)) hb); clear HO_0; clear HO_3; clear HB; have HO_0 := n0_; have HO_3 := n1_; have HB := n2_; clear n0_ n1_ n2_; (try clear hb); (try clear hb2); (try clear hk); (try clear hi)) | ((with_reducible refine gate_dst (N := 8) rfl ?_); (try (refine gate_guard (by rfl) ?_; dsimp only)); refine box_event ?hg (N := 8) ?hd (cs := #[.int .i64 0, .int .i64 0, .int .i64 0]) (t := 54) ?hr ?_; (case hd => rfl); (case hg => rfl); (case hr => first | (go_simp; done) | (go_simp; rfl)); intro gb225 hg w8 hbox hb; have n0_ := Aside0.mk (Kd.V_below (Kd.V_elderB (by (with_reducible repeat (first | apply Kd.V_alloc | apply Kd.V_drewN | apply Kd.V_drew)); exact HO_0.out) gb225 (Nat.le_of_eq hg.symm)) hb); have n1_ := Aside0.mk (Kd.R_below (by (with_reducible repeat (first | apply Kd.R_alloc | apply Kd.R_drewN | apply Kd.R_drew)); exact HO_3.out) hb); have n2_ := Aside0.mk (below_step (by repeat (first | (with_reducible first | exact HB.out | apply below_alloc | apply pw_below_drewN | apply below_drew1) | exact HB.out)) hb); have n3_ := Aside0.mk (hbox); have n4_ := Aside0.mk ((by rw [hg]; exact (below_size (by repeat (first | (with_reducible first | exact HB.out | apply below_alloc | apply pw_below_drewN | apply below_drew1) | exact HB.out))) : w.heap.size ≤ gb225)); have n5_ := Aside0.mk ((by rw [hg]; exact (below_size (by repeat (first | (with_reducible first | exact HB.out | apply below_alloc | apply pw_below_drewN | apply below_drew1) | exact HB.out))) : w.heap.size ≤ gb225)); clear HO_0; clear HO_3; clear HB; have HO_0 := n0_; have HO_3 := n1_; have HB := n2_; have BK225 := n3_; have GW225 := n4_; have GE225 := n5_; clear n0_ n1_ n2_ n3_ n4_ n5_; clear hb hbox hg; have hcz9_0 : w8.cell? ⟨gb225, 0, none⟩ = some (.int .i64 0) := (blk_cell BK225.out 0).trans rfl; have hcz9_1 : w8.cell? ⟨gb225, 1, none⟩ = some (.int .i64 0) := (blk_cell BK225.out 1).trans rfl; have hcz9_2 : w8.cell? ⟨gb225, 2, none⟩ = some (.int .i64 0) := (blk_cell BK225.out 2).trans rfl; have hfz9_0 := blk_frozen BK225.out 0; have hfz9_1 := blk_frozen BK225.out 1; have hfz9_2 := blk_frozen BK225.out 2))
          (try simp only [Act.put, List.setIfInBounds_toArray, List.set_cons_zero, List.set_cons_succ])
          go_cut [40] (fun v40 wc => ∃ (kq : Nat) (x40_4 : Bool), v40 = .bool x40_4 ∧ Aside0 (host_Compress.j1 kq x0_1 x3_1 t221 t222 t223 t224 x40_4 0 0 0 = some r) ∧ Aside0 (kq ≤ k1) ∧ Aside0 (Kd.V Kd.string 9 wc w.heap.size (fun k_ => (P0_ k_ ∨ w.heap.size ≤ k_) ∧ some k_ ≠ (u3 : Value).ownBlock ∧ k_ ≠ gb225) (.slice (some ad220) x0_1.length co6) x0_1) ∧ Aside0 (Kd.R Kd.string 9 wc w.heap.size (fun k_ => (w.heap.size ≤ k_)) u3 x3_1) ∧ Aside0 (wc.heap[gb225]? = some (.cells #[.int .i64 0, .int .i64 0, .int .i64 0] 54 (0, 0))) ∧ Aside0 (Below w.heap.size w wc))
          case first =>
            have H := HC5.out
            clear HC5
            by_cases c10 : t224 = true
            · subst c10
              have H1 : (if t223 > 1 then (if 0 ≤ (t221.size : Int) then (if (t221.size : Int) < ((rdOf ByteArray.empty x0_1 0).size : Int) then (host_Compress.j1 k1 x0_1 x3_1 t221 t222 t223 true ((bt (rdOf ByteArray.empty x0_1 0) (t221.size : Int)) == 48) 0 0 0) else (none)) else (none)) else (host_Compress.j1 k1 x0_1 x3_1 t221 t222 t223 true false 0 0 0)) = some r := by rw [if_pos rfl] at H; exact H
              clear H
              have H := H1
              clear H1
              by_cases c11 : t223 > 1
              · rw [if_pos c11] at H
                have c11b0 : decide (1 < t223) = true := decide_eq_true c11
                clear c11
                (first | rw [c11b0] | (simp only [i64_w, i32_w]; rw [c11b0]) | skip)
                by_cases c12 : 0 ≤ (t221.size : Int)
                · rw [if_pos c12] at H
                  have c12b0 : decide (0 ≤ (t221.size : Int)) = true := decide_eq_true c12
                  have c12b1 : decide (0 ≤ t221.size) = true := decide_eq_true (by omega)
                  clear c12
                  by_cases c13 : (t221.size : Int) < ((rdOf ByteArray.empty x0_1 0).size : Int)
                  · rw [if_pos c13] at H
                    have c13b0 : decide ((t221.size : Int) < ((rdOf ByteArray.empty x0_1 0).size : Int)) = true := decide_eq_true c13
                    have c13b1 : decide (t221.size < (rdOf ByteArray.empty x0_1 0).size) = true := decide_eq_true (Int.ofNat_lt.mp c13)
                    clear c13
                    have H' := Aside0.mk H
                    clear H
                    have p226 : 0 ≤ (0 : Int) := (by omega)
                    have q226 : 0 < (x0_1.length : Int) := of_decide_eq_true (by first | (with_reducible assumption) | assumption)
                    obtain ⟨ad226, e226, hx226_0⟩ := Kd.at_string (Kd.V_reads' HO_0.out).2.2 0 p226 q226
                    obtain rfl : ad220 = ad226 := (by injection e226)
                    have qi226 : (0 < x0_1.length) = True := eq_true (by omega)
                    (try rw [show ((0 : Int)).toNat = 0 from rfl] at hx226_0)
                    (try rw [Addr.add_zero'] at hx226_0)
                    have hn226_0 : ad220.block ≠ gb225 := V_away HO_0.out (by omega) (fun _ hk => hk.2)
                    have hn226_1 : ad220.block ≠ gb225 := V_away HO_0.out (by omega) (fun _ hk => hk.2)
                    have hn226_2 : ad220.block ≠ gb225 := V_away HO_0.out (by omega) (fun _ hk => hk.2)
                    replace hx226_0 := (cell_far (p := ⟨gb225, 0, none⟩) (by first | (rw [add_block]; exact hn226_0) | (show (Addr.add _ _).block ≠ _; rw [add_block]; exact hn226_0) | exact hn226_0) (.int .i64 0)).trans hx226_0
                    replace hx226_0 := (cell_far (p := ⟨gb225, 1, none⟩) (by first | (rw [add_block]; exact hn226_1) | (show (Addr.add _ _).block ≠ _; rw [add_block]; exact hn226_1) | exact hn226_1) (.int .i64 0)).trans hx226_0
                    replace hx226_0 := (cell_far (p := ⟨gb225, 2, none⟩) (by first | (rw [add_block]; exact hn226_2) | (show (Addr.add _ _).block ≠ _; rw [add_block]; exact hn226_2) | exact hn226_2) (.int .i64 0)).trans hx226_0
                    clear hn226_0
                    clear hn226_1
                    clear hn226_2
                    replace p226 := eq_true p226
                    replace q226 := eq_true q226
                    have p14 : 0 ≤ ((t221.size : Int) : Int) := of_decide_eq_true (by first | (with_reducible assumption) | assumption)
                    have q14 : (t221.size : Int) < ((rdOf ByteArray.empty x0_1 0).size : Int) := of_decide_eq_true (by first | (with_reducible assumption) | assumption)
                    have hx14 := bt_at (rdOf ByteArray.empty x0_1 0) (t221.size : Int)
                    replace p14 := eq_true p14
                    replace q14 := eq_true q14
                    go_wp2
                    go_meet
                    case rel => exact ⟨_, (((bt (rdOf ByteArray.empty x0_1 0) (t221.size : Int)) == 48)), (by have z := hx14 (of_decide_eq_true c13b1); simp only [Int.toNat_natCast] at z; rw [← z]; first | done | rfl), H', ⟨by have := HK1.out; first | omega | exact Nat.le_refl _⟩, ⟨by (with_reducible repeat (first | apply Kd.V_alloc | apply Kd.V_drewN | apply Kd.V_drew)); exact Kd.V_mono (Kd.V_far (p := ⟨gb225, 2, none⟩) (Kd.V_far (p := ⟨gb225, 1, none⟩) (Kd.V_far (p := ⟨gb225, 0, none⟩) (Kd.V_mono HO_0.out (fun k_ hk => (⟨hk, hk.2⟩ : _ ∧ k_ ≠ gb225))) (fun _ hk => hk.2) (.int .i64 0)) (fun _ hk => hk.2) (.int .i64 0)) (fun _ hk => hk.2) (.int .i64 0)) (fun _ hk => ⟨hk.1.1.1, ⟨hk.1.1.2, hk.1.2⟩⟩)⟩, ⟨by (with_reducible repeat (first | apply Kd.R_alloc | apply Kd.R_drewN | apply Kd.R_drew)); exact Kd.R_mono (Kd.R_far (p := ⟨gb225, 2, none⟩) (Kd.R_far (p := ⟨gb225, 1, none⟩) (Kd.R_far (p := ⟨gb225, 0, none⟩) (Kd.R_types HO_3.out BK225.out (by decide)) (fun _ hk => hk.2) (.int .i64 0)) (fun _ hk => hk.2) (.int .i64 0)) (fun _ hk => hk.2) (.int .i64 0)) (fun _ hk => hk.1)⟩, ⟨by (with_reducible repeat (first | refine blk_drewN ?_ _ | refine blk_drew ?_ | refine blk_alloc ?_ _)); refine blk_put (cs := #[.int .i64 0, .int .i64 0, .int .i64 0]) ?_ 2 _ rfl; (with_reducible repeat (first | refine blk_drewN ?_ _ | refine blk_drew ?_ | refine blk_alloc ?_ _)); refine blk_put (cs := #[.int .i64 0, .int .i64 0, .int .i64 0]) ?_ 1 _ rfl; (with_reducible repeat (first | refine blk_drewN ?_ _ | refine blk_drew ?_ | refine blk_alloc ?_ _)); refine blk_put (cs := #[.int .i64 0, .int .i64 0, .int .i64 0]) ?_ 0 _ rfl; (with_reducible repeat (first | refine blk_drewN ?_ _ | refine blk_drew ?_ | refine blk_alloc ?_ _)); exact BK225.out⟩, ⟨by repeat (first | (with_reducible first | exact HB.out | apply below_alloc | apply pw_below_drewN | apply below_drew1 | refine below_set ?_ GE225.out) | exact HB.out)⟩⟩
                  · rw [if_neg c13] at H
                    exact absurd H (by simp)
                · rw [if_neg c12] at H
                  exact absurd H (by simp)
              · rw [if_neg c11] at H
                have c11b0 : decide (1 < t223) = false := decide_eq_false c11
                clear c11
                (first | rw [c11b0] | (simp only [i64_w, i32_w]; rw [c11b0]) | skip)
                have H' := Aside0.mk H
                clear H
                go_wp2
                go_meet
                case rel => exact ⟨_, (false), (by first | rfl | (simp; done) | (simp [*]; done)), H', ⟨by have := HK1.out; first | omega | exact Nat.le_refl _⟩, ⟨by (with_reducible repeat (first | apply Kd.V_alloc | apply Kd.V_drewN | apply Kd.V_drew)); exact Kd.V_mono (Kd.V_far (p := ⟨gb225, 2, none⟩) (Kd.V_far (p := ⟨gb225, 1, none⟩) (Kd.V_far (p := ⟨gb225, 0, none⟩) (Kd.V_mono HO_0.out (fun k_ hk => (⟨hk, hk.2⟩ : _ ∧ k_ ≠ gb225))) (fun _ hk => hk.2) (.int .i64 0)) (fun _ hk => hk.2) (.int .i64 0)) (fun _ hk => hk.2) (.int .i64 0)) (fun _ hk => ⟨hk.1.1.1, ⟨hk.1.1.2, hk.1.2⟩⟩)⟩, ⟨by (with_reducible repeat (first | apply Kd.R_alloc | apply Kd.R_drewN | apply Kd.R_drew)); exact Kd.R_mono (Kd.R_far (p := ⟨gb225, 2, none⟩) (Kd.R_far (p := ⟨gb225, 1, none⟩) (Kd.R_far (p := ⟨gb225, 0, none⟩) (Kd.R_types HO_3.out BK225.out (by decide)) (fun _ hk => hk.2) (.int .i64 0)) (fun _ hk => hk.2) (.int .i64 0)) (fun _ hk => hk.2) (.int .i64 0)) (fun _ hk => hk.1)⟩, ⟨by (with_reducible repeat (first | refine blk_drewN ?_ _ | refine blk_drew ?_ | refine blk_alloc ?_ _)); refine blk_put (cs := #[.int .i64 0, .int .i64 0, .int .i64 0]) ?_ 2 _ rfl; (with_reducible repeat (first | refine blk_drewN ?_ _ | refine blk_drew ?_ | refine blk_alloc ?_ _)); refine blk_put (cs := #[.int .i64 0, .int .i64 0, .int .i64 0]) ?_ 1 _ rfl; (with_reducible repeat (first | refine blk_drewN ?_ _ | refine blk_drew ?_ | refine blk_alloc ?_ _)); refine blk_put (cs := #[.int .i64 0, .int .i64 0, .int .i64 0]) ?_ 0 _ rfl; (with_reducible repeat (first | refine blk_drewN ?_ _ | refine blk_drew ?_ | refine blk_alloc ?_ _)); exact BK225.out⟩, ⟨by repeat (first | (with_reducible first | exact HB.out | apply below_alloc | apply pw_below_drewN | apply below_drew1 | refine below_set ?_ GE225.out) | exact HB.out)⟩⟩
            · replace c10 := Bool.eq_false_iff.mpr c10
              subst c10
              have H1 : (host_Compress.j1 k1 x0_1 x3_1 t221 t222 t223 false false 0 0 0) = some r := by rw [if_neg (show ¬ (false = true) by decide)] at H; exact H
              clear H
              have H := H1
              clear H1
              have H' := Aside0.mk H
              clear H
              go_wp2
              go_meet
              case rel => exact ⟨_, (false), (by first | rfl | (simp; done) | (simp [*]; done)), H', ⟨by have := HK1.out; first | omega | exact Nat.le_refl _⟩, ⟨by (with_reducible repeat (first | apply Kd.V_alloc | apply Kd.V_drewN | apply Kd.V_drew)); exact Kd.V_mono (Kd.V_far (p := ⟨gb225, 2, none⟩) (Kd.V_far (p := ⟨gb225, 1, none⟩) (Kd.V_far (p := ⟨gb225, 0, none⟩) (Kd.V_mono HO_0.out (fun k_ hk => (⟨hk, hk.2⟩ : _ ∧ k_ ≠ gb225))) (fun _ hk => hk.2) (.int .i64 0)) (fun _ hk => hk.2) (.int .i64 0)) (fun _ hk => hk.2) (.int .i64 0)) (fun _ hk => ⟨hk.1.1.1, ⟨hk.1.1.2, hk.1.2⟩⟩)⟩, ⟨by (with_reducible repeat (first | apply Kd.R_alloc | apply Kd.R_drewN | apply Kd.R_drew)); exact Kd.R_mono (Kd.R_far (p := ⟨gb225, 2, none⟩) (Kd.R_far (p := ⟨gb225, 1, none⟩) (Kd.R_far (p := ⟨gb225, 0, none⟩) (Kd.R_types HO_3.out BK225.out (by decide)) (fun _ hk => hk.2) (.int .i64 0)) (fun _ hk => hk.2) (.int .i64 0)) (fun _ hk => hk.2) (.int .i64 0)) (fun _ hk => hk.1)⟩, ⟨by (with_reducible repeat (first | refine blk_drewN ?_ _ | refine blk_drew ?_ | refine blk_alloc ?_ _)); refine blk_put (cs := #[.int .i64 0, .int .i64 0, .int .i64 0]) ?_ 2 _ rfl; (with_reducible repeat (first | refine blk_drewN ?_ _ | refine blk_drew ?_ | refine blk_alloc ?_ _)); refine blk_put (cs := #[.int .i64 0, .int .i64 0, .int .i64 0]) ?_ 1 _ rfl; (with_reducible repeat (first | refine blk_drewN ?_ _ | refine blk_drew ?_ | refine blk_alloc ?_ _)); refine blk_put (cs := #[.int .i64 0, .int .i64 0, .int .i64 0]) ?_ 0 _ rfl; (with_reducible repeat (first | refine blk_drewN ?_ _ | refine blk_drew ?_ | refine blk_alloc ?_ _)); exact BK225.out⟩, ⟨by repeat (first | (with_reducible first | exact HB.out | apply below_alloc | apply pw_below_drewN | apply below_drew1 | refine below_set ?_ GE225.out) | exact HB.out)⟩⟩
          case rest =>
            clear HC5
            try clear c1
            try clear p1
            try clear q1
            try clear hx1
            try clear c2
            try clear c2b0
            try clear c2b1
            try clear p2
            try clear q2
            try clear hx2
            try clear qi2
            try clear c3
            try clear c3b0
            try clear c3b1
            try clear c10
            try clear c11
            try clear c11b0
            try clear c12
            try clear c12b0
            try clear c12b1
            try clear c13
            try clear c13b0
            try clear c13b1
            try clear p14
            try clear q14
            try clear hx14
            try clear hcz9_0
            try clear hcz9_1
            try clear hcz9_2
            try clear hfz9_0
            try clear hfz9_1
            try clear hfz9_2
            try clear hx220_0
            try clear hx226_0
            try clear p14
            try clear p220
            try clear p226
            try clear q14
            try clear q220
            try clear q226
            obtain ⟨kq, x40_4, rfl, HA, HJ4, HO_0, HO_3, BK225, HB⟩ := hcut
            cases kq with
            | zero => exact absurd HA.out (by simp [host_Compress.j1])
            | succ kj4 =>
              have H := HA.out
              clear HA
              simp only [host_Compress.j1] at H
              have HC15 := Aside0.mk H
              clear H
              go_upto_if 40 with (fail)
              go_cut [] (fun wc => ∃ (kq : Nat) (x226002_14 : Int), Aside0 (host_Compress.j2 kq x0_1 x3_1 t221 t222 t224 0 0 x226002_14 = some r) ∧ Aside0 (kq ≤ kj4) ∧ Aside0 (Kd.V Kd.string 9 wc w.heap.size (fun k_ => (P0_ k_ ∨ w.heap.size ≤ k_) ∧ some k_ ≠ (u3 : Value).ownBlock ∧ k_ ≠ gb225) (.slice (some ad220) x0_1.length co6) x0_1) ∧ Aside0 (Kd.R Kd.string 9 wc w.heap.size (fun k_ => (w.heap.size ≤ k_)) u3 x3_1) ∧ Aside0 (wc.heap[gb225]? = some (.cells #[.int .i64 0, .int .i64 0, .int .i64 x226002_14] 54 (0, 0))) ∧ Aside0 (Below w.heap.size w wc))
              case first =>
                have H := HC15.out
                clear HC15
                by_cases c16 : x40_4 = true
                · subst c16
                  have H1 : (host_Compress.j2 kj4 x0_1 x3_1 t221 t222 t224 0 0 t223) = some r := by rw [if_pos rfl] at H; exact H
                  clear H
                  have H := H1
                  clear H1
                  have H' := Aside0.mk H
                  clear H
                  have hcz17_0 : wc.cell? ⟨gb225, 0, none⟩ = some (.int .i64 0) := (blk_cell BK225.out 0).trans rfl
                  have hcz17_1 : wc.cell? ⟨gb225, 1, none⟩ = some (.int .i64 0) := (blk_cell BK225.out 1).trans rfl
                  have hcz17_2 : wc.cell? ⟨gb225, 2, none⟩ = some (.int .i64 0) := (blk_cell BK225.out 2).trans rfl
                  have hfz17_0 := blk_frozen BK225.out 0
                  have hfz17_1 := blk_frozen BK225.out 1
                  have hfz17_2 := blk_frozen BK225.out 2
                  go_wp2
                  go_meet
                  case rel => exact ⟨_, (t223), H', ⟨by have := HK1.out; have := HJ4.out; first | omega | exact Nat.le_refl _⟩, ⟨by (with_reducible repeat (first | apply Kd.V_alloc | apply Kd.V_drewN | apply Kd.V_drew)); exact Kd.V_mono (Kd.V_far (p := ⟨gb225, 2, none⟩) (Kd.V_mono HO_0.out (fun k_ hk => (⟨hk, hk.2.2⟩ : _ ∧ k_ ≠ gb225))) (fun _ hk => hk.2) (.int .i64 t223)) (fun _ hk => ⟨hk.1.1, ⟨hk.1.2.1, hk.1.2.2⟩⟩)⟩, ⟨by (with_reducible repeat (first | apply Kd.R_alloc | apply Kd.R_drewN | apply Kd.R_drew)); exact Kd.R_mono (Kd.R_far (p := ⟨gb225, 2, none⟩) (Kd.R_types HO_3.out BK225.out (by decide)) (fun _ hk => hk.2) (.int .i64 t223)) (fun _ hk => hk.1)⟩, ⟨by (with_reducible repeat (first | refine blk_drewN ?_ _ | refine blk_drew ?_ | refine blk_alloc ?_ _)); refine blk_put (cs := #[.int .i64 0, .int .i64 0, .int .i64 0]) ?_ 2 _ rfl; (with_reducible repeat (first | refine blk_drewN ?_ _ | refine blk_drew ?_ | refine blk_alloc ?_ _)); exact BK225.out⟩, ⟨by repeat (first | (with_reducible first | exact HB.out | apply below_alloc | apply pw_below_drewN | apply below_drew1 | refine below_set ?_ GE225.out) | exact HB.out)⟩⟩
                · replace c16 := Bool.eq_false_iff.mpr c16
                  subst c16
                  have H1 : (host_Compress.j2 kj4 x0_1 x3_1 t221 t222 t224 0 0 0) = some r := by rw [if_neg (show ¬ (false = true) by decide)] at H; exact H
                  clear H
                  have H := H1
                  clear H1
                  have H' := Aside0.mk H
                  clear H
                  go_wp2
                  go_meet
                  case rel => exact ⟨_, (0), H', ⟨by have := HK1.out; have := HJ4.out; first | omega | exact Nat.le_refl _⟩, ⟨by (with_reducible repeat (first | apply Kd.V_alloc | apply Kd.V_drewN | apply Kd.V_drew)); exact HO_0.out⟩, ⟨by (with_reducible repeat (first | apply Kd.R_alloc | apply Kd.R_drewN | apply Kd.R_drew)); exact HO_3.out⟩, ⟨by (with_reducible repeat (first | refine blk_drewN ?_ _ | refine blk_drew ?_ | refine blk_alloc ?_ _)); exact BK225.out⟩, ⟨by repeat (first | (with_reducible first | exact HB.out | apply below_alloc | apply pw_below_drewN | apply below_drew1 | refine below_set ?_ GE225.out) | exact HB.out)⟩⟩
              case rest =>
                clear HC15
                try clear c1
                try clear p1
                try clear q1
                try clear hx1
                try clear c2
                try clear c2b0
                try clear c2b1
                try clear p2
                try clear q2
                try clear hx2
                try clear qi2
                try clear c3
                try clear c3b0
                try clear c3b1
                try clear c10
                try clear c11
                try clear c11b0
                try clear c12
                try clear c12b0
                try clear c12b1
                try clear c13
                try clear c13b0
                try clear c13b1
                try clear p14
                try clear q14
                try clear hx14
                try clear c15
                try clear c16
                try clear hcz17_0
                try clear hcz17_1
                try clear hcz17_2
                try clear hcz9_0
                try clear hcz9_1
                try clear hcz9_2
                try clear hfz17_0
                try clear hfz17_1
                try clear hfz17_2
                try clear hfz9_0
                try clear hfz9_1
                try clear hfz9_2
                try clear hx220_0
                try clear hx226_0
                try clear p1
                try clear p14
                try clear p2
                try clear p220
                try clear p226
                try clear q1
                try clear q14
                try clear q2
                try clear q220
                try clear q226
                obtain ⟨kq, x226002_14, HA, HJ14, HO_0, HO_3, BK225, HB⟩ := hcut
                cases kq with
                | zero => exact absurd HA.out (by simp [host_Compress.j2])
                | succ kj14 =>
                  have H := HA.out
                  clear HA
                  simp only [host_Compress.j2] at H
                  have H' := Aside0.mk H
                  clear H
                  go_wp2
                  go_loopg [9] kj14 (fun kq v9 w' => ∃ (x9_4 : Int), v9 = .int .i64 x9_4 ∧ Aside0 (host_Compress.l1 kq x0_1 x3_1 t221 t222 t224 x9_4 0 0 x226002_14 = some r) ∧ Aside0 (kq ≤ kj14) ∧ Aside0 (Kd.V Kd.string 9 w' w.heap.size (fun k_ => (P0_ k_ ∨ w.heap.size ≤ k_) ∧ some k_ ≠ (u3 : Value).ownBlock ∧ k_ ≠ gb225) (.slice (some ad220) x0_1.length co6) x0_1) ∧ Aside0 (Kd.R Kd.string 9 w' w.heap.size (fun k_ => (w.heap.size ≤ k_)) u3 x3_1) ∧ Aside0 (w'.heap[gb225]? = some (.cells #[.int .i64 0, .int .i64 0, .int .i64 x226002_14] 54 (0, 0))) ∧ Aside0 (Below w.heap.size w w'))
                  case atStart => exact ⟨(1), (by first | rfl | (simp; done) | (simp [*]; done)), H', ⟨Nat.le_refl _⟩, ⟨by (with_reducible repeat (first | apply Kd.V_alloc | apply Kd.V_drewN | apply Kd.V_drew)); exact HO_0.out⟩, ⟨by (with_reducible repeat (first | apply Kd.R_alloc | apply Kd.R_drewN | apply Kd.R_drew)); exact HO_3.out⟩, ⟨by (with_reducible repeat (first | refine blk_drewN ?_ _ | refine blk_drew ?_ | refine blk_alloc ?_ _)); exact BK225.out⟩, ⟨by repeat (first | (with_reducible first | exact HB.out | apply below_alloc | apply pw_below_drewN | apply below_drew1 | refine below_set ?_ GE225.out) | exact HB.out)⟩⟩
                  case round =>
                    clear H'
                    try clear c1
                    try clear p1
                    try clear q1
                    try clear hx1
                    try clear c2
                    try clear c2b0
                    try clear c2b1
                    try clear p2
                    try clear q2
                    try clear hx2
                    try clear qi2
                    try clear c3
                    try clear c3b0
                    try clear c3b1
                    try clear c10
                    try clear c11
                    try clear c11b0
                    try clear c12
                    try clear c12b0
                    try clear c12b1
                    try clear c13
                    try clear c13b0
                    try clear c13b1
                    try clear p14
                    try clear q14
                    try clear hx14
                    try clear c15
                    try clear c16
                    try clear hcz17_0
                    try clear hcz17_1
                    try clear hcz17_2
                    try clear hcz9_0
                    try clear hcz9_1
                    try clear hcz9_2
                    try clear hfz17_0
                    try clear hfz17_1
                    try clear hfz17_2
                    try clear hfz9_0
                    try clear hfz9_1
                    try clear hfz9_2
                    try clear hx220_0
                    try clear hx226_0
                    try clear p1
                    try clear p14
                    try clear p2
                    try clear p220
                    try clear p226
                    try clear q1
                    try clear q14
                    try clear q2
                    try clear q220
                    try clear q226
                    obtain ⟨x9_4, rfl, HA, HK4, HO_0, HO_3, BK225, HB⟩ := hrel
                    cases gk with
                    | zero => exact absurd HA.out (by simp [host_Compress.l1])
                    | succ k4 =>
                      have H := HA.out
                      clear HA
                      simp only [host_Compress.l1] at H
                      have HC18 := Aside0.mk H
                      clear H
                      go_upto_region 8 with (fail)
                      go_cut [69] (fun v69 wc => ∃ (kq : Nat) (x69_17 : Bool), v69 = .bool x69_17 ∧ Aside0 (host_Compress.j4 kq x0_1 x3_1 t221 t222 t224 x9_4 x69_17 0 0 x226002_14 = some r) ∧ Aside0 (kq ≤ k4) ∧ Aside0 (Kd.V Kd.string 9 wc w.heap.size (fun k_ => (P0_ k_ ∨ w.heap.size ≤ k_) ∧ some k_ ≠ (u3 : Value).ownBlock ∧ k_ ≠ gb225) (.slice (some ad220) x0_1.length co6) x0_1) ∧ Aside0 (Kd.R Kd.string 9 wc w.heap.size (fun k_ => (w.heap.size ≤ k_)) u3 x3_1) ∧ Aside0 (wc.heap[gb225]? = some (.cells #[.int .i64 0, .int .i64 0, .int .i64 x226002_14] 54 (0, 0))) ∧ Aside0 (Below w.heap.size w wc))
                      case first =>
                        have H := HC18.out
                        clear HC18
                        by_cases c19 : t224 = true
                        · subst c19
                          have H1 : (if x9_4 < (x0_1.length : Int) then (if (wrap64 (t222 + x9_4)) < 1000000 then (if 0 ≤ x9_4 then ((host_span_text.f 0 0 x226002_14 (wrap64 (t222 + x9_4))).bind fun t228 => (if t221.size + t228.size ≤ 9223372036854775807 then (host_Compress.j4 k4 x0_1 x3_1 t221 t222 true x9_4 ((rdOf ByteArray.empty x0_1 x9_4).toList == (t221 ++ t228).toList) 0 0 x226002_14) else (none))) else (none)) else (host_Compress.j4 k4 x0_1 x3_1 t221 t222 true x9_4 false 0 0 x226002_14)) else (host_Compress.j4 k4 x0_1 x3_1 t221 t222 true x9_4 false 0 0 x226002_14)) = some r := by rw [if_pos rfl] at H; exact H
                          clear H
                          have H := H1
                          clear H1
                          by_cases c20 : x9_4 < (x0_1.length : Int)
                          · rw [if_pos c20] at H
                            have c20b0 : decide (x9_4 < (x0_1.length : Int)) = true := decide_eq_true c20
                            clear c20
                            (first | rw [c20b0] | (simp only [i64_w, i32_w]; rw [c20b0]) | skip)
                            by_cases c21 : (wrap64 (t222 + x9_4)) < 1000000
                            · rw [if_pos c21] at H
                              have c21b0 : decide ((wrap64 (t222 + x9_4)) < 1000000) = true := decide_eq_true c21
                              clear c21
                              by_cases c22 : 0 ≤ x9_4
                              · rw [if_pos c22] at H
                                have c22b0 : decide (0 ≤ x9_4) = true := decide_eq_true c22
                                clear c22
                                replace H := Option.bind_eq_some_iff.mp H
                                obtain ⟨t228, A230, H⟩ := H
                                replace H : (if t221.size + t228.size ≤ 9223372036854775807 then (host_Compress.j4 k4 x0_1 x3_1 t221 t222 true x9_4 ((rdOf ByteArray.empty x0_1 x9_4).toList == (t221 ++ t228).toList) 0 0 x226002_14) else (none)) = some r := H
                                have A23 := Aside0.mk A230
                                clear A230
                                by_cases c24 : t221.size + t228.size ≤ 9223372036854775807
                                · rw [if_pos c24] at H
                                  have c24b0 := eq_true c24
                                  have c24b1 : decide (t221.size + t228.size ≤ 9223372036854775807) = true := decide_eq_true c24
                                  try have c24b2 : (9223372036854775807 < t221.size + t228.size) = False := eq_false (Nat.not_lt.2 c24)
                                  have H' := Aside0.mk H
                                  clear H
                                  try go_wp2
                                  have n0_ := Aside0.mk (Kd.V_drew HO_0.out)
                                  have n1_ := Aside0.mk (Kd.R_drew HO_3.out)
                                  have n2_ := Aside0.mk (blk_drew BK225.out)
                                  have n3_ := Aside0.mk (below_drew1 HB.out)
                                  clear HO_0
                                  clear HO_3
                                  clear BK225
                                  clear HB
                                  have HO_0 := n0_
                                  have HO_3 := n1_
                                  have BK225 := n2_
                                  have HB := n3_
                                  clear n0_ n1_ n2_ n3_
                                  have p227 : 0 ≤ (x9_4 : Int) := of_decide_eq_true (by first | (with_reducible assumption) | assumption)
                                  have q227 : x9_4 < (x0_1.length : Int) := of_decide_eq_true (by first | (with_reducible assumption) | assumption)
                                  obtain ⟨ad227, e227, hx227_0⟩ := Kd.at_string (Kd.V_reads' HO_0.out).2.2 x9_4 p227 q227
                                  obtain rfl : ad220 = ad227 := (by injection e227)
                                  replace p227 := eq_true p227
                                  replace q227 := eq_true q227
                                  refine start_ (n := 27) (S := fun w' => w'.cell? ⟨gb225, 0, none⟩ = some (.int .i64 0) ∧ w'.cell? ⟨gb225, 1, none⟩ = some (.int .i64 0) ∧ w'.cell? ⟨gb225, 2, none⟩ = some (.int .i64 x226002_14) ∧ w'.cell? (ad220.add (x9_4).toNat) = some (.string (rdOf ByteArray.empty x0_1 x9_4))) (ds := []) #[false, false, false, false, false, false, false, false, false, false, false, false, false, false, false, false, false, false, false, false, false, false, false, false, false, false, false] (by kernel_rfl) rfl rfl ⟨(blk_cell BK225.out 0).trans rfl, (blk_cell BK225.out 1).trans rfl, (blk_cell BK225.out 2).trans rfl, hx227_0⟩ (fun hHeld => ?_); refine with_tabW host_Compress.tab8 host_Compress.bits8 (fun HT_ HW_ => ?_)
                                  generalize wr.drew = w25 at HO_0 HO_3 BK225 HB hx227_0 hHeld ⊢
                                  refine pure_ (i := 0) (N := some 43) (v := ?_) (a' := ?_) #[true, false, false, false, false, false, false, false, false, false, false, false, false, false, false, false, false, false, false, false, false, false, false, false, false, false, false] rfl rfl (any_of HT_.out (by kernel_rfl)) (fun _ _ _ h => h) (Or.inl ⟨by rfl, ?_⟩) ?_ ?_
                                  rotate_left
                                  · intro w'
                                    go_simp
                                    with_reducible rfl
                                  rotate_left
                                  · simp only [Act.put, List.setIfInBounds_toArray, List.set_cons_zero, List.set_cons_succ, i64_w, i32_w]
                                    rfl
                                  refine pure_ (i := 1) (N := some 44) (v := ?_) (a' := ?_) #[true, true, false, false, false, false, false, false, false, false, false, false, false, false, false, false, false, false, false, false, false, false, false, false, false, false, false] rfl rfl (any_of HT_.out (by kernel_rfl)) (fun _ _ _ h => h) (Or.inl ⟨by rfl, ?_⟩) ?_ ?_
                                  rotate_left
                                  · intro w'
                                    go_simp
                                    with_reducible rfl
                                  rotate_left
                                  · simp only [Act.put, List.setIfInBounds_toArray, List.set_cons_zero, List.set_cons_succ, i64_w, i32_w]
                                    rfl
                                  refine pure_ (i := 2) (N := some 45) (v := ?_) (a' := ?_) #[true, true, true, false, false, false, false, false, false, false, false, false, false, false, false, false, false, false, false, false, false, false, false, false, false, false, false] rfl rfl (any_of HT_.out (by kernel_rfl)) (fun _ _ _ h => h) (Or.inl ⟨by rfl, ?_⟩) ?_ ?_
                                  rotate_left
                                  · intro w'
                                    go_simp
                                    with_reducible rfl
                                  rotate_left
                                  · simp only [Act.put, List.setIfInBounds_toArray, List.set_cons_zero, List.set_cons_succ, i64_w, i32_w]
                                    rfl
                                  refine pure_ (i := 3) (N := some 46) (v := ?_) (a' := ?_) #[true, true, true, true, false, false, false, false, false, false, false, false, false, false, false, false, false, false, false, false, false, false, false, false, false, false, false] rfl rfl (any_of HT_.out (by kernel_rfl)) (fun _ _ _ h => h) (Or.inl ⟨by rfl, ?_⟩) ?_ ?_
                                  rotate_left
                                  · intro w'
                                    go_simp
                                    with_reducible rfl
                                  rotate_left
                                  · simp only [Act.put, List.setIfInBounds_toArray, List.set_cons_zero, List.set_cons_succ, i64_w, i32_w]
                                    rfl
                                  refine pure_ (i := 4) (N := some 47) (v := ?_) (a' := ?_) #[true, true, true, true, true, false, false, false, false, false, false, false, false, false, false, false, false, false, false, false, false, false, false, false, false, false, false] rfl rfl (any_of HT_.out (by kernel_rfl)) (fun _ _ _ h => h) (Or.inl ⟨by rfl, ?_⟩) ?_ ?_
                                  rotate_left
                                  · intro w'
                                    go_simp
                                    with_reducible rfl
                                  rotate_left
                                  · simp only [Act.put, List.setIfInBounds_toArray, List.set_cons_zero, List.set_cons_succ, i64_w, i32_w]
                                    rfl
                                  refine pure_ (i := 5) (N := some 48) (v := ?_) (a' := ?_) #[true, true, true, true, true, true, false, false, false, false, false, false, false, false, false, false, false, false, false, false, false, false, false, false, false, false, false] rfl rfl (any_of HT_.out (by kernel_rfl)) (fun _ _ _ h => h) (Or.inl ⟨by rfl, ?_⟩) ?_ ?_
                                  rotate_left
                                  · intro w'
                                    go_simp
                                    with_reducible rfl
                                  rotate_left
                                  · simp only [Act.put, List.setIfInBounds_toArray, List.set_cons_zero, List.set_cons_succ, i64_w, i32_w]
                                    rfl
                                  refine pure_ (i := 6) (N := some 49) (v := ?_) (a' := ?_) #[true, true, true, true, true, true, true, false, false, false, false, false, false, false, false, false, false, false, false, false, false, false, false, false, false, false, false] rfl rfl (any_of HT_.out (by kernel_rfl)) (fun _ _ _ h => h) (Or.inl ⟨by rfl, ?_⟩) ?_ ?_
                                  rotate_left
                                  · intro w'
                                    go_simp
                                    with_reducible rfl
                                  rotate_left
                                  · simp only [Act.put, List.setIfInBounds_toArray, List.set_cons_zero, List.set_cons_succ, i64_w, i32_w]
                                    rfl
                                  refine pure_ (i := 7) (N := some 50) (v := ?_) (a' := ?_) #[true, true, true, true, true, true, true, true, false, false, false, false, false, false, false, false, false, false, false, false, false, false, false, false, false, false, false] rfl rfl (any_of HT_.out (by kernel_rfl)) (fun _ _ _ h => h) (Or.inl ⟨by rfl, ?_⟩) ?_ ?_
                                  rotate_left
                                  · intro w'
                                    go_simp
                                    with_reducible rfl
                                  rotate_left
                                  · simp only [Act.put, List.setIfInBounds_toArray, List.set_cons_zero, List.set_cons_succ, i64_w, i32_w]
                                    rfl
                                  refine pure_ (i := 8) (N := some 51) (v := ?_) (a' := ?_) #[true, true, true, true, true, true, true, true, true, false, false, false, false, false, false, false, false, false, false, false, false, false, false, false, false, false, false] rfl rfl (any_of HT_.out (by kernel_rfl)) (fun _ _ _ h => h) (Or.inl ⟨by rfl, ?_⟩) ?_ ?_
                                  rotate_left
                                  · intro w'
                                    go_simp
                                    with_reducible rfl
                                  rotate_left
                                  · simp only [Act.put, List.setIfInBounds_toArray, List.set_cons_zero, List.set_cons_succ, i64_w, i32_w]
                                    rfl
                                  refine pure_ (i := 9) (N := some 52) (v := ?_) (a' := ?_) #[true, true, true, true, true, true, true, true, true, true, false, false, false, false, false, false, false, false, false, false, false, false, false, false, false, false, false] rfl rfl (any_of HT_.out (by kernel_rfl)) (fun _ _ _ h => h) (Or.inl ⟨by rfl, ?_⟩) ?_ ?_
                                  rotate_left
                                  · intro w'
                                    go_simp
                                    with_reducible rfl
                                  rotate_left
                                  · simp only [Act.put, List.setIfInBounds_toArray, List.set_cons_zero, List.set_cons_succ, i64_w, i32_w]
                                    rfl
                                  refine pure_ (i := 10) (N := some 53) (v := ?_) (a' := ?_) #[true, true, true, true, true, true, true, true, true, true, true, false, false, false, false, false, false, false, false, false, false, false, false, false, false, false, false] rfl rfl (any_of HT_.out (by kernel_rfl)) (fun _ _ _ h => h) (Or.inl ⟨by rfl, ?_⟩) ?_ ?_
                                  rotate_left
                                  · intro w'
                                    go_simp
                                    with_reducible rfl
                                  rotate_left
                                  · simp only [Act.put, List.setIfInBounds_toArray, List.set_cons_zero, List.set_cons_succ, i64_w, i32_w]
                                    rfl
                                  refine pure_ (i := 11) (N := some 54) (v := ?_) (a' := ?_) #[true, true, true, true, true, true, true, true, true, true, true, true, false, false, false, false, false, false, false, false, false, false, false, false, false, false, false] rfl rfl (any_of HT_.out (by kernel_rfl)) (fun _ _ _ h => h) (Or.inl ⟨by rfl, ?_⟩) ?_ ?_
                                  rotate_left
                                  · intro w'
                                    go_simp
                                    with_reducible rfl
                                  rotate_left
                                  · simp only [Act.put, List.setIfInBounds_toArray, List.set_cons_zero, List.set_cons_succ, i64_w, i32_w]
                                    rfl
                                  refine pure_ (i := 12) (N := some 55) (v := ?_) (a' := ?_) #[true, true, true, true, true, true, true, true, true, true, true, true, true, false, false, false, false, false, false, false, false, false, false, false, false, false, false] rfl rfl (any_of HT_.out (by kernel_rfl)) (fun _ _ _ h => h) (Or.inl ⟨by rfl, ?_⟩) ?_ ?_
                                  rotate_left
                                  · intro w'
                                    go_simp
                                    with_reducible rfl
                                  rotate_left
                                  · simp only [Act.put, List.setIfInBounds_toArray, List.set_cons_zero, List.set_cons_succ, i64_w, i32_w]
                                    rfl
                                  refine pure_ (i := 13) (N := some 56) (v := ?_) (a' := ?_) #[true, true, true, true, true, true, true, true, true, true, true, true, true, true, false, false, false, false, false, false, false, false, false, false, false, false, false] rfl rfl (any_of HT_.out (by kernel_rfl)) (fun _ _ _ h => h) (Or.inl ⟨by rfl, ?_⟩) ?_ ?_
                                  rotate_left
                                  · intro w'
                                    go_simp
                                    with_reducible rfl
                                  rotate_left
                                  · simp only [Act.put, List.setIfInBounds_toArray, List.set_cons_zero, List.set_cons_succ, i64_w, i32_w]
                                    rfl
                                  refine pure_ (i := 14) (N := some 57) (v := ?_) (a' := ?_) #[true, true, true, true, true, true, true, true, true, true, true, true, true, true, true, false, false, false, false, false, false, false, false, false, false, false, false] rfl rfl (any_of HT_.out (by kernel_rfl)) (fun _ _ _ h => h) (Or.inl ⟨by rfl, ?_⟩) ?_ ?_
                                  rotate_left
                                  · intro w'
                                    go_simp
                                    with_reducible rfl
                                  rotate_left
                                  · simp only [Act.put, List.setIfInBounds_toArray, List.set_cons_zero, List.set_cons_succ, i64_w, i32_w]
                                    rfl
                                  refine pure_ (i := 15) (N := some 58) (v := ?_) (a' := ?_) #[true, true, true, true, true, true, true, true, true, true, true, true, true, true, true, true, false, false, false, false, false, false, false, false, false, false, false] rfl rfl (any_of HT_.out (by kernel_rfl)) (fun _ _ _ h => h) (Or.inl ⟨by rfl, ?_⟩) ?_ ?_
                                  rotate_left
                                  · intro w'
                                    go_simp
                                    with_reducible rfl
                                  rotate_left
                                  · simp only [Act.put, List.setIfInBounds_toArray, List.set_cons_zero, List.set_cons_succ, i64_w, i32_w]
                                    rfl
                                  refine pure_ (i := 16) (N := some 59) (v := ?_) (a' := ?_) #[true, true, true, true, true, true, true, true, true, true, true, true, true, true, true, true, true, false, false, false, false, false, false, false, false, false, false] rfl rfl (any_of HT_.out (by kernel_rfl)) (fun _ _ _ h => h) (Or.inl ⟨by rfl, ?_⟩) ?_ ?_
                                  rotate_left
                                  · intro w'
                                    go_simp
                                    with_reducible rfl
                                  rotate_left
                                  · simp only [Act.put, List.setIfInBounds_toArray, List.set_cons_zero, List.set_cons_succ, i64_w, i32_w]
                                    rfl
                                  refine pure_ (i := 18) (N := some 61) (v := ?_) (a' := ?_) #[true, true, true, true, true, true, true, true, true, true, true, true, true, true, true, true, true, false, true, false, false, false, false, false, false, false, false] rfl rfl (any_of HT_.out (by kernel_rfl)) (fun _ _ _ h => h) (Or.inl ⟨by rfl, ?_⟩) ?_ ?_
                                  rotate_left
                                  · intro w'
                                    go_simp
                                    with_reducible rfl
                                  rotate_left
                                  · simp only [Act.put, List.setIfInBounds_toArray, List.set_cons_zero, List.set_cons_succ, i64_w, i32_w]
                                    rfl
                                  refine pure_ (i := 20) (N := some 63) (v := ?_) (a' := ?_) #[true, true, true, true, true, true, true, true, true, true, true, true, true, true, true, true, true, false, true, false, true, false, false, false, false, false, false] rfl rfl (any_of HT_.out (by kernel_rfl)) (fun _ _ _ h => h) (Or.inl ⟨by rfl, ?_⟩) ?_ ?_
                                  rotate_left
                                  · intro w'
                                    go_simp
                                    with_reducible rfl
                                  rotate_left
                                  · simp only [Act.put, List.setIfInBounds_toArray, List.set_cons_zero, List.set_cons_succ, i64_w, i32_w]
                                    rfl
                                  refine pure_ (i := 21) (N := some 64) (v := ?_) (a' := ?_) #[true, true, true, true, true, true, true, true, true, true, true, true, true, true, true, true, true, false, true, false, true, true, false, false, false, false, false] rfl rfl (any_of HT_.out (by kernel_rfl)) (fun _ _ _ h => h) (Or.inl ⟨by rfl, ?_⟩) ?_ ?_
                                  rotate_left
                                  · intro w'
                                    go_simp
                                    with_reducible rfl
                                  rotate_left
                                  · simp only [Act.put, List.setIfInBounds_toArray, List.set_cons_zero, List.set_cons_succ, i64_w, i32_w]
                                    rfl
                                  refine pure_ (i := 22) (N := some 65) (v := ?_) (a' := ?_) #[true, true, true, true, true, true, true, true, true, true, true, true, true, true, true, true, true, false, true, false, true, true, true, false, false, false, false] rfl rfl (any_of HT_.out (by kernel_rfl)) (fun _ _ _ h => h) (Or.inl ⟨by rfl, ?_⟩) ?_ ?_
                                  rotate_left
                                  · intro w'
                                    go_simp
                                    with_reducible rfl
                                  rotate_left
                                  · simp only [Act.put, List.setIfInBounds_toArray, List.set_cons_zero, List.set_cons_succ, i64_w, i32_w]
                                    rfl
                                  refine take_ (i := 17) (N := some 60) (v := ?_) (a' := ?_) #[true, true, true, true, true, true, true, true, true, true, true, true, true, true, true, true, true, true, true, false, true, true, true, false, false, false, false] rfl rfl (take_ofW HT_.out HW_.out (by kernel_rfl)) (fun _ _ _ h => h) (Or.inl ⟨by rfl, ?_⟩) hHeld ?_ ?_
                                  rotate_left
                                  · rintro w' ⟨s0, s1, s2, s3⟩
                                    go_simp
                                    with_reducible rfl
                                  rotate_left
                                  · simp only [Act.put, List.setIfInBounds_toArray, List.set_cons_zero, List.set_cons_succ, i64_w, i32_w]
                                    rfl
                                  refine take_ (i := 19) (N := some 62) (v := ?_) (a' := ?_) #[true, true, true, true, true, true, true, true, true, true, true, true, true, true, true, true, true, true, true, true, true, true, true, false, false, false, false] rfl rfl (take_ofW HT_.out HW_.out (by kernel_rfl)) (fun _ _ _ h => h) (Or.inl ⟨by rfl, ?_⟩) hHeld ?_ ?_
                                  rotate_left
                                  · rintro w' ⟨s0, s1, s2, s3⟩
                                    go_simp
                                    with_reducible rfl
                                  rotate_left
                                  · simp only [Act.put, List.setIfInBounds_toArray, List.set_cons_zero, List.set_cons_succ, i64_w, i32_w]
                                    rfl
                                  refine one_ (i := 23) (N := some 66) #[true, true, true, true, true, true, true, true, true, true, true, true, true, true, true, true, true, true, true, true, true, true, true, true, false, false, false] rfl rfl (one_of HT_.out (by kernel_rfl)) (by decide) (fun K hK => ?_)
                                  refine goes_ Tryd.func28 (by kernel_rfl) rfl #[.agg #[.int .i64 0, .int .i64 0, .int .i64 x226002_14], .int .i64 (wrap64 (t222 + x9_4))] (by rfl) rfl rfl (by (try simp only [List.map_toArray, List.map_cons, List.map_nil]); first | done | rfl | (simp only [List.length_drop, List.length_take]; rfl)) ?_
                                  with_reducible refine (host_span_text.calls 0 0 x226002_14 (wrap64 (t222 + x9_4)) t228 _ A23.out (HG_.out.below (by repeat (first | (with_reducible first | exact HB.out | apply below_alloc | apply pw_below_drewN | apply below_drew1) | exact HB.out)))).mono ?_
                                  rintro e w26 ⟨rfl, hb⟩
                                  have HS3_ := (hb.cell (World.block_lt_of_cell? _ _ (hHeld.2.2.2))).trans (hHeld.2.2.2)
                                  refine ⟨_, rfl, ?_⟩
                                  have n0_ := Aside0.mk (Kd.V_below (by (with_reducible repeat (first | apply Kd.V_alloc | apply Kd.V_drewN | apply Kd.V_drew)); exact HO_0.out) hb)
                                  have n1_ := Aside0.mk (Kd.R_below (by (with_reducible repeat (first | apply Kd.R_alloc | apply Kd.R_drewN | apply Kd.R_drew)); exact HO_3.out) hb)
                                  have n2_ := Aside0.mk (blk_below (g := gb225) (o := .cells #[.int .i64 0, .int .i64 0, .int .i64 x226002_14] 54 (0, 0)) (by (with_reducible repeat (first | refine blk_drewN ?_ _ | refine blk_drew ?_ | refine blk_alloc ?_ _)); exact BK225.out) hb)
                                  have n3_ := Aside0.mk (below_step (by repeat (first | (with_reducible first | exact HB.out | apply below_alloc | apply pw_below_drewN | apply below_drew1 | refine below_set ?_ GE225.out) | exact HB.out)) hb)
                                  clear HO_0
                                  clear HO_3
                                  clear BK225
                                  clear HB
                                  have HO_0 := n0_
                                  have HO_3 := n1_
                                  have BK225 := n2_
                                  have HB := n3_
                                  clear n0_ n1_ n2_ n3_
                                  (try clear hb)
                                  (try clear hb2)
                                  (try clear hk)
                                  (try clear hi)
                                  refine hK.out _ _ ⟨(blk_cell BK225.out 0).trans rfl, (blk_cell BK225.out 1).trans rfl, (blk_cell BK225.out 2).trans rfl, HS3_⟩ (fun hHeld => ?_)
                                  clear hK K
                                  refine norm_ (a' := ?_) ?_ ?_
                                  rotate_left
                                  · show Act.put _ (some 66) _ = _
                                    simp only [Act.put, List.setIfInBounds_toArray, List.set_cons_zero, List.set_cons_succ, i64_w, i32_w]
                                    rfl
                                  refine pure_ (i := 24) (N := some 67) (v := ?_) (a' := ?_) #[true, true, true, true, true, true, true, true, true, true, true, true, true, true, true, true, true, true, true, true, true, true, true, true, true, false, false] rfl rfl (any_of HT_.out (by kernel_rfl)) (fun _ _ _ h => h) (Or.inl ⟨by rfl, ?_⟩) ?_ ?_
                                  rotate_left
                                  · intro w'
                                    go_simp
                                    with_reducible rfl
                                  rotate_left
                                  · simp only [Act.put, List.setIfInBounds_toArray, List.set_cons_zero, List.set_cons_succ, i64_w, i32_w]
                                    rfl
                                  refine pure_ (i := 25) (N := some 68) (v := ?_) (a' := ?_) #[true, true, true, true, true, true, true, true, true, true, true, true, true, true, true, true, true, true, true, true, true, true, true, true, true, true, false] rfl rfl (any_of HT_.out (by kernel_rfl)) (fun _ _ _ h => h) (Or.inl ⟨by rfl, ?_⟩) ?_ ?_
                                  rotate_left
                                  · intro w'
                                    go_simp
                                    with_reducible rfl
                                  rotate_left
                                  · simp only [Act.put, List.setIfInBounds_toArray, List.set_cons_zero, List.set_cons_succ, i64_w, i32_w]
                                    rfl
                                  refine pure_ (i := 26) (N := some 69) (v := ?_) (a' := ?_) #[true, true, true, true, true, true, true, true, true, true, true, true, true, true, true, true, true, true, true, true, true, true, true, true, true, true, true] rfl rfl (any_of HT_.out (by kernel_rfl)) (fun _ _ _ h => h) (Or.inl ⟨by rfl, ?_⟩) ?_ ?_
                                  rotate_left
                                  · intro w'
                                    go_simp
                                    with_reducible rfl
                                  rotate_left
                                  · simp only [Act.put, List.setIfInBounds_toArray, List.set_cons_zero, List.set_cons_succ, i64_w, i32_w]
                                    rfl
                                  refine done_ (done_of HT_.out (by kernel_rfl)) ?_
                                  try go_wp2
                                  go_meet
                                  case rel => exact ⟨_, (((rdOf ByteArray.empty x0_1 x9_4).toList == (t221 ++ t228).toList)), (by first | rfl | (simp; done) | (simp [*]; done)), H', ⟨by have := HK1.out; have := HJ4.out; have := HJ14.out; have := HK4.out; first | omega | exact Nat.le_refl _⟩, ⟨by (with_reducible repeat (first | apply Kd.V_alloc | apply Kd.V_drewN | apply Kd.V_drew)); exact HO_0.out⟩, ⟨by (with_reducible repeat (first | apply Kd.R_alloc | apply Kd.R_drewN | apply Kd.R_drew)); exact HO_3.out⟩, ⟨by (with_reducible repeat (first | refine blk_drewN ?_ _ | refine blk_drew ?_ | refine blk_alloc ?_ _)); exact BK225.out⟩, ⟨by repeat (first | (with_reducible first | exact HB.out | apply below_alloc | apply pw_below_drewN | apply below_drew1 | refine below_set ?_ GE225.out) | exact HB.out)⟩⟩
                                · rw [if_neg c24] at H
                                  exact absurd H (by simp)
                              · rw [if_neg c22] at H
                                exact absurd H (by simp)
                            · rw [if_neg c21] at H
                              have c21b0 : decide ((wrap64 (t222 + x9_4)) < 1000000) = false := decide_eq_false c21
                              clear c21
                              have H' := Aside0.mk H
                              clear H
                              try go_wp2
                              have n0_ := Aside0.mk (Kd.V_drew HO_0.out)
                              have n1_ := Aside0.mk (Kd.R_drew HO_3.out)
                              have n2_ := Aside0.mk (blk_drew BK225.out)
                              have n3_ := Aside0.mk (below_drew1 HB.out)
                              clear HO_0
                              clear HO_3
                              clear BK225
                              clear HB
                              have HO_0 := n0_
                              have HO_3 := n1_
                              have BK225 := n2_
                              have HB := n3_
                              clear n0_ n1_ n2_ n3_
                              refine start_ (n := 27) (S := fun w' => True) (ds := []) #[false, false, false, false, false, false, false, false, false, false, false, false, false, false, false, false, false, false, false, false, false, false, false, false, false, false, false] (by kernel_rfl) rfl rfl trivial (fun hHeld => ?_); refine with_tabW host_Compress.tab8 host_Compress.bits8 (fun HT_ HW_ => ?_)
                              generalize wr.drew = w27 at HO_0 HO_3 BK225 HB hHeld ⊢
                              refine pure_ (i := 0) (N := some 43) (v := ?_) (a' := ?_) #[true, false, false, false, false, false, false, false, false, false, false, false, false, false, false, false, false, false, false, false, false, false, false, false, false, false, false] rfl rfl (any_of HT_.out (by kernel_rfl)) (fun _ _ _ h => h) (Or.inl ⟨by rfl, ?_⟩) ?_ ?_
                              rotate_left
                              · intro w'
                                go_simp
                                with_reducible rfl
                              rotate_left
                              · simp only [Act.put, List.setIfInBounds_toArray, List.set_cons_zero, List.set_cons_succ, i64_w, i32_w]
                                rfl
                              refine pure_ (i := 1) (N := some 44) (v := ?_) (a' := ?_) #[true, true, false, false, false, false, false, false, false, false, false, false, false, false, false, false, false, false, false, false, false, false, false, false, false, false, false] rfl rfl (any_of HT_.out (by kernel_rfl)) (fun _ _ _ h => h) (Or.inl ⟨by rfl, ?_⟩) ?_ ?_
                              rotate_left
                              · intro w'
                                go_simp
                                with_reducible rfl
                              rotate_left
                              · simp only [Act.put, List.setIfInBounds_toArray, List.set_cons_zero, List.set_cons_succ, i64_w, i32_w]
                                rfl
                              refine pure_ (i := 2) (N := some 45) (v := ?_) (a' := ?_) #[true, true, true, false, false, false, false, false, false, false, false, false, false, false, false, false, false, false, false, false, false, false, false, false, false, false, false] rfl rfl (any_of HT_.out (by kernel_rfl)) (fun _ _ _ h => h) (Or.inl ⟨by rfl, ?_⟩) ?_ ?_
                              rotate_left
                              · intro w'
                                go_simp
                                with_reducible rfl
                              rotate_left
                              · simp only [Act.put, List.setIfInBounds_toArray, List.set_cons_zero, List.set_cons_succ, i64_w, i32_w]
                                rfl
                              refine pure_ (i := 3) (N := some 46) (v := ?_) (a' := ?_) #[true, true, true, true, false, false, false, false, false, false, false, false, false, false, false, false, false, false, false, false, false, false, false, false, false, false, false] rfl rfl (any_of HT_.out (by kernel_rfl)) (fun _ _ _ h => h) (Or.inl ⟨by rfl, ?_⟩) ?_ ?_
                              rotate_left
                              · intro w'
                                go_simp
                                with_reducible rfl
                              rotate_left
                              · simp only [Act.put, List.setIfInBounds_toArray, List.set_cons_zero, List.set_cons_succ, i64_w, i32_w]
                                rfl
                              refine pure_ (i := 4) (N := some 47) (v := ?_) (a' := ?_) #[true, true, true, true, true, false, false, false, false, false, false, false, false, false, false, false, false, false, false, false, false, false, false, false, false, false, false] rfl rfl (any_of HT_.out (by kernel_rfl)) (fun _ _ _ h => h) (Or.inl ⟨by rfl, ?_⟩) ?_ ?_
                              rotate_left
                              · intro w'
                                go_simp
                                with_reducible rfl
                              rotate_left
                              · simp only [Act.put, List.setIfInBounds_toArray, List.set_cons_zero, List.set_cons_succ, i64_w, i32_w]
                                rfl
                              refine pure_ (i := 5) (N := some 48) (v := ?_) (a' := ?_) #[true, true, true, true, true, true, false, false, false, false, false, false, false, false, false, false, false, false, false, false, false, false, false, false, false, false, false] rfl rfl (any_of HT_.out (by kernel_rfl)) (fun _ _ _ h => h) (Or.inl ⟨by rfl, ?_⟩) ?_ ?_
                              rotate_left
                              · intro w'
                                go_simp
                                with_reducible rfl
                              rotate_left
                              · simp only [Act.put, List.setIfInBounds_toArray, List.set_cons_zero, List.set_cons_succ, i64_w, i32_w]
                                rfl
                              refine pure_ (i := 6) (N := some 49) (v := ?_) (a' := ?_) #[true, true, true, true, true, true, true, false, false, false, false, false, false, false, false, false, false, false, false, false, false, false, false, false, false, false, false] rfl rfl (any_of HT_.out (by kernel_rfl)) (fun _ _ _ h => h) (Or.inl ⟨by rfl, ?_⟩) ?_ ?_
                              rotate_left
                              · intro w'
                                go_simp
                                with_reducible rfl
                              rotate_left
                              · simp only [Act.put, List.setIfInBounds_toArray, List.set_cons_zero, List.set_cons_succ, i64_w, i32_w]
                                rfl
                              refine pure_ (i := 7) (N := some 50) (v := ?_) (a' := ?_) #[true, true, true, true, true, true, true, true, false, false, false, false, false, false, false, false, false, false, false, false, false, false, false, false, false, false, false] rfl rfl (any_of HT_.out (by kernel_rfl)) (fun _ _ _ h => h) (Or.inl ⟨by rfl, ?_⟩) ?_ ?_
                              rotate_left
                              · intro w'
                                go_simp
                                with_reducible rfl
                              rotate_left
                              · simp only [Act.put, List.setIfInBounds_toArray, List.set_cons_zero, List.set_cons_succ, i64_w, i32_w]
                                rfl
                              refine pure_ (i := 8) (N := some 51) (v := ?_) (a' := ?_) #[true, true, true, true, true, true, true, true, true, false, false, false, false, false, false, false, false, false, false, false, false, false, false, false, false, false, false] rfl rfl (any_of HT_.out (by kernel_rfl)) (fun _ _ _ h => h) (Or.inl ⟨by rfl, ?_⟩) ?_ ?_
                              rotate_left
                              · intro w'
                                go_simp
                                with_reducible rfl
                              rotate_left
                              · simp only [Act.put, List.setIfInBounds_toArray, List.set_cons_zero, List.set_cons_succ, i64_w, i32_w]
                                rfl
                              refine pure_ (i := 9) (N := some 52) (v := ?_) (a' := ?_) #[true, true, true, true, true, true, true, true, true, true, false, false, false, false, false, false, false, false, false, false, false, false, false, false, false, false, false] rfl rfl (any_of HT_.out (by kernel_rfl)) (fun _ _ _ h => h) (Or.inl ⟨by rfl, ?_⟩) ?_ ?_
                              rotate_left
                              · intro w'
                                go_simp
                                with_reducible rfl
                              rotate_left
                              · simp only [Act.put, List.setIfInBounds_toArray, List.set_cons_zero, List.set_cons_succ, i64_w, i32_w]
                                rfl
                              refine pure_ (i := 10) (N := some 53) (v := ?_) (a' := ?_) #[true, true, true, true, true, true, true, true, true, true, true, false, false, false, false, false, false, false, false, false, false, false, false, false, false, false, false] rfl rfl (any_of HT_.out (by kernel_rfl)) (fun _ _ _ h => h) (Or.inl ⟨by rfl, ?_⟩) ?_ ?_
                              rotate_left
                              · intro w'
                                go_simp
                                with_reducible rfl
                              rotate_left
                              · simp only [Act.put, List.setIfInBounds_toArray, List.set_cons_zero, List.set_cons_succ, i64_w, i32_w]
                                rfl
                              refine pure_ (i := 11) (N := some 54) (v := ?_) (a' := ?_) #[true, true, true, true, true, true, true, true, true, true, true, true, false, false, false, false, false, false, false, false, false, false, false, false, false, false, false] rfl rfl (any_of HT_.out (by kernel_rfl)) (fun _ _ _ h => h) (Or.inl ⟨by rfl, ?_⟩) ?_ ?_
                              rotate_left
                              · intro w'
                                go_simp
                                with_reducible rfl
                              rotate_left
                              · simp only [Act.put, List.setIfInBounds_toArray, List.set_cons_zero, List.set_cons_succ, i64_w, i32_w]
                                rfl
                              refine pure_ (i := 12) (N := some 55) (v := ?_) (a' := ?_) #[true, true, true, true, true, true, true, true, true, true, true, true, true, false, false, false, false, false, false, false, false, false, false, false, false, false, false] rfl rfl (any_of HT_.out (by kernel_rfl)) (fun _ _ _ h => h) (Or.inl ⟨by rfl, ?_⟩) ?_ ?_
                              rotate_left
                              · intro w'
                                go_simp
                                with_reducible rfl
                              rotate_left
                              · simp only [Act.put, List.setIfInBounds_toArray, List.set_cons_zero, List.set_cons_succ, i64_w, i32_w]
                                rfl
                              refine pure_ (i := 13) (N := some 56) (v := ?_) (a' := ?_) #[true, true, true, true, true, true, true, true, true, true, true, true, true, true, false, false, false, false, false, false, false, false, false, false, false, false, false] rfl rfl (any_of HT_.out (by kernel_rfl)) (fun _ _ _ h => h) (Or.inl ⟨by rfl, ?_⟩) ?_ ?_
                              rotate_left
                              · intro w'
                                go_simp
                                with_reducible rfl
                              rotate_left
                              · simp only [Act.put, List.setIfInBounds_toArray, List.set_cons_zero, List.set_cons_succ, i64_w, i32_w]
                                rfl
                              refine pure_ (i := 14) (N := some 57) (v := undef) (a' := ?_) #[true, true, true, true, true, true, true, true, true, true, true, true, true, true, true, false, false, false, false, false, false, false, false, false, false, false, false] rfl rfl (any_of HT_.out (by kernel_rfl)) (fun _ _ _ h => h) (Or.inr ⟨by rfl, rfl⟩) ?_ ?_
                              rotate_left
                              · simp only [Act.put, List.setIfInBounds_toArray, List.set_cons_zero, List.set_cons_succ, i64_w, i32_w]
                                rfl
                              refine pure_ (i := 15) (N := some 58) (v := undef) (a' := ?_) #[true, true, true, true, true, true, true, true, true, true, true, true, true, true, true, true, false, false, false, false, false, false, false, false, false, false, false] rfl rfl (any_of HT_.out (by kernel_rfl)) (fun _ _ _ h => h) (Or.inr ⟨by rfl, rfl⟩) ?_ ?_
                              rotate_left
                              · simp only [Act.put, List.setIfInBounds_toArray, List.set_cons_zero, List.set_cons_succ, i64_w, i32_w]
                                rfl
                              refine pure_ (i := 16) (N := some 59) (v := undef) (a' := ?_) #[true, true, true, true, true, true, true, true, true, true, true, true, true, true, true, true, true, false, false, false, false, false, false, false, false, false, false] rfl rfl (any_of HT_.out (by kernel_rfl)) (fun _ _ _ h => h) (Or.inr ⟨by rfl, rfl⟩) ?_ ?_
                              rotate_left
                              · simp only [Act.put, List.setIfInBounds_toArray, List.set_cons_zero, List.set_cons_succ, i64_w, i32_w]
                                rfl
                              refine pure_ (i := 17) (N := some 60) (v := undef) (a' := ?_) #[true, true, true, true, true, true, true, true, true, true, true, true, true, true, true, true, true, true, false, false, false, false, false, false, false, false, false] rfl rfl (any_of HT_.out (by kernel_rfl)) (fun _ _ _ h => h) (Or.inr ⟨by rfl, rfl⟩) ?_ ?_
                              rotate_left
                              · simp only [Act.put, List.setIfInBounds_toArray, List.set_cons_zero, List.set_cons_succ, i64_w, i32_w]
                                rfl
                              refine pure_ (i := 18) (N := some 61) (v := undef) (a' := ?_) #[true, true, true, true, true, true, true, true, true, true, true, true, true, true, true, true, true, true, true, false, false, false, false, false, false, false, false] rfl rfl (any_of HT_.out (by kernel_rfl)) (fun _ _ _ h => h) (Or.inr ⟨by rfl, rfl⟩) ?_ ?_
                              rotate_left
                              · simp only [Act.put, List.setIfInBounds_toArray, List.set_cons_zero, List.set_cons_succ, i64_w, i32_w]
                                rfl
                              refine pure_ (i := 19) (N := some 62) (v := undef) (a' := ?_) #[true, true, true, true, true, true, true, true, true, true, true, true, true, true, true, true, true, true, true, true, false, false, false, false, false, false, false] rfl rfl (any_of HT_.out (by kernel_rfl)) (fun _ _ _ h => h) (Or.inr ⟨by rfl, rfl⟩) ?_ ?_
                              rotate_left
                              · simp only [Act.put, List.setIfInBounds_toArray, List.set_cons_zero, List.set_cons_succ, i64_w, i32_w]
                                rfl
                              refine pure_ (i := 20) (N := some 63) (v := undef) (a' := ?_) #[true, true, true, true, true, true, true, true, true, true, true, true, true, true, true, true, true, true, true, true, true, false, false, false, false, false, false] rfl rfl (any_of HT_.out (by kernel_rfl)) (fun _ _ _ h => h) (Or.inr ⟨by rfl, rfl⟩) ?_ ?_
                              rotate_left
                              · simp only [Act.put, List.setIfInBounds_toArray, List.set_cons_zero, List.set_cons_succ, i64_w, i32_w]
                                rfl
                              refine pure_ (i := 21) (N := some 64) (v := undef) (a' := ?_) #[true, true, true, true, true, true, true, true, true, true, true, true, true, true, true, true, true, true, true, true, true, true, false, false, false, false, false] rfl rfl (any_of HT_.out (by kernel_rfl)) (fun _ _ _ h => h) (Or.inr ⟨by rfl, rfl⟩) ?_ ?_
                              rotate_left
                              · simp only [Act.put, List.setIfInBounds_toArray, List.set_cons_zero, List.set_cons_succ, i64_w, i32_w]
                                rfl
                              refine pure_ (i := 22) (N := some 65) (v := undef) (a' := ?_) #[true, true, true, true, true, true, true, true, true, true, true, true, true, true, true, true, true, true, true, true, true, true, true, false, false, false, false] rfl rfl (any_of HT_.out (by kernel_rfl)) (fun _ _ _ h => h) (Or.inr ⟨by rfl, rfl⟩) ?_ ?_
                              rotate_left
                              · simp only [Act.put, List.setIfInBounds_toArray, List.set_cons_zero, List.set_cons_succ, i64_w, i32_w]
                                rfl
                              refine pure_ (i := 23) (N := some 66) (v := undef) (a' := ?_) #[true, true, true, true, true, true, true, true, true, true, true, true, true, true, true, true, true, true, true, true, true, true, true, true, false, false, false] rfl rfl (any_of HT_.out (by kernel_rfl)) (fun _ _ _ h => h) (Or.inr ⟨by rfl, rfl⟩) ?_ ?_
                              rotate_left
                              · simp only [Act.put, List.setIfInBounds_toArray, List.set_cons_zero, List.set_cons_succ, i64_w, i32_w]
                                rfl
                              refine pure_ (i := 24) (N := some 67) (v := undef) (a' := ?_) #[true, true, true, true, true, true, true, true, true, true, true, true, true, true, true, true, true, true, true, true, true, true, true, true, true, false, false] rfl rfl (any_of HT_.out (by kernel_rfl)) (fun _ _ _ h => h) (Or.inr ⟨by rfl, rfl⟩) ?_ ?_
                              rotate_left
                              · simp only [Act.put, List.setIfInBounds_toArray, List.set_cons_zero, List.set_cons_succ, i64_w, i32_w]
                                rfl
                              refine pure_ (i := 25) (N := some 68) (v := undef) (a' := ?_) #[true, true, true, true, true, true, true, true, true, true, true, true, true, true, true, true, true, true, true, true, true, true, true, true, true, true, false] rfl rfl (any_of HT_.out (by kernel_rfl)) (fun _ _ _ h => h) (Or.inr ⟨by rfl, rfl⟩) ?_ ?_
                              rotate_left
                              · simp only [Act.put, List.setIfInBounds_toArray, List.set_cons_zero, List.set_cons_succ, i64_w, i32_w]
                                rfl
                              refine pure_ (i := 26) (N := some 69) (v := ?_) (a' := ?_) #[true, true, true, true, true, true, true, true, true, true, true, true, true, true, true, true, true, true, true, true, true, true, true, true, true, true, true] rfl rfl (any_of HT_.out (by kernel_rfl)) (fun _ _ _ h => h) (Or.inl ⟨by rfl, ?_⟩) ?_ ?_
                              rotate_left
                              · intro w'
                                go_simp
                                with_reducible rfl
                              rotate_left
                              · simp only [Act.put, List.setIfInBounds_toArray, List.set_cons_zero, List.set_cons_succ, i64_w, i32_w]
                                rfl
                              refine done_ (done_of HT_.out (by kernel_rfl)) ?_
                              try go_wp2
                              go_meet
                              case rel => exact ⟨_, (false), (by first | rfl | (simp; done) | (simp [*]; done)), H', ⟨by have := HK1.out; have := HJ4.out; have := HJ14.out; have := HK4.out; first | omega | exact Nat.le_refl _⟩, ⟨by (with_reducible repeat (first | apply Kd.V_alloc | apply Kd.V_drewN | apply Kd.V_drew)); exact HO_0.out⟩, ⟨by (with_reducible repeat (first | apply Kd.R_alloc | apply Kd.R_drewN | apply Kd.R_drew)); exact HO_3.out⟩, ⟨by (with_reducible repeat (first | refine blk_drewN ?_ _ | refine blk_drew ?_ | refine blk_alloc ?_ _)); exact BK225.out⟩, ⟨by repeat (first | (with_reducible first | exact HB.out | apply below_alloc | apply pw_below_drewN | apply below_drew1 | refine below_set ?_ GE225.out) | exact HB.out)⟩⟩
                          · rw [if_neg c20] at H
                            have c20b0 : decide (x9_4 < (x0_1.length : Int)) = false := decide_eq_false c20
                            clear c20
                            (first | rw [c20b0] | (simp only [i64_w, i32_w]; rw [c20b0]) | skip)
                            have H' := Aside0.mk H
                            clear H
                            try go_wp2
                            have n0_ := Aside0.mk (Kd.V_drew HO_0.out)
                            have n1_ := Aside0.mk (Kd.R_drew HO_3.out)
                            have n2_ := Aside0.mk (blk_drew BK225.out)
                            have n3_ := Aside0.mk (below_drew1 HB.out)
                            clear HO_0
                            clear HO_3
                            clear BK225
                            clear HB
                            have HO_0 := n0_
                            have HO_3 := n1_
                            have BK225 := n2_
                            have HB := n3_
                            clear n0_ n1_ n2_ n3_
                            refine start_ (n := 27) (S := fun w' => True) (ds := []) #[false, false, false, false, false, false, false, false, false, false, false, false, false, false, false, false, false, false, false, false, false, false, false, false, false, false, false] (by kernel_rfl) rfl rfl trivial (fun hHeld => ?_); refine with_tabW host_Compress.tab8 host_Compress.bits8 (fun HT_ HW_ => ?_)
                            generalize wr.drew = w28 at HO_0 HO_3 BK225 HB hHeld ⊢
                            refine pure_ (i := 0) (N := some 43) (v := ?_) (a' := ?_) #[true, false, false, false, false, false, false, false, false, false, false, false, false, false, false, false, false, false, false, false, false, false, false, false, false, false, false] rfl rfl (any_of HT_.out (by kernel_rfl)) (fun _ _ _ h => h) (Or.inl ⟨by rfl, ?_⟩) ?_ ?_
                            rotate_left
                            · intro w'
                              go_simp
                              with_reducible rfl
                            rotate_left
                            · simp only [Act.put, List.setIfInBounds_toArray, List.set_cons_zero, List.set_cons_succ, i64_w, i32_w]
                              rfl
                            refine pure_ (i := 1) (N := some 44) (v := ?_) (a' := ?_) #[true, true, false, false, false, false, false, false, false, false, false, false, false, false, false, false, false, false, false, false, false, false, false, false, false, false, false] rfl rfl (any_of HT_.out (by kernel_rfl)) (fun _ _ _ h => h) (Or.inl ⟨by rfl, ?_⟩) ?_ ?_
                            rotate_left
                            · intro w'
                              go_simp
                              with_reducible rfl
                            rotate_left
                            · simp only [Act.put, List.setIfInBounds_toArray, List.set_cons_zero, List.set_cons_succ, i64_w, i32_w]
                              rfl
                            refine pure_ (i := 2) (N := some 45) (v := ?_) (a' := ?_) #[true, true, true, false, false, false, false, false, false, false, false, false, false, false, false, false, false, false, false, false, false, false, false, false, false, false, false] rfl rfl (any_of HT_.out (by kernel_rfl)) (fun _ _ _ h => h) (Or.inl ⟨by rfl, ?_⟩) ?_ ?_
                            rotate_left
                            · intro w'
                              go_simp
                              with_reducible rfl
                            rotate_left
                            · simp only [Act.put, List.setIfInBounds_toArray, List.set_cons_zero, List.set_cons_succ, i64_w, i32_w]
                              rfl
                            refine pure_ (i := 3) (N := some 46) (v := ?_) (a' := ?_) #[true, true, true, true, false, false, false, false, false, false, false, false, false, false, false, false, false, false, false, false, false, false, false, false, false, false, false] rfl rfl (any_of HT_.out (by kernel_rfl)) (fun _ _ _ h => h) (Or.inl ⟨by rfl, ?_⟩) ?_ ?_
                            rotate_left
                            · intro w'
                              go_simp
                              with_reducible rfl
                            rotate_left
                            · simp only [Act.put, List.setIfInBounds_toArray, List.set_cons_zero, List.set_cons_succ, i64_w, i32_w]
                              rfl
                            refine pure_ (i := 4) (N := some 47) (v := ?_) (a' := ?_) #[true, true, true, true, true, false, false, false, false, false, false, false, false, false, false, false, false, false, false, false, false, false, false, false, false, false, false] rfl rfl (any_of HT_.out (by kernel_rfl)) (fun _ _ _ h => h) (Or.inl ⟨by rfl, ?_⟩) ?_ ?_
                            rotate_left
                            · intro w'
                              go_simp
                              with_reducible rfl
                            rotate_left
                            · simp only [Act.put, List.setIfInBounds_toArray, List.set_cons_zero, List.set_cons_succ, i64_w, i32_w]
                              rfl
                            refine pure_ (i := 5) (N := some 48) (v := ?_) (a' := ?_) #[true, true, true, true, true, true, false, false, false, false, false, false, false, false, false, false, false, false, false, false, false, false, false, false, false, false, false] rfl rfl (any_of HT_.out (by kernel_rfl)) (fun _ _ _ h => h) (Or.inl ⟨by rfl, ?_⟩) ?_ ?_
                            rotate_left
                            · intro w'
                              go_simp
                              with_reducible rfl
                            rotate_left
                            · simp only [Act.put, List.setIfInBounds_toArray, List.set_cons_zero, List.set_cons_succ, i64_w, i32_w]
                              rfl
                            refine pure_ (i := 6) (N := some 49) (v := ?_) (a' := ?_) #[true, true, true, true, true, true, true, false, false, false, false, false, false, false, false, false, false, false, false, false, false, false, false, false, false, false, false] rfl rfl (any_of HT_.out (by kernel_rfl)) (fun _ _ _ h => h) (Or.inl ⟨by rfl, ?_⟩) ?_ ?_
                            rotate_left
                            · intro w'
                              go_simp
                              with_reducible rfl
                            rotate_left
                            · simp only [Act.put, List.setIfInBounds_toArray, List.set_cons_zero, List.set_cons_succ, i64_w, i32_w]
                              rfl
                            refine pure_ (i := 7) (N := some 50) (v := ?_) (a' := ?_) #[true, true, true, true, true, true, true, true, false, false, false, false, false, false, false, false, false, false, false, false, false, false, false, false, false, false, false] rfl rfl (any_of HT_.out (by kernel_rfl)) (fun _ _ _ h => h) (Or.inl ⟨by rfl, ?_⟩) ?_ ?_
                            rotate_left
                            · intro w'
                              go_simp
                              with_reducible rfl
                            rotate_left
                            · simp only [Act.put, List.setIfInBounds_toArray, List.set_cons_zero, List.set_cons_succ, i64_w, i32_w]
                              rfl
                            refine pure_ (i := 8) (N := some 51) (v := undef) (a' := ?_) #[true, true, true, true, true, true, true, true, true, false, false, false, false, false, false, false, false, false, false, false, false, false, false, false, false, false, false] rfl rfl (any_of HT_.out (by kernel_rfl)) (fun _ _ _ h => h) (Or.inr ⟨by rfl, rfl⟩) ?_ ?_
                            rotate_left
                            · simp only [Act.put, List.setIfInBounds_toArray, List.set_cons_zero, List.set_cons_succ, i64_w, i32_w]
                              rfl
                            refine pure_ (i := 9) (N := some 52) (v := undef) (a' := ?_) #[true, true, true, true, true, true, true, true, true, true, false, false, false, false, false, false, false, false, false, false, false, false, false, false, false, false, false] rfl rfl (any_of HT_.out (by kernel_rfl)) (fun _ _ _ h => h) (Or.inr ⟨by rfl, rfl⟩) ?_ ?_
                            rotate_left
                            · simp only [Act.put, List.setIfInBounds_toArray, List.set_cons_zero, List.set_cons_succ, i64_w, i32_w]
                              rfl
                            refine pure_ (i := 10) (N := some 53) (v := undef) (a' := ?_) #[true, true, true, true, true, true, true, true, true, true, true, false, false, false, false, false, false, false, false, false, false, false, false, false, false, false, false] rfl rfl (any_of HT_.out (by kernel_rfl)) (fun _ _ _ h => h) (Or.inr ⟨by rfl, rfl⟩) ?_ ?_
                            rotate_left
                            · simp only [Act.put, List.setIfInBounds_toArray, List.set_cons_zero, List.set_cons_succ, i64_w, i32_w]
                              rfl
                            refine pure_ (i := 11) (N := some 54) (v := undef) (a' := ?_) #[true, true, true, true, true, true, true, true, true, true, true, true, false, false, false, false, false, false, false, false, false, false, false, false, false, false, false] rfl rfl (any_of HT_.out (by kernel_rfl)) (fun _ _ _ h => h) (Or.inr ⟨by rfl, rfl⟩) ?_ ?_
                            rotate_left
                            · simp only [Act.put, List.setIfInBounds_toArray, List.set_cons_zero, List.set_cons_succ, i64_w, i32_w]
                              rfl
                            refine pure_ (i := 12) (N := some 55) (v := ?_) (a' := ?_) #[true, true, true, true, true, true, true, true, true, true, true, true, true, false, false, false, false, false, false, false, false, false, false, false, false, false, false] rfl rfl (any_of HT_.out (by kernel_rfl)) (fun _ _ _ h => h) (Or.inl ⟨by rfl, ?_⟩) ?_ ?_
                            rotate_left
                            · intro w'
                              go_simp
                              with_reducible rfl
                            rotate_left
                            · simp only [Act.put, List.setIfInBounds_toArray, List.set_cons_zero, List.set_cons_succ, i64_w, i32_w]
                              rfl
                            refine pure_ (i := 13) (N := some 56) (v := ?_) (a' := ?_) #[true, true, true, true, true, true, true, true, true, true, true, true, true, true, false, false, false, false, false, false, false, false, false, false, false, false, false] rfl rfl (any_of HT_.out (by kernel_rfl)) (fun _ _ _ h => h) (Or.inl ⟨by rfl, ?_⟩) ?_ ?_
                            rotate_left
                            · intro w'
                              go_simp
                              with_reducible rfl
                            rotate_left
                            · simp only [Act.put, List.setIfInBounds_toArray, List.set_cons_zero, List.set_cons_succ, i64_w, i32_w]
                              rfl
                            refine pure_ (i := 14) (N := some 57) (v := undef) (a' := ?_) #[true, true, true, true, true, true, true, true, true, true, true, true, true, true, true, false, false, false, false, false, false, false, false, false, false, false, false] rfl rfl (any_of HT_.out (by kernel_rfl)) (fun _ _ _ h => h) (Or.inr ⟨by rfl, rfl⟩) ?_ ?_
                            rotate_left
                            · simp only [Act.put, List.setIfInBounds_toArray, List.set_cons_zero, List.set_cons_succ, i64_w, i32_w]
                              rfl
                            refine pure_ (i := 15) (N := some 58) (v := undef) (a' := ?_) #[true, true, true, true, true, true, true, true, true, true, true, true, true, true, true, true, false, false, false, false, false, false, false, false, false, false, false] rfl rfl (any_of HT_.out (by kernel_rfl)) (fun _ _ _ h => h) (Or.inr ⟨by rfl, rfl⟩) ?_ ?_
                            rotate_left
                            · simp only [Act.put, List.setIfInBounds_toArray, List.set_cons_zero, List.set_cons_succ, i64_w, i32_w]
                              rfl
                            refine pure_ (i := 16) (N := some 59) (v := undef) (a' := ?_) #[true, true, true, true, true, true, true, true, true, true, true, true, true, true, true, true, true, false, false, false, false, false, false, false, false, false, false] rfl rfl (any_of HT_.out (by kernel_rfl)) (fun _ _ _ h => h) (Or.inr ⟨by rfl, rfl⟩) ?_ ?_
                            rotate_left
                            · simp only [Act.put, List.setIfInBounds_toArray, List.set_cons_zero, List.set_cons_succ, i64_w, i32_w]
                              rfl
                            refine pure_ (i := 17) (N := some 60) (v := undef) (a' := ?_) #[true, true, true, true, true, true, true, true, true, true, true, true, true, true, true, true, true, true, false, false, false, false, false, false, false, false, false] rfl rfl (any_of HT_.out (by kernel_rfl)) (fun _ _ _ h => h) (Or.inr ⟨by rfl, rfl⟩) ?_ ?_
                            rotate_left
                            · simp only [Act.put, List.setIfInBounds_toArray, List.set_cons_zero, List.set_cons_succ, i64_w, i32_w]
                              rfl
                            refine pure_ (i := 18) (N := some 61) (v := undef) (a' := ?_) #[true, true, true, true, true, true, true, true, true, true, true, true, true, true, true, true, true, true, true, false, false, false, false, false, false, false, false] rfl rfl (any_of HT_.out (by kernel_rfl)) (fun _ _ _ h => h) (Or.inr ⟨by rfl, rfl⟩) ?_ ?_
                            rotate_left
                            · simp only [Act.put, List.setIfInBounds_toArray, List.set_cons_zero, List.set_cons_succ, i64_w, i32_w]
                              rfl
                            refine pure_ (i := 19) (N := some 62) (v := undef) (a' := ?_) #[true, true, true, true, true, true, true, true, true, true, true, true, true, true, true, true, true, true, true, true, false, false, false, false, false, false, false] rfl rfl (any_of HT_.out (by kernel_rfl)) (fun _ _ _ h => h) (Or.inr ⟨by rfl, rfl⟩) ?_ ?_
                            rotate_left
                            · simp only [Act.put, List.setIfInBounds_toArray, List.set_cons_zero, List.set_cons_succ, i64_w, i32_w]
                              rfl
                            refine pure_ (i := 20) (N := some 63) (v := undef) (a' := ?_) #[true, true, true, true, true, true, true, true, true, true, true, true, true, true, true, true, true, true, true, true, true, false, false, false, false, false, false] rfl rfl (any_of HT_.out (by kernel_rfl)) (fun _ _ _ h => h) (Or.inr ⟨by rfl, rfl⟩) ?_ ?_
                            rotate_left
                            · simp only [Act.put, List.setIfInBounds_toArray, List.set_cons_zero, List.set_cons_succ, i64_w, i32_w]
                              rfl
                            refine pure_ (i := 21) (N := some 64) (v := undef) (a' := ?_) #[true, true, true, true, true, true, true, true, true, true, true, true, true, true, true, true, true, true, true, true, true, true, false, false, false, false, false] rfl rfl (any_of HT_.out (by kernel_rfl)) (fun _ _ _ h => h) (Or.inr ⟨by rfl, rfl⟩) ?_ ?_
                            rotate_left
                            · simp only [Act.put, List.setIfInBounds_toArray, List.set_cons_zero, List.set_cons_succ, i64_w, i32_w]
                              rfl
                            refine pure_ (i := 22) (N := some 65) (v := undef) (a' := ?_) #[true, true, true, true, true, true, true, true, true, true, true, true, true, true, true, true, true, true, true, true, true, true, true, false, false, false, false] rfl rfl (any_of HT_.out (by kernel_rfl)) (fun _ _ _ h => h) (Or.inr ⟨by rfl, rfl⟩) ?_ ?_
                            rotate_left
                            · simp only [Act.put, List.setIfInBounds_toArray, List.set_cons_zero, List.set_cons_succ, i64_w, i32_w]
                              rfl
                            refine pure_ (i := 23) (N := some 66) (v := undef) (a' := ?_) #[true, true, true, true, true, true, true, true, true, true, true, true, true, true, true, true, true, true, true, true, true, true, true, true, false, false, false] rfl rfl (any_of HT_.out (by kernel_rfl)) (fun _ _ _ h => h) (Or.inr ⟨by rfl, rfl⟩) ?_ ?_
                            rotate_left
                            · simp only [Act.put, List.setIfInBounds_toArray, List.set_cons_zero, List.set_cons_succ, i64_w, i32_w]
                              rfl
                            refine pure_ (i := 24) (N := some 67) (v := undef) (a' := ?_) #[true, true, true, true, true, true, true, true, true, true, true, true, true, true, true, true, true, true, true, true, true, true, true, true, true, false, false] rfl rfl (any_of HT_.out (by kernel_rfl)) (fun _ _ _ h => h) (Or.inr ⟨by rfl, rfl⟩) ?_ ?_
                            rotate_left
                            · simp only [Act.put, List.setIfInBounds_toArray, List.set_cons_zero, List.set_cons_succ, i64_w, i32_w]
                              rfl
                            refine pure_ (i := 25) (N := some 68) (v := undef) (a' := ?_) #[true, true, true, true, true, true, true, true, true, true, true, true, true, true, true, true, true, true, true, true, true, true, true, true, true, true, false] rfl rfl (any_of HT_.out (by kernel_rfl)) (fun _ _ _ h => h) (Or.inr ⟨by rfl, rfl⟩) ?_ ?_
                            rotate_left
                            · simp only [Act.put, List.setIfInBounds_toArray, List.set_cons_zero, List.set_cons_succ, i64_w, i32_w]
                              rfl
                            refine pure_ (i := 26) (N := some 69) (v := ?_) (a' := ?_) #[true, true, true, true, true, true, true, true, true, true, true, true, true, true, true, true, true, true, true, true, true, true, true, true, true, true, true] rfl rfl (any_of HT_.out (by kernel_rfl)) (fun _ _ _ h => h) (Or.inl ⟨by rfl, ?_⟩) ?_ ?_
                            rotate_left
                            · intro w'
                              go_simp
                              with_reducible rfl
                            rotate_left
                            · simp only [Act.put, List.setIfInBounds_toArray, List.set_cons_zero, List.set_cons_succ, i64_w, i32_w]
                              rfl
                            refine done_ (done_of HT_.out (by kernel_rfl)) ?_
                            try go_wp2
                            go_meet
                            case rel => exact ⟨_, (false), (by first | rfl | (simp; done) | (simp [*]; done)), H', ⟨by have := HK1.out; have := HJ4.out; have := HJ14.out; have := HK4.out; first | omega | exact Nat.le_refl _⟩, ⟨by (with_reducible repeat (first | apply Kd.V_alloc | apply Kd.V_drewN | apply Kd.V_drew)); exact HO_0.out⟩, ⟨by (with_reducible repeat (first | apply Kd.R_alloc | apply Kd.R_drewN | apply Kd.R_drew)); exact HO_3.out⟩, ⟨by (with_reducible repeat (first | refine blk_drewN ?_ _ | refine blk_drew ?_ | refine blk_alloc ?_ _)); exact BK225.out⟩, ⟨by repeat (first | (with_reducible first | exact HB.out | apply below_alloc | apply pw_below_drewN | apply below_drew1 | refine below_set ?_ GE225.out) | exact HB.out)⟩⟩
                        · replace c19 := Bool.eq_false_iff.mpr c19
                          subst c19
                          have H1 : (host_Compress.j4 k4 x0_1 x3_1 t221 t222 false x9_4 false 0 0 x226002_14) = some r := by rw [if_neg (show ¬ (false = true) by decide)] at H; exact H
                          clear H
                          have H := H1
                          clear H1
                          have H' := Aside0.mk H
                          clear H
                          try go_wp2
                          have n0_ := Aside0.mk (Kd.V_drew HO_0.out)
                          have n1_ := Aside0.mk (Kd.R_drew HO_3.out)
                          have n2_ := Aside0.mk (blk_drew BK225.out)
                          have n3_ := Aside0.mk (below_drew1 HB.out)
                          clear HO_0
                          clear HO_3
                          clear BK225
                          clear HB
                          have HO_0 := n0_
                          have HO_3 := n1_
                          have BK225 := n2_
                          have HB := n3_
                          clear n0_ n1_ n2_ n3_
                          refine start_ (n := 27) (S := fun w' => True) (ds := []) #[false, false, false, false, false, false, false, false, false, false, false, false, false, false, false, false, false, false, false, false, false, false, false, false, false, false, false] (by kernel_rfl) rfl rfl trivial (fun hHeld => ?_); refine with_tabW host_Compress.tab8 host_Compress.bits8 (fun HT_ HW_ => ?_)
                          generalize wr.drew = w29 at HO_0 HO_3 BK225 HB hHeld ⊢
                          refine pure_ (i := 0) (N := some 43) (v := ?_) (a' := ?_) #[true, false, false, false, false, false, false, false, false, false, false, false, false, false, false, false, false, false, false, false, false, false, false, false, false, false, false] rfl rfl (any_of HT_.out (by kernel_rfl)) (fun _ _ _ h => h) (Or.inl ⟨by rfl, ?_⟩) ?_ ?_
                          rotate_left
                          · intro w'
                            go_simp
                            with_reducible rfl
                          rotate_left
                          · simp only [Act.put, List.setIfInBounds_toArray, List.set_cons_zero, List.set_cons_succ, i64_w, i32_w]
                            rfl
                          refine pure_ (i := 1) (N := some 44) (v := ?_) (a' := ?_) #[true, true, false, false, false, false, false, false, false, false, false, false, false, false, false, false, false, false, false, false, false, false, false, false, false, false, false] rfl rfl (any_of HT_.out (by kernel_rfl)) (fun _ _ _ h => h) (Or.inl ⟨by rfl, ?_⟩) ?_ ?_
                          rotate_left
                          · intro w'
                            go_simp
                            with_reducible rfl
                          rotate_left
                          · simp only [Act.put, List.setIfInBounds_toArray, List.set_cons_zero, List.set_cons_succ, i64_w, i32_w]
                            rfl
                          refine pure_ (i := 2) (N := some 45) (v := undef) (a' := ?_) #[true, true, true, false, false, false, false, false, false, false, false, false, false, false, false, false, false, false, false, false, false, false, false, false, false, false, false] rfl rfl (any_of HT_.out (by kernel_rfl)) (fun _ _ _ h => h) (Or.inr ⟨by rfl, rfl⟩) ?_ ?_
                          rotate_left
                          · simp only [Act.put, List.setIfInBounds_toArray, List.set_cons_zero, List.set_cons_succ, i64_w, i32_w]
                            rfl
                          refine pure_ (i := 3) (N := some 46) (v := undef) (a' := ?_) #[true, true, true, true, false, false, false, false, false, false, false, false, false, false, false, false, false, false, false, false, false, false, false, false, false, false, false] rfl rfl (any_of HT_.out (by kernel_rfl)) (fun _ _ _ h => h) (Or.inr ⟨by rfl, rfl⟩) ?_ ?_
                          rotate_left
                          · simp only [Act.put, List.setIfInBounds_toArray, List.set_cons_zero, List.set_cons_succ, i64_w, i32_w]
                            rfl
                          refine pure_ (i := 4) (N := some 47) (v := undef) (a' := ?_) #[true, true, true, true, true, false, false, false, false, false, false, false, false, false, false, false, false, false, false, false, false, false, false, false, false, false, false] rfl rfl (any_of HT_.out (by kernel_rfl)) (fun _ _ _ h => h) (Or.inr ⟨by rfl, rfl⟩) ?_ ?_
                          rotate_left
                          · simp only [Act.put, List.setIfInBounds_toArray, List.set_cons_zero, List.set_cons_succ, i64_w, i32_w]
                            rfl
                          refine pure_ (i := 5) (N := some 48) (v := undef) (a' := ?_) #[true, true, true, true, true, true, false, false, false, false, false, false, false, false, false, false, false, false, false, false, false, false, false, false, false, false, false] rfl rfl (any_of HT_.out (by kernel_rfl)) (fun _ _ _ h => h) (Or.inr ⟨by rfl, rfl⟩) ?_ ?_
                          rotate_left
                          · simp only [Act.put, List.setIfInBounds_toArray, List.set_cons_zero, List.set_cons_succ, i64_w, i32_w]
                            rfl
                          refine pure_ (i := 6) (N := some 49) (v := ?_) (a' := ?_) #[true, true, true, true, true, true, true, false, false, false, false, false, false, false, false, false, false, false, false, false, false, false, false, false, false, false, false] rfl rfl (any_of HT_.out (by kernel_rfl)) (fun _ _ _ h => h) (Or.inl ⟨by rfl, ?_⟩) ?_ ?_
                          rotate_left
                          · intro w'
                            go_simp
                            with_reducible rfl
                          rotate_left
                          · simp only [Act.put, List.setIfInBounds_toArray, List.set_cons_zero, List.set_cons_succ, i64_w, i32_w]
                            rfl
                          refine pure_ (i := 7) (N := some 50) (v := ?_) (a' := ?_) #[true, true, true, true, true, true, true, true, false, false, false, false, false, false, false, false, false, false, false, false, false, false, false, false, false, false, false] rfl rfl (any_of HT_.out (by kernel_rfl)) (fun _ _ _ h => h) (Or.inl ⟨by rfl, ?_⟩) ?_ ?_
                          rotate_left
                          · intro w'
                            go_simp
                            with_reducible rfl
                          rotate_left
                          · simp only [Act.put, List.setIfInBounds_toArray, List.set_cons_zero, List.set_cons_succ, i64_w, i32_w]
                            rfl
                          refine pure_ (i := 8) (N := some 51) (v := undef) (a' := ?_) #[true, true, true, true, true, true, true, true, true, false, false, false, false, false, false, false, false, false, false, false, false, false, false, false, false, false, false] rfl rfl (any_of HT_.out (by kernel_rfl)) (fun _ _ _ h => h) (Or.inr ⟨by rfl, rfl⟩) ?_ ?_
                          rotate_left
                          · simp only [Act.put, List.setIfInBounds_toArray, List.set_cons_zero, List.set_cons_succ, i64_w, i32_w]
                            rfl
                          refine pure_ (i := 9) (N := some 52) (v := undef) (a' := ?_) #[true, true, true, true, true, true, true, true, true, true, false, false, false, false, false, false, false, false, false, false, false, false, false, false, false, false, false] rfl rfl (any_of HT_.out (by kernel_rfl)) (fun _ _ _ h => h) (Or.inr ⟨by rfl, rfl⟩) ?_ ?_
                          rotate_left
                          · simp only [Act.put, List.setIfInBounds_toArray, List.set_cons_zero, List.set_cons_succ, i64_w, i32_w]
                            rfl
                          refine pure_ (i := 10) (N := some 53) (v := undef) (a' := ?_) #[true, true, true, true, true, true, true, true, true, true, true, false, false, false, false, false, false, false, false, false, false, false, false, false, false, false, false] rfl rfl (any_of HT_.out (by kernel_rfl)) (fun _ _ _ h => h) (Or.inr ⟨by rfl, rfl⟩) ?_ ?_
                          rotate_left
                          · simp only [Act.put, List.setIfInBounds_toArray, List.set_cons_zero, List.set_cons_succ, i64_w, i32_w]
                            rfl
                          refine pure_ (i := 11) (N := some 54) (v := undef) (a' := ?_) #[true, true, true, true, true, true, true, true, true, true, true, true, false, false, false, false, false, false, false, false, false, false, false, false, false, false, false] rfl rfl (any_of HT_.out (by kernel_rfl)) (fun _ _ _ h => h) (Or.inr ⟨by rfl, rfl⟩) ?_ ?_
                          rotate_left
                          · simp only [Act.put, List.setIfInBounds_toArray, List.set_cons_zero, List.set_cons_succ, i64_w, i32_w]
                            rfl
                          refine pure_ (i := 12) (N := some 55) (v := ?_) (a' := ?_) #[true, true, true, true, true, true, true, true, true, true, true, true, true, false, false, false, false, false, false, false, false, false, false, false, false, false, false] rfl rfl (any_of HT_.out (by kernel_rfl)) (fun _ _ _ h => h) (Or.inl ⟨by rfl, ?_⟩) ?_ ?_
                          rotate_left
                          · intro w'
                            go_simp
                            with_reducible rfl
                          rotate_left
                          · simp only [Act.put, List.setIfInBounds_toArray, List.set_cons_zero, List.set_cons_succ, i64_w, i32_w]
                            rfl
                          refine pure_ (i := 13) (N := some 56) (v := ?_) (a' := ?_) #[true, true, true, true, true, true, true, true, true, true, true, true, true, true, false, false, false, false, false, false, false, false, false, false, false, false, false] rfl rfl (any_of HT_.out (by kernel_rfl)) (fun _ _ _ h => h) (Or.inl ⟨by rfl, ?_⟩) ?_ ?_
                          rotate_left
                          · intro w'
                            go_simp
                            with_reducible rfl
                          rotate_left
                          · simp only [Act.put, List.setIfInBounds_toArray, List.set_cons_zero, List.set_cons_succ, i64_w, i32_w]
                            rfl
                          refine pure_ (i := 14) (N := some 57) (v := undef) (a' := ?_) #[true, true, true, true, true, true, true, true, true, true, true, true, true, true, true, false, false, false, false, false, false, false, false, false, false, false, false] rfl rfl (any_of HT_.out (by kernel_rfl)) (fun _ _ _ h => h) (Or.inr ⟨by rfl, rfl⟩) ?_ ?_
                          rotate_left
                          · simp only [Act.put, List.setIfInBounds_toArray, List.set_cons_zero, List.set_cons_succ, i64_w, i32_w]
                            rfl
                          refine pure_ (i := 15) (N := some 58) (v := undef) (a' := ?_) #[true, true, true, true, true, true, true, true, true, true, true, true, true, true, true, true, false, false, false, false, false, false, false, false, false, false, false] rfl rfl (any_of HT_.out (by kernel_rfl)) (fun _ _ _ h => h) (Or.inr ⟨by rfl, rfl⟩) ?_ ?_
                          rotate_left
                          · simp only [Act.put, List.setIfInBounds_toArray, List.set_cons_zero, List.set_cons_succ, i64_w, i32_w]
                            rfl
                          refine pure_ (i := 16) (N := some 59) (v := undef) (a' := ?_) #[true, true, true, true, true, true, true, true, true, true, true, true, true, true, true, true, true, false, false, false, false, false, false, false, false, false, false] rfl rfl (any_of HT_.out (by kernel_rfl)) (fun _ _ _ h => h) (Or.inr ⟨by rfl, rfl⟩) ?_ ?_
                          rotate_left
                          · simp only [Act.put, List.setIfInBounds_toArray, List.set_cons_zero, List.set_cons_succ, i64_w, i32_w]
                            rfl
                          refine pure_ (i := 17) (N := some 60) (v := undef) (a' := ?_) #[true, true, true, true, true, true, true, true, true, true, true, true, true, true, true, true, true, true, false, false, false, false, false, false, false, false, false] rfl rfl (any_of HT_.out (by kernel_rfl)) (fun _ _ _ h => h) (Or.inr ⟨by rfl, rfl⟩) ?_ ?_
                          rotate_left
                          · simp only [Act.put, List.setIfInBounds_toArray, List.set_cons_zero, List.set_cons_succ, i64_w, i32_w]
                            rfl
                          refine pure_ (i := 18) (N := some 61) (v := undef) (a' := ?_) #[true, true, true, true, true, true, true, true, true, true, true, true, true, true, true, true, true, true, true, false, false, false, false, false, false, false, false] rfl rfl (any_of HT_.out (by kernel_rfl)) (fun _ _ _ h => h) (Or.inr ⟨by rfl, rfl⟩) ?_ ?_
                          rotate_left
                          · simp only [Act.put, List.setIfInBounds_toArray, List.set_cons_zero, List.set_cons_succ, i64_w, i32_w]
                            rfl
                          refine pure_ (i := 19) (N := some 62) (v := undef) (a' := ?_) #[true, true, true, true, true, true, true, true, true, true, true, true, true, true, true, true, true, true, true, true, false, false, false, false, false, false, false] rfl rfl (any_of HT_.out (by kernel_rfl)) (fun _ _ _ h => h) (Or.inr ⟨by rfl, rfl⟩) ?_ ?_
                          rotate_left
                          · simp only [Act.put, List.setIfInBounds_toArray, List.set_cons_zero, List.set_cons_succ, i64_w, i32_w]
                            rfl
                          refine pure_ (i := 20) (N := some 63) (v := undef) (a' := ?_) #[true, true, true, true, true, true, true, true, true, true, true, true, true, true, true, true, true, true, true, true, true, false, false, false, false, false, false] rfl rfl (any_of HT_.out (by kernel_rfl)) (fun _ _ _ h => h) (Or.inr ⟨by rfl, rfl⟩) ?_ ?_
                          rotate_left
                          · simp only [Act.put, List.setIfInBounds_toArray, List.set_cons_zero, List.set_cons_succ, i64_w, i32_w]
                            rfl
                          refine pure_ (i := 21) (N := some 64) (v := undef) (a' := ?_) #[true, true, true, true, true, true, true, true, true, true, true, true, true, true, true, true, true, true, true, true, true, true, false, false, false, false, false] rfl rfl (any_of HT_.out (by kernel_rfl)) (fun _ _ _ h => h) (Or.inr ⟨by rfl, rfl⟩) ?_ ?_
                          rotate_left
                          · simp only [Act.put, List.setIfInBounds_toArray, List.set_cons_zero, List.set_cons_succ, i64_w, i32_w]
                            rfl
                          refine pure_ (i := 22) (N := some 65) (v := undef) (a' := ?_) #[true, true, true, true, true, true, true, true, true, true, true, true, true, true, true, true, true, true, true, true, true, true, true, false, false, false, false] rfl rfl (any_of HT_.out (by kernel_rfl)) (fun _ _ _ h => h) (Or.inr ⟨by rfl, rfl⟩) ?_ ?_
                          rotate_left
                          · simp only [Act.put, List.setIfInBounds_toArray, List.set_cons_zero, List.set_cons_succ, i64_w, i32_w]
                            rfl
                          refine pure_ (i := 23) (N := some 66) (v := undef) (a' := ?_) #[true, true, true, true, true, true, true, true, true, true, true, true, true, true, true, true, true, true, true, true, true, true, true, true, false, false, false] rfl rfl (any_of HT_.out (by kernel_rfl)) (fun _ _ _ h => h) (Or.inr ⟨by rfl, rfl⟩) ?_ ?_
                          rotate_left
                          · simp only [Act.put, List.setIfInBounds_toArray, List.set_cons_zero, List.set_cons_succ, i64_w, i32_w]
                            rfl
                          refine pure_ (i := 24) (N := some 67) (v := undef) (a' := ?_) #[true, true, true, true, true, true, true, true, true, true, true, true, true, true, true, true, true, true, true, true, true, true, true, true, true, false, false] rfl rfl (any_of HT_.out (by kernel_rfl)) (fun _ _ _ h => h) (Or.inr ⟨by rfl, rfl⟩) ?_ ?_
                          rotate_left
                          · simp only [Act.put, List.setIfInBounds_toArray, List.set_cons_zero, List.set_cons_succ, i64_w, i32_w]
                            rfl
                          refine pure_ (i := 25) (N := some 68) (v := undef) (a' := ?_) #[true, true, true, true, true, true, true, true, true, true, true, true, true, true, true, true, true, true, true, true, true, true, true, true, true, true, false] rfl rfl (any_of HT_.out (by kernel_rfl)) (fun _ _ _ h => h) (Or.inr ⟨by rfl, rfl⟩) ?_ ?_
                          rotate_left
                          · simp only [Act.put, List.setIfInBounds_toArray, List.set_cons_zero, List.set_cons_succ, i64_w, i32_w]
                            rfl
                          refine pure_ (i := 26) (N := some 69) (v := ?_) (a' := ?_) #[true, true, true, true, true, true, true, true, true, true, true, true, true, true, true, true, true, true, true, true, true, true, true, true, true, true, true] rfl rfl (any_of HT_.out (by kernel_rfl)) (fun _ _ _ h => h) (Or.inl ⟨by rfl, ?_⟩) ?_ ?_
                          rotate_left
                          · intro w'
                            go_simp
                            with_reducible rfl
                          rotate_left
                          · simp only [Act.put, List.setIfInBounds_toArray, List.set_cons_zero, List.set_cons_succ, i64_w, i32_w]
                            rfl
                          refine done_ (done_of HT_.out (by kernel_rfl)) ?_
                          try go_wp2
                          go_meet
                          case rel => exact ⟨_, (false), (by first | rfl | (simp; done) | (simp [*]; done)), H', ⟨by have := HK1.out; have := HJ4.out; have := HJ14.out; have := HK4.out; first | omega | exact Nat.le_refl _⟩, ⟨by (with_reducible repeat (first | apply Kd.V_alloc | apply Kd.V_drewN | apply Kd.V_drew)); exact HO_0.out⟩, ⟨by (with_reducible repeat (first | apply Kd.R_alloc | apply Kd.R_drewN | apply Kd.R_drew)); exact HO_3.out⟩, ⟨by (with_reducible repeat (first | refine blk_drewN ?_ _ | refine blk_drew ?_ | refine blk_alloc ?_ _)); exact BK225.out⟩, ⟨by repeat (first | (with_reducible first | exact HB.out | apply below_alloc | apply pw_below_drewN | apply below_drew1 | refine below_set ?_ GE225.out) | exact HB.out)⟩⟩
                      case rest =>
                        clear HC18
                        try clear c1
                        try clear c2
                        try clear p2
                        try clear p6
                        try clear c19
                        try clear c20
                        try clear c20b0
                        try clear c21
                        try clear c21b0
                        try clear c22
                        try clear c24
                        try clear c28
                        obtain ⟨kq, x69_17, rfl, HA, HJ17, HO_0, HO_3, BK225, HB⟩ := hcut
                        cases kq with
                        | zero => exact absurd HA.out (by simp [host_Compress.j4])
                        | succ kj17 =>
                          have H := HA.out
                          clear HA
                          simp only [host_Compress.j4] at H
                          by_cases c30 : x69_17 = true
                          · subst c30
                            have H1 : (if 0 ≤ x9_4 then (if x9_4 < (x0_1.length : Int) then ((host_Number.f kj17 (rdOf ByteArray.empty x0_1 x9_4)).bind fun bt230 => (if bt230.1.toList = t221.toList then (host_Compress.l1 kj17 x0_1 x3_1 t221 t222 t224 (wrap64 (x9_4 + 1)) 0 0 x226002_14) else (if x9_4 = 1 then (if 0 < (x0_1.length : Int) then (if x3_1.length < 8796093022208 then (if x9_4 ≤ (x0_1.length : Int) then (host_Compress.l0 kj17 (x0_1.drop (x9_4 : Int).toNat) (x3_1 ++ [rdOf ByteArray.empty x0_1 0])) else (none)) else (none)) else (none)) else (if t221.size + 1 ≤ 9223372036854775807 then (if 0 < (x0_1.length : Int) then (if 0 ≤ (t221.size : Int) then (if (t221.size : Int) ≤ ((rdOf ByteArray.empty x0_1 0).size : Int) then (if (t221 ++ (⟨#[91]⟩ : ByteArray)).size + ((rdOf ByteArray.empty x0_1 0).extract ((t221.size : Int) : Int).toNat (rdOf ByteArray.empty x0_1 0).size).size ≤ 9223372036854775807 then (if ((t221 ++ (⟨#[91]⟩ : ByteArray)) ++ ((rdOf ByteArray.empty x0_1 0).extract ((t221.size : Int) : Int).toNat (rdOf ByteArray.empty x0_1 0).size)).size + 1 ≤ 9223372036854775807 then (if 0 ≤ (wrap64 (x9_4 - 1)) then (if (wrap64 (x9_4 - 1)) < (x0_1.length : Int) then (if (t221.size : Int) ≤ ((rdOf ByteArray.empty x0_1 (wrap64 (x9_4 - 1))).size : Int) then (if (((t221 ++ (⟨#[91]⟩ : ByteArray)) ++ ((rdOf ByteArray.empty x0_1 0).extract ((t221.size : Int) : Int).toNat (rdOf ByteArray.empty x0_1 0).size)) ++ (⟨#[45]⟩ : ByteArray)).size + ((rdOf ByteArray.empty x0_1 (wrap64 (x9_4 - 1))).extract ((t221.size : Int) : Int).toNat (rdOf ByteArray.empty x0_1 (wrap64 (x9_4 - 1))).size).size ≤ 9223372036854775807 then (if ((((t221 ++ (⟨#[91]⟩ : ByteArray)) ++ ((rdOf ByteArray.empty x0_1 0).extract ((t221.size : Int) : Int).toNat (rdOf ByteArray.empty x0_1 0).size)) ++ (⟨#[45]⟩ : ByteArray)) ++ ((rdOf ByteArray.empty x0_1 (wrap64 (x9_4 - 1))).extract ((t221.size : Int) : Int).toNat (rdOf ByteArray.empty x0_1 (wrap64 (x9_4 - 1))).size)).size + 1 ≤ 9223372036854775807 then (if x3_1.length < 8796093022208 then (if x9_4 ≤ (x0_1.length : Int) then (host_Compress.l0 kj17 (x0_1.drop (x9_4 : Int).toNat) (x3_1 ++ [((((t221 ++ (⟨#[91]⟩ : ByteArray)) ++ ((rdOf ByteArray.empty x0_1 0).extract ((t221.size : Int) : Int).toNat (rdOf ByteArray.empty x0_1 0).size)) ++ (⟨#[45]⟩ : ByteArray)) ++ ((rdOf ByteArray.empty x0_1 (wrap64 (x9_4 - 1))).extract ((t221.size : Int) : Int).toNat (rdOf ByteArray.empty x0_1 (wrap64 (x9_4 - 1))).size)) ++ (⟨#[93]⟩ : ByteArray)])) else (none)) else (none)) else (none)) else (none)) else (none)) else (none)) else (none)) else (none)) else (none)) else (none)) else (none)) else (none)) else (none))))) else (none)) else (none)) = some r := by rw [if_pos rfl] at H; exact H
                            clear H
                            have H := H1
                            clear H1
                            by_cases c31 : 0 ≤ x9_4
                            · rw [if_pos c31] at H
                              have c31b0 : decide (0 ≤ x9_4) = true := decide_eq_true c31
                              clear c31
                              by_cases c32 : x9_4 < (x0_1.length : Int)
                              · rw [if_pos c32] at H
                                have c32b0 : decide (x9_4 < (x0_1.length : Int)) = true := decide_eq_true c32
                                clear c32
                                replace H := Option.bind_eq_some_iff.mp H
                                obtain ⟨⟨t230, t231, t232, t233⟩, A330, H⟩ := H
                                replace H : (if t230.toList = t221.toList then (host_Compress.l1 kj17 x0_1 x3_1 t221 t222 t224 (wrap64 (x9_4 + 1)) 0 0 x226002_14) else (if x9_4 = 1 then (if 0 < (x0_1.length : Int) then (if x3_1.length < 8796093022208 then (if x9_4 ≤ (x0_1.length : Int) then (host_Compress.l0 kj17 (x0_1.drop (x9_4 : Int).toNat) (x3_1 ++ [rdOf ByteArray.empty x0_1 0])) else (none)) else (none)) else (none)) else (if t221.size + 1 ≤ 9223372036854775807 then (if 0 < (x0_1.length : Int) then (if 0 ≤ (t221.size : Int) then (if (t221.size : Int) ≤ ((rdOf ByteArray.empty x0_1 0).size : Int) then (if (t221 ++ (⟨#[91]⟩ : ByteArray)).size + ((rdOf ByteArray.empty x0_1 0).extract ((t221.size : Int) : Int).toNat (rdOf ByteArray.empty x0_1 0).size).size ≤ 9223372036854775807 then (if ((t221 ++ (⟨#[91]⟩ : ByteArray)) ++ ((rdOf ByteArray.empty x0_1 0).extract ((t221.size : Int) : Int).toNat (rdOf ByteArray.empty x0_1 0).size)).size + 1 ≤ 9223372036854775807 then (if 0 ≤ (wrap64 (x9_4 - 1)) then (if (wrap64 (x9_4 - 1)) < (x0_1.length : Int) then (if (t221.size : Int) ≤ ((rdOf ByteArray.empty x0_1 (wrap64 (x9_4 - 1))).size : Int) then (if (((t221 ++ (⟨#[91]⟩ : ByteArray)) ++ ((rdOf ByteArray.empty x0_1 0).extract ((t221.size : Int) : Int).toNat (rdOf ByteArray.empty x0_1 0).size)) ++ (⟨#[45]⟩ : ByteArray)).size + ((rdOf ByteArray.empty x0_1 (wrap64 (x9_4 - 1))).extract ((t221.size : Int) : Int).toNat (rdOf ByteArray.empty x0_1 (wrap64 (x9_4 - 1))).size).size ≤ 9223372036854775807 then (if ((((t221 ++ (⟨#[91]⟩ : ByteArray)) ++ ((rdOf ByteArray.empty x0_1 0).extract ((t221.size : Int) : Int).toNat (rdOf ByteArray.empty x0_1 0).size)) ++ (⟨#[45]⟩ : ByteArray)) ++ ((rdOf ByteArray.empty x0_1 (wrap64 (x9_4 - 1))).extract ((t221.size : Int) : Int).toNat (rdOf ByteArray.empty x0_1 (wrap64 (x9_4 - 1))).size)).size + 1 ≤ 9223372036854775807 then (if x3_1.length < 8796093022208 then (if x9_4 ≤ (x0_1.length : Int) then (host_Compress.l0 kj17 (x0_1.drop (x9_4 : Int).toNat) (x3_1 ++ [((((t221 ++ (⟨#[91]⟩ : ByteArray)) ++ ((rdOf ByteArray.empty x0_1 0).extract ((t221.size : Int) : Int).toNat (rdOf ByteArray.empty x0_1 0).size)) ++ (⟨#[45]⟩ : ByteArray)) ++ ((rdOf ByteArray.empty x0_1 (wrap64 (x9_4 - 1))).extract ((t221.size : Int) : Int).toNat (rdOf ByteArray.empty x0_1 (wrap64 (x9_4 - 1))).size)) ++ (⟨#[93]⟩ : ByteArray)])) else (none)) else (none)) else (none)) else (none)) else (none)) else (none)) else (none)) else (none)) else (none)) else (none)) else (none)) else (none)) else (none)))) = some r := H
                                have A33 := Aside0.mk A330
                                clear A330
                                by_cases c34 : t230.toList = t221.toList
                                · rw [if_pos c34] at H
                                  have c34b0 : (t230.toList == t221.toList) = true := beq_iff_eq.mpr c34
                                  have c34b1 : (t230.toList != t221.toList) = false := bne_eq_false_iff_eq.mpr c34
                                  clear c34
                                  have H' := Aside0.mk H
                                  clear H
                                  have p229 : 0 ≤ (x9_4 : Int) := of_decide_eq_true (by first | (with_reducible assumption) | assumption)
                                  have q229 : x9_4 < (x0_1.length : Int) := of_decide_eq_true (by first | (with_reducible assumption) | assumption)
                                  obtain ⟨ad229, e229, hx229_0⟩ := Kd.at_string (Kd.V_reads' HO_0.out).2.2 x9_4 p229 q229
                                  obtain rfl : ad220 = ad229 := (by injection e229)
                                  replace p229 := eq_true p229
                                  replace q229 := eq_true q229
                                  go_wp2_with (first | ((with_reducible refine gate_callee (f := 15) rfl ?_); refine goesL_ (some 75) rfl rfl Tryd.func15 (by kernel_rfl) rfl #[.string (rdOf ByteArray.empty x0_1 x9_4)] rfl (by (try simp only [List.map_toArray, List.map_cons, List.map_nil]); first | done | rfl | (simp only [List.length_drop, List.length_take]; rfl)) ?_; (with_reducible refine (host_Number.calls kj17 (rdOf ByteArray.empty x0_1 x9_4) t230 t231 t232 t233 _ A33.out (HG_.out.below (by repeat (first | (with_reducible first | exact HB.out | apply below_alloc | apply pw_below_drewN | apply below_drew1 | refine below_set ?_ GE225.out) | exact HB.out)))).mono ?_); rintro e w35 ⟨rfl, hb⟩; refine ⟨_, rfl, ?_⟩; have n0_ := Aside0.mk (Kd.V_below (by (with_reducible repeat (first | apply Kd.V_alloc | apply Kd.V_drewN | apply Kd.V_drew)); exact HO_0.out) hb); have n1_ := Aside0.mk (Kd.R_below (by (with_reducible repeat (first | apply Kd.R_alloc | apply Kd.R_drewN | apply Kd.R_drew)); exact HO_3.out) hb); have n2_ := Aside0.mk (blk_below (g := gb225) (o := .cells #[.int .i64 0, .int .i64 0, .int .i64 x226002_14] 54 (0, 0)) (by (with_reducible repeat (first | refine blk_drewN ?_ _ | refine blk_drew ?_ | refine blk_alloc ?_ _)); exact BK225.out) hb); have n3_ := Aside0.mk (below_step (by repeat (first | (with_reducible first | exact HB.out | apply below_alloc | apply pw_below_drewN | apply below_drew1 | refine below_set ?_ GE225.out) | exact HB.out)) hb); clear HO_0; clear HO_3; clear BK225; clear HB; have HO_0 := n0_; have HO_3 := n1_; have BK225 := n2_; have HB := n3_; clear n0_ n1_ n2_ n3_; (try clear hb); (try clear hb2); (try clear hk); (try clear hi)))
                                  go_roundg kj17
                                  case measure => have := HK1.out; have := HJ4.out; have := HJ14.out; have := HK4.out; have := HJ17.out; omega
                                  case rel => exact ⟨(wrap64 (x9_4 + 1)), (by first | rfl | (simp; done) | (simp [*]; done)), H', ⟨by have := HK1.out; have := HJ4.out; have := HJ14.out; have := HK4.out; have := HJ17.out; omega⟩, ⟨by (with_reducible repeat (first | apply Kd.V_alloc | apply Kd.V_drewN | apply Kd.V_drew)); exact HO_0.out⟩, ⟨by (with_reducible repeat (first | apply Kd.R_alloc | apply Kd.R_drewN | apply Kd.R_drew)); exact HO_3.out⟩, ⟨by (with_reducible repeat (first | refine blk_drewN ?_ _ | refine blk_drew ?_ | refine blk_alloc ?_ _)); exact BK225.out⟩, ⟨by repeat (first | (with_reducible first | exact HB.out | apply below_alloc | apply pw_below_drewN | apply below_drew1 | refine below_set ?_ GE225.out) | exact HB.out)⟩⟩
                                · rw [if_neg c34] at H
                                  have c34b0 : (t230.toList == t221.toList) = false := beq_eq_false_iff_ne.mpr c34
                                  have c34b1 : (t230.toList != t221.toList) = true := bne_iff_ne.mpr c34
                                  by_cases c36 : x9_4 = 1
                                  · rw [if_pos c36] at H
                                    have c36b0 : (x9_4 == 1) = true := beq_iff_eq.mpr c36
                                    have c36b1 : (x9_4 != 1) = false := bne_eq_false_iff_eq.mpr c36
                                    clear c36
                                    by_cases c37 : 0 < (x0_1.length : Int)
                                    · rw [if_pos c37] at H
                                      have c37b0 : decide (0 < (x0_1.length : Int)) = true := decide_eq_true c37
                                      have c37b1 : decide (0 < x0_1.length) = true := decide_eq_true (by omega)
                                      clear c37
                                      by_cases c38 : x3_1.length < 8796093022208
                                      · rw [if_pos c38] at H
                                        have LMc38 := Aside0.mk c38
                                        clear c38
                                        obtain ⟨y235, hy235⟩ : ∃ y_ : List ByteArray, y_ = (x3_1 ++ [rdOf ByteArray.empty x0_1 0]) := ⟨_, rfl⟩
                                        replace H : (if x9_4 ≤ (x0_1.length : Int) then (host_Compress.l0 kj17 (x0_1.drop (x9_4 : Int).toNat) y235) else (none)) = some r := by first | (rw [hy235]; with_reducible exact H) | (have H2_ := (Option.bind_some _ _).symm.trans H; rw [hy235]; with_reducible exact H2_) | (have H2_ := (Option.bind_some _ _).symm.trans H; with_reducible exact H2_) | with_reducible exact H | (rw [hy235]; exact H) | exact H
                                        have Ny235 := Aside0.mk hy235
                                        clear hy235
                                        have c39b0 := eq_true (of_decide_eq_true (by first | (with_reducible assumption) | assumption) : 0 ≤ x9_4)
                                        by_cases c40 : x9_4 ≤ (x0_1.length : Int)
                                        · rw [if_pos c40] at H
                                          have c40b0 := eq_true c40
                                          have c40b1 : decide (x9_4 ≤ (x0_1.length : Int)) = true := decide_eq_true c40
                                          clear c40
                                          obtain ⟨y238, hy238⟩ : ∃ y_ : List ByteArray, y_ = (x0_1.drop (x9_4 : Int).toNat) := ⟨_, rfl⟩
                                          replace H : (host_Compress.l0 kj17 y238 y235) = some r := by first | (rw [hy238]; with_reducible exact H) | (have H2_ := (Option.bind_some _ _).symm.trans H; rw [hy238]; with_reducible exact H2_) | (have H2_ := (Option.bind_some _ _).symm.trans H; with_reducible exact H2_) | with_reducible exact H | (rw [hy238]; exact H) | exact H
                                          have Ny238 := Aside0.mk hy238
                                          clear hy238
                                          have H' := Aside0.mk H
                                          clear H
                                          have p229 : 0 ≤ (x9_4 : Int) := of_decide_eq_true (by first | (with_reducible assumption) | assumption)
                                          have q229 : x9_4 < (x0_1.length : Int) := of_decide_eq_true (by first | (with_reducible assumption) | assumption)
                                          obtain ⟨ad229, e229, hx229_0⟩ := Kd.at_string (Kd.V_reads' HO_0.out).2.2 x9_4 p229 q229
                                          obtain rfl : ad220 = ad229 := (by injection e229)
                                          replace p229 := eq_true p229
                                          replace q229 := eq_true q229
                                          go_wp2_with (first | ((with_reducible refine gate_callee (f := 15) rfl ?_); refine goesL_ (some 75) rfl rfl Tryd.func15 (by kernel_rfl) rfl #[.string (rdOf ByteArray.empty x0_1 x9_4)] rfl (by (try simp only [List.map_toArray, List.map_cons, List.map_nil]); first | done | rfl | (simp only [List.length_drop, List.length_take]; rfl)) ?_; (with_reducible refine (host_Number.calls kj17 (rdOf ByteArray.empty x0_1 x9_4) t230 t231 t232 t233 _ A33.out (HG_.out.below (by repeat (first | (with_reducible first | exact HB.out | apply below_alloc | apply pw_below_drewN | apply below_drew1 | refine below_set ?_ GE225.out) | exact HB.out)))).mono ?_); rintro e w41 ⟨rfl, hb⟩; refine ⟨_, rfl, ?_⟩; have n0_ := Aside0.mk (Kd.V_below (by (with_reducible repeat (first | apply Kd.V_alloc | apply Kd.V_drewN | apply Kd.V_drew)); exact HO_0.out) hb); have n1_ := Aside0.mk (Kd.R_below (by (with_reducible repeat (first | apply Kd.R_alloc | apply Kd.R_drewN | apply Kd.R_drew)); exact HO_3.out) hb); have n2_ := Aside0.mk (blk_below (g := gb225) (o := .cells #[.int .i64 0, .int .i64 0, .int .i64 x226002_14] 54 (0, 0)) (by (with_reducible repeat (first | refine blk_drewN ?_ _ | refine blk_drew ?_ | refine blk_alloc ?_ _)); exact BK225.out) hb); have n3_ := Aside0.mk (below_step (by repeat (first | (with_reducible first | exact HB.out | apply below_alloc | apply pw_below_drewN | apply below_drew1 | refine below_set ?_ GE225.out) | exact HB.out)) hb); clear HO_0; clear HO_3; clear BK225; clear HB; have HO_0 := n0_; have HO_3 := n1_; have BK225 := n2_; have HB := n3_; clear n0_ n1_ n2_ n3_; (try clear hb); (try clear hb2); (try clear hk); (try clear hi); have p234 : 0 ≤ (0 : Int) := (by omega); have q234 : 0 < (x0_1.length : Int) := of_decide_eq_true (by first | (with_reducible assumption) | assumption); obtain ⟨ad234, e234, hx234_0⟩ := Kd.at_string (Kd.V_reads' HO_0.out).2.2 0 p234 q234; obtain rfl : ad220 = ad234 := (by injection e234); have qi234 : (0 < x0_1.length) = True := eq_true (by omega); (try rw [show ((0 : Int)).toNat = 0 from rfl] at hx234_0); (try rw [Addr.add_zero'] at hx234_0); replace p234 := eq_true p234; replace q234 := eq_true q234) | ((with_reducible refine gate_builtin (b := .append) (xs := #[.tmp 87, .tmp 91]) rfl ?_); (try (refine gate_guard (by rfl) ?_; dsimp only)); at_builtin; refine Kd.R_append Kd.string (w0 := w) w.heap.size rfl (.tmp 87) (.tmp 91) 22 9 (.string ⟨#[]⟩) 16 rfl Tryd.underlying22 info9 rfl (by decide) (by omega) u3 x3_1 (rdOf ByteArray.empty x0_1 0) [.string (rdOf ByteArray.empty x0_1 0)] (fun k_ => (w.heap.size ≤ k_)) (fun _ => False) rfl rfl ?aP (fun _ hk => hk.elim) ?aF ?aO ?aB ?aS ?aL ?_; (case aP => exact rfl); (case aB => exact (by repeat (first | (with_reducible first | exact HB.out | apply below_alloc | apply pw_below_drewN | apply below_drew1 | refine below_set ?_ GE225.out) | exact HB.out))); (case aF => exact (fun k_ hk => (Nat.le_trans (below_size (by repeat (first | (with_reducible first | exact HB.out | apply below_alloc | apply pw_below_drewN | apply below_drew1 | refine below_set ?_ GE225.out) | exact HB.out))) hk))); (case aO => exact (by (with_reducible repeat (first | apply Kd.R_alloc | apply Kd.R_drewN | apply Kd.R_drew)); exact HO_3.out)); (case aS => exact (below_size (by repeat (first | (with_reducible first | exact HB.out | apply below_alloc | apply pw_below_drewN | apply below_drew1 | refine below_set ?_ GE225.out) | exact HB.out)))); (case aL => have := LMc38.out; omega); intro v236 w42 ho hb hg hat; rw [← Ny235.out] at ho; have n0_ := Aside0.mk (Kd.V_afterv (ok := (fun k_ => (P0_ k_ ∨ w.heap.size ≤ k_) ∧ k_ ≠ gb225)) (by (with_reducible repeat (first | apply Kd.V_alloc | apply Kd.V_drewN | apply Kd.V_drew)); exact Kd.V_mono HO_0.out (fun _ hk => ⟨⟨hk.1, hk.2.2⟩, hk.2.1⟩)) hg hat); have n1_ := Aside0.mk (blk_grown (g := gb225) (o := .cells #[.int .i64 0, .int .i64 0, .int .i64 x226002_14] 54 (0, 0)) (by (with_reducible repeat (first | refine blk_drewN ?_ _ | refine blk_drew ?_ | refine blk_alloc ?_ _)); exact BK225.out) hg (Kd.R_ne HO_3.out BK225.out (by decide))); have n2_ := Aside0.mk (hb); have n3_ := Aside0.mk (ho); clear HO_0; clear BK225; clear HB; clear HO_3; have HO_0 := n0_; have BK225 := n1_; have HB := n2_; have HO237 := n3_; clear n0_ n1_ n2_ n3_; clear ho hb hg hat; have q43 : (x9_4 : Int) ≤ ((x0_1.length : Int) : Int) := of_decide_eq_true (by first | (with_reducible assumption) | assumption); obtain ⟨i043, hi043, _, hsz43, _⟩ := info_parts info9; have hroom43 : x0_1.length ≤ co6 := (Kd.V_reads' HO_0.out).2.1; have hC43 : Kd.F Kd.string _ _ (some ad220) x0_1.length x0_1 := (Kd.V_at (base := w.heap.size) HO_0.out).2.2; have q043 : (0 : Int) ≤ (x9_4 : Int) := of_decide_eq_true (by first | (with_reducible assumption) | assumption); have hcut43 := cut_from (P := Tryd.prog) 22 9 .i64 Tryd.underlying22 hi043 1 hsz43 (some ad220) x0_1.length co6 x9_4 q043 q43; have hr43 := Kd.F_cut (m := (x9_4 : Int).toNat) (c := co6) hC43 (by omega) hroom43; obtain ⟨A43, hA43⟩ : ∃ A1, A1 = (if co6 = (x9_4 : Int).toNat then (some ad220) else ((some ad220) : Option Addr).map (·.add ((x9_4 : Int).toNat * 1))) := ⟨_, rfl⟩; obtain ⟨c43, hc43⟩ : ∃ c1, c1 = co6 - (x9_4 : Int).toNat := ⟨_, rfl⟩; have hy43 : y238.length = x0_1.length - (x9_4 : Int).toNat := (by rw [Ny238.out, List.length_drop] <;> omega); rw [show (x0_1).drop (x9_4 : Int).toNat = y238 from Ny238.out.symm] at hr43; replace hr43 : Kd.F Kd.string _ _ A43 y238.length y238 := (by rw [hA43]; exact hr43); rw [← hy43, ← hA43, ← hc43] at hcut43; have HO242 := Aside0.mk (show Kd.V Kd.string 9 _ w.heap.size _ (.slice A43 y238.length c43) y238 from Kd.V_mk (by rw [hy43, hc43]; exact Nat.sub_le_sub_right hroom43 _) hr43); have HC242 := Aside0.mk (show y238.length ≤ c43 from by rw [hy43, hc43]; exact Nat.sub_le_sub_right hroom43 _); clear hr43 hC43 hroom43 hi043 hsz43 hc43; have KY43 := Aside0.mk hy43; have KA43 := Aside0.mk hA43; clear hy43 hA43; replace q43 := eq_true q43))
                                          go_roundg kj17
                                          case measure => have := HK1.out; have := HJ4.out; have := HJ14.out; have := HK4.out; have := HJ17.out; omega
                                          case rel => exact ⟨(y238), (y235), H', ⟨by have := HK1.out; have := HJ4.out; have := HJ14.out; have := HK4.out; have := HJ17.out; omega⟩, ⟨by (with_reducible repeat (first | apply Kd.V_alloc | apply Kd.V_drewN | apply Kd.V_drew)); exact Kd.V_mono HO242.out (fun _ hk => ⟨hk.1.1, hk.2⟩)⟩, ⟨by (with_reducible repeat (first | apply Kd.R_alloc | apply Kd.R_drewN | apply Kd.R_drew)); exact HO237.out⟩, ⟨by repeat (first | (with_reducible first | exact HB.out | apply below_alloc | apply pw_below_drewN | apply below_drew1 | refine below_set ?_ GE225.out) | exact HB.out)⟩⟩
                                        · rw [if_neg c40] at H
                                          exact absurd H (by simp)
                                      · rw [if_neg c38] at H
                                        exact absurd H (by simp)
                                    · rw [if_neg c37] at H
                                      exact absurd H (by simp)
                                  · rw [if_neg c36] at H
                                    have c36b0 : (x9_4 == 1) = false := beq_eq_false_iff_ne.mpr c36
                                    have c36b1 : (x9_4 != 1) = true := bne_iff_ne.mpr c36
                                    by_cases c44 : t221.size + 1 ≤ 9223372036854775807
                                    · rw [if_pos c44] at H
                                      have c44b0 := eq_true c44
                                      have c44b1 : decide (t221.size + 1 ≤ 9223372036854775807) = true := decide_eq_true c44
                                      try have c44b2 : (9223372036854775807 < t221.size + 1) = False := eq_false (Nat.not_lt.2 c44)
                                      by_cases c45 : 0 < (x0_1.length : Int)
                                      · rw [if_pos c45] at H
                                        have c45b0 : decide (0 < (x0_1.length : Int)) = true := decide_eq_true c45
                                        have c45b1 : decide (0 < x0_1.length) = true := decide_eq_true (by omega)
                                        clear c45
                                        by_cases c46 : 0 ≤ (t221.size : Int)
                                        · rw [if_pos c46] at H
                                          have c46b0 := eq_true c46
                                          have c46b1 : decide (0 ≤ (t221.size : Int)) = true := decide_eq_true c46
                                          clear c46
                                          by_cases c47 : (t221.size : Int) ≤ ((rdOf ByteArray.empty x0_1 0).size : Int)
                                          · rw [if_pos c47] at H
                                            have c47b0 := eq_true c47
                                            have c47b1 : decide ((t221.size : Int) ≤ ((rdOf ByteArray.empty x0_1 0).size : Int)) = true := decide_eq_true c47
                                            clear c47
                                            by_cases c48 : (t221 ++ (⟨#[91]⟩ : ByteArray)).size + ((rdOf ByteArray.empty x0_1 0).extract ((t221.size : Int) : Int).toNat (rdOf ByteArray.empty x0_1 0).size).size ≤ 9223372036854775807
                                            · rw [if_pos c48] at H
                                              have c48b0 := eq_true c48
                                              have c48b1 : decide ((t221 ++ (⟨#[91]⟩ : ByteArray)).size + ((rdOf ByteArray.empty x0_1 0).extract ((t221.size : Int) : Int).toNat (rdOf ByteArray.empty x0_1 0).size).size ≤ 9223372036854775807) = true := decide_eq_true c48
                                              try have c48b3 : (9223372036854775807 < t221.size + 1 + ((rdOf ByteArray.empty x0_1 0).extract ((t221.size : Int) : Int).toNat (rdOf ByteArray.empty x0_1 0).size).size) = False := eq_false (by have z := c48; rw [show (t221 ++ (⟨#[91]⟩ : ByteArray)).size + ((rdOf ByteArray.empty x0_1 0).extract ((t221.size : Int) : Int).toNat (rdOf ByteArray.empty x0_1 0).size).size = t221.size + 1 + ((rdOf ByteArray.empty x0_1 0).extract ((t221.size : Int) : Int).toNat (rdOf ByteArray.empty x0_1 0).size).size from by rw [ByteArray.size_append]; rfl] at z; omega)
                                              try (have c48b4 := c48b3; simp only [Int.toNat_natCast, ByteArray.size_extract, Nat.min_self] at c48b4)
                                              try have c48b2 : (9223372036854775807 < (t221 ++ (⟨#[91]⟩ : ByteArray)).size + ((rdOf ByteArray.empty x0_1 0).extract ((t221.size : Int) : Int).toNat (rdOf ByteArray.empty x0_1 0).size).size) = False := eq_false (Nat.not_lt.2 c48)
                                              by_cases c49 : ((t221 ++ (⟨#[91]⟩ : ByteArray)) ++ ((rdOf ByteArray.empty x0_1 0).extract ((t221.size : Int) : Int).toNat (rdOf ByteArray.empty x0_1 0).size)).size + 1 ≤ 9223372036854775807
                                              · rw [if_pos c49] at H
                                                have c49b0 := eq_true c49
                                                have c49b1 : decide (((t221 ++ (⟨#[91]⟩ : ByteArray)) ++ ((rdOf ByteArray.empty x0_1 0).extract ((t221.size : Int) : Int).toNat (rdOf ByteArray.empty x0_1 0).size)).size + 1 ≤ 9223372036854775807) = true := decide_eq_true c49
                                                try have c49b3 : (9223372036854775807 < t221.size + 1 + ((rdOf ByteArray.empty x0_1 0).extract ((t221.size : Int) : Int).toNat (rdOf ByteArray.empty x0_1 0).size).size + 1) = False := eq_false (by have z := c49; rw [show ((t221 ++ (⟨#[91]⟩ : ByteArray)) ++ ((rdOf ByteArray.empty x0_1 0).extract ((t221.size : Int) : Int).toNat (rdOf ByteArray.empty x0_1 0).size)).size + 1 = t221.size + 1 + ((rdOf ByteArray.empty x0_1 0).extract ((t221.size : Int) : Int).toNat (rdOf ByteArray.empty x0_1 0).size).size + 1 from by rw [ByteArray.size_append]; rw [ByteArray.size_append]; rfl] at z; omega)
                                                try (have c49b4 := c49b3; simp only [Int.toNat_natCast, ByteArray.size_extract, Nat.min_self] at c49b4)
                                                try have c49b2 : (9223372036854775807 < ((t221 ++ (⟨#[91]⟩ : ByteArray)) ++ ((rdOf ByteArray.empty x0_1 0).extract ((t221.size : Int) : Int).toNat (rdOf ByteArray.empty x0_1 0).size)).size + 1) = False := eq_false (Nat.not_lt.2 c49)
                                                obtain ⟨ji50, hji50⟩ : ∃ j_ : Int, (wrap64 (x9_4 - 1)) = j_ := ⟨_, rfl⟩
                                                replace H : (if 0 ≤ (ji50) then (if (ji50) < (x0_1.length : Int) then (if (t221.size : Int) ≤ ((rdOf ByteArray.empty x0_1 (ji50)).size : Int) then (if (((t221 ++ (⟨#[91]⟩ : ByteArray)) ++ ((rdOf ByteArray.empty x0_1 0).extract ((t221.size : Int) : Int).toNat (rdOf ByteArray.empty x0_1 0).size)) ++ (⟨#[45]⟩ : ByteArray)).size + ((rdOf ByteArray.empty x0_1 (ji50)).extract ((t221.size : Int) : Int).toNat (rdOf ByteArray.empty x0_1 (ji50)).size).size ≤ 9223372036854775807 then (if ((((t221 ++ (⟨#[91]⟩ : ByteArray)) ++ ((rdOf ByteArray.empty x0_1 0).extract ((t221.size : Int) : Int).toNat (rdOf ByteArray.empty x0_1 0).size)) ++ (⟨#[45]⟩ : ByteArray)) ++ ((rdOf ByteArray.empty x0_1 (ji50)).extract ((t221.size : Int) : Int).toNat (rdOf ByteArray.empty x0_1 (ji50)).size)).size + 1 ≤ 9223372036854775807 then (if x3_1.length < 8796093022208 then (if x9_4 ≤ (x0_1.length : Int) then (host_Compress.l0 kj17 (x0_1.drop (x9_4 : Int).toNat) (x3_1 ++ [((((t221 ++ (⟨#[91]⟩ : ByteArray)) ++ ((rdOf ByteArray.empty x0_1 0).extract ((t221.size : Int) : Int).toNat (rdOf ByteArray.empty x0_1 0).size)) ++ (⟨#[45]⟩ : ByteArray)) ++ ((rdOf ByteArray.empty x0_1 (ji50)).extract ((t221.size : Int) : Int).toNat (rdOf ByteArray.empty x0_1 (ji50)).size)) ++ (⟨#[93]⟩ : ByteArray)])) else (none)) else (none)) else (none)) else (none)) else (none)) else (none)) else (none)) = some r := by first | (rw [hji50] at H; exact H) | (simp only [hji50] at H ⊢; exact H)
                                                (try rw [hji50] at A33)
                                                have hji50w : (IntKind.i64.wrap (x9_4 - 1)) = ji50 := (i64_w _).trans hji50
                                                by_cases c51 : 0 ≤ (ji50)
                                                · rw [if_pos c51] at H
                                                  have c51b0 : decide (0 ≤ (ji50)) = true := decide_eq_true c51
                                                  clear c51
                                                  by_cases c52 : (ji50) < (x0_1.length : Int)
                                                  · rw [if_pos c52] at H
                                                    have c52b0 : decide ((ji50) < (x0_1.length : Int)) = true := decide_eq_true c52
                                                    clear c52
                                                    have c53b0 := eq_true (of_decide_eq_true (by first | (with_reducible assumption) | assumption) : 0 ≤ (t221.size : Int))
                                                    by_cases c54 : (t221.size : Int) ≤ ((rdOf ByteArray.empty x0_1 (ji50)).size : Int)
                                                    · rw [if_pos c54] at H
                                                      have c54b0 := eq_true c54
                                                      have c54b1 : decide ((t221.size : Int) ≤ ((rdOf ByteArray.empty x0_1 (ji50)).size : Int)) = true := decide_eq_true c54
                                                      clear c54
                                                      by_cases c55 : (((t221 ++ (⟨#[91]⟩ : ByteArray)) ++ ((rdOf ByteArray.empty x0_1 0).extract ((t221.size : Int) : Int).toNat (rdOf ByteArray.empty x0_1 0).size)) ++ (⟨#[45]⟩ : ByteArray)).size + ((rdOf ByteArray.empty x0_1 (ji50)).extract ((t221.size : Int) : Int).toNat (rdOf ByteArray.empty x0_1 (ji50)).size).size ≤ 9223372036854775807
                                                      · rw [if_pos c55] at H
                                                        have c55b0 := eq_true c55
                                                        have c55b1 : decide ((((t221 ++ (⟨#[91]⟩ : ByteArray)) ++ ((rdOf ByteArray.empty x0_1 0).extract ((t221.size : Int) : Int).toNat (rdOf ByteArray.empty x0_1 0).size)) ++ (⟨#[45]⟩ : ByteArray)).size + ((rdOf ByteArray.empty x0_1 (ji50)).extract ((t221.size : Int) : Int).toNat (rdOf ByteArray.empty x0_1 (ji50)).size).size ≤ 9223372036854775807) = true := decide_eq_true c55
                                                        try have c55b3 : (9223372036854775807 < t221.size + 1 + ((rdOf ByteArray.empty x0_1 0).extract ((t221.size : Int) : Int).toNat (rdOf ByteArray.empty x0_1 0).size).size + 1 + ((rdOf ByteArray.empty x0_1 (ji50)).extract ((t221.size : Int) : Int).toNat (rdOf ByteArray.empty x0_1 (ji50)).size).size) = False := eq_false (by have z := c55; rw [show (((t221 ++ (⟨#[91]⟩ : ByteArray)) ++ ((rdOf ByteArray.empty x0_1 0).extract ((t221.size : Int) : Int).toNat (rdOf ByteArray.empty x0_1 0).size)) ++ (⟨#[45]⟩ : ByteArray)).size + ((rdOf ByteArray.empty x0_1 (ji50)).extract ((t221.size : Int) : Int).toNat (rdOf ByteArray.empty x0_1 (ji50)).size).size = t221.size + 1 + ((rdOf ByteArray.empty x0_1 0).extract ((t221.size : Int) : Int).toNat (rdOf ByteArray.empty x0_1 0).size).size + 1 + ((rdOf ByteArray.empty x0_1 (ji50)).extract ((t221.size : Int) : Int).toNat (rdOf ByteArray.empty x0_1 (ji50)).size).size from by rw [ByteArray.size_append]; rw [ByteArray.size_append]; rw [ByteArray.size_append]; rfl] at z; omega)
                                                        try (have c55b4 := c55b3; simp only [Int.toNat_natCast, ByteArray.size_extract, Nat.min_self] at c55b4)
                                                        try have c55b2 : (9223372036854775807 < (((t221 ++ (⟨#[91]⟩ : ByteArray)) ++ ((rdOf ByteArray.empty x0_1 0).extract ((t221.size : Int) : Int).toNat (rdOf ByteArray.empty x0_1 0).size)) ++ (⟨#[45]⟩ : ByteArray)).size + ((rdOf ByteArray.empty x0_1 (ji50)).extract ((t221.size : Int) : Int).toNat (rdOf ByteArray.empty x0_1 (ji50)).size).size) = False := eq_false (Nat.not_lt.2 c55)
                                                        by_cases c56 : ((((t221 ++ (⟨#[91]⟩ : ByteArray)) ++ ((rdOf ByteArray.empty x0_1 0).extract ((t221.size : Int) : Int).toNat (rdOf ByteArray.empty x0_1 0).size)) ++ (⟨#[45]⟩ : ByteArray)) ++ ((rdOf ByteArray.empty x0_1 (ji50)).extract ((t221.size : Int) : Int).toNat (rdOf ByteArray.empty x0_1 (ji50)).size)).size + 1 ≤ 9223372036854775807
                                                        · rw [if_pos c56] at H
                                                          have c56b0 := eq_true c56
                                                          have c56b1 : decide (((((t221 ++ (⟨#[91]⟩ : ByteArray)) ++ ((rdOf ByteArray.empty x0_1 0).extract ((t221.size : Int) : Int).toNat (rdOf ByteArray.empty x0_1 0).size)) ++ (⟨#[45]⟩ : ByteArray)) ++ ((rdOf ByteArray.empty x0_1 (ji50)).extract ((t221.size : Int) : Int).toNat (rdOf ByteArray.empty x0_1 (ji50)).size)).size + 1 ≤ 9223372036854775807) = true := decide_eq_true c56
                                                          try have c56b3 : (9223372036854775807 < t221.size + 1 + ((rdOf ByteArray.empty x0_1 0).extract ((t221.size : Int) : Int).toNat (rdOf ByteArray.empty x0_1 0).size).size + 1 + ((rdOf ByteArray.empty x0_1 (ji50)).extract ((t221.size : Int) : Int).toNat (rdOf ByteArray.empty x0_1 (ji50)).size).size + 1) = False := eq_false (by have z := c56; rw [show ((((t221 ++ (⟨#[91]⟩ : ByteArray)) ++ ((rdOf ByteArray.empty x0_1 0).extract ((t221.size : Int) : Int).toNat (rdOf ByteArray.empty x0_1 0).size)) ++ (⟨#[45]⟩ : ByteArray)) ++ ((rdOf ByteArray.empty x0_1 (ji50)).extract ((t221.size : Int) : Int).toNat (rdOf ByteArray.empty x0_1 (ji50)).size)).size + 1 = t221.size + 1 + ((rdOf ByteArray.empty x0_1 0).extract ((t221.size : Int) : Int).toNat (rdOf ByteArray.empty x0_1 0).size).size + 1 + ((rdOf ByteArray.empty x0_1 (ji50)).extract ((t221.size : Int) : Int).toNat (rdOf ByteArray.empty x0_1 (ji50)).size).size + 1 from by rw [ByteArray.size_append]; rw [ByteArray.size_append]; rw [ByteArray.size_append]; rw [ByteArray.size_append]; rfl] at z; omega)
                                                          try (have c56b4 := c56b3; simp only [Int.toNat_natCast, ByteArray.size_extract, Nat.min_self] at c56b4)
                                                          try have c56b2 : (9223372036854775807 < ((((t221 ++ (⟨#[91]⟩ : ByteArray)) ++ ((rdOf ByteArray.empty x0_1 0).extract ((t221.size : Int) : Int).toNat (rdOf ByteArray.empty x0_1 0).size)) ++ (⟨#[45]⟩ : ByteArray)) ++ ((rdOf ByteArray.empty x0_1 (ji50)).extract ((t221.size : Int) : Int).toNat (rdOf ByteArray.empty x0_1 (ji50)).size)).size + 1) = False := eq_false (Nat.not_lt.2 c56)
                                                          by_cases c57 : x3_1.length < 8796093022208
                                                          · rw [if_pos c57] at H
                                                            have LMc57 := Aside0.mk c57
                                                            clear c57
                                                            obtain ⟨y245, hy245⟩ : ∃ y_ : List ByteArray, y_ = (x3_1 ++ [((((t221 ++ (⟨#[91]⟩ : ByteArray)) ++ ((rdOf ByteArray.empty x0_1 0).extract ((t221.size : Int) : Int).toNat (rdOf ByteArray.empty x0_1 0).size)) ++ (⟨#[45]⟩ : ByteArray)) ++ ((rdOf ByteArray.empty x0_1 (ji50)).extract ((t221.size : Int) : Int).toNat (rdOf ByteArray.empty x0_1 (ji50)).size)) ++ (⟨#[93]⟩ : ByteArray)]) := ⟨_, rfl⟩
                                                            replace H : (if x9_4 ≤ (x0_1.length : Int) then (host_Compress.l0 kj17 (x0_1.drop (x9_4 : Int).toNat) y245) else (none)) = some r := by first | (rw [hy245]; with_reducible exact H) | (have H2_ := (Option.bind_some _ _).symm.trans H; rw [hy245]; with_reducible exact H2_) | (have H2_ := (Option.bind_some _ _).symm.trans H; with_reducible exact H2_) | with_reducible exact H | (rw [hy245]; exact H) | exact H
                                                            have Ny245 := Aside0.mk hy245
                                                            clear hy245
                                                            have c58b0 := eq_true (of_decide_eq_true (by first | (with_reducible assumption) | assumption) : 0 ≤ x9_4)
                                                            by_cases c59 : x9_4 ≤ (x0_1.length : Int)
                                                            · rw [if_pos c59] at H
                                                              have c59b0 := eq_true c59
                                                              have c59b1 : decide (x9_4 ≤ (x0_1.length : Int)) = true := decide_eq_true c59
                                                              clear c59
                                                              obtain ⟨y248, hy248⟩ : ∃ y_ : List ByteArray, y_ = (x0_1.drop (x9_4 : Int).toNat) := ⟨_, rfl⟩
                                                              replace H : (host_Compress.l0 kj17 y248 y245) = some r := by first | (rw [hy248]; with_reducible exact H) | (have H2_ := (Option.bind_some _ _).symm.trans H; rw [hy248]; with_reducible exact H2_) | (have H2_ := (Option.bind_some _ _).symm.trans H; with_reducible exact H2_) | with_reducible exact H | (rw [hy248]; exact H) | exact H
                                                              have Ny248 := Aside0.mk hy248
                                                              clear hy248
                                                              have H' := Aside0.mk H
                                                              clear H
                                                              have p229 : 0 ≤ (x9_4 : Int) := of_decide_eq_true (by first | (with_reducible assumption) | assumption)
                                                              have q229 : x9_4 < (x0_1.length : Int) := of_decide_eq_true (by first | (with_reducible assumption) | assumption)
                                                              obtain ⟨ad229, e229, hx229_0⟩ := Kd.at_string (Kd.V_reads' HO_0.out).2.2 x9_4 p229 q229
                                                              obtain rfl : ad220 = ad229 := (by injection e229)
                                                              replace p229 := eq_true p229
                                                              replace q229 := eq_true q229
                                                              try go_wp2_with (first | ((with_reducible refine gate_callee (f := 15) rfl ?_); refine goesL_ (some 75) rfl rfl Tryd.func15 (by kernel_rfl) rfl #[.string (rdOf ByteArray.empty x0_1 x9_4)] rfl (by (try simp only [List.map_toArray, List.map_cons, List.map_nil]); first | done | rfl | (simp only [List.length_drop, List.length_take]; rfl)) ?_; (with_reducible refine (host_Number.calls kj17 (rdOf ByteArray.empty x0_1 x9_4) t230 t231 t232 t233 _ A33.out (HG_.out.below (by repeat (first | (with_reducible first | exact HB.out | apply below_alloc | apply pw_below_drewN | apply below_drew1 | refine below_set ?_ GE225.out) | exact HB.out)))).mono ?_); rintro e w60 ⟨rfl, hb⟩; refine ⟨_, rfl, ?_⟩; have n0_ := Aside0.mk (Kd.V_below (by (with_reducible repeat (first | apply Kd.V_alloc | apply Kd.V_drewN | apply Kd.V_drew)); exact HO_0.out) hb); have n1_ := Aside0.mk (Kd.R_below (by (with_reducible repeat (first | apply Kd.R_alloc | apply Kd.R_drewN | apply Kd.R_drew)); exact HO_3.out) hb); have n2_ := Aside0.mk (blk_below (g := gb225) (o := .cells #[.int .i64 0, .int .i64 0, .int .i64 x226002_14] 54 (0, 0)) (by (with_reducible repeat (first | refine blk_drewN ?_ _ | refine blk_drew ?_ | refine blk_alloc ?_ _)); exact BK225.out) hb); have n3_ := Aside0.mk (below_step (by repeat (first | (with_reducible first | exact HB.out | apply below_alloc | apply pw_below_drewN | apply below_drew1 | refine below_set ?_ GE225.out) | exact HB.out)) hb); clear HO_0; clear HO_3; clear BK225; clear HB; have HO_0 := n0_; have HO_3 := n1_; have BK225 := n2_; have HB := n3_; clear n0_ n1_ n2_ n3_; (try clear hb); (try clear hb2); (try clear hk); (try clear hi)))
                                                              have n0_ := Aside0.mk (Kd.V_drew HO_0.out)
                                                              have n1_ := Aside0.mk (Kd.R_drew HO_3.out)
                                                              have n2_ := Aside0.mk (blk_drew BK225.out)
                                                              have n3_ := Aside0.mk (below_drew1 HB.out)
                                                              clear HO_0
                                                              clear HO_3
                                                              clear BK225
                                                              clear HB
                                                              have HO_0 := n0_
                                                              have HO_3 := n1_
                                                              have BK225 := n2_
                                                              have HB := n3_
                                                              clear n0_ n1_ n2_ n3_
                                                              have p243 : 0 ≤ (0 : Int) := (by omega)
                                                              have q243 : 0 < (x0_1.length : Int) := of_decide_eq_true (by first | (with_reducible assumption) | assumption)
                                                              obtain ⟨ad243, e243, hx243_0⟩ := Kd.at_string (Kd.V_reads' HO_0.out).2.2 0 p243 q243
                                                              obtain rfl : ad220 = ad243 := (by injection e243)
                                                              have qi243 : (0 < x0_1.length) = True := eq_true (by omega)
                                                              (try rw [show ((0 : Int)).toNat = 0 from rfl] at hx243_0)
                                                              (try rw [Addr.add_zero'] at hx243_0)
                                                              replace p243 := eq_true p243
                                                              replace q243 := eq_true q243
                                                              have p244 : 0 ≤ ((ji50) : Int) := of_decide_eq_true (by first | (with_reducible assumption) | assumption)
                                                              have q244 : (ji50) < (x0_1.length : Int) := of_decide_eq_true (by first | (with_reducible assumption) | assumption)
                                                              obtain ⟨ad244, e244, hx244_0⟩ := Kd.at_string (Kd.V_reads' HO_0.out).2.2 (ji50) p244 q244
                                                              obtain rfl : ad220 = ad244 := (by injection e244)
                                                              replace p244 := eq_true p244
                                                              replace q244 := eq_true q244
                                                              refine start_ (n := 24) (S := fun w' => w'.cell? ad220 = some (.string (rdOf ByteArray.empty x0_1 0)) ∧ w'.cell? (ad220.add ((ji50)).toNat) = some (.string (rdOf ByteArray.empty x0_1 (ji50)))) (ds := [21, 22]) #[false, false, false, false, false, false, false, false, false, false, false, false, false, false, false, false, false, false, false, false, false, false, false, false] (by kernel_rfl) rfl rfl ⟨hx243_0, hx244_0⟩ (fun hHeld => ?_); refine with_tabW host_Compress.tab14 host_Compress.bits14 (fun HT_ HW_ => ?_)
                                                              generalize w60.drew = w61 at HO_0 HO_3 BK225 HB hx243_0 hx244_0 hHeld ⊢
                                                              refine pure_ (i := 0) (N := some 93) (v := ?_) (a' := ?_) #[true, false, false, false, false, false, false, false, false, false, false, false, false, false, false, false, false, false, false, false, false, false, false, false] rfl rfl (any_of HT_.out (by kernel_rfl)) (fun _ _ _ h => h) (Or.inl ⟨by rfl, ?_⟩) ?_ ?_
                                                              rotate_left
                                                              · intro w'
                                                                go_simp
                                                                with_reducible rfl
                                                              rotate_left
                                                              · simp only [Act.put, List.setIfInBounds_toArray, List.set_cons_zero, List.set_cons_succ, i64_w, i32_w]
                                                                rfl
                                                              refine pure_ (i := 1) (N := some 94) (v := ?_) (a' := ?_) #[true, true, false, false, false, false, false, false, false, false, false, false, false, false, false, false, false, false, false, false, false, false, false, false] rfl rfl (any_of HT_.out (by kernel_rfl)) (fun _ _ _ h => h) (Or.inl ⟨by rfl, ?_⟩) ?_ ?_
                                                              rotate_left
                                                              · intro w'
                                                                go_simp
                                                                with_reducible rfl
                                                              rotate_left
                                                              · simp only [Act.put, List.setIfInBounds_toArray, List.set_cons_zero, List.set_cons_succ, i64_w, i32_w]
                                                                rfl
                                                              refine pure_ (i := 2) (N := some 95) (v := ?_) (a' := ?_) #[true, true, true, false, false, false, false, false, false, false, false, false, false, false, false, false, false, false, false, false, false, false, false, false] rfl rfl (any_of HT_.out (by kernel_rfl)) (fun _ _ _ h => h) (Or.inl ⟨by rfl, ?_⟩) ?_ ?_
                                                              rotate_left
                                                              · intro w'
                                                                go_simp
                                                                with_reducible rfl
                                                              rotate_left
                                                              · simp only [Act.put, List.setIfInBounds_toArray, List.set_cons_zero, List.set_cons_succ, i64_w, i32_w]
                                                                rfl
                                                              refine pure_ (i := 3) (N := some 96) (v := ?_) (a' := ?_) #[true, true, true, true, false, false, false, false, false, false, false, false, false, false, false, false, false, false, false, false, false, false, false, false] rfl rfl (any_of HT_.out (by kernel_rfl)) (fun _ _ _ h => h) (Or.inl ⟨by rfl, ?_⟩) ?_ ?_
                                                              rotate_left
                                                              · intro w'
                                                                go_simp
                                                                with_reducible rfl
                                                              rotate_left
                                                              · simp only [Act.put, List.setIfInBounds_toArray, List.set_cons_zero, List.set_cons_succ, i64_w, i32_w]
                                                                rfl
                                                              refine pure_ (i := 4) (N := some 97) (v := ?_) (a' := ?_) #[true, true, true, true, true, false, false, false, false, false, false, false, false, false, false, false, false, false, false, false, false, false, false, false] rfl rfl (any_of HT_.out (by kernel_rfl)) (fun _ _ _ h => h) (Or.inl ⟨by rfl, ?_⟩) ?_ ?_
                                                              rotate_left
                                                              · intro w'
                                                                go_simp
                                                                with_reducible rfl
                                                              rotate_left
                                                              · simp only [Act.put, List.setIfInBounds_toArray, List.set_cons_zero, List.set_cons_succ, i64_w, i32_w]
                                                                rfl
                                                              refine pure_ (i := 6) (N := some 99) (v := ?_) (a' := ?_) #[true, true, true, true, true, false, true, false, false, false, false, false, false, false, false, false, false, false, false, false, false, false, false, false] rfl rfl (any_of HT_.out (by kernel_rfl)) (fun _ _ _ h => h) (Or.inl ⟨by rfl, ?_⟩) ?_ ?_
                                                              rotate_left
                                                              · intro w'
                                                                go_simp
                                                                with_reducible rfl
                                                              rotate_left
                                                              · simp only [Act.put, List.setIfInBounds_toArray, List.set_cons_zero, List.set_cons_succ, i64_w, i32_w]
                                                                rfl
                                                              refine pure_ (i := 7) (N := some 100) (v := ?_) (a' := ?_) #[true, true, true, true, true, false, true, true, false, false, false, false, false, false, false, false, false, false, false, false, false, false, false, false] rfl rfl (any_of HT_.out (by kernel_rfl)) (fun _ _ _ h => h) (Or.inl ⟨by rfl, ?_⟩) ?_ ?_
                                                              rotate_left
                                                              · intro w'
                                                                go_simp
                                                                with_reducible rfl
                                                              rotate_left
                                                              · simp only [Act.put, List.setIfInBounds_toArray, List.set_cons_zero, List.set_cons_succ, i64_w, i32_w]
                                                                rfl
                                                              refine pure_ (i := 11) (N := some 104) (v := ?_) (a' := ?_) #[true, true, true, true, true, false, true, true, false, false, false, true, false, false, false, false, false, false, false, false, false, false, false, false] rfl rfl (any_of HT_.out (by kernel_rfl)) (fun _ _ _ h => h) (Or.inl ⟨by rfl, ?_⟩) ?_ ?_
                                                              rotate_left
                                                              · intro w'
                                                                go_simp
                                                                with_reducible rfl
                                                              rotate_left
                                                              · simp only [Act.put, List.setIfInBounds_toArray, List.set_cons_zero, List.set_cons_succ, i64_w, i32_w]
                                                                rfl
                                                              refine pure_ (i := 12) (N := some 105) (v := ?_) (a' := ?_) #[true, true, true, true, true, false, true, true, false, false, false, true, true, false, false, false, false, false, false, false, false, false, false, false] rfl rfl (any_of HT_.out (by kernel_rfl)) (fun _ _ _ h => h) (Or.inl ⟨by rfl, ?_⟩) ?_ ?_
                                                              rotate_left
                                                              · intro w'
                                                                go_simp
                                                                with_reducible rfl
                                                              rotate_left
                                                              · simp only [Act.put, List.setIfInBounds_toArray, List.set_cons_zero, List.set_cons_succ, i64_w, i32_w]
                                                                rfl
                                                              refine pure_ (i := 13) (N := some 106) (v := ?_) (a' := ?_) #[true, true, true, true, true, false, true, true, false, false, false, true, true, true, false, false, false, false, false, false, false, false, false, false] rfl rfl (any_of HT_.out (by kernel_rfl)) (fun _ _ _ h => h) (Or.inl ⟨by rfl, ?_⟩) ?_ ?_
                                                              rotate_left
                                                              · intro w'
                                                                go_simp
                                                                with_reducible rfl
                                                              rotate_left
                                                              · simp only [Act.put, List.setIfInBounds_toArray, List.set_cons_zero, List.set_cons_succ, i64_w, i32_w]
                                                                rfl
                                                              refine pure_ (i := 14) (N := some 107) (v := ?_) (a' := ?_) #[true, true, true, true, true, false, true, true, false, false, false, true, true, true, true, false, false, false, false, false, false, false, false, false] rfl rfl (any_of HT_.out (by kernel_rfl)) (fun _ _ _ h => h) (Or.inl ⟨by rfl, ?_⟩) ?_ ?_
                                                              rotate_left
                                                              · intro w'
                                                                go_simp
                                                                with_reducible rfl
                                                              rotate_left
                                                              · simp only [Act.put, List.setIfInBounds_toArray, List.set_cons_zero, List.set_cons_succ, i64_w, i32_w]
                                                                rfl
                                                              refine pure_ (i := 16) (N := some 109) (v := ?_) (a' := ?_) #[true, true, true, true, true, false, true, true, false, false, false, true, true, true, true, false, true, false, false, false, false, false, false, false] rfl rfl (any_of HT_.out (by kernel_rfl)) (fun _ _ _ h => h) (Or.inl ⟨by rfl, ?_⟩) ?_ ?_
                                                              rotate_left
                                                              · intro w'
                                                                go_simp
                                                                with_reducible rfl
                                                              rotate_left
                                                              · simp only [Act.put, List.setIfInBounds_toArray, List.set_cons_zero, List.set_cons_succ, i64_w, i32_w]
                                                                rfl
                                                              refine pure_ (i := 17) (N := some 110) (v := ?_) (a' := ?_) #[true, true, true, true, true, false, true, true, false, false, false, true, true, true, true, false, true, true, false, false, false, false, false, false] rfl rfl (any_of HT_.out (by kernel_rfl)) (fun _ _ _ h => h) (Or.inl ⟨by rfl, ?_⟩) ?_ ?_
                                                              rotate_left
                                                              · intro w'
                                                                go_simp
                                                                with_reducible rfl
                                                              rotate_left
                                                              · simp only [Act.put, List.setIfInBounds_toArray, List.set_cons_zero, List.set_cons_succ, i64_w, i32_w]
                                                                rfl
                                                              refine take_ (i := 5) (N := some 98) (v := ?_) (a' := ?_) #[true, true, true, true, true, true, true, true, false, false, false, true, true, true, true, false, true, true, false, false, false, false, false, false] rfl rfl (take_ofW HT_.out HW_.out (by kernel_rfl)) (fun _ _ _ h => h) (Or.inl ⟨by rfl, ?_⟩) hHeld ?_ ?_
                                                              rotate_left
                                                              · rintro w' ⟨s0, s1⟩
                                                                go_simp
                                                                with_reducible rfl
                                                              rotate_left
                                                              · simp only [Act.put, List.setIfInBounds_toArray, List.set_cons_zero, List.set_cons_succ, i64_w, i32_w]
                                                                rfl
                                                              refine pure_ (i := 8) (N := some 101) (v := ?_) (a' := ?_) #[true, true, true, true, true, true, true, true, true, false, false, true, true, true, true, false, true, true, false, false, false, false, false, false] rfl rfl (any_of HT_.out (by kernel_rfl)) (fun _ _ _ h => h) (Or.inl ⟨by rfl, ?_⟩) ?_ ?_
                                                              rotate_left
                                                              · intro w'
                                                                go_simp
                                                                with_reducible rfl
                                                              rotate_left
                                                              · simp only [Act.put, List.setIfInBounds_toArray, List.set_cons_zero, List.set_cons_succ, i64_w, i32_w]
                                                                rfl
                                                              refine pure_ (i := 9) (N := some 102) (v := ?_) (a' := ?_) #[true, true, true, true, true, true, true, true, true, true, false, true, true, true, true, false, true, true, false, false, false, false, false, false] rfl rfl (any_of HT_.out (by kernel_rfl)) (fun _ _ _ h => h) (Or.inl ⟨by rfl, ?_⟩) ?_ ?_
                                                              rotate_left
                                                              · intro w'
                                                                go_simp
                                                                with_reducible rfl
                                                              rotate_left
                                                              · simp only [Act.put, List.setIfInBounds_toArray, List.set_cons_zero, List.set_cons_succ, i64_w, i32_w]
                                                                rfl
                                                              refine pure_ (i := 10) (N := some 103) (v := ?_) (a' := ?_) #[true, true, true, true, true, true, true, true, true, true, true, true, true, true, true, false, true, true, false, false, false, false, false, false] rfl rfl (any_of HT_.out (by kernel_rfl)) (fun _ _ _ h => h) (Or.inl ⟨by rfl, ?_⟩) ?_ ?_
                                                              rotate_left
                                                              · intro w'
                                                                go_simp
                                                                with_reducible rfl
                                                              rotate_left
                                                              · simp only [Act.put, List.setIfInBounds_toArray, List.set_cons_zero, List.set_cons_succ, i64_w, i32_w]
                                                                rfl
                                                              refine take_ (i := 15) (N := some 108) (v := ?_) (a' := ?_) #[true, true, true, true, true, true, true, true, true, true, true, true, true, true, true, true, true, true, false, false, false, false, false, false] rfl rfl (take_ofW HT_.out HW_.out (by kernel_rfl)) (fun _ _ _ h => h) (Or.inl ⟨by rfl, ?_⟩) hHeld ?_ ?_
                                                              rotate_left
                                                              · rintro w' ⟨s0, s1⟩
                                                                go_simp
                                                                with_reducible rfl
                                                              rotate_left
                                                              · simp only [Act.put, List.setIfInBounds_toArray, List.set_cons_zero, List.set_cons_succ, i64_w, i32_w]
                                                                rfl
                                                              refine pure_ (i := 18) (N := some 111) (v := ?_) (a' := ?_) #[true, true, true, true, true, true, true, true, true, true, true, true, true, true, true, true, true, true, true, false, false, false, false, false] rfl rfl (any_of HT_.out (by kernel_rfl)) (fun _ _ _ h => h) (Or.inl ⟨by rfl, ?_⟩) ?_ ?_
                                                              rotate_left
                                                              · intro w'
                                                                go_simp
                                                                with_reducible rfl
                                                              rotate_left
                                                              · simp only [Act.put, List.setIfInBounds_toArray, List.set_cons_zero, List.set_cons_succ, i64_w, i32_w]
                                                                rfl
                                                              refine pure_ (i := 19) (N := some 112) (v := ?_) (a' := ?_) #[true, true, true, true, true, true, true, true, true, true, true, true, true, true, true, true, true, true, true, true, false, false, false, false] rfl rfl (any_of HT_.out (by kernel_rfl)) (fun _ _ _ h => h) (Or.inl ⟨by rfl, ?_⟩) ?_ ?_
                                                              rotate_left
                                                              · intro w'
                                                                go_simp
                                                                with_reducible rfl
                                                              rotate_left
                                                              · simp only [Act.put, List.setIfInBounds_toArray, List.set_cons_zero, List.set_cons_succ, i64_w, i32_w]
                                                                rfl
                                                              refine pure_ (i := 20) (N := some 113) (v := ?_) (a' := ?_) #[true, true, true, true, true, true, true, true, true, true, true, true, true, true, true, true, true, true, true, true, true, false, false, false] rfl rfl (any_of HT_.out (by kernel_rfl)) (fun _ _ _ h => h) (Or.inl ⟨by rfl, ?_⟩) ?_ ?_
                                                              rotate_left
                                                              · intro w'
                                                                go_simp
                                                                with_reducible rfl
                                                              rotate_left
                                                              · simp only [Act.put, List.setIfInBounds_toArray, List.set_cons_zero, List.set_cons_succ, i64_w, i32_w]
                                                                rfl
                                                              refine last_ (i := 21) (N := some 114) #[true, true, true, true, true, true, true, true, true, true, true, true, true, true, true, true, true, true, true, true, true, true, false, false] rfl rfl (one_of HT_.out (by kernel_rfl)) (by decide) (fun K hK => ?_)
                                                              refine value_ (w1 := ?_) (v := ?_) (by rfl) rfl ?_ ?_
                                                              rotate_left 2
                                                              · go_simp
                                                                constructor
                                                                · rfl
                                                                · rfl
                                                              refine hK.out _ _ ?_
                                                              clear hK K
                                                              refine norm_ (a' := ?_) ?_ ?_
                                                              rotate_left
                                                              · show Act.put _ (some 114) _ = _
                                                                simp only [Act.put, List.setIfInBounds_toArray, List.set_cons_zero, List.set_cons_succ, i64_w, i32_w]
                                                                rfl
                                                              refine last_ (i := 22) (N := some 115) #[true, true, true, true, true, true, true, true, true, true, true, true, true, true, true, true, true, true, true, true, true, true, true, false] rfl rfl (one_of HT_.out (by kernel_rfl)) (by decide) (fun K hK => ?_)
                                                              refine Kd.R_append_step Kd.string (w0 := w) w.heap.size (by rfl) (.tmp 93) (.tmp 114) 22 9 (.string ⟨#[]⟩) 16 rfl Tryd.underlying22 info9 rfl (by decide) (by omega) u3 x3_1 (((((t221 ++ (⟨#[91]⟩ : ByteArray)) ++ ((rdOf ByteArray.empty x0_1 0).extract ((t221.size : Int) : Int).toNat (rdOf ByteArray.empty x0_1 0).size)) ++ (⟨#[45]⟩ : ByteArray)) ++ ((rdOf ByteArray.empty x0_1 (ji50)).extract ((t221.size : Int) : Int).toNat (rdOf ByteArray.empty x0_1 (ji50)).size)) ++ (⟨#[93]⟩ : ByteArray)) [.string (((((t221 ++ (⟨#[91]⟩ : ByteArray)) ++ ((rdOf ByteArray.empty x0_1 0).extract ((t221.size : Int) : Int).toNat (rdOf ByteArray.empty x0_1 0).size)) ++ (⟨#[45]⟩ : ByteArray)) ++ ((rdOf ByteArray.empty x0_1 (ji50)).extract ((t221.size : Int) : Int).toNat (rdOf ByteArray.empty x0_1 (ji50)).size)) ++ (⟨#[93]⟩ : ByteArray))] (fun k_ => (w.heap.size ≤ k_)) (fun _ => False) rfl rfl ?aP (fun _ hk => hk.elim) ?aF ?aO ?aB ?aS ?aL ?_
                                                              (case aP => exact rfl)
                                                              (case aB => exact (by repeat (first | (with_reducible first | exact HB.out | apply below_alloc | apply pw_below_drewN | apply below_drew1 | refine below_set ?_ GE225.out) | exact HB.out)))
                                                              (case aF => exact (fun k_ hk => (Nat.le_trans (below_size (by repeat (first | (with_reducible first | exact HB.out | apply below_alloc | apply pw_below_drewN | apply below_drew1 | refine below_set ?_ GE225.out) | exact HB.out))) hk)))
                                                              (case aO => exact (by (with_reducible repeat (first | apply Kd.R_alloc | apply Kd.R_drewN | apply Kd.R_drew)); exact HO_3.out))
                                                              (case aS => exact (below_size (by repeat (first | (with_reducible first | exact HB.out | apply below_alloc | apply pw_below_drewN | apply below_drew1 | refine below_set ?_ GE225.out) | exact HB.out))))
                                                              (case aL => have := LMc57.out; omega)
                                                              intro v246 w62 ho hb hg hat
                                                              rw [← Ny245.out] at ho
                                                              have n0_ := Aside0.mk (Kd.V_afterv (ok := (fun k_ => (P0_ k_ ∨ w.heap.size ≤ k_) ∧ k_ ≠ gb225)) (by (with_reducible repeat (first | apply Kd.V_alloc | apply Kd.V_drewN | apply Kd.V_drew)); exact Kd.V_mono HO_0.out (fun _ hk => ⟨⟨hk.1, hk.2.2⟩, hk.2.1⟩)) hg hat)
                                                              have n1_ := Aside0.mk (blk_grown (g := gb225) (o := .cells #[.int .i64 0, .int .i64 0, .int .i64 x226002_14] 54 (0, 0)) (by (with_reducible repeat (first | refine blk_drewN ?_ _ | refine blk_drew ?_ | refine blk_alloc ?_ _)); exact BK225.out) hg (Kd.R_ne HO_3.out BK225.out (by decide)))
                                                              have n2_ := Aside0.mk (hb)
                                                              have n3_ := Aside0.mk (ho)
                                                              clear HO_0
                                                              clear BK225
                                                              clear HB
                                                              clear HO_3
                                                              have HO_0 := n0_
                                                              have BK225 := n1_
                                                              have HB := n2_
                                                              have HO247 := n3_
                                                              clear n0_ n1_ n2_ n3_
                                                              clear ho hb hg hat
                                                              refine hK.out _ _ ?_
                                                              clear hK K
                                                              refine norm_ (a' := ?_) ?_ ?_
                                                              rotate_left
                                                              · show Act.put _ (some 115) _ = _
                                                                simp only [Act.put, List.setIfInBounds_toArray, List.set_cons_zero, List.set_cons_succ, i64_w, i32_w]
                                                                rfl
                                                              refine pure_ (i := 23) (N := some 3) (v := ?_) (a' := ?_) #[true, true, true, true, true, true, true, true, true, true, true, true, true, true, true, true, true, true, true, true, true, true, true, true] rfl rfl (any_of HT_.out (by kernel_rfl)) (fun _ _ _ h => h) (Or.inl ⟨by rfl, ?_⟩) ?_ ?_
                                                              rotate_left
                                                              · intro w'
                                                                go_simp
                                                                with_reducible rfl
                                                              rotate_left
                                                              · simp only [Act.put, List.setIfInBounds_toArray, List.set_cons_zero, List.set_cons_succ, i64_w, i32_w]
                                                                rfl
                                                              refine done_ (done_of HT_.out (by kernel_rfl)) ?_
                                                              have q63 : (x9_4 : Int) ≤ ((x0_1.length : Int) : Int) := of_decide_eq_true (by first | (with_reducible assumption) | assumption)
                                                              obtain ⟨i063, hi063, _, hsz63, _⟩ := info_parts info9
                                                              have hroom63 : x0_1.length ≤ co6 := (Kd.V_reads' HO_0.out).2.1
                                                              have hC63 : Kd.F Kd.string _ _ (some ad220) x0_1.length x0_1 := (Kd.V_at (base := w.heap.size) HO_0.out).2.2
                                                              have q063 : (0 : Int) ≤ (x9_4 : Int) := of_decide_eq_true (by first | (with_reducible assumption) | assumption)
                                                              have hcut63 := cut_from (P := Tryd.prog) 22 9 .i64 Tryd.underlying22 hi063 1 hsz63 (some ad220) x0_1.length co6 x9_4 q063 q63
                                                              have hr63 := Kd.F_cut (m := (x9_4 : Int).toNat) (c := co6) hC63 (by omega) hroom63
                                                              obtain ⟨A63, hA63⟩ : ∃ A1, A1 = (if co6 = (x9_4 : Int).toNat then (some ad220) else ((some ad220) : Option Addr).map (·.add ((x9_4 : Int).toNat * 1))) := ⟨_, rfl⟩
                                                              obtain ⟨c63, hc63⟩ : ∃ c1, c1 = co6 - (x9_4 : Int).toNat := ⟨_, rfl⟩
                                                              have hy63 : y248.length = x0_1.length - (x9_4 : Int).toNat := (by rw [Ny248.out, List.length_drop] <;> omega)
                                                              rw [show (x0_1).drop (x9_4 : Int).toNat = y248 from Ny248.out.symm] at hr63
                                                              replace hr63 : Kd.F Kd.string _ _ A63 y248.length y248 := (by rw [hA63]; exact hr63)
                                                              rw [← hy63, ← hA63, ← hc63] at hcut63
                                                              have HO252 := Aside0.mk (show Kd.V Kd.string 9 _ w.heap.size _ (.slice A63 y248.length c63) y248 from Kd.V_mk (by rw [hy63, hc63]; exact Nat.sub_le_sub_right hroom63 _) hr63)
                                                              have HC252 := Aside0.mk (show y248.length ≤ c63 from by rw [hy63, hc63]; exact Nat.sub_le_sub_right hroom63 _)
                                                              clear hr63 hC63 hroom63 hi063 hsz63 hc63
                                                              have KY63 := Aside0.mk hy63
                                                              have KA63 := Aside0.mk hA63
                                                              clear hy63 hA63
                                                              replace q63 := eq_true q63
                                                              try go_wp2
                                                              go_roundg kj17
                                                              case measure => have := HK1.out; have := HJ4.out; have := HJ14.out; have := HK4.out; have := HJ17.out; omega
                                                              case rel => exact ⟨(y248), (y245), H', ⟨by have := HK1.out; have := HJ4.out; have := HJ14.out; have := HK4.out; have := HJ17.out; omega⟩, ⟨by (with_reducible repeat (first | apply Kd.V_alloc | apply Kd.V_drewN | apply Kd.V_drew)); exact Kd.V_mono HO252.out (fun _ hk => ⟨hk.1.1, hk.2⟩)⟩, ⟨by (with_reducible repeat (first | apply Kd.R_alloc | apply Kd.R_drewN | apply Kd.R_drew)); exact HO247.out⟩, ⟨by repeat (first | (with_reducible first | exact HB.out | apply below_alloc | apply pw_below_drewN | apply below_drew1 | refine below_set ?_ GE225.out) | exact HB.out)⟩⟩
                                                            · rw [if_neg c59] at H
                                                              exact absurd H (by simp)
                                                          · rw [if_neg c57] at H
                                                            exact absurd H (by simp)
                                                        · rw [if_neg c56] at H
                                                          exact absurd H (by simp)
                                                      · rw [if_neg c55] at H
                                                        exact absurd H (by simp)
                                                    · rw [if_neg c54] at H
                                                      exact absurd H (by simp)
                                                  · rw [if_neg c52] at H
                                                    exact absurd H (by simp)
                                                · rw [if_neg c51] at H
                                                  exact absurd H (by simp)
                                              · rw [if_neg c49] at H
                                                exact absurd H (by simp)
                                            · rw [if_neg c48] at H
                                              exact absurd H (by simp)
                                          · rw [if_neg c47] at H
                                            exact absurd H (by simp)
                                        · rw [if_neg c46] at H
                                          exact absurd H (by simp)
                                      · rw [if_neg c45] at H
                                        exact absurd H (by simp)
                                    · rw [if_neg c44] at H
                                      exact absurd H (by simp)
                              · rw [if_neg c32] at H
                                exact absurd H (by simp)
                            · rw [if_neg c31] at H
                              exact absurd H (by simp)
                          · replace c30 := Bool.eq_false_iff.mpr c30
                            subst c30
                            have H1 : (if x9_4 = 1 then (if 0 < (x0_1.length : Int) then (if x3_1.length < 8796093022208 then (if 0 ≤ x9_4 then (if x9_4 ≤ (x0_1.length : Int) then (host_Compress.l0 kj17 (x0_1.drop (x9_4 : Int).toNat) (x3_1 ++ [rdOf ByteArray.empty x0_1 0])) else (none)) else (none)) else (none)) else (none)) else (if t221.size + 1 ≤ 9223372036854775807 then (if 0 < (x0_1.length : Int) then (if 0 ≤ (t221.size : Int) then (if (t221.size : Int) ≤ ((rdOf ByteArray.empty x0_1 0).size : Int) then (if (t221 ++ (⟨#[91]⟩ : ByteArray)).size + ((rdOf ByteArray.empty x0_1 0).extract ((t221.size : Int) : Int).toNat (rdOf ByteArray.empty x0_1 0).size).size ≤ 9223372036854775807 then (if ((t221 ++ (⟨#[91]⟩ : ByteArray)) ++ ((rdOf ByteArray.empty x0_1 0).extract ((t221.size : Int) : Int).toNat (rdOf ByteArray.empty x0_1 0).size)).size + 1 ≤ 9223372036854775807 then (if 0 ≤ (wrap64 (x9_4 - 1)) then (if (wrap64 (x9_4 - 1)) < (x0_1.length : Int) then (if (t221.size : Int) ≤ ((rdOf ByteArray.empty x0_1 (wrap64 (x9_4 - 1))).size : Int) then (if (((t221 ++ (⟨#[91]⟩ : ByteArray)) ++ ((rdOf ByteArray.empty x0_1 0).extract ((t221.size : Int) : Int).toNat (rdOf ByteArray.empty x0_1 0).size)) ++ (⟨#[45]⟩ : ByteArray)).size + ((rdOf ByteArray.empty x0_1 (wrap64 (x9_4 - 1))).extract ((t221.size : Int) : Int).toNat (rdOf ByteArray.empty x0_1 (wrap64 (x9_4 - 1))).size).size ≤ 9223372036854775807 then (if ((((t221 ++ (⟨#[91]⟩ : ByteArray)) ++ ((rdOf ByteArray.empty x0_1 0).extract ((t221.size : Int) : Int).toNat (rdOf ByteArray.empty x0_1 0).size)) ++ (⟨#[45]⟩ : ByteArray)) ++ ((rdOf ByteArray.empty x0_1 (wrap64 (x9_4 - 1))).extract ((t221.size : Int) : Int).toNat (rdOf ByteArray.empty x0_1 (wrap64 (x9_4 - 1))).size)).size + 1 ≤ 9223372036854775807 then (if x3_1.length < 8796093022208 then (if 0 ≤ x9_4 then (if x9_4 ≤ (x0_1.length : Int) then (host_Compress.l0 kj17 (x0_1.drop (x9_4 : Int).toNat) (x3_1 ++ [((((t221 ++ (⟨#[91]⟩ : ByteArray)) ++ ((rdOf ByteArray.empty x0_1 0).extract ((t221.size : Int) : Int).toNat (rdOf ByteArray.empty x0_1 0).size)) ++ (⟨#[45]⟩ : ByteArray)) ++ ((rdOf ByteArray.empty x0_1 (wrap64 (x9_4 - 1))).extract ((t221.size : Int) : Int).toNat (rdOf ByteArray.empty x0_1 (wrap64 (x9_4 - 1))).size)) ++ (⟨#[93]⟩ : ByteArray)])) else (none)) else (none)) else (none)) else (none)) else (none)) else (none)) else (none)) else (none)) else (none)) else (none)) else (none)) else (none)) else (none)) else (none))) = some r := by rw [if_neg (show ¬ (false = true) by decide)] at H; exact H
                            clear H
                            have H := H1
                            clear H1
                            by_cases c64 : x9_4 = 1
                            · rw [if_pos c64] at H
                              have c64b0 : (x9_4 == 1) = true := beq_iff_eq.mpr c64
                              have c64b1 : (x9_4 != 1) = false := bne_eq_false_iff_eq.mpr c64
                              clear c64
                              by_cases c65 : 0 < (x0_1.length : Int)
                              · rw [if_pos c65] at H
                                have c65b0 : decide (0 < (x0_1.length : Int)) = true := decide_eq_true c65
                                have c65b1 : decide (0 < x0_1.length) = true := decide_eq_true (by omega)
                                clear c65
                                by_cases c66 : x3_1.length < 8796093022208
                                · rw [if_pos c66] at H
                                  have LMc66 := Aside0.mk c66
                                  clear c66
                                  obtain ⟨y254, hy254⟩ : ∃ y_ : List ByteArray, y_ = (x3_1 ++ [rdOf ByteArray.empty x0_1 0]) := ⟨_, rfl⟩
                                  replace H : (if 0 ≤ x9_4 then (if x9_4 ≤ (x0_1.length : Int) then (host_Compress.l0 kj17 (x0_1.drop (x9_4 : Int).toNat) y254) else (none)) else (none)) = some r := by first | (rw [hy254]; with_reducible exact H) | (have H2_ := (Option.bind_some _ _).symm.trans H; rw [hy254]; with_reducible exact H2_) | (have H2_ := (Option.bind_some _ _).symm.trans H; with_reducible exact H2_) | with_reducible exact H | (rw [hy254]; exact H) | exact H
                                  have Ny254 := Aside0.mk hy254
                                  clear hy254
                                  by_cases c67 : 0 ≤ x9_4
                                  · rw [if_pos c67] at H
                                    have c67b0 := eq_true c67
                                    have c67b1 : decide (0 ≤ x9_4) = true := decide_eq_true c67
                                    clear c67
                                    by_cases c68 : x9_4 ≤ (x0_1.length : Int)
                                    · rw [if_pos c68] at H
                                      have c68b0 := eq_true c68
                                      have c68b1 : decide (x9_4 ≤ (x0_1.length : Int)) = true := decide_eq_true c68
                                      clear c68
                                      obtain ⟨y257, hy257⟩ : ∃ y_ : List ByteArray, y_ = (x0_1.drop (x9_4 : Int).toNat) := ⟨_, rfl⟩
                                      replace H : (host_Compress.l0 kj17 y257 y254) = some r := by first | (rw [hy257]; with_reducible exact H) | (have H2_ := (Option.bind_some _ _).symm.trans H; rw [hy257]; with_reducible exact H2_) | (have H2_ := (Option.bind_some _ _).symm.trans H; with_reducible exact H2_) | with_reducible exact H | (rw [hy257]; exact H) | exact H
                                      have Ny257 := Aside0.mk hy257
                                      clear hy257
                                      have H' := Aside0.mk H
                                      clear H
                                      have p253 : 0 ≤ (0 : Int) := (by omega)
                                      have q253 : 0 < (x0_1.length : Int) := of_decide_eq_true (by first | (with_reducible assumption) | assumption)
                                      obtain ⟨ad253, e253, hx253_0⟩ := Kd.at_string (Kd.V_reads' HO_0.out).2.2 0 p253 q253
                                      obtain rfl : ad220 = ad253 := (by injection e253)
                                      have qi253 : (0 < x0_1.length) = True := eq_true (by omega)
                                      (try rw [show ((0 : Int)).toNat = 0 from rfl] at hx253_0)
                                      (try rw [Addr.add_zero'] at hx253_0)
                                      replace p253 := eq_true p253
                                      replace q253 := eq_true q253
                                      go_wp2_with (first | ((with_reducible refine gate_builtin (b := .append) (xs := #[.tmp 87, .tmp 91]) rfl ?_); (try (refine gate_guard (by rfl) ?_; dsimp only)); at_builtin; refine Kd.R_append Kd.string (w0 := w) w.heap.size rfl (.tmp 87) (.tmp 91) 22 9 (.string ⟨#[]⟩) 16 rfl Tryd.underlying22 info9 rfl (by decide) (by omega) u3 x3_1 (rdOf ByteArray.empty x0_1 0) [.string (rdOf ByteArray.empty x0_1 0)] (fun k_ => (w.heap.size ≤ k_)) (fun _ => False) rfl rfl ?aP (fun _ hk => hk.elim) ?aF ?aO ?aB ?aS ?aL ?_; (case aP => exact rfl); (case aB => exact (by repeat (first | (with_reducible first | exact HB.out | apply below_alloc | apply pw_below_drewN | apply below_drew1 | refine below_set ?_ GE225.out) | exact HB.out))); (case aF => exact (fun k_ hk => (Nat.le_trans (below_size (by repeat (first | (with_reducible first | exact HB.out | apply below_alloc | apply pw_below_drewN | apply below_drew1 | refine below_set ?_ GE225.out) | exact HB.out))) hk))); (case aO => exact (by (with_reducible repeat (first | apply Kd.R_alloc | apply Kd.R_drewN | apply Kd.R_drew)); exact HO_3.out)); (case aS => exact (below_size (by repeat (first | (with_reducible first | exact HB.out | apply below_alloc | apply pw_below_drewN | apply below_drew1 | refine below_set ?_ GE225.out) | exact HB.out)))); (case aL => have := LMc66.out; omega); intro v255 w69 ho hb hg hat; rw [← Ny254.out] at ho; have n0_ := Aside0.mk (Kd.V_afterv (ok := (fun k_ => (P0_ k_ ∨ w.heap.size ≤ k_) ∧ k_ ≠ gb225)) (by (with_reducible repeat (first | apply Kd.V_alloc | apply Kd.V_drewN | apply Kd.V_drew)); exact Kd.V_mono HO_0.out (fun _ hk => ⟨⟨hk.1, hk.2.2⟩, hk.2.1⟩)) hg hat); have n1_ := Aside0.mk (blk_grown (g := gb225) (o := .cells #[.int .i64 0, .int .i64 0, .int .i64 x226002_14] 54 (0, 0)) (by (with_reducible repeat (first | refine blk_drewN ?_ _ | refine blk_drew ?_ | refine blk_alloc ?_ _)); exact BK225.out) hg (Kd.R_ne HO_3.out BK225.out (by decide))); have n2_ := Aside0.mk (hb); have n3_ := Aside0.mk (ho); clear HO_0; clear BK225; clear HB; clear HO_3; have HO_0 := n0_; have BK225 := n1_; have HB := n2_; have HO256 := n3_; clear n0_ n1_ n2_ n3_; clear ho hb hg hat; have q70 : (x9_4 : Int) ≤ ((x0_1.length : Int) : Int) := of_decide_eq_true (by first | (with_reducible assumption) | assumption); obtain ⟨i070, hi070, _, hsz70, _⟩ := info_parts info9; have hroom70 : x0_1.length ≤ co6 := (Kd.V_reads' HO_0.out).2.1; have hC70 : Kd.F Kd.string _ _ (some ad220) x0_1.length x0_1 := (Kd.V_at (base := w.heap.size) HO_0.out).2.2; have q070 : (0 : Int) ≤ (x9_4 : Int) := of_decide_eq_true (by first | (with_reducible assumption) | assumption); have hcut70 := cut_from (P := Tryd.prog) 22 9 .i64 Tryd.underlying22 hi070 1 hsz70 (some ad220) x0_1.length co6 x9_4 q070 q70; have hr70 := Kd.F_cut (m := (x9_4 : Int).toNat) (c := co6) hC70 (by omega) hroom70; obtain ⟨A70, hA70⟩ : ∃ A1, A1 = (if co6 = (x9_4 : Int).toNat then (some ad220) else ((some ad220) : Option Addr).map (·.add ((x9_4 : Int).toNat * 1))) := ⟨_, rfl⟩; obtain ⟨c70, hc70⟩ : ∃ c1, c1 = co6 - (x9_4 : Int).toNat := ⟨_, rfl⟩; have hy70 : y257.length = x0_1.length - (x9_4 : Int).toNat := (by rw [Ny257.out, List.length_drop] <;> omega); rw [show (x0_1).drop (x9_4 : Int).toNat = y257 from Ny257.out.symm] at hr70; replace hr70 : Kd.F Kd.string _ _ A70 y257.length y257 := (by rw [hA70]; exact hr70); rw [← hy70, ← hA70, ← hc70] at hcut70; have HO261 := Aside0.mk (show Kd.V Kd.string 9 _ w.heap.size _ (.slice A70 y257.length c70) y257 from Kd.V_mk (by rw [hy70, hc70]; exact Nat.sub_le_sub_right hroom70 _) hr70); have HC261 := Aside0.mk (show y257.length ≤ c70 from by rw [hy70, hc70]; exact Nat.sub_le_sub_right hroom70 _); clear hr70 hC70 hroom70 hi070 hsz70 hc70; have KY70 := Aside0.mk hy70; have KA70 := Aside0.mk hA70; clear hy70 hA70; replace q70 := eq_true q70))
                                      go_roundg kj17
                                      case measure => have := HK1.out; have := HJ4.out; have := HJ14.out; have := HK4.out; have := HJ17.out; omega
                                      case rel => exact ⟨(y257), (y254), H', ⟨by have := HK1.out; have := HJ4.out; have := HJ14.out; have := HK4.out; have := HJ17.out; omega⟩, ⟨by (with_reducible repeat (first | apply Kd.V_alloc | apply Kd.V_drewN | apply Kd.V_drew)); exact Kd.V_mono HO261.out (fun _ hk => ⟨hk.1.1, hk.2⟩)⟩, ⟨by (with_reducible repeat (first | apply Kd.R_alloc | apply Kd.R_drewN | apply Kd.R_drew)); exact HO256.out⟩, ⟨by repeat (first | (with_reducible first | exact HB.out | apply below_alloc | apply pw_below_drewN | apply below_drew1 | refine below_set ?_ GE225.out) | exact HB.out)⟩⟩
                                    · rw [if_neg c68] at H
                                      exact absurd H (by simp)
                                  · rw [if_neg c67] at H
                                    exact absurd H (by simp)
                                · rw [if_neg c66] at H
                                  exact absurd H (by simp)
                              · rw [if_neg c65] at H
                                exact absurd H (by simp)
                            · rw [if_neg c64] at H
                              have c64b0 : (x9_4 == 1) = false := beq_eq_false_iff_ne.mpr c64
                              have c64b1 : (x9_4 != 1) = true := bne_iff_ne.mpr c64
                              by_cases c71 : t221.size + 1 ≤ 9223372036854775807
                              · rw [if_pos c71] at H
                                have c71b0 := eq_true c71
                                have c71b1 : decide (t221.size + 1 ≤ 9223372036854775807) = true := decide_eq_true c71
                                try have c71b2 : (9223372036854775807 < t221.size + 1) = False := eq_false (Nat.not_lt.2 c71)
                                by_cases c72 : 0 < (x0_1.length : Int)
                                · rw [if_pos c72] at H
                                  have c72b0 : decide (0 < (x0_1.length : Int)) = true := decide_eq_true c72
                                  have c72b1 : decide (0 < x0_1.length) = true := decide_eq_true (by omega)
                                  clear c72
                                  by_cases c73 : 0 ≤ (t221.size : Int)
                                  · rw [if_pos c73] at H
                                    have c73b0 := eq_true c73
                                    have c73b1 : decide (0 ≤ (t221.size : Int)) = true := decide_eq_true c73
                                    clear c73
                                    by_cases c74 : (t221.size : Int) ≤ ((rdOf ByteArray.empty x0_1 0).size : Int)
                                    · rw [if_pos c74] at H
                                      have c74b0 := eq_true c74
                                      have c74b1 : decide ((t221.size : Int) ≤ ((rdOf ByteArray.empty x0_1 0).size : Int)) = true := decide_eq_true c74
                                      clear c74
                                      by_cases c75 : (t221 ++ (⟨#[91]⟩ : ByteArray)).size + ((rdOf ByteArray.empty x0_1 0).extract ((t221.size : Int) : Int).toNat (rdOf ByteArray.empty x0_1 0).size).size ≤ 9223372036854775807
                                      · rw [if_pos c75] at H
                                        have c75b0 := eq_true c75
                                        have c75b1 : decide ((t221 ++ (⟨#[91]⟩ : ByteArray)).size + ((rdOf ByteArray.empty x0_1 0).extract ((t221.size : Int) : Int).toNat (rdOf ByteArray.empty x0_1 0).size).size ≤ 9223372036854775807) = true := decide_eq_true c75
                                        try have c75b3 : (9223372036854775807 < t221.size + 1 + ((rdOf ByteArray.empty x0_1 0).extract ((t221.size : Int) : Int).toNat (rdOf ByteArray.empty x0_1 0).size).size) = False := eq_false (by have z := c75; rw [show (t221 ++ (⟨#[91]⟩ : ByteArray)).size + ((rdOf ByteArray.empty x0_1 0).extract ((t221.size : Int) : Int).toNat (rdOf ByteArray.empty x0_1 0).size).size = t221.size + 1 + ((rdOf ByteArray.empty x0_1 0).extract ((t221.size : Int) : Int).toNat (rdOf ByteArray.empty x0_1 0).size).size from by rw [ByteArray.size_append]; rfl] at z; omega)
                                        try (have c75b4 := c75b3; simp only [Int.toNat_natCast, ByteArray.size_extract, Nat.min_self] at c75b4)
                                        try have c75b2 : (9223372036854775807 < (t221 ++ (⟨#[91]⟩ : ByteArray)).size + ((rdOf ByteArray.empty x0_1 0).extract ((t221.size : Int) : Int).toNat (rdOf ByteArray.empty x0_1 0).size).size) = False := eq_false (Nat.not_lt.2 c75)
                                        by_cases c76 : ((t221 ++ (⟨#[91]⟩ : ByteArray)) ++ ((rdOf ByteArray.empty x0_1 0).extract ((t221.size : Int) : Int).toNat (rdOf ByteArray.empty x0_1 0).size)).size + 1 ≤ 9223372036854775807
                                        · rw [if_pos c76] at H
                                          have c76b0 := eq_true c76
                                          have c76b1 : decide (((t221 ++ (⟨#[91]⟩ : ByteArray)) ++ ((rdOf ByteArray.empty x0_1 0).extract ((t221.size : Int) : Int).toNat (rdOf ByteArray.empty x0_1 0).size)).size + 1 ≤ 9223372036854775807) = true := decide_eq_true c76
                                          try have c76b3 : (9223372036854775807 < t221.size + 1 + ((rdOf ByteArray.empty x0_1 0).extract ((t221.size : Int) : Int).toNat (rdOf ByteArray.empty x0_1 0).size).size + 1) = False := eq_false (by have z := c76; rw [show ((t221 ++ (⟨#[91]⟩ : ByteArray)) ++ ((rdOf ByteArray.empty x0_1 0).extract ((t221.size : Int) : Int).toNat (rdOf ByteArray.empty x0_1 0).size)).size + 1 = t221.size + 1 + ((rdOf ByteArray.empty x0_1 0).extract ((t221.size : Int) : Int).toNat (rdOf ByteArray.empty x0_1 0).size).size + 1 from by rw [ByteArray.size_append]; rw [ByteArray.size_append]; rfl] at z; omega)
                                          try (have c76b4 := c76b3; simp only [Int.toNat_natCast, ByteArray.size_extract, Nat.min_self] at c76b4)
                                          try have c76b2 : (9223372036854775807 < ((t221 ++ (⟨#[91]⟩ : ByteArray)) ++ ((rdOf ByteArray.empty x0_1 0).extract ((t221.size : Int) : Int).toNat (rdOf ByteArray.empty x0_1 0).size)).size + 1) = False := eq_false (Nat.not_lt.2 c76)
                                          obtain ⟨ji77, hji77⟩ : ∃ j_ : Int, (wrap64 (x9_4 - 1)) = j_ := ⟨_, rfl⟩
                                          replace H : (if 0 ≤ (ji77) then (if (ji77) < (x0_1.length : Int) then (if (t221.size : Int) ≤ ((rdOf ByteArray.empty x0_1 (ji77)).size : Int) then (if (((t221 ++ (⟨#[91]⟩ : ByteArray)) ++ ((rdOf ByteArray.empty x0_1 0).extract ((t221.size : Int) : Int).toNat (rdOf ByteArray.empty x0_1 0).size)) ++ (⟨#[45]⟩ : ByteArray)).size + ((rdOf ByteArray.empty x0_1 (ji77)).extract ((t221.size : Int) : Int).toNat (rdOf ByteArray.empty x0_1 (ji77)).size).size ≤ 9223372036854775807 then (if ((((t221 ++ (⟨#[91]⟩ : ByteArray)) ++ ((rdOf ByteArray.empty x0_1 0).extract ((t221.size : Int) : Int).toNat (rdOf ByteArray.empty x0_1 0).size)) ++ (⟨#[45]⟩ : ByteArray)) ++ ((rdOf ByteArray.empty x0_1 (ji77)).extract ((t221.size : Int) : Int).toNat (rdOf ByteArray.empty x0_1 (ji77)).size)).size + 1 ≤ 9223372036854775807 then (if x3_1.length < 8796093022208 then (if 0 ≤ x9_4 then (if x9_4 ≤ (x0_1.length : Int) then (host_Compress.l0 kj17 (x0_1.drop (x9_4 : Int).toNat) (x3_1 ++ [((((t221 ++ (⟨#[91]⟩ : ByteArray)) ++ ((rdOf ByteArray.empty x0_1 0).extract ((t221.size : Int) : Int).toNat (rdOf ByteArray.empty x0_1 0).size)) ++ (⟨#[45]⟩ : ByteArray)) ++ ((rdOf ByteArray.empty x0_1 (ji77)).extract ((t221.size : Int) : Int).toNat (rdOf ByteArray.empty x0_1 (ji77)).size)) ++ (⟨#[93]⟩ : ByteArray)])) else (none)) else (none)) else (none)) else (none)) else (none)) else (none)) else (none)) else (none)) = some r := by first | (rw [hji77] at H; exact H) | (simp only [hji77] at H ⊢; exact H)
                                          have hji77w : (IntKind.i64.wrap (x9_4 - 1)) = ji77 := (i64_w _).trans hji77
                                          by_cases c78 : 0 ≤ (ji77)
                                          · rw [if_pos c78] at H
                                            have c78b0 : decide (0 ≤ (ji77)) = true := decide_eq_true c78
                                            clear c78
                                            by_cases c79 : (ji77) < (x0_1.length : Int)
                                            · rw [if_pos c79] at H
                                              have c79b0 : decide ((ji77) < (x0_1.length : Int)) = true := decide_eq_true c79
                                              clear c79
                                              have c80b0 := eq_true (of_decide_eq_true (by first | (with_reducible assumption) | assumption) : 0 ≤ (t221.size : Int))
                                              by_cases c81 : (t221.size : Int) ≤ ((rdOf ByteArray.empty x0_1 (ji77)).size : Int)
                                              · rw [if_pos c81] at H
                                                have c81b0 := eq_true c81
                                                have c81b1 : decide ((t221.size : Int) ≤ ((rdOf ByteArray.empty x0_1 (ji77)).size : Int)) = true := decide_eq_true c81
                                                clear c81
                                                by_cases c82 : (((t221 ++ (⟨#[91]⟩ : ByteArray)) ++ ((rdOf ByteArray.empty x0_1 0).extract ((t221.size : Int) : Int).toNat (rdOf ByteArray.empty x0_1 0).size)) ++ (⟨#[45]⟩ : ByteArray)).size + ((rdOf ByteArray.empty x0_1 (ji77)).extract ((t221.size : Int) : Int).toNat (rdOf ByteArray.empty x0_1 (ji77)).size).size ≤ 9223372036854775807
                                                · rw [if_pos c82] at H
                                                  have c82b0 := eq_true c82
                                                  have c82b1 : decide ((((t221 ++ (⟨#[91]⟩ : ByteArray)) ++ ((rdOf ByteArray.empty x0_1 0).extract ((t221.size : Int) : Int).toNat (rdOf ByteArray.empty x0_1 0).size)) ++ (⟨#[45]⟩ : ByteArray)).size + ((rdOf ByteArray.empty x0_1 (ji77)).extract ((t221.size : Int) : Int).toNat (rdOf ByteArray.empty x0_1 (ji77)).size).size ≤ 9223372036854775807) = true := decide_eq_true c82
                                                  try have c82b3 : (9223372036854775807 < t221.size + 1 + ((rdOf ByteArray.empty x0_1 0).extract ((t221.size : Int) : Int).toNat (rdOf ByteArray.empty x0_1 0).size).size + 1 + ((rdOf ByteArray.empty x0_1 (ji77)).extract ((t221.size : Int) : Int).toNat (rdOf ByteArray.empty x0_1 (ji77)).size).size) = False := eq_false (by have z := c82; rw [show (((t221 ++ (⟨#[91]⟩ : ByteArray)) ++ ((rdOf ByteArray.empty x0_1 0).extract ((t221.size : Int) : Int).toNat (rdOf ByteArray.empty x0_1 0).size)) ++ (⟨#[45]⟩ : ByteArray)).size + ((rdOf ByteArray.empty x0_1 (ji77)).extract ((t221.size : Int) : Int).toNat (rdOf ByteArray.empty x0_1 (ji77)).size).size = t221.size + 1 + ((rdOf ByteArray.empty x0_1 0).extract ((t221.size : Int) : Int).toNat (rdOf ByteArray.empty x0_1 0).size).size + 1 + ((rdOf ByteArray.empty x0_1 (ji77)).extract ((t221.size : Int) : Int).toNat (rdOf ByteArray.empty x0_1 (ji77)).size).size from by rw [ByteArray.size_append]; rw [ByteArray.size_append]; rw [ByteArray.size_append]; rfl] at z; omega)
                                                  try (have c82b4 := c82b3; simp only [Int.toNat_natCast, ByteArray.size_extract, Nat.min_self] at c82b4)
                                                  try have c82b2 : (9223372036854775807 < (((t221 ++ (⟨#[91]⟩ : ByteArray)) ++ ((rdOf ByteArray.empty x0_1 0).extract ((t221.size : Int) : Int).toNat (rdOf ByteArray.empty x0_1 0).size)) ++ (⟨#[45]⟩ : ByteArray)).size + ((rdOf ByteArray.empty x0_1 (ji77)).extract ((t221.size : Int) : Int).toNat (rdOf ByteArray.empty x0_1 (ji77)).size).size) = False := eq_false (Nat.not_lt.2 c82)
                                                  by_cases c83 : ((((t221 ++ (⟨#[91]⟩ : ByteArray)) ++ ((rdOf ByteArray.empty x0_1 0).extract ((t221.size : Int) : Int).toNat (rdOf ByteArray.empty x0_1 0).size)) ++ (⟨#[45]⟩ : ByteArray)) ++ ((rdOf ByteArray.empty x0_1 (ji77)).extract ((t221.size : Int) : Int).toNat (rdOf ByteArray.empty x0_1 (ji77)).size)).size + 1 ≤ 9223372036854775807
                                                  · rw [if_pos c83] at H
                                                    have c83b0 := eq_true c83
                                                    have c83b1 : decide (((((t221 ++ (⟨#[91]⟩ : ByteArray)) ++ ((rdOf ByteArray.empty x0_1 0).extract ((t221.size : Int) : Int).toNat (rdOf ByteArray.empty x0_1 0).size)) ++ (⟨#[45]⟩ : ByteArray)) ++ ((rdOf ByteArray.empty x0_1 (ji77)).extract ((t221.size : Int) : Int).toNat (rdOf ByteArray.empty x0_1 (ji77)).size)).size + 1 ≤ 9223372036854775807) = true := decide_eq_true c83
                                                    try have c83b3 : (9223372036854775807 < t221.size + 1 + ((rdOf ByteArray.empty x0_1 0).extract ((t221.size : Int) : Int).toNat (rdOf ByteArray.empty x0_1 0).size).size + 1 + ((rdOf ByteArray.empty x0_1 (ji77)).extract ((t221.size : Int) : Int).toNat (rdOf ByteArray.empty x0_1 (ji77)).size).size + 1) = False := eq_false (by have z := c83; rw [show ((((t221 ++ (⟨#[91]⟩ : ByteArray)) ++ ((rdOf ByteArray.empty x0_1 0).extract ((t221.size : Int) : Int).toNat (rdOf ByteArray.empty x0_1 0).size)) ++ (⟨#[45]⟩ : ByteArray)) ++ ((rdOf ByteArray.empty x0_1 (ji77)).extract ((t221.size : Int) : Int).toNat (rdOf ByteArray.empty x0_1 (ji77)).size)).size + 1 = t221.size + 1 + ((rdOf ByteArray.empty x0_1 0).extract ((t221.size : Int) : Int).toNat (rdOf ByteArray.empty x0_1 0).size).size + 1 + ((rdOf ByteArray.empty x0_1 (ji77)).extract ((t221.size : Int) : Int).toNat (rdOf ByteArray.empty x0_1 (ji77)).size).size + 1 from by rw [ByteArray.size_append]; rw [ByteArray.size_append]; rw [ByteArray.size_append]; rw [ByteArray.size_append]; rfl] at z; omega)
                                                    try (have c83b4 := c83b3; simp only [Int.toNat_natCast, ByteArray.size_extract, Nat.min_self] at c83b4)
                                                    try have c83b2 : (9223372036854775807 < ((((t221 ++ (⟨#[91]⟩ : ByteArray)) ++ ((rdOf ByteArray.empty x0_1 0).extract ((t221.size : Int) : Int).toNat (rdOf ByteArray.empty x0_1 0).size)) ++ (⟨#[45]⟩ : ByteArray)) ++ ((rdOf ByteArray.empty x0_1 (ji77)).extract ((t221.size : Int) : Int).toNat (rdOf ByteArray.empty x0_1 (ji77)).size)).size + 1) = False := eq_false (Nat.not_lt.2 c83)
                                                    by_cases c84 : x3_1.length < 8796093022208
                                                    · rw [if_pos c84] at H
                                                      have LMc84 := Aside0.mk c84
                                                      clear c84
                                                      obtain ⟨y264, hy264⟩ : ∃ y_ : List ByteArray, y_ = (x3_1 ++ [((((t221 ++ (⟨#[91]⟩ : ByteArray)) ++ ((rdOf ByteArray.empty x0_1 0).extract ((t221.size : Int) : Int).toNat (rdOf ByteArray.empty x0_1 0).size)) ++ (⟨#[45]⟩ : ByteArray)) ++ ((rdOf ByteArray.empty x0_1 (ji77)).extract ((t221.size : Int) : Int).toNat (rdOf ByteArray.empty x0_1 (ji77)).size)) ++ (⟨#[93]⟩ : ByteArray)]) := ⟨_, rfl⟩
                                                      replace H : (if 0 ≤ x9_4 then (if x9_4 ≤ (x0_1.length : Int) then (host_Compress.l0 kj17 (x0_1.drop (x9_4 : Int).toNat) y264) else (none)) else (none)) = some r := by first | (rw [hy264]; with_reducible exact H) | (have H2_ := (Option.bind_some _ _).symm.trans H; rw [hy264]; with_reducible exact H2_) | (have H2_ := (Option.bind_some _ _).symm.trans H; with_reducible exact H2_) | with_reducible exact H | (rw [hy264]; exact H) | exact H
                                                      have Ny264 := Aside0.mk hy264
                                                      clear hy264
                                                      by_cases c85 : 0 ≤ x9_4
                                                      · rw [if_pos c85] at H
                                                        have c85b0 := eq_true c85
                                                        have c85b1 : decide (0 ≤ x9_4) = true := decide_eq_true c85
                                                        clear c85
                                                        by_cases c86 : x9_4 ≤ (x0_1.length : Int)
                                                        · rw [if_pos c86] at H
                                                          have c86b0 := eq_true c86
                                                          have c86b1 : decide (x9_4 ≤ (x0_1.length : Int)) = true := decide_eq_true c86
                                                          clear c86
                                                          obtain ⟨y267, hy267⟩ : ∃ y_ : List ByteArray, y_ = (x0_1.drop (x9_4 : Int).toNat) := ⟨_, rfl⟩
                                                          replace H : (host_Compress.l0 kj17 y267 y264) = some r := by first | (rw [hy267]; with_reducible exact H) | (have H2_ := (Option.bind_some _ _).symm.trans H; rw [hy267]; with_reducible exact H2_) | (have H2_ := (Option.bind_some _ _).symm.trans H; with_reducible exact H2_) | with_reducible exact H | (rw [hy267]; exact H) | exact H
                                                          have Ny267 := Aside0.mk hy267
                                                          clear hy267
                                                          have H' := Aside0.mk H
                                                          clear H
                                                          try go_wp2
                                                          have n0_ := Aside0.mk (Kd.V_drew HO_0.out)
                                                          have n1_ := Aside0.mk (Kd.R_drew HO_3.out)
                                                          have n2_ := Aside0.mk (blk_drew BK225.out)
                                                          have n3_ := Aside0.mk (below_drew1 HB.out)
                                                          clear HO_0
                                                          clear HO_3
                                                          clear BK225
                                                          clear HB
                                                          have HO_0 := n0_
                                                          have HO_3 := n1_
                                                          have BK225 := n2_
                                                          have HB := n3_
                                                          clear n0_ n1_ n2_ n3_
                                                          have p262 : 0 ≤ (0 : Int) := (by omega)
                                                          have q262 : 0 < (x0_1.length : Int) := of_decide_eq_true (by first | (with_reducible assumption) | assumption)
                                                          obtain ⟨ad262, e262, hx262_0⟩ := Kd.at_string (Kd.V_reads' HO_0.out).2.2 0 p262 q262
                                                          obtain rfl : ad220 = ad262 := (by injection e262)
                                                          have qi262 : (0 < x0_1.length) = True := eq_true (by omega)
                                                          (try rw [show ((0 : Int)).toNat = 0 from rfl] at hx262_0)
                                                          (try rw [Addr.add_zero'] at hx262_0)
                                                          replace p262 := eq_true p262
                                                          replace q262 := eq_true q262
                                                          have p263 : 0 ≤ ((ji77) : Int) := of_decide_eq_true (by first | (with_reducible assumption) | assumption)
                                                          have q263 : (ji77) < (x0_1.length : Int) := of_decide_eq_true (by first | (with_reducible assumption) | assumption)
                                                          obtain ⟨ad263, e263, hx263_0⟩ := Kd.at_string (Kd.V_reads' HO_0.out).2.2 (ji77) p263 q263
                                                          obtain rfl : ad220 = ad263 := (by injection e263)
                                                          replace p263 := eq_true p263
                                                          replace q263 := eq_true q263
                                                          refine start_ (n := 24) (S := fun w' => w'.cell? ad220 = some (.string (rdOf ByteArray.empty x0_1 0)) ∧ w'.cell? (ad220.add ((ji77)).toNat) = some (.string (rdOf ByteArray.empty x0_1 (ji77)))) (ds := [21, 22]) #[false, false, false, false, false, false, false, false, false, false, false, false, false, false, false, false, false, false, false, false, false, false, false, false] (by kernel_rfl) rfl rfl ⟨hx262_0, hx263_0⟩ (fun hHeld => ?_); refine with_tabW host_Compress.tab14 host_Compress.bits14 (fun HT_ HW_ => ?_)
                                                          generalize wc.drew = w87 at HO_0 HO_3 BK225 HB hx262_0 hx263_0 hHeld ⊢
                                                          refine pure_ (i := 0) (N := some 93) (v := ?_) (a' := ?_) #[true, false, false, false, false, false, false, false, false, false, false, false, false, false, false, false, false, false, false, false, false, false, false, false] rfl rfl (any_of HT_.out (by kernel_rfl)) (fun _ _ _ h => h) (Or.inl ⟨by rfl, ?_⟩) ?_ ?_
                                                          rotate_left
                                                          · intro w'
                                                            go_simp
                                                            with_reducible rfl
                                                          rotate_left
                                                          · simp only [Act.put, List.setIfInBounds_toArray, List.set_cons_zero, List.set_cons_succ, i64_w, i32_w]
                                                            rfl
                                                          refine pure_ (i := 1) (N := some 94) (v := ?_) (a' := ?_) #[true, true, false, false, false, false, false, false, false, false, false, false, false, false, false, false, false, false, false, false, false, false, false, false] rfl rfl (any_of HT_.out (by kernel_rfl)) (fun _ _ _ h => h) (Or.inl ⟨by rfl, ?_⟩) ?_ ?_
                                                          rotate_left
                                                          · intro w'
                                                            go_simp
                                                            with_reducible rfl
                                                          rotate_left
                                                          · simp only [Act.put, List.setIfInBounds_toArray, List.set_cons_zero, List.set_cons_succ, i64_w, i32_w]
                                                            rfl
                                                          refine pure_ (i := 2) (N := some 95) (v := ?_) (a' := ?_) #[true, true, true, false, false, false, false, false, false, false, false, false, false, false, false, false, false, false, false, false, false, false, false, false] rfl rfl (any_of HT_.out (by kernel_rfl)) (fun _ _ _ h => h) (Or.inl ⟨by rfl, ?_⟩) ?_ ?_
                                                          rotate_left
                                                          · intro w'
                                                            go_simp
                                                            with_reducible rfl
                                                          rotate_left
                                                          · simp only [Act.put, List.setIfInBounds_toArray, List.set_cons_zero, List.set_cons_succ, i64_w, i32_w]
                                                            rfl
                                                          refine pure_ (i := 3) (N := some 96) (v := ?_) (a' := ?_) #[true, true, true, true, false, false, false, false, false, false, false, false, false, false, false, false, false, false, false, false, false, false, false, false] rfl rfl (any_of HT_.out (by kernel_rfl)) (fun _ _ _ h => h) (Or.inl ⟨by rfl, ?_⟩) ?_ ?_
                                                          rotate_left
                                                          · intro w'
                                                            go_simp
                                                            with_reducible rfl
                                                          rotate_left
                                                          · simp only [Act.put, List.setIfInBounds_toArray, List.set_cons_zero, List.set_cons_succ, i64_w, i32_w]
                                                            rfl
                                                          refine pure_ (i := 4) (N := some 97) (v := ?_) (a' := ?_) #[true, true, true, true, true, false, false, false, false, false, false, false, false, false, false, false, false, false, false, false, false, false, false, false] rfl rfl (any_of HT_.out (by kernel_rfl)) (fun _ _ _ h => h) (Or.inl ⟨by rfl, ?_⟩) ?_ ?_
                                                          rotate_left
                                                          · intro w'
                                                            go_simp
                                                            with_reducible rfl
                                                          rotate_left
                                                          · simp only [Act.put, List.setIfInBounds_toArray, List.set_cons_zero, List.set_cons_succ, i64_w, i32_w]
                                                            rfl
                                                          refine pure_ (i := 6) (N := some 99) (v := ?_) (a' := ?_) #[true, true, true, true, true, false, true, false, false, false, false, false, false, false, false, false, false, false, false, false, false, false, false, false] rfl rfl (any_of HT_.out (by kernel_rfl)) (fun _ _ _ h => h) (Or.inl ⟨by rfl, ?_⟩) ?_ ?_
                                                          rotate_left
                                                          · intro w'
                                                            go_simp
                                                            with_reducible rfl
                                                          rotate_left
                                                          · simp only [Act.put, List.setIfInBounds_toArray, List.set_cons_zero, List.set_cons_succ, i64_w, i32_w]
                                                            rfl
                                                          refine pure_ (i := 7) (N := some 100) (v := ?_) (a' := ?_) #[true, true, true, true, true, false, true, true, false, false, false, false, false, false, false, false, false, false, false, false, false, false, false, false] rfl rfl (any_of HT_.out (by kernel_rfl)) (fun _ _ _ h => h) (Or.inl ⟨by rfl, ?_⟩) ?_ ?_
                                                          rotate_left
                                                          · intro w'
                                                            go_simp
                                                            with_reducible rfl
                                                          rotate_left
                                                          · simp only [Act.put, List.setIfInBounds_toArray, List.set_cons_zero, List.set_cons_succ, i64_w, i32_w]
                                                            rfl
                                                          refine pure_ (i := 11) (N := some 104) (v := ?_) (a' := ?_) #[true, true, true, true, true, false, true, true, false, false, false, true, false, false, false, false, false, false, false, false, false, false, false, false] rfl rfl (any_of HT_.out (by kernel_rfl)) (fun _ _ _ h => h) (Or.inl ⟨by rfl, ?_⟩) ?_ ?_
                                                          rotate_left
                                                          · intro w'
                                                            go_simp
                                                            with_reducible rfl
                                                          rotate_left
                                                          · simp only [Act.put, List.setIfInBounds_toArray, List.set_cons_zero, List.set_cons_succ, i64_w, i32_w]
                                                            rfl
                                                          refine pure_ (i := 12) (N := some 105) (v := ?_) (a' := ?_) #[true, true, true, true, true, false, true, true, false, false, false, true, true, false, false, false, false, false, false, false, false, false, false, false] rfl rfl (any_of HT_.out (by kernel_rfl)) (fun _ _ _ h => h) (Or.inl ⟨by rfl, ?_⟩) ?_ ?_
                                                          rotate_left
                                                          · intro w'
                                                            go_simp
                                                            with_reducible rfl
                                                          rotate_left
                                                          · simp only [Act.put, List.setIfInBounds_toArray, List.set_cons_zero, List.set_cons_succ, i64_w, i32_w]
                                                            rfl
                                                          refine pure_ (i := 13) (N := some 106) (v := ?_) (a' := ?_) #[true, true, true, true, true, false, true, true, false, false, false, true, true, true, false, false, false, false, false, false, false, false, false, false] rfl rfl (any_of HT_.out (by kernel_rfl)) (fun _ _ _ h => h) (Or.inl ⟨by rfl, ?_⟩) ?_ ?_
                                                          rotate_left
                                                          · intro w'
                                                            go_simp
                                                            with_reducible rfl
                                                          rotate_left
                                                          · simp only [Act.put, List.setIfInBounds_toArray, List.set_cons_zero, List.set_cons_succ, i64_w, i32_w]
                                                            rfl
                                                          refine pure_ (i := 14) (N := some 107) (v := ?_) (a' := ?_) #[true, true, true, true, true, false, true, true, false, false, false, true, true, true, true, false, false, false, false, false, false, false, false, false] rfl rfl (any_of HT_.out (by kernel_rfl)) (fun _ _ _ h => h) (Or.inl ⟨by rfl, ?_⟩) ?_ ?_
                                                          rotate_left
                                                          · intro w'
                                                            go_simp
                                                            with_reducible rfl
                                                          rotate_left
                                                          · simp only [Act.put, List.setIfInBounds_toArray, List.set_cons_zero, List.set_cons_succ, i64_w, i32_w]
                                                            rfl
                                                          refine pure_ (i := 16) (N := some 109) (v := ?_) (a' := ?_) #[true, true, true, true, true, false, true, true, false, false, false, true, true, true, true, false, true, false, false, false, false, false, false, false] rfl rfl (any_of HT_.out (by kernel_rfl)) (fun _ _ _ h => h) (Or.inl ⟨by rfl, ?_⟩) ?_ ?_
                                                          rotate_left
                                                          · intro w'
                                                            go_simp
                                                            with_reducible rfl
                                                          rotate_left
                                                          · simp only [Act.put, List.setIfInBounds_toArray, List.set_cons_zero, List.set_cons_succ, i64_w, i32_w]
                                                            rfl
                                                          refine pure_ (i := 17) (N := some 110) (v := ?_) (a' := ?_) #[true, true, true, true, true, false, true, true, false, false, false, true, true, true, true, false, true, true, false, false, false, false, false, false] rfl rfl (any_of HT_.out (by kernel_rfl)) (fun _ _ _ h => h) (Or.inl ⟨by rfl, ?_⟩) ?_ ?_
                                                          rotate_left
                                                          · intro w'
                                                            go_simp
                                                            with_reducible rfl
                                                          rotate_left
                                                          · simp only [Act.put, List.setIfInBounds_toArray, List.set_cons_zero, List.set_cons_succ, i64_w, i32_w]
                                                            rfl
                                                          refine take_ (i := 5) (N := some 98) (v := ?_) (a' := ?_) #[true, true, true, true, true, true, true, true, false, false, false, true, true, true, true, false, true, true, false, false, false, false, false, false] rfl rfl (take_ofW HT_.out HW_.out (by kernel_rfl)) (fun _ _ _ h => h) (Or.inl ⟨by rfl, ?_⟩) hHeld ?_ ?_
                                                          rotate_left
                                                          · rintro w' ⟨s0, s1⟩
                                                            go_simp
                                                            with_reducible rfl
                                                          rotate_left
                                                          · simp only [Act.put, List.setIfInBounds_toArray, List.set_cons_zero, List.set_cons_succ, i64_w, i32_w]
                                                            rfl
                                                          refine pure_ (i := 8) (N := some 101) (v := ?_) (a' := ?_) #[true, true, true, true, true, true, true, true, true, false, false, true, true, true, true, false, true, true, false, false, false, false, false, false] rfl rfl (any_of HT_.out (by kernel_rfl)) (fun _ _ _ h => h) (Or.inl ⟨by rfl, ?_⟩) ?_ ?_
                                                          rotate_left
                                                          · intro w'
                                                            go_simp
                                                            with_reducible rfl
                                                          rotate_left
                                                          · simp only [Act.put, List.setIfInBounds_toArray, List.set_cons_zero, List.set_cons_succ, i64_w, i32_w]
                                                            rfl
                                                          refine pure_ (i := 9) (N := some 102) (v := ?_) (a' := ?_) #[true, true, true, true, true, true, true, true, true, true, false, true, true, true, true, false, true, true, false, false, false, false, false, false] rfl rfl (any_of HT_.out (by kernel_rfl)) (fun _ _ _ h => h) (Or.inl ⟨by rfl, ?_⟩) ?_ ?_
                                                          rotate_left
                                                          · intro w'
                                                            go_simp
                                                            with_reducible rfl
                                                          rotate_left
                                                          · simp only [Act.put, List.setIfInBounds_toArray, List.set_cons_zero, List.set_cons_succ, i64_w, i32_w]
                                                            rfl
                                                          refine pure_ (i := 10) (N := some 103) (v := ?_) (a' := ?_) #[true, true, true, true, true, true, true, true, true, true, true, true, true, true, true, false, true, true, false, false, false, false, false, false] rfl rfl (any_of HT_.out (by kernel_rfl)) (fun _ _ _ h => h) (Or.inl ⟨by rfl, ?_⟩) ?_ ?_
                                                          rotate_left
                                                          · intro w'
                                                            go_simp
                                                            with_reducible rfl
                                                          rotate_left
                                                          · simp only [Act.put, List.setIfInBounds_toArray, List.set_cons_zero, List.set_cons_succ, i64_w, i32_w]
                                                            rfl
                                                          refine take_ (i := 15) (N := some 108) (v := ?_) (a' := ?_) #[true, true, true, true, true, true, true, true, true, true, true, true, true, true, true, true, true, true, false, false, false, false, false, false] rfl rfl (take_ofW HT_.out HW_.out (by kernel_rfl)) (fun _ _ _ h => h) (Or.inl ⟨by rfl, ?_⟩) hHeld ?_ ?_
                                                          rotate_left
                                                          · rintro w' ⟨s0, s1⟩
                                                            go_simp
                                                            with_reducible rfl
                                                          rotate_left
                                                          · simp only [Act.put, List.setIfInBounds_toArray, List.set_cons_zero, List.set_cons_succ, i64_w, i32_w]
                                                            rfl
                                                          refine pure_ (i := 18) (N := some 111) (v := ?_) (a' := ?_) #[true, true, true, true, true, true, true, true, true, true, true, true, true, true, true, true, true, true, true, false, false, false, false, false] rfl rfl (any_of HT_.out (by kernel_rfl)) (fun _ _ _ h => h) (Or.inl ⟨by rfl, ?_⟩) ?_ ?_
                                                          rotate_left
                                                          · intro w'
                                                            go_simp
                                                            with_reducible rfl
                                                          rotate_left
                                                          · simp only [Act.put, List.setIfInBounds_toArray, List.set_cons_zero, List.set_cons_succ, i64_w, i32_w]
                                                            rfl
                                                          refine pure_ (i := 19) (N := some 112) (v := ?_) (a' := ?_) #[true, true, true, true, true, true, true, true, true, true, true, true, true, true, true, true, true, true, true, true, false, false, false, false] rfl rfl (any_of HT_.out (by kernel_rfl)) (fun _ _ _ h => h) (Or.inl ⟨by rfl, ?_⟩) ?_ ?_
                                                          rotate_left
                                                          · intro w'
                                                            go_simp
                                                            with_reducible rfl
                                                          rotate_left
                                                          · simp only [Act.put, List.setIfInBounds_toArray, List.set_cons_zero, List.set_cons_succ, i64_w, i32_w]
                                                            rfl
                                                          refine pure_ (i := 20) (N := some 113) (v := ?_) (a' := ?_) #[true, true, true, true, true, true, true, true, true, true, true, true, true, true, true, true, true, true, true, true, true, false, false, false] rfl rfl (any_of HT_.out (by kernel_rfl)) (fun _ _ _ h => h) (Or.inl ⟨by rfl, ?_⟩) ?_ ?_
                                                          rotate_left
                                                          · intro w'
                                                            go_simp
                                                            with_reducible rfl
                                                          rotate_left
                                                          · simp only [Act.put, List.setIfInBounds_toArray, List.set_cons_zero, List.set_cons_succ, i64_w, i32_w]
                                                            rfl
                                                          refine last_ (i := 21) (N := some 114) #[true, true, true, true, true, true, true, true, true, true, true, true, true, true, true, true, true, true, true, true, true, true, false, false] rfl rfl (one_of HT_.out (by kernel_rfl)) (by decide) (fun K hK => ?_)
                                                          refine value_ (w1 := ?_) (v := ?_) (by rfl) rfl ?_ ?_
                                                          rotate_left 2
                                                          · go_simp
                                                            constructor
                                                            · rfl
                                                            · rfl
                                                          refine hK.out _ _ ?_
                                                          clear hK K
                                                          refine norm_ (a' := ?_) ?_ ?_
                                                          rotate_left
                                                          · show Act.put _ (some 114) _ = _
                                                            simp only [Act.put, List.setIfInBounds_toArray, List.set_cons_zero, List.set_cons_succ, i64_w, i32_w]
                                                            rfl
                                                          refine last_ (i := 22) (N := some 115) #[true, true, true, true, true, true, true, true, true, true, true, true, true, true, true, true, true, true, true, true, true, true, true, false] rfl rfl (one_of HT_.out (by kernel_rfl)) (by decide) (fun K hK => ?_)
                                                          refine Kd.R_append_step Kd.string (w0 := w) w.heap.size (by rfl) (.tmp 93) (.tmp 114) 22 9 (.string ⟨#[]⟩) 16 rfl Tryd.underlying22 info9 rfl (by decide) (by omega) u3 x3_1 (((((t221 ++ (⟨#[91]⟩ : ByteArray)) ++ ((rdOf ByteArray.empty x0_1 0).extract ((t221.size : Int) : Int).toNat (rdOf ByteArray.empty x0_1 0).size)) ++ (⟨#[45]⟩ : ByteArray)) ++ ((rdOf ByteArray.empty x0_1 (ji77)).extract ((t221.size : Int) : Int).toNat (rdOf ByteArray.empty x0_1 (ji77)).size)) ++ (⟨#[93]⟩ : ByteArray)) [.string (((((t221 ++ (⟨#[91]⟩ : ByteArray)) ++ ((rdOf ByteArray.empty x0_1 0).extract ((t221.size : Int) : Int).toNat (rdOf ByteArray.empty x0_1 0).size)) ++ (⟨#[45]⟩ : ByteArray)) ++ ((rdOf ByteArray.empty x0_1 (ji77)).extract ((t221.size : Int) : Int).toNat (rdOf ByteArray.empty x0_1 (ji77)).size)) ++ (⟨#[93]⟩ : ByteArray))] (fun k_ => (w.heap.size ≤ k_)) (fun _ => False) rfl rfl ?aP (fun _ hk => hk.elim) ?aF ?aO ?aB ?aS ?aL ?_
                                                          (case aP => exact rfl)
                                                          (case aB => exact (by repeat (first | (with_reducible first | exact HB.out | apply below_alloc | apply pw_below_drewN | apply below_drew1 | refine below_set ?_ GE225.out) | exact HB.out)))
                                                          (case aF => exact (fun k_ hk => (Nat.le_trans (below_size (by repeat (first | (with_reducible first | exact HB.out | apply below_alloc | apply pw_below_drewN | apply below_drew1 | refine below_set ?_ GE225.out) | exact HB.out))) hk)))
                                                          (case aO => exact (by (with_reducible repeat (first | apply Kd.R_alloc | apply Kd.R_drewN | apply Kd.R_drew)); exact HO_3.out))
                                                          (case aS => exact (below_size (by repeat (first | (with_reducible first | exact HB.out | apply below_alloc | apply pw_below_drewN | apply below_drew1 | refine below_set ?_ GE225.out) | exact HB.out))))
                                                          (case aL => have := LMc84.out; omega)
                                                          intro v265 w88 ho hb hg hat
                                                          rw [← Ny264.out] at ho
                                                          have n0_ := Aside0.mk (Kd.V_afterv (ok := (fun k_ => (P0_ k_ ∨ w.heap.size ≤ k_) ∧ k_ ≠ gb225)) (by (with_reducible repeat (first | apply Kd.V_alloc | apply Kd.V_drewN | apply Kd.V_drew)); exact Kd.V_mono HO_0.out (fun _ hk => ⟨⟨hk.1, hk.2.2⟩, hk.2.1⟩)) hg hat)
                                                          have n1_ := Aside0.mk (blk_grown (g := gb225) (o := .cells #[.int .i64 0, .int .i64 0, .int .i64 x226002_14] 54 (0, 0)) (by (with_reducible repeat (first | refine blk_drewN ?_ _ | refine blk_drew ?_ | refine blk_alloc ?_ _)); exact BK225.out) hg (Kd.R_ne HO_3.out BK225.out (by decide)))
                                                          have n2_ := Aside0.mk (hb)
                                                          have n3_ := Aside0.mk (ho)
                                                          clear HO_0
                                                          clear BK225
                                                          clear HB
                                                          clear HO_3
                                                          have HO_0 := n0_
                                                          have BK225 := n1_
                                                          have HB := n2_
                                                          have HO266 := n3_
                                                          clear n0_ n1_ n2_ n3_
                                                          clear ho hb hg hat
                                                          refine hK.out _ _ ?_
                                                          clear hK K
                                                          refine norm_ (a' := ?_) ?_ ?_
                                                          rotate_left
                                                          · show Act.put _ (some 115) _ = _
                                                            simp only [Act.put, List.setIfInBounds_toArray, List.set_cons_zero, List.set_cons_succ, i64_w, i32_w]
                                                            rfl
                                                          refine pure_ (i := 23) (N := some 3) (v := ?_) (a' := ?_) #[true, true, true, true, true, true, true, true, true, true, true, true, true, true, true, true, true, true, true, true, true, true, true, true] rfl rfl (any_of HT_.out (by kernel_rfl)) (fun _ _ _ h => h) (Or.inl ⟨by rfl, ?_⟩) ?_ ?_
                                                          rotate_left
                                                          · intro w'
                                                            go_simp
                                                            with_reducible rfl
                                                          rotate_left
                                                          · simp only [Act.put, List.setIfInBounds_toArray, List.set_cons_zero, List.set_cons_succ, i64_w, i32_w]
                                                            rfl
                                                          refine done_ (done_of HT_.out (by kernel_rfl)) ?_
                                                          have q89 : (x9_4 : Int) ≤ ((x0_1.length : Int) : Int) := of_decide_eq_true (by first | (with_reducible assumption) | assumption)
                                                          obtain ⟨i089, hi089, _, hsz89, _⟩ := info_parts info9
                                                          have hroom89 : x0_1.length ≤ co6 := (Kd.V_reads' HO_0.out).2.1
                                                          have hC89 : Kd.F Kd.string _ _ (some ad220) x0_1.length x0_1 := (Kd.V_at (base := w.heap.size) HO_0.out).2.2
                                                          have q089 : (0 : Int) ≤ (x9_4 : Int) := of_decide_eq_true (by first | (with_reducible assumption) | assumption)
                                                          have hcut89 := cut_from (P := Tryd.prog) 22 9 .i64 Tryd.underlying22 hi089 1 hsz89 (some ad220) x0_1.length co6 x9_4 q089 q89
                                                          have hr89 := Kd.F_cut (m := (x9_4 : Int).toNat) (c := co6) hC89 (by omega) hroom89
                                                          obtain ⟨A89, hA89⟩ : ∃ A1, A1 = (if co6 = (x9_4 : Int).toNat then (some ad220) else ((some ad220) : Option Addr).map (·.add ((x9_4 : Int).toNat * 1))) := ⟨_, rfl⟩
                                                          obtain ⟨c89, hc89⟩ : ∃ c1, c1 = co6 - (x9_4 : Int).toNat := ⟨_, rfl⟩
                                                          have hy89 : y267.length = x0_1.length - (x9_4 : Int).toNat := (by rw [Ny267.out, List.length_drop] <;> omega)
                                                          rw [show (x0_1).drop (x9_4 : Int).toNat = y267 from Ny267.out.symm] at hr89
                                                          replace hr89 : Kd.F Kd.string _ _ A89 y267.length y267 := (by rw [hA89]; exact hr89)
                                                          rw [← hy89, ← hA89, ← hc89] at hcut89
                                                          have HO271 := Aside0.mk (show Kd.V Kd.string 9 _ w.heap.size _ (.slice A89 y267.length c89) y267 from Kd.V_mk (by rw [hy89, hc89]; exact Nat.sub_le_sub_right hroom89 _) hr89)
                                                          have HC271 := Aside0.mk (show y267.length ≤ c89 from by rw [hy89, hc89]; exact Nat.sub_le_sub_right hroom89 _)
                                                          clear hr89 hC89 hroom89 hi089 hsz89 hc89
                                                          have KY89 := Aside0.mk hy89
                                                          have KA89 := Aside0.mk hA89
                                                          clear hy89 hA89
                                                          replace q89 := eq_true q89
                                                          try go_wp2
                                                          go_roundg kj17
                                                          case measure => have := HK1.out; have := HJ4.out; have := HJ14.out; have := HK4.out; have := HJ17.out; omega
                                                          case rel => exact ⟨(y267), (y264), H', ⟨by have := HK1.out; have := HJ4.out; have := HJ14.out; have := HK4.out; have := HJ17.out; omega⟩, ⟨by (with_reducible repeat (first | apply Kd.V_alloc | apply Kd.V_drewN | apply Kd.V_drew)); exact Kd.V_mono HO271.out (fun _ hk => ⟨hk.1.1, hk.2⟩)⟩, ⟨by (with_reducible repeat (first | apply Kd.R_alloc | apply Kd.R_drewN | apply Kd.R_drew)); exact HO266.out⟩, ⟨by repeat (first | (with_reducible first | exact HB.out | apply below_alloc | apply pw_below_drewN | apply below_drew1 | refine below_set ?_ GE225.out) | exact HB.out)⟩⟩
                                                        · rw [if_neg c86] at H
                                                          exact absurd H (by simp)
                                                      · rw [if_neg c85] at H
                                                        exact absurd H (by simp)
                                                    · rw [if_neg c84] at H
                                                      exact absurd H (by simp)
                                                  · rw [if_neg c83] at H
                                                    exact absurd H (by simp)
                                                · rw [if_neg c82] at H
                                                  exact absurd H (by simp)
                                              · rw [if_neg c81] at H
                                                exact absurd H (by simp)
                                            · rw [if_neg c79] at H
                                              exact absurd H (by simp)
                                          · rw [if_neg c78] at H
                                            exact absurd H (by simp)
                                        · rw [if_neg c76] at H
                                          exact absurd H (by simp)
                                      · rw [if_neg c75] at H
                                        exact absurd H (by simp)
                                    · rw [if_neg c74] at H
                                      exact absurd H (by simp)
                                  · rw [if_neg c73] at H
                                    exact absurd H (by simp)
                                · rw [if_neg c72] at H
                                  exact absurd H (by simp)
                              · rw [if_neg c71] at H
                                exact absurd H (by simp)
        · rw [if_neg c3] at H
          exact absurd H (by simp)
      · rw [if_neg c2] at H
        have c2b0 : decide (0 < (x0_1.length : Int)) = false := decide_eq_false c2
        have c2b1 : decide (0 < x0_1.length) = false := decide_eq_false (by omega)
        clear c2
        replace H := Option.bind_eq_some_iff.mp H
        obtain ⟨t219, A900, H⟩ := H
        replace H : (some t219) = some r := H
        have A90 := Aside0.mk A900
        clear A900
        obtain rfl := Option.some.inj H
        obtain ⟨Ao91, co91, eo91⟩ := Kd.V_slice HO_0.out
        subst eo91
        obtain ⟨Ao92, co92, eo92⟩ := Kd.R_slice HO_3.out
        subst eo92
        go_wp2_with (first | ((with_reducible refine gate_callee (f := 29) rfl ?_); refine goesL_ (some 120) rfl rfl Tryd.func29 (by kernel_rfl) rfl #[.slice Ao92 x3_1.length co92, .string (⟨#[44]⟩ : ByteArray)] rfl (by (try simp only [List.map_toArray, List.map_cons, List.map_nil]); first | done | rfl | (simp only [List.length_drop, List.length_take]; rfl)) ?_; (with_reducible refine (strings_Join.calls _ _ x3_1 (⟨#[44]⟩ : ByteArray) t219 _ ?side1 ?side2 A90.out).mono ?_); (case side1 => repeat (first | exact (Kd.R_reads' HO_3.out).2.2 | (with_reducible refine Kd.C_alloc ?_ _) | (with_reducible refine Kd.C_drewN ?_ _) | (with_reducible refine Kd.C_drew ?_))); (case side2 => exact (Kd.R_reads' HO_3.out).2.1); rintro e w93 ⟨rfl, hb⟩; refine ⟨_, rfl, ?_⟩; have n0_ := Aside0.mk (Kd.V_below (by (with_reducible repeat (first | apply Kd.V_alloc | apply Kd.V_drewN | apply Kd.V_drew)); exact HO_0.out) hb); have n1_ := Aside0.mk (Kd.R_below (by (with_reducible repeat (first | apply Kd.R_alloc | apply Kd.R_drewN | apply Kd.R_drew)); exact HO_3.out) hb); have n2_ := Aside0.mk (below_step (by repeat (first | (with_reducible first | exact HB.out | apply below_alloc | apply pw_below_drewN | apply below_drew1) | exact HB.out)) hb); clear HO_0; clear HO_3; clear HB; have HO_0 := n0_; have HO_3 := n1_; have HB := n2_; clear n0_ n1_ n2_; (try clear hb); (try clear hb2); (try clear hk); (try clear hi)))
        go_ret
        exact ⟨by first | rfl | (simp [errW_none, errW_some] <;> rfl) | (simp [*, errW_none, errW_some] <;> rfl), by repeat (first | (with_reducible first | exact HB.out | apply below_alloc | apply pw_below_drewN | apply below_drew1) | exact HB.out)⟩
end Go.Proofs.YtoammgpfbdcphaaDoor.PH
