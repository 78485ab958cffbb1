/- Part 7 of the proof of HostAgainCardSaid. -/
import Derived.Test.YtoammgpfbdcphaaDoorZ03
import Derived.Test.YtoammgpfbdcphaaDoorZ04
import Derived.Test.YtoammgpfbdcphaaDoorZ06
namespace Go.Proofs.YtoammgpfbdcphaaDoor.PH
open Go.RowKit Go.Proofs.YtoammgpfbdcphaaDoor.Lib Go.Proofs.YtoammgpfbdcphaaDoorW.PrintWords Go.Proofs.YtoammgpfbdcphaaDoorW.PrintLast Go.Proofs.YtoammgpfbdcphaaDoorW.PrintMore
attribute [local go_sem] max2_int min2_int max_two min_two max_three min_three max_four min_four   
set_option linter.unusedVariables false
set_option linter.unusedSimpArgs false
attribute [local go_sem high] eqA27
mutual
def host_Expand.l0 : Nat → ByteArray → List ByteArray → ByteArray → Int → Int → Int → Option (List ByteArray × Int × Int)
  | 0, _, _, _, _, _, _ => none
  | k + 1, x0, x5, x172000, x172001, x172002, x172003 => (host_reader_take.f k x172000 x172001 x172002 x172003 (x0.size : Int) 24).bind fun bt172 => ((some (([] : List (S54)) : List (S54))).bind fun y177 => ((host_reader_next.f bt172.2.1 bt172.2.2.1 bt172.2.2.2.1 bt172.2.2.2.2 91).bind fun bt180 => (if bt180.1 = true then (host_Expand.j1 k x0 x5 x172001 bt172.1 y177 (!bt180.1) (bt180.2.2.2.1 == 0 && (bt180.2.2.2.2 == 0)) bt180.2.1 bt180.2.2.1 bt180.2.2.2.1 bt180.2.2.2.2) else (host_Expand.j1 k x0 x5 x172001 bt172.1 y177 (!bt180.1) false bt180.2.1 bt180.2.2.1 bt180.2.2.2.1 bt180.2.2.2.2))))
def host_Expand.j1 : Nat → ByteArray → List ByteArray → Int → ByteArray → List (S54) → Bool → Bool → ByteArray → Int → Int → Int → Option (List ByteArray × Int × Int)
  | 0, _, _, _, _, _, _, _, _, _, _, _ => none
  | k + 1, x0, x5, x6, x7, x8, x9, x43, x172000, x172001, x172002, x172003 => if x43 = true then ((host_reader_spans.f k x172000 x172001 x172002 x172003).bind fun bt185 => (host_Expand.j2 k x0 x5 x6 x7 bt185.1 x9 bt185.2.1 bt185.2.2.1 bt185.2.2.2.1 bt185.2.2.2.2)) else (host_Expand.j2 k x0 x5 x6 x7 x8 x9 x172000 x172001 x172002 x172003)
def host_Expand.j2 : Nat → ByteArray → List ByteArray → Int → ByteArray → List (S54) → Bool → ByteArray → Int → Int → Int → Option (List ByteArray × Int × Int)
  | 0, _, _, _, _, _, _, _, _, _, _ => none
  | k + 1, x0, x5, x6, x7, x8, x9, x172000, x172001, x172002, x172003 => if x172001 < (x0.size : Int) then (if 0 ≤ x172001 then (host_Expand.j3 k x0 x5 x6 x7 x8 x9 ((bt x0 x172001) != 44) x172000 x172001 x172002 x172003) else (none)) else (host_Expand.j3 k x0 x5 x6 x7 x8 x9 false x172000 x172001 x172002 x172003)
def host_Expand.j3 : Nat → ByteArray → List ByteArray → Int → ByteArray → List (S54) → Bool → Bool → ByteArray → Int → Int → Int → Option (List ByteArray × Int × Int)
  | 0, _, _, _, _, _, _, _, _, _, _, _ => none
  | k + 1, x0, x5, x6, x7, x8, x9, x61, x172000, x172001, x172002, x172003 => if x61 = true then ((host_reader_wrong.f x172000 x172001 x172002 x172003).bind fun bt192 => (host_Expand.j4 k x0 x5 x6 x7 x8 x9 bt192.1 bt192.2.1 bt192.2.2.1 bt192.2.2.2)) else (host_Expand.j4 k x0 x5 x6 x7 x8 x9 x172000 x172001 x172002 x172003)
def host_Expand.j4 : Nat → ByteArray → List ByteArray → Int → ByteArray → List (S54) → Bool → ByteArray → Int → Int → Int → Option (List ByteArray × Int × Int)
  | 0, _, _, _, _, _, _, _, _, _, _ => none
  | k + 1, x0, x5, x6, x7, x8, x9, x172000, x172001, x172002, x172003 => if (!(x172002 == 0) || (!(x172003 == 0))) = true then (some (([] : List ByteArray), x172002, x172003)) else (host_Expand.l1 k x0 x5 x6 x7 x8 x9 0 x8 (x8.length : Int) 0 x172000 x172001 x172002 x172003)
def host_Expand.l1 : Nat → ByteArray → List ByteArray → Int → ByteArray → List (S54) → Bool → Int → List (S54) → Int → Int → ByteArray → Int → Int → Int → Option (List ByteArray × Int × Int)
  | 0, _, _, _, _, _, _, _, _, _, _, _, _, _, _ => none
  | k + 1, x0, x5, x6, x7, x8, x9, x10, x74, x75, x76, x172000, x172001, x172002, x172003 => if x76 < x75 then (if 0 ≤ x76 then (if x76 < (x74.length : Int) then (host_Expand.l1 k x0 x5 x6 x7 x8 x9 (wrap64 (x10 + (wrap64 ((wrap64 (((rd_T54 x74 x76).f1) - ((rd_T54 x74 x76).f0))) + 1)))) x74 x75 (wrap64 (x76 + 1)) x172000 x172001 x172002 x172003) else (none)) else (none)) else (if x9 = true then (host_Expand.j6 k x0 x5 x6 x7 x8 x9 1 x172000 x172001 x172002 x172003) else (host_Expand.j6 k x0 x5 x6 x7 x8 x9 x10 x172000 x172001 x172002 x172003))
def host_Expand.j6 : Nat → ByteArray → List ByteArray → Int → ByteArray → List (S54) → Bool → Int → ByteArray → Int → Int → Int → Option (List ByteArray × Int × Int)
  | 0, _, _, _, _, _, _, _, _, _, _, _ => none
  | k + 1, x0, x5, x6, x7, x8, x9, x10, x172000, x172001, x172002, x172003 => if x10 > (wrap64 (256 - (x5.length : Int))) then (some (([] : List ByteArray), 5, x6)) else (if x9 = true then (if x5.length < 8796093022208 then (host_Expand.j7 k x0 (x5 ++ [x7]) x7 x8 x172000 x172001 x172002 x172003) else (none)) else (host_Expand.j7 k x0 x5 x7 x8 x172000 x172001 x172002 x172003))
def host_Expand.j7 : Nat → ByteArray → List ByteArray → ByteArray → List (S54) → ByteArray → Int → Int → Int → Option (List ByteArray × Int × Int)
  | 0, _, _, _, _, _, _, _, _ => none
  | k + 1, x0, x5, x7, x8, x172000, x172001, x172002, x172003 => host_Expand.l2 k x0 x5 x7 x8 (x8.length : Int) 0 x172000 x172001 x172002 x172003
def host_Expand.l2 : Nat → ByteArray → List ByteArray → ByteArray → List (S54) → Int → Int → ByteArray → Int → Int → Int → Option (List ByteArray × Int × Int)
  | 0, _, _, _, _, _, _, _, _, _, _ => none
  | k + 1, x0, x5, x7, x102, x103, x104, x172000, x172001, x172002, x172003 => if x104 < x103 then (if 0 ≤ x104 then (if x104 < (x102.length : Int) then (host_Expand.l3 k x0 x5 x7 ((rd_T54 x102 x104).f0) x102 x103 x104 x172000 x172001 x172002 x172003 ((rd_T54 x102 x104).f0) ((rd_T54 x102 x104).f1) ((rd_T54 x102 x104).f2)) else (none)) else (none)) else ((host_reader_next.f x172000 x172001 x172002 x172003 44).bind fun bt201 => (if bt201.1 = true then (host_Expand.l0 k x0 x5 bt201.2.1 bt201.2.2.1 bt201.2.2.2.1 bt201.2.2.2.2) else (some (x5, 0, 0))))
def host_Expand.l3 : Nat → ByteArray → List ByteArray → ByteArray → Int → List (S54) → Int → Int → ByteArray → Int → Int → Int → Int → Int → Int → Option (List ByteArray × Int × Int)
  | 0, _, _, _, _, _, _, _, _, _, _, _, _, _, _ => none
  | k + 1, x0, x5, x7, x15, x102, x103, x104, x172000, x172001, x172002, x172003, x208000, x208001, x208002 => if x15 ≤ x208001 then ((host_span_text.f x208000 x208001 x208002 x15).bind fun t208 => (if x7.size + t208.size ≤ 9223372036854775807 then (if x5.length < 8796093022208 then (host_Expand.l3 k x0 (x5 ++ [x7 ++ t208]) x7 (wrap64 (x15 + 1)) x102 x103 x104 x172000 x172001 x172002 x172003 x208000 x208001 x208002) else (none)) else (none))) else (host_Expand.l2 k x0 x5 x7 x102 x103 (wrap64 (x104 + 1)) x172000 x172001 x172002 x172003)
end
def host_Expand.f (k : Nat) (a0 : ByteArray) : Option (List ByteArray × Int × Int) := if a0.toList = ([] : List UInt8) then (some (([] : List ByteArray), 0, 0)) else (host_Expand.l0 k a0 ([] : List ByteArray) a0 0 0 0)
theorem host_Expand.mono_l : ∀ k, (∀ y0 y1 y2 y3 y4 y5, LeO (host_Expand.l0 k y0 y1 y2 y3 y4 y5) (host_Expand.l0 (k + 1) y0 y1 y2 y3 y4 y5)) ∧ (∀ y0 y1 y2 y3 y4 y5 y6 y7 y8 y9 y10, LeO (host_Expand.j1 k y0 y1 y2 y3 y4 y5 y6 y7 y8 y9 y10) (host_Expand.j1 (k + 1) y0 y1 y2 y3 y4 y5 y6 y7 y8 y9 y10)) ∧ (∀ y0 y1 y2 y3 y4 y5 y6 y7 y8 y9, LeO (host_Expand.j2 k y0 y1 y2 y3 y4 y5 y6 y7 y8 y9) (host_Expand.j2 (k + 1) y0 y1 y2 y3 y4 y5 y6 y7 y8 y9)) ∧ (∀ y0 y1 y2 y3 y4 y5 y6 y7 y8 y9 y10, LeO (host_Expand.j3 k y0 y1 y2 y3 y4 y5 y6 y7 y8 y9 y10) (host_Expand.j3 (k + 1) y0 y1 y2 y3 y4 y5 y6 y7 y8 y9 y10)) ∧ (∀ y0 y1 y2 y3 y4 y5 y6 y7 y8 y9, LeO (host_Expand.j4 k y0 y1 y2 y3 y4 y5 y6 y7 y8 y9) (host_Expand.j4 (k + 1) y0 y1 y2 y3 y4 y5 y6 y7 y8 y9)) ∧ (∀ y0 y1 y2 y3 y4 y5 y6 y7 y8 y9 y10 y11 y12 y13, LeO (host_Expand.l1 k y0 y1 y2 y3 y4 y5 y6 y7 y8 y9 y10 y11 y12 y13) (host_Expand.l1 (k + 1) y0 y1 y2 y3 y4 y5 y6 y7 y8 y9 y10 y11 y12 y13)) ∧ (∀ y0 y1 y2 y3 y4 y5 y6 y7 y8 y9 y10, LeO (host_Expand.j6 k y0 y1 y2 y3 y4 y5 y6 y7 y8 y9 y10) (host_Expand.j6 (k + 1) y0 y1 y2 y3 y4 y5 y6 y7 y8 y9 y10)) ∧ (∀ y0 y1 y2 y3 y4 y5 y6 y7, LeO (host_Expand.j7 k y0 y1 y2 y3 y4 y5 y6 y7) (host_Expand.j7 (k + 1) y0 y1 y2 y3 y4 y5 y6 y7)) ∧ (∀ y0 y1 y2 y3 y4 y5 y6 y7 y8 y9, LeO (host_Expand.l2 k y0 y1 y2 y3 y4 y5 y6 y7 y8 y9) (host_Expand.l2 (k + 1) y0 y1 y2 y3 y4 y5 y6 y7 y8 y9)) ∧ (∀ y0 y1 y2 y3 y4 y5 y6 y7 y8 y9 y10 y11 y12 y13, LeO (host_Expand.l3 k y0 y1 y2 y3 y4 y5 y6 y7 y8 y9 y10 y11 y12 y13) (host_Expand.l3 (k + 1) y0 y1 y2 y3 y4 y5 y6 y7 y8 y9 y10 y11 y12 y13))
  | 0 => ⟨fun _ _ _ _ _ _ r h => by simp [host_Expand.l0] at h, fun _ _ _ _ _ _ _ _ _ _ _ r h => by simp [host_Expand.j1] at h, fun _ _ _ _ _ _ _ _ _ _ r h => by simp [host_Expand.j2] at h, fun _ _ _ _ _ _ _ _ _ _ _ r h => by simp [host_Expand.j3] at h, fun _ _ _ _ _ _ _ _ _ _ r h => by simp [host_Expand.j4] at h, fun _ _ _ _ _ _ _ _ _ _ _ _ _ _ r h => by simp [host_Expand.l1] at h, fun _ _ _ _ _ _ _ _ _ _ _ r h => by simp [host_Expand.j6] at h, fun _ _ _ _ _ _ _ _ r h => by simp [host_Expand.j7] at h, fun _ _ _ _ _ _ _ _ _ _ r h => by simp [host_Expand.l2] at h, fun _ _ _ _ _ _ _ _ _ _ _ _ _ _ r h => by simp [host_Expand.l3] at h⟩
  | k + 1 => by
    obtain ⟨ih0, ih1, ih2, ih3, ih4, ih5, ih6, ih7, ih8, ih9⟩ := host_Expand.mono_l k
    refine ⟨?_, ?_, ?_, ?_, ?_, ?_, ?_, ?_, ?_, ?_⟩
    · intro y0 y1 y2 y3 y4 y5
      unfold host_Expand.l0
      repeat' first
      | (with_reducible exact ih0 _ _ _ _ _ _)
      | (with_reducible exact ih1 _ _ _ _ _ _ _ _ _ _ _)
      | (with_reducible exact ih2 _ _ _ _ _ _ _ _ _ _)
      | (with_reducible exact ih3 _ _ _ _ _ _ _ _ _ _ _)
      | (with_reducible exact ih4 _ _ _ _ _ _ _ _ _ _)
      | (with_reducible exact ih5 _ _ _ _ _ _ _ _ _ _ _ _ _ _)
      | (with_reducible exact ih6 _ _ _ _ _ _ _ _ _ _ _)
      | (with_reducible exact ih7 _ _ _ _ _ _ _ _)
      | (with_reducible exact ih8 _ _ _ _ _ _ _ _ _ _)
      | (with_reducible exact ih9 _ _ _ _ _ _ _ _ _ _ _ _ _ _)
      | (with_reducible exact host_reader_spans.mono _ _ _ _ _)
      | (with_reducible exact host_reader_take.mono _ _ _ _ _ _ _)
      | (with_reducible exact LeO.refl _)
      | (with_reducible exact LeO.none _)
      | (with_reducible refine LeO.ite ?_ ?_)
      | (with_reducible refine LeO.bind ?_ (fun _ => ?_))
      | exact ih0 _ _ _ _ _ _
      | exact ih1 _ _ _ _ _ _ _ _ _ _ _
      | exact ih2 _ _ _ _ _ _ _ _ _ _
      | exact ih3 _ _ _ _ _ _ _ _ _ _ _
      | exact ih4 _ _ _ _ _ _ _ _ _ _
      | exact ih5 _ _ _ _ _ _ _ _ _ _ _ _ _ _
      | exact ih6 _ _ _ _ _ _ _ _ _ _ _
      | exact ih7 _ _ _ _ _ _ _ _
      | exact ih8 _ _ _ _ _ _ _ _ _ _
      | exact ih9 _ _ _ _ _ _ _ _ _ _ _ _ _ _
      | exact host_reader_spans.mono _ _ _ _ _
      | exact host_reader_take.mono _ _ _ _ _ _ _
      | exact LeO.none _
      | refine LeO.ite ?_ ?_
      | refine LeO.bind ?_ (fun _ => ?_)
    · intro y0 y1 y2 y3 y4 y5 y6 y7 y8 y9 y10
      unfold host_Expand.j1
      repeat' first
      | (with_reducible exact ih0 _ _ _ _ _ _)
      | (with_reducible exact ih1 _ _ _ _ _ _ _ _ _ _ _)
      | (with_reducible exact ih2 _ _ _ _ _ _ _ _ _ _)
      | (with_reducible exact ih3 _ _ _ _ _ _ _ _ _ _ _)
      | (with_reducible exact ih4 _ _ _ _ _ _ _ _ _ _)
      | (with_reducible exact ih5 _ _ _ _ _ _ _ _ _ _ _ _ _ _)
      | (with_reducible exact ih6 _ _ _ _ _ _ _ _ _ _ _)
      | (with_reducible exact ih7 _ _ _ _ _ _ _ _)
      | (with_reducible exact ih8 _ _ _ _ _ _ _ _ _ _)
      | (with_reducible exact ih9 _ _ _ _ _ _ _ _ _ _ _ _ _ _)
      | (with_reducible exact host_reader_spans.mono _ _ _ _ _)
      | (with_reducible exact host_reader_take.mono _ _ _ _ _ _ _)
      | (with_reducible exact LeO.refl _)
      | (with_reducible exact LeO.none _)
      | (with_reducible refine LeO.ite ?_ ?_)
      | (with_reducible refine LeO.bind ?_ (fun _ => ?_))
      | exact ih0 _ _ _ _ _ _
      | exact ih1 _ _ _ _ _ _ _ _ _ _ _
      | exact ih2 _ _ _ _ _ _ _ _ _ _
      | exact ih3 _ _ _ _ _ _ _ _ _ _ _
      | exact ih4 _ _ _ _ _ _ _ _ _ _
      | exact ih5 _ _ _ _ _ _ _ _ _ _ _ _ _ _
      | exact ih6 _ _ _ _ _ _ _ _ _ _ _
      | exact ih7 _ _ _ _ _ _ _ _
      | exact ih8 _ _ _ _ _ _ _ _ _ _
      | exact ih9 _ _ _ _ _ _ _ _ _ _ _ _ _ _
      | exact host_reader_spans.mono _ _ _ _ _
      | exact host_reader_take.mono _ _ _ _ _ _ _
      | exact LeO.none _
      | refine LeO.ite ?_ ?_
      | refine LeO.bind ?_ (fun _ => ?_)
    · intro y0 y1 y2 y3 y4 y5 y6 y7 y8 y9
      unfold host_Expand.j2
      repeat' first
      | (with_reducible exact ih0 _ _ _ _ _ _)
      | (with_reducible exact ih1 _ _ _ _ _ _ _ _ _ _ _)
      | (with_reducible exact ih2 _ _ _ _ _ _ _ _ _ _)
      | (with_reducible exact ih3 _ _ _ _ _ _ _ _ _ _ _)
      | (with_reducible exact ih4 _ _ _ _ _ _ _ _ _ _)
      | (with_reducible exact ih5 _ _ _ _ _ _ _ _ _ _ _ _ _ _)
      | (with_reducible exact ih6 _ _ _ _ _ _ _ _ _ _ _)
      | (with_reducible exact ih7 _ _ _ _ _ _ _ _)
      | (with_reducible exact ih8 _ _ _ _ _ _ _ _ _ _)
      | (with_reducible exact ih9 _ _ _ _ _ _ _ _ _ _ _ _ _ _)
      | (with_reducible exact host_reader_spans.mono _ _ _ _ _)
      | (with_reducible exact host_reader_take.mono _ _ _ _ _ _ _)
      | (with_reducible exact LeO.refl _)
      | (with_reducible exact LeO.none _)
      | (with_reducible refine LeO.ite ?_ ?_)
      | (with_reducible refine LeO.bind ?_ (fun _ => ?_))
      | exact ih0 _ _ _ _ _ _
      | exact ih1 _ _ _ _ _ _ _ _ _ _ _
      | exact ih2 _ _ _ _ _ _ _ _ _ _
      | exact ih3 _ _ _ _ _ _ _ _ _ _ _
      | exact ih4 _ _ _ _ _ _ _ _ _ _
      | exact ih5 _ _ _ _ _ _ _ _ _ _ _ _ _ _
      | exact ih6 _ _ _ _ _ _ _ _ _ _ _
      | exact ih7 _ _ _ _ _ _ _ _
      | exact ih8 _ _ _ _ _ _ _ _ _ _
      | exact ih9 _ _ _ _ _ _ _ _ _ _ _ _ _ _
      | exact host_reader_spans.mono _ _ _ _ _
      | exact host_reader_take.mono _ _ _ _ _ _ _
      | exact LeO.none _
      | refine LeO.ite ?_ ?_
      | refine LeO.bind ?_ (fun _ => ?_)
    · intro y0 y1 y2 y3 y4 y5 y6 y7 y8 y9 y10
      unfold host_Expand.j3
      repeat' first
      | (with_reducible exact ih0 _ _ _ _ _ _)
      | (with_reducible exact ih1 _ _ _ _ _ _ _ _ _ _ _)
      | (with_reducible exact ih2 _ _ _ _ _ _ _ _ _ _)
      | (with_reducible exact ih3 _ _ _ _ _ _ _ _ _ _ _)
      | (with_reducible exact ih4 _ _ _ _ _ _ _ _ _ _)
      | (with_reducible exact ih5 _ _ _ _ _ _ _ _ _ _ _ _ _ _)
      | (with_reducible exact ih6 _ _ _ _ _ _ _ _ _ _ _)
      | (with_reducible exact ih7 _ _ _ _ _ _ _ _)
      | (with_reducible exact ih8 _ _ _ _ _ _ _ _ _ _)
      | (with_reducible exact ih9 _ _ _ _ _ _ _ _ _ _ _ _ _ _)
      | (with_reducible exact host_reader_spans.mono _ _ _ _ _)
      | (with_reducible exact host_reader_take.mono _ _ _ _ _ _ _)
      | (with_reducible exact LeO.refl _)
      | (with_reducible exact LeO.none _)
      | (with_reducible refine LeO.ite ?_ ?_)
      | (with_reducible refine LeO.bind ?_ (fun _ => ?_))
      | exact ih0 _ _ _ _ _ _
      | exact ih1 _ _ _ _ _ _ _ _ _ _ _
      | exact ih2 _ _ _ _ _ _ _ _ _ _
      | exact ih3 _ _ _ _ _ _ _ _ _ _ _
      | exact ih4 _ _ _ _ _ _ _ _ _ _
      | exact ih5 _ _ _ _ _ _ _ _ _ _ _ _ _ _
      | exact ih6 _ _ _ _ _ _ _ _ _ _ _
      | exact ih7 _ _ _ _ _ _ _ _
      | exact ih8 _ _ _ _ _ _ _ _ _ _
      | exact ih9 _ _ _ _ _ _ _ _ _ _ _ _ _ _
      | exact host_reader_spans.mono _ _ _ _ _
      | exact host_reader_take.mono _ _ _ _ _ _ _
      | exact LeO.none _
      | refine LeO.ite ?_ ?_
      | refine LeO.bind ?_ (fun _ => ?_)
    · intro y0 y1 y2 y3 y4 y5 y6 y7 y8 y9
      unfold host_Expand.j4
      repeat' first
      | (with_reducible exact ih0 _ _ _ _ _ _)
      | (with_reducible exact ih1 _ _ _ _ _ _ _ _ _ _ _)
      | (with_reducible exact ih2 _ _ _ _ _ _ _ _ _ _)
      | (with_reducible exact ih3 _ _ _ _ _ _ _ _ _ _ _)
      | (with_reducible exact ih4 _ _ _ _ _ _ _ _ _ _)
      | (with_reducible exact ih5 _ _ _ _ _ _ _ _ _ _ _ _ _ _)
      | (with_reducible exact ih6 _ _ _ _ _ _ _ _ _ _ _)
      | (with_reducible exact ih7 _ _ _ _ _ _ _ _)
      | (with_reducible exact ih8 _ _ _ _ _ _ _ _ _ _)
      | (with_reducible exact ih9 _ _ _ _ _ _ _ _ _ _ _ _ _ _)
      | (with_reducible exact host_reader_spans.mono _ _ _ _ _)
      | (with_reducible exact host_reader_take.mono _ _ _ _ _ _ _)
      | (with_reducible exact LeO.refl _)
      | (with_reducible exact LeO.none _)
      | (with_reducible refine LeO.ite ?_ ?_)
      | (with_reducible refine LeO.bind ?_ (fun _ => ?_))
      | exact ih0 _ _ _ _ _ _
      | exact ih1 _ _ _ _ _ _ _ _ _ _ _
      | exact ih2 _ _ _ _ _ _ _ _ _ _
      | exact ih3 _ _ _ _ _ _ _ _ _ _ _
      | exact ih4 _ _ _ _ _ _ _ _ _ _
      | exact ih5 _ _ _ _ _ _ _ _ _ _ _ _ _ _
      | exact ih6 _ _ _ _ _ _ _ _ _ _ _
      | exact ih7 _ _ _ _ _ _ _ _
      | exact ih8 _ _ _ _ _ _ _ _ _ _
      | exact ih9 _ _ _ _ _ _ _ _ _ _ _ _ _ _
      | exact host_reader_spans.mono _ _ _ _ _
      | exact host_reader_take.mono _ _ _ _ _ _ _
      | exact LeO.none _
      | refine LeO.ite ?_ ?_
      | refine LeO.bind ?_ (fun _ => ?_)
    · intro y0 y1 y2 y3 y4 y5 y6 y7 y8 y9 y10 y11 y12 y13
      unfold host_Expand.l1
      repeat' first
      | (with_reducible exact ih0 _ _ _ _ _ _)
      | (with_reducible exact ih1 _ _ _ _ _ _ _ _ _ _ _)
      | (with_reducible exact ih2 _ _ _ _ _ _ _ _ _ _)
      | (with_reducible exact ih3 _ _ _ _ _ _ _ _ _ _ _)
      | (with_reducible exact ih4 _ _ _ _ _ _ _ _ _ _)
      | (with_reducible exact ih5 _ _ _ _ _ _ _ _ _ _ _ _ _ _)
      | (with_reducible exact ih6 _ _ _ _ _ _ _ _ _ _ _)
      | (with_reducible exact ih7 _ _ _ _ _ _ _ _)
      | (with_reducible exact ih8 _ _ _ _ _ _ _ _ _ _)
      | (with_reducible exact ih9 _ _ _ _ _ _ _ _ _ _ _ _ _ _)
      | (with_reducible exact host_reader_spans.mono _ _ _ _ _)
      | (with_reducible exact host_reader_take.mono _ _ _ _ _ _ _)
      | (with_reducible exact LeO.refl _)
      | (with_reducible exact LeO.none _)
      | (with_reducible refine LeO.ite ?_ ?_)
      | (with_reducible refine LeO.bind ?_ (fun _ => ?_))
      | exact ih0 _ _ _ _ _ _
      | exact ih1 _ _ _ _ _ _ _ _ _ _ _
      | exact ih2 _ _ _ _ _ _ _ _ _ _
      | exact ih3 _ _ _ _ _ _ _ _ _ _ _
      | exact ih4 _ _ _ _ _ _ _ _ _ _
      | exact ih5 _ _ _ _ _ _ _ _ _ _ _ _ _ _
      | exact ih6 _ _ _ _ _ _ _ _ _ _ _
      | exact ih7 _ _ _ _ _ _ _ _
      | exact ih8 _ _ _ _ _ _ _ _ _ _
      | exact ih9 _ _ _ _ _ _ _ _ _ _ _ _ _ _
      | exact host_reader_spans.mono _ _ _ _ _
      | exact host_reader_take.mono _ _ _ _ _ _ _
      | exact LeO.none _
      | refine LeO.ite ?_ ?_
      | refine LeO.bind ?_ (fun _ => ?_)
    · intro y0 y1 y2 y3 y4 y5 y6 y7 y8 y9 y10
      unfold host_Expand.j6
      repeat' first
      | (with_reducible exact ih0 _ _ _ _ _ _)
      | (with_reducible exact ih1 _ _ _ _ _ _ _ _ _ _ _)
      | (with_reducible exact ih2 _ _ _ _ _ _ _ _ _ _)
      | (with_reducible exact ih3 _ _ _ _ _ _ _ _ _ _ _)
      | (with_reducible exact ih4 _ _ _ _ _ _ _ _ _ _)
      | (with_reducible exact ih5 _ _ _ _ _ _ _ _ _ _ _ _ _ _)
      | (with_reducible exact ih6 _ _ _ _ _ _ _ _ _ _ _)
      | (with_reducible exact ih7 _ _ _ _ _ _ _ _)
      | (with_reducible exact ih8 _ _ _ _ _ _ _ _ _ _)
      | (with_reducible exact ih9 _ _ _ _ _ _ _ _ _ _ _ _ _ _)
      | (with_reducible exact host_reader_spans.mono _ _ _ _ _)
      | (with_reducible exact host_reader_take.mono _ _ _ _ _ _ _)
      | (with_reducible exact LeO.refl _)
      | (with_reducible exact LeO.none _)
      | (with_reducible refine LeO.ite ?_ ?_)
      | (with_reducible refine LeO.bind ?_ (fun _ => ?_))
      | exact ih0 _ _ _ _ _ _
      | exact ih1 _ _ _ _ _ _ _ _ _ _ _
      | exact ih2 _ _ _ _ _ _ _ _ _ _
      | exact ih3 _ _ _ _ _ _ _ _ _ _ _
      | exact ih4 _ _ _ _ _ _ _ _ _ _
      | exact ih5 _ _ _ _ _ _ _ _ _ _ _ _ _ _
      | exact ih6 _ _ _ _ _ _ _ _ _ _ _
      | exact ih7 _ _ _ _ _ _ _ _
      | exact ih8 _ _ _ _ _ _ _ _ _ _
      | exact ih9 _ _ _ _ _ _ _ _ _ _ _ _ _ _
      | exact host_reader_spans.mono _ _ _ _ _
      | exact host_reader_take.mono _ _ _ _ _ _ _
      | exact LeO.none _
      | refine LeO.ite ?_ ?_
      | refine LeO.bind ?_ (fun _ => ?_)
    · intro y0 y1 y2 y3 y4 y5 y6 y7
      unfold host_Expand.j7
      repeat' first
      | (with_reducible exact ih0 _ _ _ _ _ _)
      | (with_reducible exact ih1 _ _ _ _ _ _ _ _ _ _ _)
      | (with_reducible exact ih2 _ _ _ _ _ _ _ _ _ _)
      | (with_reducible exact ih3 _ _ _ _ _ _ _ _ _ _ _)
      | (with_reducible exact ih4 _ _ _ _ _ _ _ _ _ _)
      | (with_reducible exact ih5 _ _ _ _ _ _ _ _ _ _ _ _ _ _)
      | (with_reducible exact ih6 _ _ _ _ _ _ _ _ _ _ _)
      | (with_reducible exact ih7 _ _ _ _ _ _ _ _)
      | (with_reducible exact ih8 _ _ _ _ _ _ _ _ _ _)
      | (with_reducible exact ih9 _ _ _ _ _ _ _ _ _ _ _ _ _ _)
      | (with_reducible exact host_reader_spans.mono _ _ _ _ _)
      | (with_reducible exact host_reader_take.mono _ _ _ _ _ _ _)
      | (with_reducible exact LeO.refl _)
      | (with_reducible exact LeO.none _)
      | (with_reducible refine LeO.ite ?_ ?_)
      | (with_reducible refine LeO.bind ?_ (fun _ => ?_))
      | exact ih0 _ _ _ _ _ _
      | exact ih1 _ _ _ _ _ _ _ _ _ _ _
      | exact ih2 _ _ _ _ _ _ _ _ _ _
      | exact ih3 _ _ _ _ _ _ _ _ _ _ _
      | exact ih4 _ _ _ _ _ _ _ _ _ _
      | exact ih5 _ _ _ _ _ _ _ _ _ _ _ _ _ _
      | exact ih6 _ _ _ _ _ _ _ _ _ _ _
      | exact ih7 _ _ _ _ _ _ _ _
      | exact ih8 _ _ _ _ _ _ _ _ _ _
      | exact ih9 _ _ _ _ _ _ _ _ _ _ _ _ _ _
      | exact host_reader_spans.mono _ _ _ _ _
      | exact host_reader_take.mono _ _ _ _ _ _ _
      | exact LeO.none _
      | refine LeO.ite ?_ ?_
      | refine LeO.bind ?_ (fun _ => ?_)
    · intro y0 y1 y2 y3 y4 y5 y6 y7 y8 y9
      unfold host_Expand.l2
      repeat' first
      | (with_reducible exact ih0 _ _ _ _ _ _)
      | (with_reducible exact ih1 _ _ _ _ _ _ _ _ _ _ _)
      | (with_reducible exact ih2 _ _ _ _ _ _ _ _ _ _)
      | (with_reducible exact ih3 _ _ _ _ _ _ _ _ _ _ _)
      | (with_reducible exact ih4 _ _ _ _ _ _ _ _ _ _)
      | (with_reducible exact ih5 _ _ _ _ _ _ _ _ _ _ _ _ _ _)
      | (with_reducible exact ih6 _ _ _ _ _ _ _ _ _ _ _)
      | (with_reducible exact ih7 _ _ _ _ _ _ _ _)
      | (with_reducible exact ih8 _ _ _ _ _ _ _ _ _ _)
      | (with_reducible exact ih9 _ _ _ _ _ _ _ _ _ _ _ _ _ _)
      | (with_reducible exact host_reader_spans.mono _ _ _ _ _)
      | (with_reducible exact host_reader_take.mono _ _ _ _ _ _ _)
      | (with_reducible exact LeO.refl _)
      | (with_reducible exact LeO.none _)
      | (with_reducible refine LeO.ite ?_ ?_)
      | (with_reducible refine LeO.bind ?_ (fun _ => ?_))
      | exact ih0 _ _ _ _ _ _
      | exact ih1 _ _ _ _ _ _ _ _ _ _ _
      | exact ih2 _ _ _ _ _ _ _ _ _ _
      | exact ih3 _ _ _ _ _ _ _ _ _ _ _
      | exact ih4 _ _ _ _ _ _ _ _ _ _
      | exact ih5 _ _ _ _ _ _ _ _ _ _ _ _ _ _
      | exact ih6 _ _ _ _ _ _ _ _ _ _ _
      | exact ih7 _ _ _ _ _ _ _ _
      | exact ih8 _ _ _ _ _ _ _ _ _ _
      | exact ih9 _ _ _ _ _ _ _ _ _ _ _ _ _ _
      | exact host_reader_spans.mono _ _ _ _ _
      | exact host_reader_take.mono _ _ _ _ _ _ _
      | exact LeO.none _
      | refine LeO.ite ?_ ?_
      | refine LeO.bind ?_ (fun _ => ?_)
    · intro y0 y1 y2 y3 y4 y5 y6 y7 y8 y9 y10 y11 y12 y13
      unfold host_Expand.l3
      repeat' first
      | (with_reducible exact ih0 _ _ _ _ _ _)
      | (with_reducible exact ih1 _ _ _ _ _ _ _ _ _ _ _)
      | (with_reducible exact ih2 _ _ _ _ _ _ _ _ _ _)
      | (with_reducible exact ih3 _ _ _ _ _ _ _ _ _ _ _)
      | (with_reducible exact ih4 _ _ _ _ _ _ _ _ _ _)
      | (with_reducible exact ih5 _ _ _ _ _ _ _ _ _ _ _ _ _ _)
      | (with_reducible exact ih6 _ _ _ _ _ _ _ _ _ _ _)
      | (with_reducible exact ih7 _ _ _ _ _ _ _ _)
      | (with_reducible exact ih8 _ _ _ _ _ _ _ _ _ _)
      | (with_reducible exact ih9 _ _ _ _ _ _ _ _ _ _ _ _ _ _)
      | (with_reducible exact host_reader_spans.mono _ _ _ _ _)
      | (with_reducible exact host_reader_take.mono _ _ _ _ _ _ _)
      | (with_reducible exact LeO.refl _)
      | (with_reducible exact LeO.none _)
      | (with_reducible refine LeO.ite ?_ ?_)
      | (with_reducible refine LeO.bind ?_ (fun _ => ?_))
      | exact ih0 _ _ _ _ _ _
      | exact ih1 _ _ _ _ _ _ _ _ _ _ _
      | exact ih2 _ _ _ _ _ _ _ _ _ _
      | exact ih3 _ _ _ _ _ _ _ _ _ _ _
      | exact ih4 _ _ _ _ _ _ _ _ _ _
      | exact ih5 _ _ _ _ _ _ _ _ _ _ _ _ _ _
      | exact ih6 _ _ _ _ _ _ _ _ _ _ _
      | exact ih7 _ _ _ _ _ _ _ _
      | exact ih8 _ _ _ _ _ _ _ _ _ _
      | exact ih9 _ _ _ _ _ _ _ _ _ _ _ _ _ _
      | exact host_reader_spans.mono _ _ _ _ _
      | exact host_reader_take.mono _ _ _ _ _ _ _
      | exact LeO.none _
      | refine LeO.ite ?_ ?_
      | refine LeO.bind ?_ (fun _ => ?_)
theorem host_Expand.mono : ∀ a0 k, LeO (host_Expand.f k a0) (host_Expand.f (k + 1) a0) := by
  intro a0 k
  obtain ⟨ih0, ih1, ih2, ih3, ih4, ih5, ih6, ih7, ih8, ih9⟩ := host_Expand.mono_l k
  unfold host_Expand.f
  repeat' first
      | (with_reducible exact ih0 _ _ _ _ _ _)
      | (with_reducible exact ih1 _ _ _ _ _ _ _ _ _ _ _)
      | (with_reducible exact ih2 _ _ _ _ _ _ _ _ _ _)
      | (with_reducible exact ih3 _ _ _ _ _ _ _ _ _ _ _)
      | (with_reducible exact ih4 _ _ _ _ _ _ _ _ _ _)
      | (with_reducible exact ih5 _ _ _ _ _ _ _ _ _ _ _ _ _ _)
      | (with_reducible exact ih6 _ _ _ _ _ _ _ _ _ _ _)
      | (with_reducible exact ih7 _ _ _ _ _ _ _ _)
      | (with_reducible exact ih8 _ _ _ _ _ _ _ _ _ _)
      | (with_reducible exact ih9 _ _ _ _ _ _ _ _ _ _ _ _ _ _)
      | (with_reducible exact host_reader_spans.mono _ _ _ _ _)
      | (with_reducible exact host_reader_take.mono _ _ _ _ _ _ _)
      | (with_reducible exact LeO.refl _)
      | (with_reducible exact LeO.none _)
      | (with_reducible refine LeO.ite ?_ ?_)
      | (with_reducible refine LeO.bind ?_ (fun _ => ?_))
      | exact ih0 _ _ _ _ _ _
      | exact ih1 _ _ _ _ _ _ _ _ _ _ _
      | exact ih2 _ _ _ _ _ _ _ _ _ _
      | exact ih3 _ _ _ _ _ _ _ _ _ _ _
      | exact ih4 _ _ _ _ _ _ _ _ _ _
      | exact ih5 _ _ _ _ _ _ _ _ _ _ _ _ _ _
      | exact ih6 _ _ _ _ _ _ _ _ _ _ _
      | exact ih7 _ _ _ _ _ _ _ _
      | exact ih8 _ _ _ _ _ _ _ _ _ _
      | exact ih9 _ _ _ _ _ _ _ _ _ _ _ _ _ _
      | exact host_reader_spans.mono _ _ _ _ _
      | exact host_reader_take.mono _ _ _ _ _ _ _
      | exact LeO.none _
      | refine LeO.ite ?_ ?_
      | refine LeO.bind ?_ (fun _ => ?_)
set_option maxHeartbeats 8000000 in
set_option maxRecDepth 100000 in
theorem host_Expand.calls (k : Nat) (a0 : ByteArray) (r1 : List ByteArray) (r2 : Int) (r3 : Int) (w : World) (h : host_Expand.f k a0 = some (r1, r2, r3)) (hG_ : Glob w) :
    Calls Tryd.prog 11 #[.string a0] w fun e w' => ∃ v0_ : Value, e = .returned (.tuple #[v0_, .agg #[.int .i64 r2, .int .i64 r3]]) ∧ Kd.R Kd.string 9 w' w.heap.size (fun _ => True) v0_ r1 ∧ Below w.heap.size w w' := by
  have HG_ := Aside0.mk hG_
  clear hG_
  have hu27 := Tryd.underlying27
  have hu49 := Tryd.underlying49
  have hu54 := Tryd.underlying54
  have HB := Aside0.mk (Below.refl w.heap.size w)
  have H : (if a0.toList = ([] : List UInt8) then (some (([] : List ByteArray), 0, 0)) else (host_Expand.l0 k a0 ([] : List ByteArray) a0 0 0 0)) = some (r1, r2, r3) := h
  clear h
  by_cases c2 : a0.toList = ([] : List UInt8)
  · rw [if_pos c2] at H
    have c2b0 : (a0.toList == ([] : List UInt8)) = true := beq_iff_eq.mpr c2
    have c2b1 : (a0.toList != ([] : List UInt8)) = false := bne_eq_false_iff_eq.mpr c2
    clear c2
    simp only [Option.some.injEq, Prod.mk.injEq] at H
    obtain ⟨rfl, rfl, rfl⟩ := H
    go_enter Tryd.func11, Tryd.ntmps11
    go_wp2_with (first | ((with_reducible refine gate_dst (N := 3) rfl ?_); refine box_event ?hg (N := 3) ?hd (cs := #[.int .i64 0, .int .i64 0]) (t := 27) ?hr ?_; (case hd => rfl); (case hg => rfl); (case hr => first | (go_simp; done) | (go_simp; rfl)); intro gb170 hg w3 hbox hb; have n0_ := Aside0.mk (below_step (by repeat (first | (with_reducible first | exact HB.out | apply below_alloc | apply pw_below_drewN | apply below_drew1) | exact HB.out)) hb); have n1_ := Aside0.mk (hbox); have n2_ := Aside0.mk ((by rw [hg]; exact (below_size (by repeat (first | (with_reducible first | exact HB.out | apply below_alloc | apply pw_below_drewN | apply below_drew1) | exact HB.out))) : w.heap.size ≤ gb170)); have n3_ := Aside0.mk ((by rw [hg]; exact (below_size (by repeat (first | (with_reducible first | exact HB.out | apply below_alloc | apply pw_below_drewN | apply below_drew1) | exact HB.out))) : w.heap.size ≤ gb170)); clear HB; have HB := n0_; have BK170 := n1_; have GW170 := n2_; have GE170 := n3_; clear n0_ n1_ n2_ n3_; clear hb hbox hg; have hcz4_0 : w3.cell? ⟨gb170, 0, none⟩ = some (.int .i64 0) := (blk_cell BK170.out 0).trans rfl; have hcz4_1 : w3.cell? ⟨gb170, 1, none⟩ = some (.int .i64 0) := (blk_cell BK170.out 1).trans rfl; have hfz4_0 := blk_frozen BK170.out 0; have hfz4_1 := blk_frozen BK170.out 1))
    refine bodyPost_ret (results_tc rfl _ _ gb170 27 #[.int .i64 0, .int .i64 0] (0, 0) _ rfl (by (with_reducible repeat (first | refine blk_drewN ?_ _ | refine blk_drew ?_ | refine blk_alloc ?_ _)); refine blk_put (cs := #[.int .i64 0, .int .i64 0]) ?_ 1 _ rfl; (with_reducible repeat (first | refine blk_drewN ?_ _ | refine blk_drew ?_ | refine blk_alloc ?_ _)); refine blk_put (cs := #[.int .i64 0, .int .i64 0]) ?_ 0 _ rfl; (with_reducible repeat (first | refine blk_drewN ?_ _ | refine blk_drew ?_ | refine blk_alloc ?_ _)); exact BK170.out) Tryd.underlying27 rfl (by kernel_rfl)) rfl ?_
    exact ⟨_, by first | rfl | (simp [errW_none, errW_some] <;> rfl) | (simp [*, errW_none, errW_some] <;> rfl), by first | exact Kd.R_nil _ _ _ _ _ | exact Kd.N_nil _ _ _ _ _ | exact Kd.V_nil _ _ _ _ _ | exact Kd.Q_nil _ _ _ _ _ | exact Kd.S_nil _ _ _ _ _, by repeat (first | (with_reducible first | exact HB.out | apply below_alloc | apply pw_below_drewN | apply below_drew1 | refine below_set ?_ GE170.out) | exact HB.out)⟩
  · rw [if_neg c2] at H
    have c2b0 : (a0.toList == ([] : List UInt8)) = false := beq_eq_false_iff_ne.mpr c2
    have c2b1 : (a0.toList != ([] : List UInt8)) = true := bne_iff_ne.mpr c2
    have H' := Aside0.mk H
    clear H
    go_enter Tryd.func11, Tryd.ntmps11
    go_wp2_with (first | ((with_reducible refine gate_dst (N := 3) rfl ?_); refine box_event ?hg (N := 3) ?hd (cs := #[.int .i64 0, .int .i64 0]) (t := 27) ?hr ?_; (case hd => rfl); (case hg => rfl); (case hr => first | (go_simp; done) | (go_simp; rfl)); intro gb170 hg w5 hbox hb; have n0_ := Aside0.mk (below_step (by repeat (first | (with_reducible first | exact HB.out | apply below_alloc | apply pw_below_drewN | apply below_drew1) | exact HB.out)) hb); have n1_ := Aside0.mk (hbox); have n2_ := Aside0.mk ((by rw [hg]; exact (below_size (by repeat (first | (with_reducible first | exact HB.out | apply below_alloc | apply pw_below_drewN | apply below_drew1) | exact HB.out))) : w.heap.size ≤ gb170)); have n3_ := Aside0.mk ((by rw [hg]; exact (below_size (by repeat (first | (with_reducible first | exact HB.out | apply below_alloc | apply pw_below_drewN | apply below_drew1) | exact HB.out))) : w.heap.size ≤ gb170)); clear HB; have HB := n0_; have BK170 := n1_; have GW170 := n2_; have GE170 := n3_; clear n0_ n1_ n2_ n3_; clear hb hbox hg) | ((with_reducible refine gate_dst (N := 21) rfl ?_); refine box_event ?hg (N := 21) ?hd (cs := #[.string a0, .int .i64 0, .int .i64 0, .int .i64 0]) (t := 49) ?hr ?_; (case hd => rfl); (case hg => rfl); (case hr => first | (go_simp; done) | (go_simp; rfl)); intro gb171 hg w6 hbox hb; have n0_ := Aside0.mk (blk_below (g := gb170) (o := .cells #[.int .i64 0, .int .i64 0] 27 (0, 0)) (by (with_reducible repeat (first | refine blk_drewN ?_ _ | refine blk_drew ?_ | refine blk_alloc ?_ _)); exact BK170.out) hb); have n1_ := Aside0.mk (below_step (by repeat (first | (with_reducible first | exact HB.out | apply below_alloc | apply pw_below_drewN | apply below_drew1 | refine below_set ?_ GE170.out) | exact HB.out)) hb); have n2_ := Aside0.mk ((show IsS49 w _ gb171 a0 0 0 0 from ⟨hbox, (by rw [hg]; exact (below_size (by repeat (first | (with_reducible first | exact HB.out | apply below_alloc | apply pw_below_drewN | apply below_drew1 | refine below_set ?_ GE170.out) | exact HB.out))) : w.heap.size ≤ gb171)⟩)); have n3_ := Aside0.mk ((by rw [hg]; exact (below_size (by repeat (first | (with_reducible first | exact HB.out | apply below_alloc | apply pw_below_drewN | apply below_drew1 | refine below_set ?_ GE170.out) | exact HB.out))) : w.heap.size ≤ gb171)); have n4_ := Aside0.mk ((by rw [hg]; exact (below_size (by repeat (first | (with_reducible first | exact HB.out | apply below_alloc | apply pw_below_drewN | apply below_drew1 | refine below_set ?_ GE170.out) | exact HB.out))) : w.heap.size ≤ gb171)); have n5_ := Aside0.mk ((by rw [hg]; exact Nat.ne_of_lt (blk_lt (g := gb170) (o := .cells #[.int .i64 0, .int .i64 0] 27 (0, 0)) (by (with_reducible repeat (first | refine blk_drewN ?_ _ | refine blk_drew ?_ | refine blk_alloc ?_ _)); exact BK170.out)) : gb170 ≠ gb171)); have n6_ := Aside0.mk ((by rw [hg]; exact Nat.ne_of_gt (blk_lt (g := gb170) (o := .cells #[.int .i64 0, .int .i64 0] 27 (0, 0)) (by (with_reducible repeat (first | refine blk_drewN ?_ _ | refine blk_drew ?_ | refine blk_alloc ?_ _)); exact BK170.out)) : gb171 ≠ gb170)); clear BK170; clear HB; have BK170 := n0_; have HB := n1_; have HI171 := n2_; have GW171 := n3_; have GE171 := n4_; have NB170_171 := n5_; have NB171_170 := n6_; clear n0_ n1_ n2_ n3_ n4_ n5_ n6_; clear hb hbox hg))
    go_loopg [5] k (fun kq v5 w' => ∃ (x5_1 : List ByteArray) (x171000_1 : Int) (x171001_1 : Int) (x172000_1 : ByteArray) (x172001_1 : Int) (x172002_1 : Int) (x172003_1 : Int), Aside0 (host_Expand.l0 kq a0 x5_1 x172000_1 x172001_1 x172002_1 x172003_1 = some (r1, r2, r3)) ∧ Aside0 (kq ≤ k) ∧ Aside0 (Kd.R Kd.string 9 w' w.heap.size (fun _ => True) v5 x5_1) ∧ Aside0 (w'.heap[gb170]? = some (.cells #[.int .i64 x171000_1, .int .i64 x171001_1] 27 (0, 0))) ∧ Aside0 (IsS49 w w' gb171 x172000_1 x172001_1 x172002_1 x172003_1) ∧ Aside0 (Below w.heap.size w w'))
    case atStart => exact ⟨(([] : List ByteArray)), (0), (0), (a0), (0), (0), (0), H', ⟨Nat.le_refl _⟩, ⟨by first | exact Kd.R_nil _ _ _ _ _ | exact Kd.N_nil _ _ _ _ _ | exact Kd.V_nil _ _ _ _ _ | exact Kd.Q_nil _ _ _ _ _ | exact Kd.S_nil _ _ _ _ _⟩, ⟨by (with_reducible repeat (first | refine blk_drewN ?_ _ | refine blk_drew ?_ | refine blk_alloc ?_ _)); exact BK170.out⟩, ⟨by repeat (first | (with_reducible first | exact HI171.out | apply IsS49.alloc | apply IsS49.drewN | apply IsS49.drew | apply IsS49.set_0 | apply IsS49.set_1 | apply IsS49.set_2 | apply IsS49.set_3 | (apply IsS49.far; (case hne => exact NB171_170.out))) | exact HI171.out)⟩, ⟨by repeat (first | (with_reducible first | exact HB.out | apply below_alloc | apply pw_below_drewN | apply below_drew1 | refine below_set ?_ (IsS49.ge HI171.out) | refine below_set ?_ GE170.out) | exact HB.out)⟩⟩
    case round =>
      clear H'
      try clear c1
      try clear c2
      try clear c2b0
      try clear c2b1
      try clear p2
      try clear hcz4_0
      try clear hcz4_1
      try clear hfz4_0
      try clear hfz4_1
      obtain ⟨x5_1, x171000_1, x171001_1, x172000_1, x172001_1, x172002_1, x172003_1, HA, HK1, HO_5, BK170, HI171, HB⟩ := hrel
      cases gk with
      | zero => exact absurd HA.out (by simp [host_Expand.l0])
      | succ k1 =>
        have H := HA.out
        clear HA
        simp only [host_Expand.l0] at H
        replace H := Option.bind_eq_some_iff.mp H
        obtain ⟨⟨t172, t173, t174, t175, t176⟩, A70, H⟩ := H
        replace H : ((some (([] : List (S54)) : List (S54))).bind fun y177 => ((host_reader_next.f t173 t174 t175 t176 91).bind fun bt180 => (if bt180.1 = true then (host_Expand.j1 k1 a0 x5_1 x172001_1 t172 y177 (!bt180.1) (bt180.2.2.2.1 == 0 && (bt180.2.2.2.2 == 0)) bt180.2.1 bt180.2.2.1 bt180.2.2.2.1 bt180.2.2.2.2) else (host_Expand.j1 k1 a0 x5_1 x172001_1 t172 y177 (!bt180.1) false bt180.2.1 bt180.2.2.1 bt180.2.2.2.1 bt180.2.2.2.2)))) = some (r1, r2, r3) := H
        have A7 := Aside0.mk A70
        clear A70
        obtain ⟨y177, hy177⟩ : ∃ y_ : List (S54), y_ = (([] : List (S54))) := ⟨_, rfl⟩
        replace H : ((host_reader_next.f t173 t174 t175 t176 91).bind fun bt180 => (if bt180.1 = true then (host_Expand.j1 k1 a0 x5_1 x172001_1 t172 y177 (!bt180.1) (bt180.2.2.2.1 == 0 && (bt180.2.2.2.2 == 0)) bt180.2.1 bt180.2.2.1 bt180.2.2.2.1 bt180.2.2.2.2) else (host_Expand.j1 k1 a0 x5_1 x172001_1 t172 y177 (!bt180.1) false bt180.2.1 bt180.2.2.1 bt180.2.2.2.1 bt180.2.2.2.2))) = some (r1, r2, r3) := by first | (rw [hy177]; with_reducible exact H) | (have H2_ := (Option.bind_some _ _).symm.trans H; rw [hy177]; with_reducible exact H2_) | (have H2_ := (Option.bind_some _ _).symm.trans H; with_reducible exact H2_) | with_reducible exact H | (rw [hy177]; exact H) | exact H
        have Ny177 := Aside0.mk hy177
        clear hy177
        replace H := Option.bind_eq_some_iff.mp H
        obtain ⟨⟨t180, t181, t182, t183, t184⟩, A80, H⟩ := H
        replace H : (if t180 = true then (host_Expand.j1 k1 a0 x5_1 x172001_1 t172 y177 (!t180) (t183 == 0 && (t184 == 0)) t181 t182 t183 t184) else (host_Expand.j1 k1 a0 x5_1 x172001_1 t172 y177 (!t180) false t181 t182 t183 t184)) = some (r1, r2, r3) := H
        have A8 := Aside0.mk A80
        clear A80
        have HC9 := Aside0.mk H
        clear H
        obtain ⟨HGz10, hgz10⟩ := HI171.out
        have hcz10_0 := cellS49_0 HGz10
        have hcz10_1 := cellS49_1 HGz10
        have hcz10_2 := cellS49_2 HGz10
        have hcz10_3 := cellS49_3 HGz10
        have hfz10_0 := blk_frozen HGz10 0
        have hfz10_1 := blk_frozen HGz10 1
        have hfz10_2 := blk_frozen HGz10 2
        have hfz10_3 := blk_frozen HGz10 3
        clear HGz10 hgz10
        go_upto_region 9 with (first | ((with_reducible refine gate_callee (f := 23) rfl ?_); refine goesL_ (some 29) rfl rfl Tryd.func23 (by kernel_rfl) rfl #[.pointer (some ⟨gb171, 0, none⟩), .int .i64 (a0.size : Int), takeVal 24] rfl (by (try simp only [List.map_toArray, List.map_cons, List.map_nil]); first | done | rfl | (simp only [List.length_drop, List.length_take]; rfl)) ?_; (with_reducible refine (host_reader_take.calls k1 gb171 x172000_1 x172001_1 x172002_1 x172003_1 (a0.size : Int) 24 t172 t173 t174 t175 t176 w _ ?side1 ?side2 A7.out).mono ?_); (case side1 => repeat (first | (with_reducible first | exact HI171.out | apply IsS49.alloc | apply IsS49.drewN | apply IsS49.drew | apply IsS49.set_0 | apply IsS49.set_1 | apply IsS49.set_2 | apply IsS49.set_3 | (apply IsS49.far; (case hne => exact NB171_170.out))) | exact HI171.out)); (case side2 => repeat (first | (with_reducible first | exact HB.out | apply below_alloc | apply pw_below_drewN | apply below_drew1 | refine below_set ?_ (IsS49.ge HI171.out) | refine below_set ?_ GE170.out) | exact HB.out)); rintro e w11 ⟨rfl, hi, hb, hk⟩; refine ⟨_, rfl, ?_⟩; have n0_ := Aside0.mk (Kd.R_mono (Kd.R_keep (IsS49.apart (show IsS49 w _ gb171 x172000_1 x172001_1 x172002_1 x172003_1 from by repeat (first | (with_reducible first | exact HI171.out | apply IsS49.alloc | apply IsS49.drewN | apply IsS49.drew | apply IsS49.set_0 | apply IsS49.set_1 | apply IsS49.set_2 | apply IsS49.set_3 | (apply IsS49.far; (case hne => exact NB171_170.out))) | exact HI171.out)) (by (with_reducible repeat (first | apply Kd.R_alloc | apply Kd.R_drewN | apply Kd.R_drew)); exact HO_5.out) (by decide)) hk (fun _ h => h.2)) (fun _ h => h.1)); have n1_ := Aside0.mk (KeepBut.blk hk (g' := gb170) (o := .cells #[.int .i64 x171000_1, .int .i64 x171001_1] 27 (0, 0)) (by (with_reducible repeat (first | refine blk_drewN ?_ _ | refine blk_drew ?_ | refine blk_alloc ?_ _)); exact BK170.out) NB170_171.out (by simp)); have n2_ := Aside0.mk (hb); have n3_ := Aside0.mk (hi); clear HO_5; clear BK170; clear HB; clear HI171; have HO_5 := n0_; have BK170 := n1_; have HB := n2_; have HI171 := n3_; clear n0_ n1_ n2_ n3_; (try clear hb); (try clear hb2); (try clear hk); (try clear hi)) | ((with_reducible refine gate_dst (N := 30) rfl ?_); refine Kd.R_lit k54 _ 54 ?hg (N := 30) ?hd (xs := ([] : List (S54))) (inner := []) (ok := fun _ => True) (okp := fun _ => True) ?hr ?hp (fun _ hk => hk) trivial (Below.refl _ _) (Nat.le_refl _) (by simp) ?_; (case hd => rfl); (case hg => rfl); (case hr => first | (go_simp; done) | (go_simp; rfl)); (case hp => exact (Reps.none _ _)); intro v178 w12 ho13 hb hg_ hnew_; clear hg_ hnew_; (first | rw [← Ny177.out] at ho13 | (simp only [Int.reduceToNat] at ho13; rw [← Ny177.out] at ho13)); have n0_ := Aside0.mk (Kd.R_below (by (with_reducible repeat (first | apply Kd.R_alloc | apply Kd.R_drewN | apply Kd.R_drew)); exact HO_5.out) hb); have n1_ := Aside0.mk (Kd.R_lower ho13 (below_size (by repeat (first | (with_reducible first | exact HB.out | apply below_alloc | apply pw_below_drewN | apply below_drew1 | refine below_set ?_ (IsS49.ge HI171.out) | refine below_set ?_ GE170.out) | exact HB.out)))); have n2_ := Aside0.mk (blk_below (g := gb170) (o := .cells #[.int .i64 x171000_1, .int .i64 x171001_1] 27 (0, 0)) (by (with_reducible repeat (first | refine blk_drewN ?_ _ | refine blk_drew ?_ | refine blk_alloc ?_ _)); exact BK170.out) hb); have n3_ := Aside0.mk (IsS49.below (by repeat (first | (with_reducible first | exact HI171.out | apply IsS49.alloc | apply IsS49.drewN | apply IsS49.drew | apply IsS49.set_0 | apply IsS49.set_1 | apply IsS49.set_2 | apply IsS49.set_3 | (apply IsS49.far; (case hne => exact NB171_170.out))) | exact HI171.out)) hb); have n4_ := Aside0.mk (below_step (by repeat (first | (with_reducible first | exact HB.out | apply below_alloc | apply pw_below_drewN | apply below_drew1 | refine below_set ?_ (IsS49.ge HI171.out) | refine below_set ?_ GE170.out) | exact HB.out)) hb); clear HO_5; clear BK170; clear HI171; clear HB; have HO_5 := n0_; have HO179 := n1_; have BK170 := n2_; have HI171 := n3_; have HB := n4_; clear n0_ n1_ n2_ n3_ n4_; clear hb ho13) | ((with_reducible refine gate_callee (f := 25) rfl ?_); refine goesL_ (some 32) rfl rfl Tryd.func25 (by kernel_rfl) rfl #[.pointer (some ⟨gb171, 0, none⟩), .int .u8 91] rfl (by (try simp only [List.map_toArray, List.map_cons, List.map_nil]); first | done | rfl | (simp only [List.length_drop, List.length_take]; rfl)) ?_; (with_reducible refine (host_reader_next.calls gb171 t173 t174 t175 t176 91 t180 t181 t182 t183 t184 w _ ?side1 ?side2 A8.out).mono ?_); (case side1 => repeat (first | (with_reducible first | exact HI171.out | apply IsS49.alloc | apply IsS49.drewN | apply IsS49.drew | apply IsS49.set_0 | apply IsS49.set_1 | apply IsS49.set_2 | apply IsS49.set_3 | (apply IsS49.far; (case hne => exact NB171_170.out))) | exact HI171.out)); (case side2 => repeat (first | (with_reducible first | exact HB.out | apply below_alloc | apply pw_below_drewN | apply below_drew1 | refine below_set ?_ (IsS49.ge HI171.out) | refine below_set ?_ GE170.out) | exact HB.out)); rintro e w14 ⟨rfl, hi, hb, hk⟩; refine ⟨_, rfl, ?_⟩; have n0_ := Aside0.mk (Kd.R_mono (Kd.R_keep (IsS49.apart (show IsS49 w _ gb171 t173 t174 t175 t176 from by repeat (first | (with_reducible first | exact HI171.out | apply IsS49.alloc | apply IsS49.drewN | apply IsS49.drew | apply IsS49.set_0 | apply IsS49.set_1 | apply IsS49.set_2 | apply IsS49.set_3 | (apply IsS49.far; (case hne => exact NB171_170.out))) | exact HI171.out)) (by (with_reducible repeat (first | apply Kd.R_alloc | apply Kd.R_drewN | apply Kd.R_drew)); exact HO_5.out) (by decide)) hk (fun _ h => h.2)) (fun _ h => h.1)); have n1_ := Aside0.mk (KeepBut.blk hk (g' := gb170) (o := .cells #[.int .i64 x171000_1, .int .i64 x171001_1] 27 (0, 0)) (by (with_reducible repeat (first | refine blk_drewN ?_ _ | refine blk_drew ?_ | refine blk_alloc ?_ _)); exact BK170.out) NB170_171.out (by simp)); have n2_ := Aside0.mk (Kd.R_mono (Kd.R_keep (IsS49.apart (show IsS49 w _ gb171 t173 t174 t175 t176 from by repeat (first | (with_reducible first | exact HI171.out | apply IsS49.alloc | apply IsS49.drewN | apply IsS49.drew | apply IsS49.set_0 | apply IsS49.set_1 | apply IsS49.set_2 | apply IsS49.set_3 | (apply IsS49.far; (case hne => exact NB171_170.out))) | exact HI171.out)) (by (with_reducible repeat (first | apply Kd.R_alloc | apply Kd.R_drewN | apply Kd.R_drew)); exact HO179.out) (by decide)) hk (fun _ h => h.2)) (fun _ h => h.1)); have n3_ := Aside0.mk (hb); have n4_ := Aside0.mk (hi); clear HO_5; clear BK170; clear HO179; clear HB; clear HI171; have HO_5 := n0_; have BK170 := n1_; have HO179 := n2_; have HB := n3_; have HI171 := n4_; clear n0_ n1_ n2_ n3_ n4_; (try clear hb); (try clear hb2); (try clear hk); (try clear hi)))
        (try simp only [Act.put, List.setIfInBounds_toArray, List.set_cons_zero, List.set_cons_succ])
        go_cut [43] (fun v43 wc => ∃ (kq : Nat) (x43_8 : Bool), v43 = .bool x43_8 ∧ Aside0 (host_Expand.j1 kq a0 x5_1 x172001_1 t172 y177 (!t180) x43_8 t181 t182 t183 t184 = some (r1, r2, r3)) ∧ Aside0 (kq ≤ k1) ∧ Aside0 (Kd.R Kd.string 9 wc w.heap.size (fun _ => True) u5 x5_1) ∧ Aside0 (Kd.R k54 54 wc w.heap.size (fun _ => True) v178 y177) ∧ Aside0 (wc.heap[gb170]? = some (.cells #[.int .i64 x171000_1, .int .i64 x171001_1] 27 (0, 0))) ∧ Aside0 (IsS49 w wc gb171 t181 t182 t183 t184) ∧ Aside0 (Below w.heap.size w wc))
        case first =>
          have H := HC9.out
          clear HC9
          by_cases c15 : t180 = true
          · subst c15
            have H1 : (host_Expand.j1 k1 a0 x5_1 x172001_1 t172 y177 (!true) (t183 == 0 && (t184 == 0)) t181 t182 t183 t184) = some (r1, r2, r3) := by rw [if_pos rfl] at H; exact H
            clear H
            have H := H1
            clear H1
            have H' := Aside0.mk H
            clear H
            obtain ⟨HGz16, hgz16⟩ := HI171.out
            have hcz16_0 := cellS49_0 HGz16
            have hcz16_1 := cellS49_1 HGz16
            have hcz16_2 := cellS49_2 HGz16
            have hcz16_3 := cellS49_3 HGz16
            have hfz16_0 := blk_frozen HGz16 0
            have hfz16_1 := blk_frozen HGz16 1
            have hfz16_2 := blk_frozen HGz16 2
            have hfz16_3 := blk_frozen HGz16 3
            clear HGz16 hgz16
            go_wp2
            go_meet
            case rel => exact ⟨_, ((t183 == 0 && (t184 == 0))), (by first | rfl | (simp; done) | (simp [*]; done)), H', ⟨by have := HK1.out; first | omega | exact Nat.le_refl _⟩, ⟨by (with_reducible repeat (first | apply Kd.R_alloc | apply Kd.R_drewN | apply Kd.R_drew)); exact HO_5.out⟩, ⟨by (with_reducible repeat (first | apply Kd.R_alloc | apply Kd.R_drewN | apply Kd.R_drew)); exact HO179.out⟩, ⟨by (with_reducible repeat (first | refine blk_drewN ?_ _ | refine blk_drew ?_ | refine blk_alloc ?_ _)); exact BK170.out⟩, ⟨by repeat (first | (with_reducible first | exact HI171.out | apply IsS49.alloc | apply IsS49.drewN | apply IsS49.drew | apply IsS49.set_0 | apply IsS49.set_1 | apply IsS49.set_2 | apply IsS49.set_3 | (apply IsS49.far; (case hne => exact NB171_170.out))) | exact HI171.out)⟩, ⟨by repeat (first | (with_reducible first | exact HB.out | apply below_alloc | apply pw_below_drewN | apply below_drew1 | refine below_set ?_ (IsS49.ge HI171.out) | refine below_set ?_ GE170.out) | exact HB.out)⟩⟩
          · replace c15 := Bool.eq_false_iff.mpr c15
            subst c15
            have H1 : (host_Expand.j1 k1 a0 x5_1 x172001_1 t172 y177 (!false) false t181 t182 t183 t184) = some (r1, r2, r3) := by rw [if_neg (show ¬ (false = true) by decide)] at H; exact H
            clear H
            have H := H1
            clear H1
            have H' := Aside0.mk H
            clear H
            go_wp2
            go_meet
            case rel => exact ⟨_, (false), (by first | rfl | (simp; done) | (simp [*]; done)), H', ⟨by have := HK1.out; first | omega | exact Nat.le_refl _⟩, ⟨by (with_reducible repeat (first | apply Kd.R_alloc | apply Kd.R_drewN | apply Kd.R_drew)); exact HO_5.out⟩, ⟨by (with_reducible repeat (first | apply Kd.R_alloc | apply Kd.R_drewN | apply Kd.R_drew)); exact HO179.out⟩, ⟨by (with_reducible repeat (first | refine blk_drewN ?_ _ | refine blk_drew ?_ | refine blk_alloc ?_ _)); exact BK170.out⟩, ⟨by repeat (first | (with_reducible first | exact HI171.out | apply IsS49.alloc | apply IsS49.drewN | apply IsS49.drew | apply IsS49.set_0 | apply IsS49.set_1 | apply IsS49.set_2 | apply IsS49.set_3 | (apply IsS49.far; (case hne => exact NB171_170.out))) | exact HI171.out)⟩, ⟨by repeat (first | (with_reducible first | exact HB.out | apply below_alloc | apply pw_below_drewN | apply below_drew1 | refine below_set ?_ (IsS49.ge HI171.out) | refine below_set ?_ GE170.out) | exact HB.out)⟩⟩
        case rest =>
          clear HC9
          try clear c1
          try clear c2
          try clear c2b0
          try clear c2b1
          try clear p2
          try clear c11
          try clear c15
          try clear hcz10_0
          try clear hcz10_1
          try clear hcz10_2
          try clear hcz10_3
          try clear hcz16_0
          try clear hcz16_1
          try clear hcz16_2
          try clear hcz16_3
          try clear hcz4_0
          try clear hcz4_1
          try clear hfz10_0
          try clear hfz10_1
          try clear hfz10_2
          try clear hfz10_3
          try clear hfz16_0
          try clear hfz16_1
          try clear hfz16_2
          try clear hfz16_3
          try clear hfz4_0
          try clear hfz4_1
          try clear p2
          obtain ⟨kq, x43_8, rfl, HA, HJ8, HO_5, HO_8, BK170, HI171, HB⟩ := hcut
          cases kq with
          | zero => exact absurd HA.out (by simp [host_Expand.j1])
          | succ kj8 =>
            have H := HA.out
            clear HA
            simp only [host_Expand.j1] at H
            have HC17 := Aside0.mk H
            clear H
            go_upto_if 43 with (fail)
            go_cut [8] (fun v8 wc => ∃ (kq : Nat) (x8_16 : List (S54)) (x172000_16 : ByteArray) (x172001_16 : Int) (x172002_16 : Int) (x172003_16 : Int), Aside0 (host_Expand.j2 kq a0 x5_1 x172001_1 t172 x8_16 (!t180) x172000_16 x172001_16 x172002_16 x172003_16 = some (r1, r2, r3)) ∧ Aside0 (kq ≤ kj8) ∧ Aside0 (Kd.R Kd.string 9 wc w.heap.size (fun _ => True) u5 x5_1) ∧ Aside0 (Kd.R k54 54 wc w.heap.size (fun _ => True) v8 x8_16) ∧ Aside0 (wc.heap[gb170]? = some (.cells #[.int .i64 x171000_1, .int .i64 x171001_1] 27 (0, 0))) ∧ Aside0 (IsS49 w wc gb171 x172000_16 x172001_16 x172002_16 x172003_16) ∧ Aside0 (Below w.heap.size w wc))
            case first =>
              have H := HC17.out
              clear HC17
              by_cases c18 : x43_8 = true
              · subst c18
                have H1 : ((host_reader_spans.f kj8 t181 t182 t183 t184).bind fun bt185 => (host_Expand.j2 kj8 a0 x5_1 x172001_1 t172 bt185.1 (!t180) bt185.2.1 bt185.2.2.1 bt185.2.2.2.1 bt185.2.2.2.2)) = some (r1, r2, r3) := by rw [if_pos rfl] at H; exact H
                clear H
                have H := H1
                clear H1
                replace H := Option.bind_eq_some_iff.mp H
                obtain ⟨⟨t185, t188, t189, t190, t191⟩, A190, H⟩ := H
                replace H : (host_Expand.j2 kj8 a0 x5_1 x172001_1 t172 t185 (!t180) t188 t189 t190 t191) = some (r1, r2, r3) := H
                have A19 := Aside0.mk A190
                clear A190
                have H' := Aside0.mk H
                clear H
                go_wp2_with (first | ((with_reducible refine gate_callee (f := 26) rfl ?_); refine goesL_ (some 45) rfl rfl Tryd.func26 (by kernel_rfl) rfl #[.pointer (some ⟨gb171, 0, none⟩)] rfl (by (try simp only [List.map_toArray, List.map_cons, List.map_nil]); first | done | rfl | (simp only [List.length_drop, List.length_take]; rfl)) ?_; (with_reducible refine (host_reader_spans.calls kj8 gb171 t181 t182 t183 t184 t185 t188 t189 t190 t191 w _ ?side1 ?side2 A19.out HG_.out).mono ?_); (case side1 => repeat (first | (with_reducible first | exact HI171.out | apply IsS49.alloc | apply IsS49.drewN | apply IsS49.drew | apply IsS49.set_0 | apply IsS49.set_1 | apply IsS49.set_2 | apply IsS49.set_3 | (apply IsS49.far; (case hne => exact NB171_170.out))) | exact HI171.out)); (case side2 => repeat (first | (with_reducible first | exact HB.out | apply below_alloc | apply pw_below_drewN | apply below_drew1 | refine below_set ?_ (IsS49.ge HI171.out) | refine below_set ?_ GE170.out) | exact HB.out)); rintro e w20 ⟨v186, rfl, ho0, hi, hb, hk⟩; refine ⟨_, rfl, ?_⟩; have n0_ := Aside0.mk (Kd.R_mono (Kd.R_keep (IsS49.apart (show IsS49 w _ gb171 t181 t182 t183 t184 from by repeat (first | (with_reducible first | exact HI171.out | apply IsS49.alloc | apply IsS49.drewN | apply IsS49.drew | apply IsS49.set_0 | apply IsS49.set_1 | apply IsS49.set_2 | apply IsS49.set_3 | (apply IsS49.far; (case hne => exact NB171_170.out))) | exact HI171.out)) (by (with_reducible repeat (first | apply Kd.R_alloc | apply Kd.R_drewN | apply Kd.R_drew)); exact HO_5.out) (by decide)) hk (fun _ h => h.2)) (fun _ h => h.1)); have n1_ := Aside0.mk (Kd.R_mono (Kd.R_told (Kd.R_oldK (IsS49.apart (show IsS49 w _ gb171 t181 t182 t183 t184 from by repeat (first | (with_reducible first | exact HI171.out | apply IsS49.alloc | apply IsS49.drewN | apply IsS49.drew | apply IsS49.set_0 | apply IsS49.set_1 | apply IsS49.set_2 | apply IsS49.set_3 | (apply IsS49.far; (case hne => exact NB171_170.out))) | exact HI171.out)) (by (with_reducible repeat (first | apply Kd.R_alloc | apply Kd.R_drewN | apply Kd.R_drew)); exact HO_8.out) (by decide)) hk) (Kd.R_base ho0)) (fun _ h_ => h_.1)); have n2_ := Aside0.mk (KeepBut.blk hk (g' := gb170) (o := .cells #[.int .i64 x171000_1, .int .i64 x171001_1] 27 (0, 0)) (by (with_reducible repeat (first | refine blk_drewN ?_ _ | refine blk_drew ?_ | refine blk_alloc ?_ _)); exact BK170.out) NB170_171.out (by simp)); have n3_ := Aside0.mk (Kd.R_lower (Kd.R_new' ho0 (Kd.R_lt (by (with_reducible repeat (first | apply Kd.R_alloc | apply Kd.R_drewN | apply Kd.R_drew)); exact HO_8.out))) (below_size (by repeat (first | (with_reducible first | exact HB.out | apply below_alloc | apply pw_below_drewN | apply below_drew1 | refine below_set ?_ (IsS49.ge HI171.out) | refine below_set ?_ GE170.out) | exact HB.out)))); have n4_ := Aside0.mk (hb); have n5_ := Aside0.mk (hi); clear HO_5; clear HO_8; clear BK170; clear HB; clear HI171; have HO_5 := n0_; have HO_8 := n1_; have BK170 := n2_; have HO187 := n3_; have HB := n4_; have HI171 := n5_; clear n0_ n1_ n2_ n3_ n4_ n5_; (try clear hb); (try clear hb2); (try clear hk); (try clear hi); (try clear ho0)))
                go_meet
                case rel => exact ⟨_, (t185), (t188), (t189), (t190), (t191), H', ⟨by have := HK1.out; have := HJ8.out; first | omega | exact Nat.le_refl _⟩, ⟨by (with_reducible repeat (first | apply Kd.R_alloc | apply Kd.R_drewN | apply Kd.R_drew)); exact HO_5.out⟩, ⟨by (with_reducible repeat (first | apply Kd.R_alloc | apply Kd.R_drewN | apply Kd.R_drew)); exact Kd.R_mono HO187.out (fun _ hk => trivial)⟩, ⟨by (with_reducible repeat (first | refine blk_drewN ?_ _ | refine blk_drew ?_ | refine blk_alloc ?_ _)); exact BK170.out⟩, ⟨by repeat (first | (with_reducible first | exact HI171.out | apply IsS49.alloc | apply IsS49.drewN | apply IsS49.drew | apply IsS49.set_0 | apply IsS49.set_1 | apply IsS49.set_2 | apply IsS49.set_3 | (apply IsS49.far; (case hne => exact NB171_170.out))) | exact HI171.out)⟩, ⟨by repeat (first | (with_reducible first | exact HB.out | apply below_alloc | apply pw_below_drewN | apply below_drew1 | refine below_set ?_ (IsS49.ge HI171.out) | refine below_set ?_ GE170.out) | exact HB.out)⟩⟩
              · replace c18 := Bool.eq_false_iff.mpr c18
                subst c18
                have H1 : (host_Expand.j2 kj8 a0 x5_1 x172001_1 t172 y177 (!t180) t181 t182 t183 t184) = some (r1, r2, r3) := by rw [if_neg (show ¬ (false = true) by decide)] at H; exact H
                clear H
                have H := H1
                clear H1
                have H' := Aside0.mk H
                clear H
                go_wp2
                go_meet
                case rel => exact ⟨_, (y177), (t181), (t182), (t183), (t184), H', ⟨by have := HK1.out; have := HJ8.out; first | omega | exact Nat.le_refl _⟩, ⟨by (with_reducible repeat (first | apply Kd.R_alloc | apply Kd.R_drewN | apply Kd.R_drew)); exact HO_5.out⟩, ⟨by (with_reducible repeat (first | apply Kd.R_alloc | apply Kd.R_drewN | apply Kd.R_drew)); exact HO_8.out⟩, ⟨by (with_reducible repeat (first | refine blk_drewN ?_ _ | refine blk_drew ?_ | refine blk_alloc ?_ _)); exact BK170.out⟩, ⟨by repeat (first | (with_reducible first | exact HI171.out | apply IsS49.alloc | apply IsS49.drewN | apply IsS49.drew | apply IsS49.set_0 | apply IsS49.set_1 | apply IsS49.set_2 | apply IsS49.set_3 | (apply IsS49.far; (case hne => exact NB171_170.out))) | exact HI171.out)⟩, ⟨by repeat (first | (with_reducible first | exact HB.out | apply below_alloc | apply pw_below_drewN | apply below_drew1 | refine below_set ?_ (IsS49.ge HI171.out) | refine below_set ?_ GE170.out) | exact HB.out)⟩⟩
            case rest =>
              clear HC17
              try clear c1
              try clear c2
              try clear c2b0
              try clear c2b1
              try clear p2
              try clear c11
              try clear c15
              try clear c18
              try clear hcz10_0
              try clear hcz10_1
              try clear hcz10_2
              try clear hcz10_3
              try clear hcz16_0
              try clear hcz16_1
              try clear hcz16_2
              try clear hcz16_3
              try clear hcz4_0
              try clear hcz4_1
              try clear hfz10_0
              try clear hfz10_1
              try clear hfz10_2
              try clear hfz10_3
              try clear hfz16_0
              try clear hfz16_1
              try clear hfz16_2
              try clear hfz16_3
              try clear hfz4_0
              try clear hfz4_1
              try clear p2
              obtain ⟨kq, x8_16, x172000_16, x172001_16, x172002_16, x172003_16, HA, HJ16, HO_5, HO_8, BK170, HI171, HB⟩ := hcut
              cases kq with
              | zero => exact absurd HA.out (by simp [host_Expand.j2])
              | succ kj16 =>
                have H := HA.out
                clear HA
                simp only [host_Expand.j2] at H
                have HC21 := Aside0.mk H
                clear H
                go_upto_region 11 with (fail)
                go_cut [61] (fun v61 wc => ∃ (kq : Nat) (x61_20 : Bool), v61 = .bool x61_20 ∧ Aside0 (host_Expand.j3 kq a0 x5_1 x172001_1 t172 x8_16 (!t180) x61_20 x172000_16 x172001_16 x172002_16 x172003_16 = some (r1, r2, r3)) ∧ Aside0 (kq ≤ kj16) ∧ Aside0 (Kd.R Kd.string 9 wc w.heap.size (fun _ => True) u5 x5_1) ∧ Aside0 (Kd.R k54 54 wc w.heap.size (fun _ => True) u8 x8_16) ∧ Aside0 (wc.heap[gb170]? = some (.cells #[.int .i64 x171000_1, .int .i64 x171001_1] 27 (0, 0))) ∧ Aside0 (IsS49 w wc gb171 x172000_16 x172001_16 x172002_16 x172003_16) ∧ Aside0 (Below w.heap.size w wc))
                case first =>
                  have H := HC21.out
                  clear HC21
                  by_cases c22 : x172001_16 < (a0.size : Int)
                  · rw [if_pos c22] at H
                    have c22b0 : decide (x172001_16 < (a0.size : Int)) = true := decide_eq_true c22
                    clear c22
                    (first | rw [c22b0] | (simp only [i64_w, i32_w]; rw [c22b0]) | skip)
                    by_cases c23 : 0 ≤ x172001_16
                    · rw [if_pos c23] at H
                      have c23b0 : decide (0 ≤ x172001_16) = true := decide_eq_true c23
                      clear c23
                      have H' := Aside0.mk H
                      clear H
                      obtain ⟨HGz25, hgz25⟩ := HI171.out
                      have hcz25_0 := cellS49_0 HGz25
                      have hcz25_1 := cellS49_1 HGz25
                      have hcz25_2 := cellS49_2 HGz25
                      have hcz25_3 := cellS49_3 HGz25
                      have hfz25_0 := blk_frozen HGz25 0
                      have hfz25_1 := blk_frozen HGz25 1
                      have hfz25_2 := blk_frozen HGz25 2
                      have hfz25_3 := blk_frozen HGz25 3
                      clear HGz25 hgz25
                      have p24 : 0 ≤ (x172001_16 : Int) := of_decide_eq_true (by first | (with_reducible assumption) | assumption)
                      have q24 : x172001_16 < (a0.size : Int) := of_decide_eq_true (by first | (with_reducible assumption) | assumption)
                      have hx24 := bt_at a0 x172001_16
                      replace p24 := eq_true p24
                      replace q24 := eq_true q24
                      go_wp2
                      go_meet
                      case rel => exact ⟨_, (((bt a0 x172001_16) != 44)), (by first | rfl | (simp; done) | (simp [*]; done)), H', ⟨by have := HK1.out; have := HJ8.out; have := HJ16.out; first | omega | exact Nat.le_refl _⟩, ⟨by (with_reducible repeat (first | apply Kd.R_alloc | apply Kd.R_drewN | apply Kd.R_drew)); exact HO_5.out⟩, ⟨by (with_reducible repeat (first | apply Kd.R_alloc | apply Kd.R_drewN | apply Kd.R_drew)); exact HO_8.out⟩, ⟨by (with_reducible repeat (first | refine blk_drewN ?_ _ | refine blk_drew ?_ | refine blk_alloc ?_ _)); exact BK170.out⟩, ⟨by repeat (first | (with_reducible first | exact HI171.out | apply IsS49.alloc | apply IsS49.drewN | apply IsS49.drew | apply IsS49.set_0 | apply IsS49.set_1 | apply IsS49.set_2 | apply IsS49.set_3 | (apply IsS49.far; (case hne => exact NB171_170.out))) | exact HI171.out)⟩, ⟨by repeat (first | (with_reducible first | exact HB.out | apply below_alloc | apply pw_below_drewN | apply below_drew1 | refine below_set ?_ (IsS49.ge HI171.out) | refine below_set ?_ GE170.out) | exact HB.out)⟩⟩
                    · rw [if_neg c23] at H
                      exact absurd H (by simp)
                  · rw [if_neg c22] at H
                    have c22b0 : decide (x172001_16 < (a0.size : Int)) = false := decide_eq_false c22
                    clear c22
                    (first | rw [c22b0] | (simp only [i64_w, i32_w]; rw [c22b0]) | skip)
                    have H' := Aside0.mk H
                    clear H
                    obtain ⟨HGz26, hgz26⟩ := HI171.out
                    have hcz26_0 := cellS49_0 HGz26
                    have hcz26_1 := cellS49_1 HGz26
                    have hcz26_2 := cellS49_2 HGz26
                    have hcz26_3 := cellS49_3 HGz26
                    have hfz26_0 := blk_frozen HGz26 0
                    have hfz26_1 := blk_frozen HGz26 1
                    have hfz26_2 := blk_frozen HGz26 2
                    have hfz26_3 := blk_frozen HGz26 3
                    clear HGz26 hgz26
                    go_wp2
                    go_meet
                    case rel => exact ⟨_, (false), (by first | rfl | (simp; done) | (simp [*]; done)), H', ⟨by have := HK1.out; have := HJ8.out; have := HJ16.out; first | omega | exact Nat.le_refl _⟩, ⟨by (with_reducible repeat (first | apply Kd.R_alloc | apply Kd.R_drewN | apply Kd.R_drew)); exact HO_5.out⟩, ⟨by (with_reducible repeat (first | apply Kd.R_alloc | apply Kd.R_drewN | apply Kd.R_drew)); exact HO_8.out⟩, ⟨by (with_reducible repeat (first | refine blk_drewN ?_ _ | refine blk_drew ?_ | refine blk_alloc ?_ _)); exact BK170.out⟩, ⟨by repeat (first | (with_reducible first | exact HI171.out | apply IsS49.alloc | apply IsS49.drewN | apply IsS49.drew | apply IsS49.set_0 | apply IsS49.set_1 | apply IsS49.set_2 | apply IsS49.set_3 | (apply IsS49.far; (case hne => exact NB171_170.out))) | exact HI171.out)⟩, ⟨by repeat (first | (with_reducible first | exact HB.out | apply below_alloc | apply pw_below_drewN | apply below_drew1 | refine below_set ?_ (IsS49.ge HI171.out) | refine below_set ?_ GE170.out) | exact HB.out)⟩⟩
                case rest =>
                  clear HC21
                  try clear c1
                  try clear c2
                  try clear c2b0
                  try clear c2b1
                  try clear p2
                  try clear q2
                  try clear hx2
                  try clear c11
                  try clear c15
                  try clear c18
                  try clear c22
                  try clear c22b0
                  try clear c23
                  try clear c23b0
                  try clear p24
                  try clear q24
                  try clear hx24
                  try clear c25
                  try clear c26
                  try clear hcz10_0
                  try clear hcz10_1
                  try clear hcz10_2
                  try clear hcz10_3
                  try clear hcz16_0
                  try clear hcz16_1
                  try clear hcz16_2
                  try clear hcz16_3
                  try clear hcz25_0
                  try clear hcz25_1
                  try clear hcz25_2
                  try clear hcz25_3
                  try clear hcz26_0
                  try clear hcz26_1
                  try clear hcz26_2
                  try clear hcz26_3
                  try clear hcz4_0
                  try clear hcz4_1
                  try clear hfz10_0
                  try clear hfz10_1
                  try clear hfz10_2
                  try clear hfz10_3
                  try clear hfz16_0
                  try clear hfz16_1
                  try clear hfz16_2
                  try clear hfz16_3
                  try clear hfz25_0
                  try clear hfz25_1
                  try clear hfz25_2
                  try clear hfz25_3
                  try clear hfz26_0
                  try clear hfz26_1
                  try clear hfz26_2
                  try clear hfz26_3
                  try clear hfz4_0
                  try clear hfz4_1
                  try clear p2
                  try clear p24
                  try clear q24
                  obtain ⟨kq, x61_20, rfl, HA, HJ20, HO_5, HO_8, BK170, HI171, HB⟩ := hcut
                  cases kq with
                  | zero => exact absurd HA.out (by simp [host_Expand.j3])
                  | succ kj20 =>
                    have H := HA.out
                    clear HA
                    simp only [host_Expand.j3] at H
                    have HC27 := Aside0.mk H
                    clear H
                    go_upto_if 61 with (fail)
                    go_cut [] (fun wc => ∃ (kq : Nat) (x172000_26 : ByteArray) (x172001_26 : Int) (x172002_26 : Int) (x172003_26 : Int), Aside0 (host_Expand.j4 kq a0 x5_1 x172001_1 t172 x8_16 (!t180) x172000_26 x172001_26 x172002_26 x172003_26 = some (r1, r2, r3)) ∧ Aside0 (kq ≤ kj20) ∧ Aside0 (Kd.R Kd.string 9 wc w.heap.size (fun _ => True) u5 x5_1) ∧ Aside0 (Kd.R k54 54 wc w.heap.size (fun _ => True) u8 x8_16) ∧ Aside0 (wc.heap[gb170]? = some (.cells #[.int .i64 x171000_1, .int .i64 x171001_1] 27 (0, 0))) ∧ Aside0 (IsS49 w wc gb171 x172000_26 x172001_26 x172002_26 x172003_26) ∧ Aside0 (Below w.heap.size w wc))
                    case first =>
                      have H := HC27.out
                      clear HC27
                      by_cases c28 : x61_20 = true
                      · subst c28
                        have H1 : ((host_reader_wrong.f x172000_16 x172001_16 x172002_16 x172003_16).bind fun bt192 => (host_Expand.j4 kj20 a0 x5_1 x172001_1 t172 x8_16 (!t180) bt192.1 bt192.2.1 bt192.2.2.1 bt192.2.2.2)) = some (r1, r2, r3) := by rw [if_pos rfl] at H; exact H
                        clear H
                        have H := H1
                        clear H1
                        replace H := Option.bind_eq_some_iff.mp H
                        obtain ⟨⟨t192, t193, t194, t195⟩, A290, H⟩ := H
                        replace H : (host_Expand.j4 kj20 a0 x5_1 x172001_1 t172 x8_16 (!t180) t192 t193 t194 t195) = some (r1, r2, r3) := H
                        have A29 := Aside0.mk A290
                        clear A290
                        have H' := Aside0.mk H
                        clear H
                        go_wp2_with (first | ((with_reducible refine gate_callee (f := 27) rfl ?_); refine goesL_ (some 63) rfl rfl Tryd.func27 (by kernel_rfl) rfl #[.pointer (some ⟨gb171, 0, none⟩)] rfl (by (try simp only [List.map_toArray, List.map_cons, List.map_nil]); first | done | rfl | (simp only [List.length_drop, List.length_take]; rfl)) ?_; (with_reducible refine (host_reader_wrong.calls gb171 x172000_16 x172001_16 x172002_16 x172003_16 t192 t193 t194 t195 w _ ?side1 ?side2 A29.out).mono ?_); (case side1 => repeat (first | (with_reducible first | exact HI171.out | apply IsS49.alloc | apply IsS49.drewN | apply IsS49.drew | apply IsS49.set_0 | apply IsS49.set_1 | apply IsS49.set_2 | apply IsS49.set_3 | (apply IsS49.far; (case hne => exact NB171_170.out))) | exact HI171.out)); (case side2 => repeat (first | (with_reducible first | exact HB.out | apply below_alloc | apply pw_below_drewN | apply below_drew1 | refine below_set ?_ (IsS49.ge HI171.out) | refine below_set ?_ GE170.out) | exact HB.out)); rintro e w30 ⟨rfl, hi, hb, hk⟩; refine ⟨_, rfl, ?_⟩; have n0_ := Aside0.mk (Kd.R_mono (Kd.R_keep (IsS49.apart (show IsS49 w _ gb171 x172000_16 x172001_16 x172002_16 x172003_16 from by repeat (first | (with_reducible first | exact HI171.out | apply IsS49.alloc | apply IsS49.drewN | apply IsS49.drew | apply IsS49.set_0 | apply IsS49.set_1 | apply IsS49.set_2 | apply IsS49.set_3 | (apply IsS49.far; (case hne => exact NB171_170.out))) | exact HI171.out)) (by (with_reducible repeat (first | apply Kd.R_alloc | apply Kd.R_drewN | apply Kd.R_drew)); exact HO_5.out) (by decide)) hk (fun _ h => h.2)) (fun _ h => h.1)); have n1_ := Aside0.mk (Kd.R_mono (Kd.R_keep (IsS49.apart (show IsS49 w _ gb171 x172000_16 x172001_16 x172002_16 x172003_16 from by repeat (first | (with_reducible first | exact HI171.out | apply IsS49.alloc | apply IsS49.drewN | apply IsS49.drew | apply IsS49.set_0 | apply IsS49.set_1 | apply IsS49.set_2 | apply IsS49.set_3 | (apply IsS49.far; (case hne => exact NB171_170.out))) | exact HI171.out)) (by (with_reducible repeat (first | apply Kd.R_alloc | apply Kd.R_drewN | apply Kd.R_drew)); exact HO_8.out) (by decide)) hk (fun _ h => h.2)) (fun _ h => h.1)); have n2_ := Aside0.mk (KeepBut.blk hk (g' := gb170) (o := .cells #[.int .i64 x171000_1, .int .i64 x171001_1] 27 (0, 0)) (by (with_reducible repeat (first | refine blk_drewN ?_ _ | refine blk_drew ?_ | refine blk_alloc ?_ _)); exact BK170.out) NB170_171.out (by simp)); have n3_ := Aside0.mk (hb); have n4_ := Aside0.mk (hi); clear HO_5; clear HO_8; clear BK170; clear HB; clear HI171; have HO_5 := n0_; have HO_8 := n1_; have BK170 := n2_; have HB := n3_; have HI171 := n4_; clear n0_ n1_ n2_ n3_ n4_; (try clear hb); (try clear hb2); (try clear hk); (try clear hi)))
                        go_meet
                        case rel => exact ⟨_, (t192), (t193), (t194), (t195), H', ⟨by have := HK1.out; have := HJ8.out; have := HJ16.out; have := HJ20.out; first | omega | exact Nat.le_refl _⟩, ⟨by (with_reducible repeat (first | apply Kd.R_alloc | apply Kd.R_drewN | apply Kd.R_drew)); exact HO_5.out⟩, ⟨by (with_reducible repeat (first | apply Kd.R_alloc | apply Kd.R_drewN | apply Kd.R_drew)); exact HO_8.out⟩, ⟨by (with_reducible repeat (first | refine blk_drewN ?_ _ | refine blk_drew ?_ | refine blk_alloc ?_ _)); exact BK170.out⟩, ⟨by repeat (first | (with_reducible first | exact HI171.out | apply IsS49.alloc | apply IsS49.drewN | apply IsS49.drew | apply IsS49.set_0 | apply IsS49.set_1 | apply IsS49.set_2 | apply IsS49.set_3 | (apply IsS49.far; (case hne => exact NB171_170.out))) | exact HI171.out)⟩, ⟨by repeat (first | (with_reducible first | exact HB.out | apply below_alloc | apply pw_below_drewN | apply below_drew1 | refine below_set ?_ (IsS49.ge HI171.out) | refine below_set ?_ GE170.out) | exact HB.out)⟩⟩
                      · replace c28 := Bool.eq_false_iff.mpr c28
                        subst c28
                        have H1 : (host_Expand.j4 kj20 a0 x5_1 x172001_1 t172 x8_16 (!t180) x172000_16 x172001_16 x172002_16 x172003_16) = some (r1, r2, r3) := by rw [if_neg (show ¬ (false = true) by decide)] at H; exact H
                        clear H
                        have H := H1
                        clear H1
                        have H' := Aside0.mk H
                        clear H
                        go_wp2
                        go_meet
                        case rel => exact ⟨_, (x172000_16), (x172001_16), (x172002_16), (x172003_16), H', ⟨by have := HK1.out; have := HJ8.out; have := HJ16.out; have := HJ20.out; first | omega | exact Nat.le_refl _⟩, ⟨by (with_reducible repeat (first | apply Kd.R_alloc | apply Kd.R_drewN | apply Kd.R_drew)); exact HO_5.out⟩, ⟨by (with_reducible repeat (first | apply Kd.R_alloc | apply Kd.R_drewN | apply Kd.R_drew)); exact HO_8.out⟩, ⟨by (with_reducible repeat (first | refine blk_drewN ?_ _ | refine blk_drew ?_ | refine blk_alloc ?_ _)); exact BK170.out⟩, ⟨by repeat (first | (with_reducible first | exact HI171.out | apply IsS49.alloc | apply IsS49.drewN | apply IsS49.drew | apply IsS49.set_0 | apply IsS49.set_1 | apply IsS49.set_2 | apply IsS49.set_3 | (apply IsS49.far; (case hne => exact NB171_170.out))) | exact HI171.out)⟩, ⟨by repeat (first | (with_reducible first | exact HB.out | apply below_alloc | apply pw_below_drewN | apply below_drew1 | refine below_set ?_ (IsS49.ge HI171.out) | refine below_set ?_ GE170.out) | exact HB.out)⟩⟩
                    case rest =>
                      clear HC27
                      try clear c1
                      try clear c2
                      try clear c2b0
                      try clear c2b1
                      try clear p2
                      try clear q2
                      try clear hx2
                      try clear c11
                      try clear c15
                      try clear c18
                      try clear c22
                      try clear c22b0
                      try clear c23
                      try clear c23b0
                      try clear p24
                      try clear q24
                      try clear hx24
                      try clear c25
                      try clear c26
                      try clear c27
                      try clear c28
                      try clear hcz10_0
                      try clear hcz10_1
                      try clear hcz10_2
                      try clear hcz10_3
                      try clear hcz16_0
                      try clear hcz16_1
                      try clear hcz16_2
                      try clear hcz16_3
                      try clear hcz25_0
                      try clear hcz25_1
                      try clear hcz25_2
                      try clear hcz25_3
                      try clear hcz26_0
                      try clear hcz26_1
                      try clear hcz26_2
                      try clear hcz26_3
                      try clear hcz4_0
                      try clear hcz4_1
                      try clear hfz10_0
                      try clear hfz10_1
                      try clear hfz10_2
                      try clear hfz10_3
                      try clear hfz16_0
                      try clear hfz16_1
                      try clear hfz16_2
                      try clear hfz16_3
                      try clear hfz25_0
                      try clear hfz25_1
                      try clear hfz25_2
                      try clear hfz25_3
                      try clear hfz26_0
                      try clear hfz26_1
                      try clear hfz26_2
                      try clear hfz26_3
                      try clear hfz4_0
                      try clear hfz4_1
                      try clear p2
                      try clear p24
                      try clear q2
                      try clear q24
                      obtain ⟨kq, x172000_26, x172001_26, x172002_26, x172003_26, HA, HJ26, HO_5, HO_8, BK170, HI171, HB⟩ := hcut
                      cases kq with
                      | zero => exact absurd HA.out (by simp [host_Expand.j4])
                      | succ kj26 =>
                        have H := HA.out
                        clear HA
                        simp only [host_Expand.j4] at H
                        by_cases c31 : (!(x172002_26 == 0) || (!(x172003_26 == 0))) = true
                        · rw [if_pos c31] at H
                          have c31b0 : (!(x172002_26 == 0) || (!(x172003_26 == 0))) = true := c31
                          clear c31
                          simp only [Option.some.injEq, Prod.mk.injEq] at H
                          obtain ⟨rfl, rfl, rfl⟩ := H
                          obtain ⟨HGz32, hgz32⟩ := HI171.out
                          have hcz32_0 := cellS49_0 HGz32
                          have hcz32_1 := cellS49_1 HGz32
                          have hcz32_2 := cellS49_2 HGz32
                          have hcz32_3 := cellS49_3 HGz32
                          have hfz32_0 := blk_frozen HGz32 0
                          have hfz32_1 := blk_frozen HGz32 1
                          have hfz32_2 := blk_frozen HGz32 2
                          have hfz32_3 := blk_frozen HGz32 3
                          clear HGz32 hgz32
                          try go_wp2
                          have n0_ := Aside0.mk (Kd.R_drew HO_5.out)
                          have n1_ := Aside0.mk (Kd.R_drew HO_8.out)
                          have n2_ := Aside0.mk (blk_drew BK170.out)
                          have n3_ := Aside0.mk (IsS49.drew HI171.out)
                          have n4_ := Aside0.mk (below_drew1 HB.out)
                          clear HO_5
                          clear HO_8
                          clear BK170
                          clear HI171
                          clear HB
                          have HO_5 := n0_
                          have HO_8 := n1_
                          have BK170 := n2_
                          have HI171 := n3_
                          have HB := n4_
                          clear n0_ n1_ n2_ n3_ n4_
                          refine start_ (n := 6) (S := fun w' => w'.cell? ⟨gb171, 0, none⟩ = some (.string x172000_26) ∧ w'.cell? ⟨gb171, 1, none⟩ = some (.int .i64 x172001_26) ∧ w'.cell? ⟨gb171, 2, none⟩ = some (.int .i64 x172002_26) ∧ w'.cell? ⟨gb171, 3, none⟩ = some (.int .i64 x172003_26)) (ds := []) #[false, false, false, false, false, false] (by kernel_rfl) rfl rfl ⟨(cellS49_0 (HI171.out).1), (cellS49_1 (HI171.out).1), (cellS49_2 (HI171.out).1), (cellS49_3 (HI171.out).1)⟩ (fun hHeld => ?_)
                          generalize wc.drew = w33 at HO_5 HO_8 BK170 HI171 HB hHeld ⊢
                          refine pure_ (i := 0) (N := some 70) (v := ?_) (a' := ?_) #[true, false, false, false, false, false] rfl rfl (by kernel_rfl) (fun _ _ _ h => h) (Or.inl ⟨by rfl, ?_⟩) ?_ ?_
                          rotate_left
                          · intro w'
                            go_simp
                            with_reducible rfl
                          rotate_left
                          · simp only [Act.put, List.setIfInBounds_toArray, List.set_cons_zero, List.set_cons_succ, i64_w, i32_w]
                            rfl
                          refine pure_ (i := 1) (N := some 71) (v := ?_) (a' := ?_) #[true, true, false, false, false, false] rfl rfl (by kernel_rfl) (fun _ _ _ h => h) (Or.inl ⟨by rfl, ?_⟩) ?_ ?_
                          rotate_left
                          · intro w'
                            go_simp
                            with_reducible rfl
                          rotate_left
                          · simp only [Act.put, List.setIfInBounds_toArray, List.set_cons_zero, List.set_cons_succ, i64_w, i32_w]
                            rfl
                          refine pure_ (i := 2) (N := some 72) (v := ?_) (a' := ?_) #[true, true, true, false, false, false] rfl rfl (by kernel_rfl) (fun _ _ _ h => h) (Or.inl ⟨by rfl, ?_⟩) ?_ ?_
                          rotate_left
                          · intro w'
                            go_simp
                            with_reducible rfl
                          rotate_left
                          · simp only [Act.put, List.setIfInBounds_toArray, List.set_cons_zero, List.set_cons_succ, i64_w, i32_w]
                            rfl
                          refine pure_ (i := 4) (N := some 2) (v := ?_) (a' := ?_) #[true, true, true, false, true, false] rfl rfl (by kernel_rfl) (fun _ _ _ h => h) (Or.inl ⟨by rfl, ?_⟩) ?_ ?_
                          rotate_left
                          · intro w'
                            go_simp
                            with_reducible rfl
                          rotate_left
                          · simp only [Act.put, List.setIfInBounds_toArray, List.set_cons_zero, List.set_cons_succ, i64_w, i32_w]
                            rfl
                          refine take_ (i := 3) (N := some 73) (v := ?_) (a' := ?_) #[true, true, true, true, true, false] rfl rfl (by kernel_rfl) (fun _ _ _ h => h) (Or.inl ⟨by rfl, ?_⟩) hHeld ?_ ?_
                          rotate_left
                          · rintro w' ⟨s0, s1, s2, s3⟩
                            go_simp
                            with_reducible rfl
                          rotate_left
                          · simp only [Act.put, List.setIfInBounds_toArray, List.set_cons_zero, List.set_cons_succ, i64_w, i32_w]
                            rfl
                          refine one_ (i := 5) (N := none) #[true, true, true, true, true, true] rfl rfl (by kernel_rfl) (by decide) (fun K hK => ?_)
                          have hs34 : w33.cell? ⟨gb170, 0, none⟩ = some (.int .i64 x171000_1) := (blk_cell BK170.out 0).trans rfl
                          have hfs34 := blk_frozen BK170.out 0
                          have hs35 : w33.cell? ⟨gb170, 1, none⟩ = some (.int .i64 x171001_1) := (blk_cell BK170.out 1).trans rfl
                          have hfs35 := blk_frozen BK170.out 1
                          refine skip_ (w1 := ?_) (by rfl) rfl ?_ ?_
                          rotate_left
                          · go_simp
                            rfl
                          refine hK.out _ _ ⟨((cell_far (p := ⟨gb170, _, none⟩) NB171_170.out _).trans (((cell_far (p := ⟨gb170, _, none⟩) NB171_170.out _).trans (hHeld.1)))), ((cell_far (p := ⟨gb170, _, none⟩) NB171_170.out _).trans (((cell_far (p := ⟨gb170, _, none⟩) NB171_170.out _).trans (hHeld.2.1)))), ((cell_far (p := ⟨gb170, _, none⟩) NB171_170.out _).trans (((cell_far (p := ⟨gb170, _, none⟩) NB171_170.out _).trans (hHeld.2.2.1)))), ((cell_far (p := ⟨gb170, _, none⟩) NB171_170.out _).trans (((cell_far (p := ⟨gb170, _, none⟩) NB171_170.out _).trans (hHeld.2.2.2))))⟩ (fun hHeld => ?_)
                          clear hK K
                          refine done_ (by kernel_rfl) ?_
                          try go_wp2
                          refine bodyPost_ret (results_tc rfl _ _ gb170 27 #[.int .i64 x172002_26, .int .i64 x172003_26] (0, 0) _ rfl (by (with_reducible repeat (first | refine blk_drewN ?_ _ | refine blk_drew ?_ | refine blk_alloc ?_ _)); refine blk_put (cs := #[.int .i64 x172002_26, .int .i64 x171001_1]) ?_ 1 _ rfl; (with_reducible repeat (first | refine blk_drewN ?_ _ | refine blk_drew ?_ | refine blk_alloc ?_ _)); refine blk_put (cs := #[.int .i64 x171000_1, .int .i64 x171001_1]) ?_ 0 _ rfl; (with_reducible repeat (first | refine blk_drewN ?_ _ | refine blk_drew ?_ | refine blk_alloc ?_ _)); exact BK170.out) Tryd.underlying27 rfl (by kernel_rfl)) rfl ?_
                          exact ⟨_, by first | rfl | (simp [errW_none, errW_some] <;> rfl) | (simp [*, errW_none, errW_some] <;> rfl), by first | exact Kd.R_nil _ _ _ _ _ | exact Kd.N_nil _ _ _ _ _ | exact Kd.V_nil _ _ _ _ _ | exact Kd.Q_nil _ _ _ _ _ | exact Kd.S_nil _ _ _ _ _, by repeat (first | (with_reducible first | exact HB.out | apply below_alloc | apply pw_below_drewN | apply below_drew1 | refine below_set ?_ (IsS49.ge HI171.out) | refine below_set ?_ GE170.out) | exact HB.out)⟩
                        · rw [if_neg c31] at H
                          have c31b0 : (!(x172002_26 == 0) || (!(x172003_26 == 0))) = false := by simpa using c31
                          clear c31
                          have H' := Aside0.mk H
                          clear H
                          obtain ⟨HGz36, hgz36⟩ := HI171.out
                          have hcz36_0 := cellS49_0 HGz36
                          have hcz36_1 := cellS49_1 HGz36
                          have hcz36_2 := cellS49_2 HGz36
                          have hcz36_3 := cellS49_3 HGz36
                          have hfz36_0 := blk_frozen HGz36 0
                          have hfz36_1 := blk_frozen HGz36 1
                          have hfz36_2 := blk_frozen HGz36 2
                          have hfz36_3 := blk_frozen HGz36 3
                          clear HGz36 hgz36
                          obtain ⟨Ao37, co37, eo37⟩ := Kd.R_slice HO_8.out
                          subst eo37
                          go_wp2
                          go_loopg [10, 76] kj26 (fun kq v10 v76 w' => ∃ (x10_6 : Int) (x76_6 : Int), v10 = .int .i64 x10_6 ∧ v76 = .int .i64 x76_6 ∧ Aside0 (host_Expand.l1 kq a0 x5_1 x172001_1 t172 x8_16 (!t180) x10_6 x8_16 (x8_16.length : Int) x76_6 x172000_26 x172001_26 x172002_26 x172003_26 = some (r1, r2, r3)) ∧ Aside0 (kq ≤ kj26) ∧ Aside0 (Kd.R Kd.string 9 w' w.heap.size (fun _ => True) u5 x5_1) ∧ Aside0 (Kd.R k54 54 w' w.heap.size (fun _ => True) (.slice Ao37 x8_16.length co37) x8_16) ∧ Aside0 (Kd.R k54 54 w' w.heap.size (fun _ => True) (.slice Ao37 x8_16.length co37) x8_16) ∧ Aside0 (w'.heap[gb170]? = some (.cells #[.int .i64 x171000_1, .int .i64 x171001_1] 27 (0, 0))) ∧ Aside0 (IsS49 w w' gb171 x172000_26 x172001_26 x172002_26 x172003_26) ∧ Aside0 (Below w.heap.size w w'))
                          case atStart => exact ⟨(0), (0), (by first | rfl | (simp; done) | (simp [*]; done)), (by first | rfl | (simp; done) | (simp [*]; done)), H', ⟨Nat.le_refl _⟩, ⟨by (with_reducible repeat (first | apply Kd.R_alloc | apply Kd.R_drewN | apply Kd.R_drew)); exact HO_5.out⟩, ⟨by (with_reducible repeat (first | apply Kd.R_alloc | apply Kd.R_drewN | apply Kd.R_drew)); exact HO_8.out⟩, ⟨by (with_reducible repeat (first | apply Kd.R_alloc | apply Kd.R_drewN | apply Kd.R_drew)); exact HO_8.out⟩, ⟨by (with_reducible repeat (first | refine blk_drewN ?_ _ | refine blk_drew ?_ | refine blk_alloc ?_ _)); exact BK170.out⟩, ⟨by repeat (first | (with_reducible first | exact HI171.out | apply IsS49.alloc | apply IsS49.drewN | apply IsS49.drew | apply IsS49.set_0 | apply IsS49.set_1 | apply IsS49.set_2 | apply IsS49.set_3 | (apply IsS49.far; (case hne => exact NB171_170.out))) | exact HI171.out)⟩, ⟨by repeat (first | (with_reducible first | exact HB.out | apply below_alloc | apply pw_below_drewN | apply below_drew1 | refine below_set ?_ (IsS49.ge HI171.out) | refine below_set ?_ GE170.out) | exact HB.out)⟩⟩
                          case round =>
                            clear H'
                            try clear c1
                            try clear c2
                            try clear c2b0
                            try clear c2b1
                            try clear p2
                            try clear q2
                            try clear hx2
                            try clear c3
                            try clear c11
                            try clear c15
                            try clear c18
                            try clear c22
                            try clear c22b0
                            try clear c23
                            try clear c23b0
                            try clear p24
                            try clear q24
                            try clear hx24
                            try clear c25
                            try clear c26
                            try clear c27
                            try clear c28
                            try clear c31
                            try clear c31b0
                            try clear hcz10_0
                            try clear hcz10_1
                            try clear hcz10_2
                            try clear hcz10_3
                            try clear hcz16_0
                            try clear hcz16_1
                            try clear hcz16_2
                            try clear hcz16_3
                            try clear hcz25_0
                            try clear hcz25_1
                            try clear hcz25_2
                            try clear hcz25_3
                            try clear hcz26_0
                            try clear hcz26_1
                            try clear hcz26_2
                            try clear hcz26_3
                            try clear hcz32_0
                            try clear hcz32_1
                            try clear hcz32_2
                            try clear hcz32_3
                            try clear hcz36_0
                            try clear hcz36_1
                            try clear hcz36_2
                            try clear hcz36_3
                            try clear hcz4_0
                            try clear hcz4_1
                            try clear hfz10_0
                            try clear hfz10_1
                            try clear hfz10_2
                            try clear hfz10_3
                            try clear hfz16_0
                            try clear hfz16_1
                            try clear hfz16_2
                            try clear hfz16_3
                            try clear hfz25_0
                            try clear hfz25_1
                            try clear hfz25_2
                            try clear hfz25_3
                            try clear hfz26_0
                            try clear hfz26_1
                            try clear hfz26_2
                            try clear hfz26_3
                            try clear hfz32_0
                            try clear hfz32_1
                            try clear hfz32_2
                            try clear hfz32_3
                            try clear hfz36_0
                            try clear hfz36_1
                            try clear hfz36_2
                            try clear hfz36_3
                            try clear hfz4_0
                            try clear hfz4_1
                            try clear p2
                            try clear p24
                            try clear q2
                            try clear q24
                            obtain ⟨x10_6, x76_6, rfl, rfl, HA, HK6, HO_5, HO_8, HO_74, BK170, HI171, HB⟩ := hrel
                            cases gk with
                            | zero => exact absurd HA.out (by simp [host_Expand.l1])
                            | succ k6 =>
                              have H := HA.out
                              clear HA
                              simp only [host_Expand.l1] at H
                              by_cases c38 : x76_6 < (x8_16.length : Int)
                              · rw [if_pos c38] at H
                                have c38b0 : decide (x76_6 < (x8_16.length : Int)) = true := decide_eq_true c38
                                clear c38
                                by_cases c39 : 0 ≤ x76_6
                                · rw [if_pos c39] at H
                                  have c39b0 : decide (0 ≤ x76_6) = true := decide_eq_true c39
                                  clear c39
                                  by_cases c40 : x76_6 < (x8_16.length : Int)
                                  · rw [if_pos c40] at H
                                    have c40b0 : decide (x76_6 < (x8_16.length : Int)) = true := decide_eq_true c40
                                    clear c40
                                    have H' := Aside0.mk H
                                    clear H
                                    have p196 : 0 ≤ (x76_6 : Int) := of_decide_eq_true (by first | (with_reducible assumption) | assumption)
                                    have q196 : x76_6 < (x8_16.length : Int) := of_decide_eq_true (by first | (with_reducible assumption) | assumption)
                                    obtain ⟨ad196, e196, hx196_0, hx196_1, hx196_2⟩ := at_T54 (Kd.R_reads' HO_74.out).2.2 x76_6 p196 q196
                                    cases e196
                                    replace p196 := eq_true p196
                                    replace q196 := eq_true q196
                                    go_wp2_with (first | ((with_reducible refine gate_dst (N := 12) rfl ?_); refine box_event ?hg (N := 12) ?hd (cs := #[.int .i64 0, .int .i64 0, .int .i64 0]) (t := 54) ?hr ?_; (case hd => rfl); (case hg => rfl); (case hr => first | (go_simp; done) | (go_simp; rfl)); intro gb197 hg w41 hbox hb; have n0_ := Aside0.mk (Kd.R_below (by (with_reducible repeat (first | apply Kd.R_alloc | apply Kd.R_drewN | apply Kd.R_drew)); exact HO_5.out) hb); have n1_ := Aside0.mk (Kd.R_below (Kd.R_elderB (by (with_reducible repeat (first | apply Kd.R_alloc | apply Kd.R_drewN | apply Kd.R_drew)); exact HO_8.out) gb197 (Nat.le_of_eq hg.symm)) hb); have n2_ := Aside0.mk (Kd.R_below (Kd.R_elderB (by (with_reducible repeat (first | apply Kd.R_alloc | apply Kd.R_drewN | apply Kd.R_drew)); exact HO_74.out) gb197 (Nat.le_of_eq hg.symm)) hb); have n3_ := Aside0.mk (blk_below (g := gb170) (o := .cells #[.int .i64 x171000_1, .int .i64 x171001_1] 27 (0, 0)) (by (with_reducible repeat (first | refine blk_drewN ?_ _ | refine blk_drew ?_ | refine blk_alloc ?_ _)); exact BK170.out) hb); have n4_ := Aside0.mk (IsS49.below (by repeat (first | (with_reducible first | exact HI171.out | apply IsS49.alloc | apply IsS49.drewN | apply IsS49.drew | apply IsS49.set_0 | apply IsS49.set_1 | apply IsS49.set_2 | apply IsS49.set_3 | (apply IsS49.far; (case hne => exact NB171_170.out))) | exact HI171.out)) hb); have n5_ := Aside0.mk (below_step (by repeat (first | (with_reducible first | exact HB.out | apply below_alloc | apply pw_below_drewN | apply below_drew1 | refine below_set ?_ (IsS49.ge HI171.out) | refine below_set ?_ GE170.out) | exact HB.out)) hb); have n6_ := Aside0.mk (hbox); have n7_ := Aside0.mk ((by rw [hg]; exact (below_size (by repeat (first | (with_reducible first | exact HB.out | apply below_alloc | apply pw_below_drewN | apply below_drew1 | refine below_set ?_ (IsS49.ge HI171.out) | refine below_set ?_ GE170.out) | exact HB.out))) : w.heap.size ≤ gb197)); have n8_ := Aside0.mk ((by rw [hg]; exact (below_size (by repeat (first | (with_reducible first | exact HB.out | apply below_alloc | apply pw_below_drewN | apply below_drew1 | refine below_set ?_ (IsS49.ge HI171.out) | refine below_set ?_ GE170.out) | exact HB.out))) : w.heap.size ≤ gb197)); have n9_ := Aside0.mk ((by rw [hg]; exact Nat.ne_of_lt (blk_lt (g := gb170) (o := .cells #[.int .i64 x171000_1, .int .i64 x171001_1] 27 (0, 0)) (by (with_reducible repeat (first | refine blk_drewN ?_ _ | refine blk_drew ?_ | refine blk_alloc ?_ _)); exact BK170.out)) : gb170 ≠ gb197)); have n10_ := Aside0.mk ((by rw [hg]; exact Nat.ne_of_gt (blk_lt (g := gb170) (o := .cells #[.int .i64 x171000_1, .int .i64 x171001_1] 27 (0, 0)) (by (with_reducible repeat (first | refine blk_drewN ?_ _ | refine blk_drew ?_ | refine blk_alloc ?_ _)); exact BK170.out)) : gb197 ≠ gb170)); have n11_ := Aside0.mk ((by rw [hg]; exact Nat.ne_of_lt (IsS49.lt (show IsS49 w _ gb171 x172000_26 x172001_26 x172002_26 x172003_26 from by repeat (first | (with_reducible first | exact HI171.out | apply IsS49.alloc | apply IsS49.drewN | apply IsS49.drew | apply IsS49.set_0 | apply IsS49.set_1 | apply IsS49.set_2 | apply IsS49.set_3 | (apply IsS49.far; (case hne => exact NB171_170.out))) | exact HI171.out))) : gb171 ≠ gb197)); have n12_ := Aside0.mk ((by rw [hg]; exact Nat.ne_of_gt (IsS49.lt (show IsS49 w _ gb171 x172000_26 x172001_26 x172002_26 x172003_26 from by repeat (first | (with_reducible first | exact HI171.out | apply IsS49.alloc | apply IsS49.drewN | apply IsS49.drew | apply IsS49.set_0 | apply IsS49.set_1 | apply IsS49.set_2 | apply IsS49.set_3 | (apply IsS49.far; (case hne => exact NB171_170.out))) | exact HI171.out))) : gb197 ≠ gb171)); clear HO_5; clear HO_8; clear HO_74; clear BK170; clear HI171; clear HB; have HO_5 := n0_; have HO_8 := n1_; have HO_74 := n2_; have BK170 := n3_; have HI171 := n4_; have HB := n5_; have BK197 := n6_; have GW197 := n7_; have GE197 := n8_; have NB170_197 := n9_; have NB197_170 := n10_; have NB171_197 := n11_; have NB197_171 := n12_; clear n0_ n1_ n2_ n3_ n4_ n5_ n6_ n7_ n8_ n9_ n10_ n11_ n12_; clear hb hbox hg; have hnb42 := NB197_170.out; have hnc42 := NB170_197.out; have hnb43 := NB197_171.out; have hnc43 := NB171_197.out; have hcz44_0 : w41.cell? ⟨gb197, 0, none⟩ = some (.int .i64 0) := (blk_cell BK197.out 0).trans rfl; have hcz44_1 : w41.cell? ⟨gb197, 1, none⟩ = some (.int .i64 0) := (blk_cell BK197.out 1).trans rfl; have hcz44_2 : w41.cell? ⟨gb197, 2, none⟩ = some (.int .i64 0) := (blk_cell BK197.out 2).trans rfl; have hfz44_0 := blk_frozen BK197.out 0; have hfz44_1 := blk_frozen BK197.out 1; have hfz44_2 := blk_frozen BK197.out 2))
                                    go_roundg k6
                                    case measure => have := HK1.out; have := HJ8.out; have := HJ16.out; have := HJ20.out; have := HJ26.out; have := HK6.out; omega
                                    case rel => exact ⟨(wrap64 (x10_6 + (wrap64 ((wrap64 (((rd_T54 x8_16 x76_6).f1) - ((rd_T54 x8_16 x76_6).f0))) + 1)))), (wrap64 (x76_6 + 1)), (by first | rfl | (simp; done) | (simp [*]; done)), (by first | rfl | (simp; done) | (simp [*]; done)), H', ⟨by have := HK1.out; have := HJ8.out; have := HJ16.out; have := HJ20.out; have := HJ26.out; have := HK6.out; omega⟩, ⟨by (with_reducible repeat (first | apply Kd.R_alloc | apply Kd.R_drewN | apply Kd.R_drew)); exact Kd.R_mono (Kd.R_far (p := ⟨gb197, 2, none⟩) (Kd.R_far (p := ⟨gb197, 1, none⟩) (Kd.R_far (p := ⟨gb197, 0, none⟩) (Kd.R_types HO_5.out BK197.out (by decide)) (fun _ hk => hk.2) (.int .i64 ((rd_T54 x8_16 x76_6).f0))) (fun _ hk => hk.2) (.int .i64 ((rd_T54 x8_16 x76_6).f1))) (fun _ hk => hk.2) (.int .i64 ((rd_T54 x8_16 x76_6).f2))) (fun _ hk => trivial)⟩, ⟨by (with_reducible repeat (first | apply Kd.R_alloc | apply Kd.R_drewN | apply Kd.R_drew)); exact Kd.R_mono (Kd.R_far (p := ⟨gb197, 2, none⟩) (Kd.R_far (p := ⟨gb197, 1, none⟩) (Kd.R_far (p := ⟨gb197, 0, none⟩) (Kd.R_mono HO_8.out (fun k_ hk => (⟨hk, hk.2⟩ : _ ∧ k_ ≠ gb197))) (fun _ hk => hk.2) (.int .i64 ((rd_T54 x8_16 x76_6).f0))) (fun _ hk => hk.2) (.int .i64 ((rd_T54 x8_16 x76_6).f1))) (fun _ hk => hk.2) (.int .i64 ((rd_T54 x8_16 x76_6).f2))) (fun _ hk => trivial)⟩, ⟨by (with_reducible repeat (first | apply Kd.R_alloc | apply Kd.R_drewN | apply Kd.R_drew)); exact Kd.R_mono (Kd.R_far (p := ⟨gb197, 2, none⟩) (Kd.R_far (p := ⟨gb197, 1, none⟩) (Kd.R_far (p := ⟨gb197, 0, none⟩) (Kd.R_mono HO_74.out (fun k_ hk => (⟨hk, hk.2⟩ : _ ∧ k_ ≠ gb197))) (fun _ hk => hk.2) (.int .i64 ((rd_T54 x8_16 x76_6).f0))) (fun _ hk => hk.2) (.int .i64 ((rd_T54 x8_16 x76_6).f1))) (fun _ hk => hk.2) (.int .i64 ((rd_T54 x8_16 x76_6).f2))) (fun _ hk => trivial)⟩, ⟨by (with_reducible repeat (first | refine blk_drewN ?_ _ | refine blk_drew ?_ | refine blk_alloc ?_ _)); refine blk_far ?_ NB170_197.out _; (with_reducible repeat (first | refine blk_drewN ?_ _ | refine blk_drew ?_ | refine blk_alloc ?_ _)); refine blk_far ?_ NB170_197.out _; (with_reducible repeat (first | refine blk_drewN ?_ _ | refine blk_drew ?_ | refine blk_alloc ?_ _)); refine blk_far ?_ NB170_197.out _; (with_reducible repeat (first | refine blk_drewN ?_ _ | refine blk_drew ?_ | refine blk_alloc ?_ _)); exact BK170.out⟩, ⟨by repeat (first | (with_reducible first | exact HI171.out | apply IsS49.alloc | apply IsS49.drewN | apply IsS49.drew | apply IsS49.set_0 | apply IsS49.set_1 | apply IsS49.set_2 | apply IsS49.set_3 | (apply IsS49.far; (case hne => exact NB171_170.out)) | (apply IsS49.far; (case hne => exact NB171_197.out))) | exact HI171.out)⟩, ⟨by repeat (first | (with_reducible first | exact HB.out | apply below_alloc | apply pw_below_drewN | apply below_drew1 | refine below_set ?_ (IsS49.ge HI171.out) | refine below_set ?_ GE170.out | refine below_set ?_ GE197.out) | exact HB.out)⟩⟩
                                  · rw [if_neg c40] at H
                                    exact absurd H (by simp)
                                · rw [if_neg c39] at H
                                  exact absurd H (by simp)
                              · rw [if_neg c38] at H
                                have c38b0 : decide (x76_6 < (x8_16.length : Int)) = false := decide_eq_false c38
                                clear c38
                                have HC45 := Aside0.mk H
                                clear H
                                go_upto_if 89 with (fail)
                                go_cut [9, 10] (fun v9 v10 wc => ∃ (kq : Nat) (x10_44 : Int), v9 = .bool (!t180) ∧ v10 = .int .i64 x10_44 ∧ Aside0 (host_Expand.j6 kq a0 x5_1 x172001_1 t172 x8_16 (!t180) x10_44 x172000_26 x172001_26 x172002_26 x172003_26 = some (r1, r2, r3)) ∧ Aside0 (kq ≤ k6) ∧ Aside0 (Kd.R Kd.string 9 wc w.heap.size (fun _ => True) u5 x5_1) ∧ Aside0 (Kd.R k54 54 wc w.heap.size (fun _ => True) (.slice Ao37 x8_16.length co37) x8_16) ∧ Aside0 (wc.heap[gb170]? = some (.cells #[.int .i64 x171000_1, .int .i64 x171001_1] 27 (0, 0))) ∧ Aside0 (IsS49 w wc gb171 x172000_26 x172001_26 x172002_26 x172003_26) ∧ Aside0 (Below w.heap.size w wc))
                                case first =>
                                  have H := HC45.out
                                  clear HC45
                                  by_cases c46 : (!t180) = true
                                  · rw [if_pos c46] at H
                                    have c46b0 : (!t180) = true := c46
                                    clear c46
                                    (first | rw [c46b0] | (simp only [i64_w, i32_w]; rw [c46b0]) | skip)
                                    have H' := Aside0.mk H
                                    clear H
                                    go_wp2
                                    go_meet
                                    case rel => exact ⟨_, (1), (by first | rfl | (simp; done) | (simp [*]; done)), (by first | rfl | (simp; done) | (simp [*]; done)), H', ⟨by have := HK1.out; have := HJ8.out; have := HJ16.out; have := HJ20.out; have := HJ26.out; have := HK6.out; first | omega | exact Nat.le_refl _⟩, ⟨by (with_reducible repeat (first | apply Kd.R_alloc | apply Kd.R_drewN | apply Kd.R_drew)); exact HO_5.out⟩, ⟨by (with_reducible repeat (first | apply Kd.R_alloc | apply Kd.R_drewN | apply Kd.R_drew)); exact HO_8.out⟩, ⟨by (with_reducible repeat (first | refine blk_drewN ?_ _ | refine blk_drew ?_ | refine blk_alloc ?_ _)); exact BK170.out⟩, ⟨by repeat (first | (with_reducible first | exact HI171.out | apply IsS49.alloc | apply IsS49.drewN | apply IsS49.drew | apply IsS49.set_0 | apply IsS49.set_1 | apply IsS49.set_2 | apply IsS49.set_3 | (apply IsS49.far; (case hne => exact NB171_170.out))) | exact HI171.out)⟩, ⟨by repeat (first | (with_reducible first | exact HB.out | apply below_alloc | apply pw_below_drewN | apply below_drew1 | refine below_set ?_ (IsS49.ge HI171.out) | refine below_set ?_ GE170.out) | exact HB.out)⟩⟩
                                  · rw [if_neg c46] at H
                                    have c46b0 : (!t180) = false := by simpa using c46
                                    clear c46
                                    (first | rw [c46b0] | (simp only [i64_w, i32_w]; rw [c46b0]) | skip)
                                    have H' := Aside0.mk H
                                    clear H
                                    go_wp2
                                    go_meet
                                    case rel => exact ⟨_, (x10_6), (by first | rfl | (simp; done) | (simp [*]; done)), (by first | rfl | (simp; done) | (simp [*]; done)), H', ⟨by have := HK1.out; have := HJ8.out; have := HJ16.out; have := HJ20.out; have := HJ26.out; have := HK6.out; first | omega | exact Nat.le_refl _⟩, ⟨by (with_reducible repeat (first | apply Kd.R_alloc | apply Kd.R_drewN | apply Kd.R_drew)); exact HO_5.out⟩, ⟨by (with_reducible repeat (first | apply Kd.R_alloc | apply Kd.R_drewN | apply Kd.R_drew)); exact HO_8.out⟩, ⟨by (with_reducible repeat (first | refine blk_drewN ?_ _ | refine blk_drew ?_ | refine blk_alloc ?_ _)); exact BK170.out⟩, ⟨by repeat (first | (with_reducible first | exact HI171.out | apply IsS49.alloc | apply IsS49.drewN | apply IsS49.drew | apply IsS49.set_0 | apply IsS49.set_1 | apply IsS49.set_2 | apply IsS49.set_3 | (apply IsS49.far; (case hne => exact NB171_170.out))) | exact HI171.out)⟩, ⟨by repeat (first | (with_reducible first | exact HB.out | apply below_alloc | apply pw_below_drewN | apply below_drew1 | refine below_set ?_ (IsS49.ge HI171.out) | refine below_set ?_ GE170.out) | exact HB.out)⟩⟩
                                case rest =>
                                  clear HC45
                                  try clear c1
                                  try clear p1
                                  try clear q1
                                  try clear hx1
                                  try clear c2
                                  try clear c2b0
                                  try clear c2b1
                                  try clear p2
                                  try clear q2
                                  try clear hx2
                                  try clear c3
                                  try clear c4
                                  try clear p6
                                  try clear c11
                                  try clear c15
                                  try clear c18
                                  try clear p19
                                  try clear q19
                                  try clear hx19
                                  try clear c22
                                  try clear c22b0
                                  try clear c23
                                  try clear c23b0
                                  try clear p24
                                  try clear q24
                                  try clear hx24
                                  try clear c25
                                  try clear c26
                                  try clear c27
                                  try clear c28
                                  try clear c31
                                  try clear c31b0
                                  try clear c38
                                  try clear c38b0
                                  try clear c39
                                  try clear c39b0
                                  try clear c40
                                  try clear c40b0
                                  try clear c42
                                  try clear c43
                                  try clear c46
                                  try clear c46b0
                                  try clear hcz10_0
                                  try clear hcz10_1
                                  try clear hcz10_2
                                  try clear hcz10_3
                                  try clear hcz16_0
                                  try clear hcz16_1
                                  try clear hcz16_2
                                  try clear hcz16_3
                                  try clear hcz25_0
                                  try clear hcz25_1
                                  try clear hcz25_2
                                  try clear hcz25_3
                                  try clear hcz26_0
                                  try clear hcz26_1
                                  try clear hcz26_2
                                  try clear hcz26_3
                                  try clear hcz32_0
                                  try clear hcz32_1
                                  try clear hcz32_2
                                  try clear hcz32_3
                                  try clear hcz36_0
                                  try clear hcz36_1
                                  try clear hcz36_2
                                  try clear hcz36_3
                                  try clear hcz44_0
                                  try clear hcz44_1
                                  try clear hcz44_2
                                  try clear hcz4_0
                                  try clear hcz4_1
                                  try clear hfz10_0
                                  try clear hfz10_1
                                  try clear hfz10_2
                                  try clear hfz10_3
                                  try clear hfz16_0
                                  try clear hfz16_1
                                  try clear hfz16_2
                                  try clear hfz16_3
                                  try clear hfz25_0
                                  try clear hfz25_1
                                  try clear hfz25_2
                                  try clear hfz25_3
                                  try clear hfz26_0
                                  try clear hfz26_1
                                  try clear hfz26_2
                                  try clear hfz26_3
                                  try clear hfz32_0
                                  try clear hfz32_1
                                  try clear hfz32_2
                                  try clear hfz32_3
                                  try clear hfz36_0
                                  try clear hfz36_1
                                  try clear hfz36_2
                                  try clear hfz36_3
                                  try clear hfz44_0
                                  try clear hfz44_1
                                  try clear hfz44_2
                                  try clear hfz4_0
                                  try clear hfz4_1
                                  try clear hx196_0
                                  try clear hx196_1
                                  try clear hx196_2
                                  try clear p196
                                  try clear p2
                                  try clear p24
                                  try clear q196
                                  try clear q2
                                  try clear q24
                                  obtain ⟨kq, x10_44, rfl, rfl, HA, HJ44, HO_5, HO_8, BK170, HI171, HB⟩ := hcut
                                  cases kq with
                                  | zero => exact absurd HA.out (by simp [host_Expand.j6])
                                  | succ kj44 =>
                                    have H := HA.out
                                    clear HA
                                    simp only [host_Expand.j6] at H
                                    by_cases c47 : x10_44 > (wrap64 (256 - (x5_1.length : Int)))
                                    · rw [if_pos c47] at H
                                      have c47b0 : decide ((wrap64 (256 - (x5_1.length : Int))) < x10_44) = true := decide_eq_true c47
                                      clear c47
                                      simp only [Option.some.injEq, Prod.mk.injEq] at H
                                      obtain ⟨rfl, rfl, rfl⟩ := H
                                      obtain ⟨Ao48, co48, eo48⟩ := Kd.R_slice HO_5.out
                                      subst eo48
                                      have hnb49 := NB170_171.out
                                      have hnc49 := NB171_170.out
                                      have hcz50_0 : wc.cell? ⟨gb170, 0, none⟩ = some (.int .i64 x171000_1) := (blk_cell BK170.out 0).trans rfl
                                      have hcz50_1 : wc.cell? ⟨gb170, 1, none⟩ = some (.int .i64 x171001_1) := (blk_cell BK170.out 1).trans rfl
                                      have hfz50_0 := blk_frozen BK170.out 0
                                      have hfz50_1 := blk_frozen BK170.out 1
                                      go_wp2
                                      refine bodyPost_ret (results_tc rfl _ _ gb170 27 #[.int .i64 5, .int .i64 x172001_1] (0, 0) _ rfl (by (with_reducible repeat (first | refine blk_drewN ?_ _ | refine blk_drew ?_ | refine blk_alloc ?_ _)); refine blk_put (cs := #[.int .i64 5, .int .i64 x171001_1]) ?_ 1 _ rfl; (with_reducible repeat (first | refine blk_drewN ?_ _ | refine blk_drew ?_ | refine blk_alloc ?_ _)); refine blk_put (cs := #[.int .i64 x171000_1, .int .i64 x171001_1]) ?_ 0 _ rfl; (with_reducible repeat (first | refine blk_drewN ?_ _ | refine blk_drew ?_ | refine blk_alloc ?_ _)); exact BK170.out) Tryd.underlying27 rfl (by kernel_rfl)) rfl ?_
                                      exact ⟨_, by first | rfl | (simp [errW_none, errW_some] <;> rfl) | (simp [*, errW_none, errW_some] <;> rfl), by first | exact Kd.R_nil _ _ _ _ _ | exact Kd.N_nil _ _ _ _ _ | exact Kd.V_nil _ _ _ _ _ | exact Kd.Q_nil _ _ _ _ _ | exact Kd.S_nil _ _ _ _ _, by repeat (first | (with_reducible first | exact HB.out | apply below_alloc | apply pw_below_drewN | apply below_drew1 | refine below_set ?_ (IsS49.ge HI171.out) | refine below_set ?_ GE170.out) | exact HB.out)⟩
                                    · rw [if_neg c47] at H
                                      have c47b0 : decide ((wrap64 (256 - (x5_1.length : Int))) < x10_44) = false := decide_eq_false c47
                                      clear c47
                                      have HC51 := Aside0.mk H
                                      clear H
                                      obtain ⟨Ao52, co52, eo52⟩ := Kd.R_slice HO_5.out
                                      subst eo52
                                      go_upto_if 97 with (fail)
                                      go_cut [5, 9] (fun v5 v9 wc => ∃ (kq : Nat) (x5_50 : List ByteArray), v9 = .bool (!t180) ∧ Aside0 (host_Expand.j7 kq a0 x5_50 t172 x8_16 x172000_26 x172001_26 x172002_26 x172003_26 = some (r1, r2, r3)) ∧ Aside0 (kq ≤ kj44) ∧ Aside0 (Kd.R Kd.string 9 wc w.heap.size (fun _ => True) v5 x5_50) ∧ Aside0 (Kd.R k54 54 wc w.heap.size (fun _ => True) (.slice Ao37 x8_16.length co37) x8_16) ∧ Aside0 (wc.heap[gb170]? = some (.cells #[.int .i64 x171000_1, .int .i64 x171001_1] 27 (0, 0))) ∧ Aside0 (IsS49 w wc gb171 x172000_26 x172001_26 x172002_26 x172003_26) ∧ Aside0 (Below w.heap.size w wc))
                                      case first =>
                                        have H := HC51.out
                                        clear HC51
                                        by_cases c53 : (!t180) = true
                                        · rw [if_pos c53] at H
                                          have c53b0 : (!t180) = true := c53
                                          clear c53
                                          (first | rw [c53b0] | (simp only [i64_w, i32_w]; rw [c53b0]) | skip)
                                          by_cases c54 : x5_1.length < 8796093022208
                                          · rw [if_pos c54] at H
                                            have LMc54 := Aside0.mk c54
                                            clear c54
                                            obtain ⟨y198, hy198⟩ : ∃ y_ : List ByteArray, y_ = (x5_1 ++ [t172]) := ⟨_, rfl⟩
                                            replace H : (host_Expand.j7 kj44 a0 y198 t172 x8_16 x172000_26 x172001_26 x172002_26 x172003_26) = some (r1, r2, r3) := by first | (rw [hy198]; with_reducible exact H) | (have H2_ := (Option.bind_some _ _).symm.trans H; rw [hy198]; with_reducible exact H2_) | (have H2_ := (Option.bind_some _ _).symm.trans H; with_reducible exact H2_) | with_reducible exact H | (rw [hy198]; exact H) | exact H
                                            have Ny198 := Aside0.mk hy198
                                            clear hy198
                                            have H' := Aside0.mk H
                                            clear H
                                            go_wp2_with (first | ((with_reducible refine gate_builtin (b := .append) (xs := #[.tmp 98, .tmp 100]) rfl ?_); at_builtin; refine Kd.R_append Kd.string (w0 := w) w.heap.size rfl (.tmp 98) (.tmp 100) 22 9 (.string ⟨#[]⟩) 16 rfl Tryd.underlying22 info9 rfl (by decide) (by omega) (.slice Ao52 x5_1.length co52) x5_1 t172 [.string t172] (fun _ => True) (fun _ => False) rfl rfl ?aP (fun _ hk => hk.elim) ?aF ?aO ?aB ?aS ?aL ?_; (case aP => exact rfl); (case aB => exact (by repeat (first | (with_reducible first | exact HB.out | apply below_alloc | apply pw_below_drewN | apply below_drew1 | refine below_set ?_ (IsS49.ge HI171.out) | refine below_set ?_ GE170.out) | exact HB.out))); (case aF => exact (fun _ _ => trivial)); (case aO => exact (by (with_reducible repeat (first | apply Kd.R_alloc | apply Kd.R_drewN | apply Kd.R_drew)); exact HO_5.out)); (case aS => exact (below_size (by repeat (first | (with_reducible first | exact HB.out | apply below_alloc | apply pw_below_drewN | apply below_drew1 | refine below_set ?_ (IsS49.ge HI171.out) | refine below_set ?_ GE170.out) | exact HB.out)))); (case aL => have := LMc54.out; omega); intro v199 w55 ho hb hg hat; rw [← Ny198.out] at ho; have n0_ := Aside0.mk (Kd.R_over' (by (with_reducible repeat (first | apply Kd.R_alloc | apply Kd.R_drewN | apply Kd.R_drew)); exact HO_8.out) (Kd.R_typed (by (with_reducible repeat (first | apply Kd.R_alloc | apply Kd.R_drewN | apply Kd.R_drew)); exact HO_5.out)) (by decide) hg); have n1_ := Aside0.mk (blk_grown (g := gb170) (o := .cells #[.int .i64 x171000_1, .int .i64 x171001_1] 27 (0, 0)) (by (with_reducible repeat (first | refine blk_drewN ?_ _ | refine blk_drew ?_ | refine blk_alloc ?_ _)); exact BK170.out) hg (Kd.R_ne HO_5.out BK170.out (by decide))); have n2_ := Aside0.mk (IsS49.grown (by repeat (first | (with_reducible first | exact HI171.out | apply IsS49.alloc | apply IsS49.drewN | apply IsS49.drew | apply IsS49.set_0 | apply IsS49.set_1 | apply IsS49.set_2 | apply IsS49.set_3 | (apply IsS49.far; (case hne => exact NB171_170.out))) | exact HI171.out)) hg (IsS49.own_ne HI171.out HO_5.out (by decide))); have n3_ := Aside0.mk (hb); have n4_ := Aside0.mk (ho); clear HO_8; clear BK170; clear HI171; clear HB; clear HO_5; have HO_8 := n0_; have BK170 := n1_; have HI171 := n2_; have HB := n3_; have HO200 := n4_; clear n0_ n1_ n2_ n3_ n4_; clear ho hb hg hat))
                                            go_meet
                                            case rel => exact ⟨_, (y198), (by first | rfl | (simp; done) | (simp [*]; done)), H', ⟨by have := HK1.out; have := HJ8.out; have := HJ16.out; have := HJ20.out; have := HJ26.out; have := HK6.out; have := HJ44.out; first | omega | exact Nat.le_refl _⟩, ⟨by (with_reducible repeat (first | apply Kd.R_alloc | apply Kd.R_drewN | apply Kd.R_drew)); exact HO200.out⟩, ⟨by (with_reducible repeat (first | apply Kd.R_alloc | apply Kd.R_drewN | apply Kd.R_drew)); exact HO_8.out⟩, ⟨by (with_reducible repeat (first | refine blk_drewN ?_ _ | refine blk_drew ?_ | refine blk_alloc ?_ _)); exact BK170.out⟩, ⟨by repeat (first | (with_reducible first | exact HI171.out | apply IsS49.alloc | apply IsS49.drewN | apply IsS49.drew | apply IsS49.set_0 | apply IsS49.set_1 | apply IsS49.set_2 | apply IsS49.set_3 | (apply IsS49.far; (case hne => exact NB171_170.out))) | exact HI171.out)⟩, ⟨by repeat (first | (with_reducible first | exact HB.out | apply below_alloc | apply pw_below_drewN | apply below_drew1 | refine below_set ?_ (IsS49.ge HI171.out) | refine below_set ?_ GE170.out) | exact HB.out)⟩⟩
                                          · rw [if_neg c54] at H
                                            exact absurd H (by simp)
                                        · rw [if_neg c53] at H
                                          have c53b0 : (!t180) = false := by simpa using c53
                                          clear c53
                                          (first | rw [c53b0] | (simp only [i64_w, i32_w]; rw [c53b0]) | skip)
                                          have H' := Aside0.mk H
                                          clear H
                                          go_wp2
                                          go_meet
                                          case rel => exact ⟨_, (x5_1), (by first | rfl | (simp; done) | (simp [*]; done)), H', ⟨by have := HK1.out; have := HJ8.out; have := HJ16.out; have := HJ20.out; have := HJ26.out; have := HK6.out; have := HJ44.out; first | omega | exact Nat.le_refl _⟩, ⟨by (with_reducible repeat (first | apply Kd.R_alloc | apply Kd.R_drewN | apply Kd.R_drew)); exact HO_5.out⟩, ⟨by (with_reducible repeat (first | apply Kd.R_alloc | apply Kd.R_drewN | apply Kd.R_drew)); exact HO_8.out⟩, ⟨by (with_reducible repeat (first | refine blk_drewN ?_ _ | refine blk_drew ?_ | refine blk_alloc ?_ _)); exact BK170.out⟩, ⟨by repeat (first | (with_reducible first | exact HI171.out | apply IsS49.alloc | apply IsS49.drewN | apply IsS49.drew | apply IsS49.set_0 | apply IsS49.set_1 | apply IsS49.set_2 | apply IsS49.set_3 | (apply IsS49.far; (case hne => exact NB171_170.out))) | exact HI171.out)⟩, ⟨by repeat (first | (with_reducible first | exact HB.out | apply below_alloc | apply pw_below_drewN | apply below_drew1 | refine below_set ?_ (IsS49.ge HI171.out) | refine below_set ?_ GE170.out) | exact HB.out)⟩⟩
                                      case rest =>
                                        clear HC51
                                        try clear c1
                                        try clear p1
                                        try clear q1
                                        try clear hx1
                                        try clear c2
                                        try clear c2b0
                                        try clear c2b1
                                        try clear p2
                                        try clear q2
                                        try clear hx2
                                        try clear c3
                                        try clear c4
                                        try clear c5
                                        try clear p6
                                        try clear c11
                                        try clear c15
                                        try clear c18
                                        try clear p19
                                        try clear q19
                                        try clear hx19
                                        try clear c22
                                        try clear c22b0
                                        try clear c23
                                        try clear c23b0
                                        try clear p24
                                        try clear q24
                                        try clear hx24
                                        try clear c25
                                        try clear c26
                                        try clear c27
                                        try clear c28
                                        try clear c31
                                        try clear c31b0
                                        try clear c38
                                        try clear c38b0
                                        try clear c39
                                        try clear c39b0
                                        try clear c40
                                        try clear c40b0
                                        try clear c42
                                        try clear c43
                                        try clear c46
                                        try clear c46b0
                                        try clear c47
                                        try clear c47b0
                                        try clear c49
                                        try clear c53
                                        try clear c53b0
                                        try clear c54
                                        try clear hcz10_0
                                        try clear hcz10_1
                                        try clear hcz10_2
                                        try clear hcz10_3
                                        try clear hcz16_0
                                        try clear hcz16_1
                                        try clear hcz16_2
                                        try clear hcz16_3
                                        try clear hcz25_0
                                        try clear hcz25_1
                                        try clear hcz25_2
                                        try clear hcz25_3
                                        try clear hcz26_0
                                        try clear hcz26_1
                                        try clear hcz26_2
                                        try clear hcz26_3
                                        try clear hcz32_0
                                        try clear hcz32_1
                                        try clear hcz32_2
                                        try clear hcz32_3
                                        try clear hcz36_0
                                        try clear hcz36_1
                                        try clear hcz36_2
                                        try clear hcz36_3
                                        try clear hcz44_0
                                        try clear hcz44_1
                                        try clear hcz44_2
                                        try clear hcz4_0
                                        try clear hcz4_1
                                        try clear hcz50_0
                                        try clear hcz50_1
                                        try clear hfz10_0
                                        try clear hfz10_1
                                        try clear hfz10_2
                                        try clear hfz10_3
                                        try clear hfz16_0
                                        try clear hfz16_1
                                        try clear hfz16_2
                                        try clear hfz16_3
                                        try clear hfz25_0
                                        try clear hfz25_1
                                        try clear hfz25_2
                                        try clear hfz25_3
                                        try clear hfz26_0
                                        try clear hfz26_1
                                        try clear hfz26_2
                                        try clear hfz26_3
                                        try clear hfz32_0
                                        try clear hfz32_1
                                        try clear hfz32_2
                                        try clear hfz32_3
                                        try clear hfz36_0
                                        try clear hfz36_1
                                        try clear hfz36_2
                                        try clear hfz36_3
                                        try clear hfz44_0
                                        try clear hfz44_1
                                        try clear hfz44_2
                                        try clear hfz4_0
                                        try clear hfz4_1
                                        try clear hfz50_0
                                        try clear hfz50_1
                                        try clear hx196_0
                                        try clear hx196_1
                                        try clear hx196_2
                                        try clear p1
                                        try clear p19
                                        try clear p196
                                        try clear p2
                                        try clear p24
                                        try clear p6
                                        try clear q1
                                        try clear q19
                                        try clear q196
                                        try clear q2
                                        try clear q24
                                        obtain ⟨kq, x5_50, rfl, HA, HJ50, HO_5, HO_8, BK170, HI171, HB⟩ := hcut
                                        cases kq with
                                        | zero => exact absurd HA.out (by simp [host_Expand.j7])
                                        | succ kj50 =>
                                          have H := HA.out
                                          clear HA
                                          simp only [host_Expand.j7] at H
                                          have H' := Aside0.mk H
                                          clear H
                                          go_wp2
                                          go_loopg [5, 104] kj50 (fun kq v5 v104 w' => ∃ (x5_9 : List ByteArray) (x104_9 : Int), v104 = .int .i64 x104_9 ∧ Aside0 (host_Expand.l2 kq a0 x5_9 t172 x8_16 (x8_16.length : Int) x104_9 x172000_26 x172001_26 x172002_26 x172003_26 = some (r1, r2, r3)) ∧ Aside0 (kq ≤ kj50) ∧ Aside0 (Kd.R Kd.string 9 w' w.heap.size (fun _ => True) v5 x5_9) ∧ Aside0 (Kd.R k54 54 w' w.heap.size (fun _ => True) (.slice Ao37 x8_16.length co37) x8_16) ∧ Aside0 (w'.heap[gb170]? = some (.cells #[.int .i64 x171000_1, .int .i64 x171001_1] 27 (0, 0))) ∧ Aside0 (IsS49 w w' gb171 x172000_26 x172001_26 x172002_26 x172003_26) ∧ Aside0 (Below w.heap.size w w'))
                                          case atStart => exact ⟨(x5_50), (0), (by first | rfl | (simp; done) | (simp [*]; done)), H', ⟨Nat.le_refl _⟩, ⟨by (with_reducible repeat (first | apply Kd.R_alloc | apply Kd.R_drewN | apply Kd.R_drew)); exact HO_5.out⟩, ⟨by (with_reducible repeat (first | apply Kd.R_alloc | apply Kd.R_drewN | apply Kd.R_drew)); exact HO_8.out⟩, ⟨by (with_reducible repeat (first | refine blk_drewN ?_ _ | refine blk_drew ?_ | refine blk_alloc ?_ _)); exact BK170.out⟩, ⟨by repeat (first | (with_reducible first | exact HI171.out | apply IsS49.alloc | apply IsS49.drewN | apply IsS49.drew | apply IsS49.set_0 | apply IsS49.set_1 | apply IsS49.set_2 | apply IsS49.set_3 | (apply IsS49.far; (case hne => exact NB171_170.out))) | exact HI171.out)⟩, ⟨by repeat (first | (with_reducible first | exact HB.out | apply below_alloc | apply pw_below_drewN | apply below_drew1 | refine below_set ?_ (IsS49.ge HI171.out) | refine below_set ?_ GE170.out) | exact HB.out)⟩⟩
                                          case round =>
                                            clear H'
                                            try clear c1
                                            try clear p1
                                            try clear q1
                                            try clear hx1
                                            try clear c2
                                            try clear c2b0
                                            try clear c2b1
                                            try clear p2
                                            try clear q2
                                            try clear hx2
                                            try clear c3
                                            try clear c4
                                            try clear c5
                                            try clear p6
                                            try clear c11
                                            try clear c15
                                            try clear c18
                                            try clear p19
                                            try clear q19
                                            try clear hx19
                                            try clear c22
                                            try clear c22b0
                                            try clear c23
                                            try clear c23b0
                                            try clear p24
                                            try clear q24
                                            try clear hx24
                                            try clear c25
                                            try clear c26
                                            try clear c27
                                            try clear c28
                                            try clear c31
                                            try clear c31b0
                                            try clear c38
                                            try clear c38b0
                                            try clear c39
                                            try clear c39b0
                                            try clear c40
                                            try clear c40b0
                                            try clear c42
                                            try clear c43
                                            try clear c46
                                            try clear c46b0
                                            try clear c47
                                            try clear c47b0
                                            try clear c49
                                            try clear c53
                                            try clear c53b0
                                            try clear c54
                                            try clear hcz10_0
                                            try clear hcz10_1
                                            try clear hcz10_2
                                            try clear hcz10_3
                                            try clear hcz16_0
                                            try clear hcz16_1
                                            try clear hcz16_2
                                            try clear hcz16_3
                                            try clear hcz25_0
                                            try clear hcz25_1
                                            try clear hcz25_2
                                            try clear hcz25_3
                                            try clear hcz26_0
                                            try clear hcz26_1
                                            try clear hcz26_2
                                            try clear hcz26_3
                                            try clear hcz32_0
                                            try clear hcz32_1
                                            try clear hcz32_2
                                            try clear hcz32_3
                                            try clear hcz36_0
                                            try clear hcz36_1
                                            try clear hcz36_2
                                            try clear hcz36_3
                                            try clear hcz44_0
                                            try clear hcz44_1
                                            try clear hcz44_2
                                            try clear hcz4_0
                                            try clear hcz4_1
                                            try clear hcz50_0
                                            try clear hcz50_1
                                            try clear hfz10_0
                                            try clear hfz10_1
                                            try clear hfz10_2
                                            try clear hfz10_3
                                            try clear hfz16_0
                                            try clear hfz16_1
                                            try clear hfz16_2
                                            try clear hfz16_3
                                            try clear hfz25_0
                                            try clear hfz25_1
                                            try clear hfz25_2
                                            try clear hfz25_3
                                            try clear hfz26_0
                                            try clear hfz26_1
                                            try clear hfz26_2
                                            try clear hfz26_3
                                            try clear hfz32_0
                                            try clear hfz32_1
                                            try clear hfz32_2
                                            try clear hfz32_3
                                            try clear hfz36_0
                                            try clear hfz36_1
                                            try clear hfz36_2
                                            try clear hfz36_3
                                            try clear hfz44_0
                                            try clear hfz44_1
                                            try clear hfz44_2
                                            try clear hfz4_0
                                            try clear hfz4_1
                                            try clear hfz50_0
                                            try clear hfz50_1
                                            try clear hx196_0
                                            try clear hx196_1
                                            try clear hx196_2
                                            try clear p1
                                            try clear p19
                                            try clear p196
                                            try clear p2
                                            try clear p24
                                            try clear p6
                                            try clear q1
                                            try clear q19
                                            try clear q196
                                            try clear q2
                                            try clear q24
                                            obtain ⟨x5_9, x104_9, rfl, HA, HK9, HO_5, HO_102, BK170, HI171, HB⟩ := hrel
                                            cases gk with
                                            | zero => exact absurd HA.out (by simp [host_Expand.l2])
                                            | succ k9 =>
                                              have H := HA.out
                                              clear HA
                                              simp only [host_Expand.l2] at H
                                              by_cases c56 : x104_9 < (x8_16.length : Int)
                                              · rw [if_pos c56] at H
                                                have c56b0 : decide (x104_9 < (x8_16.length : Int)) = true := decide_eq_true c56
                                                clear c56
                                                by_cases c57 : 0 ≤ x104_9
                                                · rw [if_pos c57] at H
                                                  have c57b0 : decide (0 ≤ x104_9) = true := decide_eq_true c57
                                                  clear c57
                                                  by_cases c58 : x104_9 < (x8_16.length : Int)
                                                  · rw [if_pos c58] at H
                                                    have c58b0 : decide (x104_9 < (x8_16.length : Int)) = true := decide_eq_true c58
                                                    clear c58
                                                    have H' := Aside0.mk H
                                                    clear H
                                                    have p206 : 0 ≤ (x104_9 : Int) := of_decide_eq_true (by first | (with_reducible assumption) | assumption)
                                                    have q206 : x104_9 < (x8_16.length : Int) := of_decide_eq_true (by first | (with_reducible assumption) | assumption)
                                                    obtain ⟨ad206, e206, hx206_0, hx206_1, hx206_2⟩ := at_T54 (Kd.R_reads' HO_102.out).2.2 x104_9 p206 q206
                                                    cases e206
                                                    replace p206 := eq_true p206
                                                    replace q206 := eq_true q206
                                                    go_wp2_with (first | ((with_reducible refine gate_dst (N := 14) rfl ?_); refine box_event ?hg (N := 14) ?hd (cs := #[.int .i64 0, .int .i64 0, .int .i64 0]) (t := 54) ?hr ?_; (case hd => rfl); (case hg => rfl); (case hr => first | (go_simp; done) | (go_simp; rfl)); intro gb207 hg w59 hbox hb; have n0_ := Aside0.mk (Kd.R_below (by (with_reducible repeat (first | apply Kd.R_alloc | apply Kd.R_drewN | apply Kd.R_drew)); exact HO_5.out) hb); have n1_ := Aside0.mk (Kd.R_below (Kd.R_elderB (by (with_reducible repeat (first | apply Kd.R_alloc | apply Kd.R_drewN | apply Kd.R_drew)); exact HO_102.out) gb207 (Nat.le_of_eq hg.symm)) hb); have n2_ := Aside0.mk (blk_below (g := gb170) (o := .cells #[.int .i64 x171000_1, .int .i64 x171001_1] 27 (0, 0)) (by (with_reducible repeat (first | refine blk_drewN ?_ _ | refine blk_drew ?_ | refine blk_alloc ?_ _)); exact BK170.out) hb); have n3_ := Aside0.mk (IsS49.below (by repeat (first | (with_reducible first | exact HI171.out | apply IsS49.alloc | apply IsS49.drewN | apply IsS49.drew | apply IsS49.set_0 | apply IsS49.set_1 | apply IsS49.set_2 | apply IsS49.set_3 | (apply IsS49.far; (case hne => exact NB171_170.out))) | exact HI171.out)) hb); have n4_ := Aside0.mk (below_step (by repeat (first | (with_reducible first | exact HB.out | apply below_alloc | apply pw_below_drewN | apply below_drew1 | refine below_set ?_ (IsS49.ge HI171.out) | refine below_set ?_ GE170.out) | exact HB.out)) hb); have n5_ := Aside0.mk (hbox); have n6_ := Aside0.mk ((by rw [hg]; exact (below_size (by repeat (first | (with_reducible first | exact HB.out | apply below_alloc | apply pw_below_drewN | apply below_drew1 | refine below_set ?_ (IsS49.ge HI171.out) | refine below_set ?_ GE170.out) | exact HB.out))) : w.heap.size ≤ gb207)); have n7_ := Aside0.mk ((by rw [hg]; exact (below_size (by repeat (first | (with_reducible first | exact HB.out | apply below_alloc | apply pw_below_drewN | apply below_drew1 | refine below_set ?_ (IsS49.ge HI171.out) | refine below_set ?_ GE170.out) | exact HB.out))) : w.heap.size ≤ gb207)); have n8_ := Aside0.mk ((by rw [hg]; exact Nat.ne_of_lt (blk_lt (g := gb170) (o := .cells #[.int .i64 x171000_1, .int .i64 x171001_1] 27 (0, 0)) (by (with_reducible repeat (first | refine blk_drewN ?_ _ | refine blk_drew ?_ | refine blk_alloc ?_ _)); exact BK170.out)) : gb170 ≠ gb207)); have n9_ := Aside0.mk ((by rw [hg]; exact Nat.ne_of_gt (blk_lt (g := gb170) (o := .cells #[.int .i64 x171000_1, .int .i64 x171001_1] 27 (0, 0)) (by (with_reducible repeat (first | refine blk_drewN ?_ _ | refine blk_drew ?_ | refine blk_alloc ?_ _)); exact BK170.out)) : gb207 ≠ gb170)); have n10_ := Aside0.mk ((by rw [hg]; exact Nat.ne_of_lt (IsS49.lt (show IsS49 w _ gb171 x172000_26 x172001_26 x172002_26 x172003_26 from by repeat (first | (with_reducible first | exact HI171.out | apply IsS49.alloc | apply IsS49.drewN | apply IsS49.drew | apply IsS49.set_0 | apply IsS49.set_1 | apply IsS49.set_2 | apply IsS49.set_3 | (apply IsS49.far; (case hne => exact NB171_170.out))) | exact HI171.out))) : gb171 ≠ gb207)); have n11_ := Aside0.mk ((by rw [hg]; exact Nat.ne_of_gt (IsS49.lt (show IsS49 w _ gb171 x172000_26 x172001_26 x172002_26 x172003_26 from by repeat (first | (with_reducible first | exact HI171.out | apply IsS49.alloc | apply IsS49.drewN | apply IsS49.drew | apply IsS49.set_0 | apply IsS49.set_1 | apply IsS49.set_2 | apply IsS49.set_3 | (apply IsS49.far; (case hne => exact NB171_170.out))) | exact HI171.out))) : gb207 ≠ gb171)); clear HO_5; clear HO_102; clear BK170; clear HI171; clear HB; have HO_5 := n0_; have HO_102 := n1_; have BK170 := n2_; have HI171 := n3_; have HB := n4_; have BK207 := n5_; have GW207 := n6_; have GE207 := n7_; have NB170_207 := n8_; have NB207_170 := n9_; have NB171_207 := n10_; have NB207_171 := n11_; clear n0_ n1_ n2_ n3_ n4_ n5_ n6_ n7_ n8_ n9_ n10_ n11_; clear hb hbox hg; have hnb60 := NB207_170.out; have hnc60 := NB170_207.out; have hnb61 := NB207_171.out; have hnc61 := NB171_207.out; have hcz62_0 : w59.cell? ⟨gb207, 0, none⟩ = some (.int .i64 0) := (blk_cell BK207.out 0).trans rfl; have hcz62_1 : w59.cell? ⟨gb207, 1, none⟩ = some (.int .i64 0) := (blk_cell BK207.out 1).trans rfl; have hcz62_2 : w59.cell? ⟨gb207, 2, none⟩ = some (.int .i64 0) := (blk_cell BK207.out 2).trans rfl; have hfz62_0 := blk_frozen BK207.out 0; have hfz62_1 := blk_frozen BK207.out 1; have hfz62_2 := blk_frozen BK207.out 2))
                                                    go_loopg [5, 15] k9 (fun kq v5 v15 w' => ∃ (x5_10 : List ByteArray) (x15_10 : Int), v15 = .int .i64 x15_10 ∧ Aside0 (host_Expand.l3 kq a0 x5_10 t172 x15_10 x8_16 (x8_16.length : Int) x104_9 x172000_26 x172001_26 x172002_26 x172003_26 ((rd_T54 x8_16 x104_9).f0) ((rd_T54 x8_16 x104_9).f1) ((rd_T54 x8_16 x104_9).f2) = some (r1, r2, r3)) ∧ Aside0 (kq ≤ k9) ∧ Aside0 (Kd.R Kd.string 9 w' w.heap.size (fun _ => True) v5 x5_10) ∧ Aside0 (Kd.R k54 54 w' w.heap.size (fun k_ => k_ ≠ gb207) (.slice (some ad206) x8_16.length co37) x8_16) ∧ Aside0 (w'.heap[gb170]? = some (.cells #[.int .i64 x171000_1, .int .i64 x171001_1] 27 (0, 0))) ∧ Aside0 (w'.heap[gb207]? = some (.cells #[.int .i64 ((rd_T54 x8_16 x104_9).f0), .int .i64 ((rd_T54 x8_16 x104_9).f1), .int .i64 ((rd_T54 x8_16 x104_9).f2)] 54 (0, 0))) ∧ Aside0 (IsS49 w w' gb171 x172000_26 x172001_26 x172002_26 x172003_26) ∧ Aside0 (Below w.heap.size w w'))
                                                    case atStart => exact ⟨(x5_9), ((rd_T54 x8_16 x104_9).f0), (by first | rfl | (simp; done) | (simp [*]; done)), H', ⟨Nat.le_refl _⟩, ⟨by (with_reducible repeat (first | apply Kd.R_alloc | apply Kd.R_drewN | apply Kd.R_drew)); exact Kd.R_mono (Kd.R_far (p := ⟨gb207, 2, none⟩) (Kd.R_far (p := ⟨gb207, 1, none⟩) (Kd.R_far (p := ⟨gb207, 0, none⟩) (Kd.R_types HO_5.out BK207.out (by decide)) (fun _ hk => hk.2) (.int .i64 ((rd_T54 x8_16 x104_9).f0))) (fun _ hk => hk.2) (.int .i64 ((rd_T54 x8_16 x104_9).f1))) (fun _ hk => hk.2) (.int .i64 ((rd_T54 x8_16 x104_9).f2))) (fun _ hk => trivial)⟩, ⟨by (with_reducible repeat (first | apply Kd.R_alloc | apply Kd.R_drewN | apply Kd.R_drew)); exact Kd.R_mono (Kd.R_far (p := ⟨gb207, 2, none⟩) (Kd.R_far (p := ⟨gb207, 1, none⟩) (Kd.R_far (p := ⟨gb207, 0, none⟩) (Kd.R_mono HO_102.out (fun k_ hk => (⟨hk, hk.2⟩ : _ ∧ k_ ≠ gb207))) (fun _ hk => hk.2) (.int .i64 ((rd_T54 x8_16 x104_9).f0))) (fun _ hk => hk.2) (.int .i64 ((rd_T54 x8_16 x104_9).f1))) (fun _ hk => hk.2) (.int .i64 ((rd_T54 x8_16 x104_9).f2))) (fun _ hk => hk.1.2)⟩, ⟨by (with_reducible repeat (first | refine blk_drewN ?_ _ | refine blk_drew ?_ | refine blk_alloc ?_ _)); refine blk_far ?_ NB170_207.out _; (with_reducible repeat (first | refine blk_drewN ?_ _ | refine blk_drew ?_ | refine blk_alloc ?_ _)); refine blk_far ?_ NB170_207.out _; (with_reducible repeat (first | refine blk_drewN ?_ _ | refine blk_drew ?_ | refine blk_alloc ?_ _)); refine blk_far ?_ NB170_207.out _; (with_reducible repeat (first | refine blk_drewN ?_ _ | refine blk_drew ?_ | refine blk_alloc ?_ _)); exact BK170.out⟩, ⟨by (with_reducible repeat (first | refine blk_drewN ?_ _ | refine blk_drew ?_ | refine blk_alloc ?_ _)); refine blk_put (cs := #[.int .i64 ((rd_T54 x8_16 x104_9).f0), .int .i64 ((rd_T54 x8_16 x104_9).f1), .int .i64 0]) ?_ 2 _ rfl; (with_reducible repeat (first | refine blk_drewN ?_ _ | refine blk_drew ?_ | refine blk_alloc ?_ _)); refine blk_put (cs := #[.int .i64 ((rd_T54 x8_16 x104_9).f0), .int .i64 0, .int .i64 0]) ?_ 1 _ rfl; (with_reducible repeat (first | refine blk_drewN ?_ _ | refine blk_drew ?_ | refine blk_alloc ?_ _)); refine blk_put (cs := #[.int .i64 0, .int .i64 0, .int .i64 0]) ?_ 0 _ rfl; (with_reducible repeat (first | refine blk_drewN ?_ _ | refine blk_drew ?_ | refine blk_alloc ?_ _)); exact BK207.out⟩, ⟨by repeat (first | (with_reducible first | exact HI171.out | apply IsS49.alloc | apply IsS49.drewN | apply IsS49.drew | apply IsS49.set_0 | apply IsS49.set_1 | apply IsS49.set_2 | apply IsS49.set_3 | (apply IsS49.far; (case hne => exact NB171_170.out)) | (apply IsS49.far; (case hne => exact NB171_207.out))) | exact HI171.out)⟩, ⟨by repeat (first | (with_reducible first | exact HB.out | apply below_alloc | apply pw_below_drewN | apply below_drew1 | refine below_set ?_ (IsS49.ge HI171.out) | refine below_set ?_ GE170.out | refine below_set ?_ GE207.out) | exact HB.out)⟩⟩
                                                    case round =>
                                                      clear H'
                                                      try clear c1
                                                      try clear p1
                                                      try clear q1
                                                      try clear hx1
                                                      try clear c2
                                                      try clear c2b0
                                                      try clear c2b1
                                                      try clear p2
                                                      try clear q2
                                                      try clear hx2
                                                      try clear c3
                                                      try clear c4
                                                      try clear c5
                                                      try clear c6
                                                      try clear p6
                                                      try clear c11
                                                      try clear c15
                                                      try clear c18
                                                      try clear p19
                                                      try clear q19
                                                      try clear hx19
                                                      try clear p20
                                                      try clear q20
                                                      try clear hx20
                                                      try clear c22
                                                      try clear c22b0
                                                      try clear c23
                                                      try clear c23b0
                                                      try clear p24
                                                      try clear q24
                                                      try clear hx24
                                                      try clear c25
                                                      try clear c26
                                                      try clear c27
                                                      try clear c28
                                                      try clear c31
                                                      try clear c31b0
                                                      try clear c38
                                                      try clear c38b0
                                                      try clear c39
                                                      try clear c39b0
                                                      try clear c40
                                                      try clear c40b0
                                                      try clear c42
                                                      try clear c43
                                                      try clear c46
                                                      try clear c46b0
                                                      try clear c47
                                                      try clear c47b0
                                                      try clear c49
                                                      try clear c53
                                                      try clear c53b0
                                                      try clear c54
                                                      try clear c56
                                                      try clear c56b0
                                                      try clear c57
                                                      try clear c57b0
                                                      try clear c58
                                                      try clear c58b0
                                                      try clear c60
                                                      try clear c61
                                                      try clear hcz10_0
                                                      try clear hcz10_1
                                                      try clear hcz10_2
                                                      try clear hcz10_3
                                                      try clear hcz16_0
                                                      try clear hcz16_1
                                                      try clear hcz16_2
                                                      try clear hcz16_3
                                                      try clear hcz25_0
                                                      try clear hcz25_1
                                                      try clear hcz25_2
                                                      try clear hcz25_3
                                                      try clear hcz26_0
                                                      try clear hcz26_1
                                                      try clear hcz26_2
                                                      try clear hcz26_3
                                                      try clear hcz32_0
                                                      try clear hcz32_1
                                                      try clear hcz32_2
                                                      try clear hcz32_3
                                                      try clear hcz36_0
                                                      try clear hcz36_1
                                                      try clear hcz36_2
                                                      try clear hcz36_3
                                                      try clear hcz44_0
                                                      try clear hcz44_1
                                                      try clear hcz44_2
                                                      try clear hcz4_0
                                                      try clear hcz4_1
                                                      try clear hcz50_0
                                                      try clear hcz50_1
                                                      try clear hcz62_0
                                                      try clear hcz62_1
                                                      try clear hcz62_2
                                                      try clear hfz10_0
                                                      try clear hfz10_1
                                                      try clear hfz10_2
                                                      try clear hfz10_3
                                                      try clear hfz16_0
                                                      try clear hfz16_1
                                                      try clear hfz16_2
                                                      try clear hfz16_3
                                                      try clear hfz25_0
                                                      try clear hfz25_1
                                                      try clear hfz25_2
                                                      try clear hfz25_3
                                                      try clear hfz26_0
                                                      try clear hfz26_1
                                                      try clear hfz26_2
                                                      try clear hfz26_3
                                                      try clear hfz32_0
                                                      try clear hfz32_1
                                                      try clear hfz32_2
                                                      try clear hfz32_3
                                                      try clear hfz36_0
                                                      try clear hfz36_1
                                                      try clear hfz36_2
                                                      try clear hfz36_3
                                                      try clear hfz44_0
                                                      try clear hfz44_1
                                                      try clear hfz44_2
                                                      try clear hfz4_0
                                                      try clear hfz4_1
                                                      try clear hfz50_0
                                                      try clear hfz50_1
                                                      try clear hfz62_0
                                                      try clear hfz62_1
                                                      try clear hfz62_2
                                                      try clear hx196_0
                                                      try clear hx196_1
                                                      try clear hx196_2
                                                      try clear hx206_0
                                                      try clear hx206_1
                                                      try clear hx206_2
                                                      try clear p1
                                                      try clear p19
                                                      try clear p196
                                                      try clear p2
                                                      try clear p206
                                                      try clear p24
                                                      try clear p6
                                                      try clear q1
                                                      try clear q19
                                                      try clear q196
                                                      try clear q2
                                                      try clear q206
                                                      try clear q24
                                                      obtain ⟨x5_10, x15_10, rfl, HA, HK10, HO_5, HO_102, BK170, BK207, HI171, HB⟩ := hrel
                                                      cases gk with
                                                      | zero => exact absurd HA.out (by simp [host_Expand.l3])
                                                      | succ k10 =>
                                                        have H := HA.out
                                                        clear HA
                                                        simp only [host_Expand.l3] at H
                                                        by_cases c63 : x15_10 ≤ ((rd_T54 x8_16 x104_9).f1)
                                                        · rw [if_pos c63] at H
                                                          have c63b0 : decide (x15_10 ≤ ((rd_T54 x8_16 x104_9).f1)) = true := decide_eq_true c63
                                                          clear c63
                                                          replace H := Option.bind_eq_some_iff.mp H
                                                          obtain ⟨t208, A640, H⟩ := H
                                                          replace H : (if t172.size + t208.size ≤ 9223372036854775807 then (if x5_10.length < 8796093022208 then (host_Expand.l3 k10 a0 (x5_10 ++ [t172 ++ t208]) t172 (wrap64 (x15_10 + 1)) x8_16 (x8_16.length : Int) x104_9 x172000_26 x172001_26 x172002_26 x172003_26 ((rd_T54 x8_16 x104_9).f0) ((rd_T54 x8_16 x104_9).f1) ((rd_T54 x8_16 x104_9).f2)) else (none)) else (none)) = some (r1, r2, r3) := H
                                                          have A64 := Aside0.mk A640
                                                          clear A640
                                                          by_cases c65 : t172.size + t208.size ≤ 9223372036854775807
                                                          · rw [if_pos c65] at H
                                                            have c65b0 := eq_true c65
                                                            have c65b1 : decide (t172.size + t208.size ≤ 9223372036854775807) = true := decide_eq_true c65
                                                            try have c65b2 : (9223372036854775807 < t172.size + t208.size) = False := eq_false (Nat.not_lt.2 c65)
                                                            by_cases c66 : x5_10.length < 8796093022208
                                                            · rw [if_pos c66] at H
                                                              have LMc66 := Aside0.mk c66
                                                              clear c66
                                                              obtain ⟨y209, hy209⟩ : ∃ y_ : List ByteArray, y_ = (x5_10 ++ [t172 ++ t208]) := ⟨_, rfl⟩
                                                              replace H : (host_Expand.l3 k10 a0 y209 t172 (wrap64 (x15_10 + 1)) x8_16 (x8_16.length : Int) x104_9 x172000_26 x172001_26 x172002_26 x172003_26 ((rd_T54 x8_16 x104_9).f0) ((rd_T54 x8_16 x104_9).f1) ((rd_T54 x8_16 x104_9).f2)) = some (r1, r2, r3) := by first | (rw [hy209]; with_reducible exact H) | (have H2_ := (Option.bind_some _ _).symm.trans H; rw [hy209]; with_reducible exact H2_) | (have H2_ := (Option.bind_some _ _).symm.trans H; with_reducible exact H2_) | with_reducible exact H | (rw [hy209]; exact H) | exact H
                                                              have Ny209 := Aside0.mk hy209
                                                              clear hy209
                                                              have H' := Aside0.mk H
                                                              clear H
                                                              have hnb67 := NB207_170.out
                                                              have hnc67 := NB170_207.out
                                                              have hnb68 := NB207_171.out
                                                              have hnc68 := NB171_207.out
                                                              have hcz69_0 : wr.cell? ⟨gb207, 0, none⟩ = some (.int .i64 ((rd_T54 x8_16 x104_9).f0)) := (blk_cell BK207.out 0).trans rfl
                                                              have hcz69_1 : wr.cell? ⟨gb207, 1, none⟩ = some (.int .i64 ((rd_T54 x8_16 x104_9).f1)) := (blk_cell BK207.out 1).trans rfl
                                                              have hcz69_2 : wr.cell? ⟨gb207, 2, none⟩ = some (.int .i64 ((rd_T54 x8_16 x104_9).f2)) := (blk_cell BK207.out 2).trans rfl
                                                              have hfz69_0 := blk_frozen BK207.out 0
                                                              have hfz69_1 := blk_frozen BK207.out 1
                                                              have hfz69_2 := blk_frozen BK207.out 2
                                                              go_wp2_with (first | ((with_reducible refine gate_callee (f := 28) rfl ?_); refine goesL_ (some 120) rfl rfl Tryd.func28 (by kernel_rfl) rfl #[.agg #[.int .i64 ((rd_T54 x8_16 x104_9).f0), .int .i64 ((rd_T54 x8_16 x104_9).f1), .int .i64 ((rd_T54 x8_16 x104_9).f2)], .int .i64 x15_10] rfl (by (try simp only [List.map_toArray, List.map_cons, List.map_nil]); first | done | rfl | (simp only [List.length_drop, List.length_take]; rfl)) ?_; (with_reducible refine (host_span_text.calls ((rd_T54 x8_16 x104_9).f0) ((rd_T54 x8_16 x104_9).f1) ((rd_T54 x8_16 x104_9).f2) x15_10 t208 _ A64.out (HG_.out.below (by repeat (first | (with_reducible first | exact HB.out | apply below_alloc | apply pw_below_drewN | apply below_drew1 | refine below_set ?_ (IsS49.ge HI171.out) | refine below_set ?_ GE170.out | refine below_set ?_ GE207.out) | exact HB.out)))).mono ?_); rintro e w70 ⟨rfl, hb⟩; refine ⟨_, rfl, ?_⟩; have n0_ := Aside0.mk (Kd.R_below (by (with_reducible repeat (first | apply Kd.R_alloc | apply Kd.R_drewN | apply Kd.R_drew)); exact HO_5.out) hb); have n1_ := Aside0.mk (Kd.R_below (by (with_reducible repeat (first | apply Kd.R_alloc | apply Kd.R_drewN | apply Kd.R_drew)); exact HO_102.out) hb); have n2_ := Aside0.mk (blk_below (g := gb170) (o := .cells #[.int .i64 x171000_1, .int .i64 x171001_1] 27 (0, 0)) (by (with_reducible repeat (first | refine blk_drewN ?_ _ | refine blk_drew ?_ | refine blk_alloc ?_ _)); exact BK170.out) hb); have n3_ := Aside0.mk (blk_below (g := gb207) (o := .cells #[.int .i64 ((rd_T54 x8_16 x104_9).f0), .int .i64 ((rd_T54 x8_16 x104_9).f1), .int .i64 ((rd_T54 x8_16 x104_9).f2)] 54 (0, 0)) (by (with_reducible repeat (first | refine blk_drewN ?_ _ | refine blk_drew ?_ | refine blk_alloc ?_ _)); exact BK207.out) hb); have n4_ := Aside0.mk (IsS49.below (by repeat (first | (with_reducible first | exact HI171.out | apply IsS49.alloc | apply IsS49.drewN | apply IsS49.drew | apply IsS49.set_0 | apply IsS49.set_1 | apply IsS49.set_2 | apply IsS49.set_3 | (apply IsS49.far; (case hne => exact NB171_170.out)) | (apply IsS49.far; (case hne => exact NB171_207.out))) | exact HI171.out)) hb); have n5_ := Aside0.mk (below_step (by repeat (first | (with_reducible first | exact HB.out | apply below_alloc | apply pw_below_drewN | apply below_drew1 | refine below_set ?_ (IsS49.ge HI171.out) | refine below_set ?_ GE170.out | refine below_set ?_ GE207.out) | exact HB.out)) hb); clear HO_5; clear HO_102; clear BK170; clear BK207; clear HI171; clear HB; have HO_5 := n0_; have HO_102 := n1_; have BK170 := n2_; have BK207 := n3_; have HI171 := n4_; have HB := n5_; clear n0_ n1_ n2_ n3_ n4_ n5_; (try clear hb); (try clear hb2); (try clear hk); (try clear hi)) | ((with_reducible refine gate_builtin (b := .append) (xs := #[.tmp 116, .tmp 122]) rfl ?_); at_builtin; refine Kd.R_append Kd.string (w0 := w) w.heap.size rfl (.tmp 116) (.tmp 122) 22 9 (.string ⟨#[]⟩) 16 rfl Tryd.underlying22 info9 rfl (by decide) (by omega) u5 x5_10 (t172 ++ t208) [.string (t172 ++ t208)] (fun _ => True) (fun _ => False) rfl rfl ?aP (fun _ hk => hk.elim) ?aF ?aO ?aB ?aS ?aL ?_; (case aP => exact rfl); (case aB => exact (by repeat (first | (with_reducible first | exact HB.out | apply below_alloc | apply pw_below_drewN | apply below_drew1 | refine below_set ?_ (IsS49.ge HI171.out) | refine below_set ?_ GE170.out | refine below_set ?_ GE207.out) | exact HB.out))); (case aF => exact (fun _ _ => trivial)); (case aO => exact (by (with_reducible repeat (first | apply Kd.R_alloc | apply Kd.R_drewN | apply Kd.R_drew)); exact HO_5.out)); (case aS => exact (below_size (by repeat (first | (with_reducible first | exact HB.out | apply below_alloc | apply pw_below_drewN | apply below_drew1 | refine below_set ?_ (IsS49.ge HI171.out) | refine below_set ?_ GE170.out | refine below_set ?_ GE207.out) | exact HB.out)))); (case aL => have := LMc66.out; omega); intro v210 w71 ho hb hg hat; rw [← Ny209.out] at ho; have n0_ := Aside0.mk (Kd.R_over' (by (with_reducible repeat (first | apply Kd.R_alloc | apply Kd.R_drewN | apply Kd.R_drew)); exact HO_102.out) (Kd.R_typed (by (with_reducible repeat (first | apply Kd.R_alloc | apply Kd.R_drewN | apply Kd.R_drew)); exact HO_5.out)) (by decide) hg); have n1_ := Aside0.mk (blk_grown (g := gb170) (o := .cells #[.int .i64 x171000_1, .int .i64 x171001_1] 27 (0, 0)) (by (with_reducible repeat (first | refine blk_drewN ?_ _ | refine blk_drew ?_ | refine blk_alloc ?_ _)); exact BK170.out) hg (Kd.R_ne HO_5.out BK170.out (by decide))); have n2_ := Aside0.mk (blk_grown (g := gb207) (o := .cells #[.int .i64 ((rd_T54 x8_16 x104_9).f0), .int .i64 ((rd_T54 x8_16 x104_9).f1), .int .i64 ((rd_T54 x8_16 x104_9).f2)] 54 (0, 0)) (by (with_reducible repeat (first | refine blk_drewN ?_ _ | refine blk_drew ?_ | refine blk_alloc ?_ _)); exact BK207.out) hg (Kd.R_ne HO_5.out BK207.out (by decide))); have n3_ := Aside0.mk (IsS49.grown (by repeat (first | (with_reducible first | exact HI171.out | apply IsS49.alloc | apply IsS49.drewN | apply IsS49.drew | apply IsS49.set_0 | apply IsS49.set_1 | apply IsS49.set_2 | apply IsS49.set_3 | (apply IsS49.far; (case hne => exact NB171_170.out)) | (apply IsS49.far; (case hne => exact NB171_207.out))) | exact HI171.out)) hg (IsS49.own_ne HI171.out HO_5.out (by decide))); have n4_ := Aside0.mk (hb); have n5_ := Aside0.mk (ho); clear HO_102; clear BK170; clear BK207; clear HI171; clear HB; clear HO_5; have HO_102 := n0_; have BK170 := n1_; have BK207 := n2_; have HI171 := n3_; have HB := n4_; have HO211 := n5_; clear n0_ n1_ n2_ n3_ n4_ n5_; clear ho hb hg hat))
                                                              go_roundg k10
                                                              case measure => have := HK1.out; have := HJ8.out; have := HJ16.out; have := HJ20.out; have := HJ26.out; have := HK6.out; have := HJ44.out; have := HJ50.out; have := HK9.out; have := HK10.out; omega
                                                              case rel => exact ⟨(y209), (wrap64 (x15_10 + 1)), (by first | rfl | (simp; done) | (simp [*]; done)), H', ⟨by have := HK1.out; have := HJ8.out; have := HJ16.out; have := HJ20.out; have := HJ26.out; have := HK6.out; have := HJ44.out; have := HJ50.out; have := HK9.out; have := HK10.out; omega⟩, ⟨by (with_reducible repeat (first | apply Kd.R_alloc | apply Kd.R_drewN | apply Kd.R_drew)); exact HO211.out⟩, ⟨by (with_reducible repeat (first | apply Kd.R_alloc | apply Kd.R_drewN | apply Kd.R_drew)); exact HO_102.out⟩, ⟨by (with_reducible repeat (first | refine blk_drewN ?_ _ | refine blk_drew ?_ | refine blk_alloc ?_ _)); exact BK170.out⟩, ⟨by (with_reducible repeat (first | refine blk_drewN ?_ _ | refine blk_drew ?_ | refine blk_alloc ?_ _)); exact BK207.out⟩, ⟨by repeat (first | (with_reducible first | exact HI171.out | apply IsS49.alloc | apply IsS49.drewN | apply IsS49.drew | apply IsS49.set_0 | apply IsS49.set_1 | apply IsS49.set_2 | apply IsS49.set_3 | (apply IsS49.far; (case hne => exact NB171_170.out)) | (apply IsS49.far; (case hne => exact NB171_207.out))) | exact HI171.out)⟩, ⟨by repeat (first | (with_reducible first | exact HB.out | apply below_alloc | apply pw_below_drewN | apply below_drew1 | refine below_set ?_ (IsS49.ge HI171.out) | refine below_set ?_ GE170.out | refine below_set ?_ GE207.out) | exact HB.out)⟩⟩
                                                            · rw [if_neg c66] at H
                                                              exact absurd H (by simp)
                                                          · rw [if_neg c65] at H
                                                            exact absurd H (by simp)
                                                        · rw [if_neg c63] at H
                                                          have c63b0 : decide (x15_10 ≤ ((rd_T54 x8_16 x104_9).f1)) = false := decide_eq_false c63
                                                          clear c63
                                                          have H' := Aside0.mk H
                                                          clear H
                                                          have hnb72 := NB207_170.out
                                                          have hnc72 := NB170_207.out
                                                          have hnb73 := NB207_171.out
                                                          have hnc73 := NB171_207.out
                                                          have hcz74_0 : wr.cell? ⟨gb207, 0, none⟩ = some (.int .i64 ((rd_T54 x8_16 x104_9).f0)) := (blk_cell BK207.out 0).trans rfl
                                                          have hcz74_1 : wr.cell? ⟨gb207, 1, none⟩ = some (.int .i64 ((rd_T54 x8_16 x104_9).f1)) := (blk_cell BK207.out 1).trans rfl
                                                          have hcz74_2 : wr.cell? ⟨gb207, 2, none⟩ = some (.int .i64 ((rd_T54 x8_16 x104_9).f2)) := (blk_cell BK207.out 2).trans rfl
                                                          have hfz74_0 := blk_frozen BK207.out 0
                                                          have hfz74_1 := blk_frozen BK207.out 1
                                                          have hfz74_2 := blk_frozen BK207.out 2
                                                          go_wp2
                                                          go_roundg k10
                                                          case measure => have := HK1.out; have := HJ8.out; have := HJ16.out; have := HJ20.out; have := HJ26.out; have := HK6.out; have := HJ44.out; have := HJ50.out; have := HK9.out; have := HK10.out; omega
                                                          case rel => exact ⟨(x5_10), (wrap64 (x104_9 + 1)), (by first | rfl | (simp; done) | (simp [*]; done)), H', ⟨by have := HK1.out; have := HJ8.out; have := HJ16.out; have := HJ20.out; have := HJ26.out; have := HK6.out; have := HJ44.out; have := HJ50.out; have := HK9.out; have := HK10.out; omega⟩, ⟨by (with_reducible repeat (first | apply Kd.R_alloc | apply Kd.R_drewN | apply Kd.R_drew)); exact HO_5.out⟩, ⟨by (with_reducible repeat (first | apply Kd.R_alloc | apply Kd.R_drewN | apply Kd.R_drew)); exact Kd.R_mono HO_102.out (fun _ hk => trivial)⟩, ⟨by (with_reducible repeat (first | refine blk_drewN ?_ _ | refine blk_drew ?_ | refine blk_alloc ?_ _)); exact BK170.out⟩, ⟨by repeat (first | (with_reducible first | exact HI171.out | apply IsS49.alloc | apply IsS49.drewN | apply IsS49.drew | apply IsS49.set_0 | apply IsS49.set_1 | apply IsS49.set_2 | apply IsS49.set_3 | (apply IsS49.far; (case hne => exact NB171_170.out)) | (apply IsS49.far; (case hne => exact NB171_207.out))) | exact HI171.out)⟩, ⟨by repeat (first | (with_reducible first | exact HB.out | apply below_alloc | apply pw_below_drewN | apply below_drew1 | refine below_set ?_ (IsS49.ge HI171.out) | refine below_set ?_ GE170.out | refine below_set ?_ GE207.out) | exact HB.out)⟩⟩
                                                  · rw [if_neg c58] at H
                                                    exact absurd H (by simp)
                                                · rw [if_neg c57] at H
                                                  exact absurd H (by simp)
                                              · rw [if_neg c56] at H
                                                have c56b0 : decide (x104_9 < (x8_16.length : Int)) = false := decide_eq_false c56
                                                clear c56
                                                replace H := Option.bind_eq_some_iff.mp H
                                                obtain ⟨⟨t201, t202, t203, t204, t205⟩, A750, H⟩ := H
                                                replace H : (if t201 = true then (host_Expand.l0 k9 a0 x5_9 t202 t203 t204 t205) else (some (x5_9, 0, 0))) = some (r1, r2, r3) := H
                                                have A75 := Aside0.mk A750
                                                clear A750
                                                by_cases c76 : t201 = true
                                                · subst c76
                                                  have H1 : (host_Expand.l0 k9 a0 x5_9 t202 t203 t204 t205) = some (r1, r2, r3) := by rw [if_pos rfl] at H; exact H
                                                  clear H
                                                  have H := H1
                                                  clear H1
                                                  have H' := Aside0.mk H
                                                  clear H
                                                  go_wp2_with (first | ((with_reducible refine gate_callee (f := 25) rfl ?_); refine goesL_ (some 126) rfl rfl Tryd.func25 (by kernel_rfl) rfl #[.pointer (some ⟨gb171, 0, none⟩), .int .u8 44] rfl (by (try simp only [List.map_toArray, List.map_cons, List.map_nil]); first | done | rfl | (simp only [List.length_drop, List.length_take]; rfl)) ?_; (with_reducible refine (host_reader_next.calls gb171 x172000_26 x172001_26 x172002_26 x172003_26 44 true t202 t203 t204 t205 w _ ?side1 ?side2 A75.out).mono ?_); (case side1 => repeat (first | (with_reducible first | exact HI171.out | apply IsS49.alloc | apply IsS49.drewN | apply IsS49.drew | apply IsS49.set_0 | apply IsS49.set_1 | apply IsS49.set_2 | apply IsS49.set_3 | (apply IsS49.far; (case hne => exact NB171_170.out))) | exact HI171.out)); (case side2 => repeat (first | (with_reducible first | exact HB.out | apply below_alloc | apply pw_below_drewN | apply below_drew1 | refine below_set ?_ (IsS49.ge HI171.out) | refine below_set ?_ GE170.out) | exact HB.out)); rintro e w77 ⟨rfl, hi, hb, hk⟩; refine ⟨_, rfl, ?_⟩; have n0_ := Aside0.mk (Kd.R_mono (Kd.R_keep (IsS49.apart (show IsS49 w _ gb171 x172000_26 x172001_26 x172002_26 x172003_26 from by repeat (first | (with_reducible first | exact HI171.out | apply IsS49.alloc | apply IsS49.drewN | apply IsS49.drew | apply IsS49.set_0 | apply IsS49.set_1 | apply IsS49.set_2 | apply IsS49.set_3 | (apply IsS49.far; (case hne => exact NB171_170.out))) | exact HI171.out)) (by (with_reducible repeat (first | apply Kd.R_alloc | apply Kd.R_drewN | apply Kd.R_drew)); exact HO_5.out) (by decide)) hk (fun _ h => h.2)) (fun _ h => h.1)); have n1_ := Aside0.mk (Kd.R_mono (Kd.R_keep (IsS49.apart (show IsS49 w _ gb171 x172000_26 x172001_26 x172002_26 x172003_26 from by repeat (first | (with_reducible first | exact HI171.out | apply IsS49.alloc | apply IsS49.drewN | apply IsS49.drew | apply IsS49.set_0 | apply IsS49.set_1 | apply IsS49.set_2 | apply IsS49.set_3 | (apply IsS49.far; (case hne => exact NB171_170.out))) | exact HI171.out)) (by (with_reducible repeat (first | apply Kd.R_alloc | apply Kd.R_drewN | apply Kd.R_drew)); exact HO_102.out) (by decide)) hk (fun _ h => h.2)) (fun _ h => h.1)); have n2_ := Aside0.mk (KeepBut.blk hk (g' := gb170) (o := .cells #[.int .i64 x171000_1, .int .i64 x171001_1] 27 (0, 0)) (by (with_reducible repeat (first | refine blk_drewN ?_ _ | refine blk_drew ?_ | refine blk_alloc ?_ _)); exact BK170.out) NB170_171.out (by simp)); have n3_ := Aside0.mk (hb); have n4_ := Aside0.mk (hi); clear HO_5; clear HO_102; clear BK170; clear HB; clear HI171; have HO_5 := n0_; have HO_102 := n1_; have BK170 := n2_; have HB := n3_; have HI171 := n4_; clear n0_ n1_ n2_ n3_ n4_; (try clear hb); (try clear hb2); (try clear hk); (try clear hi)))
                                                  go_roundg k9
                                                  case measure => have := HK1.out; have := HJ8.out; have := HJ16.out; have := HJ20.out; have := HJ26.out; have := HK6.out; have := HJ44.out; have := HJ50.out; have := HK9.out; omega
                                                  case rel => exact ⟨(x5_9), (x171000_1), (x171001_1), (t202), (t203), (t204), (t205), H', ⟨by have := HK1.out; have := HJ8.out; have := HJ16.out; have := HJ20.out; have := HJ26.out; have := HK6.out; have := HJ44.out; have := HJ50.out; have := HK9.out; omega⟩, ⟨by (with_reducible repeat (first | apply Kd.R_alloc | apply Kd.R_drewN | apply Kd.R_drew)); exact HO_5.out⟩, ⟨by (with_reducible repeat (first | refine blk_drewN ?_ _ | refine blk_drew ?_ | refine blk_alloc ?_ _)); exact BK170.out⟩, ⟨by repeat (first | (with_reducible first | exact HI171.out | apply IsS49.alloc | apply IsS49.drewN | apply IsS49.drew | apply IsS49.set_0 | apply IsS49.set_1 | apply IsS49.set_2 | apply IsS49.set_3 | (apply IsS49.far; (case hne => exact NB171_170.out))) | exact HI171.out)⟩, ⟨by repeat (first | (with_reducible first | exact HB.out | apply below_alloc | apply pw_below_drewN | apply below_drew1 | refine below_set ?_ (IsS49.ge HI171.out) | refine below_set ?_ GE170.out) | exact HB.out)⟩⟩
                                                · replace c76 := Bool.eq_false_iff.mpr c76
                                                  subst c76
                                                  have H1 : (some (x5_9, 0, 0)) = some (r1, r2, r3) := by rw [if_neg (show ¬ (false = true) by decide)] at H; exact H
                                                  clear H
                                                  have H := H1
                                                  clear H1
                                                  simp only [Option.some.injEq, Prod.mk.injEq] at H
                                                  obtain ⟨rfl, rfl, rfl⟩ := H
                                                  go_wp2_with (first | ((with_reducible refine gate_callee (f := 25) rfl ?_); refine goesL_ (some 126) rfl rfl Tryd.func25 (by kernel_rfl) rfl #[.pointer (some ⟨gb171, 0, none⟩), .int .u8 44] rfl (by (try simp only [List.map_toArray, List.map_cons, List.map_nil]); first | done | rfl | (simp only [List.length_drop, List.length_take]; rfl)) ?_; (with_reducible refine (host_reader_next.calls gb171 x172000_26 x172001_26 x172002_26 x172003_26 44 false t202 t203 t204 t205 w _ ?side1 ?side2 A75.out).mono ?_); (case side1 => repeat (first | (with_reducible first | exact HI171.out | apply IsS49.alloc | apply IsS49.drewN | apply IsS49.drew | apply IsS49.set_0 | apply IsS49.set_1 | apply IsS49.set_2 | apply IsS49.set_3 | (apply IsS49.far; (case hne => exact NB171_170.out))) | exact HI171.out)); (case side2 => repeat (first | (with_reducible first | exact HB.out | apply below_alloc | apply pw_below_drewN | apply below_drew1 | refine below_set ?_ (IsS49.ge HI171.out) | refine below_set ?_ GE170.out) | exact HB.out)); rintro e w78 ⟨rfl, hi, hb, hk⟩; refine ⟨_, rfl, ?_⟩; have n0_ := Aside0.mk (Kd.R_mono (Kd.R_keep (IsS49.apart (show IsS49 w _ gb171 x172000_26 x172001_26 x172002_26 x172003_26 from by repeat (first | (with_reducible first | exact HI171.out | apply IsS49.alloc | apply IsS49.drewN | apply IsS49.drew | apply IsS49.set_0 | apply IsS49.set_1 | apply IsS49.set_2 | apply IsS49.set_3 | (apply IsS49.far; (case hne => exact NB171_170.out))) | exact HI171.out)) (by (with_reducible repeat (first | apply Kd.R_alloc | apply Kd.R_drewN | apply Kd.R_drew)); exact HO_5.out) (by decide)) hk (fun _ h => h.2)) (fun _ h => h.1)); have n1_ := Aside0.mk (Kd.R_mono (Kd.R_keep (IsS49.apart (show IsS49 w _ gb171 x172000_26 x172001_26 x172002_26 x172003_26 from by repeat (first | (with_reducible first | exact HI171.out | apply IsS49.alloc | apply IsS49.drewN | apply IsS49.drew | apply IsS49.set_0 | apply IsS49.set_1 | apply IsS49.set_2 | apply IsS49.set_3 | (apply IsS49.far; (case hne => exact NB171_170.out))) | exact HI171.out)) (by (with_reducible repeat (first | apply Kd.R_alloc | apply Kd.R_drewN | apply Kd.R_drew)); exact HO_102.out) (by decide)) hk (fun _ h => h.2)) (fun _ h => h.1)); have n2_ := Aside0.mk (KeepBut.blk hk (g' := gb170) (o := .cells #[.int .i64 x171000_1, .int .i64 x171001_1] 27 (0, 0)) (by (with_reducible repeat (first | refine blk_drewN ?_ _ | refine blk_drew ?_ | refine blk_alloc ?_ _)); exact BK170.out) NB170_171.out (by simp)); have n3_ := Aside0.mk (hb); have n4_ := Aside0.mk (hi); clear HO_5; clear HO_102; clear BK170; clear HB; clear HI171; have HO_5 := n0_; have HO_102 := n1_; have BK170 := n2_; have HB := n3_; have HI171 := n4_; clear n0_ n1_ n2_ n3_ n4_; (try clear hb); (try clear hb2); (try clear hk); (try clear hi); have hnb79 := NB170_171.out; have hnc79 := NB171_170.out; have hcz80_0 : w78.cell? ⟨gb170, 0, none⟩ = some (.int .i64 x171000_1) := (blk_cell BK170.out 0).trans rfl; have hcz80_1 : w78.cell? ⟨gb170, 1, none⟩ = some (.int .i64 x171001_1) := (blk_cell BK170.out 1).trans rfl; have hfz80_0 := blk_frozen BK170.out 0; have hfz80_1 := blk_frozen BK170.out 1))
                                                  refine bodyPost_ret (results_tc rfl _ _ gb170 27 #[.int .i64 0, .int .i64 0] (0, 0) _ rfl (by (with_reducible repeat (first | refine blk_drewN ?_ _ | refine blk_drew ?_ | refine blk_alloc ?_ _)); refine blk_put (cs := #[.int .i64 0, .int .i64 x171001_1]) ?_ 1 _ rfl; (with_reducible repeat (first | refine blk_drewN ?_ _ | refine blk_drew ?_ | refine blk_alloc ?_ _)); refine blk_put (cs := #[.int .i64 x171000_1, .int .i64 x171001_1]) ?_ 0 _ rfl; (with_reducible repeat (first | refine blk_drewN ?_ _ | refine blk_drew ?_ | refine blk_alloc ?_ _)); exact BK170.out) Tryd.underlying27 rfl (by kernel_rfl)) rfl ?_
                                                  exact ⟨_, by first | rfl | (simp [errW_none, errW_some] <;> rfl) | (simp [*, errW_none, errW_some] <;> rfl), by (with_reducible repeat (first | apply Kd.R_alloc | apply Kd.R_drewN | apply Kd.R_drew)); exact Kd.R_mono (Kd.R_far (p := ⟨gb170, 1, none⟩) (Kd.R_far (p := ⟨gb170, 0, none⟩) (Kd.R_types HO_5.out BK170.out (by decide)) (fun _ hk => hk.2) (.int .i64 0)) (fun _ hk => hk.2) (.int .i64 0)) (fun _ hk => trivial), by repeat (first | (with_reducible first | exact HB.out | apply below_alloc | apply pw_below_drewN | apply below_drew1 | refine below_set ?_ (IsS49.ge HI171.out) | refine below_set ?_ GE170.out) | exact HB.out)⟩
end Go.Proofs.YtoammgpfbdcphaaDoor.PH
