/- dep.reader.job: what it computes. -/
import Derived.Test.YtknbnnpggdegmaaDoorPDx3
namespace Go.Proofs.YtknbnnpggdegmaaDoor.PD
open Go.RowKit Go.Proofs.YtknbnnpggdegmaaDoorW.PrintWords Go.Proofs.YtknbnnpggdegmaaDoorW.PrintLast Go.Proofs.YtknbnnpggdegmaaDoorW.PrintMore Go.Proofs.YtknbnnpggdegmaaDoor.Lib
set_option linter.unusedVariables false
set_option linter.unusedSimpArgs false

def jobWrong (at_ : Int) (d s : ByteArray) (p y t : Int) : Option (ByteArray × Int × Int × Int) :=
  if d.size = 0 then dep_reader_wrong.f s p y t at_ else if bt d 0 = 48 then dep_reader_wrong.f s p y t at_ else if 6 < d.size then dep_reader_wrong.f s p y t (wrap64 (at_ + 6)) else some (s, p, y, t)
def dep_reader_job.f (s0_0 : ByteArray) (s0_1 s0_2 s0_3 : Int) : Option (Int × ByteArray × Int × Int × Int) :=
  if s0_0.size ≤ 140737488351232 then
  (dep_reader_take.f (s0_0.size + 2) s0_0 s0_1 s0_2 s0_3 48 57).bind fun q =>
    if q.1.size ≤ 140737488351232 then (jobWrong s0_1 q.1 q.2.1 q.2.2.1 q.2.2.2.1 q.2.2.2.2).bind fun z => some (atoiVal q.1.data.toList, z) else none
  else none
theorem size_toList {d : ByteArray} (h : d.size = 0) : d.toList = [] := by
  rw [ByteArray.toList_eq]
  have : d.data.size = 0 := h
  simp [Array.size_eq_zero_iff.1 this]
theorem toList_ne {d : ByteArray} (h : ¬ d.size = 0) : (d.toList = []) = False := eq_false (by
  rw [ByteArray.toList_eq]
  intro e
  apply h
  show d.data.size = 0
  rw [← Array.length_toList, e]; rfl)
theorem isEmpty_ne {d : ByteArray} (h : ¬ d.size = 0) : d.toList.isEmpty = false := by
  have := toList_ne h
  cases h2 : d.toList with
  | nil => rw [h2] at this; simp at this
  | cons x l => rfl
theorem bt_zero {d : ByteArray} (h : 0 < d.size) : bt d 0 = ((d[0]'h).toNat : Int) := by
  unfold bt; simp [h]
theorem keep_then {w w1 w2 : World} {g : Nat} (h : KeepBut w w1 g none) (k : KeepBut w1 w2 g none) : KeepBut w w2 g none := h.trans k (.inl rfl)
theorem keep_below {w w1 w2 : World} {g : Nat} (h : KeepBut w w1 g none) (k : Below w1.heap.size w1 w2) : KeepBut w w2 g none := h.trans (KeepBut.of_below k g none) (.inl rfl)

set_option maxHeartbeats 2000000 in
theorem dep_reader_job.calls (g : Nat) (s0_0 : ByteArray) (s0_1 : Int) (s0_2 : Int) (s0_3 : Int) (r1 : Int) (r2 : ByteArray) (r3 : Int) (r4 : Int) (r5 : Int) (w0 w : World) (hI : IsS71 w0 w g s0_0 s0_1 s0_2 s0_3) (hB : Below w0.heap.size w0 w) (h : dep_reader_job.f s0_0 s0_1 s0_2 s0_3 = some (r1, r2, r3, r4, r5)) (hG : Glob w0) :
    Calls Tryd.prog 44 #[.pointer (some ⟨g, 0, none⟩)] w fun e w' => e = .returned (.int .i64 r1) ∧ IsS71 w0 w' g r2 r3 r4 r5 ∧ Below w0.heap.size w0 w' ∧ KeepBut w w' g none := by
  unfold dep_reader_job.f at h
  split at h
  · rename_i hsz
    obtain ⟨⟨d, s1, p1, y1, t1⟩, h1, h2⟩ := Option.bind_eq_some_iff.mp h
    clear h
    split at h2
    · rename_i hdz
      simp only at h2
      obtain ⟨⟨s2, p2, y2, t2⟩, h3, h4⟩ := Option.bind_eq_some_iff.mp h2
      clear h2
      simp only [Option.some.injEq, Prod.mk.injEq] at h4
      obtain ⟨rfl, rfl, rfl, rfl, rfl⟩ := h4
      have hc := cellS71_1 hI.1
      have A1 := Aside0.mk h1
      have A3 := Aside0.mk h3
      have AI := Aside0.mk hI
      have AB := Aside0.mk hB
      have AG := Aside0.mk hG
      have Az := Aside0.mk hdz
      clear h1 h3 hI hB hG hdz
      go_enter Tryd.func44, Tryd.ntmps44
      go_wp2_with fail
      refine (dep_reader_take.calls _ g s0_0 s0_1 s0_2 s0_3 48 57 d s1 p1 y1 t1 w0 w AI.out AB.out A1.out).mono ?_
      rintro e w1 ⟨rfl, hI1, hB1, hK1⟩
      have AI1 := Aside0.mk hI1
      have AB1 := Aside0.mk hB1
      have AK1 := Aside0.mk hK1
      clear hI1 hB1 hK1 hc
      have fin : ∀ (W : World), IsS71 w0 W g s2 p2 y2 t2 → Below w0.heap.size w0 W → KeepBut w W g none → Calls Tryd.prog 51 #[.string d] W fun e w' => ∃ ev, Aside0 (IsS71 w0 w' g s2 p2 y2 t2 ∧ Below w0.heap.size w0 w' ∧ KeepBut w w' g none) ∧ e = .returned (.tuple #[.int .i64 (atoiVal d.data.toList), ev]) := fun W a b c =>
        (strconv_Atoi_any d (by have := Az.out; omega) W (AG.out.below b)).mono fun e w' ⟨ev, he, _, _, hb⟩ => ⟨ev, ⟨a.below hb, below_then b b.size hb, keep_below c hb⟩, he⟩
      have FIN := Aside0.mk fin
      clear fin
      by_cases hd : d.size = 0
      · have hd1 : d.toList = [] := size_toList hd
        have A3' : dep_reader_wrong.f s1 p1 y1 t1 s0_1 = some (s2, p2, y2, t2) := by have := A3.out; unfold jobWrong at this; rw [if_pos hd] at this; exact this
        have A4 := Aside0.mk A3'
        clear A3' hd
        go_wp2_with fail
        refine (dep_reader_wrong.calls g s1 p1 y1 t1 s0_1 s2 p2 y2 t2 w0 w1 AI1.out AB1.out A4.out).mono ?_
        rintro e w2 ⟨rfl, hI2, hB2, hK2⟩
        have F := FIN.out w2 hI2 hB2 (keep_then AK1.out hK2)
        clear hI2 hB2 hK2 hd1
        have F := Aside0.mk F
        go_wp2_with fail
        refine F.out.mono ?_
        rintro e w3 ⟨ev, hA, rfl⟩
        go_wp2
        go_ret
        exact ⟨rfl, hA.out⟩
      · have hd1 := toList_ne hd
        have hd2 := isEmpty_ne hd
        have hd3 : 0 < d.size := by omega
        have hb0 := bt_zero hd3
        by_cases h48 : bt d 0 = 48
        · have A3' : dep_reader_wrong.f s1 p1 y1 t1 s0_1 = some (s2, p2, y2, t2) := by have := A3.out; unfold jobWrong at this; rw [if_neg hd, if_pos h48] at this; exact this
          have A4 := Aside0.mk A3'
          have h49 : (((d[0]'hd3).toNat : Int) == 48) = true := by rw [← hb0]; exact beq_iff_eq.mpr h48
          clear A3' hd h48 hb0
          go_wp2_with fail
          refine (dep_reader_wrong.calls g s1 p1 y1 t1 s0_1 s2 p2 y2 t2 w0 w1 AI1.out AB1.out A4.out).mono ?_
          rintro e w2 ⟨rfl, hI2, hB2, hK2⟩
          have F := FIN.out w2 hI2 hB2 (keep_then AK1.out hK2)
          clear hI2 hB2 hK2 hd1 hd2 h49
          have F := Aside0.mk F
          go_wp2_with fail
          refine F.out.mono ?_
          rintro e w3 ⟨ev, hA, rfl⟩
          go_wp2
          go_ret
          exact ⟨rfl, hA.out⟩
        · have h49 : (((d[0]'hd3).toNat : Int) == 48) = false := by rw [← hb0]; exact beq_eq_false_iff_ne.mpr h48
          by_cases h6 : 6 < d.size
          · have A3' : dep_reader_wrong.f s1 p1 y1 t1 (wrap64 (s0_1 + 6)) = some (s2, p2, y2, t2) := by have := A3.out; unfold jobWrong at this; rw [if_neg hd, if_neg h48, if_pos h6] at this; exact this
            have A4 := Aside0.mk A3'
            clear A3' hd h48 hb0
            go_wp2_with fail
            refine (dep_reader_wrong.calls g s1 p1 y1 t1 _ s2 p2 y2 t2 w0 w1 AI1.out AB1.out A4.out).mono ?_
            rintro e w2 ⟨rfl, hI2, hB2, hK2⟩
            have F := FIN.out w2 hI2 hB2 (keep_then AK1.out hK2)
            clear hI2 hB2 hK2 hd1 hd2 h49
            have F := Aside0.mk F
            go_wp2_with fail
            refine F.out.mono ?_
            rintro e w3 ⟨ev, hA, rfl⟩
            go_wp2
            go_ret
            exact ⟨rfl, hA.out⟩
          · have A3' : (s1, p1, y1, t1) = (s2, p2, y2, t2) := by have := A3.out; unfold jobWrong at this; rw [if_neg hd, if_neg h48, if_neg h6] at this; exact Option.some.inj this
            simp only [Prod.mk.injEq] at A3'
            obtain ⟨rfl, rfl, rfl, rfl⟩ := A3'
            have F := Aside0.mk (FIN.out w1 AI1.out AB1.out AK1.out)
            clear hd h48 hb0
            go_wp2_with fail
            refine F.out.mono ?_
            rintro e w3 ⟨ev, hA, rfl⟩
            go_wp2
            go_ret
            exact ⟨rfl, hA.out⟩
    · cases h2
  · cases h
end Go.Proofs.YtknbnnpggdegmaaDoor.PD
