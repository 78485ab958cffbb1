/- dep.Ask: what it computes. -/
import Derived.Test.YtknbnnpggdegmaaDoorAt
namespace Go.Proofs.YtknbnnpggdegmaaDoor.At
open Go.RowKit Go.Proofs.YtknbnnpggdegmaaDoorW.PrintWords Go.Proofs.YtknbnnpggdegmaaDoorW.PrintLast Go.Proofs.YtknbnnpggdegmaaDoorW.PrintMore Go.Proofs.YtknbnnpggdegmaaDoor.PD Go.Proofs.YtknbnnpggdegmaaDoor.Mp
set_option linter.unusedVariables false
set_option linter.unusedSimpArgs false

abbrev atS (look : Int → Option Int) (al : Bool) (x : S52) : Int := atF look x.f0 x.f1 al
/-- How many items are at q. -/
def cnt (look : Int → Option Int) (al : Bool) (q : Int) (l : List S52) : Nat := (l.filter fun x => atS look al x == q).length
def askF (look : Int → Option Int) (any : Bool) (l : List S52) (al : Bool) : Int :=
  if any then (if 0 < cnt look al 1 l then 1 else if cnt look al 2 l = l.length then 2 else 0)
  else (if 0 < cnt look al 2 l then 2 else if cnt look al 1 l = l.length then 1 else 0)

theorem atL_range (look : Int → Option Int) (kd : Int) : ∀ (l : List Int) (o : Int), 0 ≤ o → o ≤ 2 → 0 ≤ atL look kd l o ∧ atL look kd l o ≤ 2
  | [], o, h0, h1 => ⟨h0, h1⟩
  | n :: ns, o, h0, h1 => by
    unfold atL
    split
    · omega
    · split
      · exact atL_range look kd ns 0 (by omega) (by omega)
      · exact atL_range look kd ns o h0 h1
theorem atF_range (look : Int → Option Int) (kd : Int) (l : List Int) (al : Bool) : 0 ≤ atF look kd l al ∧ atF look kd l al ≤ 2 := by
  unfold atF
  split
  · split <;> omega
  · exact atL_range look kd l 1 (by omega) (by omega)
theorem rd_getElem (l : List S52) (i : Nat) (h : i < l.length) : rd_T52 l i = l[i] := by simp [rd_T52, h]
theorem cnt_snoc (look : Int → Option Int) (al : Bool) (q : Int) (l : List S52) (i : Nat) (h : i < l.length) : cnt look al q (l.take (i + 1)) = cnt look al q (l.take i) + if atS look al (rd_T52 l i) = q then 1 else 0 := by
  unfold cnt
  rw [List.take_succ_eq_append_getElem h, List.filter_append, rd_getElem l i h]
  by_cases e : atS look al l[i] = q <;> simp [List.filter_cons, e]
theorem cnt_le (look : Int → Option Int) (al : Bool) (q : Int) (l : List S52) : cnt look al q l ≤ l.length := List.length_filter_le _ _
theorem cnt_take_le (look : Int → Option Int) (al : Bool) (q : Int) (l : List S52) (i : Nat) : cnt look al q (l.take i) ≤ i := Nat.le_trans (cnt_le look al q _) (by simp; omega)

set_option maxHeartbeats 4000000 in
set_option maxRecDepth 100000 in
theorem ask_calls (any : Bool) (A : Option Addr) (c : Nat) (l : List S52) (al : Bool) (bm n : Nat) (look : Int → Option Int) (w : World) (hr : Kd.C k52 w A l.length l) (hc : l.length ≤ c) (hm : MapII w bm n look) (hok : ∀ x ∈ l, ∀ y ∈ x.f1, (Lit.int .i64 y).wf = true) :
    Calls Tryd.prog 12 #[.agg #[.bool any, .slice A l.length c], .map (some bm), .bool al] w fun e w' => e = .returned (.int .i64 (askF look any l al)) ∧ Below w.heap.size w w' := by
  have HR := Aside0.mk hr
  have HM := Aside0.mk hm
  have HO := Aside0.mk hok
  have HL := Aside0.mk hr.2.1
  have hu52 := Tryd.underlying52
  have hu31 := Tryd.underlying31
  have hu66 := Tryd.underlying66
  obtain ⟨R, hR⟩ : ∃ R, askF look any l al = R := ⟨_, rfl⟩
  have HA := Aside0.mk hR
  rw [hR]
  clear hr hm hok hc hR
  have hlen := HL.out
  go_enter Tryd.func12, Tryd.ntmps12
  go_wp2
  go_loopw [14] (fun v14 wr => ∃ (i : Nat), v14 = .int .i64 i ∧ i ≤ l.length ∧ Aside0 (wr.heap[w.heap.size]? = some (.cells #[.bool any, .slice A l.length c] 31 (0, 0))) ∧ Aside0 (wr.heap[w.heap.size + 1]? = some (.cells #[.int .i64 (cnt look al 0 (l.take i)), .int .i64 (cnt look al 1 (l.take i)), .int .i64 (cnt look al 2 (l.take i))] 66 (0, 0))) ∧ Aside0 (Below w.heap.size w wr)) (fun v14 _ => l.length - (intOf v14).toNat)
  case atStart => exact ⟨0, rfl, Nat.zero_le _, ⟨blk_alloc (blk_new _ _) _⟩, ⟨by have := heap_alloc_new (w.alloc (.cells #[.bool any, .slice A l.length c] 31)) (.cells #[.int .i64 0, .int .i64 0, .int .i64 0] 66); rw [World.size_alloc] at this; exact this⟩, ⟨below_alloc (below_alloc (Below.refl _ _) _) _⟩⟩
  case round =>
    obtain ⟨i, rfl, hi, BK, BA, HB⟩ := hrel
    by_cases hlt : i < l.length
    · have hz0 : wr.cell? ⟨w.heap.size, 0, none⟩ = some (.bool any) := (blk_cell BK.out 0).trans rfl
      have hz1 : wr.cell? ⟨w.heap.size, 1, none⟩ = some (.slice A l.length c) := (blk_cell BK.out 1).trans rfl
      obtain ⟨ad, A1, c1, rfl, hx0, hx1, hl1, hi1⟩ := at_T52 HR.out i (by omega) (by omega)
      rw [Int.toNat_natCast] at hx0 hx1
      replace hx0 := (HB.out.cell (World.block_lt_of_cell? w _ hx0)).trans hx0
      replace hx1 := (HB.out.cell (World.block_lt_of_cell? w _ hx1)).trans hx1
      have HI1 := Aside0.mk hi1
      have HL1 := Aside0.mk hl1
      clear hi1 hl1
      obtain ⟨v, hv⟩ : ∃ v, atS look al (rd_T52 l i) = v := ⟨_, rfl⟩
      have hvr := atF_range look (rd_T52 l i).f0 (rd_T52 l i).f1 al
      have hm1 := Aside0.mk (show rd_T52 l i ∈ l by rw [rd_getElem l i hlt]; exact List.getElem_mem _)
      have b0 := cnt_take_le look al 0 l i
      have b1 := cnt_take_le look al 1 l i
      have b2 := cnt_take_le look al 2 l i
      rw [show atF look (rd_T52 l i).f0 (rd_T52 l i).f1 al = v from hv] at hvr
      have HV := Aside0.mk hv
      clear hv
      go_wp2_with fail
      refine (at_calls (rd_T52 l i).f0 A1 c1 (rd_T52 l i).f1 al bm n look _ ?r1 HL1.out ?m1 (HO.out _ hm1.out)).mono ?_
      case r1 => exact Kd.C_below HI1.out (below_alloc HB.out _)
      case m1 => exact HM.out.below (below_alloc HB.out _)
      rintro e w2 ⟨he, hb⟩
      rw [show atF look (rd_T52 l i).f0 (rd_T52 l i).f1 al = v from HV.out] at he
      subst he
      have BA2 := Aside0.mk (blk_below (blk_alloc BA.out _) hb)
      have BK2 := Aside0.mk (blk_below (blk_alloc BK.out _) hb)
      have HB2 := Aside0.mk (below_then (below_alloc HB.out _) (below_alloc HB.out _).size hb)
      clear hb hx0 hx1 hz0 hz1
      have hy0 : w2.cell? ⟨w.heap.size + 1, 0, none⟩ = some (.int .i64 (cnt look al 0 (l.take i))) := (blk_cell BA2.out 0).trans rfl
      have hy1 : w2.cell? ⟨w.heap.size + 1, 1, none⟩ = some (.int .i64 (cnt look al 1 (l.take i))) := (blk_cell BA2.out 1).trans rfl
      have hy2 : w2.cell? ⟨w.heap.size + 1, 2, none⟩ = some (.int .i64 (cnt look al 2 (l.take i))) := (blk_cell BA2.out 2).trans rfl
      have hf0 := blk_frozen BA2.out 0
      have hf1 := blk_frozen BA2.out 1
      have hf2 := blk_frozen BA2.out 2
      have h3 : v = 0 ∨ v = 1 ∨ v = 2 := by omega
      clear hvr
      rcases h3 with rfl | rfl | rfl
      · skip
        have s0 := cnt_snoc look al 0 l i hlt
        have s1 := cnt_snoc look al 1 l i hlt
        have s2 := cnt_snoc look al 2 l i hlt
        rw [HV.out] at s0 s1 s2
        rw [if_pos rfl] at s0
        rw [if_neg (by decide), Nat.add_zero] at s1
        rw [if_neg (by decide), Nat.add_zero] at s2
        have S0 := Aside0.mk s0
        have S1 := Aside0.mk s1
        have S2 := Aside0.mk s2
        clear s0 s1 s2
        go_wp2
        go_roundw
        case rel =>
          refine ⟨i + 1, by go_num, by omega, ⟨?_⟩, ⟨?_⟩, ⟨?_⟩⟩
          · exact blk_far BK2.out (show w.heap.size ≠ w.heap.size + 1 by omega) _
          · rw [S0.out, S1.out, S2.out]
            exact blk_put BA2.out 0 _ (by simp only [List.setIfInBounds_toArray, List.set_cons_zero, List.set_cons_succ, Int.natCast_add]; simp)
          · exact below_set HB2.out (show w.heap.size ≤ w.heap.size + 1 by omega)
        case measure => simp [intOf]; omega
      · skip
        have s0 := cnt_snoc look al 0 l i hlt
        have s1 := cnt_snoc look al 1 l i hlt
        have s2 := cnt_snoc look al 2 l i hlt
        rw [HV.out] at s0 s1 s2
        rw [if_neg (by decide), Nat.add_zero] at s0
        rw [if_pos rfl] at s1
        rw [if_neg (by decide), Nat.add_zero] at s2
        have S0 := Aside0.mk s0
        have S1 := Aside0.mk s1
        have S2 := Aside0.mk s2
        clear s0 s1 s2
        go_wp2
        go_roundw
        case rel =>
          refine ⟨i + 1, by go_num, by omega, ⟨?_⟩, ⟨?_⟩, ⟨?_⟩⟩
          · exact blk_far BK2.out (show w.heap.size ≠ w.heap.size + 1 by omega) _
          · rw [S0.out, S1.out, S2.out]
            exact blk_put BA2.out 1 _ (by simp only [List.setIfInBounds_toArray, List.set_cons_zero, List.set_cons_succ, Int.natCast_add]; simp)
          · exact below_set HB2.out (show w.heap.size ≤ w.heap.size + 1 by omega)
        case measure => simp [intOf]; omega
      · skip
        have s0 := cnt_snoc look al 0 l i hlt
        have s1 := cnt_snoc look al 1 l i hlt
        have s2 := cnt_snoc look al 2 l i hlt
        rw [HV.out] at s0 s1 s2
        rw [if_neg (by decide), Nat.add_zero] at s0
        rw [if_neg (by decide), Nat.add_zero] at s1
        rw [if_pos rfl] at s2
        have S0 := Aside0.mk s0
        have S1 := Aside0.mk s1
        have S2 := Aside0.mk s2
        clear s0 s1 s2
        go_wp2
        go_roundw
        case rel =>
          refine ⟨i + 1, by go_num, by omega, ⟨?_⟩, ⟨?_⟩, ⟨?_⟩⟩
          · exact blk_far BK2.out (show w.heap.size ≠ w.heap.size + 1 by omega) _
          · rw [S0.out, S1.out, S2.out]
            exact blk_put BA2.out 2 _ (by simp only [List.setIfInBounds_toArray, List.set_cons_zero, List.set_cons_succ, Int.natCast_add]; simp)
          · exact below_set HB2.out (show w.heap.size ≤ w.heap.size + 1 by omega)
        case measure => simp [intOf]; omega
    · have e : l.take i = l := List.take_of_length_le (by omega)
      rw [e] at BA
      clear e
      have c0 := cnt_le look al 1 l
      have c1 := cnt_le look al 2 l
      have hz0 : wr.cell? ⟨w.heap.size, 0, none⟩ = some (.bool any) := (blk_cell BK.out 0).trans rfl
      have hz1 : wr.cell? ⟨w.heap.size, 1, none⟩ = some (.slice A l.length c) := (blk_cell BK.out 1).trans rfl
      have hy1 : wr.cell? ⟨w.heap.size + 1, 1, none⟩ = some (.int .i64 (cnt look al 1 l)) := (blk_cell BA.out 1).trans rfl
      have hy2 : wr.cell? ⟨w.heap.size + 1, 2, none⟩ = some (.int .i64 (cnt look al 2 l)) := (blk_cell BA.out 2).trans rfl
      have H1 := HA.out
      unfold askF at H1
      have HA1 := Aside0.mk H1
      clear HA H1
      cases any
      · by_cases g2 : 0 < cnt look al 2 l
        · have G2 : decide (0 < cnt look al 2 l) = true := decide_eq_true (by omega)
          have E := Aside0.mk (show (2 : Int) = R by have := HA1.out; simpa [g2] using this)
          clear g2
          go_wp2
          go_ret
          exact ⟨ret_int E.out, HB.out⟩
        · have G2 : decide (0 < cnt look al 2 l) = false := decide_eq_false (by omega)
          by_cases g1 : cnt look al 1 l = l.length
          · have G1 : ((cnt look al 1 l : Int) == (l.length : Int)) = true := by rw [g1]; simp
            have E := Aside0.mk (show (1 : Int) = R by have := HA1.out; simpa [g2, g1] using this)
            clear g2 g1
            go_wp2
            go_ret
            exact ⟨ret_int E.out, HB.out⟩
          · have G1 : ((cnt look al 1 l : Int) == (l.length : Int)) = false := beq_eq_false_iff_ne.mpr (by omega)
            have E := Aside0.mk (show (0 : Int) = R by have := HA1.out; simpa [g2, g1] using this)
            clear g2 g1
            go_wp2
            go_ret
            exact ⟨ret_int E.out, HB.out⟩
      · by_cases g1 : 0 < cnt look al 1 l
        · have G2 : decide (0 < cnt look al 1 l) = true := decide_eq_true (by omega)
          have E := Aside0.mk (show (1 : Int) = R by have := HA1.out; simpa [g1] using this)
          clear g1
          go_wp2
          go_ret
          exact ⟨ret_int E.out, HB.out⟩
        · have G2 : decide (0 < cnt look al 1 l) = false := decide_eq_false (by omega)
          by_cases g2 : cnt look al 2 l = l.length
          · have G1 : ((cnt look al 2 l : Int) == (l.length : Int)) = true := by rw [g2]; simp
            have E := Aside0.mk (show (2 : Int) = R by have := HA1.out; simpa [g2, g1] using this)
            clear g2 g1
            go_wp2
            go_ret
            exact ⟨ret_int E.out, HB.out⟩
          · have G1 : ((cnt look al 2 l : Int) == (l.length : Int)) = false := beq_eq_false_iff_ne.mpr (by omega)
            have E := Aside0.mk (show (0 : Int) = R by have := HA1.out; simpa [g2, g1] using this)
            clear g2 g1
            go_wp2
            go_ret
            exact ⟨ret_int E.out, HB.out⟩
end Go.Proofs.YtknbnnpggdegmaaDoor.At
