/- Step by step all indexes are started, each once, and never more at once than the limit (ArrayAll), for every array and whichever end -/
import Derived.Test.YtnfpchpnephheaaDoorZ05
import Derived.Test.YtnfpchpnephheaaDoorZ03
import Derived.Test.YtnfpchpnephheaaDoorRows
import Derived.Test.YtnfpchpnephheaaDoorCards
import Derived.Test.YtnfpchpnephheaaDoorTie
import Derived.Test.YtnfpchpnephheaaDoorZ02
import Derived.Lay
import Derived.WalkKit
import Derived.ProofKit
import Derived.OpenShut
import Derived.ShutString
import Derived.ChangeOld
import Derived.Below
import Derived.Carry
import Derived.SizedLaws
import Derived.Deep.DeepHandedRow
import Derived.Deep.DeepWitnessRowRef
import Derived.Stop.LaidErr
import Derived.Lib.LaidTab
import Derived.LaidMore
section
namespace Go.Proofs.YtnfpchpnephheaaDoor.St
open Go.RowKit Go.Proofs.YtnfpchpnephheaaDoor.Lib Go.Proofs.YtnfpchpnephheaaDoor.PA Go.Proofs.YtnfpchpnephheaaDoor.Mp Go.Proofs.YtnfpchpnephheaaDoor.Ar Go.Proofs.YtnfpchpnephheaaDoor.Txt Go.Proofs.YtnfpchpnephheaaDoorW.PrintWords Go.Proofs.YtnfpchpnephheaaDoorW.PrintLast Go.Proofs.YtnfpchpnephheaaDoorW.PrintMore
set_option linter.unusedVariables false
set_option linter.unusedSimpArgs false
theorem incr_lt : ∀ (l : List Int) (last : Int), incr last l = true → l.Pairwise (· < ·)
  | [], last, h => List.Pairwise.nil
  | x :: l, last, h => by
    have h2 : incr x l = true := by unfold incr at h; simp_all
    exact List.pairwise_cons.2 ⟨fun y hy => (incr_all l x h2 y hy).1, incr_lt l x h2⟩
theorem right_lt {xs : List Int} {lim : Int} (h : rightB xs lim = true) : xs.Pairwise (· < ·) := by
  unfold rightB at h
  simp only [Bool.and_eq_true, decide_eq_true_eq] at h
  exact incr_lt xs (-1) h.2
theorem not_taken {xs : List Int} (h : xs.Pairwise (· < ·)) (i s : Nat) (hi : i < xs.length) (hs : s ≤ i) : xs[i] ∉ xs.take s := by
  intro hm
  obtain ⟨j, hj, e⟩ := List.getElem_of_mem hm
  rw [List.length_take] at hj
  rw [List.getElem_take] at e
  have := List.pairwise_iff_getElem.1 h j i (by omega) hi (by omega)
  omega
theorem row_drop {xs : List Int} (h : xs.Pairwise (· < ·)) (s : Nat) (hs : s ≤ xs.length) : rowL (metF (xs.take s)) xs = xs.drop s := by
  have e : rowL (metF (xs.take s)) xs = xs.filter (fun n => !decide (n ∈ xs.take s)) := by unfold rowL; congr 1; funext n; exact done_met _ n
  rw [e]
  have h1 : (xs.take s).filter (fun n => !decide (n ∈ xs.take s)) = [] := by rw [List.filter_eq_nil_iff]; intro a ha; simp [ha]
  have h2 : (xs.drop s).filter (fun n => !decide (n ∈ xs.take s)) = xs.drop s := by
    rw [List.filter_eq_self]
    intro a ha
    obtain ⟨j, hj, e⟩ := List.getElem_of_mem ha
    rw [List.length_drop] at hj
    rw [List.getElem_drop] at e
    have := not_taken h (s + j) s (by omega) (by omega)
    rw [e] at this
    simp [this]
  have h3 : (xs.take s ++ xs.drop s).filter (fun n => !decide (n ∈ xs.take s)) = xs.drop s := by rw [List.filter_append, h1, h2, List.nil_append]
  rw [List.take_append_drop] at h3
  exact h3
theorem step_part {xs : List Int} {lim : Int} (hb : rightB xs lim = true) (s r : Nat) (hs : s ≤ xs.length) : ∃ l, stepL xs lim (r : Int) (metF (xs.take s)) = l ∧ (∃ m, l = (xs.drop s).take m) ∧ s + l.length ≤ xs.length ∧ (0 < lim → (r : Int) ≤ lim → (r : Int) + l.length ≤ lim) ∧ (r = 0 → s < xs.length → 1 ≤ l.length) := by
  have hd := row_drop (right_lt hb) s hs
  have hdl : (xs.drop s).length = xs.length - s := List.length_drop
  by_cases h : 0 < lim ∧ lim ≤ (r : Int)
  · refine ⟨[], by unfold stepL; rw [if_neg (fun h2 => h2.2.2 h)], ⟨0, by simp⟩, by simpa using hs, fun h1 h2 => by simp; omega, fun h1 => by omega⟩
  · refine ⟨_, rfl, ?_, ?_, ?_, ?_⟩
    all_goals (unfold stepL; rw [if_pos ⟨hb, by omega, h⟩, hd])
    · split
      · exact ⟨_, rfl⟩
      · exact ⟨(xs.drop s).length, by rw [List.take_length]⟩
    · split
      · rw [List.length_take]; omega
      · omega
    · intro h1 h2
      split
      · rw [List.length_take]; omega
      · omega
    · intro h1 h2
      split
      · rw [List.length_take]; omega
      · omega
theorem part_get {xs l : List Int} {s m : Nat} (h : l = (xs.drop s).take m) (j : Nat) (hj : j < l.length) (h2 : s + j < xs.length) : l[j] = xs[s + j] := by
  subst h
  rw [List.getElem_take, List.getElem_drop]
theorem met_none {xs : List Int} (h : xs.Pairwise (· < ·)) (i : Nat) (hi : i < xs.length) : metF (xs.take i) xs[i] = none := by
  unfold metF
  rw [if_neg (not_taken h i i hi (Nat.le_refl _))]
theorem met_next {xs : List Int} (i : Nat) (hi : i < xs.length) : (fun k' => if k' = xs[i] then some true else metF (xs.take i) k') = metF (xs.take (i + 1)) := by
  rw [metF_app, ← List.take_succ_eq_append_getElem hi]
theorem setOf_fun {W : World} {b n m : Nat} {f f' : Int → Option Bool} (h : SetOf KI VB W b n m f) (e : f = f') : SetOf KI VB W b n m f' := e ▸ h
theorem lookS {W : World} {b n m : Nat} {xs : List Int} {i : Nat} (h : SetOf KI VB W b n m (metF (xs.take i))) (hx : xs.Pairwise (· < ·)) (hi : i < xs.length) (hw : KI.ok xs[i]) :
    (Instr.lookup 41 (.map (some b)) (.int .i64 xs[i]) false).run Tryd.prog W = .ok (.bool false) W := by
  have e := h.map.run_plain (t := 41) Tryd.underlying41 (k := xs[i]) hw
  have ev : VB.val ((metF (xs.take i) xs[i]).getD VB.zero) = .bool false := by rw [met_none hx i hi]; rfl
  rw [ev] at e
  exact e
theorem cells_of {w : World} {base : Nat} {ok : Nat → Prop} {A : Option Addr} {cp : Nat} {l : List Int} (h : Kd.R (Kd.int .i64) 3 w base ok (.slice A l.length cp) l) : ∀ j (hj : j < l.length), ∃ g, A = some ⟨g, 0, none⟩ ∧ base ≤ g ∧ g < w.heap.size ∧ w.cell? ⟨g, j, none⟩ = some (.int .i64 l[j]) := by
  intro j hj
  have ho : w.ownsRow base 3 1 (.slice A l.length cp) l.length (l.map (Value.int .i64)) := Kd.own_of_R h
  obtain ⟨g, cap, e, hb, hlt, hnc, hcm, _, hH⟩ := Go.Lib.holds_of_ownsRow ho (own_ne_nilS ho (by omega))
  injection e with e1 e2 e3
  refine ⟨g, e1, hb, hlt, ?_⟩
  have h2 := (hH j (by simpa using hj)).1
  rw [Nat.zero_add] at h2
  rw [h2]
  simp [hj]
set_option maxHeartbeats 40000000 in
set_option maxRecDepth 100000 in
theorem all_calls (A : Option Addr) (c : Nat) (xs : List Int) (lim : Int) (A1 : Option Addr) (c1 : Nat) (es : List Int) (w : World) (hr : Kd.C (Kd.int .i64) w A xs.length xs) (hc : xs.length ≤ c) (hwf : ∀ y ∈ xs, (Lit.int .i64 y).wf = true) (hr1 : Kd.C (Kd.int .u8) w A1 es.length es) (hc1 : es.length ≤ c1) (hel : es.length ≤ maxLen) (hew : ∀ y ∈ es, (Lit.int .u8 y).wf = true) (hG : Glob w) :
    Calls Tryd.prog 7 #[.agg #[.slice A xs.length c, .int .i64 lim], .slice A1 es.length c1] w fun e w' => e = .returned (.bool true) ∧ Below w.heap.size w w' := by
  have hu24 := Tryd.underlying24
  have hu28 := Tryd.underlying28
  have hu41 := Tryd.underlying41
  have HG := Aside0.mk hG
  obtain ⟨K1, h1⟩ := rright_ev xs lim
  obtain ⟨b, hbb⟩ : ∃ b, rightB xs lim = b := ⟨_, rfl⟩
  have C12 := Aside0.mk (fun (u : World) (h : Kd.C (Kd.int .i64) u A xs.length xs) => marlinspikeref08_Right.calls K1 A c xs lim b u h hc (by rw [← hbb]; exact h1 K1 (Nat.le_refl _)))
  have HR := Aside0.mk hr
  have HC := Aside0.mk hc
  have HR1 := Aside0.mk hr1
  have HW := Aside0.mk hwf
  have HEL := Aside0.mk hel
  have HEW := Aside0.mk hew
  have HBB := Aside0.mk hbb
  clear hG h1 hbb hr hc hwf hr1 hc1 hel hew
  have hmm := @run_makeMap Tryd.prog
  go_enter Tryd.func7, Tryd.ntmps7
  go_wp2_with fail
  have HB0 := Aside0.mk (below_alloc (Below.refl w.heap.size w) (.cells #[.slice A xs.length c, .int .i64 lim] 24))
  have BK0 := Aside0.mk (blk_new w (.cells #[.slice A xs.length c, .int .i64 lim] 24))
  refine (C12.out _ (Kd.C_below HR.out HB0.out)).mono ?_
  rintro e w1 ⟨rfl, hb⟩
  have HB1 := Aside0.mk (below_then HB0.out HB0.out.size hb)
  have BK1 := Aside0.mk (blk_below BK0.out hb)
  clear hb HB0 BK0
  have hx0 : w1.cell? ⟨w.heap.size, 0, none⟩ = some (.slice A xs.length c) := (blk_cell BK1.out 0).trans rfl
  have hx1 : w1.cell? ⟨w.heap.size, 1, none⟩ = some (.int .i64 lim) := (blk_cell BK1.out 1).trans rfl
  cases b with
  | false =>
    go_wp2_with fail
    refine (theirs_calls A c xs lim _).mono ?_
    rintro e w2 ⟨rfl, hb⟩
    have HB2 := Aside0.mk (below_then HB1.out HB1.out.size hb)
    clear hb hx0 hx1
    go_wp2_with fail
    refine (step_no A c xs lim 0 none _ (Kd.C_below HR.out HB2.out) HC.out (fun h => by have := HBB.out; rw [h.1] at this; cases this)).mono ?_
    rintro e w3 ⟨rfl, hb⟩
    have HB3 := Aside0.mk (below_then HB2.out HB2.out.size hb)
    clear hb
    go_wp2_with fail
    refine (alive_calls _ (HG.out.below HB3.out)).mono ?_
    rintro e w4 ⟨rfl, hb⟩
    have HB4 := Aside0.mk (below_then HB3.out HB3.out.size hb)
    clear hb
    go_wp2
    go_ret
    exact ⟨rfl, HB4.out⟩
  | true =>
    obtain ⟨g1, g2, g3, g4, g5⟩ := right_all HBB.out
    have G1 := Aside0.mk g1
    have G2 := Aside0.mk g2
    have G3 := Aside0.mk g3
    have G4 := Aside0.mk g4
    have HLTX := Aside0.mk (right_lt HBB.out)
    clear g1 g2 g3 g4 g5 hx0 hx1
    go_wp2_with fail
    obtain ⟨mb, hmb⟩ : ∃ mb, w1.heap.size = mb := ⟨_, rfl⟩
    have HMB : Aside0 (w.heap.size < mb ∧ w.heap.size ≠ mb) := ⟨by have := blk_lt BK1.out; omega⟩
    have BKm := Aside0.mk (blk_alloc BK1.out (.map #[] 0))
    have HBm := Aside0.mk (below_alloc HB1.out (.map #[] 0))
    have SMm : Aside0 (SetOf KI VB (w1.alloc (.map #[] 0)) mb 0 0 (metF (xs.take 0))) := ⟨by
      have h := SetOf.made (K := KI) (V := VB) w1
      rw [hmb] at h
      exact setOf_fun h (by funext k; simp [metF])⟩
    rw [hmb]
    clear hmb
    go_loopg [6, 7] (xs.length + 1) (fun kq v6 v7 W' => ∃ (s kk : Nat) (rn : List Int), v7 = .int .i64 (kk : Int) ∧ Aside0 (kq + kk = xs.length + 1 ∧ rn.length + kk = s ∧ s ≤ xs.length ∧ (0 < lim → (rn.length : Int) ≤ lim)) ∧ Aside0 (W'.heap[w.heap.size]? = some (.cells #[.slice A xs.length c, .int .i64 lim] 24 (0, 0))) ∧ Aside0 (Below w.heap.size w W') ∧ Aside0 (SetOf KI VB W' mb s s (metF (xs.take s))) ∧ Aside0 (Kd.R (Kd.int .i64) 3 W' w.heap.size (fun _ => True) v6 rn))
    case atStart => exact ⟨0, 0, [], rfl, ⟨by have := G3.out; simp; omega⟩, BKm, HBm, SMm, ⟨Kd.R_nil _ _ _ _ _⟩⟩
    case round =>
      clear BKm HBm SMm BK1 HB1
      obtain ⟨s, kk, rn, rfl, HK, BK, HB, SM, HO⟩ := hrel
      obtain ⟨A6, c6, rfl⟩ := Kd.R_slice HO.out
      have hx0 : wr.cell? ⟨w.heap.size, 0, none⟩ = some (.slice A xs.length c) := (blk_cell BK.out 0).trans rfl
      have hx1 : wr.cell? ⟨w.heap.size, 1, none⟩ = some (.int .i64 lim) := (blk_cell BK.out 1).trans rfl
      have hlen : ∀ ty, (Builtin.len_ #[41] ty #[.map (some mb)]).run Tryd.prog wr = .ok (.int .i64 (s : Int)) wr := fun ty => SM.out.len Tryd.underlying41 ty
      by_cases hmore : s < xs.length ∨ 0 < rn.length
      · obtain ⟨k1, rfl⟩ : ∃ m, gk = m + 1 := ⟨gk - 1, by have := HK.out; omega⟩
        have HMO := Aside0.mk hmore
        have hsb : (decide (s < xs.length) = true ∧ True) ∨ (decide (s < xs.length) = false ∧ decide (0 < rn.length) = true) := by
          by_cases h : s < xs.length
          · exact .inl ⟨decide_eq_true h, trivial⟩
          · exact .inr ⟨decide_eq_false h, decide_eq_true (by omega)⟩
        clear hmore
        obtain ⟨l, hl, ⟨mm, hlm⟩, hl2, hl3, hl4⟩ := step_part HBB.out s rn.length HK.out.2.2.1
        have C16 := Aside0.mk (fun (u : World) (h : Kd.C (Kd.int .i64) u A xs.length xs) (hm : MapOf KI VB u mb s (metF (xs.take s))) => by rw [← hl]; exact step_all A c xs lim (rn.length : Int) mb s (metF (xs.take s)) u h HC.out hm : ∀ (u : World), Kd.C (Kd.int .i64) u A xs.length xs → MapOf KI VB u mb s (metF (xs.take s)) → Calls Tryd.prog 16 #[.agg #[.slice A xs.length c, .int .i64 lim], .int .i64 (rn.length : Int), .map (some mb)] u fun e w' => ∃ v, e = .returned v ∧ Kd.R (Kd.int .i64) 3 w' u.heap.size (fun _ => True) v l ∧ Below u.heap.size u w')
        have HLM := Aside0.mk hlm
        have HL2 := Aside0.mk hl2
        have HL3 := Aside0.mk hl3
        have HL4 := Aside0.mk hl4
        clear hl hlm hl2 hl3 hl4
        rcases hsb with ⟨ha, hb'⟩ | ⟨ha, hb'⟩
        all_goals (
          go_wp2_with fail
          refine (theirs_calls A c xs lim _).mono ?_
          rintro e w2 ⟨rfl, hb⟩
          have HB2 := Aside0.mk (below_then HB.out HB.out.size hb)
          have BK2 := Aside0.mk (blk_below BK.out hb)
          have SM2 := Aside0.mk (SM.out.below hb)
          have HO2 := Aside0.mk (Kd.R_below HO.out hb)
          clear hb hx0 hx1 hlen ha hb'
          go_wp2_with fail
          refine (C16.out _ (Kd.C_below HR.out HB2.out) SM2.out.map).mono ?_
          rintro e w3 ⟨v8, rfl, ho, hb⟩
          obtain ⟨A8, c8, rfl⟩ := Kd.R_slice ho
          have LC := Aside0.mk (cells_of ho)
          have HB3 := Aside0.mk (below_then HB2.out HB2.out.size hb)
          have BK3 := Aside0.mk (blk_below BK2.out hb)
          have SM3 := Aside0.mk (SM2.out.below hb)
          have N12 : Aside0 (mb < w2.heap.size ∧ w2.heap.size ≤ w3.heap.size) := ⟨SM2.out.map.lt, hb.size⟩
          have HO3 : Aside0 (Kd.R (Kd.int .i64) 3 w3 w.heap.size (fun k => k < w2.heap.size ∨ w3.heap.size ≤ k) (.slice A6 rn.length c6) rn) := ⟨Kd.R_mono (Kd.R_below (Kd.R_bound HO2.out) hb) (fun k hk => .inl hk.2.2.1)⟩
          clear hb ho SM2 HO2 HB2 BK2 SM HO HB BK
          go_wp2_with fail
          go_loopg [6, 45] (l.length + 1) (fun kq v6 v45 W' => ∃ (j : Nat) (rq : List Int), v45 = .int .i64 (j : Int) ∧ Aside0 (kq + j = l.length + 1 ∧ j ≤ l.length ∧ rq.length = rn.length + j) ∧ Aside0 (W'.heap[w.heap.size]? = some (.cells #[.slice A xs.length c, .int .i64 lim] 24 (0, 0))) ∧ Aside0 (Below w.heap.size w W') ∧ Aside0 (SetOf KI VB W' mb (s + j) (s + j) (metF (xs.take (s + j)))) ∧ Aside0 (Kd.R (Kd.int .i64) 3 W' w.heap.size (fun k => k < w2.heap.size ∨ w3.heap.size ≤ k) v6 rq) ∧ Aside0 (w3.heap.size ≤ W'.heap.size ∧ ∀ i, w2.heap.size ≤ i → i < w3.heap.size → W'.heap[i]? = w3.heap[i]?))
          case atStart => exact ⟨0, rn, rfl, ⟨by omega⟩, BK3, HB3, SM3, HO3, ⟨Nat.le_refl _, fun _ _ _ => rfl⟩⟩
          case round =>
            clear BK3 HB3 SM3 HO3
            obtain ⟨j, rq, rfl, HJ, BK, HB, SM, HO, HI⟩ := hrel
            obtain ⟨A7, c7, rfl⟩ := Kd.R_slice HO.out
            by_cases hlt : j < l.length
            · obtain ⟨k2, rfl⟩ : ∃ m, gk = m + 1 := ⟨gk - 1, by have := HJ.out; omega⟩
              have hlti : s + j < xs.length := by have := HL2.out; omega
              have hltb : decide (j < l.length) = true := decide_eq_true hlt
              obtain ⟨g, rfl, hg1, hg2, hcell⟩ := LC.out j hlt
              have hcw : wr.cell? ⟨g, j, none⟩ = some (.int .i64 l[j]) := (World.cell?_of_block (a := ⟨g, j, none⟩) (HI.out.2 g hg1 hg2)).trans hcell
              rw [part_get HLM.out j hlt hlti] at hcw
              have hok := HW.out xs[s + j] (List.getElem_mem hlti)
              have hlook := lookS SM.out HLTX.out hlti hok
              obtain ⟨w5, hput0, sm1, hgr⟩ := SM.out.update (t := 41) Tryd.underlying41 (Nat.lt_of_le_of_lt (show s + j ≤ 256 by have := G2.out; omega) (by decide)) (k := xs[s + j]) hok (x := true) trivial (met_none HLTX.out (s + j) hlti)
              have hput : (Instr.mapUpdate 41 (.map (some mb)) (.int .i64 xs[s + j]) (.bool true)).run Tryd.prog wr = .ok () w5 := hput0
              have SM5 := Aside0.mk (setOf_fun sm1 (met_next (s + j) hlti))
              have BK5 := Aside0.mk (blk_grown BK.out hgr (fun e => HMB.out.2 (Option.some.inj e)))
              have HB5 := Aside0.mk (HB.out.grown hgr HB.out.size (fun k hk => (Option.some.inj hk) ▸ Nat.le_of_lt HMB.out.1))
              have HO5 : Aside0 (Kd.R (Kd.int .i64) 3 w5 w.heap.size (fun k => k < w2.heap.size ∨ w3.heap.size ≤ k) (.slice A7 rq.length c7) rq) := ⟨Kd.R_mono (Kd.R_grown (Kd.R_mono (Kd.R_bound HO.out) (fun k hk => (show (k < w2.heap.size ∨ w3.heap.size ≤ k) ∧ k ≠ mb from ⟨hk.1, fun e => by
                obtain ⟨_, _, _, q, _, cells, hc⟩ := hk
                rw [e] at hc
                exact SM.out.map.noCells hc⟩))) hgr (fun k hk e => hk.2 (Option.some.inj e))) (fun k hk => hk.1)⟩
              have HI5 : Aside0 (w3.heap.size ≤ w5.heap.size ∧ ∀ i, w2.heap.size ≤ i → i < w3.heap.size → w5.heap[i]? = w3.heap[i]?) := ⟨Nat.le_trans HI.out.1 hgr.size, fun i h1 h2 => by rw [hgr.block i (Nat.lt_of_lt_of_le h2 HI.out.1) (fun e => by have := N12.out; injection e with e; omega)]; exact HI.out.2 i h1 h2⟩
              have HJ2 := Aside0.mk (show j < l.length ∧ s + j < xs.length from ⟨hlt, hlti⟩)
              have p0 : ((0 : Int) ≤ (j : Int)) = True := eq_true (by omega)
              have q0 : ((j : Int) < (l.length : Int)) = True := eq_true (by omega)
              have hwi : IntKind.i64.wrap ((j : Int) + 1) = ((j + 1 : Nat) : Int) := (i64_w _).trans (wrap_nat (by have := G2.out; omega))
              generalize xs[s + j] = x at hcw hlook hput
              clear hok hcell hg1 hg2 hput0 sm1 hgr hlt hlti SM BK HB HO HI
              go_wp2_with (first | ((with_reducible refine gate_builtin (b := .append) (xs := #[.tmp 54, .tmp 56]) rfl ?_); at_builtin; refine Kd.R_append (Kd.int .i64) (w0 := w) w.heap.size rfl (.tmp 54) (.tmp 56) 22 3 (.int .i64 0) 8 rfl Tryd.underlying22 info3 rfl (by decide) (by omega) (.slice A7 rq.length c7) rq x [.int .i64 x] (fun k => k < w2.heap.size ∨ w3.heap.size ≤ k) (fun _ => False) rfl rfl ?aP (fun _ hk => hk.elim) ?aF ?aO ?aB ?aS ?aL ?_; (case aP => exact rfl); (case aF => exact fun k hk => .inr (Nat.le_trans HI5.out.1 hk)); (case aO => exact HO5.out); (case aB => exact HB5.out); (case aS => exact HB5.out.size); (case aL => have := HJ.out; have := HJ2.out; have := HK.out; have := G2.out; omega); intro v9 w6 ho hb hg hat; have HB6 := Aside0.mk hb; have BK6 := Aside0.mk (blk_grown BK5.out hg (Kd.R_ne HO5.out BK5.out (by decide))); have SM6 := Aside0.mk (SM5.out.grown hg (fun e => by obtain ⟨cells, hc⟩ := Kd.R_typed HO5.out mb e.symm; exact SM5.out.map.noCells hc)); have HI6 : Aside0 (w3.heap.size ≤ w6.heap.size ∧ ∀ i, w2.heap.size ≤ i → i < w3.heap.size → w6.heap[i]? = w3.heap[i]?) := ⟨Nat.le_trans HI5.out.1 hg.size, fun i h1 h2 => by rw [hg.block i (Nat.lt_of_lt_of_le h2 HI5.out.1) (fun e => by have := HO5.out.1 i e.symm; omega)]; exact HI5.out.2 i h1 h2⟩; have HO6 := Aside0.mk ho; clear ho hb hg hat))
              go_roundg k2
              case measure => have := HJ.out; have := HJ2.out; omega
              case rel => exact ⟨j + 1, rq ++ [x], rfl, ⟨by have := HJ.out; have := HJ2.out; rw [List.length_append]; simp; omega⟩, BK6, HB6, SM6, HO6, HI6⟩
            · have hltb : decide (j < l.length) = false := decide_eq_false hlt
              obtain ⟨q, hq⟩ : ∃ q, rq.length = q := ⟨_, rfl⟩
              obtain ⟨s2, hs2⟩ : ∃ s2, s + j = s2 := ⟨_, rfl⟩
              have hq1 : 1 ≤ q := by
                have := HJ.out; have := HMO.out; have := HL4.out
                by_cases h0 : rn.length = 0
                · have := HL4.out h0 (by omega); omega
                · omega
              have hql : 0 < lim → (q : Int) ≤ lim := fun h => by have h1 := HL3.out h (HK.out.2.2.2 h); have := HJ.out; omega
              have HQ : Aside0 (rq.length = q ∧ q + kk = s2 ∧ s2 ≤ xs.length ∧ 1 ≤ q ∧ (0 < lim → (q : Int) ≤ lim)) := ⟨hq, by have := HJ.out; have := HK.out; omega, by have := HL2.out; have := HJ.out; omega, hq1, hql⟩
              have SM7 : Aside0 (SetOf KI VB wr mb s2 s2 (metF (xs.take s2))) := ⟨by have h := SM.out; rw [hs2] at h; exact h⟩
              have e1 : (q == 0) = false := beq_eq_false_iff_ne.mpr (by omega)
              have e2 : ((q : Int) == 0) = false := beq_eq_false_iff_ne.mpr (by omega)
              have e3 : (q = 0) = False := eq_false (by omega)
              have e6 : decide ((600 : Int) < (kk : Int)) = false := decide_eq_false (by have := HQ.out; have := G2.out; omega)
              have e5 : decide (600 < kk) = false := decide_eq_false (by have := HQ.out; have := G2.out; omega)
              have hx0 : wr.cell? ⟨w.heap.size, 0, none⟩ = some (.slice A xs.length c) := (blk_cell BK.out 0).trans rfl
              have hx1 : wr.cell? ⟨w.heap.size, 1, none⟩ = some (.int .i64 lim) := (blk_cell BK.out 1).trans rfl
              have hlc : (decide (0 < lim) = true ∧ decide (lim < (q : Int)) = false) ∨ (decide (0 < lim) = false ∧ True) := by
                by_cases h : 0 < lim
                · exact .inl ⟨decide_eq_true h, decide_eq_false (by have := hql h; omega)⟩
                · exact .inr ⟨decide_eq_false h, trivial⟩
              rw [hq]
              have HO7 : Aside0 (Kd.R (Kd.int .i64) 3 wr w.heap.size (fun _ => True) (.slice A7 q c7) rq) := ⟨by rw [← hq]; exact Kd.R_mono HO.out (fun _ _ => trivial)⟩
              clear hq hs2 hq1 hql hlt SM HO HI HJ C16 LC HLM HL2 HL3 HL4 HMO N12
              rcases hlc with ⟨hl1, hl2⟩ | ⟨hl1, hl2⟩
              all_goals (
                by_cases hke : kk < es.length
                · have hkb : decide (kk < es.length) = true := decide_eq_true hke
                  have p0 : (0 : Int) ≤ (kk : Int) := by omega
                  have q0 : (kk : Int) < (es.length : Int) := by omega
                  obtain ⟨ad, e0, hx⟩ := Kd.at_int HR1.out (kk : Int) p0 q0
                  cases e0
                  replace hx := (HB.out.cell (World.block_lt_of_cell? w _ hx)).trans hx
                  rw [Int.toNat_natCast] at hx
                  have hrd : 0 ≤ rd es (kk : Int) ∧ rd es (kk : Int) ≤ 255 := by
                    rw [rd_get es kk hke]
                    have h := HEW.out _ (List.getElem_mem hke)
                    simp [Lit.wf, IntKind.min, IntKind.max, IntKind.signed, IntKind.bits] at h
                    omega
                  generalize rd es (kk : Int) = ev at hx hrd
                  replace p0 := eq_true p0
                  replace q0 := eq_true q0
                  have hcv : IntKind.i64.wrap ev = ev := by rw [i64_w]; unfold wrap64; omega
                  clear hke
                  go_wp2_with fail
                  obtain ⟨ix, hix⟩ : ∃ ix, ev % (q : Int) = ix := ⟨_, rfl⟩
                  rw [hix]
                  have HIX : Aside0 (0 ≤ ix ∧ ix < (q : Int)) := ⟨by have := HQ.out; rw [← hix]; exact ⟨Int.emod_nonneg _ (by omega), Int.emod_lt_of_pos _ (by omega)⟩⟩
                  clear hix hx hrd hcv p0 q0
                  obtain ⟨i0, hi0, _, hsz0, _⟩ := info_parts info3
                  obtain ⟨i1, hi1⟩ : ∃ i1, IntKind.i64.wrap (ix + 1) = i1 := ⟨_, rfl⟩
                  have HI1 : Aside0 (i1 = ix + 1) := ⟨by rw [← hi1, i64_w]; unfold wrap64; have := HQ.out; have := HIX.out; have := G2.out; omega⟩
                  have hqc : q ≤ c7 := by have h := (Kd.R_reads' (show Kd.R (Kd.int .i64) 3 wr w.heap.size (fun _ => True) (.slice A7 rq.length c7) rq from by rw [HQ.out.1]; exact HO7.out)).2.1; have := HQ.out.1; omega
                  have hcq := (Kd.R_reads' (show Kd.R (Kd.int .i64) 3 wr w.heap.size (fun _ => True) (.slice A7 rq.length c7) rq from by rw [HQ.out.1]; exact HO7.out)).2.2
                  have cutT := cut_to (P := Tryd.prog) 22 3 .i64 Tryd.underlying22 hi0 A7 q c7 ix (by have := HIX.out; omega) (by have := HIX.out; omega) hqc
                  have cutF := cut_from (P := Tryd.prog) 22 3 .i64 Tryd.underlying22 hi0 1 hsz0 A7 q c7 i1 (by have := HIX.out; have := HI1.out; omega) (by have := HIX.out; have := HI1.out; omega)
                  obtain ⟨n1, hn1⟩ : ∃ n1, ix.toNat = n1 := ⟨_, rfl⟩
                  have hi1n : i1.toNat = n1 + 1 := by have := HI1.out; have := HIX.out; omega
                  rw [hn1] at cutT
                  rw [hi1n] at cutF
                  have HN : Aside0 (n1 < q ∧ rq.length = q ∧ q ≤ 256) := ⟨by have := HIX.out; have := HQ.out; have := G2.out; omega⟩
                  obtain ⟨AD, hAD⟩ : ∃ AD, (if c7 = n1 + 1 then A7 else Option.map (fun z => z.add ((n1 + 1) * 1)) A7) = AD := ⟨_, rfl⟩
                  obtain ⟨m2, hm2⟩ : ∃ m2, q - (n1 + 1) = m2 := ⟨_, rfl⟩
                  obtain ⟨cc2, hcc2⟩ : ∃ cc2, c7 - (n1 + 1) = cc2 := ⟨_, rfl⟩
                  rw [hAD, hm2, hcc2] at cutF
                  have hlt_ : (rq.take n1).length = n1 := by rw [List.length_take]; have := HN.out; omega
                  have hld_ : (rq.drop (n1 + 1)).length = m2 := by rw [List.length_drop]; have := HN.out; omega
                  have CT : Aside0 (Kd.C (Kd.int .i64) wr A7 n1 (rq.take n1)) := ⟨by have h := Kd.C_take (m := n1) hcq (by have := HN.out; omega); rw [hlt_] at h; exact h⟩
                  have CD : Aside0 (Kd.C (Kd.int .i64) wr AD m2 (rq.drop (n1 + 1))) := ⟨by have h := Kd.C_drop (m := n1 + 1) (c := c7) hcq (by have := HN.out; omega) (by have := HN.out; omega); rw [hld_, show (Kd.int .i64).sz = 1 from rfl, hAD] at h; exact h⟩
                  have HLT := Aside0.mk hlt_
                  have HLM : Aside0 (n1 + 1 + m2 = q ∧ (rq.drop (n1 + 1)).length = m2) := ⟨by have := HN.out; omega, hld_⟩
                  clear hAD hm2 hcc2 hlt_ hld_ hqc hcq hn1 hi1n hi0 hsz0 hx0 hx1
                  refine start_ (n := 10) (S := fun _ => True) (ds := []) #[false, false, false, false, false, false, false, false, false, false] (by kernel_rfl) rfl rfl trivial (fun hHeld => ?_)
                  have HBd := Aside0.mk (below_drew HB.out)
                  have BKd := Aside0.mk (blk_drew BK.out)
                  have SMd := Aside0.mk (SetOf.below SM7.out (below_drew (Below.refl _ _)))
                  replace CT := Aside0.mk (Kd.C_below CT.out (below_drew (Below.refl _ _)))
                  replace CD := Aside0.mk (Kd.C_below CD.out (below_drew (Below.refl _ _)))
                  generalize wr.drew = wd at HBd BKd SMd CT CD hHeld ⊢
                  refine pure_ (i := 0) (N := some 90) (v := ?_) (a' := ?_) #[true, false, false, false, false, false, false, false, false, false] rfl rfl (by kernel_rfl) (fun _ _ _ h => h) (Or.inl ⟨by rfl, ?_⟩) ?_ ?_
                  rotate_left
                  · intro w'
                    go_simp
                    with_reducible rfl
                  rotate_left
                  · simp only [Act.put, List.setIfInBounds_toArray, List.set_cons_zero, List.set_cons_succ, i64_w, i32_w]
                    rfl
                  refine pure_ (i := 1) (N := some 91) (v := ?_) (a' := ?_) #[true, true, false, false, false, false, false, false, false, false] rfl rfl (by kernel_rfl) (fun _ _ _ h => h) (Or.inl ⟨by rfl, ?_⟩) ?_ ?_
                  rotate_left
                  · intro w'
                    go_simp
                    with_reducible rfl
                  rotate_left
                  · simp only [Act.put, List.setIfInBounds_toArray, List.set_cons_zero, List.set_cons_succ, i64_w, i32_w]
                    rfl
                  refine pure_ (i := 2) (N := some 92) (v := ?_) (a' := ?_) #[true, true, true, false, false, false, false, false, false, false] rfl rfl (by kernel_rfl) (fun _ _ _ h => h) (Or.inl ⟨by rfl, ?_⟩) ?_ ?_
                  rotate_left
                  · intro w'
                    go_simp
                    with_reducible rfl
                  rotate_left
                  · simp only [Act.put, List.setIfInBounds_toArray, List.set_cons_zero, List.set_cons_succ, i64_w, i32_w]
                    rfl
                  refine pure_ (i := 4) (N := some 94) (v := ?_) (a' := ?_) #[true, true, true, false, true, false, false, false, false, false] rfl rfl (by kernel_rfl) (fun _ _ _ h => h) (Or.inl ⟨by rfl, ?_⟩) ?_ ?_
                  rotate_left
                  · intro w'
                    go_simp
                    with_reducible rfl
                  rotate_left
                  · simp only [Act.put, List.setIfInBounds_toArray, List.set_cons_zero, List.set_cons_succ, i64_w, i32_w]
                    rfl
                  refine pure_ (i := 5) (N := some 95) (v := ?_) (a' := ?_) #[true, true, true, false, true, true, false, false, false, false] rfl rfl (by kernel_rfl) (fun _ _ _ h => h) (Or.inl ⟨by rfl, ?_⟩) ?_ ?_
                  rotate_left
                  · intro w'
                    go_simp
                    with_reducible rfl
                  rotate_left
                  · simp only [Act.put, List.setIfInBounds_toArray, List.set_cons_zero, List.set_cons_succ, i64_w, i32_w]
                    rfl
                  refine pure_ (i := 6) (N := some 96) (v := ?_) (a' := ?_) #[true, true, true, false, true, true, true, false, false, false] rfl rfl (by kernel_rfl) (fun _ _ _ h => h) (Or.inl ⟨by rfl, ?_⟩) ?_ ?_
                  rotate_left
                  · intro w'
                    go_simp
                    with_reducible rfl
                  rotate_left
                  · simp only [Act.put, List.setIfInBounds_toArray, List.set_cons_zero, List.set_cons_succ, i64_w, i32_w]
                    rfl
                  refine pure_ (i := 7) (N := some 97) (v := ?_) (a' := ?_) #[true, true, true, false, true, true, true, true, false, false] rfl rfl (by kernel_rfl) (fun _ _ _ h => h) (Or.inl ⟨by rfl, ?_⟩) ?_ ?_
                  rotate_left
                  · intro w'
                    go_simp
                    with_reducible rfl
                  rotate_left
                  · simp only [Act.put, List.setIfInBounds_toArray, List.set_cons_zero, List.set_cons_succ, i64_w, i32_w]
                    rfl
                  refine one_ (i := 3) (N := some 93) #[true, true, true, true, true, true, true, true, false, false] rfl rfl (by kernel_rfl) (by decide) (fun K hK => ?_)
                  refine Kd.R_append_rows_step (Kd.int .i64) (Rr := fun z cs => cs = [.int .i64 z]) (w0 := w) w.heap.size (by rfl) (.const (.slice none 0 0)) (.tmp 92) 22 3 (.int .i64 0) 8 rfl Tryd.underlying22 info3 rfl (by decide) (by decide) (.slice none 0 0) [] (rq.take n1) A7 n1 c7 (fun _ => True) (fun _ => False) (by rfl) (by rfl) (Kd.R_nil _ _ _ _ _) CT.out (fun _ _ h => h) (fun _ h => h.elim) (fun _ _ => trivial) HBd.out (HBd.out).size (by have := HN.out; have := HLT.out; have := HLM.out; simp only [List.length_append, List.length_nil]; omega) ?_
                  intro v1 w5 ho hb hg hat
                  refine hK.out _ _ trivial (fun _ => ?_)
                  clear hK K
                  refine norm_ (a' := ?_) ?_ ?_
                  rotate_left
                  · show Act.put _ (some 93) _ = _
                    simp only [Act.put, List.setIfInBounds_toArray, List.set_cons_zero, List.set_cons_succ, i64_w, i32_w]
                    rfl
                  have hs1 : Below wd.heap.size wd w5 := (Below.refl wd.heap.size wd).grown hg (Nat.le_refl _) (fun k hk => by cases hk)
                  have ha1 : ∀ k, v1.ownBlock = some k → wd.heap.size ≤ k := fun k hk => by
                    rcases hat with h | ⟨b, h, hl⟩
                    · rw [hk] at h; cases h
                    · rw [hk] at h; injection h with h; omega
                  refine one_ (i := 8) (N := some 98) #[true, true, true, true, true, true, true, true, true, false] rfl rfl (by kernel_rfl) (by decide) (fun K hK => ?_)
                  refine Kd.R_append_rows_step (Kd.int .i64) (Rr := fun z cs => cs = [.int .i64 z]) (w0 := w) w.heap.size (by rfl) (.tmp 93) (.tmp 97) 22 3 (.int .i64 0) 8 rfl Tryd.underlying22 info3 rfl (by decide) (by decide) v1 ([] ++ rq.take n1) (rq.drop (n1 + 1)) AD m2 cc2 (fun _ => True) (fun _ => False) (by rfl) (by rfl) ho (Kd.C_below CD.out hs1) (fun _ _ h => h) (fun _ h => h.elim) (fun _ _ => trivial) hb (hb).size (by have := HN.out; have := HLT.out; have := HLM.out; simp only [List.length_append, List.length_nil]; omega) ?_
                  intro v2 w6 ho2 hb2 hg2 hat2
                  refine hK.out _ _ trivial (fun _ => ?_)
                  clear hK K
                  refine norm_ (a' := ?_) ?_ ?_
                  rotate_left
                  · show Act.put _ (some 98) _ = _
                    simp only [Act.put, List.setIfInBounds_toArray, List.set_cons_zero, List.set_cons_succ, i64_w, i32_w]
                    rfl
                  have hs2 : Below wd.heap.size wd w6 := hs1.grown hg2 hs1.size (fun k hk => ha1 k hk)
                  refine pure_ (i := 9) (N := some 6) (v := ?_) (a' := ?_) #[true, true, true, true, true, true, true, true, true, true] rfl rfl (by kernel_rfl) (fun _ _ _ h => h) (Or.inl ⟨by rfl, ?_⟩) ?_ ?_
                  rotate_left
                  · intro w'
                    go_simp
                    with_reducible rfl
                  rotate_left
                  · simp only [Act.put, List.setIfInBounds_toArray, List.set_cons_zero, List.set_cons_succ, i64_w, i32_w]
                    rfl
                  refine done_ (by kernel_rfl) ?_
                  have HBz := Aside0.mk hb2
                  have BKz := Aside0.mk (blk_below BKd.out hs2)
                  have SMz := Aside0.mk (SetOf.below SMd.out hs2)
                  have HOz := Aside0.mk ho2
                  have HZ : Aside0 ((([] ++ rq.take n1) ++ rq.drop (n1 + 1)).length + 1 = q) := ⟨by have := HLT.out; have := HLM.out; simp only [List.length_append, List.length_nil]; omega⟩
                  have hwk : IntKind.i64.wrap ((kk : Int) + 1) = ((kk + 1 : Nat) : Int) := (i64_w _).trans (wrap_nat (by have := HQ.out; have := G2.out; omega))
                  clear ho ho2 hb hb2 hg hg2 hat hat2 hs1 hs2 ha1 cutT cutF CT CD HBd BKd SMd HB BK SM7 HO7 HLT HLM HN hi1
                  go_wp2
                  go_roundg k1
                  case measure => have := HK.out; have := HQ.out; omega
                  case rel => exact ⟨s2, kk + 1, _, rfl, ⟨by have := HK.out; have := HQ.out; have := HZ.out; omega⟩, BKz, HBz, SMz, HOz⟩
                · have hkb : decide (kk < es.length) = false := decide_eq_false hke
                  go_wp2_with fail
                  obtain ⟨ix, hix⟩ : ∃ ix : Int, ix = 0 := ⟨_, rfl⟩
                  rw [← hix]
                  have HIX : Aside0 (0 ≤ ix ∧ ix < (q : Int)) := ⟨by have := HQ.out; omega⟩
                  clear hix hke
                  obtain ⟨i0, hi0, _, hsz0, _⟩ := info_parts info3
                  obtain ⟨i1, hi1⟩ : ∃ i1, IntKind.i64.wrap (ix + 1) = i1 := ⟨_, rfl⟩
                  have HI1 : Aside0 (i1 = ix + 1) := ⟨by rw [← hi1, i64_w]; unfold wrap64; have := HQ.out; have := HIX.out; have := G2.out; omega⟩
                  have hqc : q ≤ c7 := by have h := (Kd.R_reads' (show Kd.R (Kd.int .i64) 3 wr w.heap.size (fun _ => True) (.slice A7 rq.length c7) rq from by rw [HQ.out.1]; exact HO7.out)).2.1; have := HQ.out.1; omega
                  have hcq := (Kd.R_reads' (show Kd.R (Kd.int .i64) 3 wr w.heap.size (fun _ => True) (.slice A7 rq.length c7) rq from by rw [HQ.out.1]; exact HO7.out)).2.2
                  have cutT := cut_to (P := Tryd.prog) 22 3 .i64 Tryd.underlying22 hi0 A7 q c7 ix (by have := HIX.out; omega) (by have := HIX.out; omega) hqc
                  have cutF := cut_from (P := Tryd.prog) 22 3 .i64 Tryd.underlying22 hi0 1 hsz0 A7 q c7 i1 (by have := HIX.out; have := HI1.out; omega) (by have := HIX.out; have := HI1.out; omega)
                  obtain ⟨n1, hn1⟩ : ∃ n1, ix.toNat = n1 := ⟨_, rfl⟩
                  have hi1n : i1.toNat = n1 + 1 := by have := HI1.out; have := HIX.out; omega
                  rw [hn1] at cutT
                  rw [hi1n] at cutF
                  have HN : Aside0 (n1 < q ∧ rq.length = q ∧ q ≤ 256) := ⟨by have := HIX.out; have := HQ.out; have := G2.out; omega⟩
                  obtain ⟨AD, hAD⟩ : ∃ AD, (if c7 = n1 + 1 then A7 else Option.map (fun z => z.add ((n1 + 1) * 1)) A7) = AD := ⟨_, rfl⟩
                  obtain ⟨m2, hm2⟩ : ∃ m2, q - (n1 + 1) = m2 := ⟨_, rfl⟩
                  obtain ⟨cc2, hcc2⟩ : ∃ cc2, c7 - (n1 + 1) = cc2 := ⟨_, rfl⟩
                  rw [hAD, hm2, hcc2] at cutF
                  have hlt_ : (rq.take n1).length = n1 := by rw [List.length_take]; have := HN.out; omega
                  have hld_ : (rq.drop (n1 + 1)).length = m2 := by rw [List.length_drop]; have := HN.out; omega
                  have CT : Aside0 (Kd.C (Kd.int .i64) wr A7 n1 (rq.take n1)) := ⟨by have h := Kd.C_take (m := n1) hcq (by have := HN.out; omega); rw [hlt_] at h; exact h⟩
                  have CD : Aside0 (Kd.C (Kd.int .i64) wr AD m2 (rq.drop (n1 + 1))) := ⟨by have h := Kd.C_drop (m := n1 + 1) (c := c7) hcq (by have := HN.out; omega) (by have := HN.out; omega); rw [hld_, show (Kd.int .i64).sz = 1 from rfl, hAD] at h; exact h⟩
                  have HLT := Aside0.mk hlt_
                  have HLM : Aside0 (n1 + 1 + m2 = q ∧ (rq.drop (n1 + 1)).length = m2) := ⟨by have := HN.out; omega, hld_⟩
                  clear hAD hm2 hcc2 hlt_ hld_ hqc hcq hn1 hi1n hi0 hsz0 hx0 hx1
                  refine start_ (n := 10) (S := fun _ => True) (ds := []) #[false, false, false, false, false, false, false, false, false, false] (by kernel_rfl) rfl rfl trivial (fun hHeld => ?_)
                  have HBd := Aside0.mk (below_drew HB.out)
                  have BKd := Aside0.mk (blk_drew BK.out)
                  have SMd := Aside0.mk (SetOf.below SM7.out (below_drew (Below.refl _ _)))
                  replace CT := Aside0.mk (Kd.C_below CT.out (below_drew (Below.refl _ _)))
                  replace CD := Aside0.mk (Kd.C_below CD.out (below_drew (Below.refl _ _)))
                  generalize wr.drew = wd at HBd BKd SMd CT CD hHeld ⊢
                  refine pure_ (i := 0) (N := some 90) (v := ?_) (a' := ?_) #[true, false, false, false, false, false, false, false, false, false] rfl rfl (by kernel_rfl) (fun _ _ _ h => h) (Or.inl ⟨by rfl, ?_⟩) ?_ ?_
                  rotate_left
                  · intro w'
                    go_simp
                    with_reducible rfl
                  rotate_left
                  · simp only [Act.put, List.setIfInBounds_toArray, List.set_cons_zero, List.set_cons_succ, i64_w, i32_w]
                    rfl
                  refine pure_ (i := 1) (N := some 91) (v := ?_) (a' := ?_) #[true, true, false, false, false, false, false, false, false, false] rfl rfl (by kernel_rfl) (fun _ _ _ h => h) (Or.inl ⟨by rfl, ?_⟩) ?_ ?_
                  rotate_left
                  · intro w'
                    go_simp
                    with_reducible rfl
                  rotate_left
                  · simp only [Act.put, List.setIfInBounds_toArray, List.set_cons_zero, List.set_cons_succ, i64_w, i32_w]
                    rfl
                  refine pure_ (i := 2) (N := some 92) (v := ?_) (a' := ?_) #[true, true, true, false, false, false, false, false, false, false] rfl rfl (by kernel_rfl) (fun _ _ _ h => h) (Or.inl ⟨by rfl, ?_⟩) ?_ ?_
                  rotate_left
                  · intro w'
                    go_simp
                    with_reducible rfl
                  rotate_left
                  · simp only [Act.put, List.setIfInBounds_toArray, List.set_cons_zero, List.set_cons_succ, i64_w, i32_w]
                    rfl
                  refine pure_ (i := 4) (N := some 94) (v := ?_) (a' := ?_) #[true, true, true, false, true, false, false, false, false, false] rfl rfl (by kernel_rfl) (fun _ _ _ h => h) (Or.inl ⟨by rfl, ?_⟩) ?_ ?_
                  rotate_left
                  · intro w'
                    go_simp
                    with_reducible rfl
                  rotate_left
                  · simp only [Act.put, List.setIfInBounds_toArray, List.set_cons_zero, List.set_cons_succ, i64_w, i32_w]
                    rfl
                  refine pure_ (i := 5) (N := some 95) (v := ?_) (a' := ?_) #[true, true, true, false, true, true, false, false, false, false] rfl rfl (by kernel_rfl) (fun _ _ _ h => h) (Or.inl ⟨by rfl, ?_⟩) ?_ ?_
                  rotate_left
                  · intro w'
                    go_simp
                    with_reducible rfl
                  rotate_left
                  · simp only [Act.put, List.setIfInBounds_toArray, List.set_cons_zero, List.set_cons_succ, i64_w, i32_w]
                    rfl
                  refine pure_ (i := 6) (N := some 96) (v := ?_) (a' := ?_) #[true, true, true, false, true, true, true, false, false, false] rfl rfl (by kernel_rfl) (fun _ _ _ h => h) (Or.inl ⟨by rfl, ?_⟩) ?_ ?_
                  rotate_left
                  · intro w'
                    go_simp
                    with_reducible rfl
                  rotate_left
                  · simp only [Act.put, List.setIfInBounds_toArray, List.set_cons_zero, List.set_cons_succ, i64_w, i32_w]
                    rfl
                  refine pure_ (i := 7) (N := some 97) (v := ?_) (a' := ?_) #[true, true, true, false, true, true, true, true, false, false] rfl rfl (by kernel_rfl) (fun _ _ _ h => h) (Or.inl ⟨by rfl, ?_⟩) ?_ ?_
                  rotate_left
                  · intro w'
                    go_simp
                    with_reducible rfl
                  rotate_left
                  · simp only [Act.put, List.setIfInBounds_toArray, List.set_cons_zero, List.set_cons_succ, i64_w, i32_w]
                    rfl
                  refine one_ (i := 3) (N := some 93) #[true, true, true, true, true, true, true, true, false, false] rfl rfl (by kernel_rfl) (by decide) (fun K hK => ?_)
                  refine Kd.R_append_rows_step (Kd.int .i64) (Rr := fun z cs => cs = [.int .i64 z]) (w0 := w) w.heap.size (by rfl) (.const (.slice none 0 0)) (.tmp 92) 22 3 (.int .i64 0) 8 rfl Tryd.underlying22 info3 rfl (by decide) (by decide) (.slice none 0 0) [] (rq.take n1) A7 n1 c7 (fun _ => True) (fun _ => False) (by rfl) (by rfl) (Kd.R_nil _ _ _ _ _) CT.out (fun _ _ h => h) (fun _ h => h.elim) (fun _ _ => trivial) HBd.out (HBd.out).size (by have := HN.out; have := HLT.out; have := HLM.out; simp only [List.length_append, List.length_nil]; omega) ?_
                  intro v1 w5 ho hb hg hat
                  refine hK.out _ _ trivial (fun _ => ?_)
                  clear hK K
                  refine norm_ (a' := ?_) ?_ ?_
                  rotate_left
                  · show Act.put _ (some 93) _ = _
                    simp only [Act.put, List.setIfInBounds_toArray, List.set_cons_zero, List.set_cons_succ, i64_w, i32_w]
                    rfl
                  have hs1 : Below wd.heap.size wd w5 := (Below.refl wd.heap.size wd).grown hg (Nat.le_refl _) (fun k hk => by cases hk)
                  have ha1 : ∀ k, v1.ownBlock = some k → wd.heap.size ≤ k := fun k hk => by
                    rcases hat with h | ⟨b, h, hl⟩
                    · rw [hk] at h; cases h
                    · rw [hk] at h; injection h with h; omega
                  refine one_ (i := 8) (N := some 98) #[true, true, true, true, true, true, true, true, true, false] rfl rfl (by kernel_rfl) (by decide) (fun K hK => ?_)
                  refine Kd.R_append_rows_step (Kd.int .i64) (Rr := fun z cs => cs = [.int .i64 z]) (w0 := w) w.heap.size (by rfl) (.tmp 93) (.tmp 97) 22 3 (.int .i64 0) 8 rfl Tryd.underlying22 info3 rfl (by decide) (by decide) v1 ([] ++ rq.take n1) (rq.drop (n1 + 1)) AD m2 cc2 (fun _ => True) (fun _ => False) (by rfl) (by rfl) ho (Kd.C_below CD.out hs1) (fun _ _ h => h) (fun _ h => h.elim) (fun _ _ => trivial) hb (hb).size (by have := HN.out; have := HLT.out; have := HLM.out; simp only [List.length_append, List.length_nil]; omega) ?_
                  intro v2 w6 ho2 hb2 hg2 hat2
                  refine hK.out _ _ trivial (fun _ => ?_)
                  clear hK K
                  refine norm_ (a' := ?_) ?_ ?_
                  rotate_left
                  · show Act.put _ (some 98) _ = _
                    simp only [Act.put, List.setIfInBounds_toArray, List.set_cons_zero, List.set_cons_succ, i64_w, i32_w]
                    rfl
                  have hs2 : Below wd.heap.size wd w6 := hs1.grown hg2 hs1.size (fun k hk => ha1 k hk)
                  refine pure_ (i := 9) (N := some 6) (v := ?_) (a' := ?_) #[true, true, true, true, true, true, true, true, true, true] rfl rfl (by kernel_rfl) (fun _ _ _ h => h) (Or.inl ⟨by rfl, ?_⟩) ?_ ?_
                  rotate_left
                  · intro w'
                    go_simp
                    with_reducible rfl
                  rotate_left
                  · simp only [Act.put, List.setIfInBounds_toArray, List.set_cons_zero, List.set_cons_succ, i64_w, i32_w]
                    rfl
                  refine done_ (by kernel_rfl) ?_
                  have HBz := Aside0.mk hb2
                  have BKz := Aside0.mk (blk_below BKd.out hs2)
                  have SMz := Aside0.mk (SetOf.below SMd.out hs2)
                  have HOz := Aside0.mk ho2
                  have HZ : Aside0 ((([] ++ rq.take n1) ++ rq.drop (n1 + 1)).length + 1 = q) := ⟨by have := HLT.out; have := HLM.out; simp only [List.length_append, List.length_nil]; omega⟩
                  have hwk : IntKind.i64.wrap ((kk : Int) + 1) = ((kk + 1 : Nat) : Int) := (i64_w _).trans (wrap_nat (by have := HQ.out; have := G2.out; omega))
                  clear ho ho2 hb hb2 hg hg2 hat hat2 hs1 hs2 ha1 cutT cutF CT CD HBd BKd SMd HB BK SM7 HO7 HLT HLM HN hi1
                  go_wp2
                  go_roundg k1
                  case measure => have := HK.out; have := HQ.out; omega
                  case rel => exact ⟨s2, kk + 1, _, rfl, ⟨by have := HK.out; have := HQ.out; have := HZ.out; omega⟩, BKz, HBz, SMz, HOz⟩)
          )
      · have hs : s = xs.length := by have := HK.out; omega
        have hr0 : rn.length = 0 := by omega
        have ha : decide (s < xs.length) = false := decide_eq_false (by omega)
        have hb' : decide (0 < rn.length) = false := decide_eq_false (by omega)
        clear hmore
        have hse : ((s : Int) == (xs.length : Int)) = true := beq_iff_eq.mpr (by omega)
        have hse2 : (s == xs.length) = true := beq_iff_eq.mpr hs
        have hse3 : (s = xs.length) = True := eq_true hs
        clear hs hr0
        go_wp2_with fail
        refine (alive_calls _ (HG.out.below HB.out)).mono ?_
        rintro e w9 ⟨rfl, hb⟩
        have HB9 := Aside0.mk (below_then HB.out HB.out.size hb)
        clear hb
        go_wp2
        go_ret
        exact ⟨rfl, HB9.out⟩
end Go.Proofs.YtnfpchpnephheaaDoor.St
end
section
namespace Go.Proofs.YtnfpchpnephheaaDoor.Ar
open Go.RowKit Go.Proofs.YtnfpchpnephheaaDoorW.PrintWords Go.Proofs.YtnfpchpnephheaaDoor.Op
theorem arr_opens : Opens Tryd.prog 24 (Kd.pair (Kd.slice 3 (Kd.int .i64)) (Kd.int .i64)).K (fun x => (x.1.length ≤ maxLen ∧ ∀ y ∈ x.1, (Lit.int .i64 y).wf = true) ∧ (Lit.int .i64 x.2).wf = true) :=
  opens_struct (sz := 2) Tryd.underlying24 (by kernel_rfl)
    (opensF_cons (off := 0) (a := Kd.slice 3 (Kd.int .i64)) (b := Kd.int .i64) (Ga := fun l => l.length ≤ maxLen ∧ ∀ y ∈ l, (Lit.int .i64 y).wf = true) (Gb := fun y => (Lit.int .i64 y).wf = true) 22 rfl rfl (by kernel_rfl) (opens_slice 3 Tryd.underlying22 (by kernel_rfl) (opens_int Tryd.underlying3))
      (opensF_one 3 rfl rfl (by kernel_rfl) (opens_int Tryd.underlying3)))
end Go.Proofs.YtnfpchpnephheaaDoor.Ar
end
section
namespace Go.Proofs.YtnfpchpnephheaaDoor.Ar
open Go.RowKit Go.Proofs.YtnfpchpnephheaaDoorW.PrintWords Go.Proofs.YtnfpchpnephheaaDoor.Op
theorem bytes_opens : Opens Tryd.prog 45 (Kd.slice 5 (Kd.int .u8)).K (fun l => l.length ≤ maxLen ∧ ∀ y ∈ l, (Lit.int .u8 y).wf = true) := opens_slice 5 Tryd.underlying45 (by kernel_rfl) (opens_int Tryd.underlying5)
end Go.Proofs.YtnfpchpnephheaaDoor.Ar
end
section
namespace Go.Proofs.YtnfpchpnephheaaDoor.arrayAll
open Go.ChangeShapes Go.WideShapes Go.ChangeAt Go.RowKit
open Go.ChangeMaps (open_string shut_string)
open Go.Proofs.YtnfpchpnephheaaDoorW.PrintWords 
set_option linter.unusedVariables false
set_option maxRecDepth 100000
theorem own : ownKnob Tryd.prog.godebug = none := by kernel_rfl
theorem laidOut : laidOutB Tryd.prog = true := by kernel_rfl
theorem laid_met (os : Os) : laidMet Tryd.prog Rows.arrayAllRow.laid ((World.laidAll Tryd.prog os Rows.arrayAllRow.laid).forCall (fun _ _ => 0) ⟨#[], #[.agg #[.slice none 0 0, .int .i64 0], .slice none 0 0], []⟩).memory :=
  laidMet_laidAll _ (by kernel_rfl) (by kernel_rfl)
theorem witness_row (os : Os) {H : Type} (enc : TypeId × Value → H) :
    (OpenSpec.ofChange Rows.arrayAllSpec).preRow enc Tryd.prog Tryd.f7 Rows.arrayAllRow.domain false Rows.arrayAllRow.laid ((World.laidAll Tryd.prog os Rows.arrayAllRow.laid).forCall (fun _ _ => 0) ⟨#[], #[.agg #[.slice none 0 0, .int .i64 0], .slice none 0 0], []⟩).memory #[.agg #[.slice none 0 0, .int .i64 0], .slice none 0 0] := by
  have hw : (DataW.whole enc Tryd.prog ((World.laidAll Tryd.prog os Rows.arrayAllRow.laid).forCall (fun _ _ => 0) ⟨#[], #[.agg #[.slice none 0 0, .int .i64 0], .slice none 0 0], []⟩).memory Tryd.f7.params.toList (OpenSpec.ofChange Rows.arrayAllSpec).vars false #[.agg #[.slice none 0 0, .int .i64 0], .slice none 0 0].toList 8).map (fun x => (x.1, x.2.1)) =
      some ([.agg [.nil, .lit (.int .i64 0)], .nil], []) := by kernel_rfl
  obtain ⟨⟨x1, x2, x3⟩, hx, hx1⟩ := Option.map_eq_some_iff.1 hw
  simp only [Prod.mk.injEq] at hx1
  obtain ⟨rfl, rfl⟩ := hx1
  exact OpenSpec.preRow_of_cond 8 hx (by kernel_rfl) (fun k hk => by cases hk) (by kernel_rfl) (laid_met os)
theorem star : "*" ++ "errors.errorString" = "*errors.errorString" := by decide
theorem row_err (u : TypeId) (h : Tryd.prog.typeName? 3 u = some "*errors.errorString") : u = 143 :=
  typeName_ptr_named (nm := "errors.errorString") (by rw [star]; kernel_rfl) (by kernel_rfl) (by decide) u (by rw [star]; exact h)
theorem glob {W : World} (h : laidMetH Tryd.prog Rows.arrayAllRow.laid W) : Lib.Glob W := by
  rw [MakeChecks.laidMetH_plain _ _ _ (by kernel_rfl)] at h
  have h0 : laidMet Tryd.prog Rows.arrayAllRow.laid W := h
  have h1 : laidMet Tryd.prog [("math/bits.deBruijn64tab", Rows.laid_math_bits_deBruijn64tab), ("internal/strconv.uint64pow10", Rows.laid_internal_strconv_uint64pow10), ("unicode/utf8.acceptRanges", Rows.laid_unicode_utf8_acceptRanges), ("strconv.ErrRange", Rows.laid_strconv_ErrRange), ("strconv.ErrSyntax", Rows.laid_strconv_ErrSyntax), ("unicode/utf8.first", Rows.laid_unicode_utf8_first)] W := laidMet.tail h0
  have h2 : laidMet Tryd.prog [("internal/strconv.uint64pow10", Rows.laid_internal_strconv_uint64pow10), ("unicode/utf8.acceptRanges", Rows.laid_unicode_utf8_acceptRanges), ("strconv.ErrRange", Rows.laid_strconv_ErrRange), ("strconv.ErrSyntax", Rows.laid_strconv_ErrSyntax), ("unicode/utf8.first", Rows.laid_unicode_utf8_first)] W := laidMet.tail h1
  have h3 : laidMet Tryd.prog [("unicode/utf8.acceptRanges", Rows.laid_unicode_utf8_acceptRanges), ("strconv.ErrRange", Rows.laid_strconv_ErrRange), ("strconv.ErrSyntax", Rows.laid_strconv_ErrSyntax), ("unicode/utf8.first", Rows.laid_unicode_utf8_first)] W := laidMet.tail h2
  have h4 : laidMet Tryd.prog [("strconv.ErrRange", Rows.laid_strconv_ErrRange), ("strconv.ErrSyntax", Rows.laid_strconv_ErrSyntax), ("unicode/utf8.first", Rows.laid_unicode_utf8_first)] W := laidMet.tail h3
  have h5 : laidMet Tryd.prog [("strconv.ErrSyntax", Rows.laid_strconv_ErrSyntax), ("unicode/utf8.first", Rows.laid_unicode_utf8_first)] W := laidMet.tail h4
  have h6 : laidMet Tryd.prog [("unicode/utf8.first", Rows.laid_unicode_utf8_first)] W := laidMet.tail h5
  have h7 : laidMet Tryd.prog [] W := laidMet.tail h6
  obtain ⟨a1, s1, v1, _⟩ := laid_sentinel (g := 2) h5 (by kernel_rfl) (by kernel_rfl) Tryd.underlying68 row_err Tryd.underlying143 Tryd.underlying145 rfl rfl Tryd.underlying9 (by kernel_rfl) (by kernel_rfl)
  obtain ⟨a2, s2, v2, _⟩ := laid_sentinel (g := 3) h4 (by kernel_rfl) (by kernel_rfl) Tryd.underlying68 row_err Tryd.underlying143 Tryd.underlying145 rfl rfl Tryd.underlying9 (by kernel_rfl) (by kernel_rfl)
  refine ⟨Go.Lib.tabIs_of_head Lib.g_tab (by kernel_rfl) Tryd.underlying124 Tryd.underlying100 (by kernel_rfl) (by kernel_rfl) h2, ⟨_, _, v1⟩, ⟨_, _, v2⟩⟩
set_option maxHeartbeats 4000000 in
theorem lifted (os : Os) (started : os.Started) (H : Type) (enc : TypeId × Value → H) (F : Stop.Interp) :
    ReturnsInHanded {} Tryd.checked os 7 .any ((OpenSpec.ofChange Rows.arrayAllSpec).preRow enc Tryd.prog Tryd.f7 Rows.arrayAllRow.domain false Rows.arrayAllRow.laid) (((OpenSpec.ofChange Rows.arrayAllSpec).at F).post enc Tryd.prog Tryd.f7 false true false false) := by
  refine returnsInHanded_of_row (C := Tryd.checked) (s := (OpenSpec.ofChange Rows.arrayAllSpec)) own started (by kernel_rfl) Tryd.func7
    (witness_row_atRef (enc := enc) (C := Tryd.checked) false (World.laidAll Tryd.prog os Rows.arrayAllRow.laid) #[.agg #[.slice none 0 0, .int .i64 0], .slice none 0 0] (World.laidAll_os _ _ _) (by kernel_rfl) (by kernel_rfl) (by kernel_rfl) (witness_row os enc)) ?_
  intro W base args ds gs before hval0 hW _ _ hsz0 hL _ _
  have hsz : (DataW.weightsEach Tryd.prog (Tryd.f7.params.toList ++ (OpenSpec.ofChange Rows.arrayAllSpec).bare.plain.varTypes Tryd.prog) (ds ++ gs)).all (· ≤ reachBytes) = true := hsz0
  have hval : ∀ (j : Nat) t v, Tryd.f7.params[j]? = some t → args[j]? = some v → Value.okWide Tryd.prog W .any base t v := hval0
  have hG := glob hL
  have hW' := hW
  obtain ⟨p, q, hA0, hV, rfl, hfz, hnd⟩ := hW
  have hA : DataW.TrodAll enc Tryd.prog W 0 (fun _ => true) true Tryd.f7.params.toList args.toList ds p := hA0
  rw [Tryd.params7] at hA hval hsz
  obtain ⟨v0, vs0, d0, ds0, p0, q0, hargs, rfl, rfl, t0, r0⟩ := trodAll_cons hA
  obtain ⟨v1, vs1, d1, ds1, p1, q1, rfl, rfl, rfl, t1, r1⟩ := trodAll_cons r0
  obtain ⟨rfl, rfl, rfl⟩ := trodAll_nil r1
  obtain rfl : args = #[v0, v1] := by cases args; simp_all
  obtain ⟨rfl, rfl⟩ := trodVars_none hV
  have k0 := t0
  have y0 := hval 0 24 v0 rfl rfl
  obtain ⟨x0, kx0, gx0⟩ := Op.opens_arg Ar.arr_opens t0
  obtain ⟨_, _, e0, ⟨A0, c0, rfl, hc0, hr0⟩, rfl⟩ := kx0
  obtain rfl : v0 = .agg #[.slice A0 x0.1.length c0, .int .i64 x0.2] := Op.agg_of e0
  have k1 := t1
  have y1 := hval 1 45 v1 rfl rfl
  obtain ⟨x1, kx1, gx1⟩ := Op.opens_arg Ar.bytes_opens t1
  obtain ⟨A1, c1, e1, hc1, hr1⟩ := kx1
  obtain ⟨a1, l1, b1, rfl⟩ := okWide_slice Tryd.underlying45 y1
  have e1 : Value.slice a1 l1 b1 = .slice A1 x1.length c1 := by simpa [Value.cells] using e1
  injection e1 with ea1 eb1 ec1
  subst ea1; subst eb1; subst ec1
  clear hA0 hval0 hsz0 hsz
  refine (St.all_calls A0 c0 x0.1 x0.2 a1 b1 x1 W hr0 hc0 gx0.1.2 hr1 hc1 gx1.1 gx1.2 hG).mono fun e W' ⟨he, bel⟩ => ?_
  subst he
  exact ⟨_, rfl, _, _, _, [], _, [], hW', trodAll_mk1 (shut_bool Tryd.underlying4 _), (trodAll_cons_mk (Below.trod laidOut (by kernel_rfl) (of_decide_eq_true (by kernel_rfl)) k0 bel (Op.trod_lt k0)) (trodAll_cons_mk (Below.trod laidOut (by kernel_rfl) (of_decide_eq_true (by kernel_rfl)) k1 bel (Op.trod_lt k1)) trodAll_mk0)), rfl, bel.frame _, fun h => by cases h⟩
theorem said : Rows.ArrayAllSaid :=
  OpenClaim.holds_of_cond 7 Tryd.f7 rfl rfl rfl rfl rfl rfl rfl ⟨rfl, rfl, rfl, rfl, rfl⟩ rfl rfl rfl rfl rfl (by kernel_rfl) Tryd.func7 (by kernel_rfl)
    (of_decide_eq_true (by kernel_rfl)) (by unfold Func.isWrapper; first | (rw [if_pos (by decide +kernel)]; kernel_rfl) | (rw [if_neg (by decide +kernel)]; exact ⟨rfl, rfl⟩))
    (fun os started H enc _ F => by rw [OpenClaim.pre_eq_preRow]; exact lifted os started H enc F)
theorem plain (f : FuncId) (fn : Func) (hf : Tryd.pinned.checked.prog.funcNamed "marlinspike/marlinspikelaw08.ArrayAll" = some f) (hfn : Tryd.pinned.checked.prog.funcs[f]? = some fn) :
    true = Tryd.pinned.checked.prog.looks [] ∧ ∀ (j : Nat) t, fn.params[j]? = some t → Tryd.pinned.checked.prog.wantsStandIn t = false := by
  obtain rfl : f = 7 := Option.some.inj ((show Tryd.prog.funcNamed "marlinspike/marlinspikelaw08.ArrayAll" = some 7 by kernel_rfl).symm.trans hf) |>.symm
  obtain rfl : fn = Tryd.f7 := (Option.some.inj (Tryd.func7.symm.trans hfn)).symm
  refine ⟨by kernel_rfl, fun j t ht => ?_⟩
  rw [Tryd.params7] at ht
  have := Array.mem_of_getElem? ht
  have all : (#[24, 45] : Array TypeId).all (fun t => Tryd.prog.wantsStandIn t = false) = true := by kernel_rfl
  exact of_decide_eq_true (Array.all_eq_true_iff_forall_mem.1 all t this)
theorem card : Rows.ArrayAllCardSaid :=
  Claim7.holds_tied_plain_at .later [] _ _ _ _ said (fun _ h => by cases h) (by kernel_rfl) (fun _ h => by cases h) arrayAll_row_tie rfl ⟨rfl, rfl⟩ (by kernel_rfl) rfl plain (by kernel_rfl)
#print axioms card
end Go.Proofs.YtnfpchpnephheaaDoor.arrayAll
namespace Go.Proofs.YtnfpchpnephheaaDoor
theorem arrayAll_card : Rows.ArrayAllCardSaid := arrayAll.card
end Go.Proofs.YtnfpchpnephheaaDoor
end
