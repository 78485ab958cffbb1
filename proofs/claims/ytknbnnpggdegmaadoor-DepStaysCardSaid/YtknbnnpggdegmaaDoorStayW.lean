/- The law DepStays: its walk. -/
import Derived.Test.YtknbnnpggdegmaaDoorStayP
namespace Go.Proofs.YtknbnnpggdegmaaDoor.At
open Go.RowKit Go.Proofs.YtknbnnpggdegmaaDoor.Lib Go.Proofs.YtknbnnpggdegmaaDoorW.PrintWords Go.Proofs.YtknbnnpggdegmaaDoorW.PrintLast Go.Proofs.YtknbnnpggdegmaaDoorW.PrintMore Go.Proofs.YtknbnnpggdegmaaDoor.PD Go.Proofs.YtknbnnpggdegmaaDoor.Mp
set_option linter.unusedVariables false
set_option linter.unusedSimpArgs false

set_option maxHeartbeats 40000000 in
set_option maxRecDepth 100000 in
theorem stays_calls (any : Bool) (A : Option Addr) (c : Nat) (l : List S46) (A1 : Option Addr) (c1 : Nat) (l1 : List S48) (A2 : Option Addr) (c2 : Nat) (next : List Int) (w : World) (hr : Kd.C k46 w A l.length l) (hc : l.length ≤ c) (hr1 : Kd.C k48 w A1 l1.length l1) (hc1 : l1.length ≤ c1)
    (hr2 : Kd.C (Kd.int .i64) w A2 next.length next) (hc2 : next.length ≤ c2) (hw2 : ∀ y ∈ next, (Lit.int .i64 y).wf = true) (hfit : Fit l l1) (hG : Glob w) :
    Calls Tryd.prog 5 #[.agg #[.bool any, .slice A l.length c], .slice A1 l1.length c1, .slice A2 next.length c2] w fun e w' => e = .returned (.bool true) ∧ Below w.heap.size w w' := by
  obtain ⟨b, hb⟩ : ∃ b, (if l.length > 60 then true else decide (msum (l.take 100) > 300)) = b := ⟨_, rfl⟩
  have MU := Aside0.mk (show marlinspikelaw07_much.f 101 any l = some b by rw [much_f' any l 101 (Nat.le_refl _), hb])
  have MF := Aside0.mk hb
  have HR := Aside0.mk hr
  have HC := Aside0.mk hc
  have HR1 := Aside0.mk hr1
  have HC1 := Aside0.mk hc1
  have HR2 := Aside0.mk hr2
  have HC2 := Aside0.mk hc2
  have HW2 := Aside0.mk hw2
  have HF := Aside0.mk hfit
  have HG := Aside0.mk hG
  have HNL := Aside0.mk hr2.2.1
  have hu24 := Tryd.underlying24
  have hu31 := Tryd.underlying31
  have hu46 := Tryd.underlying46
  have hu48 := Tryd.underlying48
  have hmm := @run_makeMap Tryd.prog
  clear hr hc hr1 hc1 hr2 hc2 hw2 hfit hG hb
  go_enter Tryd.func5, Tryd.ntmps5
  go_wp2_with fail
  refine (marlinspikelaw07_much.calls 101 any A c l b _ ?r1 HC.out MU.out).mono ?_
  case r1 => exact Kd.C_alloc HR.out _
  rintro e w1 ⟨rfl, hb⟩
  have HB := Aside0.mk (below_then (below_alloc (Below.refl w.heap.size w) _) (below_alloc (Below.refl w.heap.size w) _).size hb)
  have BK := Aside0.mk (blk_below (blk_new w (.cells #[.bool any, .slice A l.length c] 24)) hb)
  clear hb
  cases b
  case true =>
    go_wp2_with fail
    refine (alive_calls _ (HG.out.below HB.out)).mono ?_
    rintro e w2 ⟨rfl, hb⟩
    have HB2 := Aside0.mk (below_then HB.out HB.out.size hb)
    clear hb
    go_wp2
    go_ret
    exact ⟨rfl, HB2.out⟩
  obtain ⟨hl60, hj300⟩ := much_false MF.out
  clear hj300
  by_cases h200 : 200 < l1.length
  · have d200 : decide (200 < l1.length) = true := decide_eq_true h200
    have e200 : ((200 : Int) < (l1.length : Int)) := by omega
    go_wp2_with fail
    all_goals try (exfalso; omega)
    all_goals
      refine (alive_calls _ (HG.out.below HB.out)).mono ?_
      rintro e w2 ⟨rfl, hb⟩
      have HB2 := Aside0.mk (below_then HB.out HB.out.size hb)
      clear hb
      go_wp2
      go_ret
      exact ⟨rfl, HB2.out⟩
  have d200 : decide (200 < l1.length) = false := decide_eq_false h200
  have e200 : ¬((200 : Int) < (l1.length : Int)) := by omega
  have hx1 : w1.cell? ⟨w.heap.size, 1, none⟩ = some (.slice A l.length c) := (blk_cell BK.out 1).trans rfl
  go_wp2_with fail
  all_goals try (exfalso; omega)
  clear hx1 d200 e200
  go_loopw [30] (fun v30 wr => ∃ (i : Nat), v30 = .int .i64 i ∧ i ≤ l.length ∧ Aside0 (∀ x ∈ l.take i, x.f0 ≠ 5) ∧ Aside0 (Below w1.heap.size w1 wr)) (fun v30 _ => l.length - (intOf v30).toNat)
  case atStart => exact ⟨0, rfl, Nat.zero_le _, ⟨fun x hx => by simp at hx⟩, ⟨Below.refl _ _⟩⟩
  case round =>
    obtain ⟨i, rfl, hi, H5, HS⟩ := hrel
    have HBr := Aside0.mk (below_then HB.out HB.out.size HS.out)
    by_cases hlt : i < l.length
    · obtain ⟨ad, A3, c3, rfl, hx0, hx1, _, _⟩ := at_T46 HR.out i (by omega) (by omega)
      rw [Int.toNat_natCast] at hx0 hx1
      replace hx0 := (HBr.out.cell (World.block_lt_of_cell? w _ hx0)).trans hx0
      replace hx1 := (HBr.out.cell (World.block_lt_of_cell? w _ hx1)).trans hx1
      have HSa := Aside0.mk (below_alloc HS.out (.cells #[.int .i64 (rd_T46 l i).f0, .slice A3 (rd_T46 l i).f1.length c3] 46))
      have HBa := Aside0.mk (below_alloc HBr.out (.cells #[.int .i64 (rd_T46 l i).f0, .slice A3 (rd_T46 l i).f1.length c3] 46))
      by_cases h5 : (rd_T46 l i).f0 = 5
      · have e5 : ((rd_T46 l i).f0 == 5) = true := beq_iff_eq.2 h5
        clear h5
        go_wp2_with fail
        refine (alive_calls _ (HG.out.below HBa.out)).mono ?_
        rintro e w2 ⟨rfl, hb⟩
        have HB2 := Aside0.mk (below_then HBa.out HBa.out.size hb)
        clear hb
        go_wp2
        go_ret
        exact ⟨rfl, HB2.out⟩
      · have e5 : ((rd_T46 l i).f0 == 5) = false := beq_false_of_ne h5
        have N5 := Aside0.mk h5
        clear h5
        go_wp2
        go_roundw
        case rel => exact ⟨i + 1, by go_num, by omega, ⟨fun x hx => by
          rw [List.take_succ_eq_append_getElem hlt] at hx
          rcases List.mem_append.1 hx with hx | hx
          · exact H5.out x hx
          · obtain rfl := List.mem_singleton.1 hx
            rw [← rd46 l i hlt]
            exact N5.out⟩, HSa⟩
        case measure => simp [intOf]; omega
    · have e : l.take i = l := List.take_of_length_le (by omega)
      rw [e] at H5
      have BKr := Aside0.mk (blk_below BK.out HS.out)
      clear e HS
      go_wp2_with fail
      refine (states_calls A1 c1 l1 _ (Kd.C_below HR1.out HBr.out) HC1.out HF.out.wf1).mono ?_
      rintro e w2 ⟨bm, rfl, hM, hb⟩
      have HM := Aside0.mk hM
      have HB2 := Aside0.mk (below_then HBr.out HBr.out.size hb)
      have BK2 := Aside0.mk (blk_below BKr.out hb)
      have hy0 : w2.cell? ⟨w.heap.size, 0, none⟩ = some (.bool any) := (blk_cell BK2.out 0).trans rfl
      have hy1 : w2.cell? ⟨w.heap.size, 1, none⟩ = some (.slice A l.length c) := (blk_cell BK2.out 1).trans rfl
      clear hM hb BKr HBr
      obtain ⟨L, hL⟩ : ∃ L, L = l.map At.cv := ⟨_, rfl⟩
      obtain ⟨was, hwas⟩ : ∃ r, askF (lookF l1) any L false = r := ⟨_, rfl⟩
      have HLL := Aside0.mk hL
      have HWS := Aside0.mk hwas
      have HWL : Aside0 (∀ x ∈ L, ∀ y ∈ x.f1, (Lit.int .i64 y).wf = true) := ⟨by rw [hL]; exact HF.out.cv⟩
      clear hL hwas
      go_wp2_with fail
      refine (marlinspikelaw07_theirs.calls (l.length + 1) any (fun k => k < w2.heap.size) A c l any L _ (V46 (Kd.C_below HR.out HB2.out) HC.out) (by rw [HLL.out]; exact theirs_f any l (by omega) _ (by omega))).mono ?_
      rintro e w3 ⟨v3, rfl, hN, hb⟩
      obtain ⟨A3, c3, rfl⟩ := Kd.N_slice hN
      have hN2 := Kd.N_reads' hN
      have HA3 := Aside0.mk hN2.2.2
      have HC3 := Aside0.mk hN2.2.1
      have HB3 := Aside0.mk (below_then HB2.out HB2.out.size hb)
      have BK3 := Aside0.mk (blk_below BK2.out hb)
      have HM3 := Aside0.mk (HM.out.below hb)
      clear hN hN2 hb hy0 hy1
      go_wp2_with fail
      refine (ask_calls any A3 c3 L false bm l1.length (lookF l1) _ HA3.out HC3.out HM3.out HWL.out).mono ?_
      rintro e w4 ⟨he, hb⟩
      rw [HWS.out] at he
      subst he
      have HB4 := Aside0.mk (below_then HB3.out HB3.out.size hb)
      have BK4 := Aside0.mk (blk_below BK3.out hb)
      clear hb
      obtain ⟨L', hL'⟩ : ∃ L', L' = laterL next 0 l1 := ⟨_, rfl⟩
      have HL' := Aside0.mk hL'
      have hlen' : L'.length = l1.length := by rw [hL']; exact laterL_length next l1 0
      clear hL'
      go_wp2
      go_loopw [48] (fun v48 wr => ∃ (i : Nat), v48 = .int .i64 i ∧ i ≤ l1.length ∧ Aside0 (MapII wr w4.heap.size i (lookF (L'.take i))) ∧ Aside0 (Below w4.heap.size w4 wr)) (fun v48 _ => l1.length - (intOf v48).toNat)
      case atStart => exact ⟨0, rfl, Nat.zero_le _, ⟨MapOf.made w4⟩, ⟨below_alloc (Below.refl _ _) _⟩⟩
      case round =>
        obtain ⟨i, rfl, hi, HM5, HS⟩ := hrel
        have HBr := Aside0.mk (below_then HB4.out HB4.out.size HS.out)
        by_cases hlt : i < l1.length
        · obtain ⟨ad, rfl, hx0, hx1⟩ := at_T48 HR1.out i (by omega) (by omega)
          rw [Int.toNat_natCast] at hx0 hx1
          replace hx0 := (HBr.out.cell (World.block_lt_of_cell? w _ hx0)).trans hx0
          replace hx1 := (HBr.out.cell (World.block_lt_of_cell? w _ hx1)).trans hx1
          have hok1 := HF.out.wf1 (rd_T48 l1 i) (by rw [rd48 l1 i hlt]; exact List.getElem_mem _)
          have hrd : rd_T48 L' i = ⟨(rd_T48 l1 i).f0, laterS next i (rd_T48 l1 i).f1⟩ := by rw [HL'.out]; exact laterL_rd next l1 i hlt
          generalize (rd_T48 l1 i).f0 = id at hx0 hok1 hrd
          generalize (rd_T48 l1 i).f1 = s at hx1 hok1 hrd
          have W0 := Aside0.mk hok1.1
          have W1 := Aside0.mk hok1.2
          have HMa := Aside0.mk (HM5.out.alloc (.cells #[.int .i64 id, .int .i64 s] 48))
          have HSa := Aside0.mk (below_alloc HS.out (.cells #[.int .i64 id, .int .i64 s] 48))
          have hid : (rd_T48 L' i).f0 = id := by rw [hrd]
          have hltL : i < L'.length := by omega
          clear hok1
          cases hlk : lookF (L'.take i) id with
          | some q =>
            have HK := Aside0.mk hlk
            have HE := Aside0.mk (look_there L' i hltL (s := q) (by rw [hid]; exact hlk))
            clear hlk hrd hid
            go_wp2_with (first | (at_lookup; refine look_some _ rfl _ _ rfl rfl HMa.out id rfl W0.out HK.out ?_) | fail)
            go_roundw
            case rel => exact ⟨i + 1, by go_num, by omega, ⟨by rw [HE.out]; exact HMa.out.mono (Nat.le_succ _)⟩, HSa⟩
            case measure => simp [intOf]; omega
          | none =>
            have HK := Aside0.mk hlk
            have he := look_put L' i hltL (by rw [hid]; exact hlk)
            rw [hrd] at he
            have HE : Aside0 (lookF (L'.take (i + 1)) = fun k => if k = id then some (laterS next i s) else lookF (L'.take i) k) := ⟨he⟩
            clear hlk hrd hid he
            go_wp2_with (first | (at_lookup; refine look_none _ rfl _ _ rfl rfl HMa.out id rfl W0.out HK.out ?_) | fail)
            refine (marlinspikeref07_Ended.calls s (endedL s) _ (r_ended_f s)).mono ?_
            rintro e w6 ⟨rfl, hd⟩
            have hb := hd.below
            have HM6 := Aside0.mk (HMa.out.below hb)
            have HS6 := Aside0.mk (below_then HSa.out HSa.out.size hb)
            have BX := Aside0.mk (blk_below (blk_new wr (.cells #[.int .i64 id, .int .i64 s] 48)) hb)
            have HB6 := Aside0.mk (below_then HB4.out HB4.out.size HS6.out)
            have hz0 : w6.cell? ⟨wr.heap.size, 0, none⟩ = some (.int .i64 id) := (blk_cell BX.out 0).trans rfl
            have hz1 : w6.cell? ⟨wr.heap.size, 1, none⟩ = some (.int .i64 s) := (blk_cell BX.out 1).trans rfl
            clear hb hd hx0 hx1
            cases hE : endedL s with
            | true =>
              have HV : Aside0 (laterS next i s = s) := ⟨by unfold laterS; rw [if_neg (fun h => by rw [hE] at h; exact Bool.noConfusion h.1)]⟩
              go_wp2_with (first | (at_mapUpdate; refine put_II _ rfl _ _ _ rfl rfl HM6.out (by have := HF.out.len1; unfold maxLen; omega) id rfl W0.out s rfl W1.out ?_; intro w7 hm1 hg1; have HM7 := Aside0.mk hm1; have HG7 := Aside0.mk hg1; clear hm1 hg1) | fail)
              go_roundw
              case rel => exact ⟨i + 1, by go_num, by omega, ⟨by rw [HE.out, HV.out]; exact HM7.out⟩, ⟨HS6.out.grown HG7.out HS6.out.size (fun k hk => by injection hk with hk; omega)⟩⟩
              case measure => simp [intOf]; omega
            | false =>
              by_cases h7 : s = 7
              · have e7 : (s != 7) = false := by rw [h7]; rfl
                have E7 := Aside0.mk h7
                clear h7
                have HV : Aside0 (laterS next i s = s) := ⟨by unfold laterS; rw [if_neg (fun h => h.2.1 E7.out)]⟩
                go_wp2_with (first | (at_mapUpdate; refine put_II _ rfl _ _ _ rfl rfl HM6.out (by have := HF.out.len1; unfold maxLen; omega) id rfl W0.out s rfl W1.out ?_; intro w7 hm1 hg1; have HM7 := Aside0.mk hm1; have HG7 := Aside0.mk hg1; clear hm1 hg1) | fail)
                go_roundw
                case rel => exact ⟨i + 1, by go_num, by omega, ⟨by rw [HE.out, HV.out]; exact HM7.out⟩, ⟨HS6.out.grown HG7.out HS6.out.size (fun k hk => by injection hk with hk; omega)⟩⟩
                case measure => simp [intOf]; omega
              · have e7 : (s != 7) = true := bne_iff_ne.2 h7
                by_cases hn : i < next.length
                · have en : decide (i < next.length) = true := decide_eq_true hn
                  obtain ⟨ad2, ea2, hx2⟩ := Kd.at_int HR2.out i (by omega) (by omega)
                  subst ea2
                  rw [Int.toNat_natCast] at hx2
                  replace hx2 := (HB6.out.cell (World.block_lt_of_cell? w _ hx2)).trans hx2
                  have WT : Aside0 ((Lit.int .i64 (rd next i)).wf = true) := ⟨by rw [show rd next i = next[i] by simp [rd, hn]]; exact HW2.out _ (List.getElem_mem _)⟩
                  have HQ : Aside0 (laterS next i s = if 0 ≤ rd next i ∧ rd next i ≤ 7 ∧ (s ≠ 2 ∨ (2 ≤ rd next i ∧ rd next i ≠ 7)) then rd next i else s) := ⟨by unfold laterS; rw [if_pos ⟨hE, h7, hn⟩]⟩
                  generalize rd next i = t at hx2 WT HQ
                  by_cases a0 : 0 ≤ t
                  · have b0 : decide (0 ≤ t) = true := decide_eq_true a0
                    by_cases a1 : t ≤ 7
                    · have b1 : decide (t ≤ 7) = true := decide_eq_true a1
                      by_cases a2 : s = 2
                      · have b2 : (s != 2) = false := by rw [a2]; rfl
                        have E2 := Aside0.mk a2
                        clear a2
                        by_cases a3 : 2 ≤ t
                        · have b3 : decide (2 ≤ t) = true := decide_eq_true a3
                          by_cases a4 : t = 7
                          · have b4 : (t != 7) = false := by rw [a4]; rfl
                            have E4 := Aside0.mk a4
                            clear a4
                            have HV : Aside0 (laterS next i s = s) := ⟨by have := E2.out; have := E4.out; rw [HQ.out, if_neg (by omega)]⟩
                            go_wp2_with (first | (at_mapUpdate; refine put_II _ rfl _ _ _ rfl rfl HM6.out (by have := HF.out.len1; unfold maxLen; omega) id rfl W0.out s rfl W1.out ?_; intro w7 hm1 hg1; have HM7 := Aside0.mk hm1; have HG7 := Aside0.mk hg1; clear hm1 hg1) | fail)
                            go_roundw
                            case rel => exact ⟨i + 1, by go_num, by omega, ⟨by rw [HE.out, HV.out]; exact HM7.out⟩, ⟨HS6.out.grown HG7.out HS6.out.size (fun k hk => by injection hk with hk; omega)⟩⟩
                            case measure => simp [intOf]; omega
                          · have b4 : (t != 7) = true := bne_iff_ne.2 a4
                            have HV : Aside0 (laterS next i s = t) := ⟨by rw [HQ.out, if_pos (by omega)]⟩
                            go_wp2_with (first | (at_mapUpdate; refine put_II _ rfl _ _ _ rfl rfl HM6.out (by have := HF.out.len1; unfold maxLen; omega) id rfl W0.out t rfl WT.out ?_; intro w7 hm1 hg1; have HM7 := Aside0.mk hm1; have HG7 := Aside0.mk hg1; clear hm1 hg1) | fail)
                            go_roundw
                            case rel => exact ⟨i + 1, by go_num, by omega, ⟨by rw [HE.out, HV.out]; exact HM7.out⟩, ⟨HS6.out.grown HG7.out HS6.out.size (fun k hk => by injection hk with hk; omega)⟩⟩
                            case measure => simp [intOf]; omega
                        · have b3 : decide (2 ≤ t) = false := decide_eq_false a3
                          have HV : Aside0 (laterS next i s = s) := ⟨by have := E2.out; rw [HQ.out, if_neg (by omega)]⟩
                          go_wp2_with (first | (at_mapUpdate; refine put_II _ rfl _ _ _ rfl rfl HM6.out (by have := HF.out.len1; unfold maxLen; omega) id rfl W0.out s rfl W1.out ?_; intro w7 hm1 hg1; have HM7 := Aside0.mk hm1; have HG7 := Aside0.mk hg1; clear hm1 hg1) | fail)
                          go_roundw
                          case rel => exact ⟨i + 1, by go_num, by omega, ⟨by rw [HE.out, HV.out]; exact HM7.out⟩, ⟨HS6.out.grown HG7.out HS6.out.size (fun k hk => by injection hk with hk; omega)⟩⟩
                          case measure => simp [intOf]; omega
                      · have b2 : (s != 2) = true := bne_iff_ne.2 a2
                        have HV : Aside0 (laterS next i s = t) := ⟨by rw [HQ.out, if_pos (by omega)]⟩
                        go_wp2_with (first | (at_mapUpdate; refine put_II _ rfl _ _ _ rfl rfl HM6.out (by have := HF.out.len1; unfold maxLen; omega) id rfl W0.out t rfl WT.out ?_; intro w7 hm1 hg1; have HM7 := Aside0.mk hm1; have HG7 := Aside0.mk hg1; clear hm1 hg1) | fail)
                        go_roundw
                        case rel => exact ⟨i + 1, by go_num, by omega, ⟨by rw [HE.out, HV.out]; exact HM7.out⟩, ⟨HS6.out.grown HG7.out HS6.out.size (fun k hk => by injection hk with hk; omega)⟩⟩
                        case measure => simp [intOf]; omega
                    · have b1 : decide (t ≤ 7) = false := decide_eq_false a1
                      have HV : Aside0 (laterS next i s = s) := ⟨by rw [HQ.out, if_neg (by omega)]⟩
                      go_wp2_with (first | (at_mapUpdate; refine put_II _ rfl _ _ _ rfl rfl HM6.out (by have := HF.out.len1; unfold maxLen; omega) id rfl W0.out s rfl W1.out ?_; intro w7 hm1 hg1; have HM7 := Aside0.mk hm1; have HG7 := Aside0.mk hg1; clear hm1 hg1) | fail)
                      go_roundw
                      case rel => exact ⟨i + 1, by go_num, by omega, ⟨by rw [HE.out, HV.out]; exact HM7.out⟩, ⟨HS6.out.grown HG7.out HS6.out.size (fun k hk => by injection hk with hk; omega)⟩⟩
                      case measure => simp [intOf]; omega
                  · have b0 : decide (0 ≤ t) = false := decide_eq_false a0
                    have HV : Aside0 (laterS next i s = s) := ⟨by rw [HQ.out, if_neg (by omega)]⟩
                    go_wp2_with (first | (at_mapUpdate; refine put_II _ rfl _ _ _ rfl rfl HM6.out (by have := HF.out.len1; unfold maxLen; omega) id rfl W0.out s rfl W1.out ?_; intro w7 hm1 hg1; have HM7 := Aside0.mk hm1; have HG7 := Aside0.mk hg1; clear hm1 hg1) | fail)
                    go_roundw
                    case rel => exact ⟨i + 1, by go_num, by omega, ⟨by rw [HE.out, HV.out]; exact HM7.out⟩, ⟨HS6.out.grown HG7.out HS6.out.size (fun k hk => by injection hk with hk; omega)⟩⟩
                    case measure => simp [intOf]; omega
                · have en : decide (i < next.length) = false := decide_eq_false hn
                  have HV : Aside0 (laterS next i s = s) := ⟨by unfold laterS; rw [if_neg (fun h => hn h.2.2)]⟩
                  go_wp2_with (first | (at_mapUpdate; refine put_II _ rfl _ _ _ rfl rfl HM6.out (by have := HF.out.len1; unfold maxLen; omega) id rfl W0.out s rfl W1.out ?_; intro w7 hm1 hg1; have HM7 := Aside0.mk hm1; have HG7 := Aside0.mk hg1; clear hm1 hg1) | fail)
                  go_roundw
                  case rel => exact ⟨i + 1, by go_num, by omega, ⟨by rw [HE.out, HV.out]; exact HM7.out⟩, ⟨HS6.out.grown HG7.out HS6.out.size (fun k hk => by injection hk with hk; omega)⟩⟩
                  case measure => simp [intOf]; omega
        · have e : L'.take i = L' := List.take_of_length_le (by omega)
          rw [e] at HM5
          have BKr := Aside0.mk (blk_below BK4.out HS.out)
          have hy0 : wr.cell? ⟨w.heap.size, 0, none⟩ = some (.bool any) := (blk_cell BKr.out 0).trans rfl
          have hy1 : wr.cell? ⟨w.heap.size, 1, none⟩ = some (.slice A l.length c) := (blk_cell BKr.out 1).trans rfl
          clear e
          obtain ⟨now, hnow⟩ : ∃ r, askF (lookF L') any L false = r := ⟨_, rfl⟩
          have HNW := Aside0.mk hnow
          have hst : was ≠ 0 → now = was := fun hne => by
            rw [← hnow, HL'.out, ← HWS.out, HLL.out]
            exact stays l l1 next any H5.out (by rw [← HLL.out, HWS.out]; exact hne)
          have HST := Aside0.mk hst
          clear hnow hst
          go_wp2_with fail
          refine (marlinspikelaw07_theirs.calls (l.length + 1) any (fun k => k < wr.heap.size) A c l any L _ (V46 (Kd.C_below HR.out HBr.out) HC.out) (by rw [HLL.out]; exact theirs_f any l (by omega) _ (by omega))).mono ?_
          rintro e w8 ⟨v8, rfl, hN, hb⟩
          obtain ⟨A8, c8, rfl⟩ := Kd.N_slice hN
          have hN2 := Kd.N_reads' hN
          have HA8 := Aside0.mk hN2.2.2
          have HC8 := Aside0.mk hN2.2.1
          have HB8 := Aside0.mk (below_then HBr.out HBr.out.size hb)
          have HM8 := Aside0.mk (HM5.out.below hb)
          clear hN hN2 hb hy0 hy1
          go_wp2_with fail
          refine (ask_calls any A8 c8 L false w4.heap.size i (lookF L') _ HA8.out HC8.out HM8.out HWL.out).mono ?_
          rintro e w9 ⟨he, hb⟩
          rw [HNW.out] at he
          subst he
          have HB9 := Aside0.mk (below_then HB8.out HB8.out.size hb)
          clear hb
          by_cases hw0 : was = 0
          · have e0 : (was == 0) = true := beq_iff_eq.2 hw0
            clear hw0
            go_wp2_with fail
            refine (alive_calls _ (HG.out.below HB9.out)).mono ?_
            rintro e w10 ⟨rfl, hb⟩
            have HB10 := Aside0.mk (below_then HB9.out HB9.out.size hb)
            clear hb
            go_wp2
            go_ret
            exact ⟨rfl, HB10.out⟩
          · have e0 : (was == 0) = false := beq_false_of_ne hw0
            have en := HST.out hw0
            subst en
            clear hw0
            go_wp2_with fail
            refine (alive_calls _ (HG.out.below HB9.out)).mono ?_
            rintro e w10 ⟨rfl, hb⟩
            have HB10 := Aside0.mk (below_then HB9.out HB9.out.size hb)
            clear hb
            go_wp2
            go_ret
            exact ⟨rfl, HB10.out⟩
end Go.Proofs.YtknbnnpggdegmaaDoor.At
