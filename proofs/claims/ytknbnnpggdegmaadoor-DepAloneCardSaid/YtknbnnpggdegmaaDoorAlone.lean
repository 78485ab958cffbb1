/- The law DepAlone: its walk. -/
import Derived.Test.YtknbnnpggdegmaaDoorAsks
namespace Go.Proofs.YtknbnnpggdegmaaDoor.At
open Go.RowKit Go.Proofs.YtknbnnpggdegmaaDoor.Lib Go.Proofs.YtknbnnpggdegmaaDoorW.PrintWords Go.Proofs.YtknbnnpggdegmaaDoorW.PrintLast Go.Proofs.YtknbnnpggdegmaaDoorW.PrintMore Go.Proofs.YtknbnnpggdegmaaDoor.PD Go.Proofs.YtknbnnpggdegmaaDoor.Mp
set_option linter.unusedVariables false
set_option linter.unusedSimpArgs false

theorem heap52 : Kd.Heap k52 := Kd.heap_iso _ (Kd.heap_pair (Kd.heap_int _) (Kd.heap_slice _ (Kd.heap_int _)))
theorem Cnil52 {w : World} : Kd.C k52 w none 0 [] := ⟨rfl, Nat.zero_le _, fun h => absurd h (Nat.lt_irrefl _)⟩
/-- A singleton ahead. -/
def l5 (l : List S46) : List S52 := [⟨5, []⟩] ++ l.map At.cv
theorem l5_wf {l : List S46} {l1 : List S48} (h : Fit l l1) : ∀ x ∈ l5 l, ∀ y ∈ x.f1, (Lit.int .i64 y).wf = true := by
  intro x hx
  rcases List.mem_append.1 hx with hx | hx
  · obtain rfl := List.mem_singleton.1 hx
    intro y hy
    cases hy
  · exact h.cv x hx
theorem ask_nil (look : Int → Option Int) (al : Bool) : askF look false [] al = 1 := by cases al <;> rfl
theorem at2 (look : Int → Option Int) (x : S52) (al : Bool) : (atS look al x == 2) = (atS look true x == 2) := by
  unfold atS atF
  split
  · cases al <;> rfl
  · rfl
theorem cnt2 (look : Int → Option Int) (al : Bool) (l : List S52) : cnt look al 2 l = cnt look true 2 l := by
  unfold cnt
  rw [show (fun x => atS look al x == 2) = (fun x => atS look true x == 2) from funext fun x => at2 look x al]
theorem ask_five (look : Int → Option Int) (l : List S46) (al : Bool) : askF look false (l5 l) al = if al = false ∧ askF look false (l.map At.cv) true = 1 then 0 else askF look false (l.map At.cv) true := by
  have e2 : cnt look al 2 (l5 l) = cnt look true 2 (l.map At.cv) := by
    rw [← cnt2 look al (l.map At.cv)]
    unfold cnt l5
    rw [List.filter_append, List.length_append]
    have : ([⟨5, []⟩] : List S52).filter (fun x => atS look al x == 2) = [] := by cases al <;> rfl
    rw [this]
    simp
  have len : (l5 l).length = (l.map At.cv).length + 1 := by unfold l5; simp
  unfold askF
  simp only [Bool.false_eq_true, ↓reduceIte]
  rw [e2]
  have c1le := cnt_le look al 1 (l.map At.cv)
  by_cases h2 : 0 < cnt look true 2 (l.map At.cv)
  · rw [if_pos h2, if_pos h2]
    simp
  · rw [if_neg h2, if_neg h2]
    cases al
    · have e1 : cnt look false 1 (l5 l) = cnt look false 1 (l.map At.cv) := by
        unfold cnt l5
        rw [List.filter_append, List.length_append]
        have : ([⟨5, []⟩] : List S52).filter (fun x => atS look false x == 1) = [] := rfl
        rw [this]
        simp
      rw [e1, len, if_neg (by omega)]
      split <;> simp_all
    · have e1 : cnt look true 1 (l5 l) = cnt look true 1 (l.map At.cv) + 1 := by
        unfold cnt l5
        rw [List.filter_append, List.length_append]
        have : ([⟨5, []⟩] : List S52).filter (fun x => atS look true x == 1) = [⟨5, []⟩] := rfl
        rw [this]
        simp [Nat.add_comm]
      rw [e1, len]
      simp

set_option maxHeartbeats 40000000 in
set_option maxRecDepth 100000 in
theorem alone_t (any : Bool) (A : Option Addr) (c : Nat) (l : List S46) (A1 : Option Addr) (c1 : Nat) (l1 : List S48) (w : World) (hr : Kd.C k46 w A l.length l) (hc : l.length ≤ c) (hr1 : Kd.C k48 w A1 l1.length l1) (hc1 : l1.length ≤ c1) (hfit : Fit l l1) (hG : Glob w) :
    Calls Tryd.prog 7 #[.agg #[.bool any, .slice A l.length c], .slice A1 l1.length c1, .bool true] w fun e w' => e = .returned (.bool true) ∧ Below w.heap.size w w' := by
  have HR := Aside0.mk hr
  have HC := Aside0.mk hc
  have HR1 := Aside0.mk hr1
  have HC1 := Aside0.mk hc1
  have HF := Aside0.mk hfit
  have HG := Aside0.mk hG
  obtain ⟨b, hb, hb60⟩ := much_f any l 101 (by omega)
  have MU := Aside0.mk hb
  have M60 := Aside0.mk hb60
  have hu24 := Tryd.underlying24
  have hu31 := Tryd.underlying31
  have hu52 := Tryd.underlying52
  clear hr hc hr1 hc1 hfit hG hb hb60
  go_enter Tryd.func7, Tryd.ntmps7
  go_wp2_with fail
  refine (marlinspikelaw07_much.calls 101 any A c l b _ ?r1 HC.out MU.out).mono ?_
  case r1 => exact Kd.C_alloc HR.out _
  rintro e w1 ⟨rfl, hb⟩
  have HB := Aside0.mk (below_then (below_alloc (Below.refl w.heap.size w) _) (below_alloc (Below.refl w.heap.size w) _).size hb)
  have BK := Aside0.mk (blk_below (blk_new w (.cells #[.bool any, .slice A l.length c] 24)) hb)
  have hx0 : w1.cell? ⟨w.heap.size, 0, none⟩ = some (.bool any) := (blk_cell BK.out 0).trans rfl
  have hx1 : w1.cell? ⟨w.heap.size, 1, none⟩ = some (.slice A l.length c) := (blk_cell BK.out 1).trans rfl
  have done : ∀ w2, Below w.heap.size w w2 → Calls Tryd.prog 11 #[] w2 fun e w' => e = .returned (.bool true) ∧ Below w.heap.size w w' := fun w2 hb2 => (alive_calls w2 (HG.out.below hb2)).mono fun e w' h => ⟨h.1, below_then hb2 hb2.size h.2⟩
  have DN := Aside0.mk done
  clear hb done
  cases b
  case true =>
    go_wp2_with fail
    refine (DN.out _ HB.out).mono ?_
    rintro e w2 ⟨rfl, hb⟩
    have HB2 := Aside0.mk hb
    clear hb
    go_wp2
    go_ret
    exact ⟨rfl, HB2.out⟩
  have hl60 := M60.out rfl
  by_cases h200 : 200 < l1.length
  · have d200 : decide (200 < l1.length) = true := decide_eq_true h200
    have e200 : ((200 : Int) < (l1.length : Int)) := by omega
    go_wp2_with fail
    all_goals try (exfalso; omega)
    all_goals
      refine (DN.out _ HB.out).mono ?_
      rintro e w2 ⟨rfl, hb⟩
      have HB2 := Aside0.mk hb
      clear hb
      go_wp2
      go_ret
      exact ⟨rfl, HB2.out⟩
  have d200 : decide (200 < l1.length) = false := decide_eq_false h200
  have e200 : ¬((200 : Int) < (l1.length : Int)) := by omega
  cases any
  case true =>
    go_wp2_with fail
    all_goals try (exfalso; omega)
    all_goals
      refine (DN.out _ HB.out).mono ?_
      rintro e w2 ⟨rfl, hb⟩
      have HB2 := Aside0.mk hb
      clear hb
      go_wp2
      go_ret
      exact ⟨rfl, HB2.out⟩
  go_wp2_with fail
  all_goals try (exfalso; omega)
  clear DN
  obtain ⟨L, hL⟩ : ∃ L, L = l.map At.cv := ⟨_, rfl⟩
  obtain ⟨L5, hL5⟩ : ∃ L5, L5 = [(⟨5, []⟩ : S52)] ++ L := ⟨_, rfl⟩
  obtain ⟨r, hrr⟩ : ∃ r, askF (lookF l1) false L true = r := ⟨_, rfl⟩
  have HLL := Aside0.mk hL
  have HL5 := Aside0.mk hL5
  have HRr := Aside0.mk hrr
  have HLn : L.length ≤ 60 := by rw [hL]; simpa using hl60
  have HW2 : Aside0 (∀ x ∈ L, ∀ y ∈ x.f1, (Lit.int .i64 y).wf = true) := ⟨by rw [hL]; exact HF.out.cv⟩
  have HW5 : Aside0 (∀ x ∈ L5, ∀ y ∈ x.f1, (Lit.int .i64 y).wf = true) := ⟨by rw [hL5, hL]; exact l5_wf HF.out⟩
  have HQ : Aside0 (∀ al, askF (lookF l1) false L5 al = if al = false ∧ r = 1 then 0 else r) := ⟨fun al => by rw [hL5, ← hrr, hL]; exact ask_five (lookF l1) l al⟩
  clear hL hL5 hrr
  refine (marlinspikelaw07_theirs.calls (l.length + 1) false (fun k => k < w1.heap.size) A c l false L _ (V46 (Kd.C_below HR.out HB.out) HC.out) (by rw [HLL.out]; exact theirs_f false l (by omega) _ (by omega))).mono ?_
  rintro e w2 ⟨v2, rfl, hN, hb⟩
  obtain ⟨A2, c2, rfl⟩ := Kd.N_slice hN
  have hN2 := Kd.N_reads' hN
  have HA2 := Aside0.mk hN2.2.2
  have HC2 := Aside0.mk hN2.2.1
  have HB2 := Aside0.mk (below_then HB.out HB.out.size hb)
  clear hN hN2 hb hx0 hx1 h200 d200 e200
  go_wp2_with fail
  have HB3 := Aside0.mk (below_alloc HB2.out (.cells #[.bool false, .slice A2 L.length c2] 31))
  have BK3 := Aside0.mk (blk_new w2 (.cells #[.bool false, .slice A2 L.length c2] 31))
  have HA3 := Aside0.mk (Kd.C_alloc HA2.out (.cells #[.bool false, .slice A2 L.length c2] 31))
  have GE := Aside0.mk HB2.out.size
  have HS3 := Aside0.mk (below_alloc (Below.refl w2.heap.size w2) (.cells #[.bool false, .slice A2 L.length c2] 31))
  generalize w2.alloc (.cells #[.bool false, .slice A2 L.length c2] 31) = w3 at HB3 BK3 HA3 HS3 ⊢
  have HSd := Aside0.mk (below_drew HS3.out)
  have HBd := Aside0.mk (below_drew HB3.out)
  have BKd := Aside0.mk (blk_drew BK3.out)
  have HAd := Aside0.mk (Kd.C_below HA3.out (below_drew (Below.refl _ _)))
  refine start_ (n := 5) (S := fun w' => w'.cell? ⟨w2.heap.size, 0, none⟩ = some (.bool false) ∧ w'.cell? ⟨w2.heap.size, 1, none⟩ = some (.slice A2 L.length c2)) (ds := []) #[false, false, false, false, false] (by kernel_rfl) rfl rfl ⟨(blk_cell BKd.out 0).trans rfl, (blk_cell BKd.out 1).trans rfl⟩ (fun hHeld => ?_)
  refine pure_ (i := 1) (N := some 25) (v := ?_) (a' := ?_) #[false, true, false, false, false] rfl rfl (by kernel_rfl) (fun _ _ _ h => h) (Or.inl ⟨by rfl, ?_⟩) ?_ ?_
  rotate_left
  · intro w'
    go_simp
    with_reducible rfl
  rotate_left
  · simp only [Act.put, List.setIfInBounds_toArray, List.set_cons_zero, List.set_cons_succ, i64_w, i32_w]
    rfl
  refine take_ (i := 0) (N := some 24) (v := ?_) (a' := ?_) #[true, true, false, false, false] rfl rfl (by kernel_rfl) (fun _ _ _ h => h) (Or.inl ⟨by rfl, ?_⟩) hHeld ?_ ?_
  rotate_left
  · rintro w' ⟨s0, s1⟩
    go_simp
    with_reducible rfl
  rotate_left
  · simp only [Act.put, List.setIfInBounds_toArray, List.set_cons_zero, List.set_cons_succ, i64_w, i32_w]
    rfl
  refine one_ (i := 2) (N := some 26) #[true, true, true, false, false] rfl rfl (by kernel_rfl) (by decide) (fun K hK => ?_)
  refine goes_ Tryd.func14 (by kernel_rfl) rfl #[.slice A1 l1.length c1] (by rfl) rfl rfl (by (try simp only [List.map_toArray, List.map_cons, List.map_nil]); first | done | rfl) ?_
  refine (states_calls A1 c1 l1 _ (Kd.C_below HR1.out HBd.out) HC1.out HF.out.wf1).mono ?_
  rintro e w4 ⟨bm, rfl, hM, hb⟩
  have HM := Aside0.mk hM
  have HA4 := Aside0.mk (Kd.C_below HAd.out hb)
  have HS4 := Aside0.mk (below_then HSd.out HSd.out.size hb)
  have HB4 := Aside0.mk (below_then HBd.out HBd.out.size hb)
  have BK4 := Aside0.mk (blk_below BKd.out hb)
  clear hM hb
  refine ⟨_, rfl, ?_⟩
  refine hK.out _ _ ⟨(blk_cell BK4.out 0).trans rfl, (blk_cell BK4.out 1).trans rfl⟩ (fun hHeld => ?_)
  clear hK K
  refine norm_ (a' := ?_) ?_ ?_
  rotate_left
  · show Act.put _ (some 26) _ = _
    simp only [Act.put, List.setIfInBounds_toArray, List.set_cons_zero, List.set_cons_succ, i64_w, i32_w]
    rfl
  refine one_ (i := 3) (N := some 27) #[true, true, true, true, false] rfl rfl (by kernel_rfl) (by decide) (fun K hK => ?_)
  refine goes_ Tryd.func12 (by kernel_rfl) rfl #[.agg #[.bool false, .slice A2 L.length c2], .map (some bm), .bool true] (by rfl) rfl rfl (by (try simp only [List.map_toArray, List.map_cons, List.map_nil]); first | done | rfl) ?_
  refine (ask_calls false A2 c2 L true bm l1.length (lookF l1) _ HA4.out HC2.out HM.out HW2.out).mono ?_
  rintro e w5 ⟨he, hb⟩
  rw [HRr.out] at he
  subst he
  have HA5 := Aside0.mk (Kd.C_below HA4.out hb)
  have HS5 := Aside0.mk (below_then HS4.out HS4.out.size hb)
  have HB5 := Aside0.mk (below_then HB4.out HB4.out.size hb)
  have BK5 := Aside0.mk (blk_below BK4.out hb)
  clear hb
  refine ⟨_, rfl, ?_⟩
  refine hK.out _ _ ⟨(blk_cell BK5.out 0).trans rfl, (blk_cell BK5.out 1).trans rfl⟩ (fun hHeld => ?_)
  clear hK K
  refine norm_ (a' := ?_) ?_ ?_
  rotate_left
  · show Act.put _ (some 27) _ = _
    simp only [Act.put, List.setIfInBounds_toArray, List.set_cons_zero, List.set_cons_succ, i64_w, i32_w]
    rfl
  refine pure_ (i := 4) (N := some 8) (v := ?_) (a' := ?_) #[true, true, true, true, true] rfl rfl (by kernel_rfl) (fun _ _ _ h => h) (Or.inl ⟨by rfl, ?_⟩) ?_ ?_
  rotate_left
  · intro w'
    go_simp
    with_reducible rfl
  rotate_left
  · simp only [Act.put, List.setIfInBounds_toArray, List.set_cons_zero, List.set_cons_succ, i64_w, i32_w]
    rfl
  refine done_ (by kernel_rfl) ?_
  have W9 := HQ.out true
  rw [if_neg (fun h => Bool.noConfusion h.1)] at W9
  have hcx0 : w5.cell? ⟨w2.heap.size, 0, none⟩ = some (.bool false) := (blk_cell BK5.out 0).trans rfl
  have hcx1 : w5.cell? ⟨w2.heap.size, 1, none⟩ = some (.slice A2 L.length c2) := (blk_cell BK5.out 1).trans rfl
  have HF5 := Aside0.mk (Kd.F_below (Kd.C_F heap52 HA2.out) HS5.out)
  have HL25 := Aside0.mk (blk_lt BK5.out)
  go_wp2_with (first
    | ((with_reducible refine gate_dst (N := 29) rfl ?_); refine Kd.R_lit k52 (w0 := w) w.heap.size 52 ?hg (N := 29) ?hd (xs := [(⟨5, []⟩ : S52)]) (inner := [.int .i64 5, .slice none 0 0]) (ok := fun k => k ≠ w2.heap.size) (okp := fun _ => False) ?hr ?hp (fun _ hk => hk.elim) (Nat.ne_of_gt HL25.out) HB5.out HB5.out.size (by simp) ?_; (case hd => rfl); (case hg => rfl); (case hr => first | (go_simp; done) | (go_simp; rfl)); (case hp => exact Reps.snoc (Reps.none _ _) (k52_mkM _ _ _ (⟨5, []⟩ : S52) (Kd.R_nil _ _ _ _ _)) rfl); intro v6 w6 ho hb hg hat; have HO6 := Aside0.mk (Kd.R_N ho); have HB6 := Aside0.mk hb; have HT6 := Aside0.mk hat; have b56 := (Below.refl w5.heap.size w5).grown hg (Nat.le_refl _) (fun k hk => by cases hk); have HF6 := Aside0.mk (Kd.F_below HF5.out b56); have BK6 := Aside0.mk (blk_below BK5.out b56); clear ho hb hg hat b56; have hcy1 : w6.cell? ⟨w2.heap.size, 1, none⟩ = some (.slice A2 L.length c2) := (blk_cell BK6.out 1).trans rfl)
    | ((with_reducible refine gate_builtin (b := .append) (xs := #[.tmp 29, .tmp 31]) rfl ?_); at_builtin; refine Kd.N_append_rows k52 (w0 := w) w.heap.size rfl (.tmp 29) (.tmp 31) 29 52 (.agg #[.int .i64 0, .slice none 0 0]) 32 rfl Tryd.underlying29 info52 rfl (by decide) (by decide) v6 [(⟨5, []⟩ : S52)] L A2 L.length c2 (fun k => k ≠ w2.heap.size) (fun k => k < w2.heap.size) rfl rfl HO6.out HF6.out ?ap (fun k hk => by have := blk_lt BK6.out; omega) HB6.out HB6.out.size ?al ?_; (case ap => intro k hk; exact ⟨Nat.ne_of_lt hk, fun e => by obtain ⟨b, hb, hle⟩ := HT6.out; have := HL25.out; rw [hb] at e; injection e; omega⟩); (case al => simp only [List.length_cons, List.length_nil]; omega); intro v7 w7 ho hb hg hat; rw [← HL5.out] at ho; have BK7a := Aside0.mk (blk_grown BK6.out hg (Kd.N_ne HO6.out BK6.out (by decide))); have HB7a := Aside0.mk hb; obtain ⟨A5, c5, hv7⟩ := Kd.N_slice ho; subst hv7; have h57 := Kd.N_reads' ho; have HA7a := Aside0.mk h57.2.2; have HC5 := Aside0.mk h57.2.1; have HA7 := Aside0.mk (Kd.F_now (Kd.F_far (Kd.N_F ho) (p := ⟨w2.heap.size, 1, none⟩) (fun k hk => hk) (.slice A5 L5.length c5))); clear ho hb hg hat h57; have hcz0 : w7.cell? ⟨w2.heap.size, 0, none⟩ = some (.bool false) := (blk_cell BK7a.out 0).trans rfl; have hcz1 : w7.cell? ⟨w2.heap.size, 1, none⟩ = some (.slice A2 L.length c2) := (blk_cell BK7a.out 1).trans rfl; have hfz0 := blk_frozen BK7a.out 0; have hfz1 := blk_frozen BK7a.out 1))
  have HB7 := Aside0.mk (below_set HB7a.out GE.out (v := .slice A5 L5.length c5) (j := 1))
  have BK7 := Aside0.mk (blk_put (cs := #[.bool false, .slice A2 L.length c2]) BK7a.out 1 (.slice A5 L5.length c5) rfl)
  generalize w7.setCell ⟨w2.heap.size, 1, none⟩ (.slice A5 L5.length c5) = w7e at HB7 BK7 HA7 ⊢
  have HBe := Aside0.mk (below_drew HB7.out)
  have BKe := Aside0.mk (blk_drew BK7.out)
  have HAe := Aside0.mk (Kd.C_below HA7.out (below_drew (Below.refl _ _)))
  refine start_ (n := 19) (S := fun w' => w'.cell? ⟨w2.heap.size, 0, none⟩ = some (.bool false) ∧ w'.cell? ⟨w2.heap.size, 1, none⟩ = some (.slice A5 L5.length c5)) (ds := []) #[false, false, false, false, false, false, false, false, false, false, false, false, false, false, false, false, false, false, false] (by kernel_rfl) rfl rfl ⟨(blk_cell BKe.out 0).trans rfl, (blk_cell BKe.out 1).trans rfl⟩ (fun hHeld => ?_)
  refine pure_ (i := 1) (N := some 42) (v := ?_) (a' := ?_) #[false, true, false, false, false, false, false, false, false, false, false, false, false, false, false, false, false, false, false] rfl rfl (by kernel_rfl) (fun _ _ _ h => h) (Or.inl ⟨by rfl, ?_⟩) ?_ ?_
  rotate_left
  · intro w'
    go_simp
    with_reducible rfl
  rotate_left
  · simp only [Act.put, List.setIfInBounds_toArray, List.set_cons_zero, List.set_cons_succ, i64_w, i32_w]
    rfl
  refine pure_ (i := 3) (N := some 44) (v := ?_) (a' := ?_) #[false, true, false, true, false, false, false, false, false, false, false, false, false, false, false, false, false, false, false] rfl rfl (by kernel_rfl) (fun _ _ _ h => h) (Or.inl ⟨by rfl, ?_⟩) ?_ ?_
  rotate_left
  · intro w'
    go_simp
    with_reducible rfl
  rotate_left
  · simp only [Act.put, List.setIfInBounds_toArray, List.set_cons_zero, List.set_cons_succ, i64_w, i32_w]
    rfl
  refine pure_ (i := 5) (N := some 46) (v := ?_) (a' := ?_) #[false, true, false, true, false, true, false, false, false, false, false, false, false, false, false, false, false, false, false] rfl rfl (by kernel_rfl) (fun _ _ _ h => h) (Or.inl ⟨by rfl, ?_⟩) ?_ ?_
  rotate_left
  · intro w'
    go_simp
    with_reducible rfl
  rotate_left
  · simp only [Act.put, List.setIfInBounds_toArray, List.set_cons_zero, List.set_cons_succ, i64_w, i32_w]
    rfl
  refine take_ (i := 0) (N := some 41) (v := ?_) (a' := ?_) #[true, true, false, true, false, true, false, false, false, false, false, false, false, false, false, false, false, false, false] rfl rfl (by kernel_rfl) (fun _ _ _ h => h) (Or.inl ⟨by rfl, ?_⟩) hHeld ?_ ?_
  rotate_left
  · rintro w' ⟨s0, s1⟩
    go_simp
    with_reducible rfl
  rotate_left
  · simp only [Act.put, List.setIfInBounds_toArray, List.set_cons_zero, List.set_cons_succ, i64_w, i32_w]
    rfl
  refine one_ (i := 2) (N := some 43) #[true, true, true, true, false, true, false, false, false, false, false, false, false, false, false, false, false, false, false] rfl rfl (by kernel_rfl) (by decide) (fun K hK => ?_)
  refine goes_ Tryd.func14 (by kernel_rfl) rfl #[.slice A1 l1.length c1] (by rfl) rfl rfl (by (try simp only [List.map_toArray, List.map_cons, List.map_nil]); first | done | rfl) ?_
  refine (states_calls A1 c1 l1 _ (Kd.C_below HR1.out HBe.out) HC1.out HF.out.wf1).mono ?_
  rintro e w8 ⟨bm2, rfl, hM, hb⟩
  have HM2 := Aside0.mk hM
  have HA8 := Aside0.mk (Kd.C_below HAe.out hb)
  have HB8 := Aside0.mk (below_then HBe.out HBe.out.size hb)
  have BK8 := Aside0.mk (blk_below BKe.out hb)
  clear hM hb
  refine ⟨_, rfl, ?_⟩
  refine hK.out _ _ ⟨(blk_cell BK8.out 0).trans rfl, (blk_cell BK8.out 1).trans rfl⟩ (fun hHeld => ?_)
  clear hK K
  refine norm_ (a' := ?_) ?_ ?_
  rotate_left
  · show Act.put _ (some 43) _ = _
    simp only [Act.put, List.setIfInBounds_toArray, List.set_cons_zero, List.set_cons_succ, i64_w, i32_w]
    rfl
  refine one_ (i := 4) (N := some 45) #[true, true, true, true, true, true, false, false, false, false, false, false, false, false, false, false, false, false, false] rfl rfl (by kernel_rfl) (by decide) (fun K hK => ?_)
  refine goes_ Tryd.func12 (by kernel_rfl) rfl #[.agg #[.bool false, .slice A5 L5.length c5], .map (some bm2), .bool true] (by rfl) rfl rfl (by (try simp only [List.map_toArray, List.map_cons, List.map_nil]); first | done | rfl) ?_
  refine (ask_calls false A5 c5 L5 true bm2 l1.length (lookF l1) _ HA8.out HC5.out HM2.out HW5.out).mono ?_
  rintro e w9 ⟨he, hb⟩
  rw [W9] at he
  subst he
  have HB9 := Aside0.mk (below_then HB8.out HB8.out.size hb)
  have BK9 := Aside0.mk (blk_below BK8.out hb)
  clear hb
  refine ⟨_, rfl, ?_⟩
  refine hK.out _ _ ⟨(blk_cell BK9.out 0).trans rfl, (blk_cell BK9.out 1).trans rfl⟩ (fun hHeld => ?_)
  clear hK K
  refine norm_ (a' := ?_) ?_ ?_
  rotate_left
  · show Act.put _ (some 45) _ = _
    simp only [Act.put, List.setIfInBounds_toArray, List.set_cons_zero, List.set_cons_succ, i64_w, i32_w]
    rfl
  refine pure_ (i := 6) (N := some 47) (v := ?_) (a' := ?_) #[true, true, true, true, true, true, true, false, false, false, false, false, false, false, false, false, false, false, false] rfl rfl (by kernel_rfl) (fun _ _ _ h => h) (Or.inl ⟨by rfl, ?_⟩) ?_ ?_
  rotate_left
  · intro w'
    go_simp
    with_reducible rfl
  rotate_left
  · simp only [Act.put, List.setIfInBounds_toArray, List.set_cons_zero, List.set_cons_succ, i64_w, i32_w]
    rfl
  refine pure_ (i := 7) (N := some 48) (v := ?_) (a' := ?_) #[true, true, true, true, true, true, true, true, false, false, false, false, false, false, false, false, false, false, false] rfl rfl (by kernel_rfl) (fun _ _ _ h => h) (Or.inl ⟨by rfl, ?_⟩) ?_ ?_
  rotate_left
  · intro w'
    go_simp
    with_reducible rfl
  rotate_left
  · simp only [Act.put, List.setIfInBounds_toArray, List.set_cons_zero, List.set_cons_succ, i64_w, i32_w]
    rfl
  refine pure_ (i := 8) (N := some 49) (v := ?_) (a' := ?_) #[true, true, true, true, true, true, true, true, true, false, false, false, false, false, false, false, false, false, false] rfl rfl (by kernel_rfl) (fun _ _ _ h => h) (Or.inl ⟨by rfl, ?_⟩) ?_ ?_
  rotate_left
  · intro w'
    go_simp
    with_reducible rfl
  rotate_left
  · simp only [Act.put, List.setIfInBounds_toArray, List.set_cons_zero, List.set_cons_succ, i64_w, i32_w]
    rfl
  refine pure_ (i := 9) (N := some 50) (v := ?_) (a' := ?_) #[true, true, true, true, true, true, true, true, true, true, false, false, false, false, false, false, false, false, false] rfl rfl (by kernel_rfl) (fun _ _ _ h => h) (Or.inl ⟨by rfl, ?_⟩) ?_ ?_
  rotate_left
  · intro w'
    go_simp
    with_reducible rfl
  rotate_left
  · simp only [Act.put, List.setIfInBounds_toArray, List.set_cons_zero, List.set_cons_succ, i64_w, i32_w]
    rfl
  refine pure_ (i := 11) (N := some 52) (v := ?_) (a' := ?_) #[true, true, true, true, true, true, true, true, true, true, false, true, false, false, false, false, false, false, false] rfl rfl (by kernel_rfl) (fun _ _ _ h => h) (Or.inl ⟨by rfl, ?_⟩) ?_ ?_
  rotate_left
  · intro w'
    go_simp
    with_reducible rfl
  rotate_left
  · simp only [Act.put, List.setIfInBounds_toArray, List.set_cons_zero, List.set_cons_succ, i64_w, i32_w]
    rfl
  refine one_ (i := 10) (N := some 51) #[true, true, true, true, true, true, true, true, true, true, true, true, false, false, false, false, false, false, false] rfl rfl (by kernel_rfl) (by decide) (fun K hK => ?_)
  refine goes_ Tryd.func14 (by kernel_rfl) rfl #[.slice A1 l1.length c1] (by rfl) rfl rfl (by (try simp only [List.map_toArray, List.map_cons, List.map_nil]); first | done | rfl) ?_
  refine (states_calls A1 c1 l1 _ (Kd.C_below HR1.out HB9.out) HC1.out HF.out.wf1).mono ?_
  rintro e w10 ⟨bm3, rfl, hM, hb⟩
  have HM3 := Aside0.mk hM
  have HB10 := Aside0.mk (below_then HB9.out HB9.out.size hb)
  have BK10 := Aside0.mk (blk_below BK9.out hb)
  clear hM hb
  refine ⟨_, rfl, ?_⟩
  refine hK.out _ _ ⟨(blk_cell BK10.out 0).trans rfl, (blk_cell BK10.out 1).trans rfl⟩ (fun hHeld => ?_)
  clear hK K
  refine norm_ (a' := ?_) ?_ ?_
  rotate_left
  · show Act.put _ (some 51) _ = _
    simp only [Act.put, List.setIfInBounds_toArray, List.set_cons_zero, List.set_cons_succ, i64_w, i32_w]
    rfl
  refine one_ (i := 12) (N := some 53) #[true, true, true, true, true, true, true, true, true, true, true, true, true, false, false, false, false, false, false] rfl rfl (by kernel_rfl) (by decide) (fun K hK => ?_)
  refine goes_ Tryd.func12 (by kernel_rfl) rfl #[.agg #[.bool false, .slice none 0 0], .map (some bm3), .bool true] (by rfl) rfl rfl (by (try simp only [List.map_toArray, List.map_cons, List.map_nil]); first | done | rfl) ?_
  refine (ask_calls false none 0 [] true bm3 l1.length (lookF l1) _ Cnil52 (Nat.le_refl _) HM3.out (fun x hx => absurd hx List.not_mem_nil)).mono ?_
  rintro e w11 ⟨he, hb⟩
  rw [ask_nil] at he
  subst he
  have HB11 := Aside0.mk (below_then HB10.out HB10.out.size hb)
  have BK11 := Aside0.mk (blk_below BK10.out hb)
  clear hb
  refine ⟨_, rfl, ?_⟩
  refine hK.out _ _ ⟨(blk_cell BK11.out 0).trans rfl, (blk_cell BK11.out 1).trans rfl⟩ (fun hHeld => ?_)
  clear hK K
  refine norm_ (a' := ?_) ?_ ?_
  rotate_left
  · show Act.put _ (some 53) _ = _
    simp only [Act.put, List.setIfInBounds_toArray, List.set_cons_zero, List.set_cons_succ, i64_w, i32_w]
    rfl
  refine pure_ (i := 13) (N := some 54) (v := ?_) (a' := ?_) #[true, true, true, true, true, true, true, true, true, true, true, true, true, true, false, false, false, false, false] rfl rfl (by kernel_rfl) (fun _ _ _ h => h) (Or.inl ⟨by rfl, ?_⟩) ?_ ?_
  rotate_left
  · intro w'
    go_simp
    with_reducible rfl
  rotate_left
  · simp only [Act.put, List.setIfInBounds_toArray, List.set_cons_zero, List.set_cons_succ, i64_w, i32_w]
    rfl
  refine pure_ (i := 14) (N := some 55) (v := ?_) (a' := ?_) #[true, true, true, true, true, true, true, true, true, true, true, true, true, true, true, false, false, false, false] rfl rfl (by kernel_rfl) (fun _ _ _ h => h) (Or.inl ⟨by rfl, ?_⟩) ?_ ?_
  rotate_left
  · intro w'
    go_simp
    with_reducible rfl
  rotate_left
  · simp only [Act.put, List.setIfInBounds_toArray, List.set_cons_zero, List.set_cons_succ, i64_w, i32_w]
    rfl
  refine pure_ (i := 15) (N := some 56) (v := ?_) (a' := ?_) #[true, true, true, true, true, true, true, true, true, true, true, true, true, true, true, true, false, false, false] rfl rfl (by kernel_rfl) (fun _ _ _ h => h) (Or.inl ⟨by rfl, ?_⟩) ?_ ?_
  rotate_left
  · intro w'
    go_simp
    with_reducible rfl
  rotate_left
  · simp only [Act.put, List.setIfInBounds_toArray, List.set_cons_zero, List.set_cons_succ, i64_w, i32_w]
    rfl
  refine one_ (i := 16) (N := some 57) #[true, true, true, true, true, true, true, true, true, true, true, true, true, true, true, true, true, false, false] rfl rfl (by kernel_rfl) (by decide) (fun K hK => ?_)
  refine goes_ Tryd.func11 (by kernel_rfl) rfl #[] (by rfl) rfl rfl (by (try simp only [List.map_toArray, List.map_cons, List.map_nil]); first | done | rfl) ?_
  refine (alive_calls _ (HG.out.below HB11.out)).mono ?_
  rintro e w12 ⟨rfl, hb⟩
  have HB12 := Aside0.mk (below_then HB11.out HB11.out.size hb)
  have BK12 := Aside0.mk (blk_below BK11.out hb)
  clear hb
  refine ⟨_, rfl, ?_⟩
  refine hK.out _ _ ⟨(blk_cell BK12.out 0).trans rfl, (blk_cell BK12.out 1).trans rfl⟩ (fun hHeld => ?_)
  clear hK K
  refine norm_ (a' := ?_) ?_ ?_
  rotate_left
  · show Act.put _ (some 57) _ = _
    simp only [Act.put, List.setIfInBounds_toArray, List.set_cons_zero, List.set_cons_succ, i64_w, i32_w]
    rfl
  refine pure_ (i := 17) (N := some 58) (v := ?_) (a' := ?_) #[true, true, true, true, true, true, true, true, true, true, true, true, true, true, true, true, true, true, false] rfl rfl (by kernel_rfl) (fun _ _ _ h => h) (Or.inl ⟨by rfl, ?_⟩) ?_ ?_
  rotate_left
  · intro w'
    go_simp
    with_reducible rfl
  rotate_left
  · simp only [Act.put, List.setIfInBounds_toArray, List.set_cons_zero, List.set_cons_succ, i64_w, i32_w]
    rfl
  refine pure_ (i := 18) (N := some 6) (v := ?_) (a' := ?_) #[true, true, true, true, true, true, true, true, true, true, true, true, true, true, true, true, true, true, true] rfl rfl (by kernel_rfl) (fun _ _ _ h => h) (Or.inl ⟨by rfl, ?_⟩) ?_ ?_
  rotate_left
  · intro w'
    go_simp
    with_reducible rfl
  rotate_left
  · simp only [Act.put, List.setIfInBounds_toArray, List.set_cons_zero, List.set_cons_succ, i64_w, i32_w]
    rfl
  refine done_ (by kernel_rfl) ?_
  go_wp2
  go_ret
  exact ⟨rfl, HB12.out⟩
set_option maxHeartbeats 40000000 in
set_option maxRecDepth 100000 in
theorem alone_f1 (any : Bool) (A : Option Addr) (c : Nat) (l : List S46) (A1 : Option Addr) (c1 : Nat) (l1 : List S48) (w : World) (hr : Kd.C k46 w A l.length l) (hc : l.length ≤ c) (hr1 : Kd.C k48 w A1 l1.length l1) (hc1 : l1.length ≤ c1) (hfit : Fit l l1) (hG : Glob w) (hx : askF (lookF l1) false (l.map At.cv) true = 1) :
    Calls Tryd.prog 7 #[.agg #[.bool any, .slice A l.length c], .slice A1 l1.length c1, .bool false] w fun e w' => e = .returned (.bool true) ∧ Below w.heap.size w w' := by
  have HR := Aside0.mk hr
  have HC := Aside0.mk hc
  have HR1 := Aside0.mk hr1
  have HC1 := Aside0.mk hc1
  have HF := Aside0.mk hfit
  have HG := Aside0.mk hG
  obtain ⟨b, hb, hb60⟩ := much_f any l 101 (by omega)
  have MU := Aside0.mk hb
  have M60 := Aside0.mk hb60
  have hu24 := Tryd.underlying24
  have hu31 := Tryd.underlying31
  have hu52 := Tryd.underlying52
  clear hr hc hr1 hc1 hfit hG hb hb60
  go_enter Tryd.func7, Tryd.ntmps7
  go_wp2_with fail
  refine (marlinspikelaw07_much.calls 101 any A c l b _ ?r1 HC.out MU.out).mono ?_
  case r1 => exact Kd.C_alloc HR.out _
  rintro e w1 ⟨rfl, hb⟩
  have HB := Aside0.mk (below_then (below_alloc (Below.refl w.heap.size w) _) (below_alloc (Below.refl w.heap.size w) _).size hb)
  have BK := Aside0.mk (blk_below (blk_new w (.cells #[.bool any, .slice A l.length c] 24)) hb)
  have hx0 : w1.cell? ⟨w.heap.size, 0, none⟩ = some (.bool any) := (blk_cell BK.out 0).trans rfl
  have hx1 : w1.cell? ⟨w.heap.size, 1, none⟩ = some (.slice A l.length c) := (blk_cell BK.out 1).trans rfl
  have done : ∀ w2, Below w.heap.size w w2 → Calls Tryd.prog 11 #[] w2 fun e w' => e = .returned (.bool true) ∧ Below w.heap.size w w' := fun w2 hb2 => (alive_calls w2 (HG.out.below hb2)).mono fun e w' h => ⟨h.1, below_then hb2 hb2.size h.2⟩
  have DN := Aside0.mk done
  clear hb done
  cases b
  case true =>
    go_wp2_with fail
    refine (DN.out _ HB.out).mono ?_
    rintro e w2 ⟨rfl, hb⟩
    have HB2 := Aside0.mk hb
    clear hb
    go_wp2
    go_ret
    exact ⟨rfl, HB2.out⟩
  have hl60 := M60.out rfl
  by_cases h200 : 200 < l1.length
  · have d200 : decide (200 < l1.length) = true := decide_eq_true h200
    have e200 : ((200 : Int) < (l1.length : Int)) := by omega
    go_wp2_with fail
    all_goals try (exfalso; omega)
    all_goals
      refine (DN.out _ HB.out).mono ?_
      rintro e w2 ⟨rfl, hb⟩
      have HB2 := Aside0.mk hb
      clear hb
      go_wp2
      go_ret
      exact ⟨rfl, HB2.out⟩
  have d200 : decide (200 < l1.length) = false := decide_eq_false h200
  have e200 : ¬((200 : Int) < (l1.length : Int)) := by omega
  cases any
  case true =>
    go_wp2_with fail
    all_goals try (exfalso; omega)
    all_goals
      refine (DN.out _ HB.out).mono ?_
      rintro e w2 ⟨rfl, hb⟩
      have HB2 := Aside0.mk hb
      clear hb
      go_wp2
      go_ret
      exact ⟨rfl, HB2.out⟩
  go_wp2_with fail
  all_goals try (exfalso; omega)
  clear DN
  obtain ⟨L, hL⟩ : ∃ L, L = l.map At.cv := ⟨_, rfl⟩
  obtain ⟨L5, hL5⟩ : ∃ L5, L5 = [(⟨5, []⟩ : S52)] ++ L := ⟨_, rfl⟩
  obtain ⟨r, hrr⟩ : ∃ r, askF (lookF l1) false L true = r := ⟨_, rfl⟩
  replace hx := hx
  rw [← hL, hrr] at hx
  have HX := Aside0.mk hx
  clear hx
  have HLL := Aside0.mk hL
  have HL5 := Aside0.mk hL5
  have HRr := Aside0.mk hrr
  have HLn : L.length ≤ 60 := by rw [hL]; simpa using hl60
  have HW2 : Aside0 (∀ x ∈ L, ∀ y ∈ x.f1, (Lit.int .i64 y).wf = true) := ⟨by rw [hL]; exact HF.out.cv⟩
  have HW5 : Aside0 (∀ x ∈ L5, ∀ y ∈ x.f1, (Lit.int .i64 y).wf = true) := ⟨by rw [hL5, hL]; exact l5_wf HF.out⟩
  have HQ : Aside0 (∀ al, askF (lookF l1) false L5 al = if al = false ∧ r = 1 then 0 else r) := ⟨fun al => by rw [hL5, ← hrr, hL]; exact ask_five (lookF l1) l al⟩
  clear hL hL5 hrr
  refine (marlinspikelaw07_theirs.calls (l.length + 1) false (fun k => k < w1.heap.size) A c l false L _ (V46 (Kd.C_below HR.out HB.out) HC.out) (by rw [HLL.out]; exact theirs_f false l (by omega) _ (by omega))).mono ?_
  rintro e w2 ⟨v2, rfl, hN, hb⟩
  obtain ⟨A2, c2, rfl⟩ := Kd.N_slice hN
  have hN2 := Kd.N_reads' hN
  have HA2 := Aside0.mk hN2.2.2
  have HC2 := Aside0.mk hN2.2.1
  have HB2 := Aside0.mk (below_then HB.out HB.out.size hb)
  clear hN hN2 hb hx0 hx1 h200 d200 e200
  go_wp2_with fail
  have HB3 := Aside0.mk (below_alloc HB2.out (.cells #[.bool false, .slice A2 L.length c2] 31))
  have BK3 := Aside0.mk (blk_new w2 (.cells #[.bool false, .slice A2 L.length c2] 31))
  have HA3 := Aside0.mk (Kd.C_alloc HA2.out (.cells #[.bool false, .slice A2 L.length c2] 31))
  have GE := Aside0.mk HB2.out.size
  have HS3 := Aside0.mk (below_alloc (Below.refl w2.heap.size w2) (.cells #[.bool false, .slice A2 L.length c2] 31))
  generalize w2.alloc (.cells #[.bool false, .slice A2 L.length c2] 31) = w3 at HB3 BK3 HA3 HS3 ⊢
  have HSd := Aside0.mk (below_drew HS3.out)
  have HBd := Aside0.mk (below_drew HB3.out)
  have BKd := Aside0.mk (blk_drew BK3.out)
  have HAd := Aside0.mk (Kd.C_below HA3.out (below_drew (Below.refl _ _)))
  refine start_ (n := 5) (S := fun w' => w'.cell? ⟨w2.heap.size, 0, none⟩ = some (.bool false) ∧ w'.cell? ⟨w2.heap.size, 1, none⟩ = some (.slice A2 L.length c2)) (ds := []) #[false, false, false, false, false] (by kernel_rfl) rfl rfl ⟨(blk_cell BKd.out 0).trans rfl, (blk_cell BKd.out 1).trans rfl⟩ (fun hHeld => ?_)
  refine pure_ (i := 1) (N := some 25) (v := ?_) (a' := ?_) #[false, true, false, false, false] rfl rfl (by kernel_rfl) (fun _ _ _ h => h) (Or.inl ⟨by rfl, ?_⟩) ?_ ?_
  rotate_left
  · intro w'
    go_simp
    with_reducible rfl
  rotate_left
  · simp only [Act.put, List.setIfInBounds_toArray, List.set_cons_zero, List.set_cons_succ, i64_w, i32_w]
    rfl
  refine take_ (i := 0) (N := some 24) (v := ?_) (a' := ?_) #[true, true, false, false, false] rfl rfl (by kernel_rfl) (fun _ _ _ h => h) (Or.inl ⟨by rfl, ?_⟩) hHeld ?_ ?_
  rotate_left
  · rintro w' ⟨s0, s1⟩
    go_simp
    with_reducible rfl
  rotate_left
  · simp only [Act.put, List.setIfInBounds_toArray, List.set_cons_zero, List.set_cons_succ, i64_w, i32_w]
    rfl
  refine one_ (i := 2) (N := some 26) #[true, true, true, false, false] rfl rfl (by kernel_rfl) (by decide) (fun K hK => ?_)
  refine goes_ Tryd.func14 (by kernel_rfl) rfl #[.slice A1 l1.length c1] (by rfl) rfl rfl (by (try simp only [List.map_toArray, List.map_cons, List.map_nil]); first | done | rfl) ?_
  refine (states_calls A1 c1 l1 _ (Kd.C_below HR1.out HBd.out) HC1.out HF.out.wf1).mono ?_
  rintro e w4 ⟨bm, rfl, hM, hb⟩
  have HM := Aside0.mk hM
  have HA4 := Aside0.mk (Kd.C_below HAd.out hb)
  have HS4 := Aside0.mk (below_then HSd.out HSd.out.size hb)
  have HB4 := Aside0.mk (below_then HBd.out HBd.out.size hb)
  have BK4 := Aside0.mk (blk_below BKd.out hb)
  clear hM hb
  refine ⟨_, rfl, ?_⟩
  refine hK.out _ _ ⟨(blk_cell BK4.out 0).trans rfl, (blk_cell BK4.out 1).trans rfl⟩ (fun hHeld => ?_)
  clear hK K
  refine norm_ (a' := ?_) ?_ ?_
  rotate_left
  · show Act.put _ (some 26) _ = _
    simp only [Act.put, List.setIfInBounds_toArray, List.set_cons_zero, List.set_cons_succ, i64_w, i32_w]
    rfl
  refine one_ (i := 3) (N := some 27) #[true, true, true, true, false] rfl rfl (by kernel_rfl) (by decide) (fun K hK => ?_)
  refine goes_ Tryd.func12 (by kernel_rfl) rfl #[.agg #[.bool false, .slice A2 L.length c2], .map (some bm), .bool true] (by rfl) rfl rfl (by (try simp only [List.map_toArray, List.map_cons, List.map_nil]); first | done | rfl) ?_
  refine (ask_calls false A2 c2 L true bm l1.length (lookF l1) _ HA4.out HC2.out HM.out HW2.out).mono ?_
  rintro e w5 ⟨he, hb⟩
  rw [HRr.out] at he
  subst he
  have HA5 := Aside0.mk (Kd.C_below HA4.out hb)
  have HS5 := Aside0.mk (below_then HS4.out HS4.out.size hb)
  have HB5 := Aside0.mk (below_then HB4.out HB4.out.size hb)
  have BK5 := Aside0.mk (blk_below BK4.out hb)
  clear hb
  refine ⟨_, rfl, ?_⟩
  refine hK.out _ _ ⟨(blk_cell BK5.out 0).trans rfl, (blk_cell BK5.out 1).trans rfl⟩ (fun hHeld => ?_)
  clear hK K
  refine norm_ (a' := ?_) ?_ ?_
  rotate_left
  · show Act.put _ (some 27) _ = _
    simp only [Act.put, List.setIfInBounds_toArray, List.set_cons_zero, List.set_cons_succ, i64_w, i32_w]
    rfl
  refine pure_ (i := 4) (N := some 8) (v := ?_) (a' := ?_) #[true, true, true, true, true] rfl rfl (by kernel_rfl) (fun _ _ _ h => h) (Or.inl ⟨by rfl, ?_⟩) ?_ ?_
  rotate_left
  · intro w'
    go_simp
    with_reducible rfl
  rotate_left
  · simp only [Act.put, List.setIfInBounds_toArray, List.set_cons_zero, List.set_cons_succ, i64_w, i32_w]
    rfl
  refine done_ (by kernel_rfl) ?_
  have hr1 := HX.out
  subst hr1
  have W9 := HQ.out false
  rw [if_pos ⟨rfl, rfl⟩] at W9
  have hcx0 : w5.cell? ⟨w2.heap.size, 0, none⟩ = some (.bool false) := (blk_cell BK5.out 0).trans rfl
  have hcx1 : w5.cell? ⟨w2.heap.size, 1, none⟩ = some (.slice A2 L.length c2) := (blk_cell BK5.out 1).trans rfl
  have HF5 := Aside0.mk (Kd.F_below (Kd.C_F heap52 HA2.out) HS5.out)
  have HL25 := Aside0.mk (blk_lt BK5.out)
  go_wp2_with (first
    | ((with_reducible refine gate_dst (N := 29) rfl ?_); refine Kd.R_lit k52 (w0 := w) w.heap.size 52 ?hg (N := 29) ?hd (xs := [(⟨5, []⟩ : S52)]) (inner := [.int .i64 5, .slice none 0 0]) (ok := fun k => k ≠ w2.heap.size) (okp := fun _ => False) ?hr ?hp (fun _ hk => hk.elim) (Nat.ne_of_gt HL25.out) HB5.out HB5.out.size (by simp) ?_; (case hd => rfl); (case hg => rfl); (case hr => first | (go_simp; done) | (go_simp; rfl)); (case hp => exact Reps.snoc (Reps.none _ _) (k52_mkM _ _ _ (⟨5, []⟩ : S52) (Kd.R_nil _ _ _ _ _)) rfl); intro v6 w6 ho hb hg hat; have HO6 := Aside0.mk (Kd.R_N ho); have HB6 := Aside0.mk hb; have HT6 := Aside0.mk hat; have b56 := (Below.refl w5.heap.size w5).grown hg (Nat.le_refl _) (fun k hk => by cases hk); have HF6 := Aside0.mk (Kd.F_below HF5.out b56); have BK6 := Aside0.mk (blk_below BK5.out b56); clear ho hb hg hat b56; have hcy1 : w6.cell? ⟨w2.heap.size, 1, none⟩ = some (.slice A2 L.length c2) := (blk_cell BK6.out 1).trans rfl)
    | ((with_reducible refine gate_builtin (b := .append) (xs := #[.tmp 29, .tmp 31]) rfl ?_); at_builtin; refine Kd.N_append_rows k52 (w0 := w) w.heap.size rfl (.tmp 29) (.tmp 31) 29 52 (.agg #[.int .i64 0, .slice none 0 0]) 32 rfl Tryd.underlying29 info52 rfl (by decide) (by decide) v6 [(⟨5, []⟩ : S52)] L A2 L.length c2 (fun k => k ≠ w2.heap.size) (fun k => k < w2.heap.size) rfl rfl HO6.out HF6.out ?ap (fun k hk => by have := blk_lt BK6.out; omega) HB6.out HB6.out.size ?al ?_; (case ap => intro k hk; exact ⟨Nat.ne_of_lt hk, fun e => by obtain ⟨b, hb, hle⟩ := HT6.out; have := HL25.out; rw [hb] at e; injection e; omega⟩); (case al => simp only [List.length_cons, List.length_nil]; omega); intro v7 w7 ho hb hg hat; rw [← HL5.out] at ho; have BK7a := Aside0.mk (blk_grown BK6.out hg (Kd.N_ne HO6.out BK6.out (by decide))); have HB7a := Aside0.mk hb; obtain ⟨A5, c5, hv7⟩ := Kd.N_slice ho; subst hv7; have h57 := Kd.N_reads' ho; have HA7a := Aside0.mk h57.2.2; have HC5 := Aside0.mk h57.2.1; have HA7 := Aside0.mk (Kd.F_now (Kd.F_far (Kd.N_F ho) (p := ⟨w2.heap.size, 1, none⟩) (fun k hk => hk) (.slice A5 L5.length c5))); clear ho hb hg hat h57; have hcz0 : w7.cell? ⟨w2.heap.size, 0, none⟩ = some (.bool false) := (blk_cell BK7a.out 0).trans rfl; have hcz1 : w7.cell? ⟨w2.heap.size, 1, none⟩ = some (.slice A2 L.length c2) := (blk_cell BK7a.out 1).trans rfl; have hfz0 := blk_frozen BK7a.out 0; have hfz1 := blk_frozen BK7a.out 1))
  have HB7 := Aside0.mk (below_set HB7a.out GE.out (v := .slice A5 L5.length c5) (j := 1))
  have BK7 := Aside0.mk (blk_put (cs := #[.bool false, .slice A2 L.length c2]) BK7a.out 1 (.slice A5 L5.length c5) rfl)
  generalize w7.setCell ⟨w2.heap.size, 1, none⟩ (.slice A5 L5.length c5) = w7e at HB7 BK7 HA7 ⊢
  have HBe := Aside0.mk (below_drew HB7.out)
  have BKe := Aside0.mk (blk_drew BK7.out)
  have HAe := Aside0.mk (Kd.C_below HA7.out (below_drew (Below.refl _ _)))
  refine start_ (n := 19) (S := fun w' => w'.cell? ⟨w2.heap.size, 0, none⟩ = some (.bool false) ∧ w'.cell? ⟨w2.heap.size, 1, none⟩ = some (.slice A5 L5.length c5)) (ds := []) #[false, false, false, false, false, false, false, false, false, false, false, false, false, false, false, false, false, false, false] (by kernel_rfl) rfl rfl ⟨(blk_cell BKe.out 0).trans rfl, (blk_cell BKe.out 1).trans rfl⟩ (fun hHeld => ?_)
  refine pure_ (i := 1) (N := some 42) (v := ?_) (a' := ?_) #[false, true, false, false, false, false, false, false, false, false, false, false, false, false, false, false, false, false, false] rfl rfl (by kernel_rfl) (fun _ _ _ h => h) (Or.inl ⟨by rfl, ?_⟩) ?_ ?_
  rotate_left
  · intro w'
    go_simp
    with_reducible rfl
  rotate_left
  · simp only [Act.put, List.setIfInBounds_toArray, List.set_cons_zero, List.set_cons_succ, i64_w, i32_w]
    rfl
  refine pure_ (i := 3) (N := some 44) (v := ?_) (a' := ?_) #[false, true, false, true, false, false, false, false, false, false, false, false, false, false, false, false, false, false, false] rfl rfl (by kernel_rfl) (fun _ _ _ h => h) (Or.inl ⟨by rfl, ?_⟩) ?_ ?_
  rotate_left
  · intro w'
    go_simp
    with_reducible rfl
  rotate_left
  · simp only [Act.put, List.setIfInBounds_toArray, List.set_cons_zero, List.set_cons_succ, i64_w, i32_w]
    rfl
  refine pure_ (i := 5) (N := some 46) (v := ?_) (a' := ?_) #[false, true, false, true, false, true, false, false, false, false, false, false, false, false, false, false, false, false, false] rfl rfl (by kernel_rfl) (fun _ _ _ h => h) (Or.inl ⟨by rfl, ?_⟩) ?_ ?_
  rotate_left
  · intro w'
    go_simp
    with_reducible rfl
  rotate_left
  · simp only [Act.put, List.setIfInBounds_toArray, List.set_cons_zero, List.set_cons_succ, i64_w, i32_w]
    rfl
  refine take_ (i := 0) (N := some 41) (v := ?_) (a' := ?_) #[true, true, false, true, false, true, false, false, false, false, false, false, false, false, false, false, false, false, false] rfl rfl (by kernel_rfl) (fun _ _ _ h => h) (Or.inl ⟨by rfl, ?_⟩) hHeld ?_ ?_
  rotate_left
  · rintro w' ⟨s0, s1⟩
    go_simp
    with_reducible rfl
  rotate_left
  · simp only [Act.put, List.setIfInBounds_toArray, List.set_cons_zero, List.set_cons_succ, i64_w, i32_w]
    rfl
  refine one_ (i := 2) (N := some 43) #[true, true, true, true, false, true, false, false, false, false, false, false, false, false, false, false, false, false, false] rfl rfl (by kernel_rfl) (by decide) (fun K hK => ?_)
  refine goes_ Tryd.func14 (by kernel_rfl) rfl #[.slice A1 l1.length c1] (by rfl) rfl rfl (by (try simp only [List.map_toArray, List.map_cons, List.map_nil]); first | done | rfl) ?_
  refine (states_calls A1 c1 l1 _ (Kd.C_below HR1.out HBe.out) HC1.out HF.out.wf1).mono ?_
  rintro e w8 ⟨bm2, rfl, hM, hb⟩
  have HM2 := Aside0.mk hM
  have HA8 := Aside0.mk (Kd.C_below HAe.out hb)
  have HB8 := Aside0.mk (below_then HBe.out HBe.out.size hb)
  have BK8 := Aside0.mk (blk_below BKe.out hb)
  clear hM hb
  refine ⟨_, rfl, ?_⟩
  refine hK.out _ _ ⟨(blk_cell BK8.out 0).trans rfl, (blk_cell BK8.out 1).trans rfl⟩ (fun hHeld => ?_)
  clear hK K
  refine norm_ (a' := ?_) ?_ ?_
  rotate_left
  · show Act.put _ (some 43) _ = _
    simp only [Act.put, List.setIfInBounds_toArray, List.set_cons_zero, List.set_cons_succ, i64_w, i32_w]
    rfl
  refine one_ (i := 4) (N := some 45) #[true, true, true, true, true, true, false, false, false, false, false, false, false, false, false, false, false, false, false] rfl rfl (by kernel_rfl) (by decide) (fun K hK => ?_)
  refine goes_ Tryd.func12 (by kernel_rfl) rfl #[.agg #[.bool false, .slice A5 L5.length c5], .map (some bm2), .bool false] (by rfl) rfl rfl (by (try simp only [List.map_toArray, List.map_cons, List.map_nil]); first | done | rfl) ?_
  refine (ask_calls false A5 c5 L5 false bm2 l1.length (lookF l1) _ HA8.out HC5.out HM2.out HW5.out).mono ?_
  rintro e w9 ⟨he, hb⟩
  rw [W9] at he
  subst he
  have HB9 := Aside0.mk (below_then HB8.out HB8.out.size hb)
  have BK9 := Aside0.mk (blk_below BK8.out hb)
  clear hb
  refine ⟨_, rfl, ?_⟩
  refine hK.out _ _ ⟨(blk_cell BK9.out 0).trans rfl, (blk_cell BK9.out 1).trans rfl⟩ (fun hHeld => ?_)
  clear hK K
  refine norm_ (a' := ?_) ?_ ?_
  rotate_left
  · show Act.put _ (some 45) _ = _
    simp only [Act.put, List.setIfInBounds_toArray, List.set_cons_zero, List.set_cons_succ, i64_w, i32_w]
    rfl
  refine pure_ (i := 6) (N := some 47) (v := ?_) (a' := ?_) #[true, true, true, true, true, true, true, false, false, false, false, false, false, false, false, false, false, false, false] rfl rfl (by kernel_rfl) (fun _ _ _ h => h) (Or.inl ⟨by rfl, ?_⟩) ?_ ?_
  rotate_left
  · intro w'
    go_simp
    with_reducible rfl
  rotate_left
  · simp only [Act.put, List.setIfInBounds_toArray, List.set_cons_zero, List.set_cons_succ, i64_w, i32_w]
    rfl
  refine pure_ (i := 7) (N := some 48) (v := ?_) (a' := ?_) #[true, true, true, true, true, true, true, true, false, false, false, false, false, false, false, false, false, false, false] rfl rfl (by kernel_rfl) (fun _ _ _ h => h) (Or.inl ⟨by rfl, ?_⟩) ?_ ?_
  rotate_left
  · intro w'
    go_simp
    with_reducible rfl
  rotate_left
  · simp only [Act.put, List.setIfInBounds_toArray, List.set_cons_zero, List.set_cons_succ, i64_w, i32_w]
    rfl
  refine pure_ (i := 8) (N := some 49) (v := ?_) (a' := ?_) #[true, true, true, true, true, true, true, true, true, false, false, false, false, false, false, false, false, false, false] rfl rfl (by kernel_rfl) (fun _ _ _ h => h) (Or.inl ⟨by rfl, ?_⟩) ?_ ?_
  rotate_left
  · intro w'
    go_simp
    with_reducible rfl
  rotate_left
  · simp only [Act.put, List.setIfInBounds_toArray, List.set_cons_zero, List.set_cons_succ, i64_w, i32_w]
    rfl
  refine pure_ (i := 9) (N := some 50) (v := ?_) (a' := ?_) #[true, true, true, true, true, true, true, true, true, true, false, false, false, false, false, false, false, false, false] rfl rfl (by kernel_rfl) (fun _ _ _ h => h) (Or.inl ⟨by rfl, ?_⟩) ?_ ?_
  rotate_left
  · intro w'
    go_simp
    with_reducible rfl
  rotate_left
  · simp only [Act.put, List.setIfInBounds_toArray, List.set_cons_zero, List.set_cons_succ, i64_w, i32_w]
    rfl
  refine pure_ (i := 11) (N := some 52) (v := ?_) (a' := ?_) #[true, true, true, true, true, true, true, true, true, true, false, true, false, false, false, false, false, false, false] rfl rfl (by kernel_rfl) (fun _ _ _ h => h) (Or.inl ⟨by rfl, ?_⟩) ?_ ?_
  rotate_left
  · intro w'
    go_simp
    with_reducible rfl
  rotate_left
  · simp only [Act.put, List.setIfInBounds_toArray, List.set_cons_zero, List.set_cons_succ, i64_w, i32_w]
    rfl
  refine one_ (i := 10) (N := some 51) #[true, true, true, true, true, true, true, true, true, true, true, true, false, false, false, false, false, false, false] rfl rfl (by kernel_rfl) (by decide) (fun K hK => ?_)
  refine goes_ Tryd.func14 (by kernel_rfl) rfl #[.slice A1 l1.length c1] (by rfl) rfl rfl (by (try simp only [List.map_toArray, List.map_cons, List.map_nil]); first | done | rfl) ?_
  refine (states_calls A1 c1 l1 _ (Kd.C_below HR1.out HB9.out) HC1.out HF.out.wf1).mono ?_
  rintro e w10 ⟨bm3, rfl, hM, hb⟩
  have HM3 := Aside0.mk hM
  have HB10 := Aside0.mk (below_then HB9.out HB9.out.size hb)
  have BK10 := Aside0.mk (blk_below BK9.out hb)
  clear hM hb
  refine ⟨_, rfl, ?_⟩
  refine hK.out _ _ ⟨(blk_cell BK10.out 0).trans rfl, (blk_cell BK10.out 1).trans rfl⟩ (fun hHeld => ?_)
  clear hK K
  refine norm_ (a' := ?_) ?_ ?_
  rotate_left
  · show Act.put _ (some 51) _ = _
    simp only [Act.put, List.setIfInBounds_toArray, List.set_cons_zero, List.set_cons_succ, i64_w, i32_w]
    rfl
  refine one_ (i := 12) (N := some 53) #[true, true, true, true, true, true, true, true, true, true, true, true, true, false, false, false, false, false, false] rfl rfl (by kernel_rfl) (by decide) (fun K hK => ?_)
  refine goes_ Tryd.func12 (by kernel_rfl) rfl #[.agg #[.bool false, .slice none 0 0], .map (some bm3), .bool false] (by rfl) rfl rfl (by (try simp only [List.map_toArray, List.map_cons, List.map_nil]); first | done | rfl) ?_
  refine (ask_calls false none 0 [] false bm3 l1.length (lookF l1) _ Cnil52 (Nat.le_refl _) HM3.out (fun x hx => absurd hx List.not_mem_nil)).mono ?_
  rintro e w11 ⟨he, hb⟩
  rw [ask_nil] at he
  subst he
  have HB11 := Aside0.mk (below_then HB10.out HB10.out.size hb)
  have BK11 := Aside0.mk (blk_below BK10.out hb)
  clear hb
  refine ⟨_, rfl, ?_⟩
  refine hK.out _ _ ⟨(blk_cell BK11.out 0).trans rfl, (blk_cell BK11.out 1).trans rfl⟩ (fun hHeld => ?_)
  clear hK K
  refine norm_ (a' := ?_) ?_ ?_
  rotate_left
  · show Act.put _ (some 53) _ = _
    simp only [Act.put, List.setIfInBounds_toArray, List.set_cons_zero, List.set_cons_succ, i64_w, i32_w]
    rfl
  refine pure_ (i := 13) (N := some 54) (v := ?_) (a' := ?_) #[true, true, true, true, true, true, true, true, true, true, true, true, true, true, false, false, false, false, false] rfl rfl (by kernel_rfl) (fun _ _ _ h => h) (Or.inl ⟨by rfl, ?_⟩) ?_ ?_
  rotate_left
  · intro w'
    go_simp
    with_reducible rfl
  rotate_left
  · simp only [Act.put, List.setIfInBounds_toArray, List.set_cons_zero, List.set_cons_succ, i64_w, i32_w]
    rfl
  refine pure_ (i := 14) (N := some 55) (v := ?_) (a' := ?_) #[true, true, true, true, true, true, true, true, true, true, true, true, true, true, true, false, false, false, false] rfl rfl (by kernel_rfl) (fun _ _ _ h => h) (Or.inl ⟨by rfl, ?_⟩) ?_ ?_
  rotate_left
  · intro w'
    go_simp
    with_reducible rfl
  rotate_left
  · simp only [Act.put, List.setIfInBounds_toArray, List.set_cons_zero, List.set_cons_succ, i64_w, i32_w]
    rfl
  refine pure_ (i := 15) (N := some 56) (v := ?_) (a' := ?_) #[true, true, true, true, true, true, true, true, true, true, true, true, true, true, true, true, false, false, false] rfl rfl (by kernel_rfl) (fun _ _ _ h => h) (Or.inl ⟨by rfl, ?_⟩) ?_ ?_
  rotate_left
  · intro w'
    go_simp
    with_reducible rfl
  rotate_left
  · simp only [Act.put, List.setIfInBounds_toArray, List.set_cons_zero, List.set_cons_succ, i64_w, i32_w]
    rfl
  refine one_ (i := 16) (N := some 57) #[true, true, true, true, true, true, true, true, true, true, true, true, true, true, true, true, true, false, false] rfl rfl (by kernel_rfl) (by decide) (fun K hK => ?_)
  refine goes_ Tryd.func11 (by kernel_rfl) rfl #[] (by rfl) rfl rfl (by (try simp only [List.map_toArray, List.map_cons, List.map_nil]); first | done | rfl) ?_
  refine (alive_calls _ (HG.out.below HB11.out)).mono ?_
  rintro e w12 ⟨rfl, hb⟩
  have HB12 := Aside0.mk (below_then HB11.out HB11.out.size hb)
  have BK12 := Aside0.mk (blk_below BK11.out hb)
  clear hb
  refine ⟨_, rfl, ?_⟩
  refine hK.out _ _ ⟨(blk_cell BK12.out 0).trans rfl, (blk_cell BK12.out 1).trans rfl⟩ (fun hHeld => ?_)
  clear hK K
  refine norm_ (a' := ?_) ?_ ?_
  rotate_left
  · show Act.put _ (some 57) _ = _
    simp only [Act.put, List.setIfInBounds_toArray, List.set_cons_zero, List.set_cons_succ, i64_w, i32_w]
    rfl
  refine pure_ (i := 17) (N := some 58) (v := ?_) (a' := ?_) #[true, true, true, true, true, true, true, true, true, true, true, true, true, true, true, true, true, true, false] rfl rfl (by kernel_rfl) (fun _ _ _ h => h) (Or.inl ⟨by rfl, ?_⟩) ?_ ?_
  rotate_left
  · intro w'
    go_simp
    with_reducible rfl
  rotate_left
  · simp only [Act.put, List.setIfInBounds_toArray, List.set_cons_zero, List.set_cons_succ, i64_w, i32_w]
    rfl
  refine pure_ (i := 18) (N := some 6) (v := ?_) (a' := ?_) #[true, true, true, true, true, true, true, true, true, true, true, true, true, true, true, true, true, true, true] rfl rfl (by kernel_rfl) (fun _ _ _ h => h) (Or.inl ⟨by rfl, ?_⟩) ?_ ?_
  rotate_left
  · intro w'
    go_simp
    with_reducible rfl
  rotate_left
  · simp only [Act.put, List.setIfInBounds_toArray, List.set_cons_zero, List.set_cons_succ, i64_w, i32_w]
    rfl
  refine done_ (by kernel_rfl) ?_
  go_wp2
  go_ret
  exact ⟨rfl, HB12.out⟩
set_option maxHeartbeats 40000000 in
set_option maxRecDepth 100000 in
theorem alone_f2 (any : Bool) (A : Option Addr) (c : Nat) (l : List S46) (A1 : Option Addr) (c1 : Nat) (l1 : List S48) (w : World) (hr : Kd.C k46 w A l.length l) (hc : l.length ≤ c) (hr1 : Kd.C k48 w A1 l1.length l1) (hc1 : l1.length ≤ c1) (hfit : Fit l l1) (hG : Glob w) (hx : ¬askF (lookF l1) false (l.map At.cv) true = 1) :
    Calls Tryd.prog 7 #[.agg #[.bool any, .slice A l.length c], .slice A1 l1.length c1, .bool false] w fun e w' => e = .returned (.bool true) ∧ Below w.heap.size w w' := by
  have HR := Aside0.mk hr
  have HC := Aside0.mk hc
  have HR1 := Aside0.mk hr1
  have HC1 := Aside0.mk hc1
  have HF := Aside0.mk hfit
  have HG := Aside0.mk hG
  obtain ⟨b, hb, hb60⟩ := much_f any l 101 (by omega)
  have MU := Aside0.mk hb
  have M60 := Aside0.mk hb60
  have hu24 := Tryd.underlying24
  have hu31 := Tryd.underlying31
  have hu52 := Tryd.underlying52
  clear hr hc hr1 hc1 hfit hG hb hb60
  go_enter Tryd.func7, Tryd.ntmps7
  go_wp2_with fail
  refine (marlinspikelaw07_much.calls 101 any A c l b _ ?r1 HC.out MU.out).mono ?_
  case r1 => exact Kd.C_alloc HR.out _
  rintro e w1 ⟨rfl, hb⟩
  have HB := Aside0.mk (below_then (below_alloc (Below.refl w.heap.size w) _) (below_alloc (Below.refl w.heap.size w) _).size hb)
  have BK := Aside0.mk (blk_below (blk_new w (.cells #[.bool any, .slice A l.length c] 24)) hb)
  have hx0 : w1.cell? ⟨w.heap.size, 0, none⟩ = some (.bool any) := (blk_cell BK.out 0).trans rfl
  have hx1 : w1.cell? ⟨w.heap.size, 1, none⟩ = some (.slice A l.length c) := (blk_cell BK.out 1).trans rfl
  have done : ∀ w2, Below w.heap.size w w2 → Calls Tryd.prog 11 #[] w2 fun e w' => e = .returned (.bool true) ∧ Below w.heap.size w w' := fun w2 hb2 => (alive_calls w2 (HG.out.below hb2)).mono fun e w' h => ⟨h.1, below_then hb2 hb2.size h.2⟩
  have DN := Aside0.mk done
  clear hb done
  cases b
  case true =>
    go_wp2_with fail
    refine (DN.out _ HB.out).mono ?_
    rintro e w2 ⟨rfl, hb⟩
    have HB2 := Aside0.mk hb
    clear hb
    go_wp2
    go_ret
    exact ⟨rfl, HB2.out⟩
  have hl60 := M60.out rfl
  by_cases h200 : 200 < l1.length
  · have d200 : decide (200 < l1.length) = true := decide_eq_true h200
    have e200 : ((200 : Int) < (l1.length : Int)) := by omega
    go_wp2_with fail
    all_goals try (exfalso; omega)
    all_goals
      refine (DN.out _ HB.out).mono ?_
      rintro e w2 ⟨rfl, hb⟩
      have HB2 := Aside0.mk hb
      clear hb
      go_wp2
      go_ret
      exact ⟨rfl, HB2.out⟩
  have d200 : decide (200 < l1.length) = false := decide_eq_false h200
  have e200 : ¬((200 : Int) < (l1.length : Int)) := by omega
  cases any
  case true =>
    go_wp2_with fail
    all_goals try (exfalso; omega)
    all_goals
      refine (DN.out _ HB.out).mono ?_
      rintro e w2 ⟨rfl, hb⟩
      have HB2 := Aside0.mk hb
      clear hb
      go_wp2
      go_ret
      exact ⟨rfl, HB2.out⟩
  go_wp2_with fail
  all_goals try (exfalso; omega)
  clear DN
  obtain ⟨L, hL⟩ : ∃ L, L = l.map At.cv := ⟨_, rfl⟩
  obtain ⟨L5, hL5⟩ : ∃ L5, L5 = [(⟨5, []⟩ : S52)] ++ L := ⟨_, rfl⟩
  obtain ⟨r, hrr⟩ : ∃ r, askF (lookF l1) false L true = r := ⟨_, rfl⟩
  replace hx := hx
  rw [← hL, hrr] at hx
  have HX := Aside0.mk hx
  clear hx
  have HLL := Aside0.mk hL
  have HL5 := Aside0.mk hL5
  have HRr := Aside0.mk hrr
  have HLn : L.length ≤ 60 := by rw [hL]; simpa using hl60
  have HW2 : Aside0 (∀ x ∈ L, ∀ y ∈ x.f1, (Lit.int .i64 y).wf = true) := ⟨by rw [hL]; exact HF.out.cv⟩
  have HW5 : Aside0 (∀ x ∈ L5, ∀ y ∈ x.f1, (Lit.int .i64 y).wf = true) := ⟨by rw [hL5, hL]; exact l5_wf HF.out⟩
  have HQ : Aside0 (∀ al, askF (lookF l1) false L5 al = if al = false ∧ r = 1 then 0 else r) := ⟨fun al => by rw [hL5, ← hrr, hL]; exact ask_five (lookF l1) l al⟩
  clear hL hL5 hrr
  refine (marlinspikelaw07_theirs.calls (l.length + 1) false (fun k => k < w1.heap.size) A c l false L _ (V46 (Kd.C_below HR.out HB.out) HC.out) (by rw [HLL.out]; exact theirs_f false l (by omega) _ (by omega))).mono ?_
  rintro e w2 ⟨v2, rfl, hN, hb⟩
  obtain ⟨A2, c2, rfl⟩ := Kd.N_slice hN
  have hN2 := Kd.N_reads' hN
  have HA2 := Aside0.mk hN2.2.2
  have HC2 := Aside0.mk hN2.2.1
  have HB2 := Aside0.mk (below_then HB.out HB.out.size hb)
  clear hN hN2 hb hx0 hx1 h200 d200 e200
  go_wp2_with fail
  have HB3 := Aside0.mk (below_alloc HB2.out (.cells #[.bool false, .slice A2 L.length c2] 31))
  have BK3 := Aside0.mk (blk_new w2 (.cells #[.bool false, .slice A2 L.length c2] 31))
  have HA3 := Aside0.mk (Kd.C_alloc HA2.out (.cells #[.bool false, .slice A2 L.length c2] 31))
  have GE := Aside0.mk HB2.out.size
  have HS3 := Aside0.mk (below_alloc (Below.refl w2.heap.size w2) (.cells #[.bool false, .slice A2 L.length c2] 31))
  generalize w2.alloc (.cells #[.bool false, .slice A2 L.length c2] 31) = w3 at HB3 BK3 HA3 HS3 ⊢
  have HSd := Aside0.mk (below_drew HS3.out)
  have HBd := Aside0.mk (below_drew HB3.out)
  have BKd := Aside0.mk (blk_drew BK3.out)
  have HAd := Aside0.mk (Kd.C_below HA3.out (below_drew (Below.refl _ _)))
  refine start_ (n := 5) (S := fun w' => w'.cell? ⟨w2.heap.size, 0, none⟩ = some (.bool false) ∧ w'.cell? ⟨w2.heap.size, 1, none⟩ = some (.slice A2 L.length c2)) (ds := []) #[false, false, false, false, false] (by kernel_rfl) rfl rfl ⟨(blk_cell BKd.out 0).trans rfl, (blk_cell BKd.out 1).trans rfl⟩ (fun hHeld => ?_)
  refine pure_ (i := 1) (N := some 25) (v := ?_) (a' := ?_) #[false, true, false, false, false] rfl rfl (by kernel_rfl) (fun _ _ _ h => h) (Or.inl ⟨by rfl, ?_⟩) ?_ ?_
  rotate_left
  · intro w'
    go_simp
    with_reducible rfl
  rotate_left
  · simp only [Act.put, List.setIfInBounds_toArray, List.set_cons_zero, List.set_cons_succ, i64_w, i32_w]
    rfl
  refine take_ (i := 0) (N := some 24) (v := ?_) (a' := ?_) #[true, true, false, false, false] rfl rfl (by kernel_rfl) (fun _ _ _ h => h) (Or.inl ⟨by rfl, ?_⟩) hHeld ?_ ?_
  rotate_left
  · rintro w' ⟨s0, s1⟩
    go_simp
    with_reducible rfl
  rotate_left
  · simp only [Act.put, List.setIfInBounds_toArray, List.set_cons_zero, List.set_cons_succ, i64_w, i32_w]
    rfl
  refine one_ (i := 2) (N := some 26) #[true, true, true, false, false] rfl rfl (by kernel_rfl) (by decide) (fun K hK => ?_)
  refine goes_ Tryd.func14 (by kernel_rfl) rfl #[.slice A1 l1.length c1] (by rfl) rfl rfl (by (try simp only [List.map_toArray, List.map_cons, List.map_nil]); first | done | rfl) ?_
  refine (states_calls A1 c1 l1 _ (Kd.C_below HR1.out HBd.out) HC1.out HF.out.wf1).mono ?_
  rintro e w4 ⟨bm, rfl, hM, hb⟩
  have HM := Aside0.mk hM
  have HA4 := Aside0.mk (Kd.C_below HAd.out hb)
  have HS4 := Aside0.mk (below_then HSd.out HSd.out.size hb)
  have HB4 := Aside0.mk (below_then HBd.out HBd.out.size hb)
  have BK4 := Aside0.mk (blk_below BKd.out hb)
  clear hM hb
  refine ⟨_, rfl, ?_⟩
  refine hK.out _ _ ⟨(blk_cell BK4.out 0).trans rfl, (blk_cell BK4.out 1).trans rfl⟩ (fun hHeld => ?_)
  clear hK K
  refine norm_ (a' := ?_) ?_ ?_
  rotate_left
  · show Act.put _ (some 26) _ = _
    simp only [Act.put, List.setIfInBounds_toArray, List.set_cons_zero, List.set_cons_succ, i64_w, i32_w]
    rfl
  refine one_ (i := 3) (N := some 27) #[true, true, true, true, false] rfl rfl (by kernel_rfl) (by decide) (fun K hK => ?_)
  refine goes_ Tryd.func12 (by kernel_rfl) rfl #[.agg #[.bool false, .slice A2 L.length c2], .map (some bm), .bool true] (by rfl) rfl rfl (by (try simp only [List.map_toArray, List.map_cons, List.map_nil]); first | done | rfl) ?_
  refine (ask_calls false A2 c2 L true bm l1.length (lookF l1) _ HA4.out HC2.out HM.out HW2.out).mono ?_
  rintro e w5 ⟨he, hb⟩
  rw [HRr.out] at he
  subst he
  have HA5 := Aside0.mk (Kd.C_below HA4.out hb)
  have HS5 := Aside0.mk (below_then HS4.out HS4.out.size hb)
  have HB5 := Aside0.mk (below_then HB4.out HB4.out.size hb)
  have BK5 := Aside0.mk (blk_below BK4.out hb)
  clear hb
  refine ⟨_, rfl, ?_⟩
  refine hK.out _ _ ⟨(blk_cell BK5.out 0).trans rfl, (blk_cell BK5.out 1).trans rfl⟩ (fun hHeld => ?_)
  clear hK K
  refine norm_ (a' := ?_) ?_ ?_
  rotate_left
  · show Act.put _ (some 27) _ = _
    simp only [Act.put, List.setIfInBounds_toArray, List.set_cons_zero, List.set_cons_succ, i64_w, i32_w]
    rfl
  refine pure_ (i := 4) (N := some 8) (v := ?_) (a' := ?_) #[true, true, true, true, true] rfl rfl (by kernel_rfl) (fun _ _ _ h => h) (Or.inl ⟨by rfl, ?_⟩) ?_ ?_
  rotate_left
  · intro w'
    go_simp
    with_reducible rfl
  rotate_left
  · simp only [Act.put, List.setIfInBounds_toArray, List.set_cons_zero, List.set_cons_succ, i64_w, i32_w]
    rfl
  refine done_ (by kernel_rfl) ?_
  have hr1 := HX.out
  have e1 : (r == 1) = false := beq_false_of_ne hr1
  have W9 := HQ.out false
  rw [if_neg (fun h => hr1 h.2)] at W9
  have hcx0 : w5.cell? ⟨w2.heap.size, 0, none⟩ = some (.bool false) := (blk_cell BK5.out 0).trans rfl
  have hcx1 : w5.cell? ⟨w2.heap.size, 1, none⟩ = some (.slice A2 L.length c2) := (blk_cell BK5.out 1).trans rfl
  have HF5 := Aside0.mk (Kd.F_below (Kd.C_F heap52 HA2.out) HS5.out)
  have HL25 := Aside0.mk (blk_lt BK5.out)
  go_wp2_with (first
    | ((with_reducible refine gate_dst (N := 29) rfl ?_); refine Kd.R_lit k52 (w0 := w) w.heap.size 52 ?hg (N := 29) ?hd (xs := [(⟨5, []⟩ : S52)]) (inner := [.int .i64 5, .slice none 0 0]) (ok := fun k => k ≠ w2.heap.size) (okp := fun _ => False) ?hr ?hp (fun _ hk => hk.elim) (Nat.ne_of_gt HL25.out) HB5.out HB5.out.size (by simp) ?_; (case hd => rfl); (case hg => rfl); (case hr => first | (go_simp; done) | (go_simp; rfl)); (case hp => exact Reps.snoc (Reps.none _ _) (k52_mkM _ _ _ (⟨5, []⟩ : S52) (Kd.R_nil _ _ _ _ _)) rfl); intro v6 w6 ho hb hg hat; have HO6 := Aside0.mk (Kd.R_N ho); have HB6 := Aside0.mk hb; have HT6 := Aside0.mk hat; have b56 := (Below.refl w5.heap.size w5).grown hg (Nat.le_refl _) (fun k hk => by cases hk); have HF6 := Aside0.mk (Kd.F_below HF5.out b56); have BK6 := Aside0.mk (blk_below BK5.out b56); clear ho hb hg hat b56; have hcy1 : w6.cell? ⟨w2.heap.size, 1, none⟩ = some (.slice A2 L.length c2) := (blk_cell BK6.out 1).trans rfl)
    | ((with_reducible refine gate_builtin (b := .append) (xs := #[.tmp 29, .tmp 31]) rfl ?_); at_builtin; refine Kd.N_append_rows k52 (w0 := w) w.heap.size rfl (.tmp 29) (.tmp 31) 29 52 (.agg #[.int .i64 0, .slice none 0 0]) 32 rfl Tryd.underlying29 info52 rfl (by decide) (by decide) v6 [(⟨5, []⟩ : S52)] L A2 L.length c2 (fun k => k ≠ w2.heap.size) (fun k => k < w2.heap.size) rfl rfl HO6.out HF6.out ?ap (fun k hk => by have := blk_lt BK6.out; omega) HB6.out HB6.out.size ?al ?_; (case ap => intro k hk; exact ⟨Nat.ne_of_lt hk, fun e => by obtain ⟨b, hb, hle⟩ := HT6.out; have := HL25.out; rw [hb] at e; injection e; omega⟩); (case al => simp only [List.length_cons, List.length_nil]; omega); intro v7 w7 ho hb hg hat; rw [← HL5.out] at ho; have BK7a := Aside0.mk (blk_grown BK6.out hg (Kd.N_ne HO6.out BK6.out (by decide))); have HB7a := Aside0.mk hb; obtain ⟨A5, c5, hv7⟩ := Kd.N_slice ho; subst hv7; have h57 := Kd.N_reads' ho; have HA7a := Aside0.mk h57.2.2; have HC5 := Aside0.mk h57.2.1; have HA7 := Aside0.mk (Kd.F_now (Kd.F_far (Kd.N_F ho) (p := ⟨w2.heap.size, 1, none⟩) (fun k hk => hk) (.slice A5 L5.length c5))); clear ho hb hg hat h57; have hcz0 : w7.cell? ⟨w2.heap.size, 0, none⟩ = some (.bool false) := (blk_cell BK7a.out 0).trans rfl; have hcz1 : w7.cell? ⟨w2.heap.size, 1, none⟩ = some (.slice A2 L.length c2) := (blk_cell BK7a.out 1).trans rfl; have hfz0 := blk_frozen BK7a.out 0; have hfz1 := blk_frozen BK7a.out 1))
  have HB7 := Aside0.mk (below_set HB7a.out GE.out (v := .slice A5 L5.length c5) (j := 1))
  have BK7 := Aside0.mk (blk_put (cs := #[.bool false, .slice A2 L.length c2]) BK7a.out 1 (.slice A5 L5.length c5) rfl)
  generalize w7.setCell ⟨w2.heap.size, 1, none⟩ (.slice A5 L5.length c5) = w7e at HB7 BK7 HA7 ⊢
  have HBe := Aside0.mk (below_drew HB7.out)
  have BKe := Aside0.mk (blk_drew BK7.out)
  have HAe := Aside0.mk (Kd.C_below HA7.out (below_drew (Below.refl _ _)))
  refine start_ (n := 19) (S := fun w' => w'.cell? ⟨w2.heap.size, 0, none⟩ = some (.bool false) ∧ w'.cell? ⟨w2.heap.size, 1, none⟩ = some (.slice A5 L5.length c5)) (ds := []) #[false, false, false, false, false, false, false, false, false, false, false, false, false, false, false, false, false, false, false] (by kernel_rfl) rfl rfl ⟨(blk_cell BKe.out 0).trans rfl, (blk_cell BKe.out 1).trans rfl⟩ (fun hHeld => ?_)
  refine pure_ (i := 1) (N := some 42) (v := ?_) (a' := ?_) #[false, true, false, false, false, false, false, false, false, false, false, false, false, false, false, false, false, false, false] rfl rfl (by kernel_rfl) (fun _ _ _ h => h) (Or.inl ⟨by rfl, ?_⟩) ?_ ?_
  rotate_left
  · intro w'
    go_simp
    with_reducible rfl
  rotate_left
  · simp only [Act.put, List.setIfInBounds_toArray, List.set_cons_zero, List.set_cons_succ, i64_w, i32_w]
    rfl
  refine pure_ (i := 3) (N := some 44) (v := ?_) (a' := ?_) #[false, true, false, true, false, false, false, false, false, false, false, false, false, false, false, false, false, false, false] rfl rfl (by kernel_rfl) (fun _ _ _ h => h) (Or.inl ⟨by rfl, ?_⟩) ?_ ?_
  rotate_left
  · intro w'
    go_simp
    with_reducible rfl
  rotate_left
  · simp only [Act.put, List.setIfInBounds_toArray, List.set_cons_zero, List.set_cons_succ, i64_w, i32_w]
    rfl
  refine pure_ (i := 5) (N := some 46) (v := ?_) (a' := ?_) #[false, true, false, true, false, true, false, false, false, false, false, false, false, false, false, false, false, false, false] rfl rfl (by kernel_rfl) (fun _ _ _ h => h) (Or.inl ⟨by rfl, ?_⟩) ?_ ?_
  rotate_left
  · intro w'
    go_simp
    with_reducible rfl
  rotate_left
  · simp only [Act.put, List.setIfInBounds_toArray, List.set_cons_zero, List.set_cons_succ, i64_w, i32_w]
    rfl
  refine take_ (i := 0) (N := some 41) (v := ?_) (a' := ?_) #[true, true, false, true, false, true, false, false, false, false, false, false, false, false, false, false, false, false, false] rfl rfl (by kernel_rfl) (fun _ _ _ h => h) (Or.inl ⟨by rfl, ?_⟩) hHeld ?_ ?_
  rotate_left
  · rintro w' ⟨s0, s1⟩
    go_simp
    with_reducible rfl
  rotate_left
  · simp only [Act.put, List.setIfInBounds_toArray, List.set_cons_zero, List.set_cons_succ, i64_w, i32_w]
    rfl
  refine one_ (i := 2) (N := some 43) #[true, true, true, true, false, true, false, false, false, false, false, false, false, false, false, false, false, false, false] rfl rfl (by kernel_rfl) (by decide) (fun K hK => ?_)
  refine goes_ Tryd.func14 (by kernel_rfl) rfl #[.slice A1 l1.length c1] (by rfl) rfl rfl (by (try simp only [List.map_toArray, List.map_cons, List.map_nil]); first | done | rfl) ?_
  refine (states_calls A1 c1 l1 _ (Kd.C_below HR1.out HBe.out) HC1.out HF.out.wf1).mono ?_
  rintro e w8 ⟨bm2, rfl, hM, hb⟩
  have HM2 := Aside0.mk hM
  have HA8 := Aside0.mk (Kd.C_below HAe.out hb)
  have HB8 := Aside0.mk (below_then HBe.out HBe.out.size hb)
  have BK8 := Aside0.mk (blk_below BKe.out hb)
  clear hM hb
  refine ⟨_, rfl, ?_⟩
  refine hK.out _ _ ⟨(blk_cell BK8.out 0).trans rfl, (blk_cell BK8.out 1).trans rfl⟩ (fun hHeld => ?_)
  clear hK K
  refine norm_ (a' := ?_) ?_ ?_
  rotate_left
  · show Act.put _ (some 43) _ = _
    simp only [Act.put, List.setIfInBounds_toArray, List.set_cons_zero, List.set_cons_succ, i64_w, i32_w]
    rfl
  refine one_ (i := 4) (N := some 45) #[true, true, true, true, true, true, false, false, false, false, false, false, false, false, false, false, false, false, false] rfl rfl (by kernel_rfl) (by decide) (fun K hK => ?_)
  refine goes_ Tryd.func12 (by kernel_rfl) rfl #[.agg #[.bool false, .slice A5 L5.length c5], .map (some bm2), .bool false] (by rfl) rfl rfl (by (try simp only [List.map_toArray, List.map_cons, List.map_nil]); first | done | rfl) ?_
  refine (ask_calls false A5 c5 L5 false bm2 l1.length (lookF l1) _ HA8.out HC5.out HM2.out HW5.out).mono ?_
  rintro e w9 ⟨he, hb⟩
  rw [W9] at he
  subst he
  have HB9 := Aside0.mk (below_then HB8.out HB8.out.size hb)
  have BK9 := Aside0.mk (blk_below BK8.out hb)
  clear hb
  refine ⟨_, rfl, ?_⟩
  refine hK.out _ _ ⟨(blk_cell BK9.out 0).trans rfl, (blk_cell BK9.out 1).trans rfl⟩ (fun hHeld => ?_)
  clear hK K
  refine norm_ (a' := ?_) ?_ ?_
  rotate_left
  · show Act.put _ (some 45) _ = _
    simp only [Act.put, List.setIfInBounds_toArray, List.set_cons_zero, List.set_cons_succ, i64_w, i32_w]
    rfl
  refine pure_ (i := 6) (N := some 47) (v := ?_) (a' := ?_) #[true, true, true, true, true, true, true, false, false, false, false, false, false, false, false, false, false, false, false] rfl rfl (by kernel_rfl) (fun _ _ _ h => h) (Or.inl ⟨by rfl, ?_⟩) ?_ ?_
  rotate_left
  · intro w'
    go_simp
    with_reducible rfl
  rotate_left
  · simp only [Act.put, List.setIfInBounds_toArray, List.set_cons_zero, List.set_cons_succ, i64_w, i32_w]
    rfl
  refine pure_ (i := 7) (N := some 48) (v := ?_) (a' := ?_) #[true, true, true, true, true, true, true, true, false, false, false, false, false, false, false, false, false, false, false] rfl rfl (by kernel_rfl) (fun _ _ _ h => h) (Or.inl ⟨by rfl, ?_⟩) ?_ ?_
  rotate_left
  · intro w'
    go_simp
    with_reducible rfl
  rotate_left
  · simp only [Act.put, List.setIfInBounds_toArray, List.set_cons_zero, List.set_cons_succ, i64_w, i32_w]
    rfl
  refine pure_ (i := 8) (N := some 49) (v := ?_) (a' := ?_) #[true, true, true, true, true, true, true, true, true, false, false, false, false, false, false, false, false, false, false] rfl rfl (by kernel_rfl) (fun _ _ _ h => h) (Or.inl ⟨by rfl, ?_⟩) ?_ ?_
  rotate_left
  · intro w'
    go_simp
    with_reducible rfl
  rotate_left
  · simp only [Act.put, List.setIfInBounds_toArray, List.set_cons_zero, List.set_cons_succ, i64_w, i32_w]
    rfl
  refine pure_ (i := 9) (N := some 50) (v := ?_) (a' := ?_) #[true, true, true, true, true, true, true, true, true, true, false, false, false, false, false, false, false, false, false] rfl rfl (by kernel_rfl) (fun _ _ _ h => h) (Or.inl ⟨by rfl, ?_⟩) ?_ ?_
  rotate_left
  · intro w'
    go_simp
    with_reducible rfl
  rotate_left
  · simp only [Act.put, List.setIfInBounds_toArray, List.set_cons_zero, List.set_cons_succ, i64_w, i32_w]
    rfl
  refine pure_ (i := 11) (N := some 52) (v := ?_) (a' := ?_) #[true, true, true, true, true, true, true, true, true, true, false, true, false, false, false, false, false, false, false] rfl rfl (by kernel_rfl) (fun _ _ _ h => h) (Or.inl ⟨by rfl, ?_⟩) ?_ ?_
  rotate_left
  · intro w'
    go_simp
    with_reducible rfl
  rotate_left
  · simp only [Act.put, List.setIfInBounds_toArray, List.set_cons_zero, List.set_cons_succ, i64_w, i32_w]
    rfl
  refine one_ (i := 10) (N := some 51) #[true, true, true, true, true, true, true, true, true, true, true, true, false, false, false, false, false, false, false] rfl rfl (by kernel_rfl) (by decide) (fun K hK => ?_)
  refine goes_ Tryd.func14 (by kernel_rfl) rfl #[.slice A1 l1.length c1] (by rfl) rfl rfl (by (try simp only [List.map_toArray, List.map_cons, List.map_nil]); first | done | rfl) ?_
  refine (states_calls A1 c1 l1 _ (Kd.C_below HR1.out HB9.out) HC1.out HF.out.wf1).mono ?_
  rintro e w10 ⟨bm3, rfl, hM, hb⟩
  have HM3 := Aside0.mk hM
  have HB10 := Aside0.mk (below_then HB9.out HB9.out.size hb)
  have BK10 := Aside0.mk (blk_below BK9.out hb)
  clear hM hb
  refine ⟨_, rfl, ?_⟩
  refine hK.out _ _ ⟨(blk_cell BK10.out 0).trans rfl, (blk_cell BK10.out 1).trans rfl⟩ (fun hHeld => ?_)
  clear hK K
  refine norm_ (a' := ?_) ?_ ?_
  rotate_left
  · show Act.put _ (some 51) _ = _
    simp only [Act.put, List.setIfInBounds_toArray, List.set_cons_zero, List.set_cons_succ, i64_w, i32_w]
    rfl
  refine one_ (i := 12) (N := some 53) #[true, true, true, true, true, true, true, true, true, true, true, true, true, false, false, false, false, false, false] rfl rfl (by kernel_rfl) (by decide) (fun K hK => ?_)
  refine goes_ Tryd.func12 (by kernel_rfl) rfl #[.agg #[.bool false, .slice none 0 0], .map (some bm3), .bool false] (by rfl) rfl rfl (by (try simp only [List.map_toArray, List.map_cons, List.map_nil]); first | done | rfl) ?_
  refine (ask_calls false none 0 [] false bm3 l1.length (lookF l1) _ Cnil52 (Nat.le_refl _) HM3.out (fun x hx => absurd hx List.not_mem_nil)).mono ?_
  rintro e w11 ⟨he, hb⟩
  rw [ask_nil] at he
  subst he
  have HB11 := Aside0.mk (below_then HB10.out HB10.out.size hb)
  have BK11 := Aside0.mk (blk_below BK10.out hb)
  clear hb
  refine ⟨_, rfl, ?_⟩
  refine hK.out _ _ ⟨(blk_cell BK11.out 0).trans rfl, (blk_cell BK11.out 1).trans rfl⟩ (fun hHeld => ?_)
  clear hK K
  refine norm_ (a' := ?_) ?_ ?_
  rotate_left
  · show Act.put _ (some 53) _ = _
    simp only [Act.put, List.setIfInBounds_toArray, List.set_cons_zero, List.set_cons_succ, i64_w, i32_w]
    rfl
  refine pure_ (i := 13) (N := some 54) (v := ?_) (a' := ?_) #[true, true, true, true, true, true, true, true, true, true, true, true, true, true, false, false, false, false, false] rfl rfl (by kernel_rfl) (fun _ _ _ h => h) (Or.inl ⟨by rfl, ?_⟩) ?_ ?_
  rotate_left
  · intro w'
    go_simp
    with_reducible rfl
  rotate_left
  · simp only [Act.put, List.setIfInBounds_toArray, List.set_cons_zero, List.set_cons_succ, i64_w, i32_w]
    rfl
  refine pure_ (i := 14) (N := some 55) (v := ?_) (a' := ?_) #[true, true, true, true, true, true, true, true, true, true, true, true, true, true, true, false, false, false, false] rfl rfl (by kernel_rfl) (fun _ _ _ h => h) (Or.inl ⟨by rfl, ?_⟩) ?_ ?_
  rotate_left
  · intro w'
    go_simp
    with_reducible rfl
  rotate_left
  · simp only [Act.put, List.setIfInBounds_toArray, List.set_cons_zero, List.set_cons_succ, i64_w, i32_w]
    rfl
  refine pure_ (i := 15) (N := some 56) (v := ?_) (a' := ?_) #[true, true, true, true, true, true, true, true, true, true, true, true, true, true, true, true, false, false, false] rfl rfl (by kernel_rfl) (fun _ _ _ h => h) (Or.inl ⟨by rfl, ?_⟩) ?_ ?_
  rotate_left
  · intro w'
    go_simp
    with_reducible rfl
  rotate_left
  · simp only [Act.put, List.setIfInBounds_toArray, List.set_cons_zero, List.set_cons_succ, i64_w, i32_w]
    rfl
  refine one_ (i := 16) (N := some 57) #[true, true, true, true, true, true, true, true, true, true, true, true, true, true, true, true, true, false, false] rfl rfl (by kernel_rfl) (by decide) (fun K hK => ?_)
  refine goes_ Tryd.func11 (by kernel_rfl) rfl #[] (by rfl) rfl rfl (by (try simp only [List.map_toArray, List.map_cons, List.map_nil]); first | done | rfl) ?_
  refine (alive_calls _ (HG.out.below HB11.out)).mono ?_
  rintro e w12 ⟨rfl, hb⟩
  have HB12 := Aside0.mk (below_then HB11.out HB11.out.size hb)
  have BK12 := Aside0.mk (blk_below BK11.out hb)
  clear hb
  refine ⟨_, rfl, ?_⟩
  refine hK.out _ _ ⟨(blk_cell BK12.out 0).trans rfl, (blk_cell BK12.out 1).trans rfl⟩ (fun hHeld => ?_)
  clear hK K
  refine norm_ (a' := ?_) ?_ ?_
  rotate_left
  · show Act.put _ (some 57) _ = _
    simp only [Act.put, List.setIfInBounds_toArray, List.set_cons_zero, List.set_cons_succ, i64_w, i32_w]
    rfl
  refine pure_ (i := 17) (N := some 58) (v := ?_) (a' := ?_) #[true, true, true, true, true, true, true, true, true, true, true, true, true, true, true, true, true, true, false] rfl rfl (by kernel_rfl) (fun _ _ _ h => h) (Or.inl ⟨by rfl, ?_⟩) ?_ ?_
  rotate_left
  · intro w'
    go_simp
    with_reducible rfl
  rotate_left
  · simp only [Act.put, List.setIfInBounds_toArray, List.set_cons_zero, List.set_cons_succ, i64_w, i32_w]
    rfl
  refine pure_ (i := 18) (N := some 6) (v := ?_) (a' := ?_) #[true, true, true, true, true, true, true, true, true, true, true, true, true, true, true, true, true, true, true] rfl rfl (by kernel_rfl) (fun _ _ _ h => h) (Or.inl ⟨by rfl, ?_⟩) ?_ ?_
  rotate_left
  · intro w'
    go_simp
    with_reducible rfl
  rotate_left
  · simp only [Act.put, List.setIfInBounds_toArray, List.set_cons_zero, List.set_cons_succ, i64_w, i32_w]
    rfl
  refine done_ (by kernel_rfl) ?_
  go_wp2
  go_ret
  exact ⟨rfl, HB12.out⟩
theorem alone_calls (any : Bool) (A : Option Addr) (c : Nat) (l : List S46) (A1 : Option Addr) (c1 : Nat) (l1 : List S48) (al : Bool) (w : World) (hr : Kd.C k46 w A l.length l) (hc : l.length ≤ c) (hr1 : Kd.C k48 w A1 l1.length l1) (hc1 : l1.length ≤ c1) (hfit : Fit l l1) (hG : Glob w) :
    Calls Tryd.prog 7 #[.agg #[.bool any, .slice A l.length c], .slice A1 l1.length c1, .bool al] w fun e w' => e = .returned (.bool true) ∧ Below w.heap.size w w' := by
  cases al
  · by_cases hx : askF (lookF l1) false (l.map At.cv) true = 1
    · exact alone_f1 any A c l A1 c1 l1 w hr hc hr1 hc1 hfit hG hx
    · exact alone_f2 any A c l A1 c1 l1 w hr hc hr1 hc1 hfit hG hx
  · exact alone_t any A c l A1 c1 l1 w hr hc hr1 hc1 hfit hG
end Go.Proofs.YtknbnnpggdegmaaDoor.At
