/- dep.One, dep.Item.at, dep.Ask: what they compute. -/
import Derived.Test.YtknbnnpggdegmaaDoorPDx0



import Derived.Test.YtknbnnpggdegmaaDoorPDx6
import Derived.Test.YtknbnnpggdegmaaDoorMap
namespace Go.Proofs.YtknbnnpggdegmaaDoor.At
open Go.RowKit Go.Proofs.YtknbnnpggdegmaaDoorW.PrintWords Go.Proofs.YtknbnnpggdegmaaDoorW.PrintLast Go.Proofs.YtknbnnpggdegmaaDoorW.PrintMore Go.Proofs.YtknbnnpggdegmaaDoor.PD Go.Proofs.YtknbnnpggdegmaaDoor.Mp
set_option linter.unusedVariables false
set_option linter.unusedSimpArgs false

def endedL (s : Int) : Bool := decide (3 ≤ s) && decide (s ≤ 6)
def holdsL (kd s : Int) : Bool := if kd = 1 then s == 2 || endedL s else if kd = 2 then s == 3 else if kd = 3 then s == 4 || s == 6 else endedL s
/-- What one item is at, at one job's state. -/
def oneL (kd s : Int) : Int := if kd < 1 ∨ 4 < kd then 0 else if holdsL kd s then 1 else if endedL s || s == 7 then 2 else 0

theorem ended_f (s : Int) : dep_Ended.f s = some (endedL s) := by
  unfold dep_Ended.f endedL
  by_cases h : s ≥ 3
  · rw [if_pos h]; simp [h]
  · rw [if_neg h]; simp; omega

theorem one_j (k : Nat) (s : Int) (b : Bool) : dep_One.j0 (k + 1) s b = some (if b then 1 else if endedL s || s == 7 then 2 else 0) := by
  simp only [dep_One.j0]
  cases b
  · simp [ended_f]
    cases h : endedL s <;> simp
    split <;> rfl
  · simp

theorem one_f (k : Nat) (kd s : Int) : dep_One.f (k + 1) kd s = some (oneL kd s) := by
  unfold dep_One.f oneL
  simp only [one_j, ended_f, Option.bind_some]
  by_cases h1 : kd = 1
  · subst h1; simp [holdsL]; by_cases h : s = 2 <;> simp [h]
  by_cases h2 : kd = 2
  · subst h2; simp [holdsL]
  by_cases h3 : kd = 3
  · subst h3; simp [holdsL]; by_cases h : s = 4 <;> simp [h]
  by_cases h4 : kd = 4
  · subst h4; simp [holdsL]
  rw [if_neg h1, if_neg h2, if_neg h3, if_neg h4, if_pos (by omega)]

theorem one_calls (kd s : Int) (w : World) : Calls Tryd.prog 24 #[.int .i64 kd, .int .i64 s] w fun e w' => e = .returned (.int .i64 (oneL kd s)) ∧ Drawn0 w w' :=
  dep_One.calls 1 kd s _ w (one_f 0 kd s)

theorem rlist_int (l : List Int) (i : Nat) (h : i < l.length) : l.drop i = rd l i :: l.drop (i + 1) := by
  rw [List.drop_eq_getElem_cons h]; simp [rd, h]

theorem ret_int {k : IntKind} {a b : Int} (h : a = b) : Ending.returned (.int k a) = .returned (.int k b) := by rw [h]

/-- What an item is at: over the jobs' states. -/
def atL (look : Int → Option Int) (kd : Int) : List Int → Int → Int
  | [], out => out
  | n :: ns, out => if oneL kd ((look n).getD 7) = 2 then 2 else if oneL kd ((look n).getD 7) = 0 then atL look kd ns 0 else atL look kd ns out
def atF (look : Int → Option Int) (kd : Int) (l : List Int) (al : Bool) : Int := if kd = 5 then (if al then 1 else 0) else atL look kd l 1

noncomputable def KI : KeyEnc Tryd.prog 3 Int := intKey Tryd.underlying3
noncomputable def EI : ElEnc Tryd.prog 3 Int := intEl Tryd.underlying3 (fun w => by kernel_rfl)
abbrev MapII := MapOf KI EI
section
variable {ops : Array Oper} {rest : List Oper} {o : Oper} {a : Act} {Q : Exit → Act → World → Prop} {b n : Nat} {f : Int → Option Int}
theorem look_none (w : World) (hg : o.guard = none) (m x : Operand) (hop : o.op = Op.lookup 33 m x true) (hm : a.eval m = .map (some b)) (h : MapII w b n f) (k : Int) (hx : a.eval x = .int .i64 k) (hk : (Lit.int .i64 k).wf = true) (hf : f k = none)
    (hK : wpList Tryd.prog ops Q rest (a.put o.dst (.tuple #[.int .i64 0, .bool false])) w) : wpList Tryd.prog ops Q (o :: rest) a w :=
  wpList_look_ok (K := KI) (V := EI) w hg m x 33 hop Tryd.underlying33 hm h k hx hk (by rw [hf]; exact hK)
theorem look_some (w : World) (hg : o.guard = none) (m x : Operand) (hop : o.op = Op.lookup 33 m x true) (hm : a.eval m = .map (some b)) (h : MapII w b n f) (k : Int) (hx : a.eval x = .int .i64 k) (hk : (Lit.int .i64 k).wf = true) {s : Int} (hf : f k = some s)
    (hK : wpList Tryd.prog ops Q rest (a.put o.dst (.tuple #[.int .i64 s, .bool true])) w) : wpList Tryd.prog ops Q (o :: rest) a w :=
  wpList_look_ok (K := KI) (V := EI) w hg m x 33 hop Tryd.underlying33 hm h k hx hk (by rw [hf]; exact hK)
end

set_option maxHeartbeats 2000000 in
set_option maxRecDepth 100000 in
theorem at_calls (kd : Int) (A : Option Addr) (c : Nat) (l : List Int) (al : Bool) (bm n : Nat) (look : Int → Option Int) (w : World) (hr : Kd.C (Kd.int .i64) w A l.length l) (hc : l.length ≤ c) (hm : MapII w bm n look) (hok : ∀ x ∈ l, (Lit.int .i64 x).wf = true) :
    Calls Tryd.prog 28 #[.agg #[.int .i64 kd, .slice A l.length c], .map (some bm), .bool al] w fun e w' => e = .returned (.int .i64 (atF look kd l al)) ∧ Below w.heap.size w w' := by
  have HR := Aside0.mk hr
  have HM := Aside0.mk hm
  have HO := Aside0.mk hok
  have HL := Aside0.mk hr.2.1
  have hu52 := Tryd.underlying52
  clear hr hm hok hc
  by_cases h5 : kd = 5
  · subst h5
    cases al
    · go_enter Tryd.func28, Tryd.ntmps28
      go_wp2
      go_ret
      exact ⟨rfl, below_alloc (Below.refl _ _) _⟩
    · go_enter Tryd.func28, Tryd.ntmps28
      go_wp2
      go_ret
      exact ⟨rfl, below_alloc (Below.refl _ _) _⟩
  · have e5 : atF look kd l al = atL look kd l 1 := if_neg h5
    rw [e5]
    obtain ⟨R, hR⟩ : ∃ R, atL look kd l 1 = R := ⟨_, rfl⟩
    have HA := Aside0.mk hR
    rw [hR]
    clear hR e5
    have h5b : (kd == 5) = false := beq_eq_false_iff_ne.mpr h5
    clear h5
    go_enter Tryd.func28, Tryd.ntmps28
    go_wp2
    go_loopw [7, 19] (fun v7 v19 wr => ∃ (o : Int) (i : Nat), v7 = .int .i64 o ∧ v19 = .int .i64 i ∧ i ≤ l.length ∧ Aside0 (atL look kd (l.drop i) o = R) ∧ Aside0 (wr.heap[w.heap.size]? = some (.cells #[.int .i64 kd, .slice A l.length c] 52 (0, 0))) ∧ Aside0 (Below w.heap.size w wr)) (fun _ v19 _ => l.length - (intOf v19).toNat)
    case atStart => exact ⟨1, 0, rfl, rfl, Nat.zero_le _, HA, ⟨heap_alloc_new _ _⟩, ⟨below_alloc (Below.refl _ _) _⟩⟩
    case round =>
      obtain ⟨o, i, rfl, rfl, hi, HA1, BK, HB⟩ := hrel
      clear HA
      have hlen := HL.out
      by_cases hlt : i < l.length
      · have hz0 : wr.cell? ⟨w.heap.size, 0, none⟩ = some (.int .i64 kd) := (blk_cell BK.out 0).trans rfl
        have hz1 : wr.cell? ⟨w.heap.size, 1, none⟩ = some (.slice A l.length c) := (blk_cell BK.out 1).trans rfl
        obtain ⟨ad, rfl, hx⟩ := Kd.at_int HR.out i (by omega) (by omega)
        rw [Int.toNat_natCast] at hx
        replace hx := (HB.out.cell (World.block_lt_of_cell? w _ hx)).trans hx
        have HM1 := Aside0.mk (HM.out.below HB.out)
        have hmem := Aside0.mk (HO.out (rd l i) (by simp [rd, hlt]))
        have H1 : Aside0 ((if oneL kd ((look (rd l i)).getD 7) = 2 then 2 else if oneL kd ((look (rd l i)).getD 7) = 0 then atL look kd (l.drop (i + 1)) 0 else atL look kd (l.drop (i + 1)) o) = R) := ⟨by have := HA1.out; rwa [rlist_int l i hlt, atL] at this⟩
        clear HA1
        obtain ⟨q, hq⟩ : ∃ q, oneL kd ((look (rd l i)).getD 7) = q := ⟨_, rfl⟩
        rw [hq] at H1
        have HQ := Aside0.mk hq
        clear hq
        cases hlk : look (rd l i) with
        | none =>
          have HK := Aside0.mk hlk
          have e1 := HQ.out
          rw [hlk] at e1
          simp only [Option.getD_none] at e1
          clear hlk HQ
          by_cases q2 : q = 2
          · have t2 : (oneL kd 7 == 2) = true := by rw [e1]; exact beq_iff_eq.mpr q2
            have HR2 := Aside0.mk (show (2 : Int) = R by have := H1.out; rwa [if_pos q2] at this)
            clear e1 q2 H1
            go_wp2_with (first | (at_lookup; refine look_none _ rfl _ _ rfl rfl HM1.out (rd l i) rfl hmem.out HK.out ?_) | fail)
            refine (one_calls kd 7 _).mono ?_
            rintro e w2 ⟨rfl, hd⟩
            have HD := Aside0.mk hd
            clear hd
            go_wp2
            go_ret
            exact ⟨ret_int HR2.out, below_then HB.out HB.out.size HD.out.below⟩
          · have t2 : (oneL kd 7 == 2) = false := by rw [e1]; exact beq_eq_false_iff_ne.mpr q2
            by_cases q0 : q = 0
            · have t0 : (oneL kd 7 == 0) = true := by rw [e1]; exact beq_iff_eq.mpr q0
              have HR2 := Aside0.mk (show atL look kd (l.drop (i + 1)) 0 = R by have := H1.out; rwa [if_neg q2, if_pos q0] at this)
              clear e1 q2 q0 H1
              go_wp2_with (first | (at_lookup; refine look_none _ rfl _ _ rfl rfl HM1.out (rd l i) rfl hmem.out HK.out ?_) | fail)
              refine (one_calls kd 7 _).mono ?_
              rintro e w2 ⟨rfl, hd⟩
              have HD := Aside0.mk hd
              clear hd
              go_wp2
              go_roundw
              case rel => exact ⟨0, i + 1, rfl, by go_num, by omega, HR2, ⟨blk_below BK.out HD.out.below⟩, ⟨below_then HB.out HB.out.size HD.out.below⟩⟩
              case measure => simp [intOf]; omega
            · have t0 : (oneL kd 7 == 0) = false := by rw [e1]; exact beq_eq_false_iff_ne.mpr q0
              have HR2 := Aside0.mk (show atL look kd (l.drop (i + 1)) o = R by have := H1.out; rwa [if_neg q2, if_neg q0] at this)
              clear e1 q2 q0 H1
              go_wp2_with (first | (at_lookup; refine look_none _ rfl _ _ rfl rfl HM1.out (rd l i) rfl hmem.out HK.out ?_) | fail)
              refine (one_calls kd 7 _).mono ?_
              rintro e w2 ⟨rfl, hd⟩
              have HD := Aside0.mk hd
              clear hd
              go_wp2
              go_roundw
              case rel => exact ⟨o, i + 1, rfl, by go_num, by omega, HR2, ⟨blk_below BK.out HD.out.below⟩, ⟨below_then HB.out HB.out.size HD.out.below⟩⟩
              case measure => simp [intOf]; omega
        | some s =>
          have HK := Aside0.mk hlk
          have e1 := HQ.out
          rw [hlk] at e1
          simp only [Option.getD_some] at e1
          clear hlk HQ
          by_cases q2 : q = 2
          · have t2 : (oneL kd s == 2) = true := by rw [e1]; exact beq_iff_eq.mpr q2
            have HR2 := Aside0.mk (show (2 : Int) = R by have := H1.out; rwa [if_pos q2] at this)
            clear e1 q2 H1
            go_wp2_with (first | (at_lookup; refine look_some _ rfl _ _ rfl rfl HM1.out (rd l i) rfl hmem.out HK.out ?_) | fail)
            refine (one_calls kd s _).mono ?_
            rintro e w2 ⟨rfl, hd⟩
            have HD := Aside0.mk hd
            clear hd
            go_wp2
            go_ret
            exact ⟨ret_int HR2.out, below_then HB.out HB.out.size HD.out.below⟩
          · have t2 : (oneL kd s == 2) = false := by rw [e1]; exact beq_eq_false_iff_ne.mpr q2
            by_cases q0 : q = 0
            · have t0 : (oneL kd s == 0) = true := by rw [e1]; exact beq_iff_eq.mpr q0
              have HR2 := Aside0.mk (show atL look kd (l.drop (i + 1)) 0 = R by have := H1.out; rwa [if_neg q2, if_pos q0] at this)
              clear e1 q2 q0 H1
              go_wp2_with (first | (at_lookup; refine look_some _ rfl _ _ rfl rfl HM1.out (rd l i) rfl hmem.out HK.out ?_) | fail)
              refine (one_calls kd s _).mono ?_
              rintro e w2 ⟨rfl, hd⟩
              have HD := Aside0.mk hd
              clear hd
              go_wp2
              go_roundw
              case rel => exact ⟨0, i + 1, rfl, by go_num, by omega, HR2, ⟨blk_below BK.out HD.out.below⟩, ⟨below_then HB.out HB.out.size HD.out.below⟩⟩
              case measure => simp [intOf]; omega
            · have t0 : (oneL kd s == 0) = false := by rw [e1]; exact beq_eq_false_iff_ne.mpr q0
              have HR2 := Aside0.mk (show atL look kd (l.drop (i + 1)) o = R by have := H1.out; rwa [if_neg q2, if_neg q0] at this)
              clear e1 q2 q0 H1
              go_wp2_with (first | (at_lookup; refine look_some _ rfl _ _ rfl rfl HM1.out (rd l i) rfl hmem.out HK.out ?_) | fail)
              refine (one_calls kd s _).mono ?_
              rintro e w2 ⟨rfl, hd⟩
              have HD := Aside0.mk hd
              clear hd
              go_wp2
              go_roundw
              case rel => exact ⟨o, i + 1, rfl, by go_num, by omega, HR2, ⟨blk_below BK.out HD.out.below⟩, ⟨below_then HB.out HB.out.size HD.out.below⟩⟩
              case measure => simp [intOf]; omega
      · have HR2 := Aside0.mk (show o = R by have := HA1.out; rwa [List.drop_eq_nil_of_le (by omega), atL] at this)
        clear HA1
        go_wp2
        go_ret
        exact ⟨ret_int HR2.out, HB.out⟩
end Go.Proofs.YtknbnnpggdegmaaDoor.At
