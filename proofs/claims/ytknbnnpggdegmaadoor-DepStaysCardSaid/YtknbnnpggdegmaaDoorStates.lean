/- marlinspikelaw07.states: the map that it makes. -/
import Derived.Test.YtknbnnpggdegmaaDoorAsk
namespace Go.Proofs.YtknbnnpggdegmaaDoor.At
open Go.RowKit Go.Proofs.YtknbnnpggdegmaaDoorW.PrintWords Go.Proofs.YtknbnnpggdegmaaDoorW.PrintLast Go.Proofs.YtknbnnpggdegmaaDoorW.PrintMore Go.Proofs.YtknbnnpggdegmaaDoor.PD Go.Proofs.YtknbnnpggdegmaaDoor.Mp
set_option linter.unusedVariables false
set_option linter.unusedSimpArgs false

/-- The state of the first job of that number. -/
def lookF : List S48 → Int → Option Int
  | [], _ => none
  | x :: l, k => if x.f0 = k then some x.f1 else lookF l k
theorem lookF_append (l m : List S48) (k : Int) : lookF (l ++ m) k = (lookF l k).or (lookF m k) := by
  induction l with
  | nil => simp [lookF]
  | cons x l ih => simp only [List.cons_append, lookF]; split <;> simp [ih]
theorem rd48 (l : List S48) (i : Nat) (h : i < l.length) : rd_T48 l i = l[i] := by simp [rd_T48, h]
theorem look_there (l : List S48) (i : Nat) (h : i < l.length) {s : Int} (hs : lookF (l.take i) (rd_T48 l i).f0 = some s) : lookF (l.take (i + 1)) = lookF (l.take i) := by
  funext k
  rw [List.take_succ_eq_append_getElem h, lookF_append, ← rd48 l i h]
  cases hk : lookF (l.take i) k with
  | some q => rfl
  | none =>
    simp only [lookF, Option.none_or]
    rw [if_neg]
    rintro rfl
    rw [hs] at hk; cases hk
theorem look_put (l : List S48) (i : Nat) (h : i < l.length) (hs : lookF (l.take i) (rd_T48 l i).f0 = none) : lookF (l.take (i + 1)) = fun k => if k = (rd_T48 l i).f0 then some (rd_T48 l i).f1 else lookF (l.take i) k := by
  funext k
  rw [List.take_succ_eq_append_getElem h, lookF_append, ← rd48 l i h]
  by_cases e : k = (rd_T48 l i).f0
  · subst e; rw [if_pos rfl, hs]; simp [lookF]
  · rw [if_neg e]; simp only [lookF]; rw [if_neg (fun h => e h.symm)]; simp

section
variable {ops : Array Oper} {rest : List Oper} {o : Oper} {a : Act} {Q : Exit → Act → World → Prop} {b n : Nat} {f : Int → Option Int}
theorem put_II (w : World) (hg : o.guard = none) (m x v : Operand) (hop : o.op = Op.mapUpdate 33 m x v) (hm : a.eval m = .map (some b)) (h : MapII w b n f) (hn : n < maxLen) (k : Int) (hx : a.eval x = .int .i64 k) (hk : (Lit.int .i64 k).wf = true) (y : Int) (hv : a.eval v = .int .i64 y) (hy : (Lit.int .i64 y).wf = true)
    (hK : ∀ w', MapII w' b (n + 1) (fun k' => if k' = k then some y else f k') → w.grownBy w' (some b) → wpList Tryd.prog ops Q rest (a.put o.dst undef) w') : wpList Tryd.prog ops Q (o :: rest) a w :=
  wpList_put (K := KI) (V := EI) w hg m x v 33 hop Tryd.underlying33 hm h hn k hx hk y hv hy hK
end

set_option maxHeartbeats 4000000 in
set_option maxRecDepth 100000 in
theorem states_calls (A : Option Addr) (c : Nat) (l : List S48) (w : World) (hr : Kd.C k48 w A l.length l) (hc : l.length ≤ c) (hok : ∀ x ∈ l, (Lit.int .i64 x.f0).wf = true ∧ (Lit.int .i64 x.f1).wf = true) :
    Calls Tryd.prog 14 #[.slice A l.length c] w fun e w' => ∃ b, e = .returned (.map (some b)) ∧ MapII w' b l.length (lookF l) ∧ Below w.heap.size w w' := by
  have HR := Aside0.mk hr
  have HO := Aside0.mk hok
  have HL := Aside0.mk hr.2.1
  have hu48 := Tryd.underlying48
  have hmm := @run_makeMap Tryd.prog
  clear hr hok hc
  have hlen := HL.out
  go_enter Tryd.func14, Tryd.ntmps14
  go_wp2
  go_loopw [11] (fun v11 wr => ∃ (i : Nat), v11 = .int .i64 i ∧ i ≤ l.length ∧ Aside0 (MapII wr w.heap.size i (lookF (l.take i))) ∧ Aside0 (Below w.heap.size w wr)) (fun v11 _ => l.length - (intOf v11).toNat)
  case atStart => exact ⟨0, rfl, Nat.zero_le _, ⟨MapOf.made w⟩, ⟨below_alloc (Below.refl _ _) _⟩⟩
  case round =>
    obtain ⟨i, rfl, hi, HM, HB⟩ := hrel
    by_cases hlt : i < l.length
    · obtain ⟨ad, rfl, hx0, hx1⟩ := at_T48 HR.out i (by omega) (by omega)
      rw [Int.toNat_natCast] at hx0 hx1
      replace hx0 := (HB.out.cell (World.block_lt_of_cell? w _ hx0)).trans hx0
      replace hx1 := (HB.out.cell (World.block_lt_of_cell? w _ hx1)).trans hx1
      have hok1 := HO.out (rd_T48 l i) (by rw [rd48 l i hlt]; exact List.getElem_mem _)
      have W0 := Aside0.mk hok1.1
      have W1 := Aside0.mk hok1.2
      have HM1 := Aside0.mk (HM.out.alloc (.cells #[.int .i64 (rd_T48 l i).f0, .int .i64 (rd_T48 l i).f1] 48))
      have HB1 := Aside0.mk (below_alloc HB.out (.cells #[.int .i64 (rd_T48 l i).f0, .int .i64 (rd_T48 l i).f1] 48))
      clear hok1
      cases hlk : lookF (l.take i) (rd_T48 l i).f0 with
      | some s =>
        have HK := Aside0.mk hlk
        have HE := Aside0.mk (look_there l i hlt hlk)
        clear hlk
        go_wp2_with (first | (at_lookup; refine look_some _ rfl _ _ rfl rfl HM1.out (rd_T48 l i).f0 rfl W0.out HK.out ?_) | fail)
        go_roundw
        case rel => exact ⟨i + 1, by go_num, by omega, ⟨by rw [HE.out]; exact HM1.out.mono (Nat.le_succ _)⟩, HB1⟩
        case measure => simp [intOf]; omega
      | none =>
        have HK := Aside0.mk hlk
        have HE := Aside0.mk (look_put l i hlt hlk)
        clear hlk
        go_wp2_with (first | (at_lookup; refine look_none _ rfl _ _ rfl rfl HM1.out (rd_T48 l i).f0 rfl W0.out HK.out ?_) | (at_mapUpdate; refine put_II _ rfl _ _ _ rfl rfl HM1.out (by have := HL.out; unfold maxLen; omega) (rd_T48 l i).f0 rfl W0.out (rd_T48 l i).f1 rfl W1.out ?_; intro w1 hm1 hg1; have HM2 := Aside0.mk hm1; have HG2 := Aside0.mk hg1; clear hm1 hg1) | fail)
        go_roundw
        case rel => exact ⟨i + 1, by go_num, by omega, ⟨by rw [HE.out]; exact HM2.out⟩, ⟨HB1.out.grown HG2.out HB1.out.size (fun k hk => by injection hk with hk; omega)⟩⟩
        case measure => simp [intOf]; omega
    · have e : l.take i = l := List.take_of_length_le (by omega)
      rw [e] at HM
      clear e
      go_wp2
      go_ret
      exact ⟨w.heap.size, rfl, HM.out.mono (by omega), HB.out⟩
end Go.Proofs.YtknbnnpggdegmaaDoor.At
