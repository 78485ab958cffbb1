/- marlinspikelaw07.alive answers true. -/
import Derived.Test.YtknbnnpggdegmaaDoorPDx5
import Derived.Test.YtknbnnpggdegmaaDoorStates
namespace Go.Proofs.YtknbnnpggdegmaaDoor.At
open Go.RowKit Go.Proofs.YtknbnnpggdegmaaDoorW.PrintWords Go.Proofs.YtknbnnpggdegmaaDoorW.PrintLast Go.Proofs.YtknbnnpggdegmaaDoorW.PrintMore Go.Proofs.YtknbnnpggdegmaaDoor.PD Go.Proofs.YtknbnnpggdegmaaDoor.Mp Go.Proofs.YtknbnnpggdegmaaDoor.Lib
set_option linter.unusedVariables false
set_option linter.unusedSimpArgs false

def aliveS : ByteArray := ⟨#[97, 102, 116, 101, 114, 111, 107, 58, 51, 58, 52, 44, 115, 105, 110, 103, 108, 101, 116, 111, 110]⟩
def aliveD : List S52 := [⟨2, [3, 4]⟩, ⟨5, []⟩]
theorem alive_parse : dep_Parse.f 40 aliveS = some (false, aliveD, 0, 0) := by kernel_rfl
theorem alive_format : dep_Format.f 40 false aliveD = some aliveS := by kernel_rfl
theorem alive_ask : askF (fun k => if k = 4 then some 4 else if k = 3 then some 3 else none) false aliveD true = 2 := by kernel_rfl
theorem ins_II {ops : Array Oper} {rest : List Oper} {o : Oper} {a : Act} {Q : Exit → Act → World → Prop} {b n : Nat} {f : Int → Option Int} (w : World) (hw : Region.wanted o (yielded ops a.tmps) = true) (m x v : Operand) (hop : o.op = Op.insert 33 m x v) (hm : a.eval m = .map (some b)) (h : MapII w b n f) (hn : n < maxLen) (k : Int) (hx : a.eval x = .int .i64 k) (hk : (Lit.int .i64 k).wf = true) (y : Int) (hv : a.eval v = .int .i64 y) (hy : (Lit.int .i64 y).wf = true)
    (hK : ∀ w', MapII w' b (n + 1) (fun k' => if k' = k then some y else f k') → w.grownBy w' (some b) → wpList Tryd.prog ops Q rest (a.put o.dst undef) w') : wpList Tryd.prog ops Q (o :: rest) a w :=
  wpList_ins (K := KI) (V := EI) w hw m x v 33 hop Tryd.underlying33 hm h hn k hx hk y hv hy hK

set_option maxHeartbeats 4000000 in
set_option maxRecDepth 100000 in
theorem alive_calls (w : World) (hG : Glob w) : Calls Tryd.prog 11 #[] w fun e w' => e = .returned (.bool true) ∧ Below w.heap.size w w' := by
  have HG := Aside0.mk hG
  have hu31 := Tryd.underlying31
  have hu39 := Tryd.underlying39
  have hmm := @run_makeMap Tryd.prog
  clear hG
  go_enter Tryd.func11, Tryd.ntmps11
  go_wp2_with fail
  refine (dep_Parse.calls 40 aliveS false aliveD 0 0 w alive_parse HG.out).mono ?_
  rintro e w1 ⟨v1, rfl, hS, hb⟩
  obtain ⟨A, c, rfl, hl, hC⟩ := Kd.S_reads hS
  have HC := Aside0.mk hC
  have HB := Aside0.mk hb
  have HL := Aside0.mk hl
  clear hS hl hC hb
  have hl2 : ((aliveD.length : Int) == 2) = true := rfl
  have hs2 : (aliveS.toList == [97, 102, 116, 101, 114, 111, 107, 58, 51, 58, 52, 44, 115, 105, 110, 103, 108, 101, 116, 111, 110]) = true := by kernel_rfl
  have hs3 : aliveS.toList = [97, 102, 116, 101, 114, 111, 107, 58, 51, 58, 52, 44, 115, 105, 110, 103, 108, 101, 116, 111, 110] := by kernel_rfl
  have hok : ∀ x ∈ aliveD, ∀ y ∈ x.f1, (Lit.int .i64 y).wf = true := by decide
  have HO := Aside0.mk hok
  clear hok
  go_wp2_with fail
  refine (dep_Format.calls 40 false A c aliveD aliveS _ ?r1 HL.out alive_format ?g1).mono ?_
  case r1 => exact Kd.C_alloc (Kd.C_alloc HC.out _) _
  case g1 => exact HG.out.below (below_alloc (below_alloc HB.out _) _)
  rintro e w2 ⟨rfl, hb⟩
  have HB2 := Aside0.mk (below_then (below_alloc (below_alloc HB.out _) _) (below_alloc (below_alloc HB.out _) _).size hb)
  have HC2 := Aside0.mk (Kd.C_below (Kd.C_alloc (Kd.C_alloc HC.out _) _) hb)
  have hz0 : w2.cell? ⟨w1.heap.size, 0, none⟩ = some (.bool false) := (blk_cell (blk_below (blk_alloc (blk_new w1 (.cells #[.bool false, .slice A aliveD.length c] 31)) _) hb) 0).trans rfl
  have hz1 : w2.cell? ⟨w1.heap.size, 1, none⟩ = some (.slice A aliveD.length c) := (blk_cell (blk_below (blk_alloc (blk_new w1 (.cells #[.bool false, .slice A aliveD.length c] 31)) _) hb) 1).trans rfl
  clear hb
  have HM0 : Aside0 (MapII (w2.alloc (.map #[] 0)) w2.heap.size 0 (fun _ => none)) := ⟨MapOf.made w2⟩
  have HB3 := Aside0.mk (below_alloc HB2.out (.map #[] 0))
  go_wp2_with (first
    | (refine ins_II _ ?hw _ _ _ rfl rfl HM1.out (by decide) 4 rfl (by decide) 4 rfl (by decide) ?_; (case hw => rfl); intro w4 hm4 hg4; have HM2 := Aside0.mk hm4; have HG4 := Aside0.mk hg4; clear hm4 hg4)
    | (refine ins_II _ ?hw _ _ _ rfl rfl HM0.out (by decide) 3 rfl (by decide) 3 rfl (by decide) ?_; (case hw => rfl); intro w3 hm3 hg3; have HM1 := Aside0.mk hm3; have HG3 := Aside0.mk hg3; clear hm3 hg3))
  have HB4 : Aside0 (Below w.heap.size w w4) := ⟨(HB3.out.grown HG3.out HB3.out.size (fun k hk => by injection hk with hk; have := HB2.out.size; omega)).grown HG4.out (Nat.le_trans HB3.out.size HG3.out.size) (fun k hk => by injection hk with hk; have := HB2.out.size; omega)⟩
  have hb24 : Below w2.heap.size w2 w4 := ((below_alloc (Below.refl w2.heap.size w2) (.map #[] 0)).grown HG3.out (by simp) (fun k hk => by injection hk with hk; omega)).grown HG4.out (Nat.le_trans (by simp) HG3.out.size) (fun k hk => by injection hk with hk; omega)
  have HC4 := Aside0.mk (Kd.C_below HC2.out hb24)
  clear hb24
  refine (ask_calls false A c aliveD true _ 2 _ w4 HC4.out HL.out HM2.out HO.out).mono ?_
  rintro e w5 ⟨rfl, hb⟩
  have HB5 := Aside0.mk (below_then HB4.out HB4.out.size hb)
  clear hb
  rw [alive_ask]
  go_wp2_with fail
  refine (one_calls 4 4 _).mono ?_
  rintro e w6 ⟨rfl, hd⟩
  have HB6 := Aside0.mk (below_then HB5.out HB5.out.size hd.below)
  clear hd
  rw [show oneL 4 4 = 1 from by kernel_rfl]
  go_wp2
  go_ret
  exact ⟨rfl, HB6.out⟩
end Go.Proofs.YtknbnnpggdegmaaDoor.At
namespace Go.Proofs.YtknbnnpggdegmaaDoor.PD
open Go.RowKit Go.Proofs.YtknbnnpggdegmaaDoor.Lib
def marlinspikelaw07_alive.f : Option Bool := some true
theorem marlinspikelaw07_alive.calls (r : Bool) (w : World) (h : marlinspikelaw07_alive.f = some r) (hG : Glob w) :
    Calls Tryd.prog 11 #[] w fun e w' => e = .returned (.bool r) ∧ Below w.heap.size w w' := by
  cases h
  exact At.alive_calls w hG
end Go.Proofs.YtknbnnpggdegmaaDoor.PD
