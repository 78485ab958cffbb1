/- Part 3 of the proof of ArrayAgainCardSaid. -/
import Derived.Test.YtnfpchpnephheaaDoorProg
import Derived.Test.YtnfpchpnephheaaDoorZ02
import Derived.Test.YtnfpchpnephheaaDoorZ01
import Derived.WalkSmall
import Derived.Lib.LaidTab
import Derived.Lib.ItoaNum
import Derived.Lib.AtoiAll
import Derived.Lib.Join
import Derived.DataReads
import Derived.DataElems
import Derived.ChangeOld
import Derived.Below
import Derived.Deep.Draws
import Derived.Deep.AppendLies
import Derived.Maps.AppendAt
import Derived.OwnWalk
import Derived.Laws.BytesArg
import Derived.Laws.MakeOwn
import Derived.Laws.OwnMore
import Derived.Deep.OwnRows
import Derived.Tactics
import Derived.Lib.ConvBytes
import Derived.Laws.Slices
import Derived.WalkKit
import Derived.KernelRfl
import Derived.RowKit3
import Derived.Deep.LoopGhost
import Derived.Deep.QuietTactic
import Derived.BigQuiet
import Derived.WideLaws
import Derived.Deep.DeepCutAuto
import Derived.Deep.CutBlock
import Derived.Deep.RegionHeld3
import Derived.Laws.Rows
import Derived.Lib.AppendStr
import Derived.ArgAppend
import Derived.Laws.IdiomCopy
import Derived.OrdersHeld
import Derived.Laws.BitsLemmas
import Derived.RowKit
import Derived.Lib.Strings
section
namespace Go.Proofs.YtnfpchpnephheaaDoor.Lib
open Go.RowKit Go.Proofs.YtnfpchpnephheaaDoorW.PrintWords
set_option linter.unusedVariables false
set_option linter.unusedSimpArgs false
structure Glob (w : World) : Prop where mk ::
  tab : Go.Lib.TabIs Tryd.prog w "internal/strconv.uint64pow10" .u64 Go.Lib.pow10Tab
  syn : ∃ tp p, w.var? Tryd.prog "strconv.ErrSyntax" = some #[.iface tp p]
  ran : ∃ tp p, w.var? Tryd.prog "strconv.ErrRange" = some #[.iface tp p]
theorem g_tab : Tryd.prog.globalNamed "internal/strconv.uint64pow10" = some 0 := by kernel_rfl
theorem g_syn : Tryd.prog.globalNamed "strconv.ErrSyntax" = some 2 := by kernel_rfl
theorem g_ran : Tryd.prog.globalNamed "strconv.ErrRange" = some 3 := by kernel_rfl
theorem var_lt {w : World} {n : String} {g : Nat} {cs : Array Value} (hg : Tryd.prog.globalNamed n = some g) (hv : w.var? Tryd.prog n = some cs) : g < w.heap.size := by
  unfold World.var? at hv
  simp only [hg, Option.bind_some] at hv
  cases h : w.heap[g]? with
  | none => rw [h] at hv; cases hv
  | some o => exact (Array.getElem?_eq_some_iff.1 h).1
theorem Glob.below {w w' : World} (h : Glob w) (hb : Below w.heap.size w w') : Glob w' := by
  obtain ⟨h1, ⟨t2, p2, h2⟩, ⟨t3, p3, h3⟩⟩ := h
  exact ⟨var?_below hb g_tab (var_lt g_tab h1) h1, ⟨t2, p2, var?_below hb g_syn (var_lt g_syn h2) h2⟩, ⟨t3, p3, var?_below hb g_ran (var_lt g_ran h3) h3⟩⟩
theorem below_grow (w : World) (k : Nat) (os : Array Obj) : Below w.heap.size w (Go.Sort.grow (w.drewN k) os) :=
  ⟨rfl, rfl, rfl, by show w.heap.size ≤ (w.heap ++ os).size; rw [Array.size_append]; omega, fun j hj => by show (w.heap ++ os)[j]? = _; rw [Array.getElem?_append, if_pos hj]⟩
def strconv_Itoa.f (a0 : Int) : Option ByteArray := if -9223372036854775808 ≤ a0 ∧ a0 ≤ 9223372036854775807 then some ⟨(Go.Lib.itoa a0).toArray⟩ else none
theorem strconv_Itoa.calls (a0 : Int) (r : ByteArray) (w : World) (h : strconv_Itoa.f a0 = some r) (hG : Glob w) :
    Calls Tryd.prog 18 #[.int .i64 a0] w fun e w' => e = .returned (.string r) ∧ Below w.heap.size w w' := by
  unfold strconv_Itoa.f at h
  split at h
  · rename_i hb
    cases h
    refine (Tryd.strconv_Itoa a0 hb.1 hb.2 w hG.tab).mono ?_
    rintro e w' ⟨rfl, k, os, rfl⟩
    exact ⟨rfl, below_grow w k os⟩
  · cases h
def atoiVal (l : List UInt8) : Int := match Go.Lib.atoiAll l with | .ok v => v | .range => Go.Lib.atoiSat l | _ => 0
def atoiOk (l : List UInt8) : Bool := match Go.Lib.atoiAll l with | .ok _ => true | _ => false
theorem strconv_Atoi_any (s : ByteArray) (hs : s.size ≤ 281474976710656) (w : World) (hG : Glob w) :
    Calls Tryd.prog 36 #[.string s] w fun e w' => ∃ ev, e = .returned (.tuple #[.int .i64 (atoiVal s.data.toList), ev]) ∧ (atoiOk s.data.toList = true → ev = .nilIface) ∧ (atoiOk s.data.toList = false → ∃ t p, ev = .iface t (.pointer (some p))) ∧ Below w.heap.size w w' := by
  obtain ⟨_, ⟨t2, p2, h2⟩, ⟨t3, p3, h3⟩⟩ := hG
  unfold atoiVal atoiOk
  cases h : Go.Lib.atoiAll s.data.toList with
  | ok v =>
    refine (Tryd.strconv_Atoi_ok s (by omega) v h w).mono ?_
    rintro e w' ⟨rfl, hw⟩
    refine ⟨_, rfl, fun _ => rfl, fun h => by simp at h, ?_⟩
    rcases hw with rfl | ⟨t, rfl⟩
    · exact Below.refl _ _
    · exact bytes_below (Below.refl _ _) (Nat.le_refl _) _ _
  | range =>
    refine (Tryd.strconv_Atoi_range_var s hs h t3 p3 w h3).mono ?_
    rintro e w' ⟨N, rfl, _, _, hb⟩
    exact ⟨_, rfl, fun h => by simp at h, fun _ => ⟨_, _, rfl⟩, hb⟩
  | _ =>
    refine (Tryd.strconv_Atoi_syntax_var s hs h t2 p2 w h2).mono ?_
    rintro e w' ⟨N, rfl, _, _, hb⟩
    exact ⟨_, rfl, fun h => by simp at h, fun _ => ⟨_, _, rfl⟩, hb⟩
def strings_Join.f (l : List ByteArray) (s : ByteArray) : Option ByteArray :=
  if l.length ≤ 140737488355328 ∧ (Go.Lib.join (l.map (·.data.toList)) s.data.toList).length ≤ 140737488355328 then some ⟨(Go.Lib.join (l.map (·.data.toList)) s.data.toList).toArray⟩ else none
theorem strings_Join.calls (A0 : Option Addr) (c0 : Nat) (l0 : List ByteArray) (a1 : ByteArray) (r : ByteArray) (w : World) (hr0 : Kd.C Kd.string w A0 l0.length l0) (hc0 : l0.length ≤ c0) (h : strings_Join.f l0 a1 = some r) :
    Calls Tryd.prog 20 #[.slice A0 l0.length c0, .string a1] w fun e w' => e = .returned (.string r) ∧ Below w.heap.size w w' := by
  unfold strings_Join.f at h
  split at h
  · rename_i hb
    cases h
    cases l0 with
    | nil =>
      refine (Tryd.strings_Join_none A0 c0 a1 w).mono ?_
      rintro e w' ⟨rfl, rfl⟩
      exact ⟨rfl, Below.refl _ _⟩
    | cons x l =>
      obtain ⟨_, _, hc1⟩ := hr0
      obtain ⟨ad, rfl, hc⟩ := hc1 (by simp)
      clear hc1
      have hcell : ∀ (j : Nat) y, (x :: l)[j]? = some y → w.cell? (ad.add j) = some (.string y) := fun j y hj => by
        obtain ⟨c, hl, rfl, hcc⟩ := hc j y hj
        have := hcc 0 _ rfl
        rwa [show j * Kd.string.sz + 0 = j from by simp [Kd.string, Kd.scalar]] at this
      obtain ⟨bk, o, sp⟩ := ad
      have h0 := hcell 0 x rfl
      have hsp : sp = none := by
        cases sp with
        | none => rfl
        | some z => simp [Addr.add, World.cell?] at h0; split at h0 <;> simp at h0
      subst hsp
      have hbk : bk < w.heap.size := by have := World.block_lt_of_cell? w _ h0; simpa [Addr.add] using this
      exact Tryd.strings_Join bk o c0 (x :: l) a1 w (fun j y hj => by have := hcell j y hj; unfold Addr.add at this; split at this <;> simp_all) hbk hb.1 hc0 hb.2
  · cases h
end Go.Proofs.YtnfpchpnephheaaDoor.Lib
end
section
namespace Go.Proofs.YtnfpchpnephheaaDoor.Op
open Go.RowKit Go.Proofs.YtnfpchpnephheaaDoorW.PrintWords Go.Proofs.YtnfpchpnephheaaDoorW.PrintLast Go.Proofs.YtnfpchpnephheaaDoorW.PrintMore
set_option linter.unusedVariables false
set_option linter.unusedSimpArgs false
theorem trod_lt {H : Type} {enc : TypeId × Value → H} {P : Program} {w : World} {t : TypeId} {v : Value} {d : DataW H} {ps : List MemPlace} (ht : DataW.Trod enc P w 0 (fun _ => true) true t v d ps) : ∀ x ∈ ps, x.block < w.heap.size := by
  obtain ⟨m, hm⟩ := ht
  exact DataW.trod_lt m _ _ _ hm
end Go.Proofs.YtnfpchpnephheaaDoor.Op
end
section
namespace Go.Proofs.YtnfpchpnephheaaDoor.PA
open Go.RowKit Go.Proofs.YtnfpchpnephheaaDoor.Lib Go.Proofs.YtnfpchpnephheaaDoorW.PrintWords Go.Proofs.YtnfpchpnephheaaDoorW.PrintLast Go.Proofs.YtnfpchpnephheaaDoorW.PrintMore
attribute [local go_sem] max2_int min2_int max_two min_two max_three min_three max_four min_four   
set_option linter.unusedVariables false
set_option linter.unusedSimpArgs false
def errW : Option Int → Value
 | none => .nilIface
 | some c => .iface 0 (.int .i64 c)
theorem errW_none : errW none = .nilIface:=rfl
theorem errW_some (c : Int) : errW (some c) = .iface 0 (.int .i64 c):=rfl
theorem info3 : (Tryd.prog.info? 3).map (fun i => (i.zero,i.size,i.bytes)) = some (some (.int .i64 0),1,8):=by kernel_rfl
theorem info9 : (Tryd.prog.info? 9).map (fun i => (i.zero,i.size,i.bytes)) = some (some (.string ⟨#[]⟩),1,16):=by kernel_rfl
end Go.Proofs.YtnfpchpnephheaaDoor.PA
end
section
namespace Go.Proofs.YtnfpchpnephheaaDoor.PA
open Go.RowKit Go.Proofs.YtnfpchpnephheaaDoor.Lib Go.Proofs.YtnfpchpnephheaaDoorW.PrintWords Go.Proofs.YtnfpchpnephheaaDoorW.PrintLast Go.Proofs.YtnfpchpnephheaaDoorW.PrintMore
attribute [local go_sem] max2_int min2_int max_two min_two max_three min_three max_four min_four   
set_option linter.unusedVariables false
set_option linter.unusedSimpArgs false
mutual
def array_Right.j0 : Nat → Bool → List Int → Int → Option (Bool)
 | 0, _, _, _ => none
 | k + 1, x25, x102000, x102001 => if x25 = true then (some false) else (array_Right.l0 k (-1) x102000 (x102000.length : Int) 0)
def array_Right.l0 : Nat → Int → List Int → Int → Int → Option (Bool)
 | 0, _, _, _, _ => none
 | k + 1, x3, x27, x28, x29 => if x29 < x28 then (if 0 ≤ x29 then (if x29 < (x27.length : Int) then (if (rd x27 x29) ≤ x3 then (some false) else (if (rd x27 x29) > 999999 then (some false) else (array_Right.l0 k (rd x27 x29) x27 x28 (wrap64 (x29 + 1))))) else (none)) else (none)) else (some true)
end
def array_Right.f (k : Nat) (l0_0 : List Int) (a0_1 : Int) : Option (Bool) := if (l0_0.length : Int) = 0 then (array_Right.j0 k true l0_0 a0_1) else (if (l0_0.length : Int) > 256 then (array_Right.j0 k true l0_0 a0_1) else (if a0_1 < 0 then (array_Right.j0 k true l0_0 a0_1) else (array_Right.j0 k (decide (a0_1 > 999999)) l0_0 a0_1)))
theorem array_Right.mono_l : ∀ k,(∀ y0 y1 y2,LeO (array_Right.j0 k y0 y1 y2) (array_Right.j0 (k + 1) y0 y1 y2))∧(∀ y0 y1 y2 y3,LeO (array_Right.l0 k y0 y1 y2 y3) (array_Right.l0 (k + 1) y0 y1 y2 y3))
|0 => ⟨fun _ _ _ r h => by simp [array_Right.j0] at h,fun _ _ _ _ r h => by simp [array_Right.l0] at h⟩
|k + 1 => by
  obtain ⟨ih0,ih1⟩:=array_Right.mono_l k
  refine ⟨?_,?_⟩
  ·intro y0 y1 y2
   unfold array_Right.j0
   repeat' first
  |(with_reducible exact ih0 _ _ _)
  |(with_reducible exact ih1 _ _ _ _)
  |(with_reducible exact LeO.refl _)
  |(with_reducible exact LeO.none _)
  |(with_reducible refine LeO.ite ?_ ?_)
  |(with_reducible refine LeO.bind ?_ (fun _ => ?_))
  |exact ih0 _ _ _
  |exact ih1 _ _ _ _
  |exact LeO.none _
  |refine LeO.ite ?_ ?_
  |refine LeO.bind ?_ (fun _ => ?_)
  ·intro y0 y1 y2 y3
   unfold array_Right.l0
   repeat' first
  |(with_reducible exact ih0 _ _ _)
  |(with_reducible exact ih1 _ _ _ _)
  |(with_reducible exact LeO.refl _)
  |(with_reducible exact LeO.none _)
  |(with_reducible refine LeO.ite ?_ ?_)
  |(with_reducible refine LeO.bind ?_ (fun _ => ?_))
  |exact ih0 _ _ _
  |exact ih1 _ _ _ _
  |exact LeO.none _
  |refine LeO.ite ?_ ?_
  |refine LeO.bind ?_ (fun _ => ?_)
theorem array_Right.mono : ∀ a0 a1 k,LeO (array_Right.f k a0 a1) (array_Right.f (k + 1) a0 a1):=by
 (intro a0 a1 k);(obtain ⟨ih0,ih1⟩:=array_Right.mono_l k);(unfold array_Right.f)
 repeat' first
  |(with_reducible exact ih0 _ _ _)
  |(with_reducible exact ih1 _ _ _ _)
  |(with_reducible exact LeO.refl _)
  |(with_reducible exact LeO.none _)
  |(with_reducible refine LeO.ite ?_ ?_)
  |(with_reducible refine LeO.bind ?_ (fun _ => ?_))
  |exact ih0 _ _ _
  |exact ih1 _ _ _ _
  |exact LeO.none _
  |refine LeO.ite ?_ ?_
  |refine LeO.bind ?_ (fun _ => ?_)
set_option maxHeartbeats 8000000 in
set_option maxRecDepth 100000 in
theorem array_Right.calls (k : Nat) (A0_0 : Option Addr) (c0_0 : Nat) (l0_0 : List Int) (a0_1 : Int) (r : Bool) (w : World) (hr0_0 : Kd.C (Kd.int .i64) w A0_0 l0_0.length l0_0) (hc0_0 : l0_0.length ≤ c0_0) (h : array_Right.f k l0_0 a0_1 = some r) :
  Calls Tryd.prog 11 #[.agg #[.slice A0_0 l0_0.length c0_0,.int .i64 a0_1]] w fun e w' => e = .returned (.bool r)∧Below w.heap.size w w':=by
 (have hu28:=Tryd.underlying28);(have HR0_0:=Aside0.mk hr0_0);(have HC0_0:=Aside0.mk hc0_0);(clear hr0_0 hc0_0);(have HB:=Aside0.mk (Below.refl w.heap.size w));(have H : (if (l0_0.length : Int) = 0 then (array_Right.j0 k true l0_0 a0_1) else (if (l0_0.length : Int) > 256 then (array_Right.j0 k true l0_0 a0_1) else (if a0_1 < 0 then (array_Right.j0 k true l0_0 a0_1) else (array_Right.j0 k (decide (a0_1 > 999999)) l0_0 a0_1)))) = some r:=h);(clear h);(have HC2:=Aside0.mk H);(clear H);(go_enter Tryd.func11,Tryd.ntmps11);(go_upto_region 1 with (first|((with_reducible refine gate_dst (N:=1) rfl ?_);(try (refine gate_guard (by rfl) ?_;dsimp only));refine box_event ?hg (N:=1) ?hd (cs:=#[.slice A0_0 l0_0.length c0_0,.int .i64 a0_1]) (t:=28) ?hr ?_;(case hd => rfl);(case hg => rfl);(case hr => first|(go_simp;done)|(go_simp;rfl));intro gb101 hg w3 hbox hb;have n0_:=Aside0.mk (below_step (by repeat (first|(with_reducible first|exact HB.out|apply below_alloc|apply pw_below_drewN|apply below_drew1)|exact HB.out)) hb);have n1_:=Aside0.mk (hbox);have n2_:=Aside0.mk ((by rw [hg];exact (below_size (by repeat (first|(with_reducible first|exact HB.out|apply below_alloc|apply pw_below_drewN|apply below_drew1)|exact HB.out))) : w.heap.size ≤ gb101));have n3_:=Aside0.mk ((by rw [hg];exact (below_size (by repeat (first|(with_reducible first|exact HB.out|apply below_alloc|apply pw_below_drewN|apply below_drew1)|exact HB.out))) : w.heap.size ≤ gb101));clear HB;have HB:=n0_;have BK101:=n1_;have GW101:=n2_;have GE101:=n3_;clear n0_ n1_ n2_ n3_;clear hb hbox hg)));((try simp only [Act.put,List.setIfInBounds_toArray,List.set_cons_zero,List.set_cons_succ]));(go_cut [25] (fun v25 wc => ∃ (kq : Nat) (x25_1 : Bool),v25 = .bool x25_1∧Aside0 (array_Right.j0 kq x25_1 l0_0 a0_1 = some r)∧Aside0 (kq ≤ k)∧Aside0 (wc.heap[gb101]? = some (.cells #[(.slice A0_0 l0_0.length c0_0),.int .i64 a0_1] 28 (0,0)))∧Aside0 (Below w.heap.size w wc)))
 case first =>
  (have H:=HC2.out);(clear HC2);(by_cases c4 : (l0_0.length : Int) = 0)
  ·(rw [if_pos c4] at H);(have c4b0 : ((l0_0.length : Int) == 0) = true:=beq_iff_eq.mpr c4);(have c4b1 : ((l0_0.length : Int) != 0) = false:=bne_eq_false_iff_eq.mpr c4);(clear c4);((first|rw [c4b0]|(simp only [i64_w,i32_w];rw [c4b0])|skip));(have H':=Aside0.mk H);(clear H);(have hcz5_0 : w3.cell? ⟨gb101,0,none⟩ = some (.slice A0_0 l0_0.length c0_0):=(blk_cell BK101.out 0).trans rfl);(have hcz5_1 : w3.cell? ⟨gb101,1,none⟩ = some (.int .i64 a0_1):=(blk_cell BK101.out 1).trans rfl);(have hfz5_0:=blk_frozen BK101.out 0);(have hfz5_1:=blk_frozen BK101.out 1);(go_wp2);(go_meet)
   case rel => exact ⟨_,(true),(by first|rfl|(simp;done)|(simp [*];done)),H',⟨by first|omega|exact Nat.le_refl _⟩,⟨by (with_reducible repeat (first|refine blk_drewN ?_ _|refine blk_drew ?_|refine blk_alloc ?_ _));exact BK101.out⟩,⟨by repeat (first|(with_reducible first|exact HB.out|apply below_alloc|apply pw_below_drewN|apply below_drew1|refine below_set ?_ GE101.out)|exact HB.out)⟩⟩
  ·(rw [if_neg c4] at H);(have c4b0 : ((l0_0.length : Int) == 0) = false:=beq_eq_false_iff_ne.mpr c4);(have c4b1 : ((l0_0.length : Int) != 0) = true:=bne_iff_ne.mpr c4);(have c4b2 : ¬ (l0_0 = []):=fun h_ => c4 (by rw [h_];rfl));((first|rw [c4b0]|(simp only [i64_w,i32_w];rw [c4b0])|skip));(by_cases c6 : (l0_0.length : Int) > 256)
   ·(rw [if_pos c6] at H);(have c6b0 : decide (256 < (l0_0.length : Int)) = true:=decide_eq_true c6);(have c6b1 : decide (256 < l0_0.length) = true:=decide_eq_true (by omega));(clear c6);(have H':=Aside0.mk H);(clear H);(have hcz7_0 : w3.cell? ⟨gb101,0,none⟩ = some (.slice A0_0 l0_0.length c0_0):=(blk_cell BK101.out 0).trans rfl);(have hcz7_1 : w3.cell? ⟨gb101,1,none⟩ = some (.int .i64 a0_1):=(blk_cell BK101.out 1).trans rfl);(have hfz7_0:=blk_frozen BK101.out 0);(have hfz7_1:=blk_frozen BK101.out 1);(go_wp2);(go_meet)
    case rel => exact ⟨_,(true),(by first|rfl|(simp;done)|(simp [*];done)),H',⟨by first|omega|exact Nat.le_refl _⟩,⟨by (with_reducible repeat (first|refine blk_drewN ?_ _|refine blk_drew ?_|refine blk_alloc ?_ _));exact BK101.out⟩,⟨by repeat (first|(with_reducible first|exact HB.out|apply below_alloc|apply pw_below_drewN|apply below_drew1|refine below_set ?_ GE101.out)|exact HB.out)⟩⟩
   ·(rw [if_neg c6] at H);(have c6b0 : decide (256 < (l0_0.length : Int)) = false:=decide_eq_false c6);(have c6b1 : decide (256 < l0_0.length) = false:=decide_eq_false (by omega));(clear c6);(by_cases c8 : a0_1 < 0)
    ·(rw [if_pos c8] at H);(have c8b0 : decide (a0_1 < 0) = true:=decide_eq_true c8);(clear c8);(have H':=Aside0.mk H);(clear H);(have hcz9_0 : w3.cell? ⟨gb101,0,none⟩ = some (.slice A0_0 l0_0.length c0_0):=(blk_cell BK101.out 0).trans rfl);(have hcz9_1 : w3.cell? ⟨gb101,1,none⟩ = some (.int .i64 a0_1):=(blk_cell BK101.out 1).trans rfl);(have hfz9_0:=blk_frozen BK101.out 0);(have hfz9_1:=blk_frozen BK101.out 1);(go_wp2);(go_meet)
     case rel => exact ⟨_,(true),(by first|rfl|(simp;done)|(simp [*];done)),H',⟨by first|omega|exact Nat.le_refl _⟩,⟨by (with_reducible repeat (first|refine blk_drewN ?_ _|refine blk_drew ?_|refine blk_alloc ?_ _));exact BK101.out⟩,⟨by repeat (first|(with_reducible first|exact HB.out|apply below_alloc|apply pw_below_drewN|apply below_drew1|refine below_set ?_ GE101.out)|exact HB.out)⟩⟩
    ·(rw [if_neg c8] at H);(have c8b0 : decide (a0_1 < 0) = false:=decide_eq_false c8);(clear c8);(have H':=Aside0.mk H);(clear H);(have hcz10_0 : w3.cell? ⟨gb101,0,none⟩ = some (.slice A0_0 l0_0.length c0_0):=(blk_cell BK101.out 0).trans rfl);(have hcz10_1 : w3.cell? ⟨gb101,1,none⟩ = some (.int .i64 a0_1):=(blk_cell BK101.out 1).trans rfl);(have hfz10_0:=blk_frozen BK101.out 0);(have hfz10_1:=blk_frozen BK101.out 1);(go_wp2);(go_meet)
     case rel => exact ⟨_,(decide (a0_1 > 999999)),(by first|rfl|(simp;done)|(simp [*];done)),H',⟨by first|omega|exact Nat.le_refl _⟩,⟨by (with_reducible repeat (first|refine blk_drewN ?_ _|refine blk_drew ?_|refine blk_alloc ?_ _));exact BK101.out⟩,⟨by repeat (first|(with_reducible first|exact HB.out|apply below_alloc|apply pw_below_drewN|apply below_drew1|refine below_set ?_ GE101.out)|exact HB.out)⟩⟩
 case rest =>
  (clear HC2);(try clear c1);(try clear p2);(try clear c4);(try clear c4b0);(try clear c4b1);(try clear c4b2);(try clear c6);(try clear c6b0);(try clear c6b1);(try clear c8);(try clear c8b0);(try clear hcz10_0);(try clear hcz10_1);(try clear hcz5_0);(try clear hcz5_1);(try clear hcz7_0);(try clear hcz7_1);(try clear hcz9_0);(try clear hcz9_1);(try clear hfz10_0);(try clear hfz10_1);(try clear hfz5_0);(try clear hfz5_1);(try clear hfz7_0);(try clear hfz7_1);(try clear hfz9_0);(try clear hfz9_1);(obtain ⟨kq,x25_1,rfl,HA,HJ1,BK101,HB⟩:=hcut)
  cases kq with
 |zero => exact absurd HA.out (by simp [array_Right.j0])
 |succ kj1 =>
   (have H:=HA.out);(clear HA);(simp only [array_Right.j0] at H);(by_cases c11 : x25_1 = true);·(subst c11);(have H1 : (some false) = some r:=by rw [if_pos rfl] at H;exact H);(clear H);(have H:=H1);(clear H1);(obtain rfl:=Option.some.inj H);(go_wp2);(go_ret);(exact ⟨by first|rfl|(simp [errW_none,errW_some] <;> rfl)|(simp [*,errW_none,errW_some] <;> rfl),by repeat (first|(with_reducible first|exact HB.out|apply below_alloc|apply pw_below_drewN|apply below_drew1|refine below_set ?_ GE101.out)|exact HB.out)⟩)
   ·(replace c11:=Bool.eq_false_iff.mpr c11);(subst c11);(have H1 : (array_Right.l0 kj1 (-1) l0_0 (l0_0.length : Int) 0) = some r:=by rw [if_neg (show ¬ (false = true) by decide)] at H;exact H);(clear H);(have H:=H1);(clear H1);(have H':=Aside0.mk H);(clear H);(have hcz12_0 : wc.cell? ⟨gb101,0,none⟩ = some (.slice A0_0 l0_0.length c0_0):=(blk_cell BK101.out 0).trans rfl);(have hcz12_1 : wc.cell? ⟨gb101,1,none⟩ = some (.int .i64 a0_1):=(blk_cell BK101.out 1).trans rfl);(have hfz12_0:=blk_frozen BK101.out 0);(have hfz12_1:=blk_frozen BK101.out 1);(go_wp2);(go_loopg [3,29] kj1 (fun kq v3 v29 w' => ∃ (x3_2 : Int) (x29_2 : Int),v3 = .int .i64 x3_2∧v29 = .int .i64 x29_2∧Aside0 (array_Right.l0 kq x3_2 l0_0 (l0_0.length : Int) x29_2 = some r)∧Aside0 (kq ≤ kj1)∧Aside0 (w'.heap[gb101]? = some (.cells #[(.slice A0_0 l0_0.length c0_0),.int .i64 a0_1] 28 (0,0)))∧Aside0 (Below w.heap.size w w')))
    case atStart => exact ⟨((-1)),(0),(by first|rfl|(simp;done)|(simp [*];done)),(by first|rfl|(simp;done)|(simp [*];done)),H',⟨Nat.le_refl _⟩,⟨by (with_reducible repeat (first|refine blk_drewN ?_ _|refine blk_drew ?_|refine blk_alloc ?_ _));exact BK101.out⟩,⟨by repeat (first|(with_reducible first|exact HB.out|apply below_alloc|apply pw_below_drewN|apply below_drew1|refine below_set ?_ GE101.out)|exact HB.out)⟩⟩
    case round =>
     (clear H');(try clear c1);(try clear p2);(try clear c4);(try clear c4b0);(try clear c4b1);(try clear c4b2);(try clear c6);(try clear c6b0);(try clear c6b1);(try clear c8);(try clear c8b0);(try clear c11);(try clear hcz10_0);(try clear hcz10_1);(try clear hcz12_0);(try clear hcz12_1);(try clear hcz5_0);(try clear hcz5_1);(try clear hcz7_0);(try clear hcz7_1);(try clear hcz9_0);(try clear hcz9_1);(try clear hfz10_0);(try clear hfz10_1);(try clear hfz12_0);(try clear hfz12_1);(try clear hfz5_0);(try clear hfz5_1);(try clear hfz7_0);(try clear hfz7_1);(try clear hfz9_0);(try clear hfz9_1);(try clear p2);(obtain ⟨x3_2,x29_2,rfl,rfl,HA,HK2,BK101,HB⟩:=hrel)
     cases gk with
    |zero => exact absurd HA.out (by simp [array_Right.l0])
    |succ k2 =>
      (have H:=HA.out);(clear HA);(simp only [array_Right.l0] at H);(by_cases c13 : x29_2 < (l0_0.length : Int))
      ·(rw [if_pos c13] at H);(have c13b0 : decide (x29_2 < (l0_0.length : Int)) = true:=decide_eq_true c13);(clear c13);(by_cases c14 : 0 ≤ x29_2)
       ·(rw [if_pos c14] at H);(have c14b0 : decide (0 ≤ x29_2) = true:=decide_eq_true c14);(clear c14);(by_cases c15 : x29_2 < (l0_0.length : Int))
        ·(rw [if_pos c15] at H);(have c15b0 : decide (x29_2 < (l0_0.length : Int)) = true:=decide_eq_true c15);(clear c15);(by_cases c16 : (rd l0_0 x29_2) ≤ x3_2)
         ·(rw [if_pos c16] at H);(have c16b0 : decide ((rd l0_0 x29_2) ≤ x3_2) = true:=decide_eq_true c16);(clear c16);(obtain rfl:=Option.some.inj H);(have p102 : 0 ≤ (x29_2 : Int):=of_decide_eq_true (by first|(with_reducible assumption)|assumption));(have q102 : x29_2 < (l0_0.length : Int):=of_decide_eq_true (by first|(with_reducible assumption)|assumption));(obtain ⟨ad102,e102,hx102_0⟩:=Kd.at_int HR0_0.out x29_2 p102 q102)
          cases e102
          (replace hx102_0:=(HB.out.cell (World.block_lt_of_cell? w _ hx102_0)).trans hx102_0);(replace p102:=eq_true p102);(replace q102:=eq_true q102);(go_wp2);(go_ret);(exact ⟨by first|rfl|(simp [errW_none,errW_some] <;> rfl)|(simp [*,errW_none,errW_some] <;> rfl),by repeat (first|(with_reducible first|exact HB.out|apply below_alloc|apply pw_below_drewN|apply below_drew1|refine below_set ?_ GE101.out)|exact HB.out)⟩)
         ·(rw [if_neg c16] at H);(have c16b0 : decide ((rd l0_0 x29_2) ≤ x3_2) = false:=decide_eq_false c16);(clear c16);(by_cases c17 : (rd l0_0 x29_2) > 999999)
          ·(rw [if_pos c17] at H);(have c17b0 : decide (999999 < (rd l0_0 x29_2)) = true:=decide_eq_true c17);(clear c17);(obtain rfl:=Option.some.inj H);(have p102 : 0 ≤ (x29_2 : Int):=of_decide_eq_true (by first|(with_reducible assumption)|assumption));(have q102 : x29_2 < (l0_0.length : Int):=of_decide_eq_true (by first|(with_reducible assumption)|assumption));(obtain ⟨ad102,e102,hx102_0⟩:=Kd.at_int HR0_0.out x29_2 p102 q102)
           cases e102
           (replace hx102_0:=(HB.out.cell (World.block_lt_of_cell? w _ hx102_0)).trans hx102_0);(replace p102:=eq_true p102);(replace q102:=eq_true q102);(go_wp2);(go_ret);(exact ⟨by first|rfl|(simp [errW_none,errW_some] <;> rfl)|(simp [*,errW_none,errW_some] <;> rfl),by repeat (first|(with_reducible first|exact HB.out|apply below_alloc|apply pw_below_drewN|apply below_drew1|refine below_set ?_ GE101.out)|exact HB.out)⟩)
          ·(rw [if_neg c17] at H);(have c17b0 : decide (999999 < (rd l0_0 x29_2)) = false:=decide_eq_false c17);(clear c17);(have H':=Aside0.mk H);(clear H);(have p102 : 0 ≤ (x29_2 : Int):=of_decide_eq_true (by first|(with_reducible assumption)|assumption));(have q102 : x29_2 < (l0_0.length : Int):=of_decide_eq_true (by first|(with_reducible assumption)|assumption));(obtain ⟨ad102,e102,hx102_0⟩:=Kd.at_int HR0_0.out x29_2 p102 q102)
           cases e102
           (replace hx102_0:=(HB.out.cell (World.block_lt_of_cell? w _ hx102_0)).trans hx102_0);(replace p102:=eq_true p102);(replace q102:=eq_true q102);(go_wp2);(go_roundg k2)
           case measure => have:=HJ1.out;have:=HK2.out;omega
           case rel => exact ⟨(rd l0_0 x29_2),(wrap64 (x29_2 + 1)),(by first|rfl|(simp;done)|(simp [*];done)),(by first|rfl|(simp;done)|(simp [*];done)),H',⟨by have:=HJ1.out;have:=HK2.out;omega⟩,⟨by (with_reducible repeat (first|refine blk_drewN ?_ _|refine blk_drew ?_|refine blk_alloc ?_ _));exact BK101.out⟩,⟨by repeat (first|(with_reducible first|exact HB.out|apply below_alloc|apply pw_below_drewN|apply below_drew1|refine below_set ?_ GE101.out)|exact HB.out)⟩⟩
        ·(rw [if_neg c15] at H);(exact absurd H (by simp))
       ·(rw [if_neg c14] at H);(exact absurd H (by simp))
      ·(rw [if_neg c13] at H);(have c13b0 : decide (x29_2 < (l0_0.length : Int)) = false:=decide_eq_false c13);(clear c13);(obtain rfl:=Option.some.inj H);(go_wp2);(go_ret);(exact ⟨by first|rfl|(simp [errW_none,errW_some] <;> rfl)|(simp [*,errW_none,errW_some] <;> rfl),by repeat (first|(with_reducible first|exact HB.out|apply below_alloc|apply pw_below_drewN|apply below_drew1|refine below_set ?_ GE101.out)|exact HB.out)⟩)
def array_run.l0 : Nat → List Int → Int → Int → Option (Int × Int)
 | 0, _, _, _ => none
 | k + 1, x0, x4, x5 => if x5 < (x0.length : Int) then (if 0 ≤ x5 then (if 0 ≤ (wrap64 (x5 - 1)) then (if (wrap64 (x5 - 1)) < (x0.length : Int) then (if (wrap64 ((rd x0 x5) - (rd x0 (wrap64 (x5 - 1))))) = x4 then (array_run.l0 k x0 x4 (wrap64 (x5 + 1))) else (some (x5, x4))) else (none)) else (none)) else (none)) else (some (x5, x4))
def array_run.f (k : Nat) (l0 : List Int) : Option (Int × Int) := if (l0.length : Int) < 2 then (some (1, 0)) else (if 1 < (l0.length : Int) then (if 0 < (l0.length : Int) then (array_run.l0 k l0 (wrap64 ((rd l0 1) - (rd l0 0))) 2) else (none)) else (none))
theorem array_run.mono_l : ∀ k,(∀ y0 y1 y2,LeO (array_run.l0 k y0 y1 y2) (array_run.l0 (k + 1) y0 y1 y2))
|0 => fun _ _ _ r h => by simp [array_run.l0] at h
|k + 1 => by
  have ih0:=array_run.mono_l k
  ·intro y0 y1 y2
   unfold array_run.l0
   repeat' first
  |(with_reducible exact ih0 _ _ _)
  |(with_reducible exact LeO.refl _)
  |(with_reducible exact LeO.none _)
  |(with_reducible refine LeO.ite ?_ ?_)
  |(with_reducible refine LeO.bind ?_ (fun _ => ?_))
  |exact ih0 _ _ _
  |exact LeO.none _
  |refine LeO.ite ?_ ?_
  |refine LeO.bind ?_ (fun _ => ?_)
theorem array_run.mono : ∀ a0 k,LeO (array_run.f k a0) (array_run.f (k + 1) a0):=by
 (intro a0 k);(have ih0:=array_run.mono_l k);(unfold array_run.f)
 repeat' first
  |(with_reducible exact ih0 _ _ _)
  |(with_reducible exact LeO.refl _)
  |(with_reducible exact LeO.none _)
  |(with_reducible refine LeO.ite ?_ ?_)
  |(with_reducible refine LeO.bind ?_ (fun _ => ?_))
  |exact ih0 _ _ _
  |exact LeO.none _
  |refine LeO.ite ?_ ?_
  |refine LeO.bind ?_ (fun _ => ?_)
set_option maxHeartbeats 8000000 in
set_option maxRecDepth 100000 in
theorem array_run.calls (k : Nat) (A0 : Option Addr) (c0 : Nat) (l0 : List Int) (r1 : Int) (r2 : Int) (w : World) (hr0 : Kd.C (Kd.int .i64) w A0 l0.length l0) (hc0 : l0.length ≤ c0) (h : array_run.f k l0 = some (r1,r2)) :
  Calls Tryd.prog 19 #[.slice A0 l0.length c0] w fun e w' => e = .returned (.tuple #[.int .i64 r1,.int .i64 r2])∧Drawn0 w w':=by
 (have HR0:=Aside0.mk hr0);(have HC0:=Aside0.mk hc0);(clear hr0 hc0);(have H : (if (l0.length : Int) < 2 then (some (1,0)) else (if 1 < (l0.length : Int) then (if 0 < (l0.length : Int) then (array_run.l0 k l0 (wrap64 ((rd l0 1) - (rd l0 0))) 2) else (none)) else (none))) = some (r1,r2):=h);(clear h);(by_cases c2 : (l0.length : Int) < 2)
 ·(rw [if_pos c2] at H);(have c2b0 : decide ((l0.length : Int) < 2) = true:=decide_eq_true c2);(have c2b1 : decide (l0.length < 2) = true:=decide_eq_true (by omega));(clear c2);(simp only [Option.some.injEq,Prod.mk.injEq] at H);(obtain ⟨rfl,rfl⟩:=H);(go_enter Tryd.func19,Tryd.ntmps19);(go_wp2)
  repeat (go_quiet (fail);try go_wp2)
  (go_ret2);(exact ⟨by first|rfl|(simp;done)|(simp [*];done),by repeat (first|exact Drawn0.refl _|apply Drawn0.step)⟩)
 ·(rw [if_neg c2] at H);(have c2b0 : decide ((l0.length : Int) < 2) = false:=decide_eq_false c2);(have c2b1 : decide (l0.length < 2) = false:=decide_eq_false (by omega));(clear c2);(by_cases c3 : 1 < (l0.length : Int))
  ·(rw [if_pos c3] at H);(have c3b0 : decide (1 < (l0.length : Int)) = true:=decide_eq_true c3);(have c3b1 : decide (1 < l0.length) = true:=decide_eq_true (by omega));(clear c3);(by_cases c4 : 0 < (l0.length : Int))
   ·(rw [if_pos c4] at H);(have c4b0 : decide (0 < (l0.length : Int)) = true:=decide_eq_true c4);(have c4b1 : decide (0 < l0.length) = true:=decide_eq_true (by omega));(clear c4);(have H':=Aside0.mk H);(clear H);(have p103 : 0 ≤ (1 : Int):=(by omega));(have q103 : 1 < (l0.length : Int):=of_decide_eq_true (by first|(with_reducible assumption)|assumption));(obtain ⟨ad103,e103,hx103_0⟩:=Kd.at_int HR0.out 1 p103 q103)
    cases e103
    ((try simp only [show (1 : Int).toNat = 1 from rfl,Nat.reduceMul,Nat.reduceEqDiff,Go.Addr.add,↓reduceIte] at hx103_0));(have qi103 : (1 < l0.length) = True:=eq_true (by omega));((try rw [show ((1 : Int)).toNat = 1 from rfl] at hx103_0));(replace p103:=eq_true p103);(replace q103:=eq_true q103);(have p104 : 0 ≤ (0 : Int):=(by omega));(have q104 : 0 < (l0.length : Int):=of_decide_eq_true (by first|(with_reducible assumption)|assumption));(obtain ⟨ad104,e104,hx104_0⟩:=Kd.at_int HR0.out 0 p104 q104);(obtain rfl : ad103 = ad104:=(by injection e104));(have qi104 : (0 < l0.length) = True:=eq_true (by omega));((try rw [show ((0 : Int)).toNat = 0 from rfl] at hx104_0));((try rw [Addr.add_zero'] at hx104_0));(replace p104:=eq_true p104);(replace q104:=eq_true q104);(go_enter Tryd.func19,Tryd.ntmps19);(go_wp2)
    repeat (go_quiet (fail);try go_wp2)
    (go_loopg [5] k (fun kq v5 w' => ∃ (x5_1 : Int),v5 = .int .i64 x5_1∧Aside0 (array_run.l0 kq l0 (wrap64 ((rd l0 1) - (rd l0 0))) x5_1 = some (r1,r2))∧Aside0 (kq ≤ k)∧Drawn0 w w'))
    case atStart => exact ⟨(2),(by first|rfl|(simp;done)|(simp [*];done)),H',⟨Nat.le_refl _⟩,by repeat (first|exact Drawn0.refl _|apply Drawn0.step)⟩
    case round =>
     (clear H');(try clear c1);(try clear p1);(try clear q1);(try clear hx1);(try clear qi1);(try clear c2);(try clear c2b0);(try clear c2b1);(try clear p2);(try clear c3);(try clear c3b0);(try clear c3b1);(try clear c4);(try clear c4b0);(try clear c4b1);(try clear hx103_0);(try clear hx104_0);(try clear p103);(try clear p104);(try clear q103);(try clear q104);(obtain ⟨x5_1,rfl,HA,HK1,⟨m1,rfl⟩⟩:=hrel)
     cases gk with
    |zero => exact absurd HA.out (by simp [array_run.l0])
    |succ k1 =>
      (have H:=HA.out);(clear HA);(simp only [array_run.l0] at H);(by_cases c5 : x5_1 < (l0.length : Int))
      ·(rw [if_pos c5] at H);(have c5b0 : decide (x5_1 < (l0.length : Int)) = true:=decide_eq_true c5);(clear c5);(by_cases c6 : 0 ≤ x5_1)
       ·(rw [if_pos c6] at H);(have c6b0 : decide (0 ≤ x5_1) = true:=decide_eq_true c6);(clear c6);(obtain ⟨ji7,hji7⟩ : ∃ j_ : Int,(wrap64 (x5_1 - 1)) = j_:=⟨_,rfl⟩);(replace H : (if 0 ≤ (ji7) then (if (ji7) < (l0.length : Int) then (if (wrap64 ((rd l0 x5_1) - (rd l0 (ji7)))) = (wrap64 ((rd l0 1) - (rd l0 0))) then (array_run.l0 k1 l0 (wrap64 ((rd l0 1) - (rd l0 0))) (wrap64 (x5_1 + 1))) else (some (x5_1,(wrap64 ((rd l0 1) - (rd l0 0)))))) else (none)) else (none)) = some (r1,r2):=by first|(rw [hji7] at H;exact H)|(simp only [hji7] at H ⊢;exact H));(have hji7w : (IntKind.i64.wrap (x5_1 - 1)) = ji7:=(i64_w _).trans hji7);(by_cases c8 : 0 ≤ (ji7))
        ·(rw [if_pos c8] at H);(have c8b0 : decide (0 ≤ (ji7)) = true:=decide_eq_true c8);(clear c8);(by_cases c9 : (ji7) < (l0.length : Int))
         ·(rw [if_pos c9] at H);(have c9b0 : decide ((ji7) < (l0.length : Int)) = true:=decide_eq_true c9);(clear c9);(by_cases c10 : (wrap64 ((rd l0 x5_1) - (rd l0 (ji7)))) = (wrap64 ((rd l0 1) - (rd l0 0))))
          ·(rw [if_pos c10] at H);(have c10b0 : ((wrap64 ((rd l0 x5_1) - (rd l0 (ji7)))) == (wrap64 ((rd l0 1) - (rd l0 0)))) = true:=beq_iff_eq.mpr c10);(have c10b1 : ((wrap64 ((rd l0 x5_1) - (rd l0 (ji7)))) != (wrap64 ((rd l0 1) - (rd l0 0)))) = false:=bne_eq_false_iff_eq.mpr c10);(clear c10);(have H':=Aside0.mk H);(clear H);(have p105 : 0 ≤ (x5_1 : Int):=of_decide_eq_true (by first|(with_reducible assumption)|assumption));(have q105 : x5_1 < (l0.length : Int):=of_decide_eq_true (by first|(with_reducible assumption)|assumption));(obtain ⟨ad105,e105,hx105_0⟩:=Kd.at_int HR0.out x5_1 p105 q105);(obtain rfl : ad103 = ad105:=(by injection e105));(replace p105:=eq_true p105);(replace q105:=eq_true q105);(have p106 : 0 ≤ ((ji7) : Int):=of_decide_eq_true (by first|(with_reducible assumption)|assumption));(have q106 : (ji7) < (l0.length : Int):=of_decide_eq_true (by first|(with_reducible assumption)|assumption));(obtain ⟨ad106,e106,hx106_0⟩:=Kd.at_int HR0.out (ji7) p106 q106);(obtain rfl : ad103 = ad106:=(by injection e106));(replace p106:=eq_true p106);(replace q106:=eq_true q106);(go_wp2)
           repeat (go_quiet (fail);try go_wp2)
           (go_roundg k1)
           case measure => have:=HK1.out;omega
           case rel => exact ⟨(wrap64 (x5_1 + 1)),(by first|rfl|(simp;done)|(simp [*];done)),H',⟨by have:=HK1.out;omega⟩,by repeat (first|exact Drawn0.refl _|apply Drawn0.step)⟩
          ·(rw [if_neg c10] at H);(have c10b0 : ((wrap64 ((rd l0 x5_1) - (rd l0 (ji7)))) == (wrap64 ((rd l0 1) - (rd l0 0)))) = false:=beq_eq_false_iff_ne.mpr c10);(have c10b1 : ((wrap64 ((rd l0 x5_1) - (rd l0 (ji7)))) != (wrap64 ((rd l0 1) - (rd l0 0)))) = true:=bne_iff_ne.mpr c10);(simp only [Option.some.injEq,Prod.mk.injEq] at H);(obtain ⟨rfl,rfl⟩:=H);(have p105 : 0 ≤ (x5_1 : Int):=of_decide_eq_true (by first|(with_reducible assumption)|assumption));(have q105 : x5_1 < (l0.length : Int):=of_decide_eq_true (by first|(with_reducible assumption)|assumption));(obtain ⟨ad105,e105,hx105_0⟩:=Kd.at_int HR0.out x5_1 p105 q105);(obtain rfl : ad103 = ad105:=(by injection e105));(replace p105:=eq_true p105);(replace q105:=eq_true q105);(have p106 : 0 ≤ ((ji7) : Int):=of_decide_eq_true (by first|(with_reducible assumption)|assumption));(have q106 : (ji7) < (l0.length : Int):=of_decide_eq_true (by first|(with_reducible assumption)|assumption));(obtain ⟨ad106,e106,hx106_0⟩:=Kd.at_int HR0.out (ji7) p106 q106);(obtain rfl : ad103 = ad106:=(by injection e106));(replace p106:=eq_true p106);(replace q106:=eq_true q106);(go_wp2)
           repeat (go_quiet (fail);try go_wp2)
           (go_ret2);(exact ⟨by first|rfl|(simp;done)|(simp only [← hji7] <;> (first|rfl|simp))|(simp [*];done),by repeat (first|exact Drawn0.refl _|apply Drawn0.step)⟩)
         ·(rw [if_neg c9] at H);(exact absurd H (by simp))
        ·(rw [if_neg c8] at H);(exact absurd H (by simp))
       ·(rw [if_neg c6] at H);(exact absurd H (by simp))
      ·(rw [if_neg c5] at H);(have c5b0 : decide (x5_1 < (l0.length : Int)) = false:=decide_eq_false c5);(clear c5);(simp only [Option.some.injEq,Prod.mk.injEq] at H);(obtain ⟨rfl,rfl⟩:=H);(go_wp2)
       repeat (go_quiet (fail);try go_wp2)
       (go_ret2);(exact ⟨by first|rfl|(simp;done)|(simp [*];done),by repeat (first|exact Drawn0.refl _|apply Drawn0.step)⟩)
   ·(rw [if_neg c4] at H);(exact absurd H (by simp))
  ·(rw [if_neg c3] at H);(exact absurd H (by simp))
end Go.Proofs.YtnfpchpnephheaaDoor.PA
end
section
namespace Go.Proofs.YtnfpchpnephheaaDoor.PA
open Go.RowKit Go.Proofs.YtnfpchpnephheaaDoor.Lib Go.Proofs.YtnfpchpnephheaaDoorW.PrintWords Go.Proofs.YtnfpchpnephheaaDoorW.PrintLast Go.Proofs.YtnfpchpnephheaaDoorW.PrintMore
attribute [local go_sem] max2_int min2_int max_two min_two max_three min_three max_four min_four   
set_option linter.unusedVariables false
set_option linter.unusedSimpArgs false
def array_Format.l0 : Nat → List ByteArray → List Int → List Int → Int → Option (ByteArray × Int)
 | 0, _, _, _, _ => none
 | k + 1, x4, x5, x108000, x108001 => if (x5.length : Int) > 0 then (if 0 < (x5.length : Int) then ((strconv_Itoa.f (rd x5 0)).bind fun t110 => ((array_run.f k x5).bind fun bt111 => (if bt111.2 = 1 then (if 0 ≤ (wrap64 (bt111.1 - 1)) then (if (wrap64 (bt111.1 - 1)) < (x5.length : Int) then ((strconv_Itoa.f (rd x5 (wrap64 (bt111.1 - 1)))).bind fun t114 => (if 1 + t114.size ≤ 9223372036854775807 then (if t110.size + ((⟨#[45]⟩ : ByteArray) ++ t114).size ≤ 9223372036854775807 then (if x4.length < 8796093022208 then (if 0 ≤ bt111.1 then (if bt111.1 ≤ (x5.length : Int) then (array_Format.l0 k (x4 ++ [t110 ++ ((⟨#[45]⟩ : ByteArray) ++ t114)]) (x5.drop (bt111.1 : Int).toNat) x108000 x108001) else (none)) else (none)) else (none)) else (none)) else (none))) else (none)) else (none)) else (if bt111.1 > 2 then (if 0 ≤ (wrap64 (bt111.1 - 1)) then (if (wrap64 (bt111.1 - 1)) < (x5.length : Int) then ((strconv_Itoa.f (rd x5 (wrap64 (bt111.1 - 1)))).bind fun t124 => (if 1 + t124.size ≤ 9223372036854775807 then (if ((⟨#[45]⟩ : ByteArray) ++ t124).size + 1 ≤ 9223372036854775807 then ((strconv_Itoa.f bt111.2).bind fun t125 => (if (((⟨#[45]⟩ : ByteArray) ++ t124) ++ (⟨#[58]⟩ : ByteArray)).size + t125.size ≤ 9223372036854775807 then (if t110.size + ((((⟨#[45]⟩ : ByteArray) ++ t124) ++ (⟨#[58]⟩ : ByteArray)) ++ t125).size ≤ 9223372036854775807 then (if x4.length < 8796093022208 then (if 0 ≤ bt111.1 then (if bt111.1 ≤ (x5.length : Int) then (array_Format.l0 k (x4 ++ [t110 ++ ((((⟨#[45]⟩ : ByteArray) ++ t124) ++ (⟨#[58]⟩ : ByteArray)) ++ t125)]) (x5.drop (bt111.1 : Int).toNat) x108000 x108001) else (none)) else (none)) else (none)) else (none)) else (none))) else (none)) else (none))) else (none)) else (none)) else (if x4.length < 8796093022208 then (if 1 ≤ (x5.length : Int) then (array_Format.l0 k (x4 ++ [t110]) (x5.drop 1) x108000 x108001) else (none)) else (none)))))) else (none)) else ((strings_Join.f x4 (⟨#[44]⟩ : ByteArray)).bind fun t142 => (if x108001 > 0 then ((strconv_Itoa.f x108001).bind fun t143 => (if 1 + t143.size ≤ 9223372036854775807 then (if t142.size + ((⟨#[37]⟩ : ByteArray) ++ t143).size ≤ 9223372036854775807 then (some (t142 ++ ((⟨#[37]⟩ : ByteArray) ++ t143), 0)) else (none)) else (none))) else (some (t142, 0))))
def array_Format.f (k : Nat) (l0_0 : List Int) (a0_1 : Int) : Option (ByteArray × Int) := (array_Right.f k l0_0 a0_1).bind fun t108 => (if t108 = true then (array_Format.l0 k ([] : List ByteArray) l0_0 l0_0 a0_1) else (some ((⟨#[]⟩ : ByteArray), 3)))
theorem array_Format.mono_l : ∀ k,(∀ y0 y1 y2 y3,LeO (array_Format.l0 k y0 y1 y2 y3) (array_Format.l0 (k + 1) y0 y1 y2 y3))
|0 => fun _ _ _ _ r h => by simp [array_Format.l0] at h
|k + 1 => by
  have ih0:=array_Format.mono_l k
  ·intro y0 y1 y2 y3
   unfold array_Format.l0
   repeat' first
  |(with_reducible exact ih0 _ _ _ _)
  |(with_reducible exact array_Right.mono _ _ _)
  |(with_reducible exact array_run.mono _ _)
  |(with_reducible exact LeO.refl _)
  |(with_reducible exact LeO.none _)
  |(with_reducible refine LeO.ite ?_ ?_)
  |(with_reducible refine LeO.bind ?_ (fun _ => ?_))
  |exact ih0 _ _ _ _
  |exact array_Right.mono _ _ _
  |exact array_run.mono _ _
  |exact LeO.none _
  |refine LeO.ite ?_ ?_
  |refine LeO.bind ?_ (fun _ => ?_)
theorem array_Format.mono : ∀ a0 a1 k,LeO (array_Format.f k a0 a1) (array_Format.f (k + 1) a0 a1):=by
 (intro a0 a1 k);(have ih0:=array_Format.mono_l k);(unfold array_Format.f)
 repeat' first
  |(with_reducible exact ih0 _ _ _ _)
  |(with_reducible exact array_Right.mono _ _ _)
  |(with_reducible exact array_run.mono _ _)
  |(with_reducible exact LeO.refl _)
  |(with_reducible exact LeO.none _)
  |(with_reducible refine LeO.ite ?_ ?_)
  |(with_reducible refine LeO.bind ?_ (fun _ => ?_))
  |exact ih0 _ _ _ _
  |exact array_Right.mono _ _ _
  |exact array_run.mono _ _
  |exact LeO.none _
  |refine LeO.ite ?_ ?_
  |refine LeO.bind ?_ (fun _ => ?_)
set_option maxHeartbeats 8000000 in
set_option maxRecDepth 100000 in
theorem array_Format.calls (k : Nat) (P0_0_ : Nat → Prop) (A0_0 : Option Addr) (c0_0 : Nat) (l0_0 : List Int) (a0_1 : Int) (r1 : ByteArray) (r2 : Int) (w : World) (hs0_0 : Kd.V (Kd.int .i64) 3 w w.heap.size (fun k_ => P0_0_ k_) (.slice A0_0 l0_0.length c0_0) l0_0) (h : array_Format.f k l0_0 a0_1 = some (r1,r2)) (hG_ : Glob w) :
  Calls Tryd.prog 8 #[.agg #[.slice A0_0 l0_0.length c0_0,.int .i64 a0_1]] w fun e w' => e = .returned (.tuple #[.string r1,.int .i64 r2])∧Below w.heap.size w w':=by
 (have HG_:=Aside0.mk hG_);(clear hG_);(have hu28:=Tryd.underlying28);(have HO0_0:=Aside0.mk (show Kd.V (Kd.int .i64) 3 w w.heap.size (fun k_ => (P0_0_ k_ ∨ w.heap.size ≤ k_)) (.slice A0_0 l0_0.length c0_0) l0_0 from Kd.V_mono hs0_0 (fun k_ hk => .inl hk)));(have HB:=Aside0.mk (Below.refl w.heap.size w));(have H : ((array_Right.f k l0_0 a0_1).bind fun t108 => (if t108 = true then (array_Format.l0 k ([] : List ByteArray) l0_0 l0_0 a0_1) else (some ((⟨#[]⟩ : ByteArray),3)))) = some (r1,r2):=h);(clear h);(replace H:=Option.bind_eq_some_iff.mp H);(obtain ⟨t108,A20,H⟩:=H);(replace H : (if t108 = true then (array_Format.l0 k ([] : List ByteArray) l0_0 l0_0 a0_1) else (some ((⟨#[]⟩ : ByteArray),3))) = some (r1,r2):=H);(have A2:=Aside0.mk A20);(clear A20);(by_cases c3 : t108 = true)
 ·(subst c3);(have H1 : (array_Format.l0 k ([] : List ByteArray) l0_0 l0_0 a0_1) = some (r1,r2):=by rw [if_pos rfl] at H;exact H);(clear H);(have H:=H1);(clear H1);(have H':=Aside0.mk H);(clear H);(go_enter Tryd.func8,Tryd.ntmps8);(go_wp2_with (first|((with_reducible refine gate_dst (N:=1) rfl ?_);refine box_event ?hg (N:=1) ?hd (cs:=#[.slice A0_0 l0_0.length c0_0,.int .i64 a0_1]) (t:=28) ?hr ?_;(case hd => rfl);(case hg => rfl);(case hr => first|(go_simp;done)|(go_simp;rfl));intro gb107 hg w4 hbox hb;have n0_:=Aside0.mk (Kd.V_below (Kd.V_elderB (by (with_reducible repeat (first|apply Kd.V_alloc|apply Kd.V_drewN|apply Kd.V_drew));exact HO0_0.out) gb107 (Nat.le_of_eq hg.symm)) hb);have n1_:=Aside0.mk (below_step (by repeat (first|(with_reducible first|exact HB.out|apply below_alloc|apply pw_below_drewN|apply below_drew1)|exact HB.out)) hb);have n2_:=Aside0.mk (hbox);have n3_:=Aside0.mk ((by rw [hg];exact (below_size (by repeat (first|(with_reducible first|exact HB.out|apply below_alloc|apply pw_below_drewN|apply below_drew1)|exact HB.out))) : w.heap.size ≤ gb107));have n4_:=Aside0.mk ((by rw [hg];exact (below_size (by repeat (first|(with_reducible first|exact HB.out|apply below_alloc|apply pw_below_drewN|apply below_drew1)|exact HB.out))) : w.heap.size ≤ gb107));clear HO0_0;clear HB;have HO0_0:=n0_;have HB:=n1_;have BK107:=n2_;have GW107:=n3_;have GE107:=n4_;clear n0_ n1_ n2_ n3_ n4_;clear hb hbox hg;have hcz5_0 : w4.cell? ⟨gb107,0,none⟩ = some (.slice A0_0 l0_0.length c0_0):=(blk_cell BK107.out 0).trans rfl;have hcz5_1 : w4.cell? ⟨gb107,1,none⟩ = some (.int .i64 a0_1):=(blk_cell BK107.out 1).trans rfl;have hfz5_0:=blk_frozen BK107.out 0;have hfz5_1:=blk_frozen BK107.out 1)|((with_reducible refine gate_callee (f:=11) rfl ?_);refine goesL_ (some 11) rfl rfl Tryd.func11 (by kernel_rfl) rfl #[.agg #[.slice A0_0 l0_0.length c0_0,.int .i64 a0_1]] rfl (by (try simp only [List.map_toArray,List.map_cons,List.map_nil]);first|done|rfl|(simp only [List.length_drop,List.length_take];rfl)) ?_;(with_reducible refine (array_Right.calls k _ _ l0_0 a0_1 true _ ?side1 ?side2 A2.out).mono ?_);(case side1 => repeat (first|exact (Kd.V_reads' HO0_0.out).2.2|(with_reducible refine Kd.C_alloc ?_ _)|(with_reducible refine Kd.C_drewN ?_ _)|(with_reducible refine Kd.C_drew ?_)));(case side2 => exact (Kd.V_reads' HO0_0.out).2.1);rintro e w6 ⟨rfl,hb⟩;refine ⟨_,rfl,?_⟩;have n0_:=Aside0.mk (Kd.V_below (by (with_reducible repeat (first|apply Kd.V_alloc|apply Kd.V_drewN|apply Kd.V_drew));exact HO0_0.out) hb);have n1_:=Aside0.mk (blk_below (g:=gb107) (o:=.cells #[.slice A0_0 l0_0.length c0_0,.int .i64 a0_1] 28 (0,0)) (by (with_reducible repeat (first|refine blk_drewN ?_ _|refine blk_drew ?_|refine blk_alloc ?_ _));exact BK107.out) hb);have n2_:=Aside0.mk (below_step (by repeat (first|(with_reducible first|exact HB.out|apply below_alloc|apply pw_below_drewN|apply below_drew1|refine below_set ?_ GE107.out)|exact HB.out)) hb);clear HO0_0;clear BK107;clear HB;have HO0_0:=n0_;have BK107:=n1_;have HB:=n2_;clear n0_ n1_ n2_;(try clear hb);(try clear hb2);(try clear hk);(try clear hi);have hcz7_0 : w6.cell? ⟨gb107,0,none⟩ = some (.slice A0_0 l0_0.length c0_0):=(blk_cell BK107.out 0).trans rfl;have hcz7_1 : w6.cell? ⟨gb107,1,none⟩ = some (.int .i64 a0_1):=(blk_cell BK107.out 1).trans rfl;have hfz7_0:=blk_frozen BK107.out 0;have hfz7_1:=blk_frozen BK107.out 1)));(go_loopg [4,5] k (fun kq v4 v5 w' => ∃ (x4_1 : List ByteArray) (x5_1 : List Int),Aside0 (array_Format.l0 kq x4_1 x5_1 l0_0 a0_1 = some (r1,r2))∧Aside0 (kq ≤ k)∧Aside0 (Kd.R Kd.string 9 w' w.heap.size (fun k_ => (w.heap.size ≤ k_)) v4 x4_1)∧Aside0 (Kd.V (Kd.int .i64) 3 w' w.heap.size (fun k_ => (P0_0_ k_ ∨ w.heap.size ≤ k_)∧some k_ ≠ (v4 : Value).ownBlock∧k_ ≠ gb107) v5 x5_1)∧Aside0 (Kd.V (Kd.int .i64) 3 w' w.heap.size (fun k_ => (P0_0_ k_ ∨ w.heap.size ≤ k_)∧some k_ ≠ (v4 : Value).ownBlock∧k_ ≠ gb107) (.slice A0_0 l0_0.length c0_0) l0_0)∧Aside0 (w'.heap[gb107]? = some (.cells #[(.slice A0_0 l0_0.length c0_0),.int .i64 a0_1] 28 (0,0)))∧Aside0 (Below w.heap.size w w')))
  case atStart => exact ⟨(([] : List ByteArray)),(l0_0),H',⟨Nat.le_refl _⟩,⟨by first|exact Kd.R_nil _ _ _ _ _|exact Kd.N_nil _ _ _ _ _|exact Kd.V_nil _ _ _ _ _|exact Kd.Q_nil _ _ _ _ _|exact Kd.S_nil _ _ _ _ _⟩,⟨by (with_reducible repeat (first|apply Kd.V_alloc|apply Kd.V_drewN|apply Kd.V_drew));exact Kd.V_mono HO0_0.out (fun _ hk => ⟨hk.1,⟨(by simp [Value.ownBlock]),hk.2⟩⟩)⟩,⟨by (with_reducible repeat (first|apply Kd.V_alloc|apply Kd.V_drewN|apply Kd.V_drew));exact Kd.V_mono HO0_0.out (fun _ hk => ⟨hk.1,⟨(by simp [Value.ownBlock]),hk.2⟩⟩)⟩,⟨by (with_reducible repeat (first|refine blk_drewN ?_ _|refine blk_drew ?_|refine blk_alloc ?_ _));exact BK107.out⟩,⟨by repeat (first|(with_reducible first|exact HB.out|apply below_alloc|apply pw_below_drewN|apply below_drew1|refine below_set ?_ GE107.out)|exact HB.out)⟩⟩
  case round =>
   (clear H');(try clear c1);(try clear p2);(try clear c3);(try clear hcz5_0);(try clear hcz5_1);(try clear hcz7_0);(try clear hcz7_1);(try clear hfz5_0);(try clear hfz5_1);(try clear hfz7_0);(try clear hfz7_1);(obtain ⟨x4_1,x5_1,HA,HK1,HO_4,HO_5,HO_108000,BK107,HB⟩:=hrel)
   cases gk with
  |zero => exact absurd HA.out (by simp [array_Format.l0])
  |succ k1 =>
    (have H:=HA.out);(clear HA);(simp only [array_Format.l0] at H);(by_cases c8 : (x5_1.length : Int) > 0)
    ·(rw [if_pos c8] at H);(have c8b0 : decide (0 < (x5_1.length : Int)) = true:=decide_eq_true c8);(have c8b1 : decide (0 < x5_1.length) = true:=decide_eq_true (by omega));(clear c8);(by_cases c9 : 0 < (x5_1.length : Int))
     ·(rw [if_pos c9] at H);(have c9b0 : decide (0 < (x5_1.length : Int)) = true:=decide_eq_true c9);(have c9b1 : decide (0 < x5_1.length) = true:=decide_eq_true (by omega));(clear c9);(replace H:=Option.bind_eq_some_iff.mp H);(obtain ⟨t110,A100,H⟩:=H);(replace H : ((array_run.f k1 x5_1).bind fun bt111 => (if bt111.2 = 1 then (if 0 ≤ (wrap64 (bt111.1 - 1)) then (if (wrap64 (bt111.1 - 1)) < (x5_1.length : Int) then ((strconv_Itoa.f (rd x5_1 (wrap64 (bt111.1 - 1)))).bind fun t114 => (if 1 + t114.size ≤ 9223372036854775807 then (if t110.size + ((⟨#[45]⟩ : ByteArray) ++ t114).size ≤ 9223372036854775807 then (if x4_1.length < 8796093022208 then (if 0 ≤ bt111.1 then (if bt111.1 ≤ (x5_1.length : Int) then (array_Format.l0 k1 (x4_1 ++ [t110 ++ ((⟨#[45]⟩ : ByteArray) ++ t114)]) (x5_1.drop (bt111.1 : Int).toNat) l0_0 a0_1) else (none)) else (none)) else (none)) else (none)) else (none))) else (none)) else (none)) else (if bt111.1 > 2 then (if 0 ≤ (wrap64 (bt111.1 - 1)) then (if (wrap64 (bt111.1 - 1)) < (x5_1.length : Int) then ((strconv_Itoa.f (rd x5_1 (wrap64 (bt111.1 - 1)))).bind fun t124 => (if 1 + t124.size ≤ 9223372036854775807 then (if ((⟨#[45]⟩ : ByteArray) ++ t124).size + 1 ≤ 9223372036854775807 then ((strconv_Itoa.f bt111.2).bind fun t125 => (if (((⟨#[45]⟩ : ByteArray) ++ t124) ++ (⟨#[58]⟩ : ByteArray)).size + t125.size ≤ 9223372036854775807 then (if t110.size + ((((⟨#[45]⟩ : ByteArray) ++ t124) ++ (⟨#[58]⟩ : ByteArray)) ++ t125).size ≤ 9223372036854775807 then (if x4_1.length < 8796093022208 then (if 0 ≤ bt111.1 then (if bt111.1 ≤ (x5_1.length : Int) then (array_Format.l0 k1 (x4_1 ++ [t110 ++ ((((⟨#[45]⟩ : ByteArray) ++ t124) ++ (⟨#[58]⟩ : ByteArray)) ++ t125)]) (x5_1.drop (bt111.1 : Int).toNat) l0_0 a0_1) else (none)) else (none)) else (none)) else (none)) else (none))) else (none)) else (none))) else (none)) else (none)) else (if x4_1.length < 8796093022208 then (if 1 ≤ (x5_1.length : Int) then (array_Format.l0 k1 (x4_1 ++ [t110]) (x5_1.drop 1) l0_0 a0_1) else (none)) else (none))))) = some (r1,r2):=H);(have A10:=Aside0.mk A100);(clear A100);(replace H:=Option.bind_eq_some_iff.mp H);(obtain ⟨⟨t111,t112⟩,A110,H⟩:=H);(replace H : (if t112 = 1 then (if 0 ≤ (wrap64 (t111 - 1)) then (if (wrap64 (t111 - 1)) < (x5_1.length : Int) then ((strconv_Itoa.f (rd x5_1 (wrap64 (t111 - 1)))).bind fun t114 => (if 1 + t114.size ≤ 9223372036854775807 then (if t110.size + ((⟨#[45]⟩ : ByteArray) ++ t114).size ≤ 9223372036854775807 then (if x4_1.length < 8796093022208 then (if 0 ≤ t111 then (if t111 ≤ (x5_1.length : Int) then (array_Format.l0 k1 (x4_1 ++ [t110 ++ ((⟨#[45]⟩ : ByteArray) ++ t114)]) (x5_1.drop (t111 : Int).toNat) l0_0 a0_1) else (none)) else (none)) else (none)) else (none)) else (none))) else (none)) else (none)) else (if t111 > 2 then (if 0 ≤ (wrap64 (t111 - 1)) then (if (wrap64 (t111 - 1)) < (x5_1.length : Int) then ((strconv_Itoa.f (rd x5_1 (wrap64 (t111 - 1)))).bind fun t124 => (if 1 + t124.size ≤ 9223372036854775807 then (if ((⟨#[45]⟩ : ByteArray) ++ t124).size + 1 ≤ 9223372036854775807 then ((strconv_Itoa.f t112).bind fun t125 => (if (((⟨#[45]⟩ : ByteArray) ++ t124) ++ (⟨#[58]⟩ : ByteArray)).size + t125.size ≤ 9223372036854775807 then (if t110.size + ((((⟨#[45]⟩ : ByteArray) ++ t124) ++ (⟨#[58]⟩ : ByteArray)) ++ t125).size ≤ 9223372036854775807 then (if x4_1.length < 8796093022208 then (if 0 ≤ t111 then (if t111 ≤ (x5_1.length : Int) then (array_Format.l0 k1 (x4_1 ++ [t110 ++ ((((⟨#[45]⟩ : ByteArray) ++ t124) ++ (⟨#[58]⟩ : ByteArray)) ++ t125)]) (x5_1.drop (t111 : Int).toNat) l0_0 a0_1) else (none)) else (none)) else (none)) else (none)) else (none))) else (none)) else (none))) else (none)) else (none)) else (if x4_1.length < 8796093022208 then (if 1 ≤ (x5_1.length : Int) then (array_Format.l0 k1 (x4_1 ++ [t110]) (x5_1.drop 1) l0_0 a0_1) else (none)) else (none)))) = some (r1,r2):=H);(have A11:=Aside0.mk A110);(clear A110);(by_cases c12 : t112 = 1)
      ·(rw [if_pos c12] at H);(have c12b0 : (t112 == 1) = true:=beq_iff_eq.mpr c12);(have c12b1 : (t112 != 1) = false:=bne_eq_false_iff_eq.mpr c12);(clear c12);(obtain ⟨ji13,hji13⟩ : ∃ j_ : Int,(wrap64 (t111 - 1)) = j_:=⟨_,rfl⟩);(replace H : (if 0 ≤ (ji13) then (if (ji13) < (x5_1.length : Int) then ((strconv_Itoa.f (rd x5_1 (ji13))).bind fun t114 => (if 1 + t114.size ≤ 9223372036854775807 then (if t110.size + ((⟨#[45]⟩ : ByteArray) ++ t114).size ≤ 9223372036854775807 then (if x4_1.length < 8796093022208 then (if 0 ≤ t111 then (if t111 ≤ (x5_1.length : Int) then (array_Format.l0 k1 (x4_1 ++ [t110 ++ ((⟨#[45]⟩ : ByteArray) ++ t114)]) (x5_1.drop (t111 : Int).toNat) l0_0 a0_1) else (none)) else (none)) else (none)) else (none)) else (none))) else (none)) else (none)) = some (r1,r2):=by first|(rw [hji13] at H;exact H)|(simp only [hji13] at H ⊢;exact H));((try rw [hji13] at A10));((try rw [hji13] at A11));(have hji13w : (IntKind.i64.wrap (t111 - 1)) = ji13:=(i64_w _).trans hji13);(by_cases c14 : 0 ≤ (ji13))
       ·(rw [if_pos c14] at H);(have c14b0 : decide (0 ≤ (ji13)) = true:=decide_eq_true c14);(clear c14);(by_cases c15 : (ji13) < (x5_1.length : Int))
        ·(rw [if_pos c15] at H);(have c15b0 : decide ((ji13) < (x5_1.length : Int)) = true:=decide_eq_true c15);(clear c15);(replace H:=Option.bind_eq_some_iff.mp H);(obtain ⟨t114,A160,H⟩:=H);(replace H : (if 1 + t114.size ≤ 9223372036854775807 then (if t110.size + ((⟨#[45]⟩ : ByteArray) ++ t114).size ≤ 9223372036854775807 then (if x4_1.length < 8796093022208 then (if 0 ≤ t111 then (if t111 ≤ (x5_1.length : Int) then (array_Format.l0 k1 (x4_1 ++ [t110 ++ ((⟨#[45]⟩ : ByteArray) ++ t114)]) (x5_1.drop (t111 : Int).toNat) l0_0 a0_1) else (none)) else (none)) else (none)) else (none)) else (none)) = some (r1,r2):=H);(have A16:=Aside0.mk A160);(clear A160);(by_cases c17 : 1 + t114.size ≤ 9223372036854775807)
         ·(rw [if_pos c17] at H);(have c17b0:=eq_true c17);(have c17b1 : decide (1 + t114.size ≤ 9223372036854775807) = true:=decide_eq_true c17);(try have c17b2 : (9223372036854775807 < 1 + t114.size) = False:=eq_false (Nat.not_lt.2 c17));(by_cases c18 : t110.size + ((⟨#[45]⟩ : ByteArray) ++ t114).size ≤ 9223372036854775807)
          ·(rw [if_pos c18] at H);(have c18b0:=eq_true c18);(have c18b1 : decide (t110.size + ((⟨#[45]⟩ : ByteArray) ++ t114).size ≤ 9223372036854775807) = true:=decide_eq_true c18);(try have c18b3 : (9223372036854775807 < t110.size + 1 + t114.size) = False:=eq_false (by have z:=c18;rw [show t110.size + ((⟨#[45]⟩ : ByteArray) ++ t114).size = t110.size + 1 + t114.size from by rw [ByteArray.size_append];rfl] at z;omega));(try have c18b2 : (9223372036854775807 < t110.size + ((⟨#[45]⟩ : ByteArray) ++ t114).size) = False:=eq_false (Nat.not_lt.2 c18));(by_cases c19 : x4_1.length < 8796093022208)
           ·(rw [if_pos c19] at H);(have LMc19:=Aside0.mk c19);(clear c19);(obtain ⟨y115,hy115⟩ : ∃ y_ : List ByteArray,y_ = (x4_1 ++ [t110 ++ ((⟨#[45]⟩ : ByteArray) ++ t114)]):=⟨_,rfl⟩);(replace H : (if 0 ≤ t111 then (if t111 ≤ (x5_1.length : Int) then (array_Format.l0 k1 y115 (x5_1.drop (t111 : Int).toNat) l0_0 a0_1) else (none)) else (none)) = some (r1,r2):=by first|(rw [hy115];with_reducible exact H)|(have H2_:=(Option.bind_some _ _).symm.trans H;rw [hy115];with_reducible exact H2_)|(have H2_:=(Option.bind_some _ _).symm.trans H;with_reducible exact H2_)|with_reducible exact H|(rw [hy115];exact H)|exact H);(have Ny115:=Aside0.mk hy115);(clear hy115);(by_cases c20 : 0 ≤ t111)
            ·(rw [if_pos c20] at H);(have c20b0:=eq_true c20);(have c20b1 : decide (0 ≤ t111) = true:=decide_eq_true c20);(clear c20);(by_cases c21 : t111 ≤ (x5_1.length : Int))
             ·(rw [if_pos c21] at H);(have c21b0:=eq_true c21);(have c21b1 : decide (t111 ≤ (x5_1.length : Int)) = true:=decide_eq_true c21);(clear c21);(obtain ⟨y118,hy118⟩ : ∃ y_ : List Int,y_ = (x5_1.drop (t111 : Int).toNat):=⟨_,rfl⟩);(replace H : (array_Format.l0 k1 y115 y118 l0_0 a0_1) = some (r1,r2):=by first|(rw [hy118];with_reducible exact H)|(have H2_:=(Option.bind_some _ _).symm.trans H;rw [hy118];with_reducible exact H2_)|(have H2_:=(Option.bind_some _ _).symm.trans H;with_reducible exact H2_)|with_reducible exact H|(rw [hy118];exact H)|exact H);(have Ny118:=Aside0.mk hy118);(clear hy118);(have H':=Aside0.mk H);(clear H);(obtain ⟨Ao22,co22,eo22⟩:=Kd.V_slice HO_5.out);(subst eo22);(have p109 : 0 ≤ (0 : Int):=(by omega));(have q109 : 0 < (x5_1.length : Int):=of_decide_eq_true (by first|(with_reducible assumption)|assumption));(obtain ⟨ad109,e109,hx109_0⟩:=Kd.at_int (Kd.V_reads' HO_5.out).2.2 0 p109 q109)
              cases e109
              (have qi109 : (0 < x5_1.length) = True:=eq_true (by omega));((try rw [show ((0 : Int)).toNat = 0 from rfl] at hx109_0));((try rw [Addr.add_zero'] at hx109_0));(replace p109:=eq_true p109);(replace q109:=eq_true q109);(go_wp2_with (first|((with_reducible refine gate_callee (f:=18) rfl ?_);refine goesL_ (some 21) rfl rfl Tryd.func18 (by kernel_rfl) rfl #[.int .i64 (rd x5_1 0)] rfl (by (try simp only [List.map_toArray,List.map_cons,List.map_nil]);first|done|rfl|(simp only [List.length_drop,List.length_take];rfl)) ?_;(with_reducible refine (strconv_Itoa.calls (rd x5_1 0) t110 _ A10.out (HG_.out.below (by repeat (first|(with_reducible first|exact HB.out|apply below_alloc|apply pw_below_drewN|apply below_drew1|refine below_set ?_ GE107.out)|exact HB.out)))).mono ?_);rintro e w23 ⟨rfl,hb⟩;refine ⟨_,rfl,?_⟩;have n0_:=Aside0.mk (Kd.R_below (by (with_reducible repeat (first|apply Kd.R_alloc|apply Kd.R_drewN|apply Kd.R_drew));exact HO_4.out) hb);have n1_:=Aside0.mk (Kd.V_below (by (with_reducible repeat (first|apply Kd.V_alloc|apply Kd.V_drewN|apply Kd.V_drew));exact HO_5.out) hb);have n2_:=Aside0.mk (Kd.V_below (by (with_reducible repeat (first|apply Kd.V_alloc|apply Kd.V_drewN|apply Kd.V_drew));exact HO_108000.out) hb);have n3_:=Aside0.mk (blk_below (g:=gb107) (o:=.cells #[.slice A0_0 l0_0.length c0_0,.int .i64 a0_1] 28 (0,0)) (by (with_reducible repeat (first|refine blk_drewN ?_ _|refine blk_drew ?_|refine blk_alloc ?_ _));exact BK107.out) hb);have n4_:=Aside0.mk (below_step (by repeat (first|(with_reducible first|exact HB.out|apply below_alloc|apply pw_below_drewN|apply below_drew1|refine below_set ?_ GE107.out)|exact HB.out)) hb);clear HO_4;clear HO_5;clear HO_108000;clear BK107;clear HB;have HO_4:=n0_;have HO_5:=n1_;have HO_108000:=n2_;have BK107:=n3_;have HB:=n4_;clear n0_ n1_ n2_ n3_ n4_;(try clear hb);(try clear hb2);(try clear hk);(try clear hi))|((with_reducible refine gate_callee (f:=19) rfl ?_);refine goesL_ (some 24) rfl rfl Tryd.func19 (by kernel_rfl) rfl #[.slice (some ad109) x5_1.length co22] rfl (by (try simp only [List.map_toArray,List.map_cons,List.map_nil]);first|done|rfl|(simp only [List.length_drop,List.length_take];rfl)) ?_;(with_reducible refine (array_run.calls k1 _ _ x5_1 t111 t112 _ ?side1 ?side2 A11.out).mono ?_);(case side1 => repeat (first|exact (Kd.V_reads' HO_5.out).2.2|(with_reducible refine Kd.C_alloc ?_ _)|(with_reducible refine Kd.C_drewN ?_ _)|(with_reducible refine Kd.C_drew ?_)));(case side2 => exact (Kd.V_reads' HO_5.out).2.1);rintro e w' ⟨rfl,⟨nd,rfl⟩⟩;refine ⟨_,rfl,?_⟩;have p113 : 0 ≤ ((ji13) : Int):=of_decide_eq_true (by first|(with_reducible assumption)|assumption);have q113 : (ji13) < (x5_1.length : Int):=of_decide_eq_true (by first|(with_reducible assumption)|assumption);obtain ⟨ad113,e113,hx113_0⟩:=Kd.at_int (Kd.V_reads' HO_5.out).2.2 (ji13) p113 q113;obtain rfl : ad109 = ad113:=(by injection e113);replace p113:=eq_true p113;replace q113:=eq_true q113)|((with_reducible refine gate_callee (f:=18) rfl ?_);refine goesL_ (some 36) rfl rfl Tryd.func18 (by kernel_rfl) rfl #[.int .i64 (rd x5_1 (ji13))] rfl (by (try simp only [List.map_toArray,List.map_cons,List.map_nil]);first|done|(simp only [hji13];rfl)|rfl|(simp only [List.length_drop,List.length_take];rfl)) ?_;(with_reducible refine (strconv_Itoa.calls (rd x5_1 (ji13)) t114 _ A16.out (HG_.out.below (by repeat (first|(with_reducible first|exact HB.out|apply below_alloc|apply pw_below_drewN|apply below_drew1|refine below_set ?_ GE107.out)|exact HB.out)))).mono ?_);rintro e w24 ⟨rfl,hb⟩;refine ⟨_,rfl,?_⟩;have n0_:=Aside0.mk (Kd.R_below (by (with_reducible repeat (first|apply Kd.R_alloc|apply Kd.R_drewN|apply Kd.R_drew));exact HO_4.out) hb);have n1_:=Aside0.mk (Kd.V_below (by (with_reducible repeat (first|apply Kd.V_alloc|apply Kd.V_drewN|apply Kd.V_drew));exact HO_5.out) hb);have n2_:=Aside0.mk (Kd.V_below (by (with_reducible repeat (first|apply Kd.V_alloc|apply Kd.V_drewN|apply Kd.V_drew));exact HO_108000.out) hb);have n3_:=Aside0.mk (blk_below (g:=gb107) (o:=.cells #[.slice A0_0 l0_0.length c0_0,.int .i64 a0_1] 28 (0,0)) (by (with_reducible repeat (first|refine blk_drewN ?_ _|refine blk_drew ?_|refine blk_alloc ?_ _));exact BK107.out) hb);have n4_:=Aside0.mk (below_step (by repeat (first|(with_reducible first|exact HB.out|apply below_alloc|apply pw_below_drewN|apply below_drew1|refine below_set ?_ GE107.out)|exact HB.out)) hb);clear HO_4;clear HO_5;clear HO_108000;clear BK107;clear HB;have HO_4:=n0_;have HO_5:=n1_;have HO_108000:=n2_;have BK107:=n3_;have HB:=n4_;clear n0_ n1_ n2_ n3_ n4_;(try clear hb);(try clear hb2);(try clear hk);(try clear hi))|((with_reducible refine gate_builtin (b:=.append) (xs:=#[.tmp 55,.tmp 57]) rfl ?_);at_builtin;refine Kd.R_append Kd.string (w0:=w) w.heap.size rfl (.tmp 55) (.tmp 57) 47 9 (.string ⟨#[]⟩) 16 rfl Tryd.underlying47 info9 rfl (by decide) (by omega) u4 x4_1 (t110 ++ ((⟨#[45]⟩ : ByteArray) ++ t114)) [.string (t110 ++ ((⟨#[45]⟩ : ByteArray) ++ t114))] (fun k_ => (w.heap.size ≤ k_)) (fun _ => False) rfl rfl ?aP (fun _ hk => hk.elim) ?aF ?aO ?aB ?aS ?aL ?_;(case aP => exact rfl);(case aB => exact (by repeat (first|(with_reducible first|exact HB.out|apply below_alloc|apply pw_below_drewN|apply below_drew1|refine below_set ?_ GE107.out)|exact HB.out)));(case aF => exact (fun k_ hk => (Nat.le_trans (below_size (by repeat (first|(with_reducible first|exact HB.out|apply below_alloc|apply pw_below_drewN|apply below_drew1|refine below_set ?_ GE107.out)|exact HB.out))) hk)));(case aO => exact (by (with_reducible repeat (first|apply Kd.R_alloc|apply Kd.R_drewN|apply Kd.R_drew));exact HO_4.out));(case aS => exact (below_size (by repeat (first|(with_reducible first|exact HB.out|apply below_alloc|apply pw_below_drewN|apply below_drew1|refine below_set ?_ GE107.out)|exact HB.out))));(case aL => have:=LMc19.out;omega);intro v116 w25 ho hb hg hat;rw [← Ny115.out] at ho;have n0_:=Aside0.mk (Kd.V_afterv (ok:=(fun k_ => (P0_0_ k_ ∨ w.heap.size ≤ k_)∧k_ ≠ gb107)) (by (with_reducible repeat (first|apply Kd.V_alloc|apply Kd.V_drewN|apply Kd.V_drew));exact Kd.V_mono HO_5.out (fun _ hk => ⟨⟨hk.1,hk.2.2⟩,hk.2.1⟩)) hg hat);have n1_:=Aside0.mk (Kd.V_afterv (ok:=(fun k_ => (P0_0_ k_ ∨ w.heap.size ≤ k_)∧k_ ≠ gb107)) (by (with_reducible repeat (first|apply Kd.V_alloc|apply Kd.V_drewN|apply Kd.V_drew));exact Kd.V_mono HO_108000.out (fun _ hk => ⟨⟨hk.1,hk.2.2⟩,hk.2.1⟩)) hg hat);have n2_:=Aside0.mk (blk_grown (g:=gb107) (o:=.cells #[.slice A0_0 l0_0.length c0_0,.int .i64 a0_1] 28 (0,0)) (by (with_reducible repeat (first|refine blk_drewN ?_ _|refine blk_drew ?_|refine blk_alloc ?_ _));exact BK107.out) hg (Kd.R_ne HO_4.out BK107.out (by decide)));have n3_:=Aside0.mk (hb);have n4_:=Aside0.mk (ho);clear HO_5;clear HO_108000;clear BK107;clear HB;clear HO_4;have HO_5:=n0_;have HO_108000:=n1_;have BK107:=n2_;have HB:=n3_;have HO117:=n4_;clear n0_ n1_ n2_ n3_ n4_;clear ho hb hg hat;have q26 : (t111 : Int) ≤ ((x5_1.length : Int) : Int):=of_decide_eq_true (by first|(with_reducible assumption)|assumption);obtain ⟨i026,hi026,_,hsz26,_⟩:=info_parts info3;have hroom26 : x5_1.length ≤ co22:=(Kd.V_reads' HO_5.out).2.1;have hC26 : Kd.F (Kd.int .i64) _ _ (some ad109) x5_1.length x5_1:=(Kd.V_at (base:=w.heap.size) HO_5.out).2.2;have q026 : (0 : Int) ≤ (t111 : Int):=of_decide_eq_true (by first|(with_reducible assumption)|assumption);have hcut26:=cut_from (P:=Tryd.prog) 22 3 .i64 Tryd.underlying22 hi026 1 hsz26 (some ad109) x5_1.length co22 t111 q026 q26;have hr26:=Kd.F_cut (m:=(t111 : Int).toNat) (c:=co22) hC26 (by omega) hroom26;obtain ⟨A26,hA26⟩ : ∃ A1,A1 = (if co22 = (t111 : Int).toNat then (some ad109) else ((some ad109) : Option Addr).map (·.add ((t111 : Int).toNat * 1))):=⟨_,rfl⟩;obtain ⟨c26,hc26⟩ : ∃ c1,c1 = co22 - (t111 : Int).toNat:=⟨_,rfl⟩;have hy26 : y118.length = x5_1.length - (t111 : Int).toNat:=(by rw [Ny118.out,List.length_drop] <;> omega);rw [show (x5_1).drop (t111 : Int).toNat = y118 from Ny118.out.symm] at hr26;replace hr26 : Kd.F (Kd.int .i64) _ _ A26 y118.length y118:=(by rw [hA26];exact hr26);rw [← hy26,← hA26,← hc26] at hcut26;have HO122:=Aside0.mk (show Kd.V (Kd.int .i64) 3 _ w.heap.size _ (.slice A26 y118.length c26) y118 from Kd.V_mk (by rw [hy26,hc26];exact Nat.sub_le_sub_right hroom26 _) hr26);have HC122:=Aside0.mk (show y118.length ≤ c26 from by rw [hy26,hc26];exact Nat.sub_le_sub_right hroom26 _);clear hr26 hC26 hroom26 hi026 hsz26 hc26;have KY26:=Aside0.mk hy26;have KA26:=Aside0.mk hA26;clear hy26 hA26;replace q26:=eq_true q26)));(go_roundg k1)
              case measure => have:=HK1.out;omega
              case rel => exact ⟨(y115),(y118),H',⟨by have:=HK1.out;omega⟩,⟨by (with_reducible repeat (first|apply Kd.R_alloc|apply Kd.R_drewN|apply Kd.R_drew));exact HO117.out⟩,⟨by (with_reducible repeat (first|apply Kd.V_alloc|apply Kd.V_drewN|apply Kd.V_drew));exact Kd.V_mono HO122.out (fun _ hk => ⟨hk.1.1,⟨hk.2,hk.1.2⟩⟩)⟩,⟨by (with_reducible repeat (first|apply Kd.V_alloc|apply Kd.V_drewN|apply Kd.V_drew));exact Kd.V_mono HO_108000.out (fun _ hk => ⟨hk.1.1,⟨hk.2,hk.1.2⟩⟩)⟩,⟨by (with_reducible repeat (first|refine blk_drewN ?_ _|refine blk_drew ?_|refine blk_alloc ?_ _));exact BK107.out⟩,⟨by repeat (first|(with_reducible first|exact HB.out|apply below_alloc|apply pw_below_drewN|apply below_drew1|refine below_set ?_ GE107.out)|exact HB.out)⟩⟩
             ·(rw [if_neg c21] at H);(exact absurd H (by simp))
            ·(rw [if_neg c20] at H);(exact absurd H (by simp))
           ·(rw [if_neg c19] at H);(exact absurd H (by simp))
          ·(rw [if_neg c18] at H);(exact absurd H (by simp))
         ·(rw [if_neg c17] at H);(exact absurd H (by simp))
        ·(rw [if_neg c15] at H);(exact absurd H (by simp))
       ·(rw [if_neg c14] at H);(exact absurd H (by simp))
      ·(rw [if_neg c12] at H);(have c12b0 : (t112 == 1) = false:=beq_eq_false_iff_ne.mpr c12);(have c12b1 : (t112 != 1) = true:=bne_iff_ne.mpr c12);(by_cases c27 : t111 > 2)
       ·(rw [if_pos c27] at H);(have c27b0 : decide (2 < t111) = true:=decide_eq_true c27);(clear c27);(obtain ⟨ji28,hji28⟩ : ∃ j_ : Int,(wrap64 (t111 - 1)) = j_:=⟨_,rfl⟩);(replace H : (if 0 ≤ (ji28) then (if (ji28) < (x5_1.length : Int) then ((strconv_Itoa.f (rd x5_1 (ji28))).bind fun t124 => (if 1 + t124.size ≤ 9223372036854775807 then (if ((⟨#[45]⟩ : ByteArray) ++ t124).size + 1 ≤ 9223372036854775807 then ((strconv_Itoa.f t112).bind fun t125 => (if (((⟨#[45]⟩ : ByteArray) ++ t124) ++ (⟨#[58]⟩ : ByteArray)).size + t125.size ≤ 9223372036854775807 then (if t110.size + ((((⟨#[45]⟩ : ByteArray) ++ t124) ++ (⟨#[58]⟩ : ByteArray)) ++ t125).size ≤ 9223372036854775807 then (if x4_1.length < 8796093022208 then (if 0 ≤ t111 then (if t111 ≤ (x5_1.length : Int) then (array_Format.l0 k1 (x4_1 ++ [t110 ++ ((((⟨#[45]⟩ : ByteArray) ++ t124) ++ (⟨#[58]⟩ : ByteArray)) ++ t125)]) (x5_1.drop (t111 : Int).toNat) l0_0 a0_1) else (none)) else (none)) else (none)) else (none)) else (none))) else (none)) else (none))) else (none)) else (none)) = some (r1,r2):=by first|(rw [hji28] at H;exact H)|(simp only [hji28] at H ⊢;exact H));((try rw [hji28] at A10));((try rw [hji28] at A11));(have hji28w : (IntKind.i64.wrap (t111 - 1)) = ji28:=(i64_w _).trans hji28);(by_cases c29 : 0 ≤ (ji28))
        ·(rw [if_pos c29] at H);(have c29b0 : decide (0 ≤ (ji28)) = true:=decide_eq_true c29);(clear c29);(by_cases c30 : (ji28) < (x5_1.length : Int))
         ·(rw [if_pos c30] at H);(have c30b0 : decide ((ji28) < (x5_1.length : Int)) = true:=decide_eq_true c30);(clear c30);(replace H:=Option.bind_eq_some_iff.mp H);(obtain ⟨t124,A310,H⟩:=H);(replace H : (if 1 + t124.size ≤ 9223372036854775807 then (if ((⟨#[45]⟩ : ByteArray) ++ t124).size + 1 ≤ 9223372036854775807 then ((strconv_Itoa.f t112).bind fun t125 => (if (((⟨#[45]⟩ : ByteArray) ++ t124) ++ (⟨#[58]⟩ : ByteArray)).size + t125.size ≤ 9223372036854775807 then (if t110.size + ((((⟨#[45]⟩ : ByteArray) ++ t124) ++ (⟨#[58]⟩ : ByteArray)) ++ t125).size ≤ 9223372036854775807 then (if x4_1.length < 8796093022208 then (if 0 ≤ t111 then (if t111 ≤ (x5_1.length : Int) then (array_Format.l0 k1 (x4_1 ++ [t110 ++ ((((⟨#[45]⟩ : ByteArray) ++ t124) ++ (⟨#[58]⟩ : ByteArray)) ++ t125)]) (x5_1.drop (t111 : Int).toNat) l0_0 a0_1) else (none)) else (none)) else (none)) else (none)) else (none))) else (none)) else (none)) = some (r1,r2):=H);(have A31:=Aside0.mk A310);(clear A310);(by_cases c32 : 1 + t124.size ≤ 9223372036854775807)
          ·(rw [if_pos c32] at H);(have c32b0:=eq_true c32);(have c32b1 : decide (1 + t124.size ≤ 9223372036854775807) = true:=decide_eq_true c32);(try have c32b2 : (9223372036854775807 < 1 + t124.size) = False:=eq_false (Nat.not_lt.2 c32));(by_cases c33 : ((⟨#[45]⟩ : ByteArray) ++ t124).size + 1 ≤ 9223372036854775807)
           ·(rw [if_pos c33] at H);(have c33b0:=eq_true c33);(have c33b1 : decide (((⟨#[45]⟩ : ByteArray) ++ t124).size + 1 ≤ 9223372036854775807) = true:=decide_eq_true c33);(try have c33b3 : (9223372036854775807 < 1 + t124.size + 1) = False:=eq_false (by have z:=c33;rw [show ((⟨#[45]⟩ : ByteArray) ++ t124).size + 1 = 1 + t124.size + 1 from by rw [ByteArray.size_append];rfl] at z;omega));(try have c33b2 : (9223372036854775807 < ((⟨#[45]⟩ : ByteArray) ++ t124).size + 1) = False:=eq_false (Nat.not_lt.2 c33));(replace H:=Option.bind_eq_some_iff.mp H);(obtain ⟨t125,A340,H⟩:=H);(replace H : (if (((⟨#[45]⟩ : ByteArray) ++ t124) ++ (⟨#[58]⟩ : ByteArray)).size + t125.size ≤ 9223372036854775807 then (if t110.size + ((((⟨#[45]⟩ : ByteArray) ++ t124) ++ (⟨#[58]⟩ : ByteArray)) ++ t125).size ≤ 9223372036854775807 then (if x4_1.length < 8796093022208 then (if 0 ≤ t111 then (if t111 ≤ (x5_1.length : Int) then (array_Format.l0 k1 (x4_1 ++ [t110 ++ ((((⟨#[45]⟩ : ByteArray) ++ t124) ++ (⟨#[58]⟩ : ByteArray)) ++ t125)]) (x5_1.drop (t111 : Int).toNat) l0_0 a0_1) else (none)) else (none)) else (none)) else (none)) else (none)) = some (r1,r2):=H);(have A34:=Aside0.mk A340);(clear A340);(by_cases c35 : (((⟨#[45]⟩ : ByteArray) ++ t124) ++ (⟨#[58]⟩ : ByteArray)).size + t125.size ≤ 9223372036854775807)
            ·(rw [if_pos c35] at H);(have c35b0:=eq_true c35);(have c35b1 : decide ((((⟨#[45]⟩ : ByteArray) ++ t124) ++ (⟨#[58]⟩ : ByteArray)).size + t125.size ≤ 9223372036854775807) = true:=decide_eq_true c35);(try have c35b3 : (9223372036854775807 < 1 + t124.size + 1 + t125.size) = False:=eq_false (by have z:=c35;rw [show (((⟨#[45]⟩ : ByteArray) ++ t124) ++ (⟨#[58]⟩ : ByteArray)).size + t125.size = 1 + t124.size + 1 + t125.size from by rw [ByteArray.size_append];rw [ByteArray.size_append];rfl] at z;omega));(try have c35b2 : (9223372036854775807 < (((⟨#[45]⟩ : ByteArray) ++ t124) ++ (⟨#[58]⟩ : ByteArray)).size + t125.size) = False:=eq_false (Nat.not_lt.2 c35));(by_cases c36 : t110.size + ((((⟨#[45]⟩ : ByteArray) ++ t124) ++ (⟨#[58]⟩ : ByteArray)) ++ t125).size ≤ 9223372036854775807)
             ·(rw [if_pos c36] at H);(have c36b0:=eq_true c36);(have c36b1 : decide (t110.size + ((((⟨#[45]⟩ : ByteArray) ++ t124) ++ (⟨#[58]⟩ : ByteArray)) ++ t125).size ≤ 9223372036854775807) = true:=decide_eq_true c36);(try have c36b3 : (9223372036854775807 < t110.size + 1 + t124.size + 1 + t125.size) = False:=eq_false (by have z:=c36;rw [show t110.size + ((((⟨#[45]⟩ : ByteArray) ++ t124) ++ (⟨#[58]⟩ : ByteArray)) ++ t125).size = t110.size + 1 + t124.size + 1 + t125.size from by rw [ByteArray.size_append];rw [ByteArray.size_append];rw [ByteArray.size_append];rfl] at z;omega));(try have c36b2 : (9223372036854775807 < t110.size + ((((⟨#[45]⟩ : ByteArray) ++ t124) ++ (⟨#[58]⟩ : ByteArray)) ++ t125).size) = False:=eq_false (Nat.not_lt.2 c36));(by_cases c37 : x4_1.length < 8796093022208)
              ·(rw [if_pos c37] at H);(have LMc37:=Aside0.mk c37);(clear c37);(obtain ⟨y126,hy126⟩ : ∃ y_ : List ByteArray,y_ = (x4_1 ++ [t110 ++ ((((⟨#[45]⟩ : ByteArray) ++ t124) ++ (⟨#[58]⟩ : ByteArray)) ++ t125)]):=⟨_,rfl⟩);(replace H : (if 0 ≤ t111 then (if t111 ≤ (x5_1.length : Int) then (array_Format.l0 k1 y126 (x5_1.drop (t111 : Int).toNat) l0_0 a0_1) else (none)) else (none)) = some (r1,r2):=by first|(rw [hy126];with_reducible exact H)|(have H2_:=(Option.bind_some _ _).symm.trans H;rw [hy126];with_reducible exact H2_)|(have H2_:=(Option.bind_some _ _).symm.trans H;with_reducible exact H2_)|with_reducible exact H|(rw [hy126];exact H)|exact H);(have Ny126:=Aside0.mk hy126);(clear hy126);(by_cases c38 : 0 ≤ t111)
               ·(rw [if_pos c38] at H);(have c38b0:=eq_true c38);(have c38b1 : decide (0 ≤ t111) = true:=decide_eq_true c38);(clear c38);(by_cases c39 : t111 ≤ (x5_1.length : Int))
                ·(rw [if_pos c39] at H);(have c39b0:=eq_true c39);(have c39b1 : decide (t111 ≤ (x5_1.length : Int)) = true:=decide_eq_true c39);(clear c39);(obtain ⟨y129,hy129⟩ : ∃ y_ : List Int,y_ = (x5_1.drop (t111 : Int).toNat):=⟨_,rfl⟩);(replace H : (array_Format.l0 k1 y126 y129 l0_0 a0_1) = some (r1,r2):=by first|(rw [hy129];with_reducible exact H)|(have H2_:=(Option.bind_some _ _).symm.trans H;rw [hy129];with_reducible exact H2_)|(have H2_:=(Option.bind_some _ _).symm.trans H;with_reducible exact H2_)|with_reducible exact H|(rw [hy129];exact H)|exact H);(have Ny129:=Aside0.mk hy129);(clear hy129);(have H':=Aside0.mk H);(clear H);(obtain ⟨Ao40,co40,eo40⟩:=Kd.V_slice HO_5.out);(subst eo40);(have p109 : 0 ≤ (0 : Int):=(by omega));(have q109 : 0 < (x5_1.length : Int):=of_decide_eq_true (by first|(with_reducible assumption)|assumption));(obtain ⟨ad109,e109,hx109_0⟩:=Kd.at_int (Kd.V_reads' HO_5.out).2.2 0 p109 q109)
                 cases e109
                 (have qi109 : (0 < x5_1.length) = True:=eq_true (by omega));((try rw [show ((0 : Int)).toNat = 0 from rfl] at hx109_0));((try rw [Addr.add_zero'] at hx109_0));(replace p109:=eq_true p109);(replace q109:=eq_true q109);(go_wp2_with (first|((with_reducible refine gate_callee (f:=18) rfl ?_);refine goesL_ (some 21) rfl rfl Tryd.func18 (by kernel_rfl) rfl #[.int .i64 (rd x5_1 0)] rfl (by (try simp only [List.map_toArray,List.map_cons,List.map_nil]);first|done|rfl|(simp only [List.length_drop,List.length_take];rfl)) ?_;(with_reducible refine (strconv_Itoa.calls (rd x5_1 0) t110 _ A10.out (HG_.out.below (by repeat (first|(with_reducible first|exact HB.out|apply below_alloc|apply pw_below_drewN|apply below_drew1|refine below_set ?_ GE107.out)|exact HB.out)))).mono ?_);rintro e w41 ⟨rfl,hb⟩;refine ⟨_,rfl,?_⟩;have n0_:=Aside0.mk (Kd.R_below (by (with_reducible repeat (first|apply Kd.R_alloc|apply Kd.R_drewN|apply Kd.R_drew));exact HO_4.out) hb);have n1_:=Aside0.mk (Kd.V_below (by (with_reducible repeat (first|apply Kd.V_alloc|apply Kd.V_drewN|apply Kd.V_drew));exact HO_5.out) hb);have n2_:=Aside0.mk (Kd.V_below (by (with_reducible repeat (first|apply Kd.V_alloc|apply Kd.V_drewN|apply Kd.V_drew));exact HO_108000.out) hb);have n3_:=Aside0.mk (blk_below (g:=gb107) (o:=.cells #[.slice A0_0 l0_0.length c0_0,.int .i64 a0_1] 28 (0,0)) (by (with_reducible repeat (first|refine blk_drewN ?_ _|refine blk_drew ?_|refine blk_alloc ?_ _));exact BK107.out) hb);have n4_:=Aside0.mk (below_step (by repeat (first|(with_reducible first|exact HB.out|apply below_alloc|apply pw_below_drewN|apply below_drew1|refine below_set ?_ GE107.out)|exact HB.out)) hb);clear HO_4;clear HO_5;clear HO_108000;clear BK107;clear HB;have HO_4:=n0_;have HO_5:=n1_;have HO_108000:=n2_;have BK107:=n3_;have HB:=n4_;clear n0_ n1_ n2_ n3_ n4_;(try clear hb);(try clear hb2);(try clear hk);(try clear hi))|((with_reducible refine gate_callee (f:=19) rfl ?_);refine goesL_ (some 24) rfl rfl Tryd.func19 (by kernel_rfl) rfl #[.slice (some ad109) x5_1.length co40] rfl (by (try simp only [List.map_toArray,List.map_cons,List.map_nil]);first|done|rfl|(simp only [List.length_drop,List.length_take];rfl)) ?_;(with_reducible refine (array_run.calls k1 _ _ x5_1 t111 t112 _ ?side1 ?side2 A11.out).mono ?_);(case side1 => repeat (first|exact (Kd.V_reads' HO_5.out).2.2|(with_reducible refine Kd.C_alloc ?_ _)|(with_reducible refine Kd.C_drewN ?_ _)|(with_reducible refine Kd.C_drew ?_)));(case side2 => exact (Kd.V_reads' HO_5.out).2.1);rintro e w' ⟨rfl,⟨nd,rfl⟩⟩;refine ⟨_,rfl,?_⟩;have p123 : 0 ≤ ((ji28) : Int):=of_decide_eq_true (by first|(with_reducible assumption)|assumption);have q123 : (ji28) < (x5_1.length : Int):=of_decide_eq_true (by first|(with_reducible assumption)|assumption);obtain ⟨ad123,e123,hx123_0⟩:=Kd.at_int (Kd.V_reads' HO_5.out).2.2 (ji28) p123 q123;obtain rfl : ad109 = ad123:=(by injection e123);replace p123:=eq_true p123;replace q123:=eq_true q123)|((with_reducible refine gate_callee (f:=18) rfl ?_);refine goesL_ (some 48) rfl rfl Tryd.func18 (by kernel_rfl) rfl #[.int .i64 (rd x5_1 (ji28))] rfl (by (try simp only [List.map_toArray,List.map_cons,List.map_nil]);first|done|(simp only [hji28];rfl)|rfl|(simp only [List.length_drop,List.length_take];rfl)) ?_;(with_reducible refine (strconv_Itoa.calls (rd x5_1 (ji28)) t124 _ A31.out (HG_.out.below (by repeat (first|(with_reducible first|exact HB.out|apply below_alloc|apply pw_below_drewN|apply below_drew1|refine below_set ?_ GE107.out)|exact HB.out)))).mono ?_);rintro e w42 ⟨rfl,hb⟩;refine ⟨_,rfl,?_⟩;have n0_:=Aside0.mk (Kd.R_below (by (with_reducible repeat (first|apply Kd.R_alloc|apply Kd.R_drewN|apply Kd.R_drew));exact HO_4.out) hb);have n1_:=Aside0.mk (Kd.V_below (by (with_reducible repeat (first|apply Kd.V_alloc|apply Kd.V_drewN|apply Kd.V_drew));exact HO_5.out) hb);have n2_:=Aside0.mk (Kd.V_below (by (with_reducible repeat (first|apply Kd.V_alloc|apply Kd.V_drewN|apply Kd.V_drew));exact HO_108000.out) hb);have n3_:=Aside0.mk (blk_below (g:=gb107) (o:=.cells #[.slice A0_0 l0_0.length c0_0,.int .i64 a0_1] 28 (0,0)) (by (with_reducible repeat (first|refine blk_drewN ?_ _|refine blk_drew ?_|refine blk_alloc ?_ _));exact BK107.out) hb);have n4_:=Aside0.mk (below_step (by repeat (first|(with_reducible first|exact HB.out|apply below_alloc|apply pw_below_drewN|apply below_drew1|refine below_set ?_ GE107.out)|exact HB.out)) hb);clear HO_4;clear HO_5;clear HO_108000;clear BK107;clear HB;have HO_4:=n0_;have HO_5:=n1_;have HO_108000:=n2_;have BK107:=n3_;have HB:=n4_;clear n0_ n1_ n2_ n3_ n4_;(try clear hb);(try clear hb2);(try clear hk);(try clear hi))|((with_reducible refine gate_callee (f:=18) rfl ?_);refine goesL_ (some 52) rfl rfl Tryd.func18 (by kernel_rfl) rfl #[.int .i64 t112] rfl (by (try simp only [List.map_toArray,List.map_cons,List.map_nil]);first|done|rfl|(simp only [List.length_drop,List.length_take];rfl)) ?_;(with_reducible refine (strconv_Itoa.calls t112 t125 _ A34.out (HG_.out.below (by repeat (first|(with_reducible first|exact HB.out|apply below_alloc|apply pw_below_drewN|apply below_drew1|refine below_set ?_ GE107.out)|exact HB.out)))).mono ?_);rintro e w43 ⟨rfl,hb⟩;refine ⟨_,rfl,?_⟩;have n0_:=Aside0.mk (Kd.R_below (by (with_reducible repeat (first|apply Kd.R_alloc|apply Kd.R_drewN|apply Kd.R_drew));exact HO_4.out) hb);have n1_:=Aside0.mk (Kd.V_below (by (with_reducible repeat (first|apply Kd.V_alloc|apply Kd.V_drewN|apply Kd.V_drew));exact HO_5.out) hb);have n2_:=Aside0.mk (Kd.V_below (by (with_reducible repeat (first|apply Kd.V_alloc|apply Kd.V_drewN|apply Kd.V_drew));exact HO_108000.out) hb);have n3_:=Aside0.mk (blk_below (g:=gb107) (o:=.cells #[.slice A0_0 l0_0.length c0_0,.int .i64 a0_1] 28 (0,0)) (by (with_reducible repeat (first|refine blk_drewN ?_ _|refine blk_drew ?_|refine blk_alloc ?_ _));exact BK107.out) hb);have n4_:=Aside0.mk (below_step (by repeat (first|(with_reducible first|exact HB.out|apply below_alloc|apply pw_below_drewN|apply below_drew1|refine below_set ?_ GE107.out)|exact HB.out)) hb);clear HO_4;clear HO_5;clear HO_108000;clear BK107;clear HB;have HO_4:=n0_;have HO_5:=n1_;have HO_108000:=n2_;have BK107:=n3_;have HB:=n4_;clear n0_ n1_ n2_ n3_ n4_;(try clear hb);(try clear hb2);(try clear hk);(try clear hi))|((with_reducible refine gate_builtin (b:=.append) (xs:=#[.tmp 55,.tmp 57]) rfl ?_);at_builtin;refine Kd.R_append Kd.string (w0:=w) w.heap.size rfl (.tmp 55) (.tmp 57) 47 9 (.string ⟨#[]⟩) 16 rfl Tryd.underlying47 info9 rfl (by decide) (by omega) u4 x4_1 (t110 ++ ((((⟨#[45]⟩ : ByteArray) ++ t124) ++ (⟨#[58]⟩ : ByteArray)) ++ t125)) [.string (t110 ++ ((((⟨#[45]⟩ : ByteArray) ++ t124) ++ (⟨#[58]⟩ : ByteArray)) ++ t125))] (fun k_ => (w.heap.size ≤ k_)) (fun _ => False) rfl rfl ?aP (fun _ hk => hk.elim) ?aF ?aO ?aB ?aS ?aL ?_;(case aP => exact rfl);(case aB => exact (by repeat (first|(with_reducible first|exact HB.out|apply below_alloc|apply pw_below_drewN|apply below_drew1|refine below_set ?_ GE107.out)|exact HB.out)));(case aF => exact (fun k_ hk => (Nat.le_trans (below_size (by repeat (first|(with_reducible first|exact HB.out|apply below_alloc|apply pw_below_drewN|apply below_drew1|refine below_set ?_ GE107.out)|exact HB.out))) hk)));(case aO => exact (by (with_reducible repeat (first|apply Kd.R_alloc|apply Kd.R_drewN|apply Kd.R_drew));exact HO_4.out));(case aS => exact (below_size (by repeat (first|(with_reducible first|exact HB.out|apply below_alloc|apply pw_below_drewN|apply below_drew1|refine below_set ?_ GE107.out)|exact HB.out))));(case aL => have:=LMc37.out;omega);intro v127 w44 ho hb hg hat;rw [← Ny126.out] at ho;have n0_:=Aside0.mk (Kd.V_afterv (ok:=(fun k_ => (P0_0_ k_ ∨ w.heap.size ≤ k_)∧k_ ≠ gb107)) (by (with_reducible repeat (first|apply Kd.V_alloc|apply Kd.V_drewN|apply Kd.V_drew));exact Kd.V_mono HO_5.out (fun _ hk => ⟨⟨hk.1,hk.2.2⟩,hk.2.1⟩)) hg hat);have n1_:=Aside0.mk (Kd.V_afterv (ok:=(fun k_ => (P0_0_ k_ ∨ w.heap.size ≤ k_)∧k_ ≠ gb107)) (by (with_reducible repeat (first|apply Kd.V_alloc|apply Kd.V_drewN|apply Kd.V_drew));exact Kd.V_mono HO_108000.out (fun _ hk => ⟨⟨hk.1,hk.2.2⟩,hk.2.1⟩)) hg hat);have n2_:=Aside0.mk (blk_grown (g:=gb107) (o:=.cells #[.slice A0_0 l0_0.length c0_0,.int .i64 a0_1] 28 (0,0)) (by (with_reducible repeat (first|refine blk_drewN ?_ _|refine blk_drew ?_|refine blk_alloc ?_ _));exact BK107.out) hg (Kd.R_ne HO_4.out BK107.out (by decide)));have n3_:=Aside0.mk (hb);have n4_:=Aside0.mk (ho);clear HO_5;clear HO_108000;clear BK107;clear HB;clear HO_4;have HO_5:=n0_;have HO_108000:=n1_;have BK107:=n2_;have HB:=n3_;have HO128:=n4_;clear n0_ n1_ n2_ n3_ n4_;clear ho hb hg hat;have q45 : (t111 : Int) ≤ ((x5_1.length : Int) : Int):=of_decide_eq_true (by first|(with_reducible assumption)|assumption);obtain ⟨i045,hi045,_,hsz45,_⟩:=info_parts info3;have hroom45 : x5_1.length ≤ co40:=(Kd.V_reads' HO_5.out).2.1;have hC45 : Kd.F (Kd.int .i64) _ _ (some ad109) x5_1.length x5_1:=(Kd.V_at (base:=w.heap.size) HO_5.out).2.2;have q045 : (0 : Int) ≤ (t111 : Int):=of_decide_eq_true (by first|(with_reducible assumption)|assumption);have hcut45:=cut_from (P:=Tryd.prog) 22 3 .i64 Tryd.underlying22 hi045 1 hsz45 (some ad109) x5_1.length co40 t111 q045 q45;have hr45:=Kd.F_cut (m:=(t111 : Int).toNat) (c:=co40) hC45 (by omega) hroom45;obtain ⟨A45,hA45⟩ : ∃ A1,A1 = (if co40 = (t111 : Int).toNat then (some ad109) else ((some ad109) : Option Addr).map (·.add ((t111 : Int).toNat * 1))):=⟨_,rfl⟩;obtain ⟨c45,hc45⟩ : ∃ c1,c1 = co40 - (t111 : Int).toNat:=⟨_,rfl⟩;have hy45 : y129.length = x5_1.length - (t111 : Int).toNat:=(by rw [Ny129.out,List.length_drop] <;> omega);rw [show (x5_1).drop (t111 : Int).toNat = y129 from Ny129.out.symm] at hr45;replace hr45 : Kd.F (Kd.int .i64) _ _ A45 y129.length y129:=(by rw [hA45];exact hr45);rw [← hy45,← hA45,← hc45] at hcut45;have HO133:=Aside0.mk (show Kd.V (Kd.int .i64) 3 _ w.heap.size _ (.slice A45 y129.length c45) y129 from Kd.V_mk (by rw [hy45,hc45];exact Nat.sub_le_sub_right hroom45 _) hr45);have HC133:=Aside0.mk (show y129.length ≤ c45 from by rw [hy45,hc45];exact Nat.sub_le_sub_right hroom45 _);clear hr45 hC45 hroom45 hi045 hsz45 hc45;have KY45:=Aside0.mk hy45;have KA45:=Aside0.mk hA45;clear hy45 hA45;replace q45:=eq_true q45)));(go_roundg k1)
                 case measure => have:=HK1.out;omega
                 case rel => exact ⟨(y126),(y129),H',⟨by have:=HK1.out;omega⟩,⟨by (with_reducible repeat (first|apply Kd.R_alloc|apply Kd.R_drewN|apply Kd.R_drew));exact HO128.out⟩,⟨by (with_reducible repeat (first|apply Kd.V_alloc|apply Kd.V_drewN|apply Kd.V_drew));exact Kd.V_mono HO133.out (fun _ hk => ⟨hk.1.1,⟨hk.2,hk.1.2⟩⟩)⟩,⟨by (with_reducible repeat (first|apply Kd.V_alloc|apply Kd.V_drewN|apply Kd.V_drew));exact Kd.V_mono HO_108000.out (fun _ hk => ⟨hk.1.1,⟨hk.2,hk.1.2⟩⟩)⟩,⟨by (with_reducible repeat (first|refine blk_drewN ?_ _|refine blk_drew ?_|refine blk_alloc ?_ _));exact BK107.out⟩,⟨by repeat (first|(with_reducible first|exact HB.out|apply below_alloc|apply pw_below_drewN|apply below_drew1|refine below_set ?_ GE107.out)|exact HB.out)⟩⟩
                ·(rw [if_neg c39] at H);(exact absurd H (by simp))
               ·(rw [if_neg c38] at H);(exact absurd H (by simp))
              ·(rw [if_neg c37] at H);(exact absurd H (by simp))
             ·(rw [if_neg c36] at H);(exact absurd H (by simp))
            ·(rw [if_neg c35] at H);(exact absurd H (by simp))
           ·(rw [if_neg c33] at H);(exact absurd H (by simp))
          ·(rw [if_neg c32] at H);(exact absurd H (by simp))
         ·(rw [if_neg c30] at H);(exact absurd H (by simp))
        ·(rw [if_neg c29] at H);(exact absurd H (by simp))
       ·(rw [if_neg c27] at H);(have c27b0 : decide (2 < t111) = false:=decide_eq_false c27);(clear c27);(by_cases c46 : x4_1.length < 8796093022208)
        ·(rw [if_pos c46] at H);(have LMc46:=Aside0.mk c46);(clear c46);(obtain ⟨y134,hy134⟩ : ∃ y_ : List ByteArray,y_ = (x4_1 ++ [t110]):=⟨_,rfl⟩);(replace H : (if 1 ≤ (x5_1.length : Int) then (array_Format.l0 k1 y134 (x5_1.drop 1) l0_0 a0_1) else (none)) = some (r1,r2):=by first|(rw [hy134];with_reducible exact H)|(have H2_:=(Option.bind_some _ _).symm.trans H;rw [hy134];with_reducible exact H2_)|(have H2_:=(Option.bind_some _ _).symm.trans H;with_reducible exact H2_)|with_reducible exact H|(rw [hy134];exact H)|exact H);(have Ny134:=Aside0.mk hy134);(clear hy134);(by_cases c47 : 1 ≤ (x5_1.length : Int))
         ·(rw [if_pos c47] at H);(have c47b0:=eq_true c47);(have c47b1 : decide (1 ≤ (x5_1.length : Int)) = true:=decide_eq_true c47);(clear c47);(obtain ⟨y137,hy137⟩ : ∃ y_ : List Int,y_ = (x5_1.drop 1):=⟨_,rfl⟩);(replace H : (array_Format.l0 k1 y134 y137 l0_0 a0_1) = some (r1,r2):=by first|(rw [hy137];with_reducible exact H)|(have H2_:=(Option.bind_some _ _).symm.trans H;rw [hy137];with_reducible exact H2_)|(have H2_:=(Option.bind_some _ _).symm.trans H;with_reducible exact H2_)|with_reducible exact H|(rw [hy137];exact H)|exact H);(have Ny137:=Aside0.mk hy137);(clear hy137);(have H':=Aside0.mk H);(clear H);(obtain ⟨Ao48,co48,eo48⟩:=Kd.V_slice HO_5.out);(subst eo48);(have p109 : 0 ≤ (0 : Int):=(by omega));(have q109 : 0 < (x5_1.length : Int):=of_decide_eq_true (by first|(with_reducible assumption)|assumption));(obtain ⟨ad109,e109,hx109_0⟩:=Kd.at_int (Kd.V_reads' HO_5.out).2.2 0 p109 q109)
          cases e109
          (have qi109 : (0 < x5_1.length) = True:=eq_true (by omega));((try rw [show ((0 : Int)).toNat = 0 from rfl] at hx109_0));((try rw [Addr.add_zero'] at hx109_0));(replace p109:=eq_true p109);(replace q109:=eq_true q109);(go_wp2_with (first|((with_reducible refine gate_callee (f:=18) rfl ?_);refine goesL_ (some 21) rfl rfl Tryd.func18 (by kernel_rfl) rfl #[.int .i64 (rd x5_1 0)] rfl (by (try simp only [List.map_toArray,List.map_cons,List.map_nil]);first|done|rfl|(simp only [List.length_drop,List.length_take];rfl)) ?_;(with_reducible refine (strconv_Itoa.calls (rd x5_1 0) t110 _ A10.out (HG_.out.below (by repeat (first|(with_reducible first|exact HB.out|apply below_alloc|apply pw_below_drewN|apply below_drew1|refine below_set ?_ GE107.out)|exact HB.out)))).mono ?_);rintro e w49 ⟨rfl,hb⟩;refine ⟨_,rfl,?_⟩;have n0_:=Aside0.mk (Kd.R_below (by (with_reducible repeat (first|apply Kd.R_alloc|apply Kd.R_drewN|apply Kd.R_drew));exact HO_4.out) hb);have n1_:=Aside0.mk (Kd.V_below (by (with_reducible repeat (first|apply Kd.V_alloc|apply Kd.V_drewN|apply Kd.V_drew));exact HO_5.out) hb);have n2_:=Aside0.mk (Kd.V_below (by (with_reducible repeat (first|apply Kd.V_alloc|apply Kd.V_drewN|apply Kd.V_drew));exact HO_108000.out) hb);have n3_:=Aside0.mk (blk_below (g:=gb107) (o:=.cells #[.slice A0_0 l0_0.length c0_0,.int .i64 a0_1] 28 (0,0)) (by (with_reducible repeat (first|refine blk_drewN ?_ _|refine blk_drew ?_|refine blk_alloc ?_ _));exact BK107.out) hb);have n4_:=Aside0.mk (below_step (by repeat (first|(with_reducible first|exact HB.out|apply below_alloc|apply pw_below_drewN|apply below_drew1|refine below_set ?_ GE107.out)|exact HB.out)) hb);clear HO_4;clear HO_5;clear HO_108000;clear BK107;clear HB;have HO_4:=n0_;have HO_5:=n1_;have HO_108000:=n2_;have BK107:=n3_;have HB:=n4_;clear n0_ n1_ n2_ n3_ n4_;(try clear hb);(try clear hb2);(try clear hk);(try clear hi))|((with_reducible refine gate_callee (f:=19) rfl ?_);refine goesL_ (some 24) rfl rfl Tryd.func19 (by kernel_rfl) rfl #[.slice (some ad109) x5_1.length co48] rfl (by (try simp only [List.map_toArray,List.map_cons,List.map_nil]);first|done|rfl|(simp only [List.length_drop,List.length_take];rfl)) ?_;(with_reducible refine (array_run.calls k1 _ _ x5_1 t111 t112 _ ?side1 ?side2 A11.out).mono ?_);(case side1 => repeat (first|exact (Kd.V_reads' HO_5.out).2.2|(with_reducible refine Kd.C_alloc ?_ _)|(with_reducible refine Kd.C_drewN ?_ _)|(with_reducible refine Kd.C_drew ?_)));(case side2 => exact (Kd.V_reads' HO_5.out).2.1);rintro e w' ⟨rfl,⟨nd,rfl⟩⟩;refine ⟨_,rfl,?_⟩)|((with_reducible refine gate_builtin (b:=.append) (xs:=#[.tmp 55,.tmp 57]) rfl ?_);at_builtin;refine Kd.R_append Kd.string (w0:=w) w.heap.size rfl (.tmp 55) (.tmp 57) 47 9 (.string ⟨#[]⟩) 16 rfl Tryd.underlying47 info9 rfl (by decide) (by omega) u4 x4_1 t110 [.string t110] (fun k_ => (w.heap.size ≤ k_)) (fun _ => False) rfl rfl ?aP (fun _ hk => hk.elim) ?aF ?aO ?aB ?aS ?aL ?_;(case aP => exact rfl);(case aB => exact (by repeat (first|(with_reducible first|exact HB.out|apply below_alloc|apply pw_below_drewN|apply below_drew1|refine below_set ?_ GE107.out)|exact HB.out)));(case aF => exact (fun k_ hk => (Nat.le_trans (below_size (by repeat (first|(with_reducible first|exact HB.out|apply below_alloc|apply pw_below_drewN|apply below_drew1|refine below_set ?_ GE107.out)|exact HB.out))) hk)));(case aO => exact (by (with_reducible repeat (first|apply Kd.R_alloc|apply Kd.R_drewN|apply Kd.R_drew));exact HO_4.out));(case aS => exact (below_size (by repeat (first|(with_reducible first|exact HB.out|apply below_alloc|apply pw_below_drewN|apply below_drew1|refine below_set ?_ GE107.out)|exact HB.out))));(case aL => have:=LMc46.out;omega);intro v135 w50 ho hb hg hat;rw [← Ny134.out] at ho;have n0_:=Aside0.mk (Kd.V_afterv (ok:=(fun k_ => (P0_0_ k_ ∨ w.heap.size ≤ k_)∧k_ ≠ gb107)) (by (with_reducible repeat (first|apply Kd.V_alloc|apply Kd.V_drewN|apply Kd.V_drew));exact Kd.V_mono HO_5.out (fun _ hk => ⟨⟨hk.1,hk.2.2⟩,hk.2.1⟩)) hg hat);have n1_:=Aside0.mk (Kd.V_afterv (ok:=(fun k_ => (P0_0_ k_ ∨ w.heap.size ≤ k_)∧k_ ≠ gb107)) (by (with_reducible repeat (first|apply Kd.V_alloc|apply Kd.V_drewN|apply Kd.V_drew));exact Kd.V_mono HO_108000.out (fun _ hk => ⟨⟨hk.1,hk.2.2⟩,hk.2.1⟩)) hg hat);have n2_:=Aside0.mk (blk_grown (g:=gb107) (o:=.cells #[.slice A0_0 l0_0.length c0_0,.int .i64 a0_1] 28 (0,0)) (by (with_reducible repeat (first|refine blk_drewN ?_ _|refine blk_drew ?_|refine blk_alloc ?_ _));exact BK107.out) hg (Kd.R_ne HO_4.out BK107.out (by decide)));have n3_:=Aside0.mk (hb);have n4_:=Aside0.mk (ho);clear HO_5;clear HO_108000;clear BK107;clear HB;clear HO_4;have HO_5:=n0_;have HO_108000:=n1_;have BK107:=n2_;have HB:=n3_;have HO136:=n4_;clear n0_ n1_ n2_ n3_ n4_;clear ho hb hg hat;have q51 : (1 : Int) ≤ ((x5_1.length : Int) : Int):=of_decide_eq_true (by first|(with_reducible assumption)|assumption);obtain ⟨i051,hi051,_,hsz51,_⟩:=info_parts info3;have hroom51 : x5_1.length ≤ co48:=(Kd.V_reads' HO_5.out).2.1;have hC51 : Kd.F (Kd.int .i64) _ _ (some ad109) x5_1.length x5_1:=(Kd.V_at (base:=w.heap.size) HO_5.out).2.2;have hcut51:=cut_from (P:=Tryd.prog) 22 3 .i64 Tryd.underlying22 hi051 1 hsz51 (some ad109) x5_1.length co48 1 (by omega) q51;have hr51:=Kd.F_cut (m:=(1 : Int).toNat) (c:=co48) hC51 (by omega) hroom51;obtain ⟨A51,hA51⟩ : ∃ A1,A1 = (if co48 = (1 : Int).toNat then (some ad109) else ((some ad109) : Option Addr).map (·.add ((1 : Int).toNat * 1))):=⟨_,rfl⟩;obtain ⟨c51,hc51⟩ : ∃ c1,c1 = co48 - (1 : Int).toNat:=⟨_,rfl⟩;have hy51 : y137.length = x5_1.length - (1 : Int).toNat:=(by rw [Ny137.out,List.length_drop] <;> omega);rw [show (x5_1).drop (1 : Int).toNat = y137 from Ny137.out.symm] at hr51;replace hr51 : Kd.F (Kd.int .i64) _ _ A51 y137.length y137:=(by rw [hA51];exact hr51);rw [← hy51,← hA51,← hc51] at hcut51;have HO141:=Aside0.mk (show Kd.V (Kd.int .i64) 3 _ w.heap.size _ (.slice A51 y137.length c51) y137 from Kd.V_mk (by rw [hy51,hc51];exact Nat.sub_le_sub_right hroom51 _) hr51);have HC141:=Aside0.mk (show y137.length ≤ c51 from by rw [hy51,hc51];exact Nat.sub_le_sub_right hroom51 _);clear hr51 hC51 hroom51 hi051 hsz51 hc51;have KY51:=Aside0.mk hy51;have KA51:=Aside0.mk hA51;clear hy51 hA51;replace q51:=eq_true q51)));(go_roundg k1)
          case measure => have:=HK1.out;omega
          case rel => exact ⟨(y134),(y137),H',⟨by have:=HK1.out;omega⟩,⟨by (with_reducible repeat (first|apply Kd.R_alloc|apply Kd.R_drewN|apply Kd.R_drew));exact HO136.out⟩,⟨by (with_reducible repeat (first|apply Kd.V_alloc|apply Kd.V_drewN|apply Kd.V_drew));exact Kd.V_mono HO141.out (fun _ hk => ⟨hk.1.1,⟨hk.2,hk.1.2⟩⟩)⟩,⟨by (with_reducible repeat (first|apply Kd.V_alloc|apply Kd.V_drewN|apply Kd.V_drew));exact Kd.V_mono HO_108000.out (fun _ hk => ⟨hk.1.1,⟨hk.2,hk.1.2⟩⟩)⟩,⟨by (with_reducible repeat (first|refine blk_drewN ?_ _|refine blk_drew ?_|refine blk_alloc ?_ _));exact BK107.out⟩,⟨by repeat (first|(with_reducible first|exact HB.out|apply below_alloc|apply pw_below_drewN|apply below_drew1|refine below_set ?_ GE107.out)|exact HB.out)⟩⟩
         ·(rw [if_neg c47] at H);(exact absurd H (by simp))
        ·(rw [if_neg c46] at H);(exact absurd H (by simp))
     ·(rw [if_neg c9] at H);(exact absurd H (by simp))
    ·(rw [if_neg c8] at H);(have c8b0 : decide (0 < (x5_1.length : Int)) = false:=decide_eq_false c8);(have c8b1 : decide (0 < x5_1.length) = false:=decide_eq_false (by omega));(clear c8);(replace H:=Option.bind_eq_some_iff.mp H);(obtain ⟨t142,A520,H⟩:=H);(replace H : (if a0_1 > 0 then ((strconv_Itoa.f a0_1).bind fun t143 => (if 1 + t143.size ≤ 9223372036854775807 then (if t142.size + ((⟨#[37]⟩ : ByteArray) ++ t143).size ≤ 9223372036854775807 then (some (t142 ++ ((⟨#[37]⟩ : ByteArray) ++ t143),0)) else (none)) else (none))) else (some (t142,0))) = some (r1,r2):=H);(have A52:=Aside0.mk A520);(clear A520);(by_cases c53 : a0_1 > 0)
     ·(rw [if_pos c53] at H);(have c53b0 : decide (0 < a0_1) = true:=decide_eq_true c53);(clear c53);(replace H:=Option.bind_eq_some_iff.mp H);(obtain ⟨t143,A540,H⟩:=H);(replace H : (if 1 + t143.size ≤ 9223372036854775807 then (if t142.size + ((⟨#[37]⟩ : ByteArray) ++ t143).size ≤ 9223372036854775807 then (some (t142 ++ ((⟨#[37]⟩ : ByteArray) ++ t143),0)) else (none)) else (none)) = some (r1,r2):=H);(have A54:=Aside0.mk A540);(clear A540);(by_cases c55 : 1 + t143.size ≤ 9223372036854775807)
      ·(rw [if_pos c55] at H);(have c55b0:=eq_true c55);(have c55b1 : decide (1 + t143.size ≤ 9223372036854775807) = true:=decide_eq_true c55);(try have c55b2 : (9223372036854775807 < 1 + t143.size) = False:=eq_false (Nat.not_lt.2 c55));(by_cases c56 : t142.size + ((⟨#[37]⟩ : ByteArray) ++ t143).size ≤ 9223372036854775807)
       ·(rw [if_pos c56] at H);(have c56b0:=eq_true c56);(have c56b1 : decide (t142.size + ((⟨#[37]⟩ : ByteArray) ++ t143).size ≤ 9223372036854775807) = true:=decide_eq_true c56);(try have c56b3 : (9223372036854775807 < t142.size + 1 + t143.size) = False:=eq_false (by have z:=c56;rw [show t142.size + ((⟨#[37]⟩ : ByteArray) ++ t143).size = t142.size + 1 + t143.size from by rw [ByteArray.size_append];rfl] at z;omega));(try have c56b2 : (9223372036854775807 < t142.size + ((⟨#[37]⟩ : ByteArray) ++ t143).size) = False:=eq_false (Nat.not_lt.2 c56));(simp only [Option.some.injEq,Prod.mk.injEq] at H);(obtain ⟨rfl,rfl⟩:=H);(obtain ⟨Ao57,co57,eo57⟩:=Kd.V_slice HO_5.out);(subst eo57);(obtain ⟨Ao58,co58,eo58⟩:=Kd.R_slice HO_4.out);(subst eo58);(go_wp2_with (first|((with_reducible refine gate_callee (f:=20) rfl ?_);refine goesL_ (some 63) rfl rfl Tryd.func20 (by kernel_rfl) rfl #[.slice Ao58 x4_1.length co58,.string (⟨#[44]⟩ : ByteArray)] rfl (by (try simp only [List.map_toArray,List.map_cons,List.map_nil]);first|done|rfl|(simp only [List.length_drop,List.length_take];rfl)) ?_;(with_reducible refine (strings_Join.calls _ _ x4_1 (⟨#[44]⟩ : ByteArray) t142 _ ?side1 ?side2 A52.out).mono ?_);(case side1 => repeat (first|exact (Kd.R_reads' HO_4.out).2.2|(with_reducible refine Kd.C_alloc ?_ _)|(with_reducible refine Kd.C_drewN ?_ _)|(with_reducible refine Kd.C_drew ?_)));(case side2 => exact (Kd.R_reads' HO_4.out).2.1);rintro e w59 ⟨rfl,hb⟩;refine ⟨_,rfl,?_⟩;have n0_:=Aside0.mk (Kd.R_below (by (with_reducible repeat (first|apply Kd.R_alloc|apply Kd.R_drewN|apply Kd.R_drew));exact HO_4.out) hb);have n1_:=Aside0.mk (Kd.V_below (by (with_reducible repeat (first|apply Kd.V_alloc|apply Kd.V_drewN|apply Kd.V_drew));exact HO_5.out) hb);have n2_:=Aside0.mk (Kd.V_below (by (with_reducible repeat (first|apply Kd.V_alloc|apply Kd.V_drewN|apply Kd.V_drew));exact HO_108000.out) hb);have n3_:=Aside0.mk (blk_below (g:=gb107) (o:=.cells #[.slice A0_0 l0_0.length c0_0,.int .i64 a0_1] 28 (0,0)) (by (with_reducible repeat (first|refine blk_drewN ?_ _|refine blk_drew ?_|refine blk_alloc ?_ _));exact BK107.out) hb);have n4_:=Aside0.mk (below_step (by repeat (first|(with_reducible first|exact HB.out|apply below_alloc|apply pw_below_drewN|apply below_drew1|refine below_set ?_ GE107.out)|exact HB.out)) hb);clear HO_4;clear HO_5;clear HO_108000;clear BK107;clear HB;have HO_4:=n0_;have HO_5:=n1_;have HO_108000:=n2_;have BK107:=n3_;have HB:=n4_;clear n0_ n1_ n2_ n3_ n4_;(try clear hb);(try clear hb2);(try clear hk);(try clear hi);have hcz60_0 : w59.cell? ⟨gb107,0,none⟩ = some (.slice A0_0 l0_0.length c0_0):=(blk_cell BK107.out 0).trans rfl;have hcz60_1 : w59.cell? ⟨gb107,1,none⟩ = some (.int .i64 a0_1):=(blk_cell BK107.out 1).trans rfl;have hfz60_0:=blk_frozen BK107.out 0;have hfz60_1:=blk_frozen BK107.out 1)|((with_reducible refine gate_callee (f:=18) rfl ?_);refine goesL_ (some 70) rfl rfl Tryd.func18 (by kernel_rfl) rfl #[.int .i64 a0_1] rfl (by (try simp only [List.map_toArray,List.map_cons,List.map_nil]);first|done|rfl|(simp only [List.length_drop,List.length_take];rfl)) ?_;(with_reducible refine (strconv_Itoa.calls a0_1 t143 _ A54.out (HG_.out.below (by repeat (first|(with_reducible first|exact HB.out|apply below_alloc|apply pw_below_drewN|apply below_drew1|refine below_set ?_ GE107.out)|exact HB.out)))).mono ?_);rintro e w61 ⟨rfl,hb⟩;refine ⟨_,rfl,?_⟩;have n0_:=Aside0.mk (Kd.R_below (by (with_reducible repeat (first|apply Kd.R_alloc|apply Kd.R_drewN|apply Kd.R_drew));exact HO_4.out) hb);have n1_:=Aside0.mk (Kd.V_below (by (with_reducible repeat (first|apply Kd.V_alloc|apply Kd.V_drewN|apply Kd.V_drew));exact HO_5.out) hb);have n2_:=Aside0.mk (Kd.V_below (by (with_reducible repeat (first|apply Kd.V_alloc|apply Kd.V_drewN|apply Kd.V_drew));exact HO_108000.out) hb);have n3_:=Aside0.mk (blk_below (g:=gb107) (o:=.cells #[.slice A0_0 l0_0.length c0_0,.int .i64 a0_1] 28 (0,0)) (by (with_reducible repeat (first|refine blk_drewN ?_ _|refine blk_drew ?_|refine blk_alloc ?_ _));exact BK107.out) hb);have n4_:=Aside0.mk (below_step (by repeat (first|(with_reducible first|exact HB.out|apply below_alloc|apply pw_below_drewN|apply below_drew1|refine below_set ?_ GE107.out)|exact HB.out)) hb);clear HO_4;clear HO_5;clear HO_108000;clear BK107;clear HB;have HO_4:=n0_;have HO_5:=n1_;have HO_108000:=n2_;have BK107:=n3_;have HB:=n4_;clear n0_ n1_ n2_ n3_ n4_;(try clear hb);(try clear hb2);(try clear hk);(try clear hi))));(go_ret2);(exact ⟨by first|rfl|(simp [errW_none,errW_some] <;> rfl)|(simp [*,errW_none,errW_some] <;> rfl),by repeat (first|(with_reducible first|exact HB.out|apply below_alloc|apply pw_below_drewN|apply below_drew1|refine below_set ?_ GE107.out)|exact HB.out)⟩)
       ·(rw [if_neg c56] at H);(exact absurd H (by simp))
      ·(rw [if_neg c55] at H);(exact absurd H (by simp))
     ·(rw [if_neg c53] at H);(have c53b0 : decide (0 < a0_1) = false:=decide_eq_false c53);(clear c53);(simp only [Option.some.injEq,Prod.mk.injEq] at H);(obtain ⟨rfl,rfl⟩:=H);(obtain ⟨Ao62,co62,eo62⟩:=Kd.V_slice HO_5.out);(subst eo62);(obtain ⟨Ao63,co63,eo63⟩:=Kd.R_slice HO_4.out);(subst eo63);(go_wp2_with (first|((with_reducible refine gate_callee (f:=20) rfl ?_);refine goesL_ (some 63) rfl rfl Tryd.func20 (by kernel_rfl) rfl #[.slice Ao63 x4_1.length co63,.string (⟨#[44]⟩ : ByteArray)] rfl (by (try simp only [List.map_toArray,List.map_cons,List.map_nil]);first|done|rfl|(simp only [List.length_drop,List.length_take];rfl)) ?_;(with_reducible refine (strings_Join.calls _ _ x4_1 (⟨#[44]⟩ : ByteArray) t142 _ ?side1 ?side2 A52.out).mono ?_);(case side1 => repeat (first|exact (Kd.R_reads' HO_4.out).2.2|(with_reducible refine Kd.C_alloc ?_ _)|(with_reducible refine Kd.C_drewN ?_ _)|(with_reducible refine Kd.C_drew ?_)));(case side2 => exact (Kd.R_reads' HO_4.out).2.1);rintro e w64 ⟨rfl,hb⟩;refine ⟨_,rfl,?_⟩;have n0_:=Aside0.mk (Kd.R_below (by (with_reducible repeat (first|apply Kd.R_alloc|apply Kd.R_drewN|apply Kd.R_drew));exact HO_4.out) hb);have n1_:=Aside0.mk (Kd.V_below (by (with_reducible repeat (first|apply Kd.V_alloc|apply Kd.V_drewN|apply Kd.V_drew));exact HO_5.out) hb);have n2_:=Aside0.mk (Kd.V_below (by (with_reducible repeat (first|apply Kd.V_alloc|apply Kd.V_drewN|apply Kd.V_drew));exact HO_108000.out) hb);have n3_:=Aside0.mk (blk_below (g:=gb107) (o:=.cells #[.slice A0_0 l0_0.length c0_0,.int .i64 a0_1] 28 (0,0)) (by (with_reducible repeat (first|refine blk_drewN ?_ _|refine blk_drew ?_|refine blk_alloc ?_ _));exact BK107.out) hb);have n4_:=Aside0.mk (below_step (by repeat (first|(with_reducible first|exact HB.out|apply below_alloc|apply pw_below_drewN|apply below_drew1|refine below_set ?_ GE107.out)|exact HB.out)) hb);clear HO_4;clear HO_5;clear HO_108000;clear BK107;clear HB;have HO_4:=n0_;have HO_5:=n1_;have HO_108000:=n2_;have BK107:=n3_;have HB:=n4_;clear n0_ n1_ n2_ n3_ n4_;(try clear hb);(try clear hb2);(try clear hk);(try clear hi);have hcz65_0 : w64.cell? ⟨gb107,0,none⟩ = some (.slice A0_0 l0_0.length c0_0):=(blk_cell BK107.out 0).trans rfl;have hcz65_1 : w64.cell? ⟨gb107,1,none⟩ = some (.int .i64 a0_1):=(blk_cell BK107.out 1).trans rfl;have hfz65_0:=blk_frozen BK107.out 0;have hfz65_1:=blk_frozen BK107.out 1)));(go_ret2);(exact ⟨by first|rfl|(simp [errW_none,errW_some] <;> rfl)|(simp [*,errW_none,errW_some] <;> rfl),by repeat (first|(with_reducible first|exact HB.out|apply below_alloc|apply pw_below_drewN|apply below_drew1|refine below_set ?_ GE107.out)|exact HB.out)⟩)
 ·(replace c3:=Bool.eq_false_iff.mpr c3);(subst c3);(have H1 : (some ((⟨#[]⟩ : ByteArray),3)) = some (r1,r2):=by rw [if_neg (show ¬ (false = true) by decide)] at H;exact H);(clear H);(have H:=H1);(clear H1);(simp only [Option.some.injEq,Prod.mk.injEq] at H);(obtain ⟨rfl,rfl⟩:=H);(go_enter Tryd.func8,Tryd.ntmps8);(go_wp2_with (first|((with_reducible refine gate_dst (N:=1) rfl ?_);refine box_event ?hg (N:=1) ?hd (cs:=#[.slice A0_0 l0_0.length c0_0,.int .i64 a0_1]) (t:=28) ?hr ?_;(case hd => rfl);(case hg => rfl);(case hr => first|(go_simp;done)|(go_simp;rfl));intro gb107 hg w66 hbox hb;have n0_:=Aside0.mk (Kd.V_below (Kd.V_elderB (by (with_reducible repeat (first|apply Kd.V_alloc|apply Kd.V_drewN|apply Kd.V_drew));exact HO0_0.out) gb107 (Nat.le_of_eq hg.symm)) hb);have n1_:=Aside0.mk (below_step (by repeat (first|(with_reducible first|exact HB.out|apply below_alloc|apply pw_below_drewN|apply below_drew1)|exact HB.out)) hb);have n2_:=Aside0.mk (hbox);have n3_:=Aside0.mk ((by rw [hg];exact (below_size (by repeat (first|(with_reducible first|exact HB.out|apply below_alloc|apply pw_below_drewN|apply below_drew1)|exact HB.out))) : w.heap.size ≤ gb107));have n4_:=Aside0.mk ((by rw [hg];exact (below_size (by repeat (first|(with_reducible first|exact HB.out|apply below_alloc|apply pw_below_drewN|apply below_drew1)|exact HB.out))) : w.heap.size ≤ gb107));clear HO0_0;clear HB;have HO0_0:=n0_;have HB:=n1_;have BK107:=n2_;have GW107:=n3_;have GE107:=n4_;clear n0_ n1_ n2_ n3_ n4_;clear hb hbox hg;have hcz67_0 : w66.cell? ⟨gb107,0,none⟩ = some (.slice A0_0 l0_0.length c0_0):=(blk_cell BK107.out 0).trans rfl;have hcz67_1 : w66.cell? ⟨gb107,1,none⟩ = some (.int .i64 a0_1):=(blk_cell BK107.out 1).trans rfl;have hfz67_0:=blk_frozen BK107.out 0;have hfz67_1:=blk_frozen BK107.out 1)|((with_reducible refine gate_callee (f:=11) rfl ?_);refine goesL_ (some 11) rfl rfl Tryd.func11 (by kernel_rfl) rfl #[.agg #[.slice A0_0 l0_0.length c0_0,.int .i64 a0_1]] rfl (by (try simp only [List.map_toArray,List.map_cons,List.map_nil]);first|done|rfl|(simp only [List.length_drop,List.length_take];rfl)) ?_;(with_reducible refine (array_Right.calls k _ _ l0_0 a0_1 false _ ?side1 ?side2 A2.out).mono ?_);(case side1 => repeat (first|exact (Kd.V_reads' HO0_0.out).2.2|(with_reducible refine Kd.C_alloc ?_ _)|(with_reducible refine Kd.C_drewN ?_ _)|(with_reducible refine Kd.C_drew ?_)));(case side2 => exact (Kd.V_reads' HO0_0.out).2.1);rintro e w68 ⟨rfl,hb⟩;refine ⟨_,rfl,?_⟩;have n0_:=Aside0.mk (Kd.V_below (by (with_reducible repeat (first|apply Kd.V_alloc|apply Kd.V_drewN|apply Kd.V_drew));exact HO0_0.out) hb);have n1_:=Aside0.mk (blk_below (g:=gb107) (o:=.cells #[.slice A0_0 l0_0.length c0_0,.int .i64 a0_1] 28 (0,0)) (by (with_reducible repeat (first|refine blk_drewN ?_ _|refine blk_drew ?_|refine blk_alloc ?_ _));exact BK107.out) hb);have n2_:=Aside0.mk (below_step (by repeat (first|(with_reducible first|exact HB.out|apply below_alloc|apply pw_below_drewN|apply below_drew1|refine below_set ?_ GE107.out)|exact HB.out)) hb);clear HO0_0;clear BK107;clear HB;have HO0_0:=n0_;have BK107:=n1_;have HB:=n2_;clear n0_ n1_ n2_;(try clear hb);(try clear hb2);(try clear hk);(try clear hi))));(go_ret2);(exact ⟨by first|rfl|(simp [errW_none,errW_some] <;> rfl)|(simp [*,errW_none,errW_some] <;> rfl),by repeat (first|(with_reducible first|exact HB.out|apply below_alloc|apply pw_below_drewN|apply below_drew1|refine below_set ?_ GE107.out)|exact HB.out)⟩)
end Go.Proofs.YtnfpchpnephheaaDoor.PA
end
section
namespace Go.Proofs.YtnfpchpnephheaaDoor.PA
open Go.RowKit Go.Proofs.YtnfpchpnephheaaDoor.Lib Go.Proofs.YtnfpchpnephheaaDoorW.PrintWords Go.Proofs.YtnfpchpnephheaaDoorW.PrintLast Go.Proofs.YtnfpchpnephheaaDoorW.PrintMore
attribute [local go_sem] max2_int min2_int max_two min_two max_three min_three max_four min_four   
set_option linter.unusedVariables false
set_option linter.unusedSimpArgs false
end Go.Proofs.YtnfpchpnephheaaDoor.PA
end
section
namespace Go.Proofs.YtnfpchpnephheaaDoor.PA
open Go.RowKit Go.Proofs.YtnfpchpnephheaaDoor.Lib Go.Proofs.YtnfpchpnephheaaDoorW.PrintWords Go.Proofs.YtnfpchpnephheaaDoorW.PrintLast Go.Proofs.YtnfpchpnephheaaDoorW.PrintMore
attribute [local go_sem] max2_int min2_int max_two min_two max_three min_three max_four min_four   
set_option linter.unusedVariables false
set_option linter.unusedSimpArgs false
end Go.Proofs.YtnfpchpnephheaaDoor.PA
end
section
set_option linter.unusedVariables false
set_option linter.unusedSimpArgs false
namespace Go.Proofs.YtnfpchpnephheaaDoor.Num
def isDig (c : UInt8) : Bool := decide (48 ≤ c.toNat) && decide (c.toNat ≤ 57)
theorem isDig_iff (c : UInt8) : isDig c = true ↔ 48 ≤ c.toNat ∧ c.toNat ≤ 57 := by simp [isDig]
def valA (a : Nat) : List UInt8 → Nat
  | [] => a
  | c :: l => valA (a * 10 + (c.toNat - 48)) l
def valD (l : List UInt8) : Nat := valA 0 l
theorem valA_append (a : Nat) (l : List UInt8) (c : UInt8) : valA a (l ++ [c]) = valA a l * 10 + (c.toNat - 48) := by
  induction l generalizing a with
  | nil => rfl
  | cons d l ih => exact ih _
theorem valD_snoc (l : List UInt8) (c : UInt8) : valD (l ++ [c]) = valD l * 10 + (c.toNat - 48) := valA_append 0 l c
theorem pow_step (a d n : Nat) (hd : d < 10) : (a * 10 + d + 1) * 10 ^ n ≤ (a + 1) * 10 ^ (n + 1) := by
  rw [Nat.pow_succ]
  generalize 10 ^ n = p
  have h1 : a * 10 + d + 1 ≤ (a + 1) * 10 := by omega
  have h2 := Nat.mul_le_mul_right p h1
  rw [Nat.mul_comm p 10, ← Nat.mul_assoc]
  exact h2
theorem valA_lt : ∀ (l : List UInt8) (h : ∀ c ∈ l, isDig c = true) (a : Nat), valA a l < (a + 1) * 10 ^ l.length
  | [], _, a => by show a < (a + 1) * 1; omega
  | c :: l, h, a => by
    have hc := (isDig_iff c).1 (h c (List.mem_cons_self ..))
    have h1 := valA_lt l (fun d hd => h d (List.mem_cons_of_mem _ hd)) (a * 10 + (c.toNat - 48))
    show valA (a * 10 + (c.toNat - 48)) l < (a + 1) * 10 ^ (l.length + 1)
    exact Nat.lt_of_lt_of_le h1 (pow_step a (c.toNat - 48) l.length (by omega))
theorem valD_lt (l : List UInt8) (h : ∀ c ∈ l, isDig c = true) : valD l < 10 ^ l.length := by
  have := valA_lt l h 0
  rw [Nat.zero_add, Nat.one_mul] at this
  exact this
theorem pow_ge (a d n : Nat) : a * 10 ^ (n + 1) ≤ (a * 10 + d) * 10 ^ n := by
  rw [Nat.pow_succ]
  generalize 10 ^ n = p
  have h2 := Nat.mul_le_mul_right p (Nat.le_add_right (a * 10) d)
  rw [Nat.mul_comm p 10, ← Nat.mul_assoc]
  exact h2
theorem valA_ge : ∀ (l : List UInt8) (a : Nat), a * 10 ^ l.length ≤ valA a l
  | [], a => by show a * 1 ≤ a; omega
  | c :: l, a => Nat.le_trans (pow_ge a (c.toNat - 48) l.length) (valA_ge l (a * 10 + (c.toNat - 48)))
theorem parse_digits (l : List UInt8) (h : ∀ c ∈ l, isDig c = true) : ∀ a, valA a l < 18446744073709551616 → Go.Lib.parseUint10 a l = .ok (valA a l) := by
  induction l with
  | nil => intro a ha; rfl
  | cons c l ih =>
    intro a ha
    have hc := (isDig_iff c).1 (h c (by simp))
    have hm := valA_ge l (a * 10 + (c.toNat - 48))
    have h1 : 1 ≤ 10 ^ l.length := Nat.one_le_pow _ _ (by decide)
    have h3 : valA a (c :: l) = valA (a * 10 + (c.toNat - 48)) l := rfl
    rw [h3] at ha ⊢
    have h2 : a * 10 + (c.toNat - 48) < 18446744073709551616 := by
      have : (a * 10 + (c.toNat - 48)) * 1 ≤ (a * 10 + (c.toNat - 48)) * 10 ^ l.length := Nat.mul_le_mul_left _ h1
      omega
    unfold Go.Lib.parseUint10
    rw [if_pos hc, if_neg (by omega), if_neg (by omega)]
    exact ih (fun d hd => h d (by simp [hd])) _ ha
theorem atoi_digits (l : List UInt8) (h : ∀ c ∈ l, isDig c = true) (hne : l ≠ []) (hl : l.length ≤ 18) : Go.Lib.atoiAll l = .ok (valD l : Int) := by
  have hv := valD_lt l h
  have hp : 10 ^ l.length ≤ 10 ^ 18 := Nat.pow_le_pow_right (by decide) hl
  have hb : valD l < 1000000000000000000 := Nat.lt_of_lt_of_le hv hp
  cases l with
  | nil => exact absurd rfl hne
  | cons c r =>
    have hc := (isDig_iff c).1 (h c (by simp))
    have e := parse_digits (c :: r) h 0 (by show valD (c :: r) < _; omega)
    unfold Go.Lib.atoiAll
    simp only
    rw [if_neg (by omega)]
    unfold Go.Lib.parseMag
    rw [if_neg (by simp), e]
    have hb' : valA 0 (c :: r) < 1000000000000000000 := hb
    simp only
    rw [if_neg (by omega), if_neg (by omega), if_neg (by omega)]
    rfl
theorem dec_digits (u : Nat) : (∀ c ∈ Go.Lib.decDigits u, isDig c = true) ∧ valD (Go.Lib.decDigits u) = u ∧ Go.Lib.decDigits u ≠ [] ∧ ((Go.Lib.decDigits u).length = 1 ∨ ∀ c, (Go.Lib.decDigits u).head? = some c → c.toNat ≠ 48) := by
  induction u using Nat.strongRecOn with
  | _ u ih =>
    by_cases h : u < 10
    · rw [Go.Lib.decDigits, dif_pos h]
      have e : (UInt8.ofNat (48 + u)).toNat = 48 + u := by simp; omega
      refine ⟨fun c hc => ?_, ?_, by simp, .inl rfl⟩
      · rw [List.mem_singleton.1 hc, isDig_iff, e]; omega
      · show 0 * 10 + ((UInt8.ofNat (48 + u)).toNat - 48) = u
        rw [e]; omega
    · obtain ⟨h1, h2, h3, h4⟩ := ih (u / 10) (by omega)
      rw [Go.Lib.decDigits, dif_neg h]
      have e : (UInt8.ofNat (48 + u % 10)).toNat = 48 + u % 10 := by simp; omega
      refine ⟨fun c hc => ?_, ?_, by simp, .inr fun c hc => ?_⟩
      · rcases List.mem_append.1 hc with hc | hc
        · exact h1 c hc
        · rw [List.mem_singleton.1 hc, isDig_iff, e]; omega
      · rw [valD_snoc, h2, e]; omega
      · rw [List.head?_append, Option.or_of_isSome (by cases hq : Go.Lib.decDigits (u / 10) with | nil => exact absurd hq h3 | cons x y => rfl)] at hc
        rcases h4 with h4 | h4
        · obtain ⟨d, hd⟩ := List.length_eq_one_iff.1 h4
          rw [hd] at hc h2 h1
          simp at hc
          subst hc
          have := (isDig_iff d).1 (h1 d (by simp))
          have h2' : 0 * 10 + (d.toNat - 48) = u / 10 := h2
          omega
        · exact h4 c hc
end Go.Proofs.YtnfpchpnephheaaDoor.Num
end
section
namespace Go.Proofs.YtnfpchpnephheaaDoor.Hn
open Go.Proofs.YtnfpchpnephheaaDoor.Num
set_option linter.unusedVariables false
set_option linter.unusedSimpArgs false
theorem dec_len : ∀ (k n : Nat), n < 10 ^ (k + 1) → (Go.Lib.decDigits n).length ≤ k + 1
  | 0, n, h => by rw [Go.Lib.decDigits, dif_pos (by simpa using h)]; simp
  | k + 1, n, h => by
    by_cases h1 : n < 10
    · rw [Go.Lib.decDigits, dif_pos h1]; simp
    · have := dec_len k (n / 10) (by rw [Nat.pow_succ] at h; omega)
      rw [Go.Lib.decDigits, dif_neg h1, List.length_append]
      simp; omega
end Go.Proofs.YtnfpchpnephheaaDoor.Hn
end
section
set_option linter.unusedVariables false
set_option linter.unusedSimpArgs false
namespace Go.Proofs.YtnfpchpnephheaaDoor.Txt
open Go.RowKit Go.Proofs.YtnfpchpnephheaaDoorW.PrintWords
def L (s : ByteArray) : List UInt8 := s.data.toList
theorem L_length (s : ByteArray) : (L s).length = s.size := by show s.data.toList.length = s.data.size; exact Array.length_toList
theorem L_inj {s t : ByteArray} (h : L s = L t) : s = t := by
  cases s; cases t; congr 1; exact Array.toList_inj.1 h
theorem L_mk (l : List UInt8) : L ⟨l.toArray⟩ = l := by simp [L]
theorem L_append (s t : ByteArray) : L (s ++ t) = L s ++ L t := by simp [L]
theorem bt_L (s : ByteArray) (p : Nat) (h : p < s.size) : bt s (p : Int) = ((L s)[p]'(by rw [L_length]; exact h)).toNat := by
  unfold bt
  simp only [Int.toNat_natCast]
  rw [dif_pos h]
  rfl
theorem extract_L (s : ByteArray) (a b : Nat) : L (s.extract a b) = ((L s).drop a).take (b - a) := Go.Lib.extract_data s a b
theorem wrap_nat {p : Nat} (h : p + 1 ≤ 9223372036854775807) : wrap64 ((p : Int) + 1) = ((p + 1 : Nat) : Int) := by unfold wrap64; omega
def run (f : UInt8 → Bool) (l : List UInt8) (p : Nat) : Nat := p + ((l.drop p).takeWhile f).length
theorem run_all (f : UInt8 → Bool) (l : List UInt8) (p : Nat) : ∀ c ∈ (l.drop p).takeWhile f, f c = true := fun c hc => by
  have := List.all_takeWhile (p := f) (l := l.drop p)
  exact List.all_eq_true.1 this c hc
end Go.Proofs.YtnfpchpnephheaaDoor.Txt
end
section
namespace Go.Proofs.YtnfpchpnephheaaDoor.Ar
open Go.RowKit Go.Proofs.YtnfpchpnephheaaDoor.Lib Go.Proofs.YtnfpchpnephheaaDoor.PA Go.Proofs.YtnfpchpnephheaaDoor.Txt Go.Proofs.YtnfpchpnephheaaDoor.Num Go.Proofs.YtnfpchpnephheaaDoor.Hn Go.Proofs.YtnfpchpnephheaaDoorW.PrintWords Go.Proofs.YtnfpchpnephheaaDoorW.PrintLast Go.Proofs.YtnfpchpnephheaaDoorW.PrintMore
set_option linter.unusedVariables false
set_option linter.unusedSimpArgs false
theorem Ev.shift {α : Type} {g : Nat → Option α} {r : α} (h : Ev (fun k => g (k + 1)) r) : Ev g r := by
  obtain ⟨K, hK⟩ := h
  refine ⟨K + 1, fun k hk => ?_⟩
  obtain ⟨m, rfl⟩ : ∃ m, k = m + 1 := ⟨k - 1, by omega⟩
  exact hK m (by omega)
def mkB (l : List UInt8) : ByteArray := ⟨l.toArray⟩
theorem L_mkB (l : List UInt8) : L (mkB l) = l := L_mk l
theorem mkB_size (l : List UInt8) : (mkB l).size = l.length := by rw [← L_length, L_mkB]
theorem itoa_f (n : Nat) (hn : n ≤ 9000000000) : strconv_Itoa.f (n : Int) = some (mkB (Go.Lib.decDigits n)) := by
  unfold strconv_Itoa.f
  have hi : Go.Lib.itoa (n : Int) = Go.Lib.decDigits n := by unfold Go.Lib.itoa; rw [if_neg (by omega)]; rfl
  rw [if_pos (by omega), hi]; rfl
def incr : Int → List Int → Bool
  | _, [] => true
  | last, n :: l => decide (last < n) && decide (n ≤ 999999) && incr n l
def rightB (l : List Int) (lim : Int) : Bool := decide (1 ≤ l.length) && decide (l.length ≤ 256) && decide (0 ≤ lim) && decide (lim ≤ 999999) && incr (-1) l
theorem rd_get (l : List Int) (i : Nat) (h : i < l.length) : rd l (i : Int) = l[i] := by
  unfold rd
  rw [Int.toNat_natCast, List.getD_eq_getElem?_getD, List.getElem?_eq_getElem h]; rfl
theorem right_l0 (l : List Int) (hl : l.length ≤ 1000) : ∀ (d i : Nat) (last : Int), l.length - i = d → i ≤ l.length → Ev (fun k => array_Right.l0 k last l (l.length : Int) (i : Int)) (incr last (l.drop i)) := by
  intro d
  induction d with
  | zero =>
    intro i last hd hi
    refine Ev.shift ⟨0, fun k hk => ?_⟩
    simp only [array_Right.l0]
    rw [if_neg (by omega), List.drop_eq_nil_of_le (by omega)]; rfl
  | succ d ih =>
    intro i last hd hi
    have hlt : i < l.length := by omega
    rw [List.drop_eq_getElem_cons hlt]
    by_cases c1 : l[i] ≤ last
    · refine Ev.shift ⟨0, fun k hk => ?_⟩
      simp only [array_Right.l0]
      rw [if_pos (by omega), if_pos (by omega), if_pos (by omega), rd_get l i hlt, if_pos c1]
      simp only [incr]
      rw [decide_eq_false (show ¬ last < l[i] by omega)]; rfl
    · by_cases c2 : l[i] > 999999
      · refine Ev.shift ⟨0, fun k hk => ?_⟩
        simp only [array_Right.l0]
        rw [if_pos (by omega), if_pos (by omega), if_pos (by omega), rd_get l i hlt, if_neg c1, if_pos c2]
        simp only [incr]
        rw [decide_eq_false (show ¬ l[i] ≤ 999999 by omega)]; simp
      · obtain ⟨K, hK⟩ := ih (i + 1) l[i] (by omega) (by omega)
        dsimp only at hK
        refine Ev.shift ⟨K, fun k hk => ?_⟩
        simp only [array_Right.l0]
        rw [if_pos (by omega), if_pos (by omega), if_pos (by omega), rd_get l i hlt, if_neg c1, if_neg c2, wrap_nat (by omega)]
        simp only [incr]
        rw [decide_eq_true (show last < l[i] by omega), decide_eq_true (show l[i] ≤ 999999 by omega)]
        exact hK k hk
theorem right_ev (l : List Int) (lim : Int) : Ev (fun k => array_Right.f k l lim) (rightB l lim) := by
  have hj : ∀ b : Bool, (b = false → l.length ≤ 256) → Ev (fun k => array_Right.j0 k b l lim) (!b && incr (-1) l) := by
    intro b hb
    cases b with
    | true =>
      refine Ev.shift ⟨0, fun k hk => ?_⟩
      simp only [array_Right.j0]
      rw [if_pos (by first | rfl | trivial)]; rfl
    | false =>
      obtain ⟨K, hK⟩ := right_l0 l (by have := hb rfl; omega) _ 0 (-1) rfl (by omega)
      refine Ev.shift ⟨K, fun k hk => ?_⟩
      simp only [array_Right.j0]
      rw [if_neg (by decide)]
      exact hK k hk
  by_cases c1 : l.length = 0
  · obtain ⟨K, hK⟩ := hj true (fun h => by cases h)
    refine ⟨K, fun k hk => ?_⟩
    simp only [array_Right.f]
    rw [if_pos (by omega)]
    unfold rightB
    rw [decide_eq_false (show ¬ 1 ≤ l.length by omega)]
    exact hK k hk
  · by_cases c2 : l.length > 256
    · obtain ⟨K, hK⟩ := hj true (fun h => by cases h)
      refine ⟨K, fun k hk => ?_⟩
      simp only [array_Right.f]
      rw [if_neg (by omega), if_pos (by omega)]
      unfold rightB
      rw [decide_eq_false (show ¬ l.length ≤ 256 by omega)]
      have := hK k hk
      simpa using this
    · by_cases c3 : lim < 0
      · obtain ⟨K, hK⟩ := hj true (fun h => by cases h)
        refine ⟨K, fun k hk => ?_⟩
        simp only [array_Right.f]
        rw [if_neg (by omega), if_neg (by omega), if_pos c3]
        unfold rightB
        rw [decide_eq_false (show ¬ 0 ≤ lim by omega)]
        have := hK k hk
        simpa using this
      · obtain ⟨K, hK⟩ := hj (decide (lim > 999999)) (fun _ => by omega)
        refine ⟨K, fun k hk => ?_⟩
        simp only [array_Right.f]
        rw [if_neg (by omega), if_neg (by omega), if_neg c3]
        have e : rightB l lim = (!(decide (lim > 999999)) && incr (-1) l) := by
          unfold rightB
          rw [decide_eq_true (show 1 ≤ l.length by omega), decide_eq_true (show l.length ≤ 256 by omega), decide_eq_true (show 0 ≤ lim by omega)]
          by_cases c4 : lim > 999999
          · rw [decide_eq_true c4, decide_eq_false (show ¬ lim ≤ 999999 by omega)]; rfl
          · rw [decide_eq_false c4, decide_eq_true (show lim ≤ 999999 by omega)]; rfl
        rw [e]
        exact hK k hk
end Go.Proofs.YtnfpchpnephheaaDoor.Ar
end
section
namespace Go.Proofs.YtnfpchpnephheaaDoor.Ar
open Go.RowKit Go.Proofs.YtnfpchpnephheaaDoor.Lib Go.Proofs.YtnfpchpnephheaaDoor.PA Go.Proofs.YtnfpchpnephheaaDoor.Txt Go.Proofs.YtnfpchpnephheaaDoor.Num Go.Proofs.YtnfpchpnephheaaDoor.Hn Go.Proofs.YtnfpchpnephheaaDoorW.PrintWords Go.Proofs.YtnfpchpnephheaaDoorW.PrintLast Go.Proofs.YtnfpchpnephheaaDoorW.PrintMore
set_option linter.unusedVariables false
set_option linter.unusedSimpArgs false
abbrev dec (n : Int) : List UInt8 := Go.Lib.decDigits n.toNat
def ext (step : Int) : Int → List Int → Nat
  | _, [] => 0
  | p, z :: r => if z - p = step then 1 + ext step z r else 0
def stepOf : List Int → Int
  | x :: y :: _ => y - x
  | _ => 0
def runLen : List Int → Nat
  | [] => 0
  | x :: r => 1 + ext (stepOf (x :: r)) x r
theorem ext_le (st : Int) : ∀ (r : List Int) (p : Int), ext st p r ≤ r.length
  | [], _ => Nat.le_refl _
  | z :: r, p => by unfold ext; split; have := ext_le st r z; simp; omega; simp
theorem runLen_le (l : List Int) : runLen l ≤ l.length := by
  cases l with
  | nil => exact Nat.le_refl _
  | cons x r => unfold runLen; have := ext_le (stepOf (x :: r)) r x; simp; omega
def parts : Nat → List Int → List (List UInt8)
  | 0, _ => []
  | _ + 1, [] => []
  | n + 1, x :: r =>
    if stepOf (x :: r) = 1 then (dec x ++ 45 :: dec ((x :: r).getD (runLen (x :: r) - 1) 0)) :: parts n ((x :: r).drop (runLen (x :: r)))
    else if 2 < runLen (x :: r) then (dec x ++ 45 :: (dec ((x :: r).getD (runLen (x :: r) - 1) 0) ++ 58 :: dec (stepOf (x :: r)))) :: parts n ((x :: r).drop (runLen (x :: r)))
    else dec x :: parts n r
def limT (lim : Int) : List UInt8 := if 0 < lim then 37 :: dec lim else []
def textOf (l : List Int) (lim : Int) : List UInt8 := Go.Lib.join (parts l.length l) [44] ++ limT lim
def Good (l : List Int) : Prop := (∀ x ∈ l, 0 ≤ x ∧ x ≤ 999999) ∧ l.Pairwise (· < ·)
theorem incr_good : ∀ (l : List Int) (last : Int), -1 ≤ last → incr last l = true → Good l ∧ ∀ x ∈ l, last < x
  | [], last, _, _ => ⟨⟨by simp, List.Pairwise.nil⟩, by simp⟩
  | n :: l, last, h0, h => by
    simp only [incr, Bool.and_eq_true, decide_eq_true_eq] at h
    obtain ⟨⟨h1, h2⟩, h3⟩ := h
    obtain ⟨⟨g1, g2⟩, g3⟩ := incr_good l n (by omega) h3
    refine ⟨⟨fun x hx => ?_, List.Pairwise.cons g3 g2⟩, fun x hx => ?_⟩
    · rcases List.mem_cons.1 hx with rfl | hx
      · omega
      · exact g1 x hx
    · rcases List.mem_cons.1 hx with rfl | hx
      · exact h1
      · have := g3 x hx; omega
theorem Good.drop {l : List Int} (h : Good l) (n : Nat) : Good (l.drop n) := ⟨fun x hx => h.1 x (List.mem_of_mem_drop hx), h.2.sublist (List.drop_sublist n l)⟩
theorem dec_nat (n : Int) (h : 0 ≤ n) (h2 : n ≤ 9000000000) : strconv_Itoa.f n = some (mkB (dec n)) := by
  obtain ⟨m, rfl⟩ := Int.eq_ofNat_of_zero_le h
  exact itoa_f m (by omega)
theorem dec_le (n : Int) (h2 : n ≤ 999999) : (dec n).length ≤ 6 := dec_len 5 n.toNat (by omega)
theorem wsub {a b : Int} (ha : 0 ≤ a ∧ a ≤ 999999) (hb : 0 ≤ b ∧ b ≤ 999999) : wrap64 (a - b) = a - b := by unfold wrap64; omega
theorem run_l0 (l : List Int) (hg : Good l) (hl : l.length ≤ 1000) (st : Int) : ∀ (d j : Nat), l.length - j = d → 1 ≤ j → j ≤ l.length → Ev (fun k => array_run.l0 k l st (j : Int)) (((j + ext st (l.getD (j - 1) 0) (l.drop j) : Nat) : Int), st) := by
  intro d
  induction d with
  | zero =>
    intro j hd h1 hj
    refine Ev.shift ⟨0, fun k hk => ?_⟩
    simp only [array_run.l0]
    rw [if_neg (by omega), List.drop_eq_nil_of_le (by omega)]
    rfl
  | succ d ih =>
    intro j hd h1 hj
    have hlt : j < l.length := by omega
    have hw : wrap64 ((j : Int) - 1) = ((j - 1 : Nat) : Int) := by unfold wrap64; omega
    have hA := hg.1 l[j] (List.getElem_mem hlt)
    have hB := hg.1 l[j - 1] (List.getElem_mem (by omega))
    have hgd : l.getD (j - 1) 0 = l[j - 1] := by rw [List.getD_eq_getElem?_getD, List.getElem?_eq_getElem (by omega)]; rfl
    rw [List.drop_eq_getElem_cons hlt, hgd]
    by_cases c : l[j] - l[j - 1] = st
    · obtain ⟨K, hK⟩ := ih (j + 1) (by omega) (by omega) (by omega)
      dsimp only at hK
      refine Ev.shift ⟨K, fun k hk => ?_⟩
      simp only [array_run.l0]
      rw [if_pos (by omega), if_pos (by omega), hw, if_pos (by omega), if_pos (by omega), rd_get l j hlt, rd_get l (j - 1) (by omega), wsub hA hB, if_pos c, wrap_nat (by omega)]
      have h2 := hK k hk
      have hgd2 : l.getD (j + 1 - 1) 0 = l[j] := by rw [Nat.add_sub_cancel, List.getD_eq_getElem?_getD, List.getElem?_eq_getElem hlt]; rfl
      rw [hgd2] at h2
      rw [h2]
      simp only [ext]
      rw [if_pos c]
      congr 2
      omega
    · refine Ev.shift ⟨0, fun k hk => ?_⟩
      simp only [array_run.l0]
      rw [if_pos (by omega), if_pos (by omega), hw, if_pos (by omega), if_pos (by omega), rd_get l j hlt, rd_get l (j - 1) (by omega), wsub hA hB, if_neg c]
      simp only [ext]
      rw [if_neg c]
      rfl
theorem run_ev (x : Int) (r : List Int) (hg : Good (x :: r)) (hl : (x :: r).length ≤ 1000) : Ev (fun k => array_run.f k (x :: r)) ((runLen (x :: r) : Int), stepOf (x :: r)) := by
  cases r with
  | nil =>
    refine ⟨0, fun k hk => ?_⟩
    simp only [array_run.f]
    rw [if_pos (by simp)]
    rfl
  | cons y r =>
    obtain ⟨K, hK⟩ := run_l0 (x :: y :: r) hg hl (y - x) _ 2 rfl (by omega) (by simp)
    dsimp only at hK
    refine ⟨K, fun k hk => ?_⟩
    simp only [array_run.f]
    have hA := hg.1 x (by simp)
    have hB := hg.1 y (by simp)
    have e1 : rd (x :: y :: r) 1 = y := rfl
    have e0 : rd (x :: y :: r) 0 = x := rfl
    have hlen : (x :: y :: r).length = r.length + 2 := by simp
    rw [if_neg (by rw [hlen]; omega), if_pos (by rw [hlen]; omega), if_pos (by rw [hlen]; omega), e1, e0, wsub hB hA]
    have h2 := hK k hk
    rw [show ((2 : Nat) : Int) = 2 from rfl] at h2
    rw [h2]
    have e2 : runLen (x :: y :: r) = 2 + ext (y - x) y r := by
      show 1 + ext (y - x) x (y :: r) = _
      simp only [ext]
      rw [if_pos trivial]; omega
    rw [e2]
    rfl
theorem step_le (x : Int) (r : List Int) (hg : Good (x :: r)) : 0 ≤ stepOf (x :: r) ∧ stepOf (x :: r) ≤ 999999 ∧ (stepOf (x :: r) = 1 → 2 ≤ runLen (x :: r)) := by
  cases r with
  | nil => exact ⟨Int.le_refl _, (show (0 : Int) ≤ 999999 by decide), fun h => by cases h⟩
  | cons y r =>
    have hA := hg.1 x (by simp)
    have hB := hg.1 y (by simp)
    have hlt : x < y := (List.pairwise_cons.1 hg.2).1 y (by simp)
    refine ⟨by show 0 ≤ y - x; omega, by show y - x ≤ 999999; omega, fun _ => ?_⟩
    show 2 ≤ 1 + ext (y - x) x (y :: r)
    simp only [ext]
    rw [if_pos trivial]; omega
theorem join_len (l : List (List UInt8)) (h : ∀ x ∈ l, x.length ≤ 100) : (Go.Lib.join l [44]).length ≤ l.length * 101 := by
  unfold Go.Lib.join
  induction l with
  | nil => simp [List.intercalate]
  | cons x l ih =>
    have hx := h x (by simp)
    have ih2 := ih (fun y hy => h y (by simp [hy]))
    cases l with
    | nil => simp [List.intercalate]; omega
    | cons y l =>
      have e : ([44] : List UInt8).intercalate (x :: y :: l) = x ++ 44 :: ([44] : List UInt8).intercalate (y :: l) := by simp [List.intercalate]
      rw [e, List.length_append, List.length_cons]
      simp only [List.length_cons] at ih2 ⊢
      omega
theorem last_ok (x : Int) (r : List Int) (hg : Good (x :: r)) : ∃ h : runLen (x :: r) - 1 < (x :: r).length, (x :: r).getD (runLen (x :: r) - 1) 0 = (x :: r)[runLen (x :: r) - 1]'h ∧ 0 ≤ (x :: r).getD (runLen (x :: r) - 1) 0 ∧ (x :: r).getD (runLen (x :: r) - 1) 0 ≤ 999999 := by
  have h1 := runLen_le (x :: r)
  have h2 : runLen (x :: r) - 1 < (x :: r).length := by simp at h1 ⊢; omega
  have e : (x :: r).getD (runLen (x :: r) - 1) 0 = (x :: r)[runLen (x :: r) - 1]'h2 := by rw [List.getD_eq_getElem?_getD, List.getElem?_eq_getElem h2]; rfl
  refine ⟨h2, e, ?_⟩
  rw [e]
  exact hg.1 _ (List.getElem_mem h2)
theorem form_end (l0 : List Int) (lim : Int) (hlim : 0 ≤ lim ∧ lim ≤ 999999) (out : List (List UInt8)) (ho : out.length ≤ 1000) (hx : ∀ x ∈ out, x.length ≤ 100) :
    Ev (fun k => array_Format.l0 k (out.map mkB) [] l0 lim) (mkB (Go.Lib.join (out ++ []) [44] ++ limT lim), 0) := by
  refine Ev.shift ⟨0, fun k hk => ?_⟩
  have hj := join_len out hx
  have hmul : out.length * 101 ≤ 1000 * 101 := Nat.mul_le_mul_right _ ho
  have hd := dec_le lim hlim.2
  have e : ((out.map mkB).map fun s => s.data.toList) = out := by
    rw [List.map_map]
    conv => rhs; rw [← List.map_id out]
    apply List.map_congr_left
    intro t _
    exact L_mkB t
  simp only [array_Format.l0]
  rw [if_neg (by simp)]
  unfold strings_Join.f
  rw [e, show (⟨#[44]⟩ : ByteArray).data.toList = [44] from rfl, if_pos ⟨by rw [List.length_map]; omega, by omega⟩, Option.bind_some, List.append_nil]
  unfold limT
  by_cases c : 0 < lim
  · rw [if_pos c, if_pos c, dec_nat lim hlim.1 (by omega), Option.bind_some]
    have hm : ∀ a b : List UInt8, mkB a ++ mkB b = mkB (a ++ b) := fun a b => L_inj (by rw [L_append, L_mkB, L_mkB, L_mkB])
    have h37 : (⟨#[37]⟩ : ByteArray) = mkB [37] := rfl
    have hj2 : (⟨(Go.Lib.join out [44]).toArray⟩ : ByteArray) = mkB (Go.Lib.join out [44]) := rfl
    rw [h37, hj2, hm, hm]
    simp only [mkB_size]
    rw [if_pos (by omega), if_pos (by simp; omega)]
    rfl
  · rw [if_neg c, if_neg c, List.append_nil]
    rfl
theorem form_l0 (l0 : List Int) (lim : Int) (hlim : 0 ≤ lim ∧ lim ≤ 999999) : ∀ (n : Nat) (l : List Int) (out : List (List UInt8)), l.length ≤ n → Good l → out.length + l.length ≤ 1000 → (∀ x ∈ out, x.length ≤ 100) →
    Ev (fun k => array_Format.l0 k (out.map mkB) l l0 lim) (mkB (Go.Lib.join (out ++ parts n l) [44] ++ limT lim), 0) := by
  intro n
  induction n with
  | zero =>
    intro l out hl hg ho hx
    have : l = [] := List.length_eq_zero_iff.1 (by omega)
    subst this
    exact form_end l0 lim hlim out (by simpa using ho) hx
  | succ n ih =>
    intro l out hl hg ho hx
    cases l with
    | nil => exact form_end l0 lim hlim out (by simpa using ho) hx
    | cons x r =>
      obtain ⟨K1, h1⟩ := run_ev x r hg (by omega)
      dsimp only at h1
      obtain ⟨s1, s2, s3⟩ := step_le x r hg
      obtain ⟨hlt, hgd, b1, b2⟩ := last_ok x r hg
      have hxx := hg.1 x (by simp)
      have hrl := runLen_le (x :: r)
      have hr1 : 1 ≤ runLen (x :: r) := by
        show 1 ≤ 1 + ext (stepOf (x :: r)) x r
        omega
      have hlen0 : (0 : Int) < ((x :: r).length : Int) := by rw [List.length_cons]; omega
      have e0 : rd (x :: r) 0 = x := rfl
      have hd1 := dec_le x hxx.2
      have hd2 := dec_le _ b2
      have hd3 := dec_le _ s2
      have hw : wrap64 ((runLen (x :: r) : Int) - 1) = ((runLen (x :: r) - 1 : Nat) : Int) := by unfold wrap64; omega
      have hrd : rd (x :: r) ((runLen (x :: r) - 1 : Nat) : Int) = (x :: r).getD (runLen (x :: r) - 1) 0 := by rw [rd_get _ _ hlt, hgd]
      have hdl : ((x :: r).drop (runLen (x :: r))).length = (x :: r).length - runLen (x :: r) := List.length_drop
      have happ : ∀ t : List UInt8, (out ++ [t]).map mkB = out.map mkB ++ [mkB t] := by intro t; simp
      have hlo : (out.map mkB).length = out.length := List.length_map _
      have h45 : (⟨#[45]⟩ : ByteArray) = mkB [45] := rfl
      have h58 : (⟨#[58]⟩ : ByteArray) = mkB [58] := rfl
      have hm : ∀ a b : List UInt8, mkB a ++ mkB b = mkB (a ++ b) := fun a b => L_inj (by rw [L_append, L_mkB, L_mkB, L_mkB])
      simp only [parts]
      generalize hLast : (x :: r).getD (runLen (x :: r) - 1) 0 = last at *
      by_cases c1 : stepOf (x :: r) = 1
      · rw [if_pos c1]
        obtain ⟨K, hK⟩ := ih ((x :: r).drop (runLen (x :: r))) (out ++ [dec x ++ 45 :: dec last]) (by rw [hdl]; omega) (hg.drop _) (by rw [List.length_append, hdl]; simp at ho ⊢; omega) (by
          intro y hy
          rcases List.mem_append.1 hy with hy | hy
          · exact hx y hy
          · rw [List.mem_singleton.1 hy, List.length_append, List.length_cons]; omega)
        dsimp only at hK
        refine Ev.shift ⟨K + K1, fun k hk => ?_⟩
        have h2 := hK k (by omega)
        rw [happ, List.append_assoc] at h2
        simp only [array_Format.l0]
        rw [if_pos hlen0, if_pos hlen0, e0, dec_nat x hxx.1 (by omega), Option.bind_some, h1 k (by omega), Option.bind_some]
        dsimp only
        rw [if_pos c1, hw, if_pos (by omega), if_pos (by omega), hrd, dec_nat last b1 (by omega), Option.bind_some, h45, hm, hm]
        simp only [mkB_size]
        rw [if_pos (by omega), if_pos (by simp; omega), if_pos (by rw [hlo]; omega), if_pos (by omega), if_pos (by omega), Int.toNat_natCast]
        exact h2
      · rw [if_neg c1]
        by_cases c2 : 2 < runLen (x :: r)
        · rw [if_pos c2]
          obtain ⟨K, hK⟩ := ih ((x :: r).drop (runLen (x :: r))) (out ++ [dec x ++ 45 :: (dec last ++ 58 :: dec (stepOf (x :: r)))]) (by rw [hdl]; omega) (hg.drop _) (by rw [List.length_append, hdl]; simp at ho ⊢; omega) (by
            intro y hy
            rcases List.mem_append.1 hy with hy | hy
            · exact hx y hy
            · rw [List.mem_singleton.1 hy, List.length_append, List.length_cons, List.length_append, List.length_cons]; omega)
          dsimp only at hK
          refine Ev.shift ⟨K + K1, fun k hk => ?_⟩
          have h2 := hK k (by omega)
          rw [happ, List.append_assoc] at h2
          simp only [array_Format.l0]
          rw [if_pos hlen0, if_pos hlen0, e0, dec_nat x hxx.1 (by omega), Option.bind_some, h1 k (by omega), Option.bind_some]
          dsimp only
          rw [if_neg c1, if_pos (by omega), hw, if_pos (by omega), if_pos (by omega), hrd, dec_nat last b1 (by omega), Option.bind_some, h45, h58, hm, hm, dec_nat _ s1 (by omega), Option.bind_some, hm, hm]
          simp only [mkB_size]
          rw [if_pos (by omega), if_pos (by simp; omega), if_pos (by simp; omega), if_pos (by simp; omega), if_pos (by rw [hlo]; omega), if_pos (by omega), if_pos (by omega), Int.toNat_natCast]
          have et : dec x ++ (([45] ++ dec last ++ [58]) ++ dec (stepOf (x :: r))) = dec x ++ 45 :: (dec last ++ 58 :: dec (stepOf (x :: r))) := by simp
          rw [et]
          exact h2
        · rw [if_neg c2]
          obtain ⟨K, hK⟩ := ih r (out ++ [dec x]) (by simp at hl; omega) (hg.drop 1) (by simp at ho ⊢; omega) (by
            intro y hy
            rcases List.mem_append.1 hy with hy | hy
            · exact hx y hy
            · rw [List.mem_singleton.1 hy]; omega)
          dsimp only at hK
          refine Ev.shift ⟨K + K1, fun k hk => ?_⟩
          have h2 := hK k (by omega)
          rw [happ, List.append_assoc] at h2
          simp only [array_Format.l0]
          rw [if_pos hlen0, if_pos hlen0, e0, dec_nat x hxx.1 (by omega), Option.bind_some, h1 k (by omega), Option.bind_some]
          dsimp only
          rw [if_neg c1, if_neg (by omega), if_pos (by rw [hlo]; omega), if_pos (by omega)]
          exact h2
end Go.Proofs.YtnfpchpnephheaaDoor.Ar
end
section
namespace Go.Proofs.YtnfpchpnephheaaDoor.Ar
open Go.RowKit Go.Proofs.YtnfpchpnephheaaDoor.Lib Go.Proofs.YtnfpchpnephheaaDoor.PA Go.Proofs.YtnfpchpnephheaaDoor.Txt Go.Proofs.YtnfpchpnephheaaDoor.Num Go.Proofs.YtnfpchpnephheaaDoor.Hn Go.Proofs.YtnfpchpnephheaaDoorW.PrintWords Go.Proofs.YtnfpchpnephheaaDoorW.PrintLast Go.Proofs.YtnfpchpnephheaaDoorW.PrintMore
set_option linter.unusedVariables false
set_option linter.unusedSimpArgs false
theorem dec_ne (n : Int) : dec n ≠ [] := by
  intro h
  unfold dec at h
  rw [Go.Lib.decDigits] at h
  split at h <;> simp at h
def fmtOf (l : List Int) (lim : Int) : ByteArray × Int := if rightB l lim = true then (mkB (textOf l lim), 0) else (⟨#[]⟩, 3)
theorem right_good {l : List Int} {lim : Int} (h : rightB l lim = true) : Good l ∧ l.length ≤ 256 ∧ 0 ≤ lim ∧ lim ≤ 999999 := by
  unfold rightB at h
  simp only [Bool.and_eq_true, decide_eq_true_eq] at h
  obtain ⟨⟨⟨⟨_, h1⟩, h2⟩, h3⟩, h4⟩ := h
  exact ⟨(incr_good l (-1) (by omega) h4).1, h1, h2, h3⟩
theorem format_ev (l : List Int) (lim : Int) : Ev (fun k => array_Format.f k l lim) (fmtOf l lim) := by
  obtain ⟨K1, hK1⟩ := right_ev l lim
  dsimp only at hK1
  unfold fmtOf
  cases hb : rightB l lim with
  | false =>
    refine ⟨K1, fun k hk => ?_⟩
    simp only [array_Format.f]
    rw [hK1 k hk, hb]
    rfl
  | true =>
    obtain ⟨hg, h1, h2, h3⟩ := right_good hb
    obtain ⟨K, hK⟩ := form_l0 l lim ⟨h2, h3⟩ l.length l [] (Nat.le_refl _) hg (by simp; omega) (by simp)
    dsimp only at hK
    refine ⟨K + K1, fun k hk => ?_⟩
    simp only [array_Format.f]
    rw [hK1 k (by omega), hb]
    exact hK k (by omega)
end Go.Proofs.YtnfpchpnephheaaDoor.Ar
end
section
namespace Go.Proofs.YtnfpchpnephheaaDoor.PA
open Go.RowKit Go.Proofs.YtnfpchpnephheaaDoor.Lib Go.Proofs.YtnfpchpnephheaaDoorW.PrintWords Go.Proofs.YtnfpchpnephheaaDoorW.PrintLast Go.Proofs.YtnfpchpnephheaaDoorW.PrintMore
attribute [local go_sem] max2_int min2_int max_two min_two max_three min_three max_four min_four   
set_option linter.unusedVariables false
set_option linter.unusedSimpArgs false
theorem eqA36 (d : Nat) (w : World) (x0 y0 : Int) (x1 y1 : Int) :
  (Op.equalIn (d + 2) 36 (.agg #[.int .i64 x0,.int .i64 x1]) (.agg #[.int .i64 y0,.int .i64 y1])).run Tryd.prog w = .ok (x0 == y0 && (x1 == y1)) w:=by
 (refine eqA_of Tryd.underlying36 (by kernel_rfl) ?_);(refine eqf_cons (by rfl) (by go_simp;rfl) (by go_simp;rfl) (by go_simp) ?_);(exact eqf_last (by rfl) (by go_simp;rfl) (by go_simp;rfl) (by go_simp))
end Go.Proofs.YtnfpchpnephheaaDoor.PA
end
