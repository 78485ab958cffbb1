/- Part 12 of the proof of HostBackCardSaid. -/
import Derived.Test.YtoammgpfbdcphaaDoorZ03
import Derived.Test.YtoammgpfbdcphaaDoorZ10
import Derived.Test.YtoammgpfbdcphaaDoorZ11
section
namespace Go.Proofs.YtoammgpfbdcphaaDoor.PH
open Go.RowKit Go.Proofs.YtoammgpfbdcphaaDoor.Lib Go.Proofs.YtoammgpfbdcphaaDoorW.PrintWords Go.Proofs.YtoammgpfbdcphaaDoorW.PrintLast Go.Proofs.YtoammgpfbdcphaaDoorW.PrintMore
attribute [local go_sem] max2_int min2_int max_two min_two max_three min_three max_four min_four   
set_option linter.unusedVariables false
set_option linter.unusedSimpArgs false
mutual
def marlinspikeref05_Expand.l0 : Nat → ByteArray → List ByteArray → ByteArray → Int → Int → Int → Option (List ByteArray × Int × Int)
 | 0, _, _, _, _, _, _ => none
 | k + 1, x0, x5, x327000, x327001, x327002, x327003 => marlinspikeref05_Expand.l1 k x0 x5 x327001 x327000 x327001 x327002 x327003
def marlinspikeref05_Expand.l1 : Nat → ByteArray → List ByteArray → Int → ByteArray → Int → Int → Int → Option (List ByteArray × Int × Int)
 | 0, _, _, _, _, _, _, _ => none
 | k + 1, x0, x5, x6, x327000, x327001, x327002, x327003 => (marlinspikeref05_reader_peek.f x327000 x327001 x327002 x327003).bind fun bt327 => ((marlinspikeref05_bare.f bt327.1).bind fun t332 => (if t332 = true then (marlinspikeref05_Expand.l1 k x0 x5 x6 bt327.2.1 (wrap64 (bt327.2.2.1 + 1)) bt327.2.2.2.1 bt327.2.2.2.2) else (if bt327.2.2.1 = x6 then ((marlinspikeref05_reader_wrong.f bt327.2.1 bt327.2.2.1 bt327.2.2.2.1 bt327.2.2.2.2 bt327.2.2.1).bind fun bt333 => (some (([] : List ByteArray), bt333.2.2.1, bt333.2.2.2))) else (if 0 ≤ x6 then (if x6 ≤ bt327.2.2.1 then (if bt327.2.2.1 ≤ (x0.size : Int) then ((marlinspikeref05_reader_peek.f bt327.2.1 bt327.2.2.1 bt327.2.2.2.1 bt327.2.2.2.2).bind fun bt340 => (if bt340.1 = 91 then ((marlinspikeref05_reader_ranges.f k bt340.2.1 (wrap64 (bt340.2.2.1 + 1)) bt340.2.2.2.1 bt340.2.2.2.2).bind fun bt345 => (marlinspikeref05_Expand.j2 k x0 x5 x6 (x0.extract (x6 : Int).toNat (bt327.2.2.1 : Int).toNat) bt345.1 bt345.2.1 bt345.2.2.1 bt345.2.2.2.1 bt345.2.2.2.2)) else (marlinspikeref05_Expand.j2 k x0 x5 x6 (x0.extract (x6 : Int).toNat (bt327.2.2.1 : Int).toNat) (([(⟨#[]⟩ : ByteArray)] : List ByteArray)) bt340.2.1 bt340.2.2.1 bt340.2.2.2.1 bt340.2.2.2.2))) else (none)) else (none)) else (none)))))
def marlinspikeref05_Expand.j2 : Nat → ByteArray → List ByteArray → Int → ByteArray → List ByteArray → ByteArray → Int → Int → Int → Option (List ByteArray × Int × Int)
 | 0, _, _, _, _, _, _, _, _, _ => none
 | k + 1, x0, x5, x6, x7, x8, x327000, x327001, x327002, x327003 => if x327002 = 0 then (if x327001 < (x0.size : Int) then (if 0 ≤ x327001 then (marlinspikeref05_Expand.j3 k x0 x5 x6 x7 x8 ((bt x0 x327001) != 44) x327000 x327001 x327002 x327003) else (none)) else (marlinspikeref05_Expand.j3 k x0 x5 x6 x7 x8 false x327000 x327001 x327002 x327003)) else (marlinspikeref05_Expand.j3 k x0 x5 x6 x7 x8 false x327000 x327001 x327002 x327003)
def marlinspikeref05_Expand.j3 : Nat → ByteArray → List ByteArray → Int → ByteArray → List ByteArray → Bool → ByteArray → Int → Int → Int → Option (List ByteArray × Int × Int)
 | 0, _, _, _, _, _, _, _, _, _, _ => none
 | k + 1, x0, x5, x6, x7, x8, x62, x327000, x327001, x327002, x327003 => if x62 = true then ((marlinspikeref05_reader_wrong.f x327000 x327001 x327002 x327003 x327001).bind fun bt352 => (marlinspikeref05_Expand.j4 k x0 x5 x6 x7 x8 bt352.1 bt352.2.1 bt352.2.2.1 bt352.2.2.2)) else (marlinspikeref05_Expand.j4 k x0 x5 x6 x7 x8 x327000 x327001 x327002 x327003)
def marlinspikeref05_Expand.j4 : Nat → ByteArray → List ByteArray → Int → ByteArray → List ByteArray → ByteArray → Int → Int → Int → Option (List ByteArray × Int × Int)
 | 0, _, _, _, _, _, _, _, _, _ => none
 | k + 1, x0, x5, x6, x7, x8, x327000, x327001, x327002, x327003 => if x327002 = 0 then (if (wrap64 ((x5.length : Int) + (x8.length : Int))) > 256 then (some (([] : List ByteArray), 5, x6)) else (marlinspikeref05_Expand.l2 k x0 x5 x7 x8 0 x327000 x327001 x327002 x327003)) else (some (([] : List ByteArray), x327002, x327003))
def marlinspikeref05_Expand.l2 : Nat → ByteArray → List ByteArray → ByteArray → List ByteArray → Int → ByteArray → Int → Int → Int → Option (List ByteArray × Int × Int)
 | 0, _, _, _, _, _, _, _, _, _ => none
 | k + 1, x0, x5, x7, x8, x9, x327000, x327001, x327002, x327003 => if x9 < (x8.length : Int) then (if 0 ≤ x9 then (if x7.size + (rdOf ByteArray.empty x8 x9).size ≤ 9223372036854775807 then (if x5.length < 8796093022208 then (marlinspikeref05_Expand.l2 k x0 (x5 ++ [x7 ++ (rdOf ByteArray.empty x8 x9)]) x7 x8 (wrap64 (x9 + 1)) x327000 x327001 x327002 x327003) else (none)) else (none)) else (none)) else (if x327001 = (x0.size : Int) then (some (x5, 0, 0)) else (marlinspikeref05_Expand.l0 k x0 x5 x327000 (wrap64 (x327001 + 1)) x327002 x327003))
end
def marlinspikeref05_Expand.f (k : Nat) (a0 : ByteArray) : Option (List ByteArray × Int × Int) := if a0.toList = ([] : List UInt8) then (some (([] : List ByteArray), 0, 0)) else (marlinspikeref05_Expand.l0 k a0 ([] : List ByteArray) a0 0 0 0)
theorem marlinspikeref05_Expand.mono_l : ∀ k,(∀ y0 y1 y2 y3 y4 y5,LeO (marlinspikeref05_Expand.l0 k y0 y1 y2 y3 y4 y5) (marlinspikeref05_Expand.l0 (k + 1) y0 y1 y2 y3 y4 y5))∧(∀ y0 y1 y2 y3 y4 y5 y6,LeO (marlinspikeref05_Expand.l1 k y0 y1 y2 y3 y4 y5 y6) (marlinspikeref05_Expand.l1 (k + 1) y0 y1 y2 y3 y4 y5 y6))∧(∀ y0 y1 y2 y3 y4 y5 y6 y7 y8,LeO (marlinspikeref05_Expand.j2 k y0 y1 y2 y3 y4 y5 y6 y7 y8) (marlinspikeref05_Expand.j2 (k + 1) y0 y1 y2 y3 y4 y5 y6 y7 y8))∧(∀ y0 y1 y2 y3 y4 y5 y6 y7 y8 y9,LeO (marlinspikeref05_Expand.j3 k y0 y1 y2 y3 y4 y5 y6 y7 y8 y9) (marlinspikeref05_Expand.j3 (k + 1) y0 y1 y2 y3 y4 y5 y6 y7 y8 y9))∧(∀ y0 y1 y2 y3 y4 y5 y6 y7 y8,LeO (marlinspikeref05_Expand.j4 k y0 y1 y2 y3 y4 y5 y6 y7 y8) (marlinspikeref05_Expand.j4 (k + 1) y0 y1 y2 y3 y4 y5 y6 y7 y8))∧(∀ y0 y1 y2 y3 y4 y5 y6 y7 y8,LeO (marlinspikeref05_Expand.l2 k y0 y1 y2 y3 y4 y5 y6 y7 y8) (marlinspikeref05_Expand.l2 (k + 1) y0 y1 y2 y3 y4 y5 y6 y7 y8))
|0 => ⟨fun _ _ _ _ _ _ r h => by simp [marlinspikeref05_Expand.l0] at h,fun _ _ _ _ _ _ _ r h => by simp [marlinspikeref05_Expand.l1] at h,fun _ _ _ _ _ _ _ _ _ r h => by simp [marlinspikeref05_Expand.j2] at h,fun _ _ _ _ _ _ _ _ _ _ r h => by simp [marlinspikeref05_Expand.j3] at h,fun _ _ _ _ _ _ _ _ _ r h => by simp [marlinspikeref05_Expand.j4] at h,fun _ _ _ _ _ _ _ _ _ r h => by simp [marlinspikeref05_Expand.l2] at h⟩
|k + 1 => by
  obtain ⟨ih0,ih1,ih2,ih3,ih4,ih5⟩:=marlinspikeref05_Expand.mono_l k
  refine ⟨?_,?_,?_,?_,?_,?_⟩
  ·intro y0 y1 y2 y3 y4 y5
   unfold marlinspikeref05_Expand.l0
   repeat' first
  |(with_reducible exact ih0 _ _ _ _ _ _)
  |(with_reducible exact ih1 _ _ _ _ _ _ _)
  |(with_reducible exact ih2 _ _ _ _ _ _ _ _ _)
  |(with_reducible exact ih3 _ _ _ _ _ _ _ _ _ _)
  |(with_reducible exact ih4 _ _ _ _ _ _ _ _ _)
  |(with_reducible exact ih5 _ _ _ _ _ _ _ _ _)
  |(with_reducible exact marlinspikeref05_reader_ranges.mono _ _ _ _ _)
  |(with_reducible exact LeO.refl _)
  |(with_reducible exact LeO.none _)
  |(with_reducible refine LeO.ite ?_ ?_)
  |(with_reducible refine LeO.bind ?_ (fun _ => ?_))
  |exact ih0 _ _ _ _ _ _
  |exact ih1 _ _ _ _ _ _ _
  |exact ih2 _ _ _ _ _ _ _ _ _
  |exact ih3 _ _ _ _ _ _ _ _ _ _
  |exact ih4 _ _ _ _ _ _ _ _ _
  |exact ih5 _ _ _ _ _ _ _ _ _
  |exact marlinspikeref05_reader_ranges.mono _ _ _ _ _
  |exact LeO.none _
  |refine LeO.ite ?_ ?_
  |refine LeO.bind ?_ (fun _ => ?_)
  ·intro y0 y1 y2 y3 y4 y5 y6
   unfold marlinspikeref05_Expand.l1
   repeat' first
  |(with_reducible exact ih0 _ _ _ _ _ _)
  |(with_reducible exact ih1 _ _ _ _ _ _ _)
  |(with_reducible exact ih2 _ _ _ _ _ _ _ _ _)
  |(with_reducible exact ih3 _ _ _ _ _ _ _ _ _ _)
  |(with_reducible exact ih4 _ _ _ _ _ _ _ _ _)
  |(with_reducible exact ih5 _ _ _ _ _ _ _ _ _)
  |(with_reducible exact marlinspikeref05_reader_ranges.mono _ _ _ _ _)
  |(with_reducible exact LeO.refl _)
  |(with_reducible exact LeO.none _)
  |(with_reducible refine LeO.ite ?_ ?_)
  |(with_reducible refine LeO.bind ?_ (fun _ => ?_))
  |exact ih0 _ _ _ _ _ _
  |exact ih1 _ _ _ _ _ _ _
  |exact ih2 _ _ _ _ _ _ _ _ _
  |exact ih3 _ _ _ _ _ _ _ _ _ _
  |exact ih4 _ _ _ _ _ _ _ _ _
  |exact ih5 _ _ _ _ _ _ _ _ _
  |exact marlinspikeref05_reader_ranges.mono _ _ _ _ _
  |exact LeO.none _
  |refine LeO.ite ?_ ?_
  |refine LeO.bind ?_ (fun _ => ?_)
  ·intro y0 y1 y2 y3 y4 y5 y6 y7 y8
   unfold marlinspikeref05_Expand.j2
   repeat' first
  |(with_reducible exact ih0 _ _ _ _ _ _)
  |(with_reducible exact ih1 _ _ _ _ _ _ _)
  |(with_reducible exact ih2 _ _ _ _ _ _ _ _ _)
  |(with_reducible exact ih3 _ _ _ _ _ _ _ _ _ _)
  |(with_reducible exact ih4 _ _ _ _ _ _ _ _ _)
  |(with_reducible exact ih5 _ _ _ _ _ _ _ _ _)
  |(with_reducible exact marlinspikeref05_reader_ranges.mono _ _ _ _ _)
  |(with_reducible exact LeO.refl _)
  |(with_reducible exact LeO.none _)
  |(with_reducible refine LeO.ite ?_ ?_)
  |(with_reducible refine LeO.bind ?_ (fun _ => ?_))
  |exact ih0 _ _ _ _ _ _
  |exact ih1 _ _ _ _ _ _ _
  |exact ih2 _ _ _ _ _ _ _ _ _
  |exact ih3 _ _ _ _ _ _ _ _ _ _
  |exact ih4 _ _ _ _ _ _ _ _ _
  |exact ih5 _ _ _ _ _ _ _ _ _
  |exact marlinspikeref05_reader_ranges.mono _ _ _ _ _
  |exact LeO.none _
  |refine LeO.ite ?_ ?_
  |refine LeO.bind ?_ (fun _ => ?_)
  ·intro y0 y1 y2 y3 y4 y5 y6 y7 y8 y9
   unfold marlinspikeref05_Expand.j3
   repeat' first
  |(with_reducible exact ih0 _ _ _ _ _ _)
  |(with_reducible exact ih1 _ _ _ _ _ _ _)
  |(with_reducible exact ih2 _ _ _ _ _ _ _ _ _)
  |(with_reducible exact ih3 _ _ _ _ _ _ _ _ _ _)
  |(with_reducible exact ih4 _ _ _ _ _ _ _ _ _)
  |(with_reducible exact ih5 _ _ _ _ _ _ _ _ _)
  |(with_reducible exact marlinspikeref05_reader_ranges.mono _ _ _ _ _)
  |(with_reducible exact LeO.refl _)
  |(with_reducible exact LeO.none _)
  |(with_reducible refine LeO.ite ?_ ?_)
  |(with_reducible refine LeO.bind ?_ (fun _ => ?_))
  |exact ih0 _ _ _ _ _ _
  |exact ih1 _ _ _ _ _ _ _
  |exact ih2 _ _ _ _ _ _ _ _ _
  |exact ih3 _ _ _ _ _ _ _ _ _ _
  |exact ih4 _ _ _ _ _ _ _ _ _
  |exact ih5 _ _ _ _ _ _ _ _ _
  |exact marlinspikeref05_reader_ranges.mono _ _ _ _ _
  |exact LeO.none _
  |refine LeO.ite ?_ ?_
  |refine LeO.bind ?_ (fun _ => ?_)
  ·intro y0 y1 y2 y3 y4 y5 y6 y7 y8
   unfold marlinspikeref05_Expand.j4
   repeat' first
  |(with_reducible exact ih0 _ _ _ _ _ _)
  |(with_reducible exact ih1 _ _ _ _ _ _ _)
  |(with_reducible exact ih2 _ _ _ _ _ _ _ _ _)
  |(with_reducible exact ih3 _ _ _ _ _ _ _ _ _ _)
  |(with_reducible exact ih4 _ _ _ _ _ _ _ _ _)
  |(with_reducible exact ih5 _ _ _ _ _ _ _ _ _)
  |(with_reducible exact marlinspikeref05_reader_ranges.mono _ _ _ _ _)
  |(with_reducible exact LeO.refl _)
  |(with_reducible exact LeO.none _)
  |(with_reducible refine LeO.ite ?_ ?_)
  |(with_reducible refine LeO.bind ?_ (fun _ => ?_))
  |exact ih0 _ _ _ _ _ _
  |exact ih1 _ _ _ _ _ _ _
  |exact ih2 _ _ _ _ _ _ _ _ _
  |exact ih3 _ _ _ _ _ _ _ _ _ _
  |exact ih4 _ _ _ _ _ _ _ _ _
  |exact ih5 _ _ _ _ _ _ _ _ _
  |exact marlinspikeref05_reader_ranges.mono _ _ _ _ _
  |exact LeO.none _
  |refine LeO.ite ?_ ?_
  |refine LeO.bind ?_ (fun _ => ?_)
  ·intro y0 y1 y2 y3 y4 y5 y6 y7 y8
   unfold marlinspikeref05_Expand.l2
   repeat' first
  |(with_reducible exact ih0 _ _ _ _ _ _)
  |(with_reducible exact ih1 _ _ _ _ _ _ _)
  |(with_reducible exact ih2 _ _ _ _ _ _ _ _ _)
  |(with_reducible exact ih3 _ _ _ _ _ _ _ _ _ _)
  |(with_reducible exact ih4 _ _ _ _ _ _ _ _ _)
  |(with_reducible exact ih5 _ _ _ _ _ _ _ _ _)
  |(with_reducible exact marlinspikeref05_reader_ranges.mono _ _ _ _ _)
  |(with_reducible exact LeO.refl _)
  |(with_reducible exact LeO.none _)
  |(with_reducible refine LeO.ite ?_ ?_)
  |(with_reducible refine LeO.bind ?_ (fun _ => ?_))
  |exact ih0 _ _ _ _ _ _
  |exact ih1 _ _ _ _ _ _ _
  |exact ih2 _ _ _ _ _ _ _ _ _
  |exact ih3 _ _ _ _ _ _ _ _ _ _
  |exact ih4 _ _ _ _ _ _ _ _ _
  |exact ih5 _ _ _ _ _ _ _ _ _
  |exact marlinspikeref05_reader_ranges.mono _ _ _ _ _
  |exact LeO.none _
  |refine LeO.ite ?_ ?_
  |refine LeO.bind ?_ (fun _ => ?_)
theorem marlinspikeref05_Expand.mono : ∀ a0 k,LeO (marlinspikeref05_Expand.f k a0) (marlinspikeref05_Expand.f (k + 1) a0):=by
 (intro a0 k);(obtain ⟨ih0,ih1,ih2,ih3,ih4,ih5⟩:=marlinspikeref05_Expand.mono_l k);(unfold marlinspikeref05_Expand.f)
 repeat' first
  |(with_reducible exact ih0 _ _ _ _ _ _)
  |(with_reducible exact ih1 _ _ _ _ _ _ _)
  |(with_reducible exact ih2 _ _ _ _ _ _ _ _ _)
  |(with_reducible exact ih3 _ _ _ _ _ _ _ _ _ _)
  |(with_reducible exact ih4 _ _ _ _ _ _ _ _ _)
  |(with_reducible exact ih5 _ _ _ _ _ _ _ _ _)
  |(with_reducible exact marlinspikeref05_reader_ranges.mono _ _ _ _ _)
  |(with_reducible exact LeO.refl _)
  |(with_reducible exact LeO.none _)
  |(with_reducible refine LeO.ite ?_ ?_)
  |(with_reducible refine LeO.bind ?_ (fun _ => ?_))
  |exact ih0 _ _ _ _ _ _
  |exact ih1 _ _ _ _ _ _ _
  |exact ih2 _ _ _ _ _ _ _ _ _
  |exact ih3 _ _ _ _ _ _ _ _ _ _
  |exact ih4 _ _ _ _ _ _ _ _ _
  |exact ih5 _ _ _ _ _ _ _ _ _
  |exact marlinspikeref05_reader_ranges.mono _ _ _ _ _
  |exact LeO.none _
  |refine LeO.ite ?_ ?_
  |refine LeO.bind ?_ (fun _ => ?_)
set_option maxHeartbeats 8000000 in
set_option maxRecDepth 100000 in
theorem marlinspikeref05_Expand.calls (k : Nat) (a0 : ByteArray) (r1 : List ByteArray) (r2 : Int) (r3 : Int) (w : World) (h : marlinspikeref05_Expand.f k a0 = some (r1,r2,r3)) :
  Calls Tryd.prog 10 #[.string a0] w fun e w' => ∃ v0_ : Value,e = .returned (.tuple #[v0_,.agg #[.int .i64 r2,.int .i64 r3]])∧Kd.R Kd.string 9 w' w.heap.size (fun _ => True) v0_ r1∧Below w.heap.size w w':=by
 (have hu27:=Tryd.underlying27);(have hu42:=Tryd.underlying42);(have HB:=Aside0.mk (Below.refl w.heap.size w));(have H : (if a0.toList = ([] : List UInt8) then (some (([] : List ByteArray),0,0)) else (marlinspikeref05_Expand.l0 k a0 ([] : List ByteArray) a0 0 0 0)) = some (r1,r2,r3):=h);(clear h);(by_cases c2 : a0.toList = ([] : List UInt8));·(rw [if_pos c2] at H);(have c2b0 : (a0.toList == ([] : List UInt8)) = true:=beq_iff_eq.mpr c2);(have c2b1 : (a0.toList != ([] : List UInt8)) = false:=bne_eq_false_iff_eq.mpr c2);(clear c2);(simp only [Option.some.injEq,Prod.mk.injEq] at H);(obtain ⟨rfl,rfl,rfl⟩:=H);(go_enter Tryd.func10,Tryd.ntmps10);(go_wp2_with (first|((with_reducible refine gate_dst (N:=3) rfl ?_);(try (refine gate_guard (by rfl) ?_;dsimp only));refine box_event ?hg (N:=3) ?hd (cs:=#[.int .i64 0,.int .i64 0]) (t:=27) ?hr ?_;(case hd => rfl);(case hg => rfl);(case hr => first|(go_simp;done)|(go_simp;rfl));intro gb325 hg w3 hbox hb;have n0_:=Aside0.mk (below_step (by repeat (first|(with_reducible first|exact HB.out|apply below_alloc|apply pw_below_drewN|apply below_drew1)|exact HB.out)) hb);have n1_:=Aside0.mk (hbox);have n2_:=Aside0.mk ((by rw [hg];exact (below_size (by repeat (first|(with_reducible first|exact HB.out|apply below_alloc|apply pw_below_drewN|apply below_drew1)|exact HB.out))) : w.heap.size ≤ gb325));have n3_:=Aside0.mk ((by rw [hg];exact (below_size (by repeat (first|(with_reducible first|exact HB.out|apply below_alloc|apply pw_below_drewN|apply below_drew1)|exact HB.out))) : w.heap.size ≤ gb325));clear HB;have HB:=n0_;have BK325:=n1_;have GW325:=n2_;have GE325:=n3_;clear n0_ n1_ n2_ n3_;clear hb hbox hg;have hcz4_0 : w3.cell? ⟨gb325,0,none⟩ = some (.int .i64 0):=(blk_cell BK325.out 0).trans rfl;have hcz4_1 : w3.cell? ⟨gb325,1,none⟩ = some (.int .i64 0):=(blk_cell BK325.out 1).trans rfl;have hfz4_0:=blk_frozen BK325.out 0;have hfz4_1:=blk_frozen BK325.out 1)));(refine bodyPost_ret (results_tc rfl _ _ gb325 27 #[.int .i64 0,.int .i64 0] (0,0) _ rfl (by (with_reducible repeat (first|refine blk_drewN ?_ _|refine blk_drew ?_|refine blk_alloc ?_ _));refine blk_put (cs:=#[.int .i64 0,.int .i64 0]) ?_ 1 _ rfl;(with_reducible repeat (first|refine blk_drewN ?_ _|refine blk_drew ?_|refine blk_alloc ?_ _));refine blk_put (cs:=#[.int .i64 0,.int .i64 0]) ?_ 0 _ rfl;(with_reducible repeat (first|refine blk_drewN ?_ _|refine blk_drew ?_|refine blk_alloc ?_ _));exact BK325.out) Tryd.underlying27 rfl (by kernel_rfl)) rfl ?_);(exact ⟨_,by first|rfl|(simp [errW_none,errW_some] <;> rfl)|(simp [*,errW_none,errW_some] <;> rfl),by first|exact Kd.R_nil _ _ _ _ _|exact Kd.N_nil _ _ _ _ _|exact Kd.V_nil _ _ _ _ _|exact Kd.Q_nil _ _ _ _ _|exact Kd.S_nil _ _ _ _ _,by repeat (first|(with_reducible first|exact HB.out|apply below_alloc|apply pw_below_drewN|apply below_drew1|refine below_set ?_ GE325.out)|exact HB.out)⟩)
 ·(rw [if_neg c2] at H);(have c2b0 : (a0.toList == ([] : List UInt8)) = false:=beq_eq_false_iff_ne.mpr c2);(have c2b1 : (a0.toList != ([] : List UInt8)) = true:=bne_iff_ne.mpr c2);(have H':=Aside0.mk H);(clear H);(go_enter Tryd.func10,Tryd.ntmps10);(go_wp2_with (first|((with_reducible refine gate_dst (N:=3) rfl ?_);(try (refine gate_guard (by rfl) ?_;dsimp only));refine box_event ?hg (N:=3) ?hd (cs:=#[.int .i64 0,.int .i64 0]) (t:=27) ?hr ?_;(case hd => rfl);(case hg => rfl);(case hr => first|(go_simp;done)|(go_simp;rfl));intro gb325 hg w5 hbox hb;have n0_:=Aside0.mk (below_step (by repeat (first|(with_reducible first|exact HB.out|apply below_alloc|apply pw_below_drewN|apply below_drew1)|exact HB.out)) hb);have n1_:=Aside0.mk (hbox);have n2_:=Aside0.mk ((by rw [hg];exact (below_size (by repeat (first|(with_reducible first|exact HB.out|apply below_alloc|apply pw_below_drewN|apply below_drew1)|exact HB.out))) : w.heap.size ≤ gb325));have n3_:=Aside0.mk ((by rw [hg];exact (below_size (by repeat (first|(with_reducible first|exact HB.out|apply below_alloc|apply pw_below_drewN|apply below_drew1)|exact HB.out))) : w.heap.size ≤ gb325));clear HB;have HB:=n0_;have BK325:=n1_;have GW325:=n2_;have GE325:=n3_;clear n0_ n1_ n2_ n3_;clear hb hbox hg)|((with_reducible refine gate_dst (N:=4) rfl ?_);(try (refine gate_guard (by rfl) ?_;dsimp only));refine box_event ?hg (N:=4) ?hd (cs:=#[.string (⟨#[]⟩ : ByteArray),.int .i64 0,.int .i64 0,.int .i64 0]) (t:=42) ?hr ?_;(case hd => rfl);(case hg => rfl);(case hr => first|(go_simp;done)|(go_simp;rfl));intro gb326 hg w6 hbox hb;have n0_:=Aside0.mk (blk_below (g:=gb325) (o:=.cells #[.int .i64 0,.int .i64 0] 27 (0,0)) (by (with_reducible repeat (first|refine blk_drewN ?_ _|refine blk_drew ?_|refine blk_alloc ?_ _));exact BK325.out) hb);have n1_:=Aside0.mk (below_step (by repeat (first|(with_reducible first|exact HB.out|apply below_alloc|apply pw_below_drewN|apply below_drew1|refine below_set ?_ GE325.out)|exact HB.out)) hb);have n2_:=Aside0.mk ((show IsS42 w _ gb326 (⟨#[]⟩ : ByteArray) 0 0 0 from ⟨hbox,(by rw [hg];exact (below_size (by repeat (first|(with_reducible first|exact HB.out|apply below_alloc|apply pw_below_drewN|apply below_drew1|refine below_set ?_ GE325.out)|exact HB.out))) : w.heap.size ≤ gb326)⟩));have n3_:=Aside0.mk ((by rw [hg];exact (below_size (by repeat (first|(with_reducible first|exact HB.out|apply below_alloc|apply pw_below_drewN|apply below_drew1|refine below_set ?_ GE325.out)|exact HB.out))) : w.heap.size ≤ gb326));have n4_:=Aside0.mk ((by rw [hg];exact (below_size (by repeat (first|(with_reducible first|exact HB.out|apply below_alloc|apply pw_below_drewN|apply below_drew1|refine below_set ?_ GE325.out)|exact HB.out))) : w.heap.size ≤ gb326));have n5_:=Aside0.mk ((by rw [hg];exact Nat.ne_of_lt (blk_lt (g:=gb325) (o:=.cells #[.int .i64 0,.int .i64 0] 27 (0,0)) (by (with_reducible repeat (first|refine blk_drewN ?_ _|refine blk_drew ?_|refine blk_alloc ?_ _));exact BK325.out)) : gb325 ≠ gb326));have n6_:=Aside0.mk ((by rw [hg];exact Nat.ne_of_gt (blk_lt (g:=gb325) (o:=.cells #[.int .i64 0,.int .i64 0] 27 (0,0)) (by (with_reducible repeat (first|refine blk_drewN ?_ _|refine blk_drew ?_|refine blk_alloc ?_ _));exact BK325.out)) : gb326 ≠ gb325));clear BK325;clear HB;have BK325:=n0_;have HB:=n1_;have HI326:=n2_;have GW326:=n3_;have GE326:=n4_;have NB325_326:=n5_;have NB326_325:=n6_;clear n0_ n1_ n2_ n3_ n4_ n5_ n6_;clear hb hbox hg;obtain ⟨HGz7,hgz7⟩:=HI326.out;have hcz7_0:=cellS42_0 HGz7;have hcz7_1:=cellS42_1 HGz7;have hcz7_2:=cellS42_2 HGz7;have hcz7_3:=cellS42_3 HGz7;have hfz7_0:=blk_frozen HGz7 0;have hfz7_1:=blk_frozen HGz7 1;have hfz7_2:=blk_frozen HGz7 2;have hfz7_3:=blk_frozen HGz7 3;clear HGz7 hgz7)));(go_loopg [5] k (fun kq v5 w' => ∃ (x5_1 : List ByteArray) (x326000_1 : Int) (x326001_1 : Int) (x327000_1 : ByteArray) (x327001_1 : Int) (x327002_1 : Int) (x327003_1 : Int),Aside0 (marlinspikeref05_Expand.l0 kq a0 x5_1 x327000_1 x327001_1 x327002_1 x327003_1 = some (r1,r2,r3))∧Aside0 (kq ≤ k)∧Aside0 (Kd.R Kd.string 9 w' w.heap.size (fun _ => True) v5 x5_1)∧Aside0 (w'.heap[gb325]? = some (.cells #[.int .i64 x326000_1,.int .i64 x326001_1] 27 (0,0)))∧Aside0 (IsS42 w w' gb326 x327000_1 x327001_1 x327002_1 x327003_1)∧Aside0 (Below w.heap.size w w')))
  case atStart => exact ⟨(([] : List ByteArray)),(0),(0),(a0),(0),(0),(0),H',⟨Nat.le_refl _⟩,⟨by first|exact Kd.R_nil _ _ _ _ _|exact Kd.N_nil _ _ _ _ _|exact Kd.V_nil _ _ _ _ _|exact Kd.Q_nil _ _ _ _ _|exact Kd.S_nil _ _ _ _ _⟩,⟨by (with_reducible repeat (first|refine blk_drewN ?_ _|refine blk_drew ?_|refine blk_alloc ?_ _));refine blk_far ?_ NB325_326.out _;(with_reducible repeat (first|refine blk_drewN ?_ _|refine blk_drew ?_|refine blk_alloc ?_ _));refine blk_far ?_ NB325_326.out _;(with_reducible repeat (first|refine blk_drewN ?_ _|refine blk_drew ?_|refine blk_alloc ?_ _));refine blk_far ?_ NB325_326.out _;(with_reducible repeat (first|refine blk_drewN ?_ _|refine blk_drew ?_|refine blk_alloc ?_ _));refine blk_far ?_ NB325_326.out _;(with_reducible repeat (first|refine blk_drewN ?_ _|refine blk_drew ?_|refine blk_alloc ?_ _));exact BK325.out⟩,⟨by repeat (first|(with_reducible first|exact HI326.out|apply IsS42.alloc|apply IsS42.drewN|apply IsS42.drew|apply IsS42.set_0|apply IsS42.set_1|apply IsS42.set_2|apply IsS42.set_3|(apply IsS42.far;(case hne => exact NB326_325.out)))|exact HI326.out)⟩,⟨by repeat (first|(with_reducible first|exact HB.out|apply below_alloc|apply pw_below_drewN|apply below_drew1|refine below_set ?_ (IsS42.ge HI326.out)|refine below_set ?_ GE325.out)|exact HB.out)⟩⟩
  case round =>
   (clear H');(try clear c1);(try clear c2);(try clear c2b0);(try clear c2b1);(try clear p2);(try clear hcz4_0);(try clear hcz4_1);(try clear hcz7_0);(try clear hcz7_1);(try clear hcz7_2);(try clear hcz7_3);(try clear hfz4_0);(try clear hfz4_1);(try clear hfz7_0);(try clear hfz7_1);(try clear hfz7_2);(try clear hfz7_3);(obtain ⟨x5_1,x326000_1,x326001_1,x327000_1,x327001_1,x327002_1,x327003_1,HA,HK1,HO_5,BK325,HI326,HB⟩:=hrel)
   cases gk with
  |zero => exact absurd HA.out (by simp [marlinspikeref05_Expand.l0])
  |succ k1 =>
    (have H:=HA.out);(clear HA);(simp only [marlinspikeref05_Expand.l0] at H);(have H':=Aside0.mk H);(clear H);(obtain ⟨HGz8,hgz8⟩:=HI326.out);(have hcz8_0:=cellS42_0 HGz8);(have hcz8_1:=cellS42_1 HGz8);(have hcz8_2:=cellS42_2 HGz8);(have hcz8_3:=cellS42_3 HGz8);(have hfz8_0:=blk_frozen HGz8 0);(have hfz8_1:=blk_frozen HGz8 1);(have hfz8_2:=blk_frozen HGz8 2);(have hfz8_3:=blk_frozen HGz8 3);(clear HGz8 hgz8);(go_wp2);(go_loopg [] k1 (fun kq w' => ∃ (x327000_2 : ByteArray) (x327001_2 : Int) (x327002_2 : Int) (x327003_2 : Int),Aside0 (marlinspikeref05_Expand.l1 kq a0 x5_1 x327001_1 x327000_2 x327001_2 x327002_2 x327003_2 = some (r1,r2,r3))∧Aside0 (kq ≤ k1)∧Aside0 (Kd.R Kd.string 9 w' w.heap.size (fun _ => True) u5 x5_1)∧Aside0 (w'.heap[gb325]? = some (.cells #[.int .i64 x326000_1,.int .i64 x326001_1] 27 (0,0)))∧Aside0 (IsS42 w w' gb326 x327000_2 x327001_2 x327002_2 x327003_2)∧Aside0 (Below w.heap.size w w')))
    case atStart => exact ⟨(x327000_1),(x327001_1),(x327002_1),(x327003_1),H',⟨Nat.le_refl _⟩,⟨by (with_reducible repeat (first|apply Kd.R_alloc|apply Kd.R_drewN|apply Kd.R_drew));exact HO_5.out⟩,⟨by (with_reducible repeat (first|refine blk_drewN ?_ _|refine blk_drew ?_|refine blk_alloc ?_ _));exact BK325.out⟩,⟨by repeat (first|(with_reducible first|exact HI326.out|apply IsS42.alloc|apply IsS42.drewN|apply IsS42.drew|apply IsS42.set_0|apply IsS42.set_1|apply IsS42.set_2|apply IsS42.set_3|(apply IsS42.far;(case hne => exact NB326_325.out)))|exact HI326.out)⟩,⟨by repeat (first|(with_reducible first|exact HB.out|apply below_alloc|apply pw_below_drewN|apply below_drew1|refine below_set ?_ (IsS42.ge HI326.out)|refine below_set ?_ GE325.out)|exact HB.out)⟩⟩
    case round =>
     (clear H');(try clear c1);(try clear c2);(try clear c2b0);(try clear c2b1);(try clear p2);(try clear hcz4_0);(try clear hcz4_1);(try clear hcz7_0);(try clear hcz7_1);(try clear hcz7_2);(try clear hcz7_3);(try clear hcz8_0);(try clear hcz8_1);(try clear hcz8_2);(try clear hcz8_3);(try clear hfz4_0);(try clear hfz4_1);(try clear hfz7_0);(try clear hfz7_1);(try clear hfz7_2);(try clear hfz7_3);(try clear hfz8_0);(try clear hfz8_1);(try clear hfz8_2);(try clear hfz8_3);(try clear p2);(obtain ⟨x327000_2,x327001_2,x327002_2,x327003_2,HA,HK2,HO_5,BK325,HI326,HB⟩:=hrel)
     cases gk with
    |zero => exact absurd HA.out (by simp [marlinspikeref05_Expand.l1])
    |succ k2 =>
      (have H:=HA.out);(clear HA);(simp only [marlinspikeref05_Expand.l1] at H);(replace H:=Option.bind_eq_some_iff.mp H);(obtain ⟨⟨t327,t328,t329,t330,t331⟩,A90,H⟩:=H);(replace H : ((marlinspikeref05_bare.f t327).bind fun t332 => (if t332 = true then (marlinspikeref05_Expand.l1 k2 a0 x5_1 x327001_1 t328 (wrap64 (t329 + 1)) t330 t331) else (if t329 = x327001_1 then ((marlinspikeref05_reader_wrong.f t328 t329 t330 t331 t329).bind fun bt333 => (some (([] : List ByteArray),bt333.2.2.1,bt333.2.2.2))) else (if 0 ≤ x327001_1 then (if x327001_1 ≤ t329 then (if t329 ≤ (a0.size : Int) then ((marlinspikeref05_reader_peek.f t328 t329 t330 t331).bind fun bt340 => (if bt340.1 = 91 then ((marlinspikeref05_reader_ranges.f k2 bt340.2.1 (wrap64 (bt340.2.2.1 + 1)) bt340.2.2.2.1 bt340.2.2.2.2).bind fun bt345 => (marlinspikeref05_Expand.j2 k2 a0 x5_1 x327001_1 (a0.extract (x327001_1 : Int).toNat (t329 : Int).toNat) bt345.1 bt345.2.1 bt345.2.2.1 bt345.2.2.2.1 bt345.2.2.2.2)) else (marlinspikeref05_Expand.j2 k2 a0 x5_1 x327001_1 (a0.extract (x327001_1 : Int).toNat (t329 : Int).toNat) (([(⟨#[]⟩ : ByteArray)] : List ByteArray)) bt340.2.1 bt340.2.2.1 bt340.2.2.2.1 bt340.2.2.2.2))) else (none)) else (none)) else (none))))) = some (r1,r2,r3):=H);(have A9:=Aside0.mk A90);(clear A90);(replace H:=Option.bind_eq_some_iff.mp H);(obtain ⟨t332,A100,H⟩:=H);(replace H : (if t332 = true then (marlinspikeref05_Expand.l1 k2 a0 x5_1 x327001_1 t328 (wrap64 (t329 + 1)) t330 t331) else (if t329 = x327001_1 then ((marlinspikeref05_reader_wrong.f t328 t329 t330 t331 t329).bind fun bt333 => (some (([] : List ByteArray),bt333.2.2.1,bt333.2.2.2))) else (if 0 ≤ x327001_1 then (if x327001_1 ≤ t329 then (if t329 ≤ (a0.size : Int) then ((marlinspikeref05_reader_peek.f t328 t329 t330 t331).bind fun bt340 => (if bt340.1 = 91 then ((marlinspikeref05_reader_ranges.f k2 bt340.2.1 (wrap64 (bt340.2.2.1 + 1)) bt340.2.2.2.1 bt340.2.2.2.2).bind fun bt345 => (marlinspikeref05_Expand.j2 k2 a0 x5_1 x327001_1 (a0.extract (x327001_1 : Int).toNat (t329 : Int).toNat) bt345.1 bt345.2.1 bt345.2.2.1 bt345.2.2.2.1 bt345.2.2.2.2)) else (marlinspikeref05_Expand.j2 k2 a0 x5_1 x327001_1 (a0.extract (x327001_1 : Int).toNat (t329 : Int).toNat) (([(⟨#[]⟩ : ByteArray)] : List ByteArray)) bt340.2.1 bt340.2.2.1 bt340.2.2.2.1 bt340.2.2.2.2))) else (none)) else (none)) else (none)))) = some (r1,r2,r3):=H);(have A10:=Aside0.mk A100);(clear A100);(by_cases c11 : t332 = true)
      ·(subst c11);(have H1 : (marlinspikeref05_Expand.l1 k2 a0 x5_1 x327001_1 t328 (wrap64 (t329 + 1)) t330 t331) = some (r1,r2,r3):=by rw [if_pos rfl] at H;exact H);(clear H);(have H:=H1);(clear H1);(have H':=Aside0.mk H);(clear H);(go_wp2_with (first|((with_reducible refine gate_callee (f:=20) rfl ?_);refine goesL_ (some 17) rfl rfl Tryd.func20 (by kernel_rfl) rfl #[.pointer (some ⟨gb326,0,none⟩)] rfl (by (try simp only [List.map_toArray,List.map_cons,List.map_nil]);first|done|rfl|(simp only [List.length_drop,List.length_take];rfl)) ?_;(with_reducible refine (marlinspikeref05_reader_peek.calls gb326 x327000_2 x327001_2 x327002_2 x327003_2 t327 t328 t329 t330 t331 w _ ?side1 ?side2 A9.out).mono ?_);(case side1 => repeat (first|(with_reducible first|exact HI326.out|apply IsS42.alloc|apply IsS42.drewN|apply IsS42.drew|apply IsS42.set_0|apply IsS42.set_1|apply IsS42.set_2|apply IsS42.set_3|(apply IsS42.far;(case hne => exact NB326_325.out)))|exact HI326.out));(case side2 => repeat (first|(with_reducible first|exact HB.out|apply below_alloc|apply pw_below_drewN|apply below_drew1|refine below_set ?_ (IsS42.ge HI326.out)|refine below_set ?_ GE325.out)|exact HB.out));rintro e w12 ⟨rfl,hi,hb,hk⟩;refine ⟨_,rfl,?_⟩;have n0_:=Aside0.mk (Kd.R_mono (Kd.R_keep (IsS42.apart (show IsS42 w _ gb326 x327000_2 x327001_2 x327002_2 x327003_2 from by repeat (first|(with_reducible first|exact HI326.out|apply IsS42.alloc|apply IsS42.drewN|apply IsS42.drew|apply IsS42.set_0|apply IsS42.set_1|apply IsS42.set_2|apply IsS42.set_3|(apply IsS42.far;(case hne => exact NB326_325.out)))|exact HI326.out)) (by (with_reducible repeat (first|apply Kd.R_alloc|apply Kd.R_drewN|apply Kd.R_drew));exact HO_5.out) (by decide)) hk (fun _ h => h.2)) (fun _ h => h.1));have n1_:=Aside0.mk (KeepBut.blk hk (g':=gb325) (o:=.cells #[.int .i64 x326000_1,.int .i64 x326001_1] 27 (0,0)) (by (with_reducible repeat (first|refine blk_drewN ?_ _|refine blk_drew ?_|refine blk_alloc ?_ _));exact BK325.out) NB325_326.out (by simp));have n2_:=Aside0.mk (hb);have n3_:=Aside0.mk (hi);clear HO_5;clear BK325;clear HB;clear HI326;have HO_5:=n0_;have BK325:=n1_;have HB:=n2_;have HI326:=n3_;clear n0_ n1_ n2_ n3_;(try clear hb);(try clear hb2);(try clear hk);(try clear hi))|((with_reducible refine gate_callee (f:=19) rfl ?_);refine goesL_ (some 18) rfl rfl Tryd.func19 (by kernel_rfl) rfl #[.int .u8 t327] rfl (by (try simp only [List.map_toArray,List.map_cons,List.map_nil]);first|done|rfl|(simp only [List.length_drop,List.length_take];rfl)) ?_;(with_reducible refine (marlinspikeref05_bare.calls t327 true _ A10.out).mono ?_);rintro e w' ⟨rfl,⟨nd,rfl⟩⟩;refine ⟨_,rfl,?_⟩;(try (rw [drewN_self w12];generalize hq_ : World.drewN w12 _ = w12;have n0_ : Aside0 (Kd.R Kd.string 9 w12 w.heap.size (fun _ => True) u5 x5_1):=⟨by rw [← hq_];exact (by (with_reducible repeat (first|apply Kd.R_alloc|apply Kd.R_drewN|apply Kd.R_drew));exact HO_5.out)⟩;have n1_ : Aside0 (w12.heap[gb325]? = some (.cells #[.int .i64 x326000_1,.int .i64 x326001_1] 27 (0,0))):=⟨by rw [← hq_];exact (by (with_reducible repeat (first|refine blk_drewN ?_ _|refine blk_drew ?_|refine blk_alloc ?_ _));exact BK325.out)⟩;have n2_ : Aside0 (IsS42 w w12 gb326 t328 t329 t330 t331):=⟨by rw [← hq_];exact (by repeat (first|(with_reducible first|exact HI326.out|apply IsS42.alloc|apply IsS42.drewN|apply IsS42.drew|apply IsS42.set_0|apply IsS42.set_1|apply IsS42.set_2|apply IsS42.set_3|(apply IsS42.far;(case hne => exact NB326_325.out)))|exact HI326.out))⟩;have n3_ : Aside0 (Below w.heap.size w w12):=⟨by rw [← hq_];exact (by repeat (first|(with_reducible first|exact HB.out|apply below_alloc|apply pw_below_drewN|apply below_drew1|refine below_set ?_ (IsS42.ge HI326.out)|refine below_set ?_ GE325.out)|exact HB.out))⟩;clear HO_5 BK325 HI326 HB hq_;have HO_5:=n0_;have BK325:=n1_;have HI326:=n2_;have HB:=n3_;clear n0_ n1_ n2_ n3_));obtain ⟨HGz13,hgz13⟩:=HI326.out;have hcz13_0:=cellS42_0 HGz13;have hcz13_1:=cellS42_1 HGz13;have hcz13_2:=cellS42_2 HGz13;have hcz13_3:=cellS42_3 HGz13;have hfz13_0:=blk_frozen HGz13 0;have hfz13_1:=blk_frozen HGz13 1;have hfz13_2:=blk_frozen HGz13 2;have hfz13_3:=blk_frozen HGz13 3;clear HGz13 hgz13)));(go_roundg k2)
       case measure => have:=HK1.out;have:=HK2.out;omega
       case rel => exact ⟨(t328),(wrap64 (t329 + 1)),(t330),(t331),H',⟨by have:=HK1.out;have:=HK2.out;omega⟩,⟨by (with_reducible repeat (first|apply Kd.R_alloc|apply Kd.R_drewN|apply Kd.R_drew));exact Kd.R_mono (Kd.R_far (p:=⟨gb326,1,none⟩) (IsS42.apart HI326.out HO_5.out (by decide)) (fun _ hk => hk.2) (.int .i64 (wrap64 (t329 + 1)))) (fun _ hk => trivial)⟩,⟨by (with_reducible repeat (first|refine blk_drewN ?_ _|refine blk_drew ?_|refine blk_alloc ?_ _));refine blk_far ?_ NB325_326.out _;(with_reducible repeat (first|refine blk_drewN ?_ _|refine blk_drew ?_|refine blk_alloc ?_ _));exact BK325.out⟩,⟨by repeat (first|(with_reducible first|exact HI326.out|apply IsS42.alloc|apply IsS42.drewN|apply IsS42.drew|apply IsS42.set_0|apply IsS42.set_1|apply IsS42.set_2|apply IsS42.set_3|(apply IsS42.far;(case hne => exact NB326_325.out)))|exact HI326.out)⟩,⟨by repeat (first|(with_reducible first|exact HB.out|apply below_alloc|apply pw_below_drewN|apply below_drew1|refine below_set ?_ (IsS42.ge HI326.out)|refine below_set ?_ GE325.out)|exact HB.out)⟩⟩
      ·(replace c11:=Bool.eq_false_iff.mpr c11);(subst c11);(have H1 : (if t329 = x327001_1 then ((marlinspikeref05_reader_wrong.f t328 t329 t330 t331 t329).bind fun bt333 => (some (([] : List ByteArray),bt333.2.2.1,bt333.2.2.2))) else (if 0 ≤ x327001_1 then (if x327001_1 ≤ t329 then (if t329 ≤ (a0.size : Int) then ((marlinspikeref05_reader_peek.f t328 t329 t330 t331).bind fun bt340 => (if bt340.1 = 91 then ((marlinspikeref05_reader_ranges.f k2 bt340.2.1 (wrap64 (bt340.2.2.1 + 1)) bt340.2.2.2.1 bt340.2.2.2.2).bind fun bt345 => (marlinspikeref05_Expand.j2 k2 a0 x5_1 x327001_1 (a0.extract (x327001_1 : Int).toNat (t329 : Int).toNat) bt345.1 bt345.2.1 bt345.2.2.1 bt345.2.2.2.1 bt345.2.2.2.2)) else (marlinspikeref05_Expand.j2 k2 a0 x5_1 x327001_1 (a0.extract (x327001_1 : Int).toNat (t329 : Int).toNat) (([(⟨#[]⟩ : ByteArray)] : List ByteArray)) bt340.2.1 bt340.2.2.1 bt340.2.2.2.1 bt340.2.2.2.2))) else (none)) else (none)) else (none))) = some (r1,r2,r3):=by rw [if_neg (show ¬ (false = true) by decide)] at H;exact H);(clear H);(have H:=H1);(clear H1);(by_cases c14 : t329 = x327001_1)
       ·(rw [if_pos c14] at H);(have c14b0 : (t329 == x327001_1) = true:=beq_iff_eq.mpr c14);(have c14b1 : (t329 != x327001_1) = false:=bne_eq_false_iff_eq.mpr c14);(clear c14);(replace H:=Option.bind_eq_some_iff.mp H);(obtain ⟨⟨t333,t334,t335,t336⟩,A150,H⟩:=H);(replace H : (some (([] : List ByteArray),t335,t336)) = some (r1,r2,r3):=H);(have A15:=Aside0.mk A150);(clear A150);(simp only [Option.some.injEq,Prod.mk.injEq] at H);(obtain ⟨rfl,rfl,rfl⟩:=H);(try go_wp2_with (first|((with_reducible refine gate_callee (f:=20) rfl ?_);refine goesL_ (some 17) rfl rfl Tryd.func20 (by kernel_rfl) rfl #[.pointer (some ⟨gb326,0,none⟩)] rfl (by (try simp only [List.map_toArray,List.map_cons,List.map_nil]);first|done|rfl|(simp only [List.length_drop,List.length_take];rfl)) ?_;(with_reducible refine (marlinspikeref05_reader_peek.calls gb326 x327000_2 x327001_2 x327002_2 x327003_2 t327 t328 t329 t330 t331 w _ ?side1 ?side2 A9.out).mono ?_);(case side1 => repeat (first|(with_reducible first|exact HI326.out|apply IsS42.alloc|apply IsS42.drewN|apply IsS42.drew|apply IsS42.set_0|apply IsS42.set_1|apply IsS42.set_2|apply IsS42.set_3|(apply IsS42.far;(case hne => exact NB326_325.out)))|exact HI326.out));(case side2 => repeat (first|(with_reducible first|exact HB.out|apply below_alloc|apply pw_below_drewN|apply below_drew1|refine below_set ?_ (IsS42.ge HI326.out)|refine below_set ?_ GE325.out)|exact HB.out));rintro e w16 ⟨rfl,hi,hb,hk⟩;refine ⟨_,rfl,?_⟩;have n0_:=Aside0.mk (Kd.R_mono (Kd.R_keep (IsS42.apart (show IsS42 w _ gb326 x327000_2 x327001_2 x327002_2 x327003_2 from by repeat (first|(with_reducible first|exact HI326.out|apply IsS42.alloc|apply IsS42.drewN|apply IsS42.drew|apply IsS42.set_0|apply IsS42.set_1|apply IsS42.set_2|apply IsS42.set_3|(apply IsS42.far;(case hne => exact NB326_325.out)))|exact HI326.out)) (by (with_reducible repeat (first|apply Kd.R_alloc|apply Kd.R_drewN|apply Kd.R_drew));exact HO_5.out) (by decide)) hk (fun _ h => h.2)) (fun _ h => h.1));have n1_:=Aside0.mk (KeepBut.blk hk (g':=gb325) (o:=.cells #[.int .i64 x326000_1,.int .i64 x326001_1] 27 (0,0)) (by (with_reducible repeat (first|refine blk_drewN ?_ _|refine blk_drew ?_|refine blk_alloc ?_ _));exact BK325.out) NB325_326.out (by simp));have n2_:=Aside0.mk (hb);have n3_:=Aside0.mk (hi);clear HO_5;clear BK325;clear HB;clear HI326;have HO_5:=n0_;have BK325:=n1_;have HB:=n2_;have HI326:=n3_;clear n0_ n1_ n2_ n3_;(try clear hb);(try clear hb2);(try clear hk);(try clear hi))|((with_reducible refine gate_callee (f:=19) rfl ?_);refine goesL_ (some 18) rfl rfl Tryd.func19 (by kernel_rfl) rfl #[.int .u8 t327] rfl (by (try simp only [List.map_toArray,List.map_cons,List.map_nil]);first|done|rfl|(simp only [List.length_drop,List.length_take];rfl)) ?_;(with_reducible refine (marlinspikeref05_bare.calls t327 false _ A10.out).mono ?_);rintro e w' ⟨rfl,⟨nd,rfl⟩⟩;refine ⟨_,rfl,?_⟩;(try (rw [drewN_self w16];generalize hq_ : World.drewN w16 _ = w16;have n0_ : Aside0 (Kd.R Kd.string 9 w16 w.heap.size (fun _ => True) u5 x5_1):=⟨by rw [← hq_];exact (by (with_reducible repeat (first|apply Kd.R_alloc|apply Kd.R_drewN|apply Kd.R_drew));exact HO_5.out)⟩;have n1_ : Aside0 (w16.heap[gb325]? = some (.cells #[.int .i64 x326000_1,.int .i64 x326001_1] 27 (0,0))):=⟨by rw [← hq_];exact (by (with_reducible repeat (first|refine blk_drewN ?_ _|refine blk_drew ?_|refine blk_alloc ?_ _));exact BK325.out)⟩;have n2_ : Aside0 (IsS42 w w16 gb326 t328 t329 t330 t331):=⟨by rw [← hq_];exact (by repeat (first|(with_reducible first|exact HI326.out|apply IsS42.alloc|apply IsS42.drewN|apply IsS42.drew|apply IsS42.set_0|apply IsS42.set_1|apply IsS42.set_2|apply IsS42.set_3|(apply IsS42.far;(case hne => exact NB326_325.out)))|exact HI326.out))⟩;have n3_ : Aside0 (Below w.heap.size w w16):=⟨by rw [← hq_];exact (by repeat (first|(with_reducible first|exact HB.out|apply below_alloc|apply pw_below_drewN|apply below_drew1|refine below_set ?_ (IsS42.ge HI326.out)|refine below_set ?_ GE325.out)|exact HB.out))⟩;clear HO_5 BK325 HI326 HB hq_;have HO_5:=n0_;have BK325:=n1_;have HI326:=n2_;have HB:=n3_;clear n0_ n1_ n2_ n3_));obtain ⟨HGz17,hgz17⟩:=HI326.out;have hcz17_0:=cellS42_0 HGz17;have hcz17_1:=cellS42_1 HGz17;have hcz17_2:=cellS42_2 HGz17;have hcz17_3:=cellS42_3 HGz17;have hfz17_0:=blk_frozen HGz17 0;have hfz17_1:=blk_frozen HGz17 1;have hfz17_2:=blk_frozen HGz17 2;have hfz17_3:=blk_frozen HGz17 3;clear HGz17 hgz17)|((with_reducible refine gate_callee (f:=21) rfl ?_);refine goesL_ (some 29) rfl rfl Tryd.func21 (by kernel_rfl) rfl #[.pointer (some ⟨gb326,0,none⟩),.int .i64 t329] rfl (by (try simp only [List.map_toArray,List.map_cons,List.map_nil]);first|done|rfl|(simp only [List.length_drop,List.length_take];rfl)) ?_;(with_reducible refine (marlinspikeref05_reader_wrong.calls gb326 t328 t329 t330 t331 t329 t333 t334 t335 t336 w _ ?side1 ?side2 A15.out).mono ?_);(case side1 => repeat (first|(with_reducible first|exact HI326.out|apply IsS42.alloc|apply IsS42.drewN|apply IsS42.drew|apply IsS42.set_0|apply IsS42.set_1|apply IsS42.set_2|apply IsS42.set_3|(apply IsS42.far;(case hne => exact NB326_325.out)))|exact HI326.out));(case side2 => repeat (first|(with_reducible first|exact HB.out|apply below_alloc|apply pw_below_drewN|apply below_drew1|refine below_set ?_ (IsS42.ge HI326.out)|refine below_set ?_ GE325.out)|exact HB.out));rintro e w18 ⟨rfl,hi,hb,hk⟩;refine ⟨_,rfl,?_⟩;have n0_:=Aside0.mk (Kd.R_mono (Kd.R_keep (IsS42.apart (show IsS42 w _ gb326 t328 t329 t330 t331 from by repeat (first|(with_reducible first|exact HI326.out|apply IsS42.alloc|apply IsS42.drewN|apply IsS42.drew|apply IsS42.set_0|apply IsS42.set_1|apply IsS42.set_2|apply IsS42.set_3|(apply IsS42.far;(case hne => exact NB326_325.out)))|exact HI326.out)) (by (with_reducible repeat (first|apply Kd.R_alloc|apply Kd.R_drewN|apply Kd.R_drew));exact HO_5.out) (by decide)) hk (fun _ h => h.2)) (fun _ h => h.1));have n1_:=Aside0.mk (KeepBut.blk hk (g':=gb325) (o:=.cells #[.int .i64 x326000_1,.int .i64 x326001_1] 27 (0,0)) (by (with_reducible repeat (first|refine blk_drewN ?_ _|refine blk_drew ?_|refine blk_alloc ?_ _));exact BK325.out) NB325_326.out (by simp));have n2_:=Aside0.mk (hb);have n3_:=Aside0.mk (hi);clear HO_5;clear BK325;clear HB;clear HI326;have HO_5:=n0_;have BK325:=n1_;have HB:=n2_;have HI326:=n3_;clear n0_ n1_ n2_ n3_;(try clear hb);(try clear hb2);(try clear hk);(try clear hi))));(have n0_:=Aside0.mk (Kd.R_drew HO_5.out));(have n1_:=Aside0.mk (blk_drew BK325.out));(have n2_:=Aside0.mk (IsS42.drew HI326.out));(have n3_:=Aside0.mk (below_drew1 HB.out));(clear HO_5);(clear BK325);(clear HI326);(clear HB);(have HO_5:=n0_);(have BK325:=n1_);(have HI326:=n2_);(have HB:=n3_);(clear n0_ n1_ n2_ n3_);(refine start_ (n:=4) (S:=fun w' => w'.cell? ⟨gb326,0,none⟩ = some (.string t333)∧w'.cell? ⟨gb326,1,none⟩ = some (.int .i64 t334)∧w'.cell? ⟨gb326,2,none⟩ = some (.int .i64 t335)∧w'.cell? ⟨gb326,3,none⟩ = some (.int .i64 t336)) (ds:=[]) #[false,false,false,false] (by kernel_rfl) rfl rfl ⟨(cellS42_0 (HI326.out).1),(cellS42_1 (HI326.out).1),(cellS42_2 (HI326.out).1),(cellS42_3 (HI326.out).1)⟩ (fun hHeld => ?_));(generalize w18.drew = w19 at HO_5 BK325 HI326 HB hHeld ⊢);(refine pure_ (i:=0) (N:=some 30) (v:=?_) (a':=?_) #[true,false,false,false] rfl rfl (by kernel_rfl) (fun _ _ _ h => h) (Or.inl ⟨by rfl,?_⟩) ?_ ?_);(rotate_left)
        ·(intro w');(go_simp);(with_reducible rfl)
        (rotate_left);·(simp only [Act.put,List.setIfInBounds_toArray,List.set_cons_zero,List.set_cons_succ,i64_w,i32_w]);(rfl)
        (refine pure_ (i:=2) (N:=some 2) (v:=?_) (a':=?_) #[true,false,true,false] rfl rfl (by kernel_rfl) (fun _ _ _ h => h) (Or.inl ⟨by rfl,?_⟩) ?_ ?_);(rotate_left);·(intro w');(go_simp);(with_reducible rfl)
        (rotate_left);·(simp only [Act.put,List.setIfInBounds_toArray,List.set_cons_zero,List.set_cons_succ,i64_w,i32_w]);(rfl)
        (refine take_ (i:=1) (N:=some 31) (v:=?_) (a':=?_) #[true,true,true,false] rfl rfl (by kernel_rfl) (fun _ _ _ h => h) (Or.inl ⟨by rfl,?_⟩) hHeld ?_ ?_);(rotate_left);·(rintro w' ⟨s0,s1,s2,s3⟩);(go_simp);(with_reducible rfl)
        (rotate_left);·(simp only [Act.put,List.setIfInBounds_toArray,List.set_cons_zero,List.set_cons_succ,i64_w,i32_w]);(rfl)
        (refine one_ (i:=3) (N:=none) #[true,true,true,true] rfl rfl (by kernel_rfl) (by decide) (fun K hK => ?_));(have hs20 : w19.cell? ⟨gb325,0,none⟩ = some (.int .i64 x326000_1):=(blk_cell BK325.out 0).trans rfl);(have hfs20:=blk_frozen BK325.out 0);(have hs21 : w19.cell? ⟨gb325,1,none⟩ = some (.int .i64 x326001_1):=(blk_cell BK325.out 1).trans rfl);(have hfs21:=blk_frozen BK325.out 1);(refine skip_ (w1:=?_) (by rfl) rfl ?_ ?_);(rotate_left);·(go_simp);(rfl)
        (refine hK.out _ _ ⟨((cell_far (p:=⟨gb325,_,none⟩) NB326_325.out _).trans (((cell_far (p:=⟨gb325,_,none⟩) NB326_325.out _).trans (hHeld.1)))),((cell_far (p:=⟨gb325,_,none⟩) NB326_325.out _).trans (((cell_far (p:=⟨gb325,_,none⟩) NB326_325.out _).trans (hHeld.2.1)))),((cell_far (p:=⟨gb325,_,none⟩) NB326_325.out _).trans (((cell_far (p:=⟨gb325,_,none⟩) NB326_325.out _).trans (hHeld.2.2.1)))),((cell_far (p:=⟨gb325,_,none⟩) NB326_325.out _).trans (((cell_far (p:=⟨gb325,_,none⟩) NB326_325.out _).trans (hHeld.2.2.2))))⟩ (fun hHeld => ?_));(clear hK K);(refine done_ (by kernel_rfl) ?_);(try go_wp2);(refine bodyPost_ret (results_tc rfl _ _ gb325 27 #[.int .i64 t335,.int .i64 t336] (0,0) _ rfl (by (with_reducible repeat (first|refine blk_drewN ?_ _|refine blk_drew ?_|refine blk_alloc ?_ _));refine blk_put (cs:=#[.int .i64 t335,.int .i64 x326001_1]) ?_ 1 _ rfl;(with_reducible repeat (first|refine blk_drewN ?_ _|refine blk_drew ?_|refine blk_alloc ?_ _));refine blk_put (cs:=#[.int .i64 x326000_1,.int .i64 x326001_1]) ?_ 0 _ rfl;(with_reducible repeat (first|refine blk_drewN ?_ _|refine blk_drew ?_|refine blk_alloc ?_ _));exact BK325.out) Tryd.underlying27 rfl (by kernel_rfl)) rfl ?_);(exact ⟨_,by first|rfl|(simp [errW_none,errW_some] <;> rfl)|(simp [*,errW_none,errW_some] <;> rfl),by first|exact Kd.R_nil _ _ _ _ _|exact Kd.N_nil _ _ _ _ _|exact Kd.V_nil _ _ _ _ _|exact Kd.Q_nil _ _ _ _ _|exact Kd.S_nil _ _ _ _ _,by repeat (first|(with_reducible first|exact HB.out|apply below_alloc|apply pw_below_drewN|apply below_drew1|refine below_set ?_ (IsS42.ge HI326.out)|refine below_set ?_ GE325.out)|exact HB.out)⟩)
       ·(rw [if_neg c14] at H);(have c14b0 : (t329 == x327001_1) = false:=beq_eq_false_iff_ne.mpr c14);(have c14b1 : (t329 != x327001_1) = true:=bne_iff_ne.mpr c14);(by_cases c22 : 0 ≤ x327001_1)
        ·(rw [if_pos c22] at H);(have c22b0:=eq_true c22);(have c22b1 : decide (0 ≤ x327001_1) = true:=decide_eq_true c22);(clear c22);(by_cases c23 : x327001_1 ≤ t329)
         ·(rw [if_pos c23] at H);(have c23b0:=eq_true c23);(have c23b1 : decide (x327001_1 ≤ t329) = true:=decide_eq_true c23);(clear c23);(by_cases c24 : t329 ≤ (a0.size : Int))
          ·(rw [if_pos c24] at H);(have c24b0:=eq_true c24);(have c24b1 : decide (t329 ≤ (a0.size : Int)) = true:=decide_eq_true c24);(clear c24);(obtain ⟨y337,hy337⟩ : ∃ y_ : List ByteArray,y_ = (([(⟨#[]⟩ : ByteArray)] : List ByteArray)):=⟨_,rfl⟩);(replace H : ((marlinspikeref05_reader_peek.f t328 t329 t330 t331).bind fun bt340 => (if bt340.1 = 91 then ((marlinspikeref05_reader_ranges.f k2 bt340.2.1 (wrap64 (bt340.2.2.1 + 1)) bt340.2.2.2.1 bt340.2.2.2.2).bind fun bt345 => (marlinspikeref05_Expand.j2 k2 a0 x5_1 x327001_1 (a0.extract (x327001_1 : Int).toNat (t329 : Int).toNat) bt345.1 bt345.2.1 bt345.2.2.1 bt345.2.2.2.1 bt345.2.2.2.2)) else (marlinspikeref05_Expand.j2 k2 a0 x5_1 x327001_1 (a0.extract (x327001_1 : Int).toNat (t329 : Int).toNat) y337 bt340.2.1 bt340.2.2.1 bt340.2.2.2.1 bt340.2.2.2.2))) = some (r1,r2,r3):=by first|(rw [hy337];with_reducible exact H)|(have H2_:=(Option.bind_some _ _).symm.trans H;rw [hy337];with_reducible exact H2_)|(have H2_:=(Option.bind_some _ _).symm.trans H;with_reducible exact H2_)|with_reducible exact H|(rw [hy337];exact H)|exact H);(have Ny337:=Aside0.mk hy337);(clear hy337);(replace H:=Option.bind_eq_some_iff.mp H);(obtain ⟨⟨t340,t341,t342,t343,t344⟩,A250,H⟩:=H);(replace H : (if t340 = 91 then ((marlinspikeref05_reader_ranges.f k2 t341 (wrap64 (t342 + 1)) t343 t344).bind fun bt345 => (marlinspikeref05_Expand.j2 k2 a0 x5_1 x327001_1 (a0.extract (x327001_1 : Int).toNat (t329 : Int).toNat) bt345.1 bt345.2.1 bt345.2.2.1 bt345.2.2.2.1 bt345.2.2.2.2)) else (marlinspikeref05_Expand.j2 k2 a0 x5_1 x327001_1 (a0.extract (x327001_1 : Int).toNat (t329 : Int).toNat) y337 t341 t342 t343 t344)) = some (r1,r2,r3):=H);(have A25:=Aside0.mk A250);(clear A250);(have HC26:=Aside0.mk H);(clear H);(go_upto_if 39 with (first|((with_reducible refine gate_callee (f:=20) rfl ?_);refine goesL_ (some 17) rfl rfl Tryd.func20 (by kernel_rfl) rfl #[.pointer (some ⟨gb326,0,none⟩)] rfl (by (try simp only [List.map_toArray,List.map_cons,List.map_nil]);first|done|rfl|(simp only [List.length_drop,List.length_take];rfl)) ?_;(with_reducible refine (marlinspikeref05_reader_peek.calls gb326 x327000_2 x327001_2 x327002_2 x327003_2 t327 t328 t329 t330 t331 w _ ?side1 ?side2 A9.out).mono ?_);(case side1 => repeat (first|(with_reducible first|exact HI326.out|apply IsS42.alloc|apply IsS42.drewN|apply IsS42.drew|apply IsS42.set_0|apply IsS42.set_1|apply IsS42.set_2|apply IsS42.set_3|(apply IsS42.far;(case hne => exact NB326_325.out)))|exact HI326.out));(case side2 => repeat (first|(with_reducible first|exact HB.out|apply below_alloc|apply pw_below_drewN|apply below_drew1|refine below_set ?_ (IsS42.ge HI326.out)|refine below_set ?_ GE325.out)|exact HB.out));rintro e w27 ⟨rfl,hi,hb,hk⟩;refine ⟨_,rfl,?_⟩;have n0_:=Aside0.mk (Kd.R_mono (Kd.R_keep (IsS42.apart (show IsS42 w _ gb326 x327000_2 x327001_2 x327002_2 x327003_2 from by repeat (first|(with_reducible first|exact HI326.out|apply IsS42.alloc|apply IsS42.drewN|apply IsS42.drew|apply IsS42.set_0|apply IsS42.set_1|apply IsS42.set_2|apply IsS42.set_3|(apply IsS42.far;(case hne => exact NB326_325.out)))|exact HI326.out)) (by (with_reducible repeat (first|apply Kd.R_alloc|apply Kd.R_drewN|apply Kd.R_drew));exact HO_5.out) (by decide)) hk (fun _ h => h.2)) (fun _ h => h.1));have n1_:=Aside0.mk (KeepBut.blk hk (g':=gb325) (o:=.cells #[.int .i64 x326000_1,.int .i64 x326001_1] 27 (0,0)) (by (with_reducible repeat (first|refine blk_drewN ?_ _|refine blk_drew ?_|refine blk_alloc ?_ _));exact BK325.out) NB325_326.out (by simp));have n2_:=Aside0.mk (hb);have n3_:=Aside0.mk (hi);clear HO_5;clear BK325;clear HB;clear HI326;have HO_5:=n0_;have BK325:=n1_;have HB:=n2_;have HI326:=n3_;clear n0_ n1_ n2_ n3_;(try clear hb);(try clear hb2);(try clear hk);(try clear hi))|((with_reducible refine gate_callee (f:=19) rfl ?_);refine goesL_ (some 18) rfl rfl Tryd.func19 (by kernel_rfl) rfl #[.int .u8 t327] rfl (by (try simp only [List.map_toArray,List.map_cons,List.map_nil]);first|done|rfl|(simp only [List.length_drop,List.length_take];rfl)) ?_;(with_reducible refine (marlinspikeref05_bare.calls t327 false _ A10.out).mono ?_);rintro e w' ⟨rfl,⟨nd,rfl⟩⟩;refine ⟨_,rfl,?_⟩;obtain ⟨HGz28,hgz28⟩:=HI326.out;have hcz28_0:=cellS42_0 HGz28;have hcz28_1:=cellS42_1 HGz28;have hcz28_2:=cellS42_2 HGz28;have hcz28_3:=cellS42_3 HGz28;have hfz28_0:=blk_frozen HGz28 0;have hfz28_1:=blk_frozen HGz28 1;have hfz28_2:=blk_frozen HGz28 2;have hfz28_3:=blk_frozen HGz28 3;clear HGz28 hgz28)|((with_reducible refine gate_dst (N:=37) rfl ?_);(try (refine gate_guard (by rfl) ?_;dsimp only));refine Kd.R_lit Kd.string _ 9 ?hg (N:=37) ?hd (xs:=([(⟨#[]⟩ : ByteArray)] : List ByteArray)) (inner:=[.string (⟨#[]⟩ : ByteArray)]) (ok:=fun _ => True) (okp:=fun _ => True) ?hr ?hp (fun _ hk => hk) trivial (Below.refl _ _) (Nat.le_refl _) (by simp) ?_;(case hd => rfl);(case hg => rfl);(case hr => first|(go_simp;done)|(go_simp;rfl));(case hp => exact (Reps.one (show Kd.M Kd.string _ _ _ (⟨#[]⟩ : ByteArray) [.string (⟨#[]⟩ : ByteArray)] from rfl) (Reps.none _ _)));intro v338 w29 ho30 hb hg_ hnew_;clear hg_ hnew_;(first|rw [← Ny337.out] at ho30|(simp only [Int.reduceToNat] at ho30;rw [← Ny337.out] at ho30));have n0_:=Aside0.mk (Kd.R_elder' (by (with_reducible repeat (first|apply Kd.R_alloc|apply Kd.R_drewN|apply Kd.R_drew));exact HO_5.out) (Kd.R_base ho30) hb);have n1_:=Aside0.mk (Kd.R_lower (Kd.R_new' ho30 (Kd.R_lt (by (with_reducible repeat (first|apply Kd.R_alloc|apply Kd.R_drewN|apply Kd.R_drew));exact HO_5.out))) (below_size (by repeat (first|(with_reducible first|exact HB.out|apply below_alloc|apply pw_below_drewN|apply below_drew1|refine below_set ?_ (IsS42.ge HI326.out)|refine below_set ?_ GE325.out)|exact HB.out))));have n2_:=Aside0.mk (blk_below (g:=gb325) (o:=.cells #[.int .i64 x326000_1,.int .i64 x326001_1] 27 (0,0)) (by (with_reducible repeat (first|refine blk_drewN ?_ _|refine blk_drew ?_|refine blk_alloc ?_ _));exact BK325.out) hb);have n3_:=Aside0.mk (IsS42.below (by repeat (first|(with_reducible first|exact HI326.out|apply IsS42.alloc|apply IsS42.drewN|apply IsS42.drew|apply IsS42.set_0|apply IsS42.set_1|apply IsS42.set_2|apply IsS42.set_3|(apply IsS42.far;(case hne => exact NB326_325.out)))|exact HI326.out)) hb);have n4_:=Aside0.mk (below_step (by repeat (first|(with_reducible first|exact HB.out|apply below_alloc|apply pw_below_drewN|apply below_drew1|refine below_set ?_ (IsS42.ge HI326.out)|refine below_set ?_ GE325.out)|exact HB.out)) hb);clear HO_5;clear BK325;clear HI326;clear HB;have HO_5:=n0_;have HO339:=n1_;have BK325:=n2_;have HI326:=n3_;have HB:=n4_;clear n0_ n1_ n2_ n3_ n4_;clear hb ho30)|((with_reducible refine gate_callee (f:=20) rfl ?_);refine goesL_ (some 38) rfl rfl Tryd.func20 (by kernel_rfl) rfl #[.pointer (some ⟨gb326,0,none⟩)] rfl (by (try simp only [List.map_toArray,List.map_cons,List.map_nil]);first|done|rfl|(simp only [List.length_drop,List.length_take];rfl)) ?_;(with_reducible refine (marlinspikeref05_reader_peek.calls gb326 t328 t329 t330 t331 t340 t341 t342 t343 t344 w _ ?side1 ?side2 A25.out).mono ?_);(case side1 => repeat (first|(with_reducible first|exact HI326.out|apply IsS42.alloc|apply IsS42.drewN|apply IsS42.drew|apply IsS42.set_0|apply IsS42.set_1|apply IsS42.set_2|apply IsS42.set_3|(apply IsS42.far;(case hne => exact NB326_325.out)))|exact HI326.out));(case side2 => repeat (first|(with_reducible first|exact HB.out|apply below_alloc|apply pw_below_drewN|apply below_drew1|refine below_set ?_ (IsS42.ge HI326.out)|refine below_set ?_ GE325.out)|exact HB.out));rintro e w31 ⟨rfl,hi,hb,hk⟩;refine ⟨_,rfl,?_⟩;have n0_:=Aside0.mk (Kd.R_mono (Kd.R_keep (IsS42.apart (show IsS42 w _ gb326 t328 t329 t330 t331 from by repeat (first|(with_reducible first|exact HI326.out|apply IsS42.alloc|apply IsS42.drewN|apply IsS42.drew|apply IsS42.set_0|apply IsS42.set_1|apply IsS42.set_2|apply IsS42.set_3|(apply IsS42.far;(case hne => exact NB326_325.out)))|exact HI326.out)) (by (with_reducible repeat (first|apply Kd.R_alloc|apply Kd.R_drewN|apply Kd.R_drew));exact HO_5.out) (by decide)) hk (fun _ h => h.2)) (fun _ h => h.1));have n1_:=Aside0.mk (KeepBut.blk hk (g':=gb325) (o:=.cells #[.int .i64 x326000_1,.int .i64 x326001_1] 27 (0,0)) (by (with_reducible repeat (first|refine blk_drewN ?_ _|refine blk_drew ?_|refine blk_alloc ?_ _));exact BK325.out) NB325_326.out (by simp));have n2_:=Aside0.mk (Kd.R_mono (Kd.R_keep (IsS42.apart (show IsS42 w _ gb326 t328 t329 t330 t331 from by repeat (first|(with_reducible first|exact HI326.out|apply IsS42.alloc|apply IsS42.drewN|apply IsS42.drew|apply IsS42.set_0|apply IsS42.set_1|apply IsS42.set_2|apply IsS42.set_3|(apply IsS42.far;(case hne => exact NB326_325.out)))|exact HI326.out)) (by (with_reducible repeat (first|apply Kd.R_alloc|apply Kd.R_drewN|apply Kd.R_drew));exact HO339.out) (by decide)) hk (fun _ h => h.2)) (fun _ h => h.1));have n3_:=Aside0.mk (hb);have n4_:=Aside0.mk (hi);clear HO_5;clear BK325;clear HO339;clear HB;clear HI326;have HO_5:=n0_;have BK325:=n1_;have HO339:=n2_;have HB:=n3_;have HI326:=n4_;clear n0_ n1_ n2_ n3_ n4_;(try clear hb);(try clear hb2);(try clear hk);(try clear hi))));((try simp only [Act.put,List.setIfInBounds_toArray,List.set_cons_zero,List.set_cons_succ]));(go_cut [8] (fun v8 wc => ∃ (kq : Nat) (x8_25 : List ByteArray) (x327000_25 : ByteArray) (x327001_25 : Int) (x327002_25 : Int) (x327003_25 : Int),Aside0 (marlinspikeref05_Expand.j2 kq a0 x5_1 x327001_1 (a0.extract (x327001_1 : Int).toNat (t329 : Int).toNat) x8_25 x327000_25 x327001_25 x327002_25 x327003_25 = some (r1,r2,r3))∧Aside0 (kq ≤ k2)∧Aside0 (Kd.R Kd.string 9 wc w.heap.size (fun k_ => some k_ ≠ (v8 : Value).ownBlock) u5 x5_1)∧Aside0 (Kd.R Kd.string 9 wc w.heap.size (fun k_ => some k_ ≠ (u5 : Value).ownBlock) v8 x8_25)∧Aside0 (wc.heap[gb325]? = some (.cells #[.int .i64 x326000_1,.int .i64 x326001_1] 27 (0,0)))∧Aside0 (IsS42 w wc gb326 x327000_25 x327001_25 x327002_25 x327003_25)∧Aside0 (Below w.heap.size w wc)))
           case first =>
            (have H:=HC26.out);(clear HC26);(by_cases c32 : t340 = 91)
            ·(rw [if_pos c32] at H);(have c32b0 : (t340 == 91) = true:=beq_iff_eq.mpr c32);(have c32b1 : (t340 != 91) = false:=bne_eq_false_iff_eq.mpr c32);(clear c32);((first|rw [c32b0]|(simp only [i64_w,i32_w];rw [c32b0])|skip));(replace H:=Option.bind_eq_some_iff.mp H);(obtain ⟨⟨t345,t348,t349,t350,t351⟩,A330,H⟩:=H);(replace H : (marlinspikeref05_Expand.j2 k2 a0 x5_1 x327001_1 (a0.extract (x327001_1 : Int).toNat (t329 : Int).toNat) t345 t348 t349 t350 t351) = some (r1,r2,r3):=H);(have A33:=Aside0.mk A330);(clear A330);(have H':=Aside0.mk H);(clear H);(obtain ⟨HGz34,hgz34⟩:=HI326.out);(have hcz34_0:=cellS42_0 HGz34);(have hcz34_1:=cellS42_1 HGz34);(have hcz34_2:=cellS42_2 HGz34);(have hcz34_3:=cellS42_3 HGz34);(have hfz34_0:=blk_frozen HGz34 0);(have hfz34_1:=blk_frozen HGz34 1);(have hfz34_2:=blk_frozen HGz34 2);(have hfz34_3:=blk_frozen HGz34 3);(clear HGz34 hgz34);(go_wp2_with (first|((with_reducible refine gate_callee (f:=22) rfl ?_);refine goesL_ (some 44) rfl rfl Tryd.func22 (by kernel_rfl) rfl #[.pointer (some ⟨gb326,0,none⟩)] rfl (by (try simp only [List.map_toArray,List.map_cons,List.map_nil]);first|done|rfl|(simp only [List.length_drop,List.length_take];rfl)) ?_;(with_reducible refine (marlinspikeref05_reader_ranges.calls k2 gb326 t341 (wrap64 (t342 + 1)) t343 t344 t345 t348 t349 t350 t351 w _ ?side1 ?side2 A33.out).mono ?_);(case side1 => repeat (first|(with_reducible first|exact HI326.out|apply IsS42.alloc|apply IsS42.drewN|apply IsS42.drew|apply IsS42.set_0|apply IsS42.set_1|apply IsS42.set_2|apply IsS42.set_3|(apply IsS42.far;(case hne => exact NB326_325.out)))|exact HI326.out));(case side2 => repeat (first|(with_reducible first|exact HB.out|apply below_alloc|apply pw_below_drewN|apply below_drew1|refine below_set ?_ (IsS42.ge HI326.out)|refine below_set ?_ GE325.out)|exact HB.out));rintro e w35 ⟨v346,rfl,ho0,hi,hb,hk⟩;refine ⟨_,rfl,?_⟩;have n0_:=Aside0.mk (Kd.R_mono (Kd.R_told (Kd.R_oldK (IsS42.apart (show IsS42 w _ gb326 t341 (wrap64 (t342 + 1)) t343 t344 from by repeat (first|(with_reducible first|exact HI326.out|apply IsS42.alloc|apply IsS42.drewN|apply IsS42.drew|apply IsS42.set_0|apply IsS42.set_1|apply IsS42.set_2|apply IsS42.set_3|(apply IsS42.far;(case hne => exact NB326_325.out)))|exact HI326.out)) (by (with_reducible repeat (first|apply Kd.R_alloc|apply Kd.R_drewN|apply Kd.R_drew));exact (Kd.R_mono (Kd.R_far (p:=⟨gb326,1,none⟩) (IsS42.apart HI326.out HO_5.out (by decide)) (fun _ hk => hk.2) (.int .i64 (wrap64 (t342 + 1)))) (fun _ h_ => h_.1))) (by decide)) hk) (Kd.R_base ho0)) (fun _ h_ => h_.1));have n1_:=Aside0.mk (KeepBut.blk hk (g':=gb325) (o:=.cells #[.int .i64 x326000_1,.int .i64 x326001_1] 27 (0,0)) (by (with_reducible repeat (first|refine blk_drewN ?_ _|refine blk_drew ?_|refine blk_alloc ?_ _));refine blk_far ?_ NB325_326.out _;(with_reducible repeat (first|refine blk_drewN ?_ _|refine blk_drew ?_|refine blk_alloc ?_ _));exact BK325.out) NB325_326.out (by simp));have n2_:=Aside0.mk (Kd.R_mono (Kd.R_told (Kd.R_oldK (IsS42.apart (show IsS42 w _ gb326 t341 (wrap64 (t342 + 1)) t343 t344 from by repeat (first|(with_reducible first|exact HI326.out|apply IsS42.alloc|apply IsS42.drewN|apply IsS42.drew|apply IsS42.set_0|apply IsS42.set_1|apply IsS42.set_2|apply IsS42.set_3|(apply IsS42.far;(case hne => exact NB326_325.out)))|exact HI326.out)) (by (with_reducible repeat (first|apply Kd.R_alloc|apply Kd.R_drewN|apply Kd.R_drew));exact (Kd.R_mono (Kd.R_far (p:=⟨gb326,1,none⟩) (IsS42.apart HI326.out HO339.out (by decide)) (fun _ hk => hk.2) (.int .i64 (wrap64 (t342 + 1)))) (fun _ h_ => h_.1))) (by decide)) hk) (Kd.R_base ho0)) (fun _ h_ => h_.1));have n3_:=Aside0.mk (Kd.R_lower (Kd.R_new' (Kd.R_new' ho0 (Kd.R_lt (by (with_reducible repeat (first|apply Kd.R_alloc|apply Kd.R_drewN|apply Kd.R_drew));exact (Kd.R_mono (Kd.R_far (p:=⟨gb326,1,none⟩) (IsS42.apart HI326.out HO_5.out (by decide)) (fun _ hk => hk.2) (.int .i64 (wrap64 (t342 + 1)))) (fun _ h_ => h_.1))))) (Kd.R_lt (by (with_reducible repeat (first|apply Kd.R_alloc|apply Kd.R_drewN|apply Kd.R_drew));exact (Kd.R_mono (Kd.R_far (p:=⟨gb326,1,none⟩) (IsS42.apart HI326.out HO339.out (by decide)) (fun _ hk => hk.2) (.int .i64 (wrap64 (t342 + 1)))) (fun _ h_ => h_.1))))) (below_size (by repeat (first|(with_reducible first|exact HB.out|apply below_alloc|apply pw_below_drewN|apply below_drew1|refine below_set ?_ (IsS42.ge HI326.out)|refine below_set ?_ GE325.out)|exact HB.out))));have n4_:=Aside0.mk (hb);have n5_:=Aside0.mk (hi);clear HO_5;clear BK325;clear HO339;clear HB;clear HI326;have HO_5:=n0_;have BK325:=n1_;have HO339:=n2_;have HO347:=n3_;have HB:=n4_;have HI326:=n5_;clear n0_ n1_ n2_ n3_ n4_ n5_;(try clear hb);(try clear hb2);(try clear hk);(try clear hi);(try clear ho0))));(go_meet)
             case rel => exact ⟨_,(t345),(t348),(t349),(t350),(t351),H',⟨by have:=HK1.out;have:=HK2.out;first|omega|exact Nat.le_refl _⟩,⟨by (with_reducible repeat (first|apply Kd.R_alloc|apply Kd.R_drewN|apply Kd.R_drew));exact Kd.R_mono HO_5.out (fun _ hk => hk.2)⟩,⟨by (with_reducible repeat (first|apply Kd.R_alloc|apply Kd.R_drewN|apply Kd.R_drew));exact Kd.R_mono HO347.out (fun _ hk => hk.1.2)⟩,⟨by (with_reducible repeat (first|refine blk_drewN ?_ _|refine blk_drew ?_|refine blk_alloc ?_ _));exact BK325.out⟩,⟨by repeat (first|(with_reducible first|exact HI326.out|apply IsS42.alloc|apply IsS42.drewN|apply IsS42.drew|apply IsS42.set_0|apply IsS42.set_1|apply IsS42.set_2|apply IsS42.set_3|(apply IsS42.far;(case hne => exact NB326_325.out)))|exact HI326.out)⟩,⟨by repeat (first|(with_reducible first|exact HB.out|apply below_alloc|apply pw_below_drewN|apply below_drew1|refine below_set ?_ (IsS42.ge HI326.out)|refine below_set ?_ GE325.out)|exact HB.out)⟩⟩
            ·(rw [if_neg c32] at H);(have c32b0 : (t340 == 91) = false:=beq_eq_false_iff_ne.mpr c32);(have c32b1 : (t340 != 91) = true:=bne_iff_ne.mpr c32);((first|rw [c32b0]|(simp only [i64_w,i32_w];rw [c32b0])|skip));(have H':=Aside0.mk H);(clear H);(go_wp2);(go_meet)
             case rel => exact ⟨_,(y337),(t341),(t342),(t343),(t344),H',⟨by have:=HK1.out;have:=HK2.out;first|omega|exact Nat.le_refl _⟩,⟨by (with_reducible repeat (first|apply Kd.R_alloc|apply Kd.R_drewN|apply Kd.R_drew));exact Kd.R_mono HO_5.out (fun _ hk => hk.2)⟩,⟨by (with_reducible repeat (first|apply Kd.R_alloc|apply Kd.R_drewN|apply Kd.R_drew));exact Kd.R_mono HO339.out (fun _ hk => hk.2)⟩,⟨by (with_reducible repeat (first|refine blk_drewN ?_ _|refine blk_drew ?_|refine blk_alloc ?_ _));exact BK325.out⟩,⟨by repeat (first|(with_reducible first|exact HI326.out|apply IsS42.alloc|apply IsS42.drewN|apply IsS42.drew|apply IsS42.set_0|apply IsS42.set_1|apply IsS42.set_2|apply IsS42.set_3|(apply IsS42.far;(case hne => exact NB326_325.out)))|exact HI326.out)⟩,⟨by repeat (first|(with_reducible first|exact HB.out|apply below_alloc|apply pw_below_drewN|apply below_drew1|refine below_set ?_ (IsS42.ge HI326.out)|refine below_set ?_ GE325.out)|exact HB.out)⟩⟩
           case rest =>
            (clear HC26);(try clear c1);(try clear c2);(try clear c2b0);(try clear c2b1);(try clear p2);(try clear c3);(try clear p6);(try clear c10);(try clear c11);(try clear c14);(try clear c14b0);(try clear c14b1);(try clear c19);(try clear c20);(try clear c21);(try clear c22);(try clear c22b0);(try clear c22b1);(try clear c23);(try clear c23b0);(try clear c23b1);(try clear c24);(try clear c24b0);(try clear c24b1);(try clear c32);(try clear c32b0);(try clear c32b1);(try clear hcz13_0);(try clear hcz13_1);(try clear hcz13_2);(try clear hcz13_3);(try clear hcz17_0);(try clear hcz17_1);(try clear hcz17_2);(try clear hcz17_3);(try clear hcz28_0);(try clear hcz28_1);(try clear hcz28_2);(try clear hcz28_3);(try clear hcz34_0);(try clear hcz34_1);(try clear hcz34_2);(try clear hcz34_3);(try clear hcz4_0);(try clear hcz4_1);(try clear hcz7_0);(try clear hcz7_1);(try clear hcz7_2);(try clear hcz7_3);(try clear hcz8_0);(try clear hcz8_1);(try clear hcz8_2);(try clear hcz8_3);(try clear hfz13_0);(try clear hfz13_1);(try clear hfz13_2);(try clear hfz13_3);(try clear hfz17_0);(try clear hfz17_1);(try clear hfz17_2);(try clear hfz17_3);(try clear hfz28_0);(try clear hfz28_1);(try clear hfz28_2);(try clear hfz28_3);(try clear hfz34_0);(try clear hfz34_1);(try clear hfz34_2);(try clear hfz34_3);(try clear hfz4_0);(try clear hfz4_1);(try clear hfz7_0);(try clear hfz7_1);(try clear hfz7_2);(try clear hfz7_3);(try clear hfz8_0);(try clear hfz8_1);(try clear hfz8_2);(try clear hfz8_3);(try clear p2);(obtain ⟨kq,x8_25,x327000_25,x327001_25,x327002_25,x327003_25,HA,HJ25,HO_5,HO_8,BK325,HI326,HB⟩:=hcut)
            cases kq with
           |zero => exact absurd HA.out (by simp [marlinspikeref05_Expand.j2])
           |succ kj25 =>
             (have H:=HA.out);(clear HA);(simp only [marlinspikeref05_Expand.j2] at H);(have HC36:=Aside0.mk H);(clear H);(go_upto_region 16 with (fail));(go_cut [62] (fun v62 wc => ∃ (kq : Nat) (x62_35 : Bool),v62 = .bool x62_35∧Aside0 (marlinspikeref05_Expand.j3 kq a0 x5_1 x327001_1 (a0.extract (x327001_1 : Int).toNat (t329 : Int).toNat) x8_25 x62_35 x327000_25 x327001_25 x327002_25 x327003_25 = some (r1,r2,r3))∧Aside0 (kq ≤ kj25)∧Aside0 (Kd.R Kd.string 9 wc w.heap.size (fun k_ => some k_ ≠ (u8 : Value).ownBlock) u5 x5_1)∧Aside0 (Kd.R Kd.string 9 wc w.heap.size (fun k_ => some k_ ≠ (u5 : Value).ownBlock) u8 x8_25)∧Aside0 (wc.heap[gb325]? = some (.cells #[.int .i64 x326000_1,.int .i64 x326001_1] 27 (0,0)))∧Aside0 (IsS42 w wc gb326 x327000_25 x327001_25 x327002_25 x327003_25)∧Aside0 (Below w.heap.size w wc)))
             case first =>
              (have H:=HC36.out);(clear HC36);(by_cases c37 : x327002_25 = 0)
              ·(rw [if_pos c37] at H);(have c37b0 : (x327002_25 == 0) = true:=beq_iff_eq.mpr c37);(have c37b1 : (x327002_25 != 0) = false:=bne_eq_false_iff_eq.mpr c37);(clear c37);((first|rw [c37b0]|(simp only [i64_w,i32_w];rw [c37b0])|skip));(by_cases c38 : x327001_25 < (a0.size : Int))
               ·(rw [if_pos c38] at H);(have c38b0 : decide (x327001_25 < (a0.size : Int)) = true:=decide_eq_true c38);(clear c38);(by_cases c39 : 0 ≤ x327001_25)
                ·(rw [if_pos c39] at H);(have c39b0 : decide (0 ≤ x327001_25) = true:=decide_eq_true c39);(clear c39);(have H':=Aside0.mk H);(clear H);(obtain ⟨HGz41,hgz41⟩:=HI326.out);(have hcz41_0:=cellS42_0 HGz41);(have hcz41_1:=cellS42_1 HGz41);(have hcz41_2:=cellS42_2 HGz41);(have hcz41_3:=cellS42_3 HGz41);(have hfz41_0:=blk_frozen HGz41 0);(have hfz41_1:=blk_frozen HGz41 1);(have hfz41_2:=blk_frozen HGz41 2);(have hfz41_3:=blk_frozen HGz41 3);(clear HGz41 hgz41);(have p40 : 0 ≤ (x327001_25 : Int):=of_decide_eq_true (by first|(with_reducible assumption)|assumption));(have q40 : x327001_25 < (a0.size : Int):=of_decide_eq_true (by first|(with_reducible assumption)|assumption));(have hx40:=bt_at a0 x327001_25);(replace p40:=eq_true p40);(replace q40:=eq_true q40);(go_wp2);(go_meet)
                 case rel => exact ⟨_,(((bt a0 x327001_25) != 44)),(by first|rfl|(simp;done)|(simp [*];done)),H',⟨by have:=HK1.out;have:=HK2.out;have:=HJ25.out;first|omega|exact Nat.le_refl _⟩,⟨by (with_reducible repeat (first|apply Kd.R_alloc|apply Kd.R_drewN|apply Kd.R_drew));exact HO_5.out⟩,⟨by (with_reducible repeat (first|apply Kd.R_alloc|apply Kd.R_drewN|apply Kd.R_drew));exact HO_8.out⟩,⟨by (with_reducible repeat (first|refine blk_drewN ?_ _|refine blk_drew ?_|refine blk_alloc ?_ _));exact BK325.out⟩,⟨by repeat (first|(with_reducible first|exact HI326.out|apply IsS42.alloc|apply IsS42.drewN|apply IsS42.drew|apply IsS42.set_0|apply IsS42.set_1|apply IsS42.set_2|apply IsS42.set_3|(apply IsS42.far;(case hne => exact NB326_325.out)))|exact HI326.out)⟩,⟨by repeat (first|(with_reducible first|exact HB.out|apply below_alloc|apply pw_below_drewN|apply below_drew1|refine below_set ?_ (IsS42.ge HI326.out)|refine below_set ?_ GE325.out)|exact HB.out)⟩⟩
                ·(rw [if_neg c39] at H);(exact absurd H (by simp))
               ·(rw [if_neg c38] at H);(have c38b0 : decide (x327001_25 < (a0.size : Int)) = false:=decide_eq_false c38);(clear c38);(have H':=Aside0.mk H);(clear H);(obtain ⟨HGz42,hgz42⟩:=HI326.out);(have hcz42_0:=cellS42_0 HGz42);(have hcz42_1:=cellS42_1 HGz42);(have hcz42_2:=cellS42_2 HGz42);(have hcz42_3:=cellS42_3 HGz42);(have hfz42_0:=blk_frozen HGz42 0);(have hfz42_1:=blk_frozen HGz42 1);(have hfz42_2:=blk_frozen HGz42 2);(have hfz42_3:=blk_frozen HGz42 3);(clear HGz42 hgz42);(go_wp2);(go_meet)
                case rel => exact ⟨_,(false),(by first|rfl|(simp;done)|(simp [*];done)),H',⟨by have:=HK1.out;have:=HK2.out;have:=HJ25.out;first|omega|exact Nat.le_refl _⟩,⟨by (with_reducible repeat (first|apply Kd.R_alloc|apply Kd.R_drewN|apply Kd.R_drew));exact HO_5.out⟩,⟨by (with_reducible repeat (first|apply Kd.R_alloc|apply Kd.R_drewN|apply Kd.R_drew));exact HO_8.out⟩,⟨by (with_reducible repeat (first|refine blk_drewN ?_ _|refine blk_drew ?_|refine blk_alloc ?_ _));exact BK325.out⟩,⟨by repeat (first|(with_reducible first|exact HI326.out|apply IsS42.alloc|apply IsS42.drewN|apply IsS42.drew|apply IsS42.set_0|apply IsS42.set_1|apply IsS42.set_2|apply IsS42.set_3|(apply IsS42.far;(case hne => exact NB326_325.out)))|exact HI326.out)⟩,⟨by repeat (first|(with_reducible first|exact HB.out|apply below_alloc|apply pw_below_drewN|apply below_drew1|refine below_set ?_ (IsS42.ge HI326.out)|refine below_set ?_ GE325.out)|exact HB.out)⟩⟩
              ·(rw [if_neg c37] at H);(have c37b0 : (x327002_25 == 0) = false:=beq_eq_false_iff_ne.mpr c37);(have c37b1 : (x327002_25 != 0) = true:=bne_iff_ne.mpr c37);((first|rw [c37b0]|(simp only [i64_w,i32_w];rw [c37b0])|skip));(have H':=Aside0.mk H);(clear H);(obtain ⟨HGz43,hgz43⟩:=HI326.out);(have hcz43_0:=cellS42_0 HGz43);(have hcz43_1:=cellS42_1 HGz43);(have hcz43_2:=cellS42_2 HGz43);(have hcz43_3:=cellS42_3 HGz43);(have hfz43_0:=blk_frozen HGz43 0);(have hfz43_1:=blk_frozen HGz43 1);(have hfz43_2:=blk_frozen HGz43 2);(have hfz43_3:=blk_frozen HGz43 3);(clear HGz43 hgz43);(go_wp2);(go_meet)
               case rel => exact ⟨_,(false),(by first|rfl|(simp;done)|(simp [*];done)),H',⟨by have:=HK1.out;have:=HK2.out;have:=HJ25.out;first|omega|exact Nat.le_refl _⟩,⟨by (with_reducible repeat (first|apply Kd.R_alloc|apply Kd.R_drewN|apply Kd.R_drew));exact HO_5.out⟩,⟨by (with_reducible repeat (first|apply Kd.R_alloc|apply Kd.R_drewN|apply Kd.R_drew));exact HO_8.out⟩,⟨by (with_reducible repeat (first|refine blk_drewN ?_ _|refine blk_drew ?_|refine blk_alloc ?_ _));exact BK325.out⟩,⟨by repeat (first|(with_reducible first|exact HI326.out|apply IsS42.alloc|apply IsS42.drewN|apply IsS42.drew|apply IsS42.set_0|apply IsS42.set_1|apply IsS42.set_2|apply IsS42.set_3|(apply IsS42.far;(case hne => exact NB326_325.out)))|exact HI326.out)⟩,⟨by repeat (first|(with_reducible first|exact HB.out|apply below_alloc|apply pw_below_drewN|apply below_drew1|refine below_set ?_ (IsS42.ge HI326.out)|refine below_set ?_ GE325.out)|exact HB.out)⟩⟩
             case rest =>
              (clear HC36);(try clear c1);(try clear c2);(try clear c2b0);(try clear c2b1);(try clear p2);(try clear c3);(try clear p4);(try clear q4);(try clear hx4);(try clear p6);(try clear c10);(try clear c11);(try clear c14);(try clear c14b0);(try clear c14b1);(try clear c19);(try clear c20);(try clear c21);(try clear c22);(try clear c22b0);(try clear c22b1);(try clear c23);(try clear c23b0);(try clear c23b1);(try clear c24);(try clear c24b0);(try clear c24b1);(try clear c32);(try clear c32b0);(try clear c32b1);(try clear c37);(try clear c37b0);(try clear c37b1);(try clear c38);(try clear c38b0);(try clear c39);(try clear c39b0);(try clear p40);(try clear q40);(try clear hx40);(try clear hcz13_0);(try clear hcz13_1);(try clear hcz13_2);(try clear hcz13_3);(try clear hcz17_0);(try clear hcz17_1);(try clear hcz17_2);(try clear hcz17_3);(try clear hcz28_0);(try clear hcz28_1);(try clear hcz28_2);(try clear hcz28_3);(try clear hcz34_0);(try clear hcz34_1);(try clear hcz34_2);(try clear hcz34_3);(try clear hcz41_0);(try clear hcz41_1);(try clear hcz41_2);(try clear hcz41_3);(try clear hcz42_0);(try clear hcz42_1);(try clear hcz42_2);(try clear hcz42_3);(try clear hcz43_0);(try clear hcz43_1);(try clear hcz43_2);(try clear hcz43_3);(try clear hcz4_0);(try clear hcz4_1);(try clear hcz7_0);(try clear hcz7_1);(try clear hcz7_2);(try clear hcz7_3);(try clear hcz8_0);(try clear hcz8_1);(try clear hcz8_2);(try clear hcz8_3);(try clear hfz13_0);(try clear hfz13_1);(try clear hfz13_2);(try clear hfz13_3);(try clear hfz17_0);(try clear hfz17_1);(try clear hfz17_2);(try clear hfz17_3);(try clear hfz28_0);(try clear hfz28_1);(try clear hfz28_2);(try clear hfz28_3);(try clear hfz34_0);(try clear hfz34_1);(try clear hfz34_2);(try clear hfz34_3);(try clear hfz41_0);(try clear hfz41_1);(try clear hfz41_2);(try clear hfz41_3);(try clear hfz42_0);(try clear hfz42_1);(try clear hfz42_2);(try clear hfz42_3);(try clear hfz43_0);(try clear hfz43_1);(try clear hfz43_2);(try clear hfz43_3);(try clear hfz4_0);(try clear hfz4_1);(try clear hfz7_0);(try clear hfz7_1);(try clear hfz7_2);(try clear hfz7_3);(try clear hfz8_0);(try clear hfz8_1);(try clear hfz8_2);(try clear hfz8_3);(try clear p2);(try clear p40);(try clear p6);(try clear q40);(obtain ⟨kq,x62_35,rfl,HA,HJ35,HO_5,HO_8,BK325,HI326,HB⟩:=hcut)
              cases kq with
             |zero => exact absurd HA.out (by simp [marlinspikeref05_Expand.j3])
             |succ kj35 =>
               (have H:=HA.out);(clear HA);(simp only [marlinspikeref05_Expand.j3] at H);(have HC44:=Aside0.mk H);(clear H);(go_upto_if 62 with (fail));(go_cut [] (fun wc => ∃ (kq : Nat) (x327000_43 : ByteArray) (x327001_43 : Int) (x327002_43 : Int) (x327003_43 : Int),Aside0 (marlinspikeref05_Expand.j4 kq a0 x5_1 x327001_1 (a0.extract (x327001_1 : Int).toNat (t329 : Int).toNat) x8_25 x327000_43 x327001_43 x327002_43 x327003_43 = some (r1,r2,r3))∧Aside0 (kq ≤ kj35)∧Aside0 (Kd.R Kd.string 9 wc w.heap.size (fun k_ => some k_ ≠ (u8 : Value).ownBlock) u5 x5_1)∧Aside0 (Kd.R Kd.string 9 wc w.heap.size (fun k_ => some k_ ≠ (u5 : Value).ownBlock) u8 x8_25)∧Aside0 (wc.heap[gb325]? = some (.cells #[.int .i64 x326000_1,.int .i64 x326001_1] 27 (0,0)))∧Aside0 (IsS42 w wc gb326 x327000_43 x327001_43 x327002_43 x327003_43)∧Aside0 (Below w.heap.size w wc)))
               case first =>
                (have H:=HC44.out);(clear HC44);(by_cases c45 : x62_35 = true)
                ·(subst c45);(have H1 : ((marlinspikeref05_reader_wrong.f x327000_25 x327001_25 x327002_25 x327003_25 x327001_25).bind fun bt352 => (marlinspikeref05_Expand.j4 kj35 a0 x5_1 x327001_1 (a0.extract (x327001_1 : Int).toNat (t329 : Int).toNat) x8_25 bt352.1 bt352.2.1 bt352.2.2.1 bt352.2.2.2)) = some (r1,r2,r3):=by rw [if_pos rfl] at H;exact H);(clear H);(have H:=H1);(clear H1);(replace H:=Option.bind_eq_some_iff.mp H);(obtain ⟨⟨t352,t353,t354,t355⟩,A460,H⟩:=H);(replace H : (marlinspikeref05_Expand.j4 kj35 a0 x5_1 x327001_1 (a0.extract (x327001_1 : Int).toNat (t329 : Int).toNat) x8_25 t352 t353 t354 t355) = some (r1,r2,r3):=H);(have A46:=Aside0.mk A460);(clear A460);(have H':=Aside0.mk H);(clear H);(obtain ⟨HGz47,hgz47⟩:=HI326.out);(have hcz47_0:=cellS42_0 HGz47);(have hcz47_1:=cellS42_1 HGz47);(have hcz47_2:=cellS42_2 HGz47);(have hcz47_3:=cellS42_3 HGz47);(have hfz47_0:=blk_frozen HGz47 0);(have hfz47_1:=blk_frozen HGz47 1);(have hfz47_2:=blk_frozen HGz47 2);(have hfz47_3:=blk_frozen HGz47 3);(clear HGz47 hgz47);(go_wp2_with (first|((with_reducible refine gate_callee (f:=21) rfl ?_);refine goesL_ (some 65) rfl rfl Tryd.func21 (by kernel_rfl) rfl #[.pointer (some ⟨gb326,0,none⟩),.int .i64 x327001_25] rfl (by (try simp only [List.map_toArray,List.map_cons,List.map_nil]);first|done|rfl|(simp only [List.length_drop,List.length_take];rfl)) ?_;(with_reducible refine (marlinspikeref05_reader_wrong.calls gb326 x327000_25 x327001_25 x327002_25 x327003_25 x327001_25 t352 t353 t354 t355 w _ ?side1 ?side2 A46.out).mono ?_);(case side1 => repeat (first|(with_reducible first|exact HI326.out|apply IsS42.alloc|apply IsS42.drewN|apply IsS42.drew|apply IsS42.set_0|apply IsS42.set_1|apply IsS42.set_2|apply IsS42.set_3|(apply IsS42.far;(case hne => exact NB326_325.out)))|exact HI326.out));(case side2 => repeat (first|(with_reducible first|exact HB.out|apply below_alloc|apply pw_below_drewN|apply below_drew1|refine below_set ?_ (IsS42.ge HI326.out)|refine below_set ?_ GE325.out)|exact HB.out));rintro e w48 ⟨rfl,hi,hb,hk⟩;refine ⟨_,rfl,?_⟩;have n0_:=Aside0.mk (Kd.R_mono (Kd.R_keep (IsS42.apart (show IsS42 w _ gb326 x327000_25 x327001_25 x327002_25 x327003_25 from by repeat (first|(with_reducible first|exact HI326.out|apply IsS42.alloc|apply IsS42.drewN|apply IsS42.drew|apply IsS42.set_0|apply IsS42.set_1|apply IsS42.set_2|apply IsS42.set_3|(apply IsS42.far;(case hne => exact NB326_325.out)))|exact HI326.out)) (by (with_reducible repeat (first|apply Kd.R_alloc|apply Kd.R_drewN|apply Kd.R_drew));exact HO_5.out) (by decide)) hk (fun _ h => h.2)) (fun _ h => h.1));have n1_:=Aside0.mk (Kd.R_mono (Kd.R_keep (IsS42.apart (show IsS42 w _ gb326 x327000_25 x327001_25 x327002_25 x327003_25 from by repeat (first|(with_reducible first|exact HI326.out|apply IsS42.alloc|apply IsS42.drewN|apply IsS42.drew|apply IsS42.set_0|apply IsS42.set_1|apply IsS42.set_2|apply IsS42.set_3|(apply IsS42.far;(case hne => exact NB326_325.out)))|exact HI326.out)) (by (with_reducible repeat (first|apply Kd.R_alloc|apply Kd.R_drewN|apply Kd.R_drew));exact HO_8.out) (by decide)) hk (fun _ h => h.2)) (fun _ h => h.1));have n2_:=Aside0.mk (KeepBut.blk hk (g':=gb325) (o:=.cells #[.int .i64 x326000_1,.int .i64 x326001_1] 27 (0,0)) (by (with_reducible repeat (first|refine blk_drewN ?_ _|refine blk_drew ?_|refine blk_alloc ?_ _));exact BK325.out) NB325_326.out (by simp));have n3_:=Aside0.mk (hb);have n4_:=Aside0.mk (hi);clear HO_5;clear HO_8;clear BK325;clear HB;clear HI326;have HO_5:=n0_;have HO_8:=n1_;have BK325:=n2_;have HB:=n3_;have HI326:=n4_;clear n0_ n1_ n2_ n3_ n4_;(try clear hb);(try clear hb2);(try clear hk);(try clear hi))));(go_meet)
                 case rel => exact ⟨_,(t352),(t353),(t354),(t355),H',⟨by have:=HK1.out;have:=HK2.out;have:=HJ25.out;have:=HJ35.out;first|omega|exact Nat.le_refl _⟩,⟨by (with_reducible repeat (first|apply Kd.R_alloc|apply Kd.R_drewN|apply Kd.R_drew));exact HO_5.out⟩,⟨by (with_reducible repeat (first|apply Kd.R_alloc|apply Kd.R_drewN|apply Kd.R_drew));exact HO_8.out⟩,⟨by (with_reducible repeat (first|refine blk_drewN ?_ _|refine blk_drew ?_|refine blk_alloc ?_ _));exact BK325.out⟩,⟨by repeat (first|(with_reducible first|exact HI326.out|apply IsS42.alloc|apply IsS42.drewN|apply IsS42.drew|apply IsS42.set_0|apply IsS42.set_1|apply IsS42.set_2|apply IsS42.set_3|(apply IsS42.far;(case hne => exact NB326_325.out)))|exact HI326.out)⟩,⟨by repeat (first|(with_reducible first|exact HB.out|apply below_alloc|apply pw_below_drewN|apply below_drew1|refine below_set ?_ (IsS42.ge HI326.out)|refine below_set ?_ GE325.out)|exact HB.out)⟩⟩
                ·(replace c45:=Bool.eq_false_iff.mpr c45);(subst c45);(have H1 : (marlinspikeref05_Expand.j4 kj35 a0 x5_1 x327001_1 (a0.extract (x327001_1 : Int).toNat (t329 : Int).toNat) x8_25 x327000_25 x327001_25 x327002_25 x327003_25) = some (r1,r2,r3):=by rw [if_neg (show ¬ (false = true) by decide)] at H;exact H);(clear H);(have H:=H1);(clear H1);(have H':=Aside0.mk H);(clear H);(go_wp2);(go_meet)
                 case rel => exact ⟨_,(x327000_25),(x327001_25),(x327002_25),(x327003_25),H',⟨by have:=HK1.out;have:=HK2.out;have:=HJ25.out;have:=HJ35.out;first|omega|exact Nat.le_refl _⟩,⟨by (with_reducible repeat (first|apply Kd.R_alloc|apply Kd.R_drewN|apply Kd.R_drew));exact HO_5.out⟩,⟨by (with_reducible repeat (first|apply Kd.R_alloc|apply Kd.R_drewN|apply Kd.R_drew));exact HO_8.out⟩,⟨by (with_reducible repeat (first|refine blk_drewN ?_ _|refine blk_drew ?_|refine blk_alloc ?_ _));exact BK325.out⟩,⟨by repeat (first|(with_reducible first|exact HI326.out|apply IsS42.alloc|apply IsS42.drewN|apply IsS42.drew|apply IsS42.set_0|apply IsS42.set_1|apply IsS42.set_2|apply IsS42.set_3|(apply IsS42.far;(case hne => exact NB326_325.out)))|exact HI326.out)⟩,⟨by repeat (first|(with_reducible first|exact HB.out|apply below_alloc|apply pw_below_drewN|apply below_drew1|refine below_set ?_ (IsS42.ge HI326.out)|refine below_set ?_ GE325.out)|exact HB.out)⟩⟩
               case rest =>
                (clear HC44);(try clear c1);(try clear c2);(try clear c2b0);(try clear c2b1);(try clear p2);(try clear c3);(try clear c4);(try clear p4);(try clear q4);(try clear hx4);(try clear p6);(try clear c10);(try clear c11);(try clear c14);(try clear c14b0);(try clear c14b1);(try clear c19);(try clear c20);(try clear c21);(try clear c22);(try clear c22b0);(try clear c22b1);(try clear c23);(try clear c23b0);(try clear c23b1);(try clear c24);(try clear c24b0);(try clear c24b1);(try clear c32);(try clear c32b0);(try clear c32b1);(try clear c37);(try clear c37b0);(try clear c37b1);(try clear c38);(try clear c38b0);(try clear c39);(try clear c39b0);(try clear p40);(try clear q40);(try clear hx40);(try clear c45);(try clear hcz13_0);(try clear hcz13_1);(try clear hcz13_2);(try clear hcz13_3);(try clear hcz17_0);(try clear hcz17_1);(try clear hcz17_2);(try clear hcz17_3);(try clear hcz28_0);(try clear hcz28_1);(try clear hcz28_2);(try clear hcz28_3);(try clear hcz34_0);(try clear hcz34_1);(try clear hcz34_2);(try clear hcz34_3);(try clear hcz41_0);(try clear hcz41_1);(try clear hcz41_2);(try clear hcz41_3);(try clear hcz42_0);(try clear hcz42_1);(try clear hcz42_2);(try clear hcz42_3);(try clear hcz43_0);(try clear hcz43_1);(try clear hcz43_2);(try clear hcz43_3);(try clear hcz47_0);(try clear hcz47_1);(try clear hcz47_2);(try clear hcz47_3);(try clear hcz4_0);(try clear hcz4_1);(try clear hcz7_0);(try clear hcz7_1);(try clear hcz7_2);(try clear hcz7_3);(try clear hcz8_0);(try clear hcz8_1);(try clear hcz8_2);(try clear hcz8_3);(try clear hfz13_0);(try clear hfz13_1);(try clear hfz13_2);(try clear hfz13_3);(try clear hfz17_0);(try clear hfz17_1);(try clear hfz17_2);(try clear hfz17_3);(try clear hfz28_0);(try clear hfz28_1);(try clear hfz28_2);(try clear hfz28_3);(try clear hfz34_0);(try clear hfz34_1);(try clear hfz34_2);(try clear hfz34_3);(try clear hfz41_0);(try clear hfz41_1);(try clear hfz41_2);(try clear hfz41_3);(try clear hfz42_0);(try clear hfz42_1);(try clear hfz42_2);(try clear hfz42_3);(try clear hfz43_0);(try clear hfz43_1);(try clear hfz43_2);(try clear hfz43_3);(try clear hfz47_0);(try clear hfz47_1);(try clear hfz47_2);(try clear hfz47_3);(try clear hfz4_0);(try clear hfz4_1);(try clear hfz7_0);(try clear hfz7_1);(try clear hfz7_2);(try clear hfz7_3);(try clear hfz8_0);(try clear hfz8_1);(try clear hfz8_2);(try clear hfz8_3);(try clear p2);(try clear p4);(try clear p40);(try clear p6);(try clear q4);(try clear q40);(obtain ⟨kq,x327000_43,x327001_43,x327002_43,x327003_43,HA,HJ43,HO_5,HO_8,BK325,HI326,HB⟩:=hcut)
                cases kq with
               |zero => exact absurd HA.out (by simp [marlinspikeref05_Expand.j4])
               |succ kj43 =>
                 (have H:=HA.out);(clear HA);(simp only [marlinspikeref05_Expand.j4] at H);(by_cases c49 : x327002_43 = 0)
                 ·(rw [if_pos c49] at H);(have c49b0 : (x327002_43 == 0) = true:=beq_iff_eq.mpr c49);(have c49b1 : (x327002_43 != 0) = false:=bne_eq_false_iff_eq.mpr c49);(clear c49);(by_cases c50 : (wrap64 ((x5_1.length : Int) + (x8_25.length : Int))) > 256)
                  ·(rw [if_pos c50] at H);(have c50b0 : decide (256 < (wrap64 ((x5_1.length : Int) + (x8_25.length : Int)))) = true:=decide_eq_true c50);(clear c50);(simp only [Option.some.injEq,Prod.mk.injEq] at H);(obtain ⟨rfl,rfl,rfl⟩:=H);(obtain ⟨HGz51,hgz51⟩:=HI326.out);(have hcz51_0:=cellS42_0 HGz51);(have hcz51_1:=cellS42_1 HGz51);(have hcz51_2:=cellS42_2 HGz51);(have hcz51_3:=cellS42_3 HGz51);(have hfz51_0:=blk_frozen HGz51 0);(have hfz51_1:=blk_frozen HGz51 1);(have hfz51_2:=blk_frozen HGz51 2);(have hfz51_3:=blk_frozen HGz51 3);(clear HGz51 hgz51);(obtain ⟨Ao52,co52,eo52⟩:=Kd.R_slice HO_5.out);(subst eo52);(obtain ⟨Ao53,co53,eo53⟩:=Kd.R_slice HO_8.out);(subst eo53);(have hnb54:=NB325_326.out);(have hnc54:=NB326_325.out);(have hcz55_0 : wc.cell? ⟨gb325,0,none⟩ = some (.int .i64 x326000_1):=(blk_cell BK325.out 0).trans rfl);(have hcz55_1 : wc.cell? ⟨gb325,1,none⟩ = some (.int .i64 x326001_1):=(blk_cell BK325.out 1).trans rfl);(have hfz55_0:=blk_frozen BK325.out 0);(have hfz55_1:=blk_frozen BK325.out 1);(go_wp2);(refine bodyPost_ret (results_tc rfl _ _ gb325 27 #[.int .i64 5,.int .i64 x327001_1] (0,0) _ rfl (by (with_reducible repeat (first|refine blk_drewN ?_ _|refine blk_drew ?_|refine blk_alloc ?_ _));refine blk_put (cs:=#[.int .i64 5,.int .i64 x326001_1]) ?_ 1 _ rfl;(with_reducible repeat (first|refine blk_drewN ?_ _|refine blk_drew ?_|refine blk_alloc ?_ _));refine blk_put (cs:=#[.int .i64 x326000_1,.int .i64 x326001_1]) ?_ 0 _ rfl;(with_reducible repeat (first|refine blk_drewN ?_ _|refine blk_drew ?_|refine blk_alloc ?_ _));exact BK325.out) Tryd.underlying27 rfl (by kernel_rfl)) rfl ?_);(exact ⟨_,by first|rfl|(simp [errW_none,errW_some] <;> rfl)|(simp [*,errW_none,errW_some] <;> rfl),by first|exact Kd.R_nil _ _ _ _ _|exact Kd.N_nil _ _ _ _ _|exact Kd.V_nil _ _ _ _ _|exact Kd.Q_nil _ _ _ _ _|exact Kd.S_nil _ _ _ _ _,by repeat (first|(with_reducible first|exact HB.out|apply below_alloc|apply pw_below_drewN|apply below_drew1|refine below_set ?_ (IsS42.ge HI326.out)|refine below_set ?_ GE325.out)|exact HB.out)⟩)
                  ·(rw [if_neg c50] at H);(have c50b0 : decide (256 < (wrap64 ((x5_1.length : Int) + (x8_25.length : Int)))) = false:=decide_eq_false c50);(clear c50);(have H':=Aside0.mk H);(clear H);(obtain ⟨HGz56,hgz56⟩:=HI326.out);(have hcz56_0:=cellS42_0 HGz56);(have hcz56_1:=cellS42_1 HGz56);(have hcz56_2:=cellS42_2 HGz56);(have hcz56_3:=cellS42_3 HGz56);(have hfz56_0:=blk_frozen HGz56 0);(have hfz56_1:=blk_frozen HGz56 1);(have hfz56_2:=blk_frozen HGz56 2);(have hfz56_3:=blk_frozen HGz56 3);(clear HGz56 hgz56);(obtain ⟨Ao57,co57,eo57⟩:=Kd.R_slice HO_5.out);(subst eo57);(obtain ⟨Ao58,co58,eo58⟩:=Kd.R_slice HO_8.out);(subst eo58);(go_wp2);(go_loopg [5,9] kj43 (fun kq v5 v9 w' => ∃ (x5_6 : List ByteArray) (x9_6 : Int),v9 = .int .i64 x9_6∧Aside0 (marlinspikeref05_Expand.l2 kq a0 x5_6 (a0.extract (x327001_1 : Int).toNat (t329 : Int).toNat) x8_25 x9_6 x327000_43 x327001_43 x327002_43 x327003_43 = some (r1,r2,r3))∧Aside0 (kq ≤ kj43)∧Aside0 (Kd.R Kd.string 9 w' w.heap.size (fun k_ => some k_ ≠ ((.slice Ao58 x8_25.length co58) : Value).ownBlock) v5 x5_6)∧Aside0 (Kd.R Kd.string 9 w' w.heap.size (fun k_ => some k_ ≠ (v5 : Value).ownBlock) (.slice Ao58 x8_25.length co58) x8_25)∧Aside0 (w'.heap[gb325]? = some (.cells #[.int .i64 x326000_1,.int .i64 x326001_1] 27 (0,0)))∧Aside0 (IsS42 w w' gb326 x327000_43 x327001_43 x327002_43 x327003_43)∧Aside0 (Below w.heap.size w w')))
                   case atStart => exact ⟨(x5_1),(0),(by first|rfl|(simp;done)|(simp [*];done)),H',⟨Nat.le_refl _⟩,⟨by (with_reducible repeat (first|apply Kd.R_alloc|apply Kd.R_drewN|apply Kd.R_drew));exact HO_5.out⟩,⟨by (with_reducible repeat (first|apply Kd.R_alloc|apply Kd.R_drewN|apply Kd.R_drew));exact HO_8.out⟩,⟨by (with_reducible repeat (first|refine blk_drewN ?_ _|refine blk_drew ?_|refine blk_alloc ?_ _));exact BK325.out⟩,⟨by repeat (first|(with_reducible first|exact HI326.out|apply IsS42.alloc|apply IsS42.drewN|apply IsS42.drew|apply IsS42.set_0|apply IsS42.set_1|apply IsS42.set_2|apply IsS42.set_3|(apply IsS42.far;(case hne => exact NB326_325.out)))|exact HI326.out)⟩,⟨by repeat (first|(with_reducible first|exact HB.out|apply below_alloc|apply pw_below_drewN|apply below_drew1|refine below_set ?_ (IsS42.ge HI326.out)|refine below_set ?_ GE325.out)|exact HB.out)⟩⟩
                   case round =>
                    (clear H');(try clear c1);(try clear c2);(try clear c2b0);(try clear c2b1);(try clear p2);(try clear c3);(try clear c4);(try clear p4);(try clear q4);(try clear hx4);(try clear c5);(try clear p6);(try clear c10);(try clear c11);(try clear c14);(try clear c14b0);(try clear c14b1);(try clear c19);(try clear c20);(try clear c21);(try clear c22);(try clear c22b0);(try clear c22b1);(try clear c23);(try clear c23b0);(try clear c23b1);(try clear c24);(try clear c24b0);(try clear c24b1);(try clear c32);(try clear c32b0);(try clear c32b1);(try clear c37);(try clear c37b0);(try clear c37b1);(try clear c38);(try clear c38b0);(try clear c39);(try clear c39b0);(try clear p40);(try clear q40);(try clear hx40);(try clear c45);(try clear c49);(try clear c49b0);(try clear c49b1);(try clear c50);(try clear c50b0);(try clear c54);(try clear hcz13_0);(try clear hcz13_1);(try clear hcz13_2);(try clear hcz13_3);(try clear hcz17_0);(try clear hcz17_1);(try clear hcz17_2);(try clear hcz17_3);(try clear hcz28_0);(try clear hcz28_1);(try clear hcz28_2);(try clear hcz28_3);(try clear hcz34_0);(try clear hcz34_1);(try clear hcz34_2);(try clear hcz34_3);(try clear hcz41_0);(try clear hcz41_1);(try clear hcz41_2);(try clear hcz41_3);(try clear hcz42_0);(try clear hcz42_1);(try clear hcz42_2);(try clear hcz42_3);(try clear hcz43_0);(try clear hcz43_1);(try clear hcz43_2);(try clear hcz43_3);(try clear hcz47_0);(try clear hcz47_1);(try clear hcz47_2);(try clear hcz47_3);(try clear hcz4_0);(try clear hcz4_1);(try clear hcz51_0);(try clear hcz51_1);(try clear hcz51_2);(try clear hcz51_3);(try clear hcz55_0);(try clear hcz55_1);(try clear hcz56_0);(try clear hcz56_1);(try clear hcz56_2);(try clear hcz56_3);(try clear hcz7_0);(try clear hcz7_1);(try clear hcz7_2);(try clear hcz7_3);(try clear hcz8_0);(try clear hcz8_1);(try clear hcz8_2);(try clear hcz8_3);(try clear hfz13_0);(try clear hfz13_1);(try clear hfz13_2);(try clear hfz13_3);(try clear hfz17_0);(try clear hfz17_1);(try clear hfz17_2);(try clear hfz17_3);(try clear hfz28_0);(try clear hfz28_1);(try clear hfz28_2);(try clear hfz28_3);(try clear hfz34_0);(try clear hfz34_1);(try clear hfz34_2);(try clear hfz34_3);(try clear hfz41_0);(try clear hfz41_1);(try clear hfz41_2);(try clear hfz41_3);(try clear hfz42_0);(try clear hfz42_1);(try clear hfz42_2);(try clear hfz42_3);(try clear hfz43_0);(try clear hfz43_1);(try clear hfz43_2);(try clear hfz43_3);(try clear hfz47_0);(try clear hfz47_1);(try clear hfz47_2);(try clear hfz47_3);(try clear hfz4_0);(try clear hfz4_1);(try clear hfz51_0);(try clear hfz51_1);(try clear hfz51_2);(try clear hfz51_3);(try clear hfz55_0);(try clear hfz55_1);(try clear hfz56_0);(try clear hfz56_1);(try clear hfz56_2);(try clear hfz56_3);(try clear hfz7_0);(try clear hfz7_1);(try clear hfz7_2);(try clear hfz7_3);(try clear hfz8_0);(try clear hfz8_1);(try clear hfz8_2);(try clear hfz8_3);(try clear p2);(try clear p4);(try clear p40);(try clear p6);(try clear q4);(try clear q40);(obtain ⟨x5_6,x9_6,rfl,HA,HK6,HO_5,HO_8,BK325,HI326,HB⟩:=hrel)
                    cases gk with
                   |zero => exact absurd HA.out (by simp [marlinspikeref05_Expand.l2])
                   |succ k6 =>
                     (have H:=HA.out);(clear HA);(simp only [marlinspikeref05_Expand.l2] at H);(by_cases c59 : x9_6 < (x8_25.length : Int))
                     ·(rw [if_pos c59] at H);(have c59b0 : decide (x9_6 < (x8_25.length : Int)) = true:=decide_eq_true c59);(clear c59);(by_cases c60 : 0 ≤ x9_6)
                      ·(rw [if_pos c60] at H);(have c60b0 : decide (0 ≤ x9_6) = true:=decide_eq_true c60);(clear c60);(by_cases c61 : (a0.extract (x327001_1 : Int).toNat (t329 : Int).toNat).size + (rdOf ByteArray.empty x8_25 x9_6).size ≤ 9223372036854775807)
                       ·(rw [if_pos c61] at H);(have c61b0:=eq_true c61);(have c61b1 : decide ((a0.extract (x327001_1 : Int).toNat (t329 : Int).toNat).size + (rdOf ByteArray.empty x8_25 x9_6).size ≤ 9223372036854775807) = true:=decide_eq_true c61);(try have c61b2 : (9223372036854775807 < (a0.extract (x327001_1 : Int).toNat (t329 : Int).toNat).size + (rdOf ByteArray.empty x8_25 x9_6).size) = False:=eq_false (Nat.not_lt.2 c61));(by_cases c62 : x5_6.length < 8796093022208)
                        ·(rw [if_pos c62] at H);(have LMc62:=Aside0.mk c62);(clear c62);(obtain ⟨y357,hy357⟩ : ∃ y_ : List ByteArray,y_ = (x5_6 ++ [(a0.extract (x327001_1 : Int).toNat (t329 : Int).toNat) ++ (rdOf ByteArray.empty x8_25 x9_6)]):=⟨_,rfl⟩);(replace H : (marlinspikeref05_Expand.l2 k6 a0 y357 (a0.extract (x327001_1 : Int).toNat (t329 : Int).toNat) x8_25 (wrap64 (x9_6 + 1)) x327000_43 x327001_43 x327002_43 x327003_43) = some (r1,r2,r3):=by first|(rw [hy357];with_reducible exact H)|(have H2_:=(Option.bind_some _ _).symm.trans H;rw [hy357];with_reducible exact H2_)|(have H2_:=(Option.bind_some _ _).symm.trans H;with_reducible exact H2_)|with_reducible exact H|(rw [hy357];exact H)|exact H);(have Ny357:=Aside0.mk hy357);(clear hy357);(have H':=Aside0.mk H);(clear H);(have p356 : 0 ≤ (x9_6 : Int):=of_decide_eq_true (by first|(with_reducible assumption)|assumption));(have q356 : x9_6 < (x8_25.length : Int):=of_decide_eq_true (by first|(with_reducible assumption)|assumption));(obtain ⟨ad356,e356,hx356_0⟩:=Kd.at_string (Kd.R_reads' HO_8.out).2.2 x9_6 p356 q356)
                         cases e356
                         (replace p356:=eq_true p356);(replace q356:=eq_true q356);(go_wp2_with (first|((with_reducible refine gate_builtin (b:=.append) (xs:=#[.tmp 86,.tmp 93]) rfl ?_);(try (refine gate_guard (by rfl) ?_;dsimp only));at_builtin;refine Kd.R_append Kd.string (w0:=w) w.heap.size rfl (.tmp 86) (.tmp 93) 22 9 (.string ⟨#[]⟩) 16 rfl Tryd.underlying22 info9 rfl (by decide) (by omega) u5 x5_6 ((a0.extract (x327001_1 : Int).toNat (t329 : Int).toNat) ++ (rdOf ByteArray.empty x8_25 x9_6)) [.string ((a0.extract (x327001_1 : Int).toNat (t329 : Int).toNat) ++ (rdOf ByteArray.empty x8_25 x9_6))] (fun k_ => some k_ ≠ (.slice (some ad356) x8_25.length co58 : Value).ownBlock) (fun _ => False) rfl rfl ?aP (fun _ hk => hk.elim) ?aF ?aO ?aB ?aS ?aL ?_;(case aP => exact rfl);(case aB => exact (by repeat (first|(with_reducible first|exact HB.out|apply below_alloc|apply pw_below_drewN|apply below_drew1|refine below_set ?_ (IsS42.ge HI326.out)|refine below_set ?_ GE325.out)|exact HB.out)));(case aF => exact (fun k_ hk => Kd.fresh' (Kd.R_lt (by (with_reducible repeat (first|apply Kd.R_alloc|apply Kd.R_drewN|apply Kd.R_drew));exact HO_8.out)) k_ hk));(case aO => exact (by (with_reducible repeat (first|apply Kd.R_alloc|apply Kd.R_drewN|apply Kd.R_drew));exact HO_5.out));(case aS => exact (below_size (by repeat (first|(with_reducible first|exact HB.out|apply below_alloc|apply pw_below_drewN|apply below_drew1|refine below_set ?_ (IsS42.ge HI326.out)|refine below_set ?_ GE325.out)|exact HB.out))));(case aL => have:=LMc62.out;omega);intro v358 w63 ho hb hg hat;rw [← Ny357.out] at ho;have n0_:=Aside0.mk (Kd.R_after (ok:=(fun _ => True)) (by (with_reducible repeat (first|apply Kd.R_alloc|apply Kd.R_drewN|apply Kd.R_drew));exact Kd.R_mono HO_8.out (fun _ hk => ⟨trivial,hk⟩)) hg hat);have n1_:=Aside0.mk (blk_grown (g:=gb325) (o:=.cells #[.int .i64 x326000_1,.int .i64 x326001_1] 27 (0,0)) (by (with_reducible repeat (first|refine blk_drewN ?_ _|refine blk_drew ?_|refine blk_alloc ?_ _));exact BK325.out) hg (Kd.R_ne HO_5.out BK325.out (by decide)));have n2_:=Aside0.mk (IsS42.grown (by repeat (first|(with_reducible first|exact HI326.out|apply IsS42.alloc|apply IsS42.drewN|apply IsS42.drew|apply IsS42.set_0|apply IsS42.set_1|apply IsS42.set_2|apply IsS42.set_3|(apply IsS42.far;(case hne => exact NB326_325.out)))|exact HI326.out)) hg (IsS42.own_ne HI326.out HO_5.out (by decide)));have n3_:=Aside0.mk (hb);have n4_:=Aside0.mk (ho);clear HO_8;clear BK325;clear HI326;clear HB;clear HO_5;have HO_8:=n0_;have BK325:=n1_;have HI326:=n2_;have HB:=n3_;have HO359:=n4_;clear n0_ n1_ n2_ n3_ n4_;clear ho hb hg hat)));(go_roundg k6)
                         case measure => have:=HK1.out;have:=HK2.out;have:=HJ25.out;have:=HJ35.out;have:=HJ43.out;have:=HK6.out;omega
                         case rel => exact ⟨(y357),(wrap64 (x9_6 + 1)),(by first|rfl|(simp;done)|(simp [*];done)),H',⟨by have:=HK1.out;have:=HK2.out;have:=HJ25.out;have:=HJ35.out;have:=HJ43.out;have:=HK6.out;omega⟩,⟨by (with_reducible repeat (first|apply Kd.R_alloc|apply Kd.R_drewN|apply Kd.R_drew));exact HO359.out⟩,⟨by (with_reducible repeat (first|apply Kd.R_alloc|apply Kd.R_drewN|apply Kd.R_drew));exact Kd.R_mono HO_8.out (fun _ hk => hk.2)⟩,⟨by (with_reducible repeat (first|refine blk_drewN ?_ _|refine blk_drew ?_|refine blk_alloc ?_ _));exact BK325.out⟩,⟨by repeat (first|(with_reducible first|exact HI326.out|apply IsS42.alloc|apply IsS42.drewN|apply IsS42.drew|apply IsS42.set_0|apply IsS42.set_1|apply IsS42.set_2|apply IsS42.set_3|(apply IsS42.far;(case hne => exact NB326_325.out)))|exact HI326.out)⟩,⟨by repeat (first|(with_reducible first|exact HB.out|apply below_alloc|apply pw_below_drewN|apply below_drew1|refine below_set ?_ (IsS42.ge HI326.out)|refine below_set ?_ GE325.out)|exact HB.out)⟩⟩
                        ·(rw [if_neg c62] at H);(exact absurd H (by simp))
                       ·(rw [if_neg c61] at H);(exact absurd H (by simp))
                      ·(rw [if_neg c60] at H);(exact absurd H (by simp))
                     ·(rw [if_neg c59] at H);(have c59b0 : decide (x9_6 < (x8_25.length : Int)) = false:=decide_eq_false c59);(clear c59);(by_cases c64 : x327001_43 = (a0.size : Int))
                      ·(rw [if_pos c64] at H);(have c64b0 : (x327001_43 == (a0.size : Int)) = true:=beq_iff_eq.mpr c64);(have c64b1 : (x327001_43 != (a0.size : Int)) = false:=bne_eq_false_iff_eq.mpr c64);(clear c64);(simp only [Option.some.injEq,Prod.mk.injEq] at H);(obtain ⟨rfl,rfl,rfl⟩:=H);(obtain ⟨HGz65,hgz65⟩:=HI326.out);(have hcz65_0:=cellS42_0 HGz65);(have hcz65_1:=cellS42_1 HGz65);(have hcz65_2:=cellS42_2 HGz65);(have hcz65_3:=cellS42_3 HGz65);(have hfz65_0:=blk_frozen HGz65 0);(have hfz65_1:=blk_frozen HGz65 1);(have hfz65_2:=blk_frozen HGz65 2);(have hfz65_3:=blk_frozen HGz65 3);(clear HGz65 hgz65);(have hnb66:=NB325_326.out);(have hnc66:=NB326_325.out);(have hcz67_0 : wr.cell? ⟨gb325,0,none⟩ = some (.int .i64 x326000_1):=(blk_cell BK325.out 0).trans rfl);(have hcz67_1 : wr.cell? ⟨gb325,1,none⟩ = some (.int .i64 x326001_1):=(blk_cell BK325.out 1).trans rfl);(have hfz67_0:=blk_frozen BK325.out 0);(have hfz67_1:=blk_frozen BK325.out 1);(go_wp2);(refine bodyPost_ret (results_tc rfl _ _ gb325 27 #[.int .i64 0,.int .i64 0] (0,0) _ rfl (by (with_reducible repeat (first|refine blk_drewN ?_ _|refine blk_drew ?_|refine blk_alloc ?_ _));refine blk_put (cs:=#[.int .i64 0,.int .i64 x326001_1]) ?_ 1 _ rfl;(with_reducible repeat (first|refine blk_drewN ?_ _|refine blk_drew ?_|refine blk_alloc ?_ _));refine blk_put (cs:=#[.int .i64 x326000_1,.int .i64 x326001_1]) ?_ 0 _ rfl;(with_reducible repeat (first|refine blk_drewN ?_ _|refine blk_drew ?_|refine blk_alloc ?_ _));exact BK325.out) Tryd.underlying27 rfl (by kernel_rfl)) rfl ?_);(exact ⟨_,by first|rfl|(simp [errW_none,errW_some] <;> rfl)|(simp [*,errW_none,errW_some] <;> rfl),by (with_reducible repeat (first|apply Kd.R_alloc|apply Kd.R_drewN|apply Kd.R_drew));exact Kd.R_mono (Kd.R_far (p:=⟨gb325,1,none⟩) (Kd.R_far (p:=⟨gb325,0,none⟩) (Kd.R_types HO_5.out BK325.out (by decide)) (fun _ hk => hk.2) (.int .i64 0)) (fun _ hk => hk.2) (.int .i64 0)) (fun _ hk => trivial),by repeat (first|(with_reducible first|exact HB.out|apply below_alloc|apply pw_below_drewN|apply below_drew1|refine below_set ?_ (IsS42.ge HI326.out)|refine below_set ?_ GE325.out)|exact HB.out)⟩)
                      ·(rw [if_neg c64] at H);(have c64b0 : (x327001_43 == (a0.size : Int)) = false:=beq_eq_false_iff_ne.mpr c64);(have c64b1 : (x327001_43 != (a0.size : Int)) = true:=bne_iff_ne.mpr c64);(have H':=Aside0.mk H);(clear H);(obtain ⟨HGz68,hgz68⟩:=HI326.out);(have hcz68_0:=cellS42_0 HGz68);(have hcz68_1:=cellS42_1 HGz68);(have hcz68_2:=cellS42_2 HGz68);(have hcz68_3:=cellS42_3 HGz68);(have hfz68_0:=blk_frozen HGz68 0);(have hfz68_1:=blk_frozen HGz68 1);(have hfz68_2:=blk_frozen HGz68 2);(have hfz68_3:=blk_frozen HGz68 3);(clear HGz68 hgz68);(go_wp2);(go_roundg k6)
                       case measure => have:=HK1.out;have:=HK2.out;have:=HJ25.out;have:=HJ35.out;have:=HJ43.out;have:=HK6.out;omega
                       case rel => exact ⟨(x5_6),(x326000_1),(x326001_1),(x327000_43),(wrap64 (x327001_43 + 1)),(x327002_43),(x327003_43),H',⟨by have:=HK1.out;have:=HK2.out;have:=HJ25.out;have:=HJ35.out;have:=HJ43.out;have:=HK6.out;omega⟩,⟨by (with_reducible repeat (first|apply Kd.R_alloc|apply Kd.R_drewN|apply Kd.R_drew));exact Kd.R_mono (Kd.R_far (p:=⟨gb326,1,none⟩) (IsS42.apart HI326.out HO_5.out (by decide)) (fun _ hk => hk.2) (.int .i64 (wrap64 (x327001_43 + 1)))) (fun _ hk => trivial)⟩,⟨by (with_reducible repeat (first|refine blk_drewN ?_ _|refine blk_drew ?_|refine blk_alloc ?_ _));refine blk_far ?_ NB325_326.out _;(with_reducible repeat (first|refine blk_drewN ?_ _|refine blk_drew ?_|refine blk_alloc ?_ _));exact BK325.out⟩,⟨by repeat (first|(with_reducible first|exact HI326.out|apply IsS42.alloc|apply IsS42.drewN|apply IsS42.drew|apply IsS42.set_0|apply IsS42.set_1|apply IsS42.set_2|apply IsS42.set_3|(apply IsS42.far;(case hne => exact NB326_325.out)))|exact HI326.out)⟩,⟨by repeat (first|(with_reducible first|exact HB.out|apply below_alloc|apply pw_below_drewN|apply below_drew1|refine below_set ?_ (IsS42.ge HI326.out)|refine below_set ?_ GE325.out)|exact HB.out)⟩⟩
                 ·(rw [if_neg c49] at H);(have c49b0 : (x327002_43 == 0) = false:=beq_eq_false_iff_ne.mpr c49);(have c49b1 : (x327002_43 != 0) = true:=bne_iff_ne.mpr c49);(simp only [Option.some.injEq,Prod.mk.injEq] at H);(obtain ⟨rfl,rfl,rfl⟩:=H);(obtain ⟨HGz69,hgz69⟩:=HI326.out);(have hcz69_0:=cellS42_0 HGz69);(have hcz69_1:=cellS42_1 HGz69);(have hcz69_2:=cellS42_2 HGz69);(have hcz69_3:=cellS42_3 HGz69);(have hfz69_0:=blk_frozen HGz69 0);(have hfz69_1:=blk_frozen HGz69 1);(have hfz69_2:=blk_frozen HGz69 2);(have hfz69_3:=blk_frozen HGz69 3);(clear HGz69 hgz69);(try go_wp2);(have n0_:=Aside0.mk (Kd.R_drew HO_5.out));(have n1_:=Aside0.mk (Kd.R_drew HO_8.out));(have n2_:=Aside0.mk (blk_drew BK325.out));(have n3_:=Aside0.mk (IsS42.drew HI326.out));(have n4_:=Aside0.mk (below_drew1 HB.out));(clear HO_5);(clear HO_8);(clear BK325);(clear HI326);(clear HB);(have HO_5:=n0_);(have HO_8:=n1_);(have BK325:=n2_);(have HI326:=n3_);(have HB:=n4_);(clear n0_ n1_ n2_ n3_ n4_);(refine start_ (n:=4) (S:=fun w' => w'.cell? ⟨gb326,0,none⟩ = some (.string x327000_43)∧w'.cell? ⟨gb326,1,none⟩ = some (.int .i64 x327001_43)∧w'.cell? ⟨gb326,2,none⟩ = some (.int .i64 x327002_43)∧w'.cell? ⟨gb326,3,none⟩ = some (.int .i64 x327003_43)) (ds:=[]) #[false,false,false,false] (by kernel_rfl) rfl rfl ⟨(cellS42_0 (HI326.out).1),(cellS42_1 (HI326.out).1),(cellS42_2 (HI326.out).1),(cellS42_3 (HI326.out).1)⟩ (fun hHeld => ?_));(generalize wc.drew = w70 at HO_5 HO_8 BK325 HI326 HB hHeld ⊢);(refine pure_ (i:=0) (N:=some 70) (v:=?_) (a':=?_) #[true,false,false,false] rfl rfl (by kernel_rfl) (fun _ _ _ h => h) (Or.inl ⟨by rfl,?_⟩) ?_ ?_);(rotate_left)
                  ·(intro w');(go_simp);(with_reducible rfl)
                  (rotate_left);·(simp only [Act.put,List.setIfInBounds_toArray,List.set_cons_zero,List.set_cons_succ,i64_w,i32_w]);(rfl)
                  (refine pure_ (i:=2) (N:=some 2) (v:=?_) (a':=?_) #[true,false,true,false] rfl rfl (by kernel_rfl) (fun _ _ _ h => h) (Or.inl ⟨by rfl,?_⟩) ?_ ?_);(rotate_left);·(intro w');(go_simp);(with_reducible rfl)
                  (rotate_left);·(simp only [Act.put,List.setIfInBounds_toArray,List.set_cons_zero,List.set_cons_succ,i64_w,i32_w]);(rfl)
                  (refine take_ (i:=1) (N:=some 71) (v:=?_) (a':=?_) #[true,true,true,false] rfl rfl (by kernel_rfl) (fun _ _ _ h => h) (Or.inl ⟨by rfl,?_⟩) hHeld ?_ ?_);(rotate_left);·(rintro w' ⟨s0,s1,s2,s3⟩);(go_simp);(with_reducible rfl)
                  (rotate_left);·(simp only [Act.put,List.setIfInBounds_toArray,List.set_cons_zero,List.set_cons_succ,i64_w,i32_w]);(rfl)
                  (refine one_ (i:=3) (N:=none) #[true,true,true,true] rfl rfl (by kernel_rfl) (by decide) (fun K hK => ?_));(have hs71 : w70.cell? ⟨gb325,0,none⟩ = some (.int .i64 x326000_1):=(blk_cell BK325.out 0).trans rfl);(have hfs71:=blk_frozen BK325.out 0);(have hs72 : w70.cell? ⟨gb325,1,none⟩ = some (.int .i64 x326001_1):=(blk_cell BK325.out 1).trans rfl);(have hfs72:=blk_frozen BK325.out 1);(refine skip_ (w1:=?_) (by rfl) rfl ?_ ?_);(rotate_left);·(go_simp);(rfl)
                  (refine hK.out _ _ ⟨((cell_far (p:=⟨gb325,_,none⟩) NB326_325.out _).trans (((cell_far (p:=⟨gb325,_,none⟩) NB326_325.out _).trans (hHeld.1)))),((cell_far (p:=⟨gb325,_,none⟩) NB326_325.out _).trans (((cell_far (p:=⟨gb325,_,none⟩) NB326_325.out _).trans (hHeld.2.1)))),((cell_far (p:=⟨gb325,_,none⟩) NB326_325.out _).trans (((cell_far (p:=⟨gb325,_,none⟩) NB326_325.out _).trans (hHeld.2.2.1)))),((cell_far (p:=⟨gb325,_,none⟩) NB326_325.out _).trans (((cell_far (p:=⟨gb325,_,none⟩) NB326_325.out _).trans (hHeld.2.2.2))))⟩ (fun hHeld => ?_));(clear hK K);(refine done_ (by kernel_rfl) ?_);(try go_wp2);(refine bodyPost_ret (results_tc rfl _ _ gb325 27 #[.int .i64 x327002_43,.int .i64 x327003_43] (0,0) _ rfl (by (with_reducible repeat (first|refine blk_drewN ?_ _|refine blk_drew ?_|refine blk_alloc ?_ _));refine blk_put (cs:=#[.int .i64 x327002_43,.int .i64 x326001_1]) ?_ 1 _ rfl;(with_reducible repeat (first|refine blk_drewN ?_ _|refine blk_drew ?_|refine blk_alloc ?_ _));refine blk_put (cs:=#[.int .i64 x326000_1,.int .i64 x326001_1]) ?_ 0 _ rfl;(with_reducible repeat (first|refine blk_drewN ?_ _|refine blk_drew ?_|refine blk_alloc ?_ _));exact BK325.out) Tryd.underlying27 rfl (by kernel_rfl)) rfl ?_);(exact ⟨_,by first|rfl|(simp [errW_none,errW_some] <;> rfl)|(simp [*,errW_none,errW_some] <;> rfl),by first|exact Kd.R_nil _ _ _ _ _|exact Kd.N_nil _ _ _ _ _|exact Kd.V_nil _ _ _ _ _|exact Kd.Q_nil _ _ _ _ _|exact Kd.S_nil _ _ _ _ _,by repeat (first|(with_reducible first|exact HB.out|apply below_alloc|apply pw_below_drewN|apply below_drew1|refine below_set ?_ (IsS42.ge HI326.out)|refine below_set ?_ GE325.out)|exact HB.out)⟩)
          ·(rw [if_neg c24] at H);(exact absurd H (by simp))
         ·(rw [if_neg c23] at H);(exact absurd H (by simp))
        ·(rw [if_neg c22] at H);(exact absurd H (by simp))
end Go.Proofs.YtoammgpfbdcphaaDoor.PH
end
section
namespace Go.Proofs.YtoammgpfbdcphaaDoor.Hx
open Go.RowKit Go.Proofs.YtoammgpfbdcphaaDoor.Lib Go.Proofs.YtoammgpfbdcphaaDoor.PH Go.Proofs.YtoammgpfbdcphaaDoor.Txt Go.Proofs.YtoammgpfbdcphaaDoor.Num Go.Proofs.YtoammgpfbdcphaaDoor.Hn Go.Proofs.YtoammgpfbdcphaaDoorW.PrintWords Go.Proofs.YtoammgpfbdcphaaDoorW.PrintLast Go.Proofs.YtoammgpfbdcphaaDoorW.PrintMore
set_option linter.unusedVariables false
set_option linter.unusedSimpArgs false
theorem rdig_f (c : UInt8) : marlinspikeref05_digit.f (c.toNat : Int) = some (isDig c) := digit_f c
def rbare (c : UInt8) : Bool := (marlinspikeref05_bare.f (c.toNat : Int)).getD false
theorem rbare_f (c : UInt8) : marlinspikeref05_bare.f (c.toNat : Int) = some (rbare c) := by
  unfold rbare
  have : ∃ b, marlinspikeref05_bare.f (c.toNat : Int) = some b := by
    unfold marlinspikeref05_bare.f
    rw [rdig_f]
    simp only [Option.bind_some]
    repeat' split
    all_goals exact ⟨_, rfl⟩
  obtain ⟨b, hb⟩ := this
  rw [hb]; rfl
theorem bare_all : ∀ n : Fin 256, (!((marlinspikeref05_bare.f (n.val : Int)).getD false) || (host_isBare.f (n.val : Int)).getD false) = true := by decide +kernel
theorem rbare_bare (c : UInt8) (h : rbare c = true) : bareB c = true := by
  have := bare_all ⟨c.toNat, c.toNat_lt⟩
  unfold rbare at h
  unfold bareB
  simp only at this
  rw [h] at this
  exact this
theorem rbare_zero : marlinspikeref05_bare.f 0 = some false := by decide +kernel
theorem rdig_zero : marlinspikeref05_digit.f 0 = some false := by decide +kernel
theorem peek_on (s : ByteArray) (p : Nat) (z : Int) (h : p < s.size) : marlinspikeref05_reader_peek.f s (p : Int) 0 z = some ((((L s)[p]'(by rw [L_length]; exact h)).toNat : Int), s, (p : Int), 0, z) := by
  unfold marlinspikeref05_reader_peek.f
  rw [if_neg (by omega), if_pos rfl, if_pos (by omega), if_pos (by omega), bt_L s p h]
theorem peek_end (s : ByteArray) (p : Nat) (y z : Int) (h : s.size ≤ p) : marlinspikeref05_reader_peek.f s (p : Int) y z = some (0, s, (p : Int), y, z) := by
  unfold marlinspikeref05_reader_peek.f
  rw [if_pos (by omega)]
theorem peek_bad (s : ByteArray) (p : Nat) (y z : Int) (h : y ≠ 0) : marlinspikeref05_reader_peek.f s (p : Int) y z = some (0, s, (p : Int), y, z) := by
  unfold marlinspikeref05_reader_peek.f
  rw [if_neg h]
  split <;> rfl
theorem rwrong_ok (s : ByteArray) (p : Nat) (z : Int) : ∃ y, marlinspikeref05_reader_wrong.f s (p : Int) 0 z (p : Int) = some (s, (p : Int), y, (p : Int)) ∧ y ≠ 0 := by
  unfold marlinspikeref05_reader_wrong.f
  rw [if_pos rfl]
  split
  · exact ⟨4, rfl, by decide⟩
  · exact ⟨3, rfl, by decide⟩
def NumO (s : ByteArray) (p : Nat) (r : ByteArray × ByteArray × Int × Int × Int) : Prop :=
  ∃ (t : ByteArray) (q : Nat) (y z : Int), r = (t, s, (q : Int), y, z) ∧ q ≤ s.size ∧ p ≤ q ∧ (y = 0 → z = 0 ∧ Digs (L t) ∧ L t ≠ [] ∧ (L t).length ≤ 6 ∧ p < q)
theorem rnum_done (s : ByteArray) (p i : Nat) (hp : p ≤ i) (hi : i ≤ s.size) (h6 : i ≤ p + 6) (hdg : Digs (((L s).drop p).take (i - p))) :
    ∃ r, (if (i : Int) = (p : Int) then ((marlinspikeref05_reader_wrong.f s (i : Int) 0 0 (i : Int)).bind fun bt289 => (if 0 ≤ (p : Int) then (if (p : Int) ≤ bt289.2.1 then (if bt289.2.1 ≤ (bt289.1.size : Int) then (some (bt289.1.extract (p : Int).toNat (bt289.2.1 : Int).toNat, bt289.1, bt289.2.1, bt289.2.2.1, bt289.2.2.2)) else (none)) else (none)) else (none))) else (if 0 ≤ (p : Int) then (if (p : Int) ≤ (i : Int) then (if (i : Int) ≤ (s.size : Int) then (some (s.extract (p : Int).toNat (i : Int).toNat, s, (i : Int), (0 : Int), (0 : Int))) else (none)) else (none)) else (none))) = some r ∧ NumO s p r := by
  by_cases h : i = p
  · subst h
    obtain ⟨y, hw, hy⟩ := rwrong_ok s i 0
    refine ⟨(s.extract i i, s, (i : Int), y, (i : Int)), ?_, _, i, y, (i : Int), rfl, hi, Nat.le_refl _, fun h => absurd h hy⟩
    rw [if_pos rfl, hw]
    simp only [Option.bind_some]
    rw [if_pos (by omega), if_pos (by omega), if_pos (by omega), Int.toNat_natCast]
  · have hl : (L (s.extract p i)).length = i - p := by rw [extract_L, List.length_take, List.length_drop, L_length]; omega
    refine ⟨(s.extract p i, s, (i : Int), 0, 0), ?_, _, i, 0, 0, rfl, hi, hp, fun _ => ⟨rfl, by rw [extract_L]; exact hdg, fun e => by rw [e] at hl; simp at hl; omega, by omega, by omega⟩⟩
    rw [if_neg (by omega), if_pos (by omega), if_pos (by omega), if_pos (by omega), Int.toNat_natCast, Int.toNat_natCast]
theorem rnum_l0 (s : ByteArray) (hs : s.size ≤ 100000) (p : Nat) : ∀ (d i : Nat), s.size - i = d → p ≤ i → i ≤ s.size → i ≤ p + 6 → Digs (((L s).drop p).take (i - p)) →
    ∃ r, Ev (fun k => marlinspikeref05_reader_number.l0 k (p : Int) s (i : Int) 0 0) r ∧ NumO s p r := by
  intro d
  induction d with
  | zero =>
    intro i hd hp hi h6 hdg
    obtain ⟨r, hr, hR⟩ := rnum_done s p i hp hi h6 hdg
    refine ⟨r, Ev.shift ⟨0, fun k hk => ?_⟩, hR⟩
    simp only [marlinspikeref05_reader_number.l0]
    rw [peek_end s i 0 0 (by omega), Option.bind_some, rdig_zero, Option.bind_some, if_neg (by decide)]
    exact hr
  | succ d ih =>
    intro i hd hp hi h6 hdg
    have hlt : i < s.size := by omega
    have hl : i < (L s).length := by rw [L_length]; exact hlt
    by_cases hc : isDig (L s)[i] = true
    · by_cases h66 : i - p = 6
      · obtain ⟨y, hw, hy⟩ := rwrong_ok s i 0
        refine ⟨((⟨#[]⟩ : ByteArray), s, (i : Int), y, (i : Int)), Ev.shift ⟨0, fun k hk => ?_⟩, _, i, y, (i : Int), rfl, hi, hp, fun h => absurd h hy⟩
        simp only [marlinspikeref05_reader_number.l0]
        rw [peek_on s i 0 hlt, Option.bind_some, rdig_f, Option.bind_some, if_pos hc]
        dsimp only
        rw [wrap_sub hp (by omega), if_pos (by omega), hw]
        rfl
      · obtain ⟨r, ⟨K, hK⟩, hR⟩ := ih (i + 1) (by omega) (by omega) (by omega) (by omega) (by
          rw [show i + 1 - p = (i - p) + 1 by omega]
          intro c hcm
          have hlp : i - p < ((L s).drop p).length := by rw [List.length_drop, L_length]; omega
          rw [List.take_succ_eq_append_getElem hlp] at hcm
          rcases List.mem_append.1 hcm with hcm | hcm
          · exact hdg c hcm
          · rw [List.mem_singleton.1 hcm, List.getElem_drop]
            simp only [show p + (i - p) = i by omega]
            exact hc)
        dsimp only at hK
        refine ⟨r, Ev.shift ⟨K, fun k hk => ?_⟩, hR⟩
        simp only [marlinspikeref05_reader_number.l0]
        rw [peek_on s i 0 hlt, Option.bind_some, rdig_f, Option.bind_some, if_pos hc]
        dsimp only
        rw [wrap_sub hp (by omega), if_neg (by omega), wrap_nat (by omega)]
        exact hK k hk
    · obtain ⟨r, hr, hR⟩ := rnum_done s p i hp hi h6 hdg
      refine ⟨r, Ev.shift ⟨0, fun k hk => ?_⟩, hR⟩
      simp only [marlinspikeref05_reader_number.l0]
      rw [peek_on s i 0 hlt, Option.bind_some, rdig_f, Option.bind_some, if_neg hc]
      exact hr
theorem rnum_ev (s : ByteArray) (hs : s.size ≤ 100000) (p : Nat) (hp : p ≤ s.size) : ∃ r, Ev (fun k => marlinspikeref05_reader_number.f k s (p : Int) 0 0) r ∧ NumO s p r :=
  rnum_l0 s hs p _ p rfl (Nat.le_refl _) hp (by omega) (by rw [Nat.sub_self, List.take_zero]; intro c hc; cases hc)
theorem pow_six (i : Nat) (h : i ≤ 6) : 10 ^ i ≤ 1000000 := Nat.pow_le_pow_right (by decide) h
theorem rval_l0 (b : ByteArray) (hd : Digs (L b)) (h6 : b.size ≤ 6) : ∀ (d i acc : Nat), b.size - i = d → i ≤ b.size → acc < 10 ^ i → Ev (fun k => marlinspikeref05_value.l0 k b (acc : Int) (i : Int)) (valA acc ((L b).drop i) : Int) := by
  intro d
  induction d with
  | zero =>
    intro i acc hdd hi ha
    refine Ev.shift ⟨0, fun k hk => ?_⟩
    simp only [marlinspikeref05_value.l0]
    rw [if_neg (by omega), List.drop_eq_nil_of_le (by rw [L_length]; omega)]
    rfl
  | succ d ih =>
    intro i acc hdd hi ha
    have hlt : i < b.size := by omega
    have hl : i < (L b).length := by rw [L_length]; exact hlt
    have hc := (isDig_iff (L b)[i]).1 (hd _ (List.getElem_mem hl))
    have hp := pow_six i (by omega)
    obtain ⟨K, hK⟩ := ih (i + 1) (acc * 10 + ((L b)[i].toNat - 48)) (by omega) (by omega) (by
      rw [Nat.pow_succ]
      generalize 10 ^ i = P at *
      omega)
    refine Ev.shift ⟨K, fun k hk => ?_⟩
    have h2 := hK k hk
    dsimp only at h2
    simp only [marlinspikeref05_value.l0]
    rw [if_pos (by omega), if_pos (by omega), bt_L b i hlt, wrap_nat (by omega), List.drop_eq_getElem_cons hl]
    have e : wrap64 (wrap64 ((acc : Int) * 10) + (((L b)[i].toNat : Int) - 48) % 256) = ((acc * 10 + ((L b)[i].toNat - 48) : Nat) : Int) := by
      clear h2 hK ih
      generalize 10 ^ i = P at *
      generalize (L b)[i].toNat = q at *
      have e1 : ((q : Int) - 48) % 256 = ((q - 48 : Nat) : Int) := by omega
      rw [e1, show wrap64 ((acc : Int) * 10) = ((acc * 10 : Nat) : Int) by unfold wrap64; omega]
      generalize q - 48 = z at *
      unfold wrap64; omega
    rw [e]
    exact h2
theorem rval_ev (b : ByteArray) (hd : Digs (L b)) (h6 : (L b).length ≤ 6) : Ev (fun k => marlinspikeref05_value.f k b) (valD (L b) : Int) := by
  rw [L_length] at h6
  have := rval_l0 b hd h6 b.size 0 0 rfl (by omega) (by decide)
  rw [List.drop_zero] at this
  exact this
def DT (l : List ByteArray) : Prop := ∀ t ∈ l, Digs (L t) ∧ t.size ≤ 6
def RanO (s : ByteArray) (p : Nat) (r : List ByteArray × ByteArray × Int × Int × Int) : Prop :=
  ∃ (l : List ByteArray) (q : Nat) (y z : Int), r = (l, s, (q : Int), y, z) ∧ (y = 0 → z = 0 ∧ q ≤ s.size ∧ p < q ∧ DT l ∧ l.length ≤ 257)
theorem ran_l1 (s : ByteArray) (q : Nat) (b : ByteArray) (hd : Digs (L b)) (h6 : (L b).length ≤ 6) (w : Nat) (hw : w ≤ 6) : ∀ (d n : Nat) (acc : List ByteArray), valD (L b) + 1 - n = d → DT acc → acc.length ≤ 257 →
    ∃ acc', DT acc' ∧ acc'.length ≤ 257 ∧ ∀ r, Ev (fun k => marlinspikeref05_reader_ranges.j5 k acc' s (q : Int) 0 0) r → Ev (fun k => marlinspikeref05_reader_ranges.l1 k acc b (w : Int) (n : Int) s (q : Int) 0 0) r := by
  obtain ⟨KV, hV⟩ := rval_ev b hd h6
  dsimp only at hV
  have hvb := valD_six (L b) hd h6
  intro d
  induction d with
  | zero =>
    intro n acc hdd hg hl
    refine ⟨acc, hg, hl, fun r hr => ?_⟩
    obtain ⟨K, hK⟩ := hr
    dsimp only at hK
    refine Ev.shift ⟨K + KV, fun k hk => ?_⟩
    simp only [marlinspikeref05_reader_ranges.l1]
    rw [hV k (by omega), Option.bind_some, if_neg (by omega)]
    exact hK k (by omega)
  | succ d ih =>
    intro n acc hdd hg hl
    by_cases hle : acc.length ≤ 256
    · obtain ⟨acc', h1, h2, h3⟩ := ih (n + 1) (acc ++ [mkB (padL w n)]) (by omega) (by
        intro t ht
        rcases List.mem_append.1 ht with ht | ht
        · exact hg t ht
        · rw [List.mem_singleton.1 ht, L_mkB, mkB_size]
          exact ⟨pad_digs _ _, pad_le6 w n hw (by omega)⟩) (by simp; omega)
      refine ⟨acc', h1, h2, fun r hr => ?_⟩
      obtain ⟨K, hK⟩ := h3 r hr
      obtain ⟨K2, hK2⟩ := digits_ev n w (by omega) (by omega)
      dsimp only at hK hK2
      refine Ev.shift ⟨K + KV + K2, fun k hk => ?_⟩
      simp only [marlinspikeref05_reader_ranges.l1]
      rw [hV k (by omega), Option.bind_some, if_pos (by omega), if_pos (by omega), hK2 k (by omega), Option.bind_some, if_pos (by omega), wrap_nat (by omega)]
      exact hK k (by omega)
    · refine ⟨acc, hg, hl, fun r hr => ?_⟩
      obtain ⟨K, hK⟩ := hr
      dsimp only at hK
      refine Ev.shift ⟨K + KV, fun k hk => ?_⟩
      simp only [marlinspikeref05_reader_ranges.l1]
      rw [hV k (by omega), Option.bind_some, if_pos (by omega), if_neg (by omega)]
      exact hK k (by omega)
theorem ran_j1 (s : ByteArray) (q : Nat) (a b : ByteArray) (hda : Digs (L a)) (ha : L a ≠ []) (ha6 : (L a).length ≤ 6) (hdb : Digs (L b)) (hb6 : (L b).length ≤ 6) (acc : List ByteArray) (hg : DT acc) (hl : acc.length ≤ 257) :
    ∃ acc', DT acc' ∧ acc'.length ≤ 257 ∧ ∀ r, Ev (fun k => marlinspikeref05_reader_ranges.j5 k acc' s (q : Int) 0 0) r → Ev (fun k => marlinspikeref05_reader_ranges.j1 k acc a b s (q : Int) 0 0) r := by
  have has : a.size ≤ 6 := by rw [← L_length]; exact ha6
  have has0 : 0 < a.size := by rw [← L_length]; exact List.length_pos_iff.2 ha
  obtain ⟨KV, hV⟩ := rval_ev a hda ha6
  dsimp only at hV
  have hj3 : ∀ w : Nat, w ≤ 6 → ∃ acc', DT acc' ∧ acc'.length ≤ 257 ∧ ∀ r, Ev (fun k => marlinspikeref05_reader_ranges.j5 k acc' s (q : Int) 0 0) r → Ev (fun k => marlinspikeref05_reader_ranges.j3 k acc a b (w : Int) s (q : Int) 0 0) r := by
    intro w hw
    obtain ⟨acc', h1, h2, h3⟩ := ran_l1 s q b hdb hb6 w hw _ (valD (L a)) acc rfl hg hl
    refine ⟨acc', h1, h2, fun r hr => ?_⟩
    obtain ⟨K, hK⟩ := h3 r hr
    dsimp only at hK
    refine Ev.shift ⟨K + KV, fun k hk => ?_⟩
    simp only [marlinspikeref05_reader_ranges.j3]
    rw [hV k (by omega), Option.bind_some]
    exact hK k (by omega)
  have hj2 : ∀ bb : Bool, ∃ acc', DT acc' ∧ acc'.length ≤ 257 ∧ ∀ r, Ev (fun k => marlinspikeref05_reader_ranges.j5 k acc' s (q : Int) 0 0) r → Ev (fun k => marlinspikeref05_reader_ranges.j2 k acc a b 0 bb s (q : Int) 0 0) r := by
    intro bb
    cases bb with
    | true =>
      obtain ⟨acc', h1, h2, h3⟩ := hj3 a.size has
      refine ⟨acc', h1, h2, fun r hr => ?_⟩
      obtain ⟨K, hK⟩ := h3 r hr
      refine Ev.shift ⟨K, fun k hk => ?_⟩
      simp only [marlinspikeref05_reader_ranges.j2]
      rw [if_pos (by first | rfl | trivial)]
      exact hK k hk
    | false =>
      obtain ⟨acc', h1, h2, h3⟩ := hj3 0 (by omega)
      refine ⟨acc', h1, h2, fun r hr => ?_⟩
      obtain ⟨K, hK⟩ := h3 r hr
      refine Ev.shift ⟨K, fun k hk => ?_⟩
      simp only [marlinspikeref05_reader_ranges.j2]
      rw [if_neg (by decide)]
      exact hK k hk
  by_cases h1 : 1 < a.size
  · obtain ⟨acc', e1, e2, e3⟩ := hj2 ((bt a 0) == 48)
    refine ⟨acc', e1, e2, fun r hr => ?_⟩
    obtain ⟨K, hK⟩ := e3 r hr
    refine Ev.shift ⟨K, fun k hk => ?_⟩
    simp only [marlinspikeref05_reader_ranges.j1]
    rw [if_pos (by first | rfl | trivial), if_pos (by omega), if_pos (by omega)]
    exact hK k hk
  · obtain ⟨acc', e1, e2, e3⟩ := hj2 false
    refine ⟨acc', e1, e2, fun r hr => ?_⟩
    obtain ⟨K, hK⟩ := e3 r hr
    refine Ev.shift ⟨K, fun k hk => ?_⟩
    simp only [marlinspikeref05_reader_ranges.j1]
    rw [if_pos (by first | rfl | trivial), if_neg (by omega)]
    exact hK k hk
theorem ran_j1_bad (s : ByteArray) (q : Nat) (a b : ByteArray) (acc : List ByteArray) (y z : Int) (hy : y ≠ 0) (p : Nat) : ∃ r, Ev (fun k => marlinspikeref05_reader_ranges.j1 k acc a b s (q : Int) y z) r ∧ RanO s p r := by
  refine ⟨([], s, (q : Int), y, z), Ev.shift ⟨0, fun k hk => ?_⟩, [], q, y, z, rfl, fun h => absurd h hy⟩
  simp only [marlinspikeref05_reader_ranges.j1]
  rw [if_neg hy]
theorem ran_l0 (s : ByteArray) (hs : s.size ≤ 100000) : ∀ (d p : Nat) (acc : List ByteArray), s.size - p = d → p ≤ s.size → DT acc → acc.length ≤ 257 → ∃ r, Ev (fun k => marlinspikeref05_reader_ranges.l0 k acc s (p : Int) 0 0) r ∧ RanO s p r := by
  intro d
  induction d using Nat.strongRecOn with
  | _ d ih =>
    intro p acc hd hp hg hl
    have hj5 : ∀ (acc' : List ByteArray) (q : Nat), p < q → q ≤ s.size → DT acc' → acc'.length ≤ 257 → ∃ r, Ev (fun k => marlinspikeref05_reader_ranges.j5 k acc' s (q : Int) 0 0) r ∧ RanO s p r := by
      intro acc' q hpq hq hg' hl'
      have hbad : ∀ c : Int, ∃ r, Ev (fun k => marlinspikeref05_reader_ranges.j6 k acc' c true s (q : Int) 0 0) r ∧ RanO s p r := by
        intro c
        obtain ⟨y, hw, hy⟩ := rwrong_ok s q 0
        refine ⟨([], s, (q : Int), y, (q : Int)), Ev.shift ⟨0, fun k hk => ?_⟩, [], q, y, (q : Int), rfl, fun h => absurd h hy⟩
        simp only [marlinspikeref05_reader_ranges.j6]
        rw [if_pos (by first | rfl | trivial), hw]
        rfl
      by_cases hlt : q < s.size
      · have hlq : q < (L s).length := by rw [L_length]; exact hlt
        have hpk := peek_on s q 0 hlt
        generalize (L s)[q] = c at hpk
        by_cases h44 : c = 44
        · obtain ⟨r, ⟨K, hK⟩, l, q', y, z, rfl, hR⟩ := ih (s.size - (q + 1)) (by omega) (q + 1) acc' rfl (by omega) hg' hl'
          dsimp only at hK
          refine ⟨_, Ev.shift (Ev.shift ⟨K, fun k hk => ?_⟩), l, q', y, z, rfl, fun h => ⟨(hR h).1, (hR h).2.1, by have := (hR h).2.2.1; omega, (hR h).2.2.2⟩⟩
          simp only [marlinspikeref05_reader_ranges.j5]
          rw [hpk, Option.bind_some]
          dsimp only
          rw [if_pos (by rw [h44]; rfl)]
          simp only [marlinspikeref05_reader_ranges.j6]
          rw [if_neg (by decide), if_neg (by rw [h44]; decide), wrap_nat (by omega)]
          exact hK k hk
        · have hn44 : ¬ (c.toNat : Int) = 44 := fun h => h44 (UInt8.toNat_inj.1 (by have : c.toNat = 44 := by omega
                                                                                    rw [this]; rfl))
          by_cases h93 : c = 93
          · refine ⟨(acc', s, ((q + 1 : Nat) : Int), 0, 0), Ev.shift (Ev.shift ⟨0, fun k hk => ?_⟩), acc', q + 1, 0, 0, rfl, fun _ => ⟨rfl, by omega, by omega, hg', hl'⟩⟩
            simp only [marlinspikeref05_reader_ranges.j5]
            rw [hpk, Option.bind_some]
            dsimp only
            rw [if_neg hn44, h93]
            have e : (((93 : UInt8).toNat : Int) != 93) = false := rfl
            rw [e]
            simp only [marlinspikeref05_reader_ranges.j6]
            rw [if_neg (by decide), if_pos (by rfl), wrap_nat (by omega)]
          · have hn93 : ¬ (c.toNat : Int) = 93 := fun h => h93 (UInt8.toNat_inj.1 (by have : c.toNat = 93 := by omega
                                                                                      rw [this]; rfl))
            obtain ⟨r, ⟨K, hK⟩, hR⟩ := hbad (c.toNat : Int)
            dsimp only at hK
            refine ⟨r, Ev.shift ⟨K, fun k hk => ?_⟩, hR⟩
            simp only [marlinspikeref05_reader_ranges.j5]
            rw [hpk, Option.bind_some]
            dsimp only
            have e : ((c.toNat : Int) != 93) = true := bne_iff_ne.2 hn93
            rw [if_neg hn44, e]
            exact hK k hk
      · obtain ⟨r, ⟨K, hK⟩, hR⟩ := hbad 0
        dsimp only at hK
        refine ⟨r, Ev.shift ⟨K, fun k hk => ?_⟩, hR⟩
        simp only [marlinspikeref05_reader_ranges.j5]
        rw [peek_end s q 0 0 (by omega), Option.bind_some]
        dsimp only
        rw [if_neg (by decide)]
        exact hK k hk
    obtain ⟨r1, ⟨K1, hK1⟩, a, q, y, z, rfl, hq, hpq, hA⟩ := rnum_ev s hs p hp
    dsimp only at hK1
    by_cases hy : y = 0
    · subst hy
      obtain ⟨rfl, hda, ha0, ha6, hpq2⟩ := hA rfl
      have hone : (∀ h : q < s.size, (L s)[q]'(by rw [L_length]; exact h) ≠ 45) → ∃ r, Ev (fun k => marlinspikeref05_reader_ranges.l0 k acc s (p : Int) 0 0) r ∧ RanO s p r := by
        intro hne
        obtain ⟨acc', e1, e2, e3⟩ := ran_j1 s q a a hda ha0 ha6 hda ha6 acc hg hl
        obtain ⟨r, hE, hR⟩ := hj5 acc' q hpq2 hq e1 e2
        obtain ⟨K, hK⟩ := e3 r hE
        dsimp only at hK
        refine ⟨r, Ev.shift ⟨K + K1, fun k hk => ?_⟩, hR⟩
        simp only [marlinspikeref05_reader_ranges.l0]
        rw [hK1 k (by omega), Option.bind_some]
        dsimp only
        by_cases hlt : q < s.size
        · have h45 : ¬ (((L s)[q]'(by rw [L_length]; exact hlt)).toNat : Int) = 45 := fun h => hne hlt (UInt8.toNat_inj.1 (by
            have : ((L s)[q]'(by rw [L_length]; exact hlt)).toNat = 45 := by omega
            rw [this]; rfl))
          rw [peek_on s q 0 hlt, Option.bind_some]
          dsimp only
          rw [if_neg h45]
          exact hK k (by omega)
        · rw [peek_end s q 0 0 (by omega), Option.bind_some]
          dsimp only
          rw [if_neg (by decide)]
          exact hK k (by omega)
      by_cases hlt : q < s.size
      · by_cases h45 : (L s)[q]'(by rw [L_length]; exact hlt) = 45
        · obtain ⟨r2, ⟨K2, hK2⟩, b, q2, y2, z2, rfl, hq2, hpq3, hB⟩ := rnum_ev s hs (q + 1) (by omega)
          dsimp only at hK2
          have hpk := peek_on s q 0 hlt
          rw [h45] at hpk
          by_cases hy2 : y2 = 0
          · subst hy2
            obtain ⟨rfl, hdb, hb0, hb6, hpq4⟩ := hB rfl
            obtain ⟨KA, hKA⟩ := rval_ev a hda ha6
            obtain ⟨KB, hKB⟩ := rval_ev b hdb hb6
            dsimp only at hKA hKB
            by_cases hv : valD (L b) < valD (L a)
            · obtain ⟨r, ⟨K, hK⟩, hR⟩ := ran_j1_bad s q2 a b acc 3 ((q + 1 : Nat) : Int) (by decide) p
              dsimp only at hK
              refine ⟨r, Ev.shift ⟨K + K1 + K2 + KA + KB, fun k hk => ?_⟩, hR⟩
              simp only [marlinspikeref05_reader_ranges.l0]
              rw [hK1 k (by omega), Option.bind_some]
              dsimp only
              rw [hpk, Option.bind_some]
              dsimp only
              rw [if_pos (by rfl), wrap_nat (by omega), hK2 k (by omega), Option.bind_some]
              dsimp only
              rw [if_pos (by first | rfl | trivial), hKB k (by omega), Option.bind_some, hKA k (by omega), Option.bind_some, if_pos (by omega)]
              exact hK k (by omega)
            · obtain ⟨acc', e1, e2, e3⟩ := ran_j1 s q2 a b hda ha0 ha6 hdb hb6 acc hg hl
              obtain ⟨r, hE, hR⟩ := hj5 acc' q2 (by omega) hq2 e1 e2
              obtain ⟨K, hK⟩ := e3 r hE
              dsimp only at hK
              refine ⟨r, Ev.shift ⟨K + K1 + K2 + KA + KB, fun k hk => ?_⟩, hR⟩
              simp only [marlinspikeref05_reader_ranges.l0]
              rw [hK1 k (by omega), Option.bind_some]
              dsimp only
              rw [hpk, Option.bind_some]
              dsimp only
              rw [if_pos (by rfl), wrap_nat (by omega), hK2 k (by omega), Option.bind_some]
              dsimp only
              rw [if_pos (by first | rfl | trivial), hKB k (by omega), Option.bind_some, hKA k (by omega), Option.bind_some, if_neg (by omega)]
              exact hK k (by omega)
          · obtain ⟨r, ⟨K, hK⟩, hR⟩ := ran_j1_bad s q2 a b acc y2 z2 hy2 p
            dsimp only at hK
            refine ⟨r, Ev.shift ⟨K + K1 + K2, fun k hk => ?_⟩, hR⟩
            simp only [marlinspikeref05_reader_ranges.l0]
            rw [hK1 k (by omega), Option.bind_some]
            dsimp only
            rw [hpk, Option.bind_some]
            dsimp only
            rw [if_pos (by rfl), wrap_nat (by omega), hK2 k (by omega), Option.bind_some]
            dsimp only
            rw [if_neg hy2]
            exact hK k (by omega)
        · exact hone (fun h => h45)
      · exact hone (fun h => absurd h hlt)
    · obtain ⟨r, ⟨K, hK⟩, hR⟩ := ran_j1_bad s q a a acc y z hy p
      dsimp only at hK
      refine ⟨r, Ev.shift ⟨K + K1, fun k hk => ?_⟩, hR⟩
      simp only [marlinspikeref05_reader_ranges.l0]
      rw [hK1 k (by omega), Option.bind_some]
      dsimp only
      rw [peek_bad s q y z hy, Option.bind_some]
      dsimp only
      rw [if_neg (by decide)]
      exact hK k (by omega)
def RExp (r : ER) : Prop := r.2.1 ≠ 0 ∨ (r.2 = (0, 0) ∧ ∀ b ∈ r.1, b.size ≠ 0 ∧ Bare (L b))
theorem rexp_l2 (s : ByteArray) (pre : ByteArray) (hp0 : pre.size ≠ 0) (hps : pre.size ≤ 100000) (hpb : Bare (L pre)) (l : List ByteArray) (hl : DT l) (q : Nat) :
    ∀ (d i : Nat) (out : List ByteArray), l.length - i = d → i ≤ l.length → l.length ≤ 1000 → out.length + (l.length - i) ≤ 1000 → (∀ b ∈ out, b.size ≠ 0 ∧ Bare (L b)) →
      ∃ out', (∀ b ∈ out', b.size ≠ 0 ∧ Bare (L b)) ∧ out'.length = out.length + (l.length - i) ∧
        ∀ r, Ev (fun k => if (q : Int) = (s.size : Int) then some (out', (0 : Int), (0 : Int)) else marlinspikeref05_Expand.l0 k s out' s (wrap64 ((q : Int) + 1)) 0 0) r → Ev (fun k => marlinspikeref05_Expand.l2 k s out pre l (i : Int) s (q : Int) 0 0) r := by
  intro d
  induction d with
  | zero =>
    intro i out hd hi hl1 ho hg
    refine ⟨out, hg, by omega, fun r hr => ?_⟩
    obtain ⟨K, hK⟩ := hr
    dsimp only at hK
    refine Ev.shift ⟨K, fun k hk => ?_⟩
    simp only [marlinspikeref05_Expand.l2]
    rw [if_neg (by omega)]
    exact hK k hk
  | succ d ih =>
    intro i out hd hi hl1 ho hg
    have hlt : i < l.length := by omega
    have hx := hl l[i] (List.getElem_mem hlt)
    obtain ⟨out', h1, h2, h3⟩ := ih (i + 1) (out ++ [pre ++ l[i]]) (by omega) (by omega) hl1 (by simp; omega) (by
      intro b hb
      rcases List.mem_append.1 hb with hb | hb
      · exact hg b hb
      · rw [List.mem_singleton.1 hb, ByteArray.size_append, L_append]
        refine ⟨by omega, fun c hc => ?_⟩
        rcases List.mem_append.1 hc with hc | hc
        · exact hpb c hc
        · exact dig_bare _ hx.1 c hc)
    refine ⟨out', h1, by rw [h2]; simp; omega, fun r hr => ?_⟩
    obtain ⟨K, hK⟩ := h3 r hr
    dsimp only at hK
    refine Ev.shift ⟨K, fun k hk => ?_⟩
    simp only [marlinspikeref05_Expand.l2]
    rw [if_pos (by omega), if_pos (by omega), rdN l i hlt, if_pos (by have := hx.2; omega), if_pos (by omega), wrap_nat (by omega)]
    exact hK k hk
theorem rj4_bad (s : ByteArray) (out : List ByteArray) (p : Int) (pre : ByteArray) (l : List ByteArray) (q y z : Int) (hy : y ≠ 0) : Ev (fun k => marlinspikeref05_Expand.j4 k s out p pre l s q y z) ([], y, z) := by
  refine Ev.shift ⟨0, fun k hk => ?_⟩
  simp only [marlinspikeref05_Expand.j4]
  rw [if_neg hy]
theorem rj2_bad (s : ByteArray) (out : List ByteArray) (p : Int) (pre : ByteArray) (l : List ByteArray) (q y z : Int) (hy : y ≠ 0) : Ev (fun k => marlinspikeref05_Expand.j2 k s out p pre l s q y z) ([], y, z) := by
  obtain ⟨K, hK⟩ := rj4_bad s out p pre l q y z hy
  dsimp only at hK
  refine Ev.shift (Ev.shift ⟨K, fun k hk => ?_⟩)
  simp only [marlinspikeref05_Expand.j2]
  rw [if_neg hy]
  simp only [marlinspikeref05_Expand.j3]
  rw [if_neg (by decide)]
  exact hK k hk
theorem rexp_l0 (s : ByteArray) (hs : s.size ≤ 100000) : ∀ (d p : Nat) (out : List ByteArray), s.size - p = d → p ≤ s.size → out.length ≤ 256 → (∀ b ∈ out, b.size ≠ 0 ∧ Bare (L b)) →
    ∃ r, Ev (fun k => marlinspikeref05_Expand.l0 k s out s (p : Int) 0 0) r ∧ RExp r := by
  intro d
  induction d using Nat.strongRecOn with
  | _ d ih =>
    intro p out hd hp ho hg
    have hj4 : ∀ (pre : ByteArray) (l : List ByteArray) (q : Nat), pre.size ≠ 0 → pre.size ≤ 100000 → Bare (L pre) → DT l → l.length ≤ 257 → p < q → q ≤ s.size → (q = s.size ∨ (L s)[q]? = some 44) →
        ∃ r, Ev (fun k => marlinspikeref05_Expand.j4 k s out (p : Int) pre l s (q : Int) 0 0) r ∧ RExp r := by
      intro pre l q h0 hps hb hl hll hpq hq hc
      have hw : wrap64 ((out.length : Int) + (l.length : Int)) = ((out.length + l.length : Nat) : Int) := by unfold wrap64; omega
      by_cases hm : out.length + l.length ≤ 256
      · obtain ⟨out', h1, h2, h3⟩ := rexp_l2 s pre h0 hps hb l hl q l.length 0 out (by omega) (by omega) (by omega) (by omega) hg
        have hfin : ∀ r, Ev (fun k => if (q : Int) = (s.size : Int) then some (out', (0 : Int), (0 : Int)) else marlinspikeref05_Expand.l0 k s out' s (wrap64 ((q : Int) + 1)) 0 0) r → Ev (fun k => marlinspikeref05_Expand.j4 k s out (p : Int) pre l s (q : Int) 0 0) r := by
          intro r hr
          obtain ⟨K, hK⟩ := h3 r hr
          dsimp only at hK
          refine Ev.shift ⟨K, fun k hk => ?_⟩
          simp only [marlinspikeref05_Expand.j4]
          rw [if_pos (by first | rfl | trivial), hw, if_neg (by omega)]
          exact hK k hk
        by_cases hend : q = s.size
        · refine ⟨(out', 0, 0), hfin _ ⟨0, fun k hk => ?_⟩, .inr ⟨rfl, h1⟩⟩
          dsimp only
          rw [if_pos (by omega)]
        · have hlt : q < s.size := by omega
          obtain ⟨r, ⟨K, hK⟩, hR⟩ := ih (s.size - (q + 1)) (by omega) (q + 1) out' rfl (by omega) (by omega) h1
          dsimp only at hK
          refine ⟨r, hfin r ⟨K, fun k hk => ?_⟩, hR⟩
          dsimp only
          rw [if_neg (by omega), wrap_nat (by omega)]
          exact hK k hk
      · refine ⟨([], 5, (p : Int)), Ev.shift ⟨0, fun k hk => ?_⟩, .inl (show (5 : Int) ≠ 0 by decide)⟩
        simp only [marlinspikeref05_Expand.j4]
        rw [if_pos (by first | rfl | trivial), hw, if_pos (by omega)]
    have hj2 : ∀ (pre : ByteArray) (l : List ByteArray) (q : Nat), pre.size ≠ 0 → pre.size ≤ 100000 → Bare (L pre) → DT l → l.length ≤ 257 → p < q → q ≤ s.size →
        ∃ r, Ev (fun k => marlinspikeref05_Expand.j2 k s out (p : Int) pre l s (q : Int) 0 0) r ∧ RExp r := by
      intro pre l q h0 hps hb hl hll hpq hq
      by_cases hlt : q < s.size
      · have hlq : q < (L s).length := by rw [L_length]; exact hlt
        by_cases h44 : (L s)[q] = 44
        · obtain ⟨r, ⟨K, hK⟩, hR⟩ := hj4 pre l q h0 hps hb hl hll hpq hq (.inr (by rw [List.getElem?_eq_getElem hlq, h44]))
          dsimp only at hK
          refine ⟨r, Ev.shift (Ev.shift ⟨K, fun k hk => ?_⟩), hR⟩
          simp only [marlinspikeref05_Expand.j2]
          rw [if_pos (by first | rfl | trivial), if_pos (by omega), if_pos (by omega), bt_L s q hlt, h44]
          have e : (((44 : UInt8).toNat : Int) != 44) = false := rfl
          rw [e]
          simp only [marlinspikeref05_Expand.j3]
          rw [if_neg (by decide)]
          exact hK k hk
        · have e : ((((L s)[q]).toNat : Int) != 44) = true := bne_iff_ne.2 (fun h => h44 (UInt8.toNat_inj.1 (by
            have : ((L s)[q]).toNat = 44 := by omega
            rw [this]; rfl)))
          obtain ⟨y, hw, hy⟩ := rwrong_ok s q 0
          obtain ⟨K, hK⟩ := rj4_bad s out (p : Int) pre l (q : Int) y (q : Int) hy
          dsimp only at hK
          refine ⟨([], y, (q : Int)), Ev.shift (Ev.shift ⟨K, fun k hk => ?_⟩), .inl hy⟩
          simp only [marlinspikeref05_Expand.j2]
          rw [if_pos (by first | rfl | trivial), if_pos (by omega), if_pos (by omega), bt_L s q hlt, e]
          simp only [marlinspikeref05_Expand.j3]
          rw [if_pos (by first | rfl | trivial), hw, Option.bind_some]
          exact hK k hk
      · obtain ⟨r, ⟨K, hK⟩, hR⟩ := hj4 pre l q h0 hps hb hl hll hpq hq (.inl (by omega))
        dsimp only at hK
        refine ⟨r, Ev.shift (Ev.shift ⟨K, fun k hk => ?_⟩), hR⟩
        simp only [marlinspikeref05_Expand.j2]
        rw [if_pos (by first | rfl | trivial), if_neg (by omega)]
        simp only [marlinspikeref05_Expand.j3]
        rw [if_neg (by decide)]
        exact hK k hk
    have hstop : ∀ (i : Nat), p ≤ i → i ≤ s.size → Bare (((L s).drop p).take (i - p)) → (∀ h : i < s.size, rbare ((L s)[i]'(by rw [L_length]; exact h)) = false) →
        ∃ r, Ev (fun k => marlinspikeref05_Expand.l1 k s out (p : Int) s (i : Int) 0 0) r ∧ RExp r := by
      intro i hpi hi hbr hno
      have hpk : ∃ c : Int, marlinspikeref05_reader_peek.f s (i : Int) 0 0 = some (c, s, (i : Int), 0, 0) ∧ marlinspikeref05_bare.f c = some false ∧ (c = 91 → i < s.size) := by
        by_cases hlt : i < s.size
        · refine ⟨_, peek_on s i 0 hlt, ?_, fun _ => hlt⟩
          rw [rbare_f, hno hlt]
        · exact ⟨0, peek_end s i 0 0 (by omega), rbare_zero, fun h => absurd h (by decide)⟩
      obtain ⟨c, hpk, hcb, hc91⟩ := hpk
      by_cases hip : i = p
      · subst hip
        obtain ⟨y, hw, hy⟩ := rwrong_ok s i 0
        refine ⟨([], y, (i : Int)), Ev.shift ⟨0, fun k hk => ?_⟩, .inl hy⟩
        simp only [marlinspikeref05_Expand.l1]
        rw [hpk, Option.bind_some]
        dsimp only
        rw [hcb, Option.bind_some, if_neg (by decide), if_pos (by rfl), hw]
        rfl
      · have hpl : (L (s.extract p i)).length = i - p := by rw [extract_L, List.length_take, List.length_drop, L_length]; omega
        have hps : (s.extract p i).size = i - p := by rw [← L_length]; exact hpl
        have hpb : Bare (L (s.extract p i)) := by rw [extract_L]; exact hbr
        by_cases h91 : c = 91
        · have hlt := hc91 h91
          obtain ⟨r1, ⟨K1, hK1⟩, l, q, y, z, rfl, hA⟩ := ran_l0 s hs _ (i + 1) [] rfl (by omega) (by intro t ht; cases ht) (by simp)
          dsimp only at hK1
          have hout : ∃ r, Ev (fun k => marlinspikeref05_Expand.j2 k s out (p : Int) (s.extract p i) l s (q : Int) y z) r ∧ RExp r := by
            by_cases hy : y = 0
            · obtain ⟨hz, hq, hpq, hl, hll⟩ := hA hy
              subst hy; subst hz
              exact hj2 (s.extract p i) l q (by omega) (by omega) hpb hl hll (by omega) hq
            · exact ⟨_, rj2_bad s out (p : Int) (s.extract p i) l (q : Int) y z hy, .inl hy⟩
          obtain ⟨r, ⟨K, hK⟩, hR⟩ := hout
          dsimp only at hK
          refine ⟨r, Ev.shift ⟨K + K1, fun k hk => ?_⟩, hR⟩
          simp only [marlinspikeref05_Expand.l1]
          rw [hpk, Option.bind_some]
          dsimp only
          rw [hcb, Option.bind_some, if_neg (by decide), if_neg (by omega), if_pos (by omega), if_pos (by omega), if_pos (by omega), hpk, Option.bind_some]
          dsimp only
          rw [if_pos h91, wrap_nat (by omega)]
          simp only [marlinspikeref05_reader_ranges.f]
          rw [hK1 k (by omega), Option.bind_some, Int.toNat_natCast, Int.toNat_natCast]
          exact hK k (by omega)
        · obtain ⟨r, ⟨K, hK⟩, hR⟩ := hj2 (s.extract p i) [(⟨#[]⟩ : ByteArray)] i (by omega) (by omega) hpb (by
            intro t ht
            rw [List.mem_singleton.1 ht]
            exact ⟨(by intro c hc; cases hc), (by decide)⟩) (by simp) (by omega) hi
          dsimp only at hK
          refine ⟨r, Ev.shift ⟨K, fun k hk => ?_⟩, hR⟩
          simp only [marlinspikeref05_Expand.l1]
          rw [hpk, Option.bind_some]
          dsimp only
          rw [hcb, Option.bind_some, if_neg (by decide), if_neg (by omega), if_pos (by omega), if_pos (by omega), if_pos (by omega), hpk, Option.bind_some]
          dsimp only
          rw [if_neg h91, Int.toNat_natCast, Int.toNat_natCast]
          exact hK k hk
    have hl1 : ∀ (e i : Nat), s.size - i = e → p ≤ i → i ≤ s.size → Bare (((L s).drop p).take (i - p)) → ∃ r, Ev (fun k => marlinspikeref05_Expand.l1 k s out (p : Int) s (i : Int) 0 0) r ∧ RExp r := by
      intro e
      induction e with
      | zero => intro i he hpi hi hbr; exact hstop i hpi hi hbr (fun h => by omega)
      | succ e ihe =>
        intro i he hpi hi hbr
        have hlt : i < s.size := by omega
        have hli : i < (L s).length := by rw [L_length]; exact hlt
        by_cases hc : rbare (L s)[i] = true
        · obtain ⟨r, ⟨K, hK⟩, hR⟩ := ihe (i + 1) (by omega) (by omega) (by omega) (by
            rw [show i + 1 - p = (i - p) + 1 by omega]
            intro c hcm
            have hlp : i - p < ((L s).drop p).length := by rw [List.length_drop, L_length]; omega
            rw [List.take_succ_eq_append_getElem hlp] at hcm
            rcases List.mem_append.1 hcm with hcm | hcm
            · exact hbr c hcm
            · rw [List.mem_singleton.1 hcm, List.getElem_drop]
              simp only [show p + (i - p) = i by omega]
              exact rbare_bare _ hc)
          dsimp only at hK
          refine ⟨r, Ev.shift ⟨K, fun k hk => ?_⟩, hR⟩
          simp only [marlinspikeref05_Expand.l1]
          rw [peek_on s i 0 hlt, Option.bind_some]
          dsimp only
          rw [rbare_f, Option.bind_some, if_pos hc, wrap_nat (by omega)]
          exact hK k hk
        · exact hstop i hpi hi hbr (fun _ => by simpa using hc)
    obtain ⟨r, ⟨K, hK⟩, hR⟩ := hl1 _ p rfl (Nat.le_refl _) hp (by rw [Nat.sub_self, List.take_zero]; intro c hc; cases hc)
    dsimp only at hK
    refine ⟨r, Ev.shift ⟨K, fun k hk => ?_⟩, hR⟩
    simp only [marlinspikeref05_Expand.l0]
    exact hK k hk
theorem rexp_any (s : ByteArray) (hs : s.size ≤ 100000) : ∃ r, Ev (fun k => marlinspikeref05_Expand.f k s) r ∧ RExp r := by
  by_cases h : L s = []
  · refine ⟨([], 0, 0), ⟨0, fun k hk => ?_⟩, .inr ⟨rfl, by intro b hb; cases hb⟩⟩
    simp only [marlinspikeref05_Expand.f]
    rw [if_pos (by rw [toList_L]; exact h)]
  · obtain ⟨r, ⟨K, hK⟩, hR⟩ := rexp_l0 s hs s.size 0 [] (by omega) (by omega) (by simp) (by intro b hb; cases hb)
    dsimp only at hK
    refine ⟨r, ⟨K, fun k hk => ?_⟩, hR⟩
    simp only [marlinspikeref05_Expand.f]
    rw [if_neg (by rw [toList_L]; exact h)]
    exact hK k hk
end Go.Proofs.YtoammgpfbdcphaaDoor.Hx
end
