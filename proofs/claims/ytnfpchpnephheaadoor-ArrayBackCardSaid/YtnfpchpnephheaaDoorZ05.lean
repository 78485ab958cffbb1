/- For every array that may be, the program reads its own text back to that array. -/
import Derived.Test.YtnfpchpnephheaaDoorZ03
import Derived.Test.YtnfpchpnephheaaDoorZ04
import Derived.Test.YtnfpchpnephheaaDoorRows
import Derived.Test.YtnfpchpnephheaaDoorCards
import Derived.Test.YtnfpchpnephheaaDoorTie
import Derived.Test.YtnfpchpnephheaaDoorZ02
import Derived.Lay
import Derived.WalkKit
import Derived.ProofKit
import Derived.OpenShut
import Derived.ShutString
import Derived.ChangeOld
import Derived.Below
import Derived.Carry
import Derived.SizedLaws
import Derived.Deep.DeepHandedRow
import Derived.Deep.DeepWitnessRowRef
import Derived.Stop.LaidErr
import Derived.Lib.LaidTab
import Derived.LaidMore
section
namespace Go.Proofs.YtnfpchpnephheaaDoor.PA
open Go.RowKit Go.Proofs.YtnfpchpnephheaaDoor.Lib Go.Proofs.YtnfpchpnephheaaDoorW.PrintWords Go.Proofs.YtnfpchpnephheaaDoorW.PrintLast Go.Proofs.YtnfpchpnephheaaDoorW.PrintMore
attribute [local go_sem] max2_int min2_int max_two min_two max_three min_three max_four min_four   
set_option linter.unusedVariables false
set_option linter.unusedSimpArgs false
attribute [local go_sem high] eqA36
def marlinspikelaw08_alive.f (k : Nat)  : Option (Bool) := (array_Parse.f (⟨#[48, 45, 54, 58, 50, 44, 57, 37, 50]⟩ : ByteArray)).bind fun bt174 => ((array_Format.f k bt174.1 bt174.2.1).bind fun bt182 => (if (bt174.2.2.1 == 0 && (bt174.2.2.2 == 0)) = true then ((marlinspikeref01_Ints.f k bt174.1 (([0, 2, 4, 6, 9] : List Int))).bind fun t187 => (if t187 = true then (if bt174.2.1 = 2 then (if bt182.1.toList = ([48, 45, 54, 58, 50, 44, 57, 37, 50] : List UInt8) then (some (bt182.2 == 0)) else (some false)) else (some false)) else (some false))) else (some false)))
theorem marlinspikelaw08_alive.mono : ∀ k,LeO (marlinspikelaw08_alive.f k ) (marlinspikelaw08_alive.f (k + 1) ):=by
 (intro  k);(unfold marlinspikelaw08_alive.f)
 repeat' first
  |(with_reducible exact array_Format.mono _ _ _)
  |(with_reducible exact marlinspikeref01_Ints.mono _ _ _)
  |(with_reducible exact LeO.refl _)
  |(with_reducible exact LeO.none _)
  |(with_reducible refine LeO.ite ?_ ?_)
  |(with_reducible refine LeO.bind ?_ (fun _ => ?_))
  |exact array_Format.mono _ _ _
  |exact marlinspikeref01_Ints.mono _ _ _
  |exact LeO.none _
  |refine LeO.ite ?_ ?_
  |refine LeO.bind ?_ (fun _ => ?_)
set_option maxHeartbeats 8000000 in
set_option maxRecDepth 100000 in
theorem marlinspikelaw08_alive.calls (k : Nat)  (r : Bool) (w : World) (h : marlinspikelaw08_alive.f k  = some r) (hG_ : Glob w) :
  Calls Tryd.prog 13 #[] w fun e w' => e = .returned (.bool r)∧Below w.heap.size w w':=by
 (have HG_:=Aside0.mk hG_);(clear hG_);(have hu28:=Tryd.underlying28);(have hu36:=Tryd.underlying36);(have HB:=Aside0.mk (Below.refl w.heap.size w));(have H : ((array_Parse.f (⟨#[48,45,54,58,50,44,57,37,50]⟩ : ByteArray)).bind fun bt174 => ((array_Format.f k bt174.1 bt174.2.1).bind fun bt182 => (if (bt174.2.2.1 == 0 && (bt174.2.2.2 == 0)) = true then ((marlinspikeref01_Ints.f k bt174.1 (([0,2,4,6,9] : List Int))).bind fun t187 => (if t187 = true then (if bt174.2.1 = 2 then (if bt182.1.toList = ([48,45,54,58,50,44,57,37,50] : List UInt8) then (some (bt182.2 == 0)) else (some false)) else (some false)) else (some false))) else (some false)))) = some r:=h);(clear h);(replace H:=Option.bind_eq_some_iff.mp H);(obtain ⟨⟨t174,t177,t178,t179⟩,A10,H⟩:=H);(replace H : ((array_Format.f k t174 t177).bind fun bt182 => (if (t178 == 0 && (t179 == 0)) = true then ((marlinspikeref01_Ints.f k t174 (([0,2,4,6,9] : List Int))).bind fun t187 => (if t187 = true then (if t177 = 2 then (if bt182.1.toList = ([48,45,54,58,50,44,57,37,50] : List UInt8) then (some (bt182.2 == 0)) else (some false)) else (some false)) else (some false))) else (some false))) = some r:=H);(have A1:=Aside0.mk A10);(clear A10);(replace H:=Option.bind_eq_some_iff.mp H);(obtain ⟨⟨t182,t183⟩,A20,H⟩:=H);(replace H : (if (t178 == 0 && (t179 == 0)) = true then ((marlinspikeref01_Ints.f k t174 (([0,2,4,6,9] : List Int))).bind fun t187 => (if t187 = true then (if t177 = 2 then (if t182.toList = ([48,45,54,58,50,44,57,37,50] : List UInt8) then (some (t183 == 0)) else (some false)) else (some false)) else (some false))) else (some false)) = some r:=H);(have A2:=Aside0.mk A20);(clear A20);(by_cases c3 : (t178 == 0 && (t179 == 0)) = true)
 ·(rw [if_pos c3] at H);(have c3b0 : (t178 == 0 && (t179 == 0)) = true:=c3);((try (have c3b1 : decide (t178 = 0 && (t179 == 0)) = true:=by simpa using c3)));((try (have c3b2 : (t178 == 0 && (t179 == 0)) = true:=by simpa using c3)));(clear c3);(obtain ⟨y184,hy184⟩ : ∃ y_ : List Int,y_ = (([0,2,4,6,9] : List Int)):=⟨_,rfl⟩);(replace H : ((marlinspikeref01_Ints.f k t174 y184).bind fun t187 => (if t187 = true then (if t177 = 2 then (if t182.toList = ([48,45,54,58,50,44,57,37,50] : List UInt8) then (some (t183 == 0)) else (some false)) else (some false)) else (some false))) = some r:=by first|(rw [hy184];with_reducible exact H)|(have H2_:=(Option.bind_some _ _).symm.trans H;rw [hy184];with_reducible exact H2_)|(have H2_:=(Option.bind_some _ _).symm.trans H;with_reducible exact H2_)|with_reducible exact H|(rw [hy184];exact H)|exact H);(have Ny184:=Aside0.mk hy184);(clear hy184);(replace H:=Option.bind_eq_some_iff.mp H);(obtain ⟨t187,A40,H⟩:=H);(replace H : (if t187 = true then (if t177 = 2 then (if t182.toList = ([48,45,54,58,50,44,57,37,50] : List UInt8) then (some (t183 == 0)) else (some false)) else (some false)) else (some false)) = some r:=H);(have A4:=Aside0.mk A40);(clear A40);(by_cases c5 : t187 = true)
  ·(subst c5);(have H1 : (if t177 = 2 then (if t182.toList = ([48,45,54,58,50,44,57,37,50] : List UInt8) then (some (t183 == 0)) else (some false)) else (some false)) = some r:=by rw [if_pos rfl] at H;exact H);(clear H);(have H:=H1);(clear H1);(by_cases c6 : t177 = 2)
   ·(rw [if_pos c6] at H);(have c6b0 : (t177 == 2) = true:=beq_iff_eq.mpr c6);(have c6b1 : (t177 != 2) = false:=bne_eq_false_iff_eq.mpr c6);(clear c6);(by_cases c7 : t182.toList = ([48,45,54,58,50,44,57,37,50] : List UInt8))
    ·(rw [if_pos c7] at H);(have c7b0 : (t182.toList == ([48,45,54,58,50,44,57,37,50] : List UInt8)) = true:=beq_iff_eq.mpr c7);(have c7b1 : (t182.toList != ([48,45,54,58,50,44,57,37,50] : List UInt8)) = false:=bne_eq_false_iff_eq.mpr c7);(clear c7);(obtain rfl:=Option.some.inj H);(go_enter Tryd.func13,Tryd.ntmps13);(go_wp2_with (first|((with_reducible refine gate_callee (f:=14) rfl ?_);refine goesL_ (some 6) rfl rfl Tryd.func14 (by kernel_rfl) rfl #[.string (⟨#[48,45,54,58,50,44,57,37,50]⟩ : ByteArray)] rfl (by (try simp only [List.map_toArray,List.map_cons,List.map_nil]);first|done|rfl|(simp only [List.length_drop,List.length_take];rfl)) ?_;(with_reducible refine (array_Parse.calls (⟨#[48,45,54,58,50,44,57,37,50]⟩ : ByteArray) t174 t177 t178 t179 _ A1.out (HG_.out.below (by repeat (first|(with_reducible first|exact HB.out|apply below_alloc|apply pw_below_drewN|apply below_drew1)|exact HB.out)))).mono ?_);rintro e w8 ⟨v175,rfl,ho0,hb⟩;refine ⟨_,rfl,?_⟩;have n0_:=Aside0.mk (Kd.R_lower ho0 (below_size (by repeat (first|(with_reducible first|exact HB.out|apply below_alloc|apply pw_below_drewN|apply below_drew1)|exact HB.out))));have n1_:=Aside0.mk (below_step (by repeat (first|(with_reducible first|exact HB.out|apply below_alloc|apply pw_below_drewN|apply below_drew1)|exact HB.out)) hb);clear HB;have HO176:=n0_;have HB:=n1_;clear n0_ n1_;(try clear hb);(try clear hb2);(try clear hk);(try clear hi);(try clear ho0))|((with_reducible refine gate_dst (N:=1) rfl ?_);(try (refine gate_guard (by rfl) ?_;dsimp only));refine box_event ?hg (N:=1) ?hd (cs:=#[.slice none 0 0,.int .i64 0]) (t:=28) ?hr ?_;(case hd => rfl);(case hg => rfl);(case hr => first|(go_simp;done)|(go_simp;rfl));intro gb180 hg w9 hbox hb;have n0_:=Aside0.mk (Kd.R_below (by (with_reducible repeat (first|apply Kd.R_alloc|apply Kd.R_drewN|apply Kd.R_drew));exact HO176.out) hb);have n1_:=Aside0.mk (below_step (by repeat (first|(with_reducible first|exact HB.out|apply below_alloc|apply pw_below_drewN|apply below_drew1)|exact HB.out)) hb);have n2_:=Aside0.mk (hbox);have n3_:=Aside0.mk ((by rw [hg];exact (below_size (by repeat (first|(with_reducible first|exact HB.out|apply below_alloc|apply pw_below_drewN|apply below_drew1)|exact HB.out))) : w.heap.size ≤ gb180));have n4_:=Aside0.mk ((by rw [hg];exact (below_size (by repeat (first|(with_reducible first|exact HB.out|apply below_alloc|apply pw_below_drewN|apply below_drew1)|exact HB.out))) : w.heap.size ≤ gb180));clear HO176;clear HB;have HO176:=n0_;have HB:=n1_;have BK180:=n2_;have GW180:=n3_;have GE180:=n4_;clear n0_ n1_ n2_ n3_ n4_;clear hb hbox hg)|((with_reducible refine gate_dst (N:=2) rfl ?_);(try (refine gate_guard (by rfl) ?_;dsimp only));refine box_event ?hg (N:=2) ?hd (cs:=#[.int .i64 0,.int .i64 0]) (t:=36) ?hr ?_;(case hd => rfl);(case hg => rfl);(case hr => first|(go_simp;done)|(go_simp;rfl));intro gb181 hg w10 hbox hb;have n0_:=Aside0.mk (Kd.R_below (by (with_reducible repeat (first|apply Kd.R_alloc|apply Kd.R_drewN|apply Kd.R_drew));exact HO176.out) hb);have n1_:=Aside0.mk (blk_below (g:=gb180) (o:=.cells #[.slice none 0 0,.int .i64 0] 28 (0,0)) (by (with_reducible repeat (first|refine blk_drewN ?_ _|refine blk_drew ?_|refine blk_alloc ?_ _));exact BK180.out) hb);have n2_:=Aside0.mk (below_step (by repeat (first|(with_reducible first|exact HB.out|apply below_alloc|apply pw_below_drewN|apply below_drew1|refine below_set ?_ GE180.out)|exact HB.out)) hb);have n3_:=Aside0.mk (hbox);have n4_:=Aside0.mk ((by rw [hg];exact (below_size (by repeat (first|(with_reducible first|exact HB.out|apply below_alloc|apply pw_below_drewN|apply below_drew1|refine below_set ?_ GE180.out)|exact HB.out))) : w.heap.size ≤ gb181));have n5_:=Aside0.mk ((by rw [hg];exact (below_size (by repeat (first|(with_reducible first|exact HB.out|apply below_alloc|apply pw_below_drewN|apply below_drew1|refine below_set ?_ GE180.out)|exact HB.out))) : w.heap.size ≤ gb181));have n6_:=Aside0.mk ((by rw [hg];exact Nat.ne_of_lt (blk_lt (g:=gb180) (o:=.cells #[.slice none 0 0,.int .i64 0] 28 (0,0)) (by (with_reducible repeat (first|refine blk_drewN ?_ _|refine blk_drew ?_|refine blk_alloc ?_ _));exact BK180.out)) : gb180 ≠ gb181));have n7_:=Aside0.mk ((by rw [hg];exact Nat.ne_of_gt (blk_lt (g:=gb180) (o:=.cells #[.slice none 0 0,.int .i64 0] 28 (0,0)) (by (with_reducible repeat (first|refine blk_drewN ?_ _|refine blk_drew ?_|refine blk_alloc ?_ _));exact BK180.out)) : gb181 ≠ gb180));clear HO176;clear BK180;clear HB;have HO176:=n0_;have BK180:=n1_;have HB:=n2_;have BK181:=n3_;have GW181:=n4_;have GE181:=n5_;have NB180_181:=n6_;have NB181_180:=n7_;clear n0_ n1_ n2_ n3_ n4_ n5_ n6_ n7_;clear hb hbox hg;obtain ⟨Ao11,co11,eo11⟩:=Kd.R_slice HO176.out;subst eo11;have hnb12:=NB180_181.out;have hnc12:=NB181_180.out;have hcz13_0 : w10.cell? ⟨gb180,0,none⟩ = some (.slice none 0 0):=(blk_cell BK180.out 0).trans rfl;have hcz13_1 : w10.cell? ⟨gb180,1,none⟩ = some (.int .i64 0):=(blk_cell BK180.out 1).trans rfl;have hfz13_0:=blk_frozen BK180.out 0;have hfz13_1:=blk_frozen BK180.out 1)|((with_reducible refine gate_store (t:=28) (p:=1) rfl ?_);refine store_event (t:=28) (p:=1) (v:=?vo_w14) (w1:=((w10.setCell ⟨gb180,0,none⟩ (.slice Ao11 t174.length co11)).setCell ⟨gb180,1,none⟩ (.int .i64 t177))) ?hg ?ho ?hn ?hr ?_;(case ho => rfl);(case hg => rfl);(case hn => rfl);(case hr => first|(go_simp;done)|(go_simp;rfl));intro w14 hw;have n0_ : Aside0 (Kd.R (Kd.int .i64) 3 w14 w.heap.size (fun _ => True) (.slice Ao11 t174.length co11) t174):=⟨(by rw [hw];exact (by (with_reducible repeat (first|apply Kd.R_alloc|apply Kd.R_drewN|apply Kd.R_drew));exact Kd.R_mono (Kd.R_far (p:=⟨gb180,1,none⟩) (Kd.R_far (p:=⟨gb180,0,none⟩) (Kd.R_types HO176.out BK180.out (by decide)) (fun _ hk => hk.2) (.slice Ao11 t174.length co11)) (fun _ hk => hk.2) (.int .i64 t177)) (fun _ hk => trivial)))⟩;have n1_ : Aside0 (w14.heap[gb180]? = some (.cells #[.slice Ao11 t174.length co11,.int .i64 t177] 28 (0,0))):=⟨(by rw [hw];exact (by (with_reducible repeat (first|refine blk_drewN ?_ _|refine blk_drew ?_|refine blk_alloc ?_ _));refine blk_put (cs:=#[.slice Ao11 t174.length co11,.int .i64 0]) ?_ 1 _ rfl;(with_reducible repeat (first|refine blk_drewN ?_ _|refine blk_drew ?_|refine blk_alloc ?_ _));refine blk_put (cs:=#[.slice none 0 0,.int .i64 0]) ?_ 0 _ rfl;(with_reducible repeat (first|refine blk_drewN ?_ _|refine blk_drew ?_|refine blk_alloc ?_ _));exact BK180.out))⟩;have n2_ : Aside0 (w14.heap[gb181]? = some (.cells #[.int .i64 0,.int .i64 0] 36 (0,0))):=⟨(by rw [hw];exact (by (with_reducible repeat (first|refine blk_drewN ?_ _|refine blk_drew ?_|refine blk_alloc ?_ _));refine blk_far ?_ NB181_180.out _;(with_reducible repeat (first|refine blk_drewN ?_ _|refine blk_drew ?_|refine blk_alloc ?_ _));refine blk_far ?_ NB181_180.out _;(with_reducible repeat (first|refine blk_drewN ?_ _|refine blk_drew ?_|refine blk_alloc ?_ _));exact BK181.out))⟩;have n3_ : Aside0 (Below w.heap.size w w14):=⟨(by rw [hw];exact (by repeat (first|(with_reducible first|exact HB.out|apply below_alloc|apply pw_below_drewN|apply below_drew1|refine below_set ?_ GE180.out|refine below_set ?_ GE181.out)|exact HB.out)))⟩;clear hw;clear HO176;clear BK180;clear BK181;clear HB;have HO176:=n0_;have BK180:=n1_;have BK181:=n2_;have HB:=n3_;clear n0_ n1_ n2_ n3_;have hcz15_0 : w14.cell? ⟨gb181,0,none⟩ = some (.int .i64 0):=(blk_cell BK181.out 0).trans rfl;have hcz15_1 : w14.cell? ⟨gb181,1,none⟩ = some (.int .i64 0):=(blk_cell BK181.out 1).trans rfl;have hfz15_0:=blk_frozen BK181.out 0;have hfz15_1:=blk_frozen BK181.out 1)|((with_reducible refine gate_store (t:=36) (p:=2) rfl ?_);refine store_event (t:=36) (p:=2) (v:=?vo_w16) (w1:=((w14.setCell ⟨gb181,0,none⟩ (.int .i64 t178)).setCell ⟨gb181,1,none⟩ (.int .i64 t179))) ?hg ?ho ?hn ?hr ?_;(case ho => rfl);(case hg => rfl);(case hn => rfl);(case hr => first|(go_simp;done)|(go_simp;rfl));intro w16 hw;have n0_ : Aside0 (Kd.R (Kd.int .i64) 3 w16 w.heap.size (fun _ => True) (.slice Ao11 t174.length co11) t174):=⟨(by rw [hw];exact (by (with_reducible repeat (first|apply Kd.R_alloc|apply Kd.R_drewN|apply Kd.R_drew));exact Kd.R_mono (Kd.R_far (p:=⟨gb181,1,none⟩) (Kd.R_far (p:=⟨gb181,0,none⟩) (Kd.R_types HO176.out BK181.out (by decide)) (fun _ hk => hk.2) (.int .i64 t178)) (fun _ hk => hk.2) (.int .i64 t179)) (fun _ hk => trivial)))⟩;have n1_ : Aside0 (w16.heap[gb180]? = some (.cells #[.slice Ao11 t174.length co11,.int .i64 t177] 28 (0,0))):=⟨(by rw [hw];exact (by (with_reducible repeat (first|refine blk_drewN ?_ _|refine blk_drew ?_|refine blk_alloc ?_ _));refine blk_far ?_ NB180_181.out _;(with_reducible repeat (first|refine blk_drewN ?_ _|refine blk_drew ?_|refine blk_alloc ?_ _));refine blk_far ?_ NB180_181.out _;(with_reducible repeat (first|refine blk_drewN ?_ _|refine blk_drew ?_|refine blk_alloc ?_ _));exact BK180.out))⟩;have n2_ : Aside0 (w16.heap[gb181]? = some (.cells #[.int .i64 t178,.int .i64 t179] 36 (0,0))):=⟨(by rw [hw];exact (by (with_reducible repeat (first|refine blk_drewN ?_ _|refine blk_drew ?_|refine blk_alloc ?_ _));refine blk_put (cs:=#[.int .i64 t178,.int .i64 0]) ?_ 1 _ rfl;(with_reducible repeat (first|refine blk_drewN ?_ _|refine blk_drew ?_|refine blk_alloc ?_ _));refine blk_put (cs:=#[.int .i64 0,.int .i64 0]) ?_ 0 _ rfl;(with_reducible repeat (first|refine blk_drewN ?_ _|refine blk_drew ?_|refine blk_alloc ?_ _));exact BK181.out))⟩;have n3_ : Aside0 (Below w.heap.size w w16):=⟨(by rw [hw];exact (by repeat (first|(with_reducible first|exact HB.out|apply below_alloc|apply pw_below_drewN|apply below_drew1|refine below_set ?_ GE180.out|refine below_set ?_ GE181.out)|exact HB.out)))⟩;clear hw;clear HO176;clear BK180;clear BK181;clear HB;have HO176:=n0_;have BK180:=n1_;have BK181:=n2_;have HB:=n3_;clear n0_ n1_ n2_ n3_;have hcz17_0 : w16.cell? ⟨gb180,0,none⟩ = some (.slice Ao11 t174.length co11):=(blk_cell BK180.out 0).trans rfl;have hcz17_1 : w16.cell? ⟨gb180,1,none⟩ = some (.int .i64 t177):=(blk_cell BK180.out 1).trans rfl;have hfz17_0:=blk_frozen BK180.out 0;have hfz17_1:=blk_frozen BK180.out 1)|((with_reducible refine gate_callee (f:=8) rfl ?_);refine goesL_ (some 11) rfl rfl Tryd.func8 (by kernel_rfl) rfl #[.agg #[.slice Ao11 t174.length co11,.int .i64 t177]] rfl (by (try simp only [List.map_toArray,List.map_cons,List.map_nil]);first|done|rfl|(simp only [List.length_drop,List.length_take];rfl)) ?_;(with_reducible refine (array_Format.calls k (fun k_ => some k_ = (.slice Ao11 t174.length co11 : Value).ownBlock) _ _ t174 t177 t182 t183 _ ?side1 A2.out (HG_.out.below (by repeat (first|(with_reducible first|exact HB.out|apply below_alloc|apply pw_below_drewN|apply below_drew1|refine below_set ?_ GE180.out|refine below_set ?_ GE181.out)|exact HB.out)))).mono ?_);(case side1 => exact Kd.R_V (Kd.R_tight rfl (Kd.R_types (Kd.R_types (HO176.out) BK180.out (by decide)) BK181.out (by decide))));rintro e w18 ⟨rfl,hb⟩;refine ⟨_,rfl,?_⟩;have n0_:=Aside0.mk (Kd.R_below (by (with_reducible repeat (first|apply Kd.R_alloc|apply Kd.R_drewN|apply Kd.R_drew));exact HO176.out) hb);have n1_:=Aside0.mk (blk_below (g:=gb180) (o:=.cells #[.slice Ao11 t174.length co11,.int .i64 t177] 28 (0,0)) (by (with_reducible repeat (first|refine blk_drewN ?_ _|refine blk_drew ?_|refine blk_alloc ?_ _));exact BK180.out) hb);have n2_:=Aside0.mk (blk_below (g:=gb181) (o:=.cells #[.int .i64 t178,.int .i64 t179] 36 (0,0)) (by (with_reducible repeat (first|refine blk_drewN ?_ _|refine blk_drew ?_|refine blk_alloc ?_ _));exact BK181.out) hb);have n3_:=Aside0.mk (below_step (by repeat (first|(with_reducible first|exact HB.out|apply below_alloc|apply pw_below_drewN|apply below_drew1|refine below_set ?_ GE180.out|refine below_set ?_ GE181.out)|exact HB.out)) hb);clear HO176;clear BK180;clear BK181;clear HB;have HO176:=n0_;have BK180:=n1_;have BK181:=n2_;have HB:=n3_;clear n0_ n1_ n2_ n3_;(try clear hb);(try clear hb2);(try clear hk);(try clear hi);have hcz19_0 : w18.cell? ⟨gb181,0,none⟩ = some (.int .i64 t178):=(blk_cell BK181.out 0).trans rfl;have hcz19_1 : w18.cell? ⟨gb181,1,none⟩ = some (.int .i64 t179):=(blk_cell BK181.out 1).trans rfl;have hfz19_0:=blk_frozen BK181.out 0;have hfz19_1:=blk_frozen BK181.out 1;have hcz20_0 : w18.cell? ⟨gb180,0,none⟩ = some (.slice Ao11 t174.length co11):=(blk_cell BK180.out 0).trans rfl;have hcz20_1 : w18.cell? ⟨gb180,1,none⟩ = some (.int .i64 t177):=(blk_cell BK180.out 1).trans rfl;have hfz20_0:=blk_frozen BK180.out 0;have hfz20_1:=blk_frozen BK180.out 1)|((with_reducible refine gate_dst (N:=20) rfl ?_);(try (refine gate_guard (by rfl) ?_;dsimp only));refine Kd.R_lit (Kd.int .i64) _ 3 ?hg (N:=20) ?hd (xs:=([0,2,4,6,9] : List Int)) (inner:=[.int .i64 0,.int .i64 2,.int .i64 4,.int .i64 6,.int .i64 9]) (ok:=fun _ => True) (okp:=fun _ => True) ?hr ?hp (fun _ hk => hk) trivial (Below.refl _ _) (Nat.le_refl _) (by simp) ?_;(case hd => rfl);(case hg => rfl);(case hr => first|(go_simp;done)|(go_simp;rfl));(case hp => exact (Reps.one (show Kd.M (Kd.int .i64) _ _ _ 0 [.int .i64 0] from rfl) (Reps.one (show Kd.M (Kd.int .i64) _ _ _ 2 [.int .i64 2] from rfl) (Reps.one (show Kd.M (Kd.int .i64) _ _ _ 4 [.int .i64 4] from rfl) (Reps.one (show Kd.M (Kd.int .i64) _ _ _ 6 [.int .i64 6] from rfl) (Reps.one (show Kd.M (Kd.int .i64) _ _ _ 9 [.int .i64 9] from rfl) (Reps.none _ _)))))));intro v185 w21 ho22 hb hg_ hnew_;clear hg_ hnew_;(first|rw [← Ny184.out] at ho22|(simp only [Int.reduceToNat] at ho22;rw [← Ny184.out] at ho22));have n0_:=Aside0.mk (Kd.R_elder' (by (with_reducible repeat (first|apply Kd.R_alloc|apply Kd.R_drewN|apply Kd.R_drew));exact HO176.out) (Kd.R_base ho22) hb);have n1_:=Aside0.mk (Kd.R_lower (Kd.R_new' ho22 (Kd.R_lt (by (with_reducible repeat (first|apply Kd.R_alloc|apply Kd.R_drewN|apply Kd.R_drew));exact HO176.out))) (below_size (by repeat (first|(with_reducible first|exact HB.out|apply below_alloc|apply pw_below_drewN|apply below_drew1|refine below_set ?_ GE180.out|refine below_set ?_ GE181.out)|exact HB.out))));have n2_:=Aside0.mk (blk_below (g:=gb180) (o:=.cells #[.slice Ao11 t174.length co11,.int .i64 t177] 28 (0,0)) (by (with_reducible repeat (first|refine blk_drewN ?_ _|refine blk_drew ?_|refine blk_alloc ?_ _));exact BK180.out) hb);have n3_:=Aside0.mk (blk_below (g:=gb181) (o:=.cells #[.int .i64 t178,.int .i64 t179] 36 (0,0)) (by (with_reducible repeat (first|refine blk_drewN ?_ _|refine blk_drew ?_|refine blk_alloc ?_ _));exact BK181.out) hb);have n4_:=Aside0.mk (below_step (by repeat (first|(with_reducible first|exact HB.out|apply below_alloc|apply pw_below_drewN|apply below_drew1|refine below_set ?_ GE180.out|refine below_set ?_ GE181.out)|exact HB.out)) hb);clear HO176;clear BK180;clear BK181;clear HB;have HO176:=n0_;have HO186:=n1_;have BK180:=n2_;have BK181:=n3_;have HB:=n4_;clear n0_ n1_ n2_ n3_ n4_;clear hb ho22;obtain ⟨Ao23,co23,eo23⟩:=Kd.R_slice HO186.out;subst eo23)|(go_at_call 15;(with_reducible refine (marlinspikeref01_Ints.calls k _ _ t174 _ _ y184 true _ ?side1 ?side2 ?side3 ?side4 A4.out).mono ?_);(case side1 => repeat (first|exact (Kd.R_reads' HO176.out).2.2|(with_reducible refine Kd.C_alloc ?_ _)|(with_reducible refine Kd.C_drewN ?_ _)|(with_reducible refine Kd.C_drew ?_)));(case side2 => exact (Kd.R_reads' HO176.out).2.1);(case side3 => repeat (first|exact (Kd.R_reads' HO186.out).2.2|(with_reducible refine Kd.C_alloc ?_ _)|(with_reducible refine Kd.C_drewN ?_ _)|(with_reducible refine Kd.C_drew ?_)));(case side4 => exact (Kd.R_reads' HO186.out).2.1);rintro e w' ⟨rfl,⟨nd,rfl⟩⟩;have hcz24_0 : w21.cell? ⟨gb180,0,none⟩ = some (.slice Ao11 t174.length co11):=(blk_cell BK180.out 0).trans rfl;have hcz24_1 : w21.cell? ⟨gb180,1,none⟩ = some (.int .i64 t177):=(blk_cell BK180.out 1).trans rfl;have hfz24_0:=blk_frozen BK180.out 0;have hfz24_1:=blk_frozen BK180.out 1)));(go_ret);(exact ⟨by first|rfl|(simp [errW_none,errW_some] <;> rfl)|(simp [*,errW_none,errW_some] <;> rfl),by repeat (first|(with_reducible first|exact HB.out|apply below_alloc|apply pw_below_drewN|apply below_drew1|refine below_set ?_ GE180.out|refine below_set ?_ GE181.out)|exact HB.out)⟩)
    ·(rw [if_neg c7] at H);(have c7b0 : (t182.toList == ([48,45,54,58,50,44,57,37,50] : List UInt8)) = false:=beq_eq_false_iff_ne.mpr c7);(have c7b1 : (t182.toList != ([48,45,54,58,50,44,57,37,50] : List UInt8)) = true:=bne_iff_ne.mpr c7);(obtain rfl:=Option.some.inj H);(go_enter Tryd.func13,Tryd.ntmps13);(go_wp2_with (first|((with_reducible refine gate_callee (f:=14) rfl ?_);refine goesL_ (some 6) rfl rfl Tryd.func14 (by kernel_rfl) rfl #[.string (⟨#[48,45,54,58,50,44,57,37,50]⟩ : ByteArray)] rfl (by (try simp only [List.map_toArray,List.map_cons,List.map_nil]);first|done|rfl|(simp only [List.length_drop,List.length_take];rfl)) ?_;(with_reducible refine (array_Parse.calls (⟨#[48,45,54,58,50,44,57,37,50]⟩ : ByteArray) t174 t177 t178 t179 _ A1.out (HG_.out.below (by repeat (first|(with_reducible first|exact HB.out|apply below_alloc|apply pw_below_drewN|apply below_drew1)|exact HB.out)))).mono ?_);rintro e w25 ⟨v175,rfl,ho0,hb⟩;refine ⟨_,rfl,?_⟩;have n0_:=Aside0.mk (Kd.R_lower ho0 (below_size (by repeat (first|(with_reducible first|exact HB.out|apply below_alloc|apply pw_below_drewN|apply below_drew1)|exact HB.out))));have n1_:=Aside0.mk (below_step (by repeat (first|(with_reducible first|exact HB.out|apply below_alloc|apply pw_below_drewN|apply below_drew1)|exact HB.out)) hb);clear HB;have HO176:=n0_;have HB:=n1_;clear n0_ n1_;(try clear hb);(try clear hb2);(try clear hk);(try clear hi);(try clear ho0))|((with_reducible refine gate_dst (N:=1) rfl ?_);(try (refine gate_guard (by rfl) ?_;dsimp only));refine box_event ?hg (N:=1) ?hd (cs:=#[.slice none 0 0,.int .i64 0]) (t:=28) ?hr ?_;(case hd => rfl);(case hg => rfl);(case hr => first|(go_simp;done)|(go_simp;rfl));intro gb180 hg w26 hbox hb;have n0_:=Aside0.mk (Kd.R_below (by (with_reducible repeat (first|apply Kd.R_alloc|apply Kd.R_drewN|apply Kd.R_drew));exact HO176.out) hb);have n1_:=Aside0.mk (below_step (by repeat (first|(with_reducible first|exact HB.out|apply below_alloc|apply pw_below_drewN|apply below_drew1)|exact HB.out)) hb);have n2_:=Aside0.mk (hbox);have n3_:=Aside0.mk ((by rw [hg];exact (below_size (by repeat (first|(with_reducible first|exact HB.out|apply below_alloc|apply pw_below_drewN|apply below_drew1)|exact HB.out))) : w.heap.size ≤ gb180));have n4_:=Aside0.mk ((by rw [hg];exact (below_size (by repeat (first|(with_reducible first|exact HB.out|apply below_alloc|apply pw_below_drewN|apply below_drew1)|exact HB.out))) : w.heap.size ≤ gb180));clear HO176;clear HB;have HO176:=n0_;have HB:=n1_;have BK180:=n2_;have GW180:=n3_;have GE180:=n4_;clear n0_ n1_ n2_ n3_ n4_;clear hb hbox hg)|((with_reducible refine gate_dst (N:=2) rfl ?_);(try (refine gate_guard (by rfl) ?_;dsimp only));refine box_event ?hg (N:=2) ?hd (cs:=#[.int .i64 0,.int .i64 0]) (t:=36) ?hr ?_;(case hd => rfl);(case hg => rfl);(case hr => first|(go_simp;done)|(go_simp;rfl));intro gb181 hg w27 hbox hb;have n0_:=Aside0.mk (Kd.R_below (by (with_reducible repeat (first|apply Kd.R_alloc|apply Kd.R_drewN|apply Kd.R_drew));exact HO176.out) hb);have n1_:=Aside0.mk (blk_below (g:=gb180) (o:=.cells #[.slice none 0 0,.int .i64 0] 28 (0,0)) (by (with_reducible repeat (first|refine blk_drewN ?_ _|refine blk_drew ?_|refine blk_alloc ?_ _));exact BK180.out) hb);have n2_:=Aside0.mk (below_step (by repeat (first|(with_reducible first|exact HB.out|apply below_alloc|apply pw_below_drewN|apply below_drew1|refine below_set ?_ GE180.out)|exact HB.out)) hb);have n3_:=Aside0.mk (hbox);have n4_:=Aside0.mk ((by rw [hg];exact (below_size (by repeat (first|(with_reducible first|exact HB.out|apply below_alloc|apply pw_below_drewN|apply below_drew1|refine below_set ?_ GE180.out)|exact HB.out))) : w.heap.size ≤ gb181));have n5_:=Aside0.mk ((by rw [hg];exact (below_size (by repeat (first|(with_reducible first|exact HB.out|apply below_alloc|apply pw_below_drewN|apply below_drew1|refine below_set ?_ GE180.out)|exact HB.out))) : w.heap.size ≤ gb181));have n6_:=Aside0.mk ((by rw [hg];exact Nat.ne_of_lt (blk_lt (g:=gb180) (o:=.cells #[.slice none 0 0,.int .i64 0] 28 (0,0)) (by (with_reducible repeat (first|refine blk_drewN ?_ _|refine blk_drew ?_|refine blk_alloc ?_ _));exact BK180.out)) : gb180 ≠ gb181));have n7_:=Aside0.mk ((by rw [hg];exact Nat.ne_of_gt (blk_lt (g:=gb180) (o:=.cells #[.slice none 0 0,.int .i64 0] 28 (0,0)) (by (with_reducible repeat (first|refine blk_drewN ?_ _|refine blk_drew ?_|refine blk_alloc ?_ _));exact BK180.out)) : gb181 ≠ gb180));clear HO176;clear BK180;clear HB;have HO176:=n0_;have BK180:=n1_;have HB:=n2_;have BK181:=n3_;have GW181:=n4_;have GE181:=n5_;have NB180_181:=n6_;have NB181_180:=n7_;clear n0_ n1_ n2_ n3_ n4_ n5_ n6_ n7_;clear hb hbox hg;obtain ⟨Ao28,co28,eo28⟩:=Kd.R_slice HO176.out;subst eo28;have hnb29:=NB180_181.out;have hnc29:=NB181_180.out;have hcz30_0 : w27.cell? ⟨gb180,0,none⟩ = some (.slice none 0 0):=(blk_cell BK180.out 0).trans rfl;have hcz30_1 : w27.cell? ⟨gb180,1,none⟩ = some (.int .i64 0):=(blk_cell BK180.out 1).trans rfl;have hfz30_0:=blk_frozen BK180.out 0;have hfz30_1:=blk_frozen BK180.out 1)|((with_reducible refine gate_store (t:=28) (p:=1) rfl ?_);refine store_event (t:=28) (p:=1) (v:=?vo_w31) (w1:=((w27.setCell ⟨gb180,0,none⟩ (.slice Ao28 t174.length co28)).setCell ⟨gb180,1,none⟩ (.int .i64 t177))) ?hg ?ho ?hn ?hr ?_;(case ho => rfl);(case hg => rfl);(case hn => rfl);(case hr => first|(go_simp;done)|(go_simp;rfl));intro w31 hw;have n0_ : Aside0 (Kd.R (Kd.int .i64) 3 w31 w.heap.size (fun _ => True) (.slice Ao28 t174.length co28) t174):=⟨(by rw [hw];exact (by (with_reducible repeat (first|apply Kd.R_alloc|apply Kd.R_drewN|apply Kd.R_drew));exact Kd.R_mono (Kd.R_far (p:=⟨gb180,1,none⟩) (Kd.R_far (p:=⟨gb180,0,none⟩) (Kd.R_types HO176.out BK180.out (by decide)) (fun _ hk => hk.2) (.slice Ao28 t174.length co28)) (fun _ hk => hk.2) (.int .i64 t177)) (fun _ hk => trivial)))⟩;have n1_ : Aside0 (w31.heap[gb180]? = some (.cells #[.slice Ao28 t174.length co28,.int .i64 t177] 28 (0,0))):=⟨(by rw [hw];exact (by (with_reducible repeat (first|refine blk_drewN ?_ _|refine blk_drew ?_|refine blk_alloc ?_ _));refine blk_put (cs:=#[.slice Ao28 t174.length co28,.int .i64 0]) ?_ 1 _ rfl;(with_reducible repeat (first|refine blk_drewN ?_ _|refine blk_drew ?_|refine blk_alloc ?_ _));refine blk_put (cs:=#[.slice none 0 0,.int .i64 0]) ?_ 0 _ rfl;(with_reducible repeat (first|refine blk_drewN ?_ _|refine blk_drew ?_|refine blk_alloc ?_ _));exact BK180.out))⟩;have n2_ : Aside0 (w31.heap[gb181]? = some (.cells #[.int .i64 0,.int .i64 0] 36 (0,0))):=⟨(by rw [hw];exact (by (with_reducible repeat (first|refine blk_drewN ?_ _|refine blk_drew ?_|refine blk_alloc ?_ _));refine blk_far ?_ NB181_180.out _;(with_reducible repeat (first|refine blk_drewN ?_ _|refine blk_drew ?_|refine blk_alloc ?_ _));refine blk_far ?_ NB181_180.out _;(with_reducible repeat (first|refine blk_drewN ?_ _|refine blk_drew ?_|refine blk_alloc ?_ _));exact BK181.out))⟩;have n3_ : Aside0 (Below w.heap.size w w31):=⟨(by rw [hw];exact (by repeat (first|(with_reducible first|exact HB.out|apply below_alloc|apply pw_below_drewN|apply below_drew1|refine below_set ?_ GE180.out|refine below_set ?_ GE181.out)|exact HB.out)))⟩;clear hw;clear HO176;clear BK180;clear BK181;clear HB;have HO176:=n0_;have BK180:=n1_;have BK181:=n2_;have HB:=n3_;clear n0_ n1_ n2_ n3_;have hcz32_0 : w31.cell? ⟨gb181,0,none⟩ = some (.int .i64 0):=(blk_cell BK181.out 0).trans rfl;have hcz32_1 : w31.cell? ⟨gb181,1,none⟩ = some (.int .i64 0):=(blk_cell BK181.out 1).trans rfl;have hfz32_0:=blk_frozen BK181.out 0;have hfz32_1:=blk_frozen BK181.out 1)|((with_reducible refine gate_store (t:=36) (p:=2) rfl ?_);refine store_event (t:=36) (p:=2) (v:=?vo_w33) (w1:=((w31.setCell ⟨gb181,0,none⟩ (.int .i64 t178)).setCell ⟨gb181,1,none⟩ (.int .i64 t179))) ?hg ?ho ?hn ?hr ?_;(case ho => rfl);(case hg => rfl);(case hn => rfl);(case hr => first|(go_simp;done)|(go_simp;rfl));intro w33 hw;have n0_ : Aside0 (Kd.R (Kd.int .i64) 3 w33 w.heap.size (fun _ => True) (.slice Ao28 t174.length co28) t174):=⟨(by rw [hw];exact (by (with_reducible repeat (first|apply Kd.R_alloc|apply Kd.R_drewN|apply Kd.R_drew));exact Kd.R_mono (Kd.R_far (p:=⟨gb181,1,none⟩) (Kd.R_far (p:=⟨gb181,0,none⟩) (Kd.R_types HO176.out BK181.out (by decide)) (fun _ hk => hk.2) (.int .i64 t178)) (fun _ hk => hk.2) (.int .i64 t179)) (fun _ hk => trivial)))⟩;have n1_ : Aside0 (w33.heap[gb180]? = some (.cells #[.slice Ao28 t174.length co28,.int .i64 t177] 28 (0,0))):=⟨(by rw [hw];exact (by (with_reducible repeat (first|refine blk_drewN ?_ _|refine blk_drew ?_|refine blk_alloc ?_ _));refine blk_far ?_ NB180_181.out _;(with_reducible repeat (first|refine blk_drewN ?_ _|refine blk_drew ?_|refine blk_alloc ?_ _));refine blk_far ?_ NB180_181.out _;(with_reducible repeat (first|refine blk_drewN ?_ _|refine blk_drew ?_|refine blk_alloc ?_ _));exact BK180.out))⟩;have n2_ : Aside0 (w33.heap[gb181]? = some (.cells #[.int .i64 t178,.int .i64 t179] 36 (0,0))):=⟨(by rw [hw];exact (by (with_reducible repeat (first|refine blk_drewN ?_ _|refine blk_drew ?_|refine blk_alloc ?_ _));refine blk_put (cs:=#[.int .i64 t178,.int .i64 0]) ?_ 1 _ rfl;(with_reducible repeat (first|refine blk_drewN ?_ _|refine blk_drew ?_|refine blk_alloc ?_ _));refine blk_put (cs:=#[.int .i64 0,.int .i64 0]) ?_ 0 _ rfl;(with_reducible repeat (first|refine blk_drewN ?_ _|refine blk_drew ?_|refine blk_alloc ?_ _));exact BK181.out))⟩;have n3_ : Aside0 (Below w.heap.size w w33):=⟨(by rw [hw];exact (by repeat (first|(with_reducible first|exact HB.out|apply below_alloc|apply pw_below_drewN|apply below_drew1|refine below_set ?_ GE180.out|refine below_set ?_ GE181.out)|exact HB.out)))⟩;clear hw;clear HO176;clear BK180;clear BK181;clear HB;have HO176:=n0_;have BK180:=n1_;have BK181:=n2_;have HB:=n3_;clear n0_ n1_ n2_ n3_;have hcz34_0 : w33.cell? ⟨gb180,0,none⟩ = some (.slice Ao28 t174.length co28):=(blk_cell BK180.out 0).trans rfl;have hcz34_1 : w33.cell? ⟨gb180,1,none⟩ = some (.int .i64 t177):=(blk_cell BK180.out 1).trans rfl;have hfz34_0:=blk_frozen BK180.out 0;have hfz34_1:=blk_frozen BK180.out 1)|((with_reducible refine gate_callee (f:=8) rfl ?_);refine goesL_ (some 11) rfl rfl Tryd.func8 (by kernel_rfl) rfl #[.agg #[.slice Ao28 t174.length co28,.int .i64 t177]] rfl (by (try simp only [List.map_toArray,List.map_cons,List.map_nil]);first|done|rfl|(simp only [List.length_drop,List.length_take];rfl)) ?_;(with_reducible refine (array_Format.calls k (fun k_ => some k_ = (.slice Ao28 t174.length co28 : Value).ownBlock) _ _ t174 t177 t182 t183 _ ?side1 A2.out (HG_.out.below (by repeat (first|(with_reducible first|exact HB.out|apply below_alloc|apply pw_below_drewN|apply below_drew1|refine below_set ?_ GE180.out|refine below_set ?_ GE181.out)|exact HB.out)))).mono ?_);(case side1 => exact Kd.R_V (Kd.R_tight rfl (Kd.R_types (Kd.R_types (HO176.out) BK180.out (by decide)) BK181.out (by decide))));rintro e w35 ⟨rfl,hb⟩;refine ⟨_,rfl,?_⟩;have n0_:=Aside0.mk (Kd.R_below (by (with_reducible repeat (first|apply Kd.R_alloc|apply Kd.R_drewN|apply Kd.R_drew));exact HO176.out) hb);have n1_:=Aside0.mk (blk_below (g:=gb180) (o:=.cells #[.slice Ao28 t174.length co28,.int .i64 t177] 28 (0,0)) (by (with_reducible repeat (first|refine blk_drewN ?_ _|refine blk_drew ?_|refine blk_alloc ?_ _));exact BK180.out) hb);have n2_:=Aside0.mk (blk_below (g:=gb181) (o:=.cells #[.int .i64 t178,.int .i64 t179] 36 (0,0)) (by (with_reducible repeat (first|refine blk_drewN ?_ _|refine blk_drew ?_|refine blk_alloc ?_ _));exact BK181.out) hb);have n3_:=Aside0.mk (below_step (by repeat (first|(with_reducible first|exact HB.out|apply below_alloc|apply pw_below_drewN|apply below_drew1|refine below_set ?_ GE180.out|refine below_set ?_ GE181.out)|exact HB.out)) hb);clear HO176;clear BK180;clear BK181;clear HB;have HO176:=n0_;have BK180:=n1_;have BK181:=n2_;have HB:=n3_;clear n0_ n1_ n2_ n3_;(try clear hb);(try clear hb2);(try clear hk);(try clear hi);have hcz36_0 : w35.cell? ⟨gb181,0,none⟩ = some (.int .i64 t178):=(blk_cell BK181.out 0).trans rfl;have hcz36_1 : w35.cell? ⟨gb181,1,none⟩ = some (.int .i64 t179):=(blk_cell BK181.out 1).trans rfl;have hfz36_0:=blk_frozen BK181.out 0;have hfz36_1:=blk_frozen BK181.out 1;have hcz37_0 : w35.cell? ⟨gb180,0,none⟩ = some (.slice Ao28 t174.length co28):=(blk_cell BK180.out 0).trans rfl;have hcz37_1 : w35.cell? ⟨gb180,1,none⟩ = some (.int .i64 t177):=(blk_cell BK180.out 1).trans rfl;have hfz37_0:=blk_frozen BK180.out 0;have hfz37_1:=blk_frozen BK180.out 1)|((with_reducible refine gate_dst (N:=20) rfl ?_);(try (refine gate_guard (by rfl) ?_;dsimp only));refine Kd.R_lit (Kd.int .i64) _ 3 ?hg (N:=20) ?hd (xs:=([0,2,4,6,9] : List Int)) (inner:=[.int .i64 0,.int .i64 2,.int .i64 4,.int .i64 6,.int .i64 9]) (ok:=fun _ => True) (okp:=fun _ => True) ?hr ?hp (fun _ hk => hk) trivial (Below.refl _ _) (Nat.le_refl _) (by simp) ?_;(case hd => rfl);(case hg => rfl);(case hr => first|(go_simp;done)|(go_simp;rfl));(case hp => exact (Reps.one (show Kd.M (Kd.int .i64) _ _ _ 0 [.int .i64 0] from rfl) (Reps.one (show Kd.M (Kd.int .i64) _ _ _ 2 [.int .i64 2] from rfl) (Reps.one (show Kd.M (Kd.int .i64) _ _ _ 4 [.int .i64 4] from rfl) (Reps.one (show Kd.M (Kd.int .i64) _ _ _ 6 [.int .i64 6] from rfl) (Reps.one (show Kd.M (Kd.int .i64) _ _ _ 9 [.int .i64 9] from rfl) (Reps.none _ _)))))));intro v185 w38 ho39 hb hg_ hnew_;clear hg_ hnew_;(first|rw [← Ny184.out] at ho39|(simp only [Int.reduceToNat] at ho39;rw [← Ny184.out] at ho39));have n0_:=Aside0.mk (Kd.R_elder' (by (with_reducible repeat (first|apply Kd.R_alloc|apply Kd.R_drewN|apply Kd.R_drew));exact HO176.out) (Kd.R_base ho39) hb);have n1_:=Aside0.mk (Kd.R_lower (Kd.R_new' ho39 (Kd.R_lt (by (with_reducible repeat (first|apply Kd.R_alloc|apply Kd.R_drewN|apply Kd.R_drew));exact HO176.out))) (below_size (by repeat (first|(with_reducible first|exact HB.out|apply below_alloc|apply pw_below_drewN|apply below_drew1|refine below_set ?_ GE180.out|refine below_set ?_ GE181.out)|exact HB.out))));have n2_:=Aside0.mk (blk_below (g:=gb180) (o:=.cells #[.slice Ao28 t174.length co28,.int .i64 t177] 28 (0,0)) (by (with_reducible repeat (first|refine blk_drewN ?_ _|refine blk_drew ?_|refine blk_alloc ?_ _));exact BK180.out) hb);have n3_:=Aside0.mk (blk_below (g:=gb181) (o:=.cells #[.int .i64 t178,.int .i64 t179] 36 (0,0)) (by (with_reducible repeat (first|refine blk_drewN ?_ _|refine blk_drew ?_|refine blk_alloc ?_ _));exact BK181.out) hb);have n4_:=Aside0.mk (below_step (by repeat (first|(with_reducible first|exact HB.out|apply below_alloc|apply pw_below_drewN|apply below_drew1|refine below_set ?_ GE180.out|refine below_set ?_ GE181.out)|exact HB.out)) hb);clear HO176;clear BK180;clear BK181;clear HB;have HO176:=n0_;have HO186:=n1_;have BK180:=n2_;have BK181:=n3_;have HB:=n4_;clear n0_ n1_ n2_ n3_ n4_;clear hb ho39;obtain ⟨Ao40,co40,eo40⟩:=Kd.R_slice HO186.out;subst eo40)|(go_at_call 15;(with_reducible refine (marlinspikeref01_Ints.calls k _ _ t174 _ _ y184 true _ ?side1 ?side2 ?side3 ?side4 A4.out).mono ?_);(case side1 => repeat (first|exact (Kd.R_reads' HO176.out).2.2|(with_reducible refine Kd.C_alloc ?_ _)|(with_reducible refine Kd.C_drewN ?_ _)|(with_reducible refine Kd.C_drew ?_)));(case side2 => exact (Kd.R_reads' HO176.out).2.1);(case side3 => repeat (first|exact (Kd.R_reads' HO186.out).2.2|(with_reducible refine Kd.C_alloc ?_ _)|(with_reducible refine Kd.C_drewN ?_ _)|(with_reducible refine Kd.C_drew ?_)));(case side4 => exact (Kd.R_reads' HO186.out).2.1);rintro e w' ⟨rfl,⟨nd,rfl⟩⟩;have hcz41_0 : w38.cell? ⟨gb180,0,none⟩ = some (.slice Ao28 t174.length co28):=(blk_cell BK180.out 0).trans rfl;have hcz41_1 : w38.cell? ⟨gb180,1,none⟩ = some (.int .i64 t177):=(blk_cell BK180.out 1).trans rfl;have hfz41_0:=blk_frozen BK180.out 0;have hfz41_1:=blk_frozen BK180.out 1)));(go_ret);(exact ⟨by first|rfl|(simp [errW_none,errW_some] <;> rfl)|(simp [*,errW_none,errW_some] <;> rfl),by repeat (first|(with_reducible first|exact HB.out|apply below_alloc|apply pw_below_drewN|apply below_drew1|refine below_set ?_ GE180.out|refine below_set ?_ GE181.out)|exact HB.out)⟩)
   ·(rw [if_neg c6] at H);(have c6b0 : (t177 == 2) = false:=beq_eq_false_iff_ne.mpr c6);(have c6b1 : (t177 != 2) = true:=bne_iff_ne.mpr c6);(obtain rfl:=Option.some.inj H);(go_enter Tryd.func13,Tryd.ntmps13);(go_wp2_with (first|((with_reducible refine gate_callee (f:=14) rfl ?_);refine goesL_ (some 6) rfl rfl Tryd.func14 (by kernel_rfl) rfl #[.string (⟨#[48,45,54,58,50,44,57,37,50]⟩ : ByteArray)] rfl (by (try simp only [List.map_toArray,List.map_cons,List.map_nil]);first|done|rfl|(simp only [List.length_drop,List.length_take];rfl)) ?_;(with_reducible refine (array_Parse.calls (⟨#[48,45,54,58,50,44,57,37,50]⟩ : ByteArray) t174 t177 t178 t179 _ A1.out (HG_.out.below (by repeat (first|(with_reducible first|exact HB.out|apply below_alloc|apply pw_below_drewN|apply below_drew1)|exact HB.out)))).mono ?_);rintro e w42 ⟨v175,rfl,ho0,hb⟩;refine ⟨_,rfl,?_⟩;have n0_:=Aside0.mk (Kd.R_lower ho0 (below_size (by repeat (first|(with_reducible first|exact HB.out|apply below_alloc|apply pw_below_drewN|apply below_drew1)|exact HB.out))));have n1_:=Aside0.mk (below_step (by repeat (first|(with_reducible first|exact HB.out|apply below_alloc|apply pw_below_drewN|apply below_drew1)|exact HB.out)) hb);clear HB;have HO176:=n0_;have HB:=n1_;clear n0_ n1_;(try clear hb);(try clear hb2);(try clear hk);(try clear hi);(try clear ho0))|((with_reducible refine gate_dst (N:=1) rfl ?_);(try (refine gate_guard (by rfl) ?_;dsimp only));refine box_event ?hg (N:=1) ?hd (cs:=#[.slice none 0 0,.int .i64 0]) (t:=28) ?hr ?_;(case hd => rfl);(case hg => rfl);(case hr => first|(go_simp;done)|(go_simp;rfl));intro gb180 hg w43 hbox hb;have n0_:=Aside0.mk (Kd.R_below (by (with_reducible repeat (first|apply Kd.R_alloc|apply Kd.R_drewN|apply Kd.R_drew));exact HO176.out) hb);have n1_:=Aside0.mk (below_step (by repeat (first|(with_reducible first|exact HB.out|apply below_alloc|apply pw_below_drewN|apply below_drew1)|exact HB.out)) hb);have n2_:=Aside0.mk (hbox);have n3_:=Aside0.mk ((by rw [hg];exact (below_size (by repeat (first|(with_reducible first|exact HB.out|apply below_alloc|apply pw_below_drewN|apply below_drew1)|exact HB.out))) : w.heap.size ≤ gb180));have n4_:=Aside0.mk ((by rw [hg];exact (below_size (by repeat (first|(with_reducible first|exact HB.out|apply below_alloc|apply pw_below_drewN|apply below_drew1)|exact HB.out))) : w.heap.size ≤ gb180));clear HO176;clear HB;have HO176:=n0_;have HB:=n1_;have BK180:=n2_;have GW180:=n3_;have GE180:=n4_;clear n0_ n1_ n2_ n3_ n4_;clear hb hbox hg)|((with_reducible refine gate_dst (N:=2) rfl ?_);(try (refine gate_guard (by rfl) ?_;dsimp only));refine box_event ?hg (N:=2) ?hd (cs:=#[.int .i64 0,.int .i64 0]) (t:=36) ?hr ?_;(case hd => rfl);(case hg => rfl);(case hr => first|(go_simp;done)|(go_simp;rfl));intro gb181 hg w44 hbox hb;have n0_:=Aside0.mk (Kd.R_below (by (with_reducible repeat (first|apply Kd.R_alloc|apply Kd.R_drewN|apply Kd.R_drew));exact HO176.out) hb);have n1_:=Aside0.mk (blk_below (g:=gb180) (o:=.cells #[.slice none 0 0,.int .i64 0] 28 (0,0)) (by (with_reducible repeat (first|refine blk_drewN ?_ _|refine blk_drew ?_|refine blk_alloc ?_ _));exact BK180.out) hb);have n2_:=Aside0.mk (below_step (by repeat (first|(with_reducible first|exact HB.out|apply below_alloc|apply pw_below_drewN|apply below_drew1|refine below_set ?_ GE180.out)|exact HB.out)) hb);have n3_:=Aside0.mk (hbox);have n4_:=Aside0.mk ((by rw [hg];exact (below_size (by repeat (first|(with_reducible first|exact HB.out|apply below_alloc|apply pw_below_drewN|apply below_drew1|refine below_set ?_ GE180.out)|exact HB.out))) : w.heap.size ≤ gb181));have n5_:=Aside0.mk ((by rw [hg];exact (below_size (by repeat (first|(with_reducible first|exact HB.out|apply below_alloc|apply pw_below_drewN|apply below_drew1|refine below_set ?_ GE180.out)|exact HB.out))) : w.heap.size ≤ gb181));have n6_:=Aside0.mk ((by rw [hg];exact Nat.ne_of_lt (blk_lt (g:=gb180) (o:=.cells #[.slice none 0 0,.int .i64 0] 28 (0,0)) (by (with_reducible repeat (first|refine blk_drewN ?_ _|refine blk_drew ?_|refine blk_alloc ?_ _));exact BK180.out)) : gb180 ≠ gb181));have n7_:=Aside0.mk ((by rw [hg];exact Nat.ne_of_gt (blk_lt (g:=gb180) (o:=.cells #[.slice none 0 0,.int .i64 0] 28 (0,0)) (by (with_reducible repeat (first|refine blk_drewN ?_ _|refine blk_drew ?_|refine blk_alloc ?_ _));exact BK180.out)) : gb181 ≠ gb180));clear HO176;clear BK180;clear HB;have HO176:=n0_;have BK180:=n1_;have HB:=n2_;have BK181:=n3_;have GW181:=n4_;have GE181:=n5_;have NB180_181:=n6_;have NB181_180:=n7_;clear n0_ n1_ n2_ n3_ n4_ n5_ n6_ n7_;clear hb hbox hg;obtain ⟨Ao45,co45,eo45⟩:=Kd.R_slice HO176.out;subst eo45;have hnb46:=NB180_181.out;have hnc46:=NB181_180.out;have hcz47_0 : w44.cell? ⟨gb180,0,none⟩ = some (.slice none 0 0):=(blk_cell BK180.out 0).trans rfl;have hcz47_1 : w44.cell? ⟨gb180,1,none⟩ = some (.int .i64 0):=(blk_cell BK180.out 1).trans rfl;have hfz47_0:=blk_frozen BK180.out 0;have hfz47_1:=blk_frozen BK180.out 1)|((with_reducible refine gate_store (t:=28) (p:=1) rfl ?_);refine store_event (t:=28) (p:=1) (v:=?vo_w48) (w1:=((w44.setCell ⟨gb180,0,none⟩ (.slice Ao45 t174.length co45)).setCell ⟨gb180,1,none⟩ (.int .i64 t177))) ?hg ?ho ?hn ?hr ?_;(case ho => rfl);(case hg => rfl);(case hn => rfl);(case hr => first|(go_simp;done)|(go_simp;rfl));intro w48 hw;have n0_ : Aside0 (Kd.R (Kd.int .i64) 3 w48 w.heap.size (fun _ => True) (.slice Ao45 t174.length co45) t174):=⟨(by rw [hw];exact (by (with_reducible repeat (first|apply Kd.R_alloc|apply Kd.R_drewN|apply Kd.R_drew));exact Kd.R_mono (Kd.R_far (p:=⟨gb180,1,none⟩) (Kd.R_far (p:=⟨gb180,0,none⟩) (Kd.R_types HO176.out BK180.out (by decide)) (fun _ hk => hk.2) (.slice Ao45 t174.length co45)) (fun _ hk => hk.2) (.int .i64 t177)) (fun _ hk => trivial)))⟩;have n1_ : Aside0 (w48.heap[gb180]? = some (.cells #[.slice Ao45 t174.length co45,.int .i64 t177] 28 (0,0))):=⟨(by rw [hw];exact (by (with_reducible repeat (first|refine blk_drewN ?_ _|refine blk_drew ?_|refine blk_alloc ?_ _));refine blk_put (cs:=#[.slice Ao45 t174.length co45,.int .i64 0]) ?_ 1 _ rfl;(with_reducible repeat (first|refine blk_drewN ?_ _|refine blk_drew ?_|refine blk_alloc ?_ _));refine blk_put (cs:=#[.slice none 0 0,.int .i64 0]) ?_ 0 _ rfl;(with_reducible repeat (first|refine blk_drewN ?_ _|refine blk_drew ?_|refine blk_alloc ?_ _));exact BK180.out))⟩;have n2_ : Aside0 (w48.heap[gb181]? = some (.cells #[.int .i64 0,.int .i64 0] 36 (0,0))):=⟨(by rw [hw];exact (by (with_reducible repeat (first|refine blk_drewN ?_ _|refine blk_drew ?_|refine blk_alloc ?_ _));refine blk_far ?_ NB181_180.out _;(with_reducible repeat (first|refine blk_drewN ?_ _|refine blk_drew ?_|refine blk_alloc ?_ _));refine blk_far ?_ NB181_180.out _;(with_reducible repeat (first|refine blk_drewN ?_ _|refine blk_drew ?_|refine blk_alloc ?_ _));exact BK181.out))⟩;have n3_ : Aside0 (Below w.heap.size w w48):=⟨(by rw [hw];exact (by repeat (first|(with_reducible first|exact HB.out|apply below_alloc|apply pw_below_drewN|apply below_drew1|refine below_set ?_ GE180.out|refine below_set ?_ GE181.out)|exact HB.out)))⟩;clear hw;clear HO176;clear BK180;clear BK181;clear HB;have HO176:=n0_;have BK180:=n1_;have BK181:=n2_;have HB:=n3_;clear n0_ n1_ n2_ n3_;have hcz49_0 : w48.cell? ⟨gb181,0,none⟩ = some (.int .i64 0):=(blk_cell BK181.out 0).trans rfl;have hcz49_1 : w48.cell? ⟨gb181,1,none⟩ = some (.int .i64 0):=(blk_cell BK181.out 1).trans rfl;have hfz49_0:=blk_frozen BK181.out 0;have hfz49_1:=blk_frozen BK181.out 1)|((with_reducible refine gate_store (t:=36) (p:=2) rfl ?_);refine store_event (t:=36) (p:=2) (v:=?vo_w50) (w1:=((w48.setCell ⟨gb181,0,none⟩ (.int .i64 t178)).setCell ⟨gb181,1,none⟩ (.int .i64 t179))) ?hg ?ho ?hn ?hr ?_;(case ho => rfl);(case hg => rfl);(case hn => rfl);(case hr => first|(go_simp;done)|(go_simp;rfl));intro w50 hw;have n0_ : Aside0 (Kd.R (Kd.int .i64) 3 w50 w.heap.size (fun _ => True) (.slice Ao45 t174.length co45) t174):=⟨(by rw [hw];exact (by (with_reducible repeat (first|apply Kd.R_alloc|apply Kd.R_drewN|apply Kd.R_drew));exact Kd.R_mono (Kd.R_far (p:=⟨gb181,1,none⟩) (Kd.R_far (p:=⟨gb181,0,none⟩) (Kd.R_types HO176.out BK181.out (by decide)) (fun _ hk => hk.2) (.int .i64 t178)) (fun _ hk => hk.2) (.int .i64 t179)) (fun _ hk => trivial)))⟩;have n1_ : Aside0 (w50.heap[gb180]? = some (.cells #[.slice Ao45 t174.length co45,.int .i64 t177] 28 (0,0))):=⟨(by rw [hw];exact (by (with_reducible repeat (first|refine blk_drewN ?_ _|refine blk_drew ?_|refine blk_alloc ?_ _));refine blk_far ?_ NB180_181.out _;(with_reducible repeat (first|refine blk_drewN ?_ _|refine blk_drew ?_|refine blk_alloc ?_ _));refine blk_far ?_ NB180_181.out _;(with_reducible repeat (first|refine blk_drewN ?_ _|refine blk_drew ?_|refine blk_alloc ?_ _));exact BK180.out))⟩;have n2_ : Aside0 (w50.heap[gb181]? = some (.cells #[.int .i64 t178,.int .i64 t179] 36 (0,0))):=⟨(by rw [hw];exact (by (with_reducible repeat (first|refine blk_drewN ?_ _|refine blk_drew ?_|refine blk_alloc ?_ _));refine blk_put (cs:=#[.int .i64 t178,.int .i64 0]) ?_ 1 _ rfl;(with_reducible repeat (first|refine blk_drewN ?_ _|refine blk_drew ?_|refine blk_alloc ?_ _));refine blk_put (cs:=#[.int .i64 0,.int .i64 0]) ?_ 0 _ rfl;(with_reducible repeat (first|refine blk_drewN ?_ _|refine blk_drew ?_|refine blk_alloc ?_ _));exact BK181.out))⟩;have n3_ : Aside0 (Below w.heap.size w w50):=⟨(by rw [hw];exact (by repeat (first|(with_reducible first|exact HB.out|apply below_alloc|apply pw_below_drewN|apply below_drew1|refine below_set ?_ GE180.out|refine below_set ?_ GE181.out)|exact HB.out)))⟩;clear hw;clear HO176;clear BK180;clear BK181;clear HB;have HO176:=n0_;have BK180:=n1_;have BK181:=n2_;have HB:=n3_;clear n0_ n1_ n2_ n3_;have hcz51_0 : w50.cell? ⟨gb180,0,none⟩ = some (.slice Ao45 t174.length co45):=(blk_cell BK180.out 0).trans rfl;have hcz51_1 : w50.cell? ⟨gb180,1,none⟩ = some (.int .i64 t177):=(blk_cell BK180.out 1).trans rfl;have hfz51_0:=blk_frozen BK180.out 0;have hfz51_1:=blk_frozen BK180.out 1)|((with_reducible refine gate_callee (f:=8) rfl ?_);refine goesL_ (some 11) rfl rfl Tryd.func8 (by kernel_rfl) rfl #[.agg #[.slice Ao45 t174.length co45,.int .i64 t177]] rfl (by (try simp only [List.map_toArray,List.map_cons,List.map_nil]);first|done|rfl|(simp only [List.length_drop,List.length_take];rfl)) ?_;(with_reducible refine (array_Format.calls k (fun k_ => some k_ = (.slice Ao45 t174.length co45 : Value).ownBlock) _ _ t174 t177 t182 t183 _ ?side1 A2.out (HG_.out.below (by repeat (first|(with_reducible first|exact HB.out|apply below_alloc|apply pw_below_drewN|apply below_drew1|refine below_set ?_ GE180.out|refine below_set ?_ GE181.out)|exact HB.out)))).mono ?_);(case side1 => exact Kd.R_V (Kd.R_tight rfl (Kd.R_types (Kd.R_types (HO176.out) BK180.out (by decide)) BK181.out (by decide))));rintro e w52 ⟨rfl,hb⟩;refine ⟨_,rfl,?_⟩;have n0_:=Aside0.mk (Kd.R_below (by (with_reducible repeat (first|apply Kd.R_alloc|apply Kd.R_drewN|apply Kd.R_drew));exact HO176.out) hb);have n1_:=Aside0.mk (blk_below (g:=gb180) (o:=.cells #[.slice Ao45 t174.length co45,.int .i64 t177] 28 (0,0)) (by (with_reducible repeat (first|refine blk_drewN ?_ _|refine blk_drew ?_|refine blk_alloc ?_ _));exact BK180.out) hb);have n2_:=Aside0.mk (blk_below (g:=gb181) (o:=.cells #[.int .i64 t178,.int .i64 t179] 36 (0,0)) (by (with_reducible repeat (first|refine blk_drewN ?_ _|refine blk_drew ?_|refine blk_alloc ?_ _));exact BK181.out) hb);have n3_:=Aside0.mk (below_step (by repeat (first|(with_reducible first|exact HB.out|apply below_alloc|apply pw_below_drewN|apply below_drew1|refine below_set ?_ GE180.out|refine below_set ?_ GE181.out)|exact HB.out)) hb);clear HO176;clear BK180;clear BK181;clear HB;have HO176:=n0_;have BK180:=n1_;have BK181:=n2_;have HB:=n3_;clear n0_ n1_ n2_ n3_;(try clear hb);(try clear hb2);(try clear hk);(try clear hi);have hcz53_0 : w52.cell? ⟨gb181,0,none⟩ = some (.int .i64 t178):=(blk_cell BK181.out 0).trans rfl;have hcz53_1 : w52.cell? ⟨gb181,1,none⟩ = some (.int .i64 t179):=(blk_cell BK181.out 1).trans rfl;have hfz53_0:=blk_frozen BK181.out 0;have hfz53_1:=blk_frozen BK181.out 1;have hcz54_0 : w52.cell? ⟨gb180,0,none⟩ = some (.slice Ao45 t174.length co45):=(blk_cell BK180.out 0).trans rfl;have hcz54_1 : w52.cell? ⟨gb180,1,none⟩ = some (.int .i64 t177):=(blk_cell BK180.out 1).trans rfl;have hfz54_0:=blk_frozen BK180.out 0;have hfz54_1:=blk_frozen BK180.out 1)|((with_reducible refine gate_dst (N:=20) rfl ?_);(try (refine gate_guard (by rfl) ?_;dsimp only));refine Kd.R_lit (Kd.int .i64) _ 3 ?hg (N:=20) ?hd (xs:=([0,2,4,6,9] : List Int)) (inner:=[.int .i64 0,.int .i64 2,.int .i64 4,.int .i64 6,.int .i64 9]) (ok:=fun _ => True) (okp:=fun _ => True) ?hr ?hp (fun _ hk => hk) trivial (Below.refl _ _) (Nat.le_refl _) (by simp) ?_;(case hd => rfl);(case hg => rfl);(case hr => first|(go_simp;done)|(go_simp;rfl));(case hp => exact (Reps.one (show Kd.M (Kd.int .i64) _ _ _ 0 [.int .i64 0] from rfl) (Reps.one (show Kd.M (Kd.int .i64) _ _ _ 2 [.int .i64 2] from rfl) (Reps.one (show Kd.M (Kd.int .i64) _ _ _ 4 [.int .i64 4] from rfl) (Reps.one (show Kd.M (Kd.int .i64) _ _ _ 6 [.int .i64 6] from rfl) (Reps.one (show Kd.M (Kd.int .i64) _ _ _ 9 [.int .i64 9] from rfl) (Reps.none _ _)))))));intro v185 w55 ho56 hb hg_ hnew_;clear hg_ hnew_;(first|rw [← Ny184.out] at ho56|(simp only [Int.reduceToNat] at ho56;rw [← Ny184.out] at ho56));have n0_:=Aside0.mk (Kd.R_elder' (by (with_reducible repeat (first|apply Kd.R_alloc|apply Kd.R_drewN|apply Kd.R_drew));exact HO176.out) (Kd.R_base ho56) hb);have n1_:=Aside0.mk (Kd.R_lower (Kd.R_new' ho56 (Kd.R_lt (by (with_reducible repeat (first|apply Kd.R_alloc|apply Kd.R_drewN|apply Kd.R_drew));exact HO176.out))) (below_size (by repeat (first|(with_reducible first|exact HB.out|apply below_alloc|apply pw_below_drewN|apply below_drew1|refine below_set ?_ GE180.out|refine below_set ?_ GE181.out)|exact HB.out))));have n2_:=Aside0.mk (blk_below (g:=gb180) (o:=.cells #[.slice Ao45 t174.length co45,.int .i64 t177] 28 (0,0)) (by (with_reducible repeat (first|refine blk_drewN ?_ _|refine blk_drew ?_|refine blk_alloc ?_ _));exact BK180.out) hb);have n3_:=Aside0.mk (blk_below (g:=gb181) (o:=.cells #[.int .i64 t178,.int .i64 t179] 36 (0,0)) (by (with_reducible repeat (first|refine blk_drewN ?_ _|refine blk_drew ?_|refine blk_alloc ?_ _));exact BK181.out) hb);have n4_:=Aside0.mk (below_step (by repeat (first|(with_reducible first|exact HB.out|apply below_alloc|apply pw_below_drewN|apply below_drew1|refine below_set ?_ GE180.out|refine below_set ?_ GE181.out)|exact HB.out)) hb);clear HO176;clear BK180;clear BK181;clear HB;have HO176:=n0_;have HO186:=n1_;have BK180:=n2_;have BK181:=n3_;have HB:=n4_;clear n0_ n1_ n2_ n3_ n4_;clear hb ho56;obtain ⟨Ao57,co57,eo57⟩:=Kd.R_slice HO186.out;subst eo57)|(go_at_call 15;(with_reducible refine (marlinspikeref01_Ints.calls k _ _ t174 _ _ y184 true _ ?side1 ?side2 ?side3 ?side4 A4.out).mono ?_);(case side1 => repeat (first|exact (Kd.R_reads' HO176.out).2.2|(with_reducible refine Kd.C_alloc ?_ _)|(with_reducible refine Kd.C_drewN ?_ _)|(with_reducible refine Kd.C_drew ?_)));(case side2 => exact (Kd.R_reads' HO176.out).2.1);(case side3 => repeat (first|exact (Kd.R_reads' HO186.out).2.2|(with_reducible refine Kd.C_alloc ?_ _)|(with_reducible refine Kd.C_drewN ?_ _)|(with_reducible refine Kd.C_drew ?_)));(case side4 => exact (Kd.R_reads' HO186.out).2.1);rintro e w' ⟨rfl,⟨nd,rfl⟩⟩;have hcz58_0 : w55.cell? ⟨gb180,0,none⟩ = some (.slice Ao45 t174.length co45):=(blk_cell BK180.out 0).trans rfl;have hcz58_1 : w55.cell? ⟨gb180,1,none⟩ = some (.int .i64 t177):=(blk_cell BK180.out 1).trans rfl;have hfz58_0:=blk_frozen BK180.out 0;have hfz58_1:=blk_frozen BK180.out 1)));(go_ret);(exact ⟨by first|rfl|(simp [errW_none,errW_some] <;> rfl)|(simp [*,errW_none,errW_some] <;> rfl),by repeat (first|(with_reducible first|exact HB.out|apply below_alloc|apply pw_below_drewN|apply below_drew1|refine below_set ?_ GE180.out|refine below_set ?_ GE181.out)|exact HB.out)⟩)
  ·(replace c5:=Bool.eq_false_iff.mpr c5);(subst c5);(have H1 : (some false) = some r:=by rw [if_neg (show ¬ (false = true) by decide)] at H;exact H);(clear H);(have H:=H1);(clear H1);(obtain rfl:=Option.some.inj H);(go_enter Tryd.func13,Tryd.ntmps13);(go_wp2_with (first|((with_reducible refine gate_callee (f:=14) rfl ?_);refine goesL_ (some 6) rfl rfl Tryd.func14 (by kernel_rfl) rfl #[.string (⟨#[48,45,54,58,50,44,57,37,50]⟩ : ByteArray)] rfl (by (try simp only [List.map_toArray,List.map_cons,List.map_nil]);first|done|rfl|(simp only [List.length_drop,List.length_take];rfl)) ?_;(with_reducible refine (array_Parse.calls (⟨#[48,45,54,58,50,44,57,37,50]⟩ : ByteArray) t174 t177 t178 t179 _ A1.out (HG_.out.below (by repeat (first|(with_reducible first|exact HB.out|apply below_alloc|apply pw_below_drewN|apply below_drew1)|exact HB.out)))).mono ?_);rintro e w59 ⟨v175,rfl,ho0,hb⟩;refine ⟨_,rfl,?_⟩;have n0_:=Aside0.mk (Kd.R_lower ho0 (below_size (by repeat (first|(with_reducible first|exact HB.out|apply below_alloc|apply pw_below_drewN|apply below_drew1)|exact HB.out))));have n1_:=Aside0.mk (below_step (by repeat (first|(with_reducible first|exact HB.out|apply below_alloc|apply pw_below_drewN|apply below_drew1)|exact HB.out)) hb);clear HB;have HO176:=n0_;have HB:=n1_;clear n0_ n1_;(try clear hb);(try clear hb2);(try clear hk);(try clear hi);(try clear ho0))|((with_reducible refine gate_dst (N:=1) rfl ?_);(try (refine gate_guard (by rfl) ?_;dsimp only));refine box_event ?hg (N:=1) ?hd (cs:=#[.slice none 0 0,.int .i64 0]) (t:=28) ?hr ?_;(case hd => rfl);(case hg => rfl);(case hr => first|(go_simp;done)|(go_simp;rfl));intro gb180 hg w60 hbox hb;have n0_:=Aside0.mk (Kd.R_below (by (with_reducible repeat (first|apply Kd.R_alloc|apply Kd.R_drewN|apply Kd.R_drew));exact HO176.out) hb);have n1_:=Aside0.mk (below_step (by repeat (first|(with_reducible first|exact HB.out|apply below_alloc|apply pw_below_drewN|apply below_drew1)|exact HB.out)) hb);have n2_:=Aside0.mk (hbox);have n3_:=Aside0.mk ((by rw [hg];exact (below_size (by repeat (first|(with_reducible first|exact HB.out|apply below_alloc|apply pw_below_drewN|apply below_drew1)|exact HB.out))) : w.heap.size ≤ gb180));have n4_:=Aside0.mk ((by rw [hg];exact (below_size (by repeat (first|(with_reducible first|exact HB.out|apply below_alloc|apply pw_below_drewN|apply below_drew1)|exact HB.out))) : w.heap.size ≤ gb180));clear HO176;clear HB;have HO176:=n0_;have HB:=n1_;have BK180:=n2_;have GW180:=n3_;have GE180:=n4_;clear n0_ n1_ n2_ n3_ n4_;clear hb hbox hg)|((with_reducible refine gate_dst (N:=2) rfl ?_);(try (refine gate_guard (by rfl) ?_;dsimp only));refine box_event ?hg (N:=2) ?hd (cs:=#[.int .i64 0,.int .i64 0]) (t:=36) ?hr ?_;(case hd => rfl);(case hg => rfl);(case hr => first|(go_simp;done)|(go_simp;rfl));intro gb181 hg w61 hbox hb;have n0_:=Aside0.mk (Kd.R_below (by (with_reducible repeat (first|apply Kd.R_alloc|apply Kd.R_drewN|apply Kd.R_drew));exact HO176.out) hb);have n1_:=Aside0.mk (blk_below (g:=gb180) (o:=.cells #[.slice none 0 0,.int .i64 0] 28 (0,0)) (by (with_reducible repeat (first|refine blk_drewN ?_ _|refine blk_drew ?_|refine blk_alloc ?_ _));exact BK180.out) hb);have n2_:=Aside0.mk (below_step (by repeat (first|(with_reducible first|exact HB.out|apply below_alloc|apply pw_below_drewN|apply below_drew1|refine below_set ?_ GE180.out)|exact HB.out)) hb);have n3_:=Aside0.mk (hbox);have n4_:=Aside0.mk ((by rw [hg];exact (below_size (by repeat (first|(with_reducible first|exact HB.out|apply below_alloc|apply pw_below_drewN|apply below_drew1|refine below_set ?_ GE180.out)|exact HB.out))) : w.heap.size ≤ gb181));have n5_:=Aside0.mk ((by rw [hg];exact (below_size (by repeat (first|(with_reducible first|exact HB.out|apply below_alloc|apply pw_below_drewN|apply below_drew1|refine below_set ?_ GE180.out)|exact HB.out))) : w.heap.size ≤ gb181));have n6_:=Aside0.mk ((by rw [hg];exact Nat.ne_of_lt (blk_lt (g:=gb180) (o:=.cells #[.slice none 0 0,.int .i64 0] 28 (0,0)) (by (with_reducible repeat (first|refine blk_drewN ?_ _|refine blk_drew ?_|refine blk_alloc ?_ _));exact BK180.out)) : gb180 ≠ gb181));have n7_:=Aside0.mk ((by rw [hg];exact Nat.ne_of_gt (blk_lt (g:=gb180) (o:=.cells #[.slice none 0 0,.int .i64 0] 28 (0,0)) (by (with_reducible repeat (first|refine blk_drewN ?_ _|refine blk_drew ?_|refine blk_alloc ?_ _));exact BK180.out)) : gb181 ≠ gb180));clear HO176;clear BK180;clear HB;have HO176:=n0_;have BK180:=n1_;have HB:=n2_;have BK181:=n3_;have GW181:=n4_;have GE181:=n5_;have NB180_181:=n6_;have NB181_180:=n7_;clear n0_ n1_ n2_ n3_ n4_ n5_ n6_ n7_;clear hb hbox hg;obtain ⟨Ao62,co62,eo62⟩:=Kd.R_slice HO176.out;subst eo62;have hnb63:=NB180_181.out;have hnc63:=NB181_180.out;have hcz64_0 : w61.cell? ⟨gb180,0,none⟩ = some (.slice none 0 0):=(blk_cell BK180.out 0).trans rfl;have hcz64_1 : w61.cell? ⟨gb180,1,none⟩ = some (.int .i64 0):=(blk_cell BK180.out 1).trans rfl;have hfz64_0:=blk_frozen BK180.out 0;have hfz64_1:=blk_frozen BK180.out 1)|((with_reducible refine gate_store (t:=28) (p:=1) rfl ?_);refine store_event (t:=28) (p:=1) (v:=?vo_w65) (w1:=((w61.setCell ⟨gb180,0,none⟩ (.slice Ao62 t174.length co62)).setCell ⟨gb180,1,none⟩ (.int .i64 t177))) ?hg ?ho ?hn ?hr ?_;(case ho => rfl);(case hg => rfl);(case hn => rfl);(case hr => first|(go_simp;done)|(go_simp;rfl));intro w65 hw;have n0_ : Aside0 (Kd.R (Kd.int .i64) 3 w65 w.heap.size (fun _ => True) (.slice Ao62 t174.length co62) t174):=⟨(by rw [hw];exact (by (with_reducible repeat (first|apply Kd.R_alloc|apply Kd.R_drewN|apply Kd.R_drew));exact Kd.R_mono (Kd.R_far (p:=⟨gb180,1,none⟩) (Kd.R_far (p:=⟨gb180,0,none⟩) (Kd.R_types HO176.out BK180.out (by decide)) (fun _ hk => hk.2) (.slice Ao62 t174.length co62)) (fun _ hk => hk.2) (.int .i64 t177)) (fun _ hk => trivial)))⟩;have n1_ : Aside0 (w65.heap[gb180]? = some (.cells #[.slice Ao62 t174.length co62,.int .i64 t177] 28 (0,0))):=⟨(by rw [hw];exact (by (with_reducible repeat (first|refine blk_drewN ?_ _|refine blk_drew ?_|refine blk_alloc ?_ _));refine blk_put (cs:=#[.slice Ao62 t174.length co62,.int .i64 0]) ?_ 1 _ rfl;(with_reducible repeat (first|refine blk_drewN ?_ _|refine blk_drew ?_|refine blk_alloc ?_ _));refine blk_put (cs:=#[.slice none 0 0,.int .i64 0]) ?_ 0 _ rfl;(with_reducible repeat (first|refine blk_drewN ?_ _|refine blk_drew ?_|refine blk_alloc ?_ _));exact BK180.out))⟩;have n2_ : Aside0 (w65.heap[gb181]? = some (.cells #[.int .i64 0,.int .i64 0] 36 (0,0))):=⟨(by rw [hw];exact (by (with_reducible repeat (first|refine blk_drewN ?_ _|refine blk_drew ?_|refine blk_alloc ?_ _));refine blk_far ?_ NB181_180.out _;(with_reducible repeat (first|refine blk_drewN ?_ _|refine blk_drew ?_|refine blk_alloc ?_ _));refine blk_far ?_ NB181_180.out _;(with_reducible repeat (first|refine blk_drewN ?_ _|refine blk_drew ?_|refine blk_alloc ?_ _));exact BK181.out))⟩;have n3_ : Aside0 (Below w.heap.size w w65):=⟨(by rw [hw];exact (by repeat (first|(with_reducible first|exact HB.out|apply below_alloc|apply pw_below_drewN|apply below_drew1|refine below_set ?_ GE180.out|refine below_set ?_ GE181.out)|exact HB.out)))⟩;clear hw;clear HO176;clear BK180;clear BK181;clear HB;have HO176:=n0_;have BK180:=n1_;have BK181:=n2_;have HB:=n3_;clear n0_ n1_ n2_ n3_;have hcz66_0 : w65.cell? ⟨gb181,0,none⟩ = some (.int .i64 0):=(blk_cell BK181.out 0).trans rfl;have hcz66_1 : w65.cell? ⟨gb181,1,none⟩ = some (.int .i64 0):=(blk_cell BK181.out 1).trans rfl;have hfz66_0:=blk_frozen BK181.out 0;have hfz66_1:=blk_frozen BK181.out 1)|((with_reducible refine gate_store (t:=36) (p:=2) rfl ?_);refine store_event (t:=36) (p:=2) (v:=?vo_w67) (w1:=((w65.setCell ⟨gb181,0,none⟩ (.int .i64 t178)).setCell ⟨gb181,1,none⟩ (.int .i64 t179))) ?hg ?ho ?hn ?hr ?_;(case ho => rfl);(case hg => rfl);(case hn => rfl);(case hr => first|(go_simp;done)|(go_simp;rfl));intro w67 hw;have n0_ : Aside0 (Kd.R (Kd.int .i64) 3 w67 w.heap.size (fun _ => True) (.slice Ao62 t174.length co62) t174):=⟨(by rw [hw];exact (by (with_reducible repeat (first|apply Kd.R_alloc|apply Kd.R_drewN|apply Kd.R_drew));exact Kd.R_mono (Kd.R_far (p:=⟨gb181,1,none⟩) (Kd.R_far (p:=⟨gb181,0,none⟩) (Kd.R_types HO176.out BK181.out (by decide)) (fun _ hk => hk.2) (.int .i64 t178)) (fun _ hk => hk.2) (.int .i64 t179)) (fun _ hk => trivial)))⟩;have n1_ : Aside0 (w67.heap[gb180]? = some (.cells #[.slice Ao62 t174.length co62,.int .i64 t177] 28 (0,0))):=⟨(by rw [hw];exact (by (with_reducible repeat (first|refine blk_drewN ?_ _|refine blk_drew ?_|refine blk_alloc ?_ _));refine blk_far ?_ NB180_181.out _;(with_reducible repeat (first|refine blk_drewN ?_ _|refine blk_drew ?_|refine blk_alloc ?_ _));refine blk_far ?_ NB180_181.out _;(with_reducible repeat (first|refine blk_drewN ?_ _|refine blk_drew ?_|refine blk_alloc ?_ _));exact BK180.out))⟩;have n2_ : Aside0 (w67.heap[gb181]? = some (.cells #[.int .i64 t178,.int .i64 t179] 36 (0,0))):=⟨(by rw [hw];exact (by (with_reducible repeat (first|refine blk_drewN ?_ _|refine blk_drew ?_|refine blk_alloc ?_ _));refine blk_put (cs:=#[.int .i64 t178,.int .i64 0]) ?_ 1 _ rfl;(with_reducible repeat (first|refine blk_drewN ?_ _|refine blk_drew ?_|refine blk_alloc ?_ _));refine blk_put (cs:=#[.int .i64 0,.int .i64 0]) ?_ 0 _ rfl;(with_reducible repeat (first|refine blk_drewN ?_ _|refine blk_drew ?_|refine blk_alloc ?_ _));exact BK181.out))⟩;have n3_ : Aside0 (Below w.heap.size w w67):=⟨(by rw [hw];exact (by repeat (first|(with_reducible first|exact HB.out|apply below_alloc|apply pw_below_drewN|apply below_drew1|refine below_set ?_ GE180.out|refine below_set ?_ GE181.out)|exact HB.out)))⟩;clear hw;clear HO176;clear BK180;clear BK181;clear HB;have HO176:=n0_;have BK180:=n1_;have BK181:=n2_;have HB:=n3_;clear n0_ n1_ n2_ n3_;have hcz68_0 : w67.cell? ⟨gb180,0,none⟩ = some (.slice Ao62 t174.length co62):=(blk_cell BK180.out 0).trans rfl;have hcz68_1 : w67.cell? ⟨gb180,1,none⟩ = some (.int .i64 t177):=(blk_cell BK180.out 1).trans rfl;have hfz68_0:=blk_frozen BK180.out 0;have hfz68_1:=blk_frozen BK180.out 1)|((with_reducible refine gate_callee (f:=8) rfl ?_);refine goesL_ (some 11) rfl rfl Tryd.func8 (by kernel_rfl) rfl #[.agg #[.slice Ao62 t174.length co62,.int .i64 t177]] rfl (by (try simp only [List.map_toArray,List.map_cons,List.map_nil]);first|done|rfl|(simp only [List.length_drop,List.length_take];rfl)) ?_;(with_reducible refine (array_Format.calls k (fun k_ => some k_ = (.slice Ao62 t174.length co62 : Value).ownBlock) _ _ t174 t177 t182 t183 _ ?side1 A2.out (HG_.out.below (by repeat (first|(with_reducible first|exact HB.out|apply below_alloc|apply pw_below_drewN|apply below_drew1|refine below_set ?_ GE180.out|refine below_set ?_ GE181.out)|exact HB.out)))).mono ?_);(case side1 => exact Kd.R_V (Kd.R_tight rfl (Kd.R_types (Kd.R_types (HO176.out) BK180.out (by decide)) BK181.out (by decide))));rintro e w69 ⟨rfl,hb⟩;refine ⟨_,rfl,?_⟩;have n0_:=Aside0.mk (Kd.R_below (by (with_reducible repeat (first|apply Kd.R_alloc|apply Kd.R_drewN|apply Kd.R_drew));exact HO176.out) hb);have n1_:=Aside0.mk (blk_below (g:=gb180) (o:=.cells #[.slice Ao62 t174.length co62,.int .i64 t177] 28 (0,0)) (by (with_reducible repeat (first|refine blk_drewN ?_ _|refine blk_drew ?_|refine blk_alloc ?_ _));exact BK180.out) hb);have n2_:=Aside0.mk (blk_below (g:=gb181) (o:=.cells #[.int .i64 t178,.int .i64 t179] 36 (0,0)) (by (with_reducible repeat (first|refine blk_drewN ?_ _|refine blk_drew ?_|refine blk_alloc ?_ _));exact BK181.out) hb);have n3_:=Aside0.mk (below_step (by repeat (first|(with_reducible first|exact HB.out|apply below_alloc|apply pw_below_drewN|apply below_drew1|refine below_set ?_ GE180.out|refine below_set ?_ GE181.out)|exact HB.out)) hb);clear HO176;clear BK180;clear BK181;clear HB;have HO176:=n0_;have BK180:=n1_;have BK181:=n2_;have HB:=n3_;clear n0_ n1_ n2_ n3_;(try clear hb);(try clear hb2);(try clear hk);(try clear hi);have hcz70_0 : w69.cell? ⟨gb181,0,none⟩ = some (.int .i64 t178):=(blk_cell BK181.out 0).trans rfl;have hcz70_1 : w69.cell? ⟨gb181,1,none⟩ = some (.int .i64 t179):=(blk_cell BK181.out 1).trans rfl;have hfz70_0:=blk_frozen BK181.out 0;have hfz70_1:=blk_frozen BK181.out 1;have hcz71_0 : w69.cell? ⟨gb180,0,none⟩ = some (.slice Ao62 t174.length co62):=(blk_cell BK180.out 0).trans rfl;have hcz71_1 : w69.cell? ⟨gb180,1,none⟩ = some (.int .i64 t177):=(blk_cell BK180.out 1).trans rfl;have hfz71_0:=blk_frozen BK180.out 0;have hfz71_1:=blk_frozen BK180.out 1)|((with_reducible refine gate_dst (N:=20) rfl ?_);(try (refine gate_guard (by rfl) ?_;dsimp only));refine Kd.R_lit (Kd.int .i64) _ 3 ?hg (N:=20) ?hd (xs:=([0,2,4,6,9] : List Int)) (inner:=[.int .i64 0,.int .i64 2,.int .i64 4,.int .i64 6,.int .i64 9]) (ok:=fun _ => True) (okp:=fun _ => True) ?hr ?hp (fun _ hk => hk) trivial (Below.refl _ _) (Nat.le_refl _) (by simp) ?_;(case hd => rfl);(case hg => rfl);(case hr => first|(go_simp;done)|(go_simp;rfl));(case hp => exact (Reps.one (show Kd.M (Kd.int .i64) _ _ _ 0 [.int .i64 0] from rfl) (Reps.one (show Kd.M (Kd.int .i64) _ _ _ 2 [.int .i64 2] from rfl) (Reps.one (show Kd.M (Kd.int .i64) _ _ _ 4 [.int .i64 4] from rfl) (Reps.one (show Kd.M (Kd.int .i64) _ _ _ 6 [.int .i64 6] from rfl) (Reps.one (show Kd.M (Kd.int .i64) _ _ _ 9 [.int .i64 9] from rfl) (Reps.none _ _)))))));intro v185 w72 ho73 hb hg_ hnew_;clear hg_ hnew_;(first|rw [← Ny184.out] at ho73|(simp only [Int.reduceToNat] at ho73;rw [← Ny184.out] at ho73));have n0_:=Aside0.mk (Kd.R_elder' (by (with_reducible repeat (first|apply Kd.R_alloc|apply Kd.R_drewN|apply Kd.R_drew));exact HO176.out) (Kd.R_base ho73) hb);have n1_:=Aside0.mk (Kd.R_lower (Kd.R_new' ho73 (Kd.R_lt (by (with_reducible repeat (first|apply Kd.R_alloc|apply Kd.R_drewN|apply Kd.R_drew));exact HO176.out))) (below_size (by repeat (first|(with_reducible first|exact HB.out|apply below_alloc|apply pw_below_drewN|apply below_drew1|refine below_set ?_ GE180.out|refine below_set ?_ GE181.out)|exact HB.out))));have n2_:=Aside0.mk (blk_below (g:=gb180) (o:=.cells #[.slice Ao62 t174.length co62,.int .i64 t177] 28 (0,0)) (by (with_reducible repeat (first|refine blk_drewN ?_ _|refine blk_drew ?_|refine blk_alloc ?_ _));exact BK180.out) hb);have n3_:=Aside0.mk (blk_below (g:=gb181) (o:=.cells #[.int .i64 t178,.int .i64 t179] 36 (0,0)) (by (with_reducible repeat (first|refine blk_drewN ?_ _|refine blk_drew ?_|refine blk_alloc ?_ _));exact BK181.out) hb);have n4_:=Aside0.mk (below_step (by repeat (first|(with_reducible first|exact HB.out|apply below_alloc|apply pw_below_drewN|apply below_drew1|refine below_set ?_ GE180.out|refine below_set ?_ GE181.out)|exact HB.out)) hb);clear HO176;clear BK180;clear BK181;clear HB;have HO176:=n0_;have HO186:=n1_;have BK180:=n2_;have BK181:=n3_;have HB:=n4_;clear n0_ n1_ n2_ n3_ n4_;clear hb ho73;obtain ⟨Ao74,co74,eo74⟩:=Kd.R_slice HO186.out;subst eo74)|(go_at_call 15;(with_reducible refine (marlinspikeref01_Ints.calls k _ _ t174 _ _ y184 false _ ?side1 ?side2 ?side3 ?side4 A4.out).mono ?_);(case side1 => repeat (first|exact (Kd.R_reads' HO176.out).2.2|(with_reducible refine Kd.C_alloc ?_ _)|(with_reducible refine Kd.C_drewN ?_ _)|(with_reducible refine Kd.C_drew ?_)));(case side2 => exact (Kd.R_reads' HO176.out).2.1);(case side3 => repeat (first|exact (Kd.R_reads' HO186.out).2.2|(with_reducible refine Kd.C_alloc ?_ _)|(with_reducible refine Kd.C_drewN ?_ _)|(with_reducible refine Kd.C_drew ?_)));(case side4 => exact (Kd.R_reads' HO186.out).2.1);rintro e w' ⟨rfl,⟨nd,rfl⟩⟩)));(go_ret);(exact ⟨by first|rfl|(simp [errW_none,errW_some] <;> rfl)|(simp [*,errW_none,errW_some] <;> rfl),by repeat (first|(with_reducible first|exact HB.out|apply below_alloc|apply pw_below_drewN|apply below_drew1|refine below_set ?_ GE180.out|refine below_set ?_ GE181.out)|exact HB.out)⟩)
 ·(rw [if_neg c3] at H);(have c3b0 : (t178 == 0 && (t179 == 0)) = false:=by simpa using c3);((try (have c3b1 : decide (t178 = 0 && (t179 == 0)) = false:=by simpa using c3)));((try (have c3b2 : (t178 == 0 && (t179 == 0)) = false:=by simpa using c3)));((try (have c3b3 : ¬ (t178 = 0 && (t179 == 0)):=by simpa using c3)));(clear c3);(obtain rfl:=Option.some.inj H);(go_enter Tryd.func13,Tryd.ntmps13);(go_wp2_with (first|((with_reducible refine gate_callee (f:=14) rfl ?_);refine goesL_ (some 6) rfl rfl Tryd.func14 (by kernel_rfl) rfl #[.string (⟨#[48,45,54,58,50,44,57,37,50]⟩ : ByteArray)] rfl (by (try simp only [List.map_toArray,List.map_cons,List.map_nil]);first|done|rfl|(simp only [List.length_drop,List.length_take];rfl)) ?_;(with_reducible refine (array_Parse.calls (⟨#[48,45,54,58,50,44,57,37,50]⟩ : ByteArray) t174 t177 t178 t179 _ A1.out (HG_.out.below (by repeat (first|(with_reducible first|exact HB.out|apply below_alloc|apply pw_below_drewN|apply below_drew1)|exact HB.out)))).mono ?_);rintro e w75 ⟨v175,rfl,ho0,hb⟩;refine ⟨_,rfl,?_⟩;have n0_:=Aside0.mk (Kd.R_lower ho0 (below_size (by repeat (first|(with_reducible first|exact HB.out|apply below_alloc|apply pw_below_drewN|apply below_drew1)|exact HB.out))));have n1_:=Aside0.mk (below_step (by repeat (first|(with_reducible first|exact HB.out|apply below_alloc|apply pw_below_drewN|apply below_drew1)|exact HB.out)) hb);clear HB;have HO176:=n0_;have HB:=n1_;clear n0_ n1_;(try clear hb);(try clear hb2);(try clear hk);(try clear hi);(try clear ho0))|((with_reducible refine gate_dst (N:=1) rfl ?_);(try (refine gate_guard (by rfl) ?_;dsimp only));refine box_event ?hg (N:=1) ?hd (cs:=#[.slice none 0 0,.int .i64 0]) (t:=28) ?hr ?_;(case hd => rfl);(case hg => rfl);(case hr => first|(go_simp;done)|(go_simp;rfl));intro gb180 hg w76 hbox hb;have n0_:=Aside0.mk (Kd.R_below (by (with_reducible repeat (first|apply Kd.R_alloc|apply Kd.R_drewN|apply Kd.R_drew));exact HO176.out) hb);have n1_:=Aside0.mk (below_step (by repeat (first|(with_reducible first|exact HB.out|apply below_alloc|apply pw_below_drewN|apply below_drew1)|exact HB.out)) hb);have n2_:=Aside0.mk (hbox);have n3_:=Aside0.mk ((by rw [hg];exact (below_size (by repeat (first|(with_reducible first|exact HB.out|apply below_alloc|apply pw_below_drewN|apply below_drew1)|exact HB.out))) : w.heap.size ≤ gb180));have n4_:=Aside0.mk ((by rw [hg];exact (below_size (by repeat (first|(with_reducible first|exact HB.out|apply below_alloc|apply pw_below_drewN|apply below_drew1)|exact HB.out))) : w.heap.size ≤ gb180));clear HO176;clear HB;have HO176:=n0_;have HB:=n1_;have BK180:=n2_;have GW180:=n3_;have GE180:=n4_;clear n0_ n1_ n2_ n3_ n4_;clear hb hbox hg)|((with_reducible refine gate_dst (N:=2) rfl ?_);(try (refine gate_guard (by rfl) ?_;dsimp only));refine box_event ?hg (N:=2) ?hd (cs:=#[.int .i64 0,.int .i64 0]) (t:=36) ?hr ?_;(case hd => rfl);(case hg => rfl);(case hr => first|(go_simp;done)|(go_simp;rfl));intro gb181 hg w77 hbox hb;have n0_:=Aside0.mk (Kd.R_below (by (with_reducible repeat (first|apply Kd.R_alloc|apply Kd.R_drewN|apply Kd.R_drew));exact HO176.out) hb);have n1_:=Aside0.mk (blk_below (g:=gb180) (o:=.cells #[.slice none 0 0,.int .i64 0] 28 (0,0)) (by (with_reducible repeat (first|refine blk_drewN ?_ _|refine blk_drew ?_|refine blk_alloc ?_ _));exact BK180.out) hb);have n2_:=Aside0.mk (below_step (by repeat (first|(with_reducible first|exact HB.out|apply below_alloc|apply pw_below_drewN|apply below_drew1|refine below_set ?_ GE180.out)|exact HB.out)) hb);have n3_:=Aside0.mk (hbox);have n4_:=Aside0.mk ((by rw [hg];exact (below_size (by repeat (first|(with_reducible first|exact HB.out|apply below_alloc|apply pw_below_drewN|apply below_drew1|refine below_set ?_ GE180.out)|exact HB.out))) : w.heap.size ≤ gb181));have n5_:=Aside0.mk ((by rw [hg];exact (below_size (by repeat (first|(with_reducible first|exact HB.out|apply below_alloc|apply pw_below_drewN|apply below_drew1|refine below_set ?_ GE180.out)|exact HB.out))) : w.heap.size ≤ gb181));have n6_:=Aside0.mk ((by rw [hg];exact Nat.ne_of_lt (blk_lt (g:=gb180) (o:=.cells #[.slice none 0 0,.int .i64 0] 28 (0,0)) (by (with_reducible repeat (first|refine blk_drewN ?_ _|refine blk_drew ?_|refine blk_alloc ?_ _));exact BK180.out)) : gb180 ≠ gb181));have n7_:=Aside0.mk ((by rw [hg];exact Nat.ne_of_gt (blk_lt (g:=gb180) (o:=.cells #[.slice none 0 0,.int .i64 0] 28 (0,0)) (by (with_reducible repeat (first|refine blk_drewN ?_ _|refine blk_drew ?_|refine blk_alloc ?_ _));exact BK180.out)) : gb181 ≠ gb180));clear HO176;clear BK180;clear HB;have HO176:=n0_;have BK180:=n1_;have HB:=n2_;have BK181:=n3_;have GW181:=n4_;have GE181:=n5_;have NB180_181:=n6_;have NB181_180:=n7_;clear n0_ n1_ n2_ n3_ n4_ n5_ n6_ n7_;clear hb hbox hg;obtain ⟨Ao78,co78,eo78⟩:=Kd.R_slice HO176.out;subst eo78;have hnb79:=NB180_181.out;have hnc79:=NB181_180.out;have hcz80_0 : w77.cell? ⟨gb180,0,none⟩ = some (.slice none 0 0):=(blk_cell BK180.out 0).trans rfl;have hcz80_1 : w77.cell? ⟨gb180,1,none⟩ = some (.int .i64 0):=(blk_cell BK180.out 1).trans rfl;have hfz80_0:=blk_frozen BK180.out 0;have hfz80_1:=blk_frozen BK180.out 1)|((with_reducible refine gate_store (t:=28) (p:=1) rfl ?_);refine store_event (t:=28) (p:=1) (v:=?vo_w81) (w1:=((w77.setCell ⟨gb180,0,none⟩ (.slice Ao78 t174.length co78)).setCell ⟨gb180,1,none⟩ (.int .i64 t177))) ?hg ?ho ?hn ?hr ?_;(case ho => rfl);(case hg => rfl);(case hn => rfl);(case hr => first|(go_simp;done)|(go_simp;rfl));intro w81 hw;have n0_ : Aside0 (Kd.R (Kd.int .i64) 3 w81 w.heap.size (fun _ => True) (.slice Ao78 t174.length co78) t174):=⟨(by rw [hw];exact (by (with_reducible repeat (first|apply Kd.R_alloc|apply Kd.R_drewN|apply Kd.R_drew));exact Kd.R_mono (Kd.R_far (p:=⟨gb180,1,none⟩) (Kd.R_far (p:=⟨gb180,0,none⟩) (Kd.R_types HO176.out BK180.out (by decide)) (fun _ hk => hk.2) (.slice Ao78 t174.length co78)) (fun _ hk => hk.2) (.int .i64 t177)) (fun _ hk => trivial)))⟩;have n1_ : Aside0 (w81.heap[gb180]? = some (.cells #[.slice Ao78 t174.length co78,.int .i64 t177] 28 (0,0))):=⟨(by rw [hw];exact (by (with_reducible repeat (first|refine blk_drewN ?_ _|refine blk_drew ?_|refine blk_alloc ?_ _));refine blk_put (cs:=#[.slice Ao78 t174.length co78,.int .i64 0]) ?_ 1 _ rfl;(with_reducible repeat (first|refine blk_drewN ?_ _|refine blk_drew ?_|refine blk_alloc ?_ _));refine blk_put (cs:=#[.slice none 0 0,.int .i64 0]) ?_ 0 _ rfl;(with_reducible repeat (first|refine blk_drewN ?_ _|refine blk_drew ?_|refine blk_alloc ?_ _));exact BK180.out))⟩;have n2_ : Aside0 (w81.heap[gb181]? = some (.cells #[.int .i64 0,.int .i64 0] 36 (0,0))):=⟨(by rw [hw];exact (by (with_reducible repeat (first|refine blk_drewN ?_ _|refine blk_drew ?_|refine blk_alloc ?_ _));refine blk_far ?_ NB181_180.out _;(with_reducible repeat (first|refine blk_drewN ?_ _|refine blk_drew ?_|refine blk_alloc ?_ _));refine blk_far ?_ NB181_180.out _;(with_reducible repeat (first|refine blk_drewN ?_ _|refine blk_drew ?_|refine blk_alloc ?_ _));exact BK181.out))⟩;have n3_ : Aside0 (Below w.heap.size w w81):=⟨(by rw [hw];exact (by repeat (first|(with_reducible first|exact HB.out|apply below_alloc|apply pw_below_drewN|apply below_drew1|refine below_set ?_ GE180.out|refine below_set ?_ GE181.out)|exact HB.out)))⟩;clear hw;clear HO176;clear BK180;clear BK181;clear HB;have HO176:=n0_;have BK180:=n1_;have BK181:=n2_;have HB:=n3_;clear n0_ n1_ n2_ n3_;have hcz82_0 : w81.cell? ⟨gb181,0,none⟩ = some (.int .i64 0):=(blk_cell BK181.out 0).trans rfl;have hcz82_1 : w81.cell? ⟨gb181,1,none⟩ = some (.int .i64 0):=(blk_cell BK181.out 1).trans rfl;have hfz82_0:=blk_frozen BK181.out 0;have hfz82_1:=blk_frozen BK181.out 1)|((with_reducible refine gate_store (t:=36) (p:=2) rfl ?_);refine store_event (t:=36) (p:=2) (v:=?vo_w83) (w1:=((w81.setCell ⟨gb181,0,none⟩ (.int .i64 t178)).setCell ⟨gb181,1,none⟩ (.int .i64 t179))) ?hg ?ho ?hn ?hr ?_;(case ho => rfl);(case hg => rfl);(case hn => rfl);(case hr => first|(go_simp;done)|(go_simp;rfl));intro w83 hw;have n0_ : Aside0 (Kd.R (Kd.int .i64) 3 w83 w.heap.size (fun _ => True) (.slice Ao78 t174.length co78) t174):=⟨(by rw [hw];exact (by (with_reducible repeat (first|apply Kd.R_alloc|apply Kd.R_drewN|apply Kd.R_drew));exact Kd.R_mono (Kd.R_far (p:=⟨gb181,1,none⟩) (Kd.R_far (p:=⟨gb181,0,none⟩) (Kd.R_types HO176.out BK181.out (by decide)) (fun _ hk => hk.2) (.int .i64 t178)) (fun _ hk => hk.2) (.int .i64 t179)) (fun _ hk => trivial)))⟩;have n1_ : Aside0 (w83.heap[gb180]? = some (.cells #[.slice Ao78 t174.length co78,.int .i64 t177] 28 (0,0))):=⟨(by rw [hw];exact (by (with_reducible repeat (first|refine blk_drewN ?_ _|refine blk_drew ?_|refine blk_alloc ?_ _));refine blk_far ?_ NB180_181.out _;(with_reducible repeat (first|refine blk_drewN ?_ _|refine blk_drew ?_|refine blk_alloc ?_ _));refine blk_far ?_ NB180_181.out _;(with_reducible repeat (first|refine blk_drewN ?_ _|refine blk_drew ?_|refine blk_alloc ?_ _));exact BK180.out))⟩;have n2_ : Aside0 (w83.heap[gb181]? = some (.cells #[.int .i64 t178,.int .i64 t179] 36 (0,0))):=⟨(by rw [hw];exact (by (with_reducible repeat (first|refine blk_drewN ?_ _|refine blk_drew ?_|refine blk_alloc ?_ _));refine blk_put (cs:=#[.int .i64 t178,.int .i64 0]) ?_ 1 _ rfl;(with_reducible repeat (first|refine blk_drewN ?_ _|refine blk_drew ?_|refine blk_alloc ?_ _));refine blk_put (cs:=#[.int .i64 0,.int .i64 0]) ?_ 0 _ rfl;(with_reducible repeat (first|refine blk_drewN ?_ _|refine blk_drew ?_|refine blk_alloc ?_ _));exact BK181.out))⟩;have n3_ : Aside0 (Below w.heap.size w w83):=⟨(by rw [hw];exact (by repeat (first|(with_reducible first|exact HB.out|apply below_alloc|apply pw_below_drewN|apply below_drew1|refine below_set ?_ GE180.out|refine below_set ?_ GE181.out)|exact HB.out)))⟩;clear hw;clear HO176;clear BK180;clear BK181;clear HB;have HO176:=n0_;have BK180:=n1_;have BK181:=n2_;have HB:=n3_;clear n0_ n1_ n2_ n3_;have hcz84_0 : w83.cell? ⟨gb180,0,none⟩ = some (.slice Ao78 t174.length co78):=(blk_cell BK180.out 0).trans rfl;have hcz84_1 : w83.cell? ⟨gb180,1,none⟩ = some (.int .i64 t177):=(blk_cell BK180.out 1).trans rfl;have hfz84_0:=blk_frozen BK180.out 0;have hfz84_1:=blk_frozen BK180.out 1)|((with_reducible refine gate_callee (f:=8) rfl ?_);refine goesL_ (some 11) rfl rfl Tryd.func8 (by kernel_rfl) rfl #[.agg #[.slice Ao78 t174.length co78,.int .i64 t177]] rfl (by (try simp only [List.map_toArray,List.map_cons,List.map_nil]);first|done|rfl|(simp only [List.length_drop,List.length_take];rfl)) ?_;(with_reducible refine (array_Format.calls k (fun k_ => some k_ = (.slice Ao78 t174.length co78 : Value).ownBlock) _ _ t174 t177 t182 t183 _ ?side1 A2.out (HG_.out.below (by repeat (first|(with_reducible first|exact HB.out|apply below_alloc|apply pw_below_drewN|apply below_drew1|refine below_set ?_ GE180.out|refine below_set ?_ GE181.out)|exact HB.out)))).mono ?_);(case side1 => exact Kd.R_V (Kd.R_tight rfl (Kd.R_types (Kd.R_types (HO176.out) BK180.out (by decide)) BK181.out (by decide))));rintro e w85 ⟨rfl,hb⟩;refine ⟨_,rfl,?_⟩;have n0_:=Aside0.mk (Kd.R_below (by (with_reducible repeat (first|apply Kd.R_alloc|apply Kd.R_drewN|apply Kd.R_drew));exact HO176.out) hb);have n1_:=Aside0.mk (blk_below (g:=gb180) (o:=.cells #[.slice Ao78 t174.length co78,.int .i64 t177] 28 (0,0)) (by (with_reducible repeat (first|refine blk_drewN ?_ _|refine blk_drew ?_|refine blk_alloc ?_ _));exact BK180.out) hb);have n2_:=Aside0.mk (blk_below (g:=gb181) (o:=.cells #[.int .i64 t178,.int .i64 t179] 36 (0,0)) (by (with_reducible repeat (first|refine blk_drewN ?_ _|refine blk_drew ?_|refine blk_alloc ?_ _));exact BK181.out) hb);have n3_:=Aside0.mk (below_step (by repeat (first|(with_reducible first|exact HB.out|apply below_alloc|apply pw_below_drewN|apply below_drew1|refine below_set ?_ GE180.out|refine below_set ?_ GE181.out)|exact HB.out)) hb);clear HO176;clear BK180;clear BK181;clear HB;have HO176:=n0_;have BK180:=n1_;have BK181:=n2_;have HB:=n3_;clear n0_ n1_ n2_ n3_;(try clear hb);(try clear hb2);(try clear hk);(try clear hi);have hcz86_0 : w85.cell? ⟨gb181,0,none⟩ = some (.int .i64 t178):=(blk_cell BK181.out 0).trans rfl;have hcz86_1 : w85.cell? ⟨gb181,1,none⟩ = some (.int .i64 t179):=(blk_cell BK181.out 1).trans rfl;have hfz86_0:=blk_frozen BK181.out 0;have hfz86_1:=blk_frozen BK181.out 1)));(go_ret);(exact ⟨by first|rfl|(simp [errW_none,errW_some] <;> rfl)|(simp [*,errW_none,errW_some] <;> rfl),by repeat (first|(with_reducible first|exact HB.out|apply below_alloc|apply pw_below_drewN|apply below_drew1|refine below_set ?_ GE180.out|refine below_set ?_ GE181.out)|exact HB.out)⟩)
end Go.Proofs.YtnfpchpnephheaaDoor.PA
end
section
namespace Go.Proofs.YtnfpchpnephheaaDoor.Ar
open Go.RowKit Go.Proofs.YtnfpchpnephheaaDoor.Lib Go.Proofs.YtnfpchpnephheaaDoor.PA Go.Proofs.YtnfpchpnephheaaDoor.Txt Go.Proofs.YtnfpchpnephheaaDoorW.PrintWords Go.Proofs.YtnfpchpnephheaaDoorW.PrintLast Go.Proofs.YtnfpchpnephheaaDoorW.PrintMore
set_option linter.unusedVariables false
set_option linter.unusedSimpArgs false
theorem sort_t : sortL [0,2,4,6,9] = [0,2,4,6,9] := List.mergeSort_of_pairwise (by decide)
set_option maxRecDepth 100000 in
theorem parse_t : array_Parse.f (⟨#[48, 45, 54, 58, 50, 44, 57, 37, 50]⟩ : ByteArray) = some (sortL [0, 2, 4, 6, 9], 2, 0, 0) := by kernel_rfl
set_option maxRecDepth 100000 in
theorem alive_t : marlinspikelaw08_alive.f 100 = some true := by
  unfold marlinspikelaw08_alive.f
  rw [parse_t, sort_t, Option.bind_some]
  kernel_rfl
theorem alive_calls (w : World) (hG : Glob w) : Calls Tryd.prog 13 #[] w fun e w' => e = .returned (.bool true) ∧ Below w.heap.size w w' := marlinspikelaw08_alive.calls 100 true w alive_t hG
set_option maxHeartbeats 8000000 in
set_option maxRecDepth 100000 in
theorem theirs_calls (A : Option Addr) (c : Nat) (l : List Int) (a : Int) (w : World) : Calls Tryd.prog 9 #[.agg #[.slice A l.length c, .int .i64 a]] w fun e w' => e = .returned (.agg #[.slice A l.length c, .int .i64 a]) ∧ Below w.heap.size w w' := by
  have hu24 := Tryd.underlying24
  have hu28 := Tryd.underlying28
  have HB := Aside0.mk (Below.refl w.heap.size w)
  go_enter Tryd.func9, Tryd.ntmps9
  go_wp2
  refine bodyPost_ret (v := .agg #[.slice A l.length c, .int .i64 a]) (by simp [results, Tryd.results9, go_sem, hu28]) rfl ⟨rfl, below_alloc (below_alloc (Below.refl _ _) _) _⟩
end Go.Proofs.YtnfpchpnephheaaDoor.Ar
end
section
namespace Go.Proofs.YtnfpchpnephheaaDoor.Ar
open Go.RowKit Go.Proofs.YtnfpchpnephheaaDoor.Lib Go.Proofs.YtnfpchpnephheaaDoor.PA Go.Proofs.YtnfpchpnephheaaDoor.Txt Go.Proofs.YtnfpchpnephheaaDoor.Num Go.Proofs.YtnfpchpnephheaaDoor.Hn Go.Proofs.YtnfpchpnephheaaDoorW.PrintWords Go.Proofs.YtnfpchpnephheaaDoorW.PrintLast Go.Proofs.YtnfpchpnephheaaDoorW.PrintMore
set_option linter.unusedVariables false
set_option linter.unusedSimpArgs false
theorem digN_app (d rest : List UInt8) (hd : ∀ c ∈ d, isDig c = true) (hr : ∀ c ∈ rest.head?, isDig c = false) : digN (d ++ rest) = d.length := by
  unfold digN
  induction d with
  | nil =>
    cases rest with
    | nil => rfl
    | cons c r =>
      have := hr c rfl
      simp [this]
  | cons c d ih =>
    have h1 := hd c (by simp)
    rw [List.cons_append, List.takeWhile_cons, if_pos h1, List.length_cons, List.length_cons, ih (fun x hx => hd x (by simp [hx]))]
theorem atoi_dec (n : Nat) (h : n ≤ 999999) : Go.Lib.atoiAll (dec (n : Int)) = .ok (n : Int) := by
  obtain ⟨h1, h2, h3, _⟩ := dec_digits n
  have hl := dec_len 5 n (by omega)
  have := atoi_digits (Go.Lib.decDigits n) h1 h3 (by omega)
  rw [h2] at this
  exact this
theorem num_at (s : ByteArray) (pre rest : List UInt8) (n : Nat) (hn : n ≤ 999999) (y z low : Int) (hlow : low ≤ n) (hs : s.size ≤ 100000000) (hL : L s = pre ++ (dec (n : Int) ++ rest)) (hr : ∀ c ∈ rest.head?, isDig c = false) :
    array_reader_number.f s (pre.length : Int) y z low = some ((n : Int), s, ((pre.length + (dec (n : Int)).length : Nat) : Int), y, z) := by
  have hsz : s.size = pre.length + ((dec (n : Int)).length + rest.length) := by rw [← L_length, hL, List.length_append, List.length_append]
  have hd := dec_le (n : Int) (by omega)
  have hdr : (L s).drop pre.length = dec (n : Int) ++ rest := by rw [hL, List.drop_left]
  have hN : digN ((L s).drop pre.length) = (dec (n : Int)).length := by rw [hdr]; exact digN_app _ _ (dec_digits n).1 hr
  have hT : digT s pre.length = mkB (dec (n : Int)) := L_inj (by
    unfold digT
    rw [hN, extract_L, L_mkB, hdr, Nat.add_sub_cancel_left, List.take_left])
  have ha := atoi_dec n hn
  unfold array_reader_number.f
  rw [if_pos ⟨by omega, by omega, hs⟩, Int.toNat_natCast, hT, mkB_size, L_mkB, if_neg (by omega)]
  have hok : atoiOk (dec (n : Int)) = true := by unfold atoiOk; rw [ha]
  have hval : atoiVal (dec (n : Int)) = (n : Int) := by unfold atoiVal; rw [ha]
  rw [hok, hval, if_neg (by rintro (h | h); cases h; omega)]
  have hw : wrap64 ((pre.length : Int) + ((dec (n : Int)).length : Int)) = ((pre.length + (dec (n : Int)).length : Nat) : Int) := by unfold wrap64; omega
  rw [hw]
theorem next_yes (s : ByteArray) (pre rest : List UInt8) (c : UInt8) (hs : s.size ≤ 100000000) (hL : L s = pre ++ c :: rest) :
    array_reader_next.f s (pre.length : Int) 0 0 (c.toNat : Int) = some (true, s, ((pre.length + 1 : Nat) : Int), 0, 0) := by
  have hsz : s.size = pre.length + (rest.length + 1) := by rw [← L_length, hL, List.length_append, List.length_cons]
  unfold array_reader_next.f
  rw [if_pos (by rfl), if_neg (by omega), if_pos (by omega), if_pos (by omega), bt_L s pre.length (by omega)]
  have : (L s)[pre.length]'(by rw [L_length]; omega) = c := by simp only [hL]; simp
  rw [this, if_pos rfl, wrap_nat (by omega)]
theorem next_no (s : ByteArray) (pre rest : List UInt8) (c : UInt8) (hs : s.size ≤ 100000000) (hL : L s = pre ++ rest) (hc : ∀ d ∈ rest.head?, d ≠ c) :
    array_reader_next.f s (pre.length : Int) 0 0 (c.toNat : Int) = some (false, s, (pre.length : Int), 0, 0) := by
  have hsz : s.size = pre.length + rest.length := by rw [← L_length, hL, List.length_append]
  unfold array_reader_next.f
  rw [if_pos (by rfl)]
  cases rest with
  | nil => rw [if_pos (by rw [hsz]; rfl)]
  | cons d r =>
    rw [List.length_cons] at hsz
    rw [if_neg (by omega), if_pos (by omega), if_pos (by omega), bt_L s pre.length (by omega)]
    have : (L s)[pre.length]'(by rw [L_length]; omega) = d := by simp only [hL]; simp
    have hne := hc d rfl
    rw [this, if_neg (fun h => hne (UInt8.toNat_inj.1 (by omega)))]
def apL (st : Int) : Nat → Int → List Int
  | 0, _ => []
  | m + 1, x => x :: apL st m (x + st)
theorem add_ap (st : Int) (hst : 1 ≤ st ∧ st ≤ 999999) (to_ : Int) (ht : to_ ≤ 999999) : ∀ (m k : Nat) (xs : List Int) (n : Int), m < k → 0 ≤ n → n ≤ to_ + st → (∀ x ∈ xs, x < n) → xs.length + m ≤ 256 → (0 < m → n + ((m : Int) - 1) * st ≤ to_) → to_ < n + (m : Int) * st →
    array_Array_add.l k xs n to_ st = some (true, xs ++ apL st m n) := by
  intro m
  induction m with
  | zero =>
    intro k xs n hk h0 h1 hx hl hto hlast
    obtain ⟨k, rfl⟩ : ∃ j, k = j + 1 := ⟨k - 1, by omega⟩
    simp only [array_Array_add.l]
    rw [if_pos ⟨h0, by omega, by omega, by omega, by omega⟩, if_neg (by simp at hlast; omega)]
    simp [apL]
  | succ m ih =>
    intro k xs n hk h0 h1 hx hl hto hlast
    obtain ⟨k, rfl⟩ : ∃ j, k = j + 1 := ⟨k - 1, by omega⟩
    have hto2 := hto (by omega)
    have hms : (0 : Int) ≤ (m : Int) * st := Int.mul_nonneg (by omega) (by omega)
    have e1 : (((m + 1 : Nat) : Int) - 1) * st = (m : Int) * st := by congr 1; omega
    have e2 : ((m + 1 : Nat) : Int) * st = (m : Int) * st + st := by rw [show ((m + 1 : Nat) : Int) = (m : Int) + 1 by omega, Int.add_mul, Int.one_mul]
    rw [e1] at hto2
    rw [e2] at hlast
    have hnt : n ≤ to_ := by omega
    have hnm : n ∉ xs := fun h => by have := hx n h; omega
    simp only [array_Array_add.l]
    rw [if_pos ⟨h0, by omega, by omega, by omega, by omega⟩, if_pos hnt, if_neg hnm, if_neg (by omega)]
    rw [ih k (xs ++ [n]) (n + st) (by omega) (by omega) (by omega) (by
      intro x h
      rcases List.mem_append.1 h with h | h
      · have := hx x h; omega
      · rw [List.mem_singleton.1 h]; omega) (by rw [List.length_append, List.length_singleton]; omega) (by
      intro hm
      have : ((m : Int) - 1) * st = (m : Int) * st - st := by rw [Int.sub_mul, Int.one_mul]
      rw [this]; omega) (by omega)]
    simp [apL]
end Go.Proofs.YtnfpchpnephheaaDoor.Ar
end
section
namespace Go.Proofs.YtnfpchpnephheaaDoor.Ar
open Go.RowKit Go.Proofs.YtnfpchpnephheaaDoor.Lib Go.Proofs.YtnfpchpnephheaaDoor.PA Go.Proofs.YtnfpchpnephheaaDoor.Txt Go.Proofs.YtnfpchpnephheaaDoor.Num Go.Proofs.YtnfpchpnephheaaDoor.Hn Go.Proofs.YtnfpchpnephheaaDoorW.PrintWords Go.Proofs.YtnfpchpnephheaaDoorW.PrintLast Go.Proofs.YtnfpchpnephheaaDoorW.PrintMore
set_option linter.unusedVariables false
set_option linter.unusedSimpArgs false
theorem pNum_at (s : ByteArray) (hs : s.size ≤ 100000000) (pre rest : List UInt8) (x : Int) (hx : 0 ≤ x ∧ x ≤ 999999) (low : Int) (hlow : low ≤ x) (hL : L s = pre ++ (dec x ++ rest)) (hr : ∀ c ∈ rest.head?, isDig c = false) :
    pNum (s, (pre.length : Int), 0, 0) low = some (x, (s, ((pre ++ dec x).length : Int), 0, 0)) := by
  obtain ⟨n, rfl⟩ := Int.eq_ofNat_of_zero_le hx.1
  show array_reader_number.f s (pre.length : Int) 0 0 low = _
  rw [num_at s pre rest n (by omega) 0 0 low hlow hs hL hr, List.length_append]
theorem pNext_yes (s : ByteArray) (hs : s.size ≤ 100000000) (pre rest : List UInt8) (c : UInt8) (c' : Int) (hc : c' = (c.toNat : Int)) (hL : L s = pre ++ c :: rest) :
    pNext (s, (pre.length : Int), 0, 0) c' = some (true, (s, ((pre ++ [c]).length : Int), 0, 0)) := by
  subst hc
  show array_reader_next.f s (pre.length : Int) 0 0 (c.toNat : Int) = _
  rw [next_yes s pre rest c hs hL, List.length_append, List.length_singleton]
theorem pNext_no (s : ByteArray) (hs : s.size ≤ 100000000) (pre rest : List UInt8) (c : UInt8) (c' : Int) (hc : c' = (c.toNat : Int)) (hL : L s = pre ++ rest) (hd : ∀ d ∈ rest.head?, d ≠ c) :
    pNext (s, (pre.length : Int), 0, 0) c' = some (false, (s, (pre.length : Int), 0, 0)) := by
  subst hc
  show array_reader_next.f s (pre.length : Int) 0 0 (c.toNat : Int) = _
  rw [next_no s pre rest c hs hL hd]
def Stop (rest : List UInt8) : Prop := ∀ c ∈ rest.head?, isDig c = false ∧ c ≠ 45 ∧ c ≠ 58
theorem piece_one (s : ByteArray) (hs : s.size ≤ 100000000) (pre rest : List UInt8) (x : Int) (hx : 0 ≤ x ∧ x ≤ 999999) (hL : L s = pre ++ (dec x ++ rest)) (hr : Stop rest) (k : Nat) (xs : List Int) (hxs : ∀ y ∈ xs, y < x) (hl : xs.length + 1 ≤ 256) :
    parse_l (k + 1) xs (s, (pre.length : Int), 0, 0) true = (pNext (s, ((pre ++ dec x).length : Int), 0, 0) 44).bind fun m => parse_l k (xs ++ [x]) m.2 m.1 := by
  have hw : wellB (s, (pre.length : Int), 0, 0) = true := rfl
  have hw2 : wellB (s, ((pre ++ dec x).length : Int), 0, 0) = true := rfl
  have h1 := pNum_at s hs pre rest x hx 0 hx.1 hL (fun c h => (hr c h).1)
  have h2 := pNext_no s hs (pre ++ dec x) rest 45 45 rfl (by rw [hL, List.append_assoc]) (fun c h => (hr c h).2.1)
  have h3 := add_ap 1 (by omega) x hx.2 1 300 xs x (by omega) hx.1 (by omega) hxs (by omega) (by intro _; omega) (by omega)
  simp only [parse_l]
  rw [if_pos trivial, if_pos hw, h1, Option.bind_some]
  dsimp only
  rw [h2, Option.bind_some]
  dsimp only
  rw [if_neg (by decide)]
  unfold parse_tail
  rw [if_pos hw2, h3, Option.bind_some]
  dsimp only
  rw [if_pos rfl]
  simp [apL]
theorem piece_run (s : ByteArray) (hs : s.size ≤ 100000000) (pre rest : List UInt8) (x y : Int) (hx : 0 ≤ x ∧ x ≤ 999999) (hy : x ≤ y ∧ y ≤ 999999) (hL : L s = pre ++ (dec x ++ 45 :: (dec y ++ rest))) (hr : Stop rest) (k m : Nat) (xs : List Int) (hxs : ∀ z ∈ xs, z < x) (hm : 1 ≤ m) (hl : xs.length + m ≤ 256) (he : y = x + ((m : Int) - 1)) :
    parse_l (k + 1) xs (s, (pre.length : Int), 0, 0) true = (pNext (s, ((pre ++ (dec x ++ 45 :: dec y)).length : Int), 0, 0) 44).bind fun q => parse_l k (xs ++ apL 1 m x) q.2 q.1 := by
  have hw : wellB (s, (pre.length : Int), 0, 0) = true := rfl
  have hw2 : wellB (s, ((pre ++ dec x ++ [45] ++ dec y).length : Int), 0, 0) = true := rfl
  have h1 := pNum_at s hs pre (45 :: (dec y ++ rest)) x hx 0 hx.1 hL (by intro c h; simp at h; subst h; decide)
  have h2 := pNext_yes s hs (pre ++ dec x) (dec y ++ rest) 45 45 rfl (by rw [hL]; simp)
  have h3 := pNum_at s hs (pre ++ dec x ++ [45]) rest y (by omega) x hy.1 (by rw [hL]; simp) (fun c h => (hr c h).1)
  have h4 := pNext_no s hs (pre ++ dec x ++ [45] ++ dec y) rest 58 58 rfl (by rw [hL]; simp) (fun c h => (hr c h).2.2)
  have h5 := add_ap 1 (by omega) y hy.2 m 300 xs x (by omega) hx.1 (by omega) hxs (by omega) (by intro _; omega) (by omega)
  simp only [parse_l]
  rw [if_pos trivial, if_pos hw, h1, Option.bind_some]
  dsimp only
  rw [h2, Option.bind_some]
  dsimp only
  rw [if_pos rfl, h3, Option.bind_some]
  dsimp only
  rw [h4, Option.bind_some]
  dsimp only
  rw [if_neg (by decide)]
  unfold parse_tail
  rw [if_pos hw2, h5, Option.bind_some]
  dsimp only
  rw [if_pos rfl]
  have e : pre ++ dec x ++ [45] ++ dec y = pre ++ (dec x ++ 45 :: dec y) := by simp
  rw [e]
theorem piece_step (s : ByteArray) (hs : s.size ≤ 100000000) (pre rest : List UInt8) (x y st : Int) (hx : 0 ≤ x ∧ x ≤ 999999) (hy : x ≤ y ∧ y ≤ 999999) (hst : 1 ≤ st ∧ st ≤ 999999) (hL : L s = pre ++ (dec x ++ 45 :: (dec y ++ 58 :: (dec st ++ rest)))) (hr : Stop rest) (k m : Nat) (xs : List Int) (hxs : ∀ z ∈ xs, z < x) (hm : 1 ≤ m) (hl : xs.length + m ≤ 256) (he : y = x + ((m : Int) - 1) * st) :
    parse_l (k + 1) xs (s, (pre.length : Int), 0, 0) true = (pNext (s, ((pre ++ (dec x ++ 45 :: (dec y ++ 58 :: dec st))).length : Int), 0, 0) 44).bind fun q => parse_l k (xs ++ apL st m x) q.2 q.1 := by
  have hw : wellB (s, (pre.length : Int), 0, 0) = true := rfl
  have hw2 : wellB (s, ((pre ++ dec x ++ [45] ++ dec y ++ [58] ++ dec st).length : Int), 0, 0) = true := rfl
  have h1 := pNum_at s hs pre (45 :: (dec y ++ 58 :: (dec st ++ rest))) x hx 0 hx.1 hL (by intro c h; simp at h; subst h; decide)
  have h2 := pNext_yes s hs (pre ++ dec x) (dec y ++ 58 :: (dec st ++ rest)) 45 45 rfl (by rw [hL]; simp)
  have h3 := pNum_at s hs (pre ++ dec x ++ [45]) (58 :: (dec st ++ rest)) y (by omega) x hy.1 (by rw [hL]; simp) (by intro c h; simp at h; subst h; decide)
  have h4 := pNext_yes s hs (pre ++ dec x ++ [45] ++ dec y) (dec st ++ rest) 58 58 rfl (by rw [hL]; simp)
  have h6 := pNum_at s hs (pre ++ dec x ++ [45] ++ dec y ++ [58]) rest st (by omega) 1 hst.1 (by rw [hL]; simp) (fun c h => (hr c h).1)
  have h5 := add_ap st hst y hy.2 m 300 xs x (by omega) hx.1 (by omega) hxs (by omega) (by intro _; omega) (by
    have : ((m : Int) - 1) * st = (m : Int) * st - st := by rw [Int.sub_mul, Int.one_mul]
    rw [this] at he
    omega)
  simp only [parse_l]
  rw [if_pos trivial, if_pos hw, h1, Option.bind_some]
  dsimp only
  rw [h2, Option.bind_some]
  dsimp only
  rw [if_pos rfl, h3, Option.bind_some]
  dsimp only
  rw [h4, Option.bind_some]
  dsimp only
  rw [if_pos rfl, h6, Option.bind_some]
  dsimp only
  unfold parse_tail
  rw [if_pos hw2, h5, Option.bind_some]
  dsimp only
  rw [if_pos rfl]
  have e : pre ++ dec x ++ [45] ++ dec y ++ [58] ++ dec st = pre ++ (dec x ++ 45 :: (dec y ++ 58 :: dec st)) := by simp
  rw [e]
theorem ext_take (st : Int) : ∀ (r : List Int) (p : Int), r.take (ext st p r) = apL st (ext st p r) (p + st)
  | [], p => rfl
  | z :: r, p => by
    unfold ext
    split
    · rename_i h
      have hz : z = p + st := by omega
      rw [Nat.add_comm, List.take_succ_cons, ext_take st r z]
      show _ = (p + st) :: apL st (ext st z r) (p + st + st)
      rw [hz]
    · rfl
theorem run_take (x : Int) (r : List Int) : (x :: r).take (runLen (x :: r)) = apL (stepOf (x :: r)) (runLen (x :: r)) x := by
  have e : runLen (x :: r) = ext (stepOf (x :: r)) x r + 1 := Nat.add_comm _ _
  rw [e, List.take_succ_cons, ext_take]
  rfl
theorem ap_get (st : Int) : ∀ (m : Nat) (x : Int) (i : Nat), i < m → (apL st m x).getD i 0 = x + (i : Int) * st
  | 0, _, _, h => by omega
  | m + 1, x, 0, _ => by simp [apL]
  | m + 1, x, i + 1, h => by
    have := ap_get st m (x + st) i (by omega)
    have e : ((i + 1 : Nat) : Int) * st = (i : Int) * st + st := by rw [show ((i + 1 : Nat) : Int) = (i : Int) + 1 by omega, Int.add_mul, Int.one_mul]
    rw [e]
    show (apL st m (x + st)).getD i 0 = _
    rw [this]; omega
theorem run_last (x : Int) (r : List Int) : (x :: r).getD (runLen (x :: r) - 1) 0 = x + ((runLen (x :: r) : Int) - 1) * stepOf (x :: r) := by
  have hr1 : 1 ≤ runLen (x :: r) := by
    show 1 ≤ 1 + ext (stepOf (x :: r)) x r
    omega
  have h := ap_get (stepOf (x :: r)) (runLen (x :: r)) x (runLen (x :: r) - 1) (by omega)
  rw [← run_take, List.getD_eq_getElem?_getD, List.getElem?_take_of_lt (by omega), ← List.getD_eq_getElem?_getD] at h
  rw [h]
  congr 2
  omega
end Go.Proofs.YtnfpchpnephheaaDoor.Ar
end
section
namespace Go.Proofs.YtnfpchpnephheaaDoor.Ar
open Go.RowKit Go.Proofs.YtnfpchpnephheaaDoor.Lib Go.Proofs.YtnfpchpnephheaaDoor.PA Go.Proofs.YtnfpchpnephheaaDoor.Txt Go.Proofs.YtnfpchpnephheaaDoor.Num Go.Proofs.YtnfpchpnephheaaDoor.Hn Go.Proofs.YtnfpchpnephheaaDoorW.PrintWords Go.Proofs.YtnfpchpnephheaaDoorW.PrintLast Go.Proofs.YtnfpchpnephheaaDoorW.PrintMore
set_option linter.unusedVariables false
set_option linter.unusedSimpArgs false
theorem parts_nil (n : Nat) : parts n [] = [] := by cases n <;> rfl
theorem parts_ne (n : Nat) (l : List Int) (h : l ≠ []) (hn : l.length ≤ n) : parts n l ≠ [] := by
  cases n with
  | zero => exact absurd (List.length_eq_zero_iff.1 (by omega)) h
  | succ n =>
    cases l with
    | nil => exact absurd rfl h
    | cons x r =>
      simp only [parts]
      split
      · simp
      · split <;> simp
def restT (ts : List (List UInt8)) (tail : List UInt8) : List UInt8 := if ts = [] then tail else 44 :: (Go.Lib.join ts [44] ++ tail)
theorem join_cons (t : List UInt8) (ts : List (List UInt8)) (h : ts ≠ []) : Go.Lib.join (t :: ts) [44] = t ++ 44 :: Go.Lib.join ts [44] := by
  cases ts with
  | nil => exact absurd rfl h
  | cons a r => simp [Go.Lib.join, List.intercalate]
theorem join_one (t : List UInt8) : Go.Lib.join [t] [44] = t := by simp [Go.Lib.join, List.intercalate]
theorem join_rest (t : List UInt8) (ts : List (List UInt8)) (tail : List UInt8) : Go.Lib.join (t :: ts) [44] ++ tail = t ++ restT ts tail := by
  unfold restT
  by_cases h : ts = []
  · subst h; rw [if_pos rfl, join_one]
  · rw [if_neg h, join_cons t ts h]; simp
theorem stop_rest (ts : List (List UInt8)) (tail : List UInt8) (ht : ∀ c ∈ tail.head?, c = 37) : Stop (restT ts tail) := by
  intro c hc
  unfold restT at hc
  split at hc
  · rw [ht c hc]; decide
  · simp at hc; subst hc; decide
theorem piece_end (s : ByteArray) (hs : s.size ≤ 100000000) (tail : List UInt8) (ht : ∀ c ∈ tail.head?, c = 37) (n : Nat)
    (ih : ∀ (l : List Int) (pre : List UInt8) (xs : List Int) (k : Nat), l ≠ [] → l.length ≤ n → (parts n l).length < k → Good l → (∀ z ∈ xs, ∀ y ∈ l, z < y) → xs.length + l.length ≤ 256 → L s = pre ++ (Go.Lib.join (parts n l) [44] ++ tail) →
      parse_l k xs (s, (pre.length : Int), 0, 0) true = some (xs ++ l, (s, ((pre ++ Go.Lib.join (parts n l) [44]).length : Int), 0, 0)))
    (l : List Int) (pre : List UInt8) (xs : List Int) (k : Nat) (t : List UInt8) (m : Nat) (hm : 1 ≤ m) (hml : m ≤ l.length) (hl : l.length ≤ n + 1) (hk : (parts n (l.drop m)).length < k) (hg : Good l) (hxs : ∀ z ∈ xs, ∀ y ∈ l, z < y) (hlen : xs.length + l.length ≤ 256)
    (hL : L s = pre ++ (t ++ restT (parts n (l.drop m)) tail)) :
    ((pNext (s, ((pre ++ t).length : Int), 0, 0) 44).bind fun q => parse_l k (xs ++ l.take m) q.2 q.1) = some (xs ++ l, (s, ((pre ++ Go.Lib.join (t :: parts n (l.drop m)) [44]).length : Int), 0, 0)) := by
  by_cases hd : l.drop m = []
  · have hle : l.length ≤ m := by
      have := congrArg List.length hd
      rw [List.length_drop, List.length_nil] at this
      omega
    rw [hd, parts_nil] at hL ⊢
    have h1 := pNext_no s hs (pre ++ t) tail 44 44 rfl (by rw [hL, List.append_assoc]; rfl) (fun c hc => by rw [ht c hc]; decide)
    obtain ⟨k, rfl⟩ : ∃ j, k = j + 1 := ⟨k - 1, by omega⟩
    rw [h1, Option.bind_some, join_one, List.take_of_length_le hle]
    simp only [parse_l]
    rw [if_neg (by decide)]
  · have hdl : (l.drop m).length = l.length - m := List.length_drop
    have hpn := parts_ne n (l.drop m) hd (by omega)
    have hR : restT (parts n (l.drop m)) tail = 44 :: (Go.Lib.join (parts n (l.drop m)) [44] ++ tail) := by unfold restT; rw [if_neg hpn]
    rw [hR] at hL
    have h1 := pNext_yes s hs (pre ++ t) (Go.Lib.join (parts n (l.drop m)) [44] ++ tail) 44 44 rfl (by rw [hL, List.append_assoc])
    have hsplit := List.take_append_drop m l
    have hpw : (l.take m ++ l.drop m).Pairwise (· < ·) := by rw [hsplit]; exact hg.2
    have h2 := ih (l.drop m) (pre ++ t ++ [44]) (xs ++ l.take m) k hd (by omega) hk (hg.drop m) (by
      intro z hz y hy
      rcases List.mem_append.1 hz with hz | hz
      · exact hxs z hz y (List.mem_of_mem_drop hy)
      · exact (List.pairwise_append.1 hpw).2.2 z hz y hy) (by rw [List.length_append, List.length_take, hdl]; omega) (by rw [hL]; simp)
    rw [h1, Option.bind_some]
    dsimp only
    rw [h2, join_cons t _ hpn, List.append_assoc, hsplit]
    simp
theorem parse_parts (s : ByteArray) (hs : s.size ≤ 100000000) (tail : List UInt8) (ht : ∀ c ∈ tail.head?, c = 37) : ∀ (n : Nat) (l : List Int) (pre : List UInt8) (xs : List Int) (k : Nat), l ≠ [] → l.length ≤ n → (parts n l).length < k → Good l → (∀ z ∈ xs, ∀ y ∈ l, z < y) → xs.length + l.length ≤ 256 → L s = pre ++ (Go.Lib.join (parts n l) [44] ++ tail) →
      parse_l k xs (s, (pre.length : Int), 0, 0) true = some (xs ++ l, (s, ((pre ++ Go.Lib.join (parts n l) [44]).length : Int), 0, 0)) := by
  intro n
  induction n with
  | zero => intro l pre xs k hne hl; exact absurd (List.length_eq_zero_iff.1 (by omega)) hne
  | succ n ih =>
    intro l pre xs k hne hl hk hg hxs hlen hL
    cases l with
    | nil => exact absurd rfl hne
    | cons x r =>
      obtain ⟨s1, s2, s3⟩ := step_le x r hg
      obtain ⟨hlt, hgd, b1, b2⟩ := last_ok x r hg
      have hlast := run_last x r
      have htk := run_take x r
      have hxx := hg.1 x (by simp)
      have hrl := runLen_le (x :: r)
      have hr1 : 1 ≤ runLen (x :: r) := by
        show 1 ≤ 1 + ext (stepOf (x :: r)) x r
        omega
      have hx0 : ∀ z ∈ xs, z < x := fun z hz => hxs z hz x (by simp)
      have hst1 : 2 ≤ runLen (x :: r) → 1 ≤ stepOf (x :: r) := by
        intro h
        cases r with
        | nil => exact absurd hrl (by simp; omega)
        | cons y r =>
          have : x < y := (List.pairwise_cons.1 hg.2).1 y (by simp)
          show 1 ≤ y - x
          omega
      obtain ⟨k, rfl⟩ : ∃ j, k = j + 1 := ⟨k - 1, by omega⟩
      have hxy : x ≤ (x :: r).getD (runLen (x :: r) - 1) 0 := by
        rw [hlast]
        have : 0 ≤ ((runLen (x :: r) : Int) - 1) * stepOf (x :: r) := Int.mul_nonneg (by omega) s1
        omega
      simp only [parts] at hL hk ⊢
      generalize (x :: r).getD (runLen (x :: r) - 1) 0 = last at *
      by_cases c1 : stepOf (x :: r) = 1
      · rw [if_pos c1] at hL hk ⊢
        rw [join_rest] at hL
        rw [List.length_cons] at hk
        have h1 := piece_run s hs pre (restT (parts n ((x :: r).drop (runLen (x :: r)))) tail) x last hxx ⟨hxy, b2⟩ (by rw [hL]; simp) (stop_rest _ _ ht) k (runLen (x :: r)) xs hx0 hr1 (by omega) (by rw [hlast, c1, Int.mul_one])
        rw [c1] at htk
        rw [h1, ← htk]
        exact piece_end s hs tail ht n ih (x :: r) pre xs k _ (runLen (x :: r)) hr1 hrl hl (by omega) hg hxs hlen hL
      · rw [if_neg c1] at hL hk ⊢
        by_cases c2 : 2 < runLen (x :: r)
        · rw [if_pos c2] at hL hk ⊢
          rw [join_rest] at hL
          rw [List.length_cons] at hk
          have h1 := piece_step s hs pre (restT (parts n ((x :: r).drop (runLen (x :: r)))) tail) x last (stepOf (x :: r)) hxx ⟨hxy, b2⟩ ⟨hst1 (by omega), s2⟩ (by rw [hL]; simp) (stop_rest _ _ ht) k (runLen (x :: r)) xs hx0 hr1 (by omega) hlast
          rw [h1, ← htk]
          exact piece_end s hs tail ht n ih (x :: r) pre xs k _ (runLen (x :: r)) hr1 hrl hl (by omega) hg hxs hlen hL
        · rw [if_neg c2] at hL hk ⊢
          rw [join_rest] at hL
          rw [List.length_cons] at hk
          have h1 := piece_one s hs pre (restT (parts n r) tail) x hxx hL (stop_rest _ _ ht) k xs hx0 (by simp at hlen; omega)
          rw [h1]
          exact piece_end s hs tail ht n ih (x :: r) pre xs k (dec x) 1 (by omega) (by simp) hl (by simpa using (show (parts n r).length < k by omega)) hg hxs hlen hL
end Go.Proofs.YtnfpchpnephheaaDoor.Ar
end
section
namespace Go.Proofs.YtnfpchpnephheaaDoor.Ar
open Go.RowKit Go.Proofs.YtnfpchpnephheaaDoor.Lib Go.Proofs.YtnfpchpnephheaaDoor.PA Go.Proofs.YtnfpchpnephheaaDoor.Txt Go.Proofs.YtnfpchpnephheaaDoor.Num Go.Proofs.YtnfpchpnephheaaDoor.Hn Go.Proofs.YtnfpchpnephheaaDoorW.PrintWords Go.Proofs.YtnfpchpnephheaaDoorW.PrintLast Go.Proofs.YtnfpchpnephheaaDoorW.PrintMore
set_option linter.unusedVariables false
set_option linter.unusedSimpArgs false
theorem ints_l0 (l : List Int) (hl : l.length ≤ 1000) : ∀ (d i : Nat), l.length - i = d → i ≤ l.length → Ev (fun k => marlinspikeref01_Ints.l0 k l l (i : Int)) true := by
  intro d
  induction d with
  | zero =>
    intro i hd hi
    refine Ev.shift ⟨0, fun k hk => ?_⟩
    simp only [marlinspikeref01_Ints.l0]
    rw [if_neg (by omega)]
  | succ d ih =>
    intro i hd hi
    obtain ⟨K, hK⟩ := ih (i + 1) (by omega) (by omega)
    dsimp only at hK
    refine Ev.shift ⟨K, fun k hk => ?_⟩
    have h2 := hK k hk
    simp only [marlinspikeref01_Ints.l0]
    rw [wrap_nat (by omega), if_pos (by omega), if_pos (by omega), if_pos (by omega), if_pos trivial]
    exact h2
theorem ints_ev (l : List Int) (hl : l.length ≤ 1000) : Ev (fun k => marlinspikeref01_Ints.f k l l) true := by
  obtain ⟨K, hK⟩ := ints_l0 l hl _ 0 rfl (by omega)
  refine ⟨K, fun k hk => ?_⟩
  simp only [marlinspikeref01_Ints.f]
  rw [if_pos trivial]
  exact hK k hk
theorem parts_ok : ∀ (n : Nat) (l : List Int), Good l → (∀ t ∈ parts n l, t ≠ [] ∧ t.length ≤ 100) ∧ (parts n l).length ≤ n
  | 0, l, _ => ⟨by simp [parts], by simp [parts]⟩
  | n + 1, [], _ => ⟨by simp [parts], by simp [parts]⟩
  | n + 1, x :: r, hg => by
    obtain ⟨s1, s2, s3⟩ := step_le x r hg
    obtain ⟨hlt, hgd, b1, b2⟩ := last_ok x r hg
    have hxx := hg.1 x (by simp)
    have hd1 := dec_le x hxx.2
    have hd2 := dec_le _ b2
    have hd3 := dec_le _ s2
    have hne := dec_ne x
    obtain ⟨i1, i2⟩ := parts_ok n ((x :: r).drop (runLen (x :: r))) (hg.drop _)
    obtain ⟨j1, j2⟩ := parts_ok n r (hg.drop 1)
    simp only [parts]
    generalize (x :: r).getD (runLen (x :: r) - 1) 0 = last at *
    split
    · refine ⟨fun t ht => ?_, by rw [List.length_cons]; omega⟩
      rcases List.mem_cons.1 ht with rfl | ht
      · exact ⟨by simp, by rw [List.length_append, List.length_cons]; omega⟩
      · exact i1 t ht
    · split
      · refine ⟨fun t ht => ?_, by rw [List.length_cons]; omega⟩
        rcases List.mem_cons.1 ht with rfl | ht
        · exact ⟨by simp, by rw [List.length_append, List.length_cons, List.length_append, List.length_cons]; omega⟩
        · exact i1 t ht
      · refine ⟨fun t ht => ?_, by rw [List.length_cons]; omega⟩
        rcases List.mem_cons.1 ht with rfl | ht
        · exact ⟨hne, by omega⟩
        · exact j1 t ht
theorem join_ge : ∀ (ts : List (List UInt8)), (∀ t ∈ ts, t ≠ []) → ts.length ≤ (Go.Lib.join ts [44]).length
  | [], _ => Nat.zero_le _
  | t :: ts, h => by
    have ht : 1 ≤ t.length := List.length_pos_iff.2 (h t (by simp))
    by_cases hn : ts = []
    · subst hn; rw [join_one]; simpa using ht
    · have := join_ge ts (fun x hx => h x (by simp [hx]))
      rw [join_cons t ts hn, List.length_append, List.length_cons, List.length_cons]
      omega
theorem sort_good (l : List Int) (h : Good l) : sortL l = l := by
  refine List.mergeSort_of_pairwise ?_
  exact h.2.imp (fun h => by simp only [decide_eq_true_eq]; omega)
theorem parse_text (l : List Int) (lim : Int) (h : rightB l lim = true) : array_Parse.f (mkB (textOf l lim)) = some (l, lim, 0, 0) := by
  obtain ⟨hg, hl, h0, h9⟩ := right_good h
  have hne : l ≠ [] := by
    rintro rfl
    simp [rightB] at h
  obtain ⟨p1, p2⟩ := parts_ok l.length l hg
  have hj := join_len (parts l.length l) (fun t ht => (p1 t ht).2)
  have hmul : (parts l.length l).length * 101 ≤ 256 * 101 := Nat.mul_le_mul_right _ (by omega)
  have hge := join_ge (parts l.length l) (fun t ht => (p1 t ht).1)
  have hd := dec_le lim h9
  have htl : (limT lim).length ≤ 7 := by
    unfold limT
    split
    · rw [List.length_cons]; omega
    · simp
  obtain ⟨s, hsd⟩ : ∃ s, mkB (textOf l lim) = s := ⟨_, rfl⟩
  have hL : L s = Go.Lib.join (parts l.length l) [44] ++ limT lim := by rw [← hsd, L_mkB]; rfl
  have hsz : s.size = (Go.Lib.join (parts l.length l) [44]).length + (limT lim).length := by rw [← L_length, hL, List.length_append]
  have hs : s.size ≤ 100000000 := by omega
  have ht : ∀ c ∈ (limT lim).head?, c = 37 := by
    intro c hc
    unfold limT at hc
    split at hc
    · simpa using hc.symm
    · simp at hc
  have hp : parse_l (s.size + 2) [] (s, 0, 0, 0) true = some (l, (s, ((Go.Lib.join (parts l.length l) [44]).length : Int), 0, 0)) := parse_parts s hs (limT lim) ht l.length l [] [] (s.size + 2) hne (Nat.le_refl _) (by omega) hg (by simp) (by simpa using hl) (by rw [hL]; rfl)
  rw [hsd]
  unfold array_Parse.f array_Parse.g
  rw [hp, Option.bind_some]
  dsimp only
  rw [if_pos (by omega)]
  unfold parse_end
  by_cases c : 0 < lim
  · have hlt : limT lim = 37 :: (dec lim ++ []) := by unfold limT; rw [if_pos c, List.append_nil]
    rw [hlt] at hL
    have h1 := pNext_yes s hs (Go.Lib.join (parts l.length l) [44]) (dec lim ++ []) 37 37 rfl hL
    have h2 := pNum_at s hs (Go.Lib.join (parts l.length l) [44] ++ [37]) [] lim ⟨h0, h9⟩ 1 (by omega) (by rw [hL]; simp) (by simp)
    have hend : s.size = (Go.Lib.join (parts l.length l) [44] ++ [37] ++ dec lim).length := by rw [← L_length, hL]; simp
    rw [h1, Option.bind_some]
    dsimp only
    rw [if_pos rfl, h2, Option.bind_some]
    dsimp only
    unfold parse_fin
    dsimp only
    rw [if_neg (by rw [hend]; omega)]
    unfold parse_out
    rw [if_pos (show wellB (s, _, 0, 0) = true from rfl), sort_good l hg]
  · have hlt : limT lim = [] := by unfold limT; rw [if_neg c]
    have hl0 : lim = 0 := by omega
    rw [hlt] at hL
    have h1 := pNext_no s hs (Go.Lib.join (parts l.length l) [44]) [] 37 37 rfl hL (by simp)
    have hend : s.size = (Go.Lib.join (parts l.length l) [44]).length := by rw [← L_length, hL]; simp
    rw [h1, Option.bind_some]
    dsimp only
    rw [if_neg (by decide)]
    unfold parse_fin
    dsimp only
    rw [if_neg (by rw [hend]; omega)]
    unfold parse_out
    rw [if_pos (show wellB (s, _, 0, 0) = true from rfl), sort_good l hg, hl0]
end Go.Proofs.YtnfpchpnephheaaDoor.Ar
end
section
namespace Go.Proofs.YtnfpchpnephheaaDoor.Ar
open Go.RowKit Go.Proofs.YtnfpchpnephheaaDoor.Lib Go.Proofs.YtnfpchpnephheaaDoor.PA Go.Proofs.YtnfpchpnephheaaDoor.Txt Go.Proofs.YtnfpchpnephheaaDoorW.PrintWords Go.Proofs.YtnfpchpnephheaaDoorW.PrintLast Go.Proofs.YtnfpchpnephheaaDoorW.PrintMore
attribute [local go_sem high] eqA36
set_option linter.unusedVariables false
set_option linter.unusedSimpArgs false
set_option maxHeartbeats 40000000 in
set_option maxRecDepth 100000 in
theorem back_calls (A : Option Addr) (c : Nat) (l : List Int) (a : Int) (w : World) (hr : Kd.C (Kd.int .i64) w A l.length l) (hc : l.length ≤ c) (hG : Glob w) : Calls Tryd.prog 4 #[.agg #[.slice A l.length c, .int .i64 a]] w fun e w' => e = .returned (.bool true) ∧ Below w.heap.size w w' := by
  have hu24 := Tryd.underlying24
  have hu28 := Tryd.underlying28
  have hu36 := Tryd.underlying36
  obtain ⟨K1, h1⟩ := format_ev l a
  have HR := Aside0.mk hr
  have HC := Aside0.mk hc
  have HG := Aside0.mk hG
  cases hb : rightB l a with
  | false =>
    have hp : fmtOf l a = (⟨#[]⟩, 3) := by unfold fmtOf; rw [hb]; rfl
    have C8 := Aside0.mk (fun (u : World) (h : Kd.C (Kd.int .i64) u A l.length l) (hg : Glob u) => array_Format.calls K1 (fun k => k < u.heap.size) A c l a ⟨#[]⟩ 3 u (Kd.V_mk hc (Kd.C_F (Kd.heap_int _) h)) (by rw [← hp]; exact h1 K1 (Nat.le_refl _)) hg)
    clear hr hc hG h1 hp hb
    go_enter Tryd.func4, Tryd.ntmps4
    go_wp2_with fail
    refine (theirs_calls A c l a _).mono ?_
    rintro e w1 ⟨rfl, hb⟩
    have HB1 := Aside0.mk (below_then (below_alloc (Below.refl w.heap.size w) _) (below_alloc (Below.refl w.heap.size w) _).size hb)
    clear hb
    go_wp2_with fail
    refine (C8.out _ (Kd.C_below HR.out HB1.out) (HG.out.below HB1.out)).mono ?_
    rintro e w2 ⟨rfl, hb⟩
    have HB2 := Aside0.mk (below_then HB1.out HB1.out.size hb)
    clear hb
    go_wp2_with fail
    refine (alive_calls _ (HG.out.below HB2.out)).mono ?_
    rintro e w3 ⟨rfl, hb⟩
    have HB3 := Aside0.mk (below_then HB2.out HB2.out.size hb)
    clear hb
    go_wp2
    go_ret
    exact ⟨rfl, HB3.out⟩
  | true =>
    have hp : fmtOf l a = (mkB (textOf l a), 0) := by unfold fmtOf; rw [hb]; rfl
    have hl := (right_good hb).2.1
    obtain ⟨K2, h2⟩ := ints_ev l (by omega)
    have hpt := parse_text l a hb
    generalize textOf l a = T at hp hpt
    have C8 := Aside0.mk (fun (u : World) (h : Kd.C (Kd.int .i64) u A l.length l) (hg : Glob u) => array_Format.calls K1 (fun k => k < u.heap.size) A c l a (mkB T) 0 u (Kd.V_mk hc (Kd.C_F (Kd.heap_int _) h)) (by rw [← hp]; exact h1 K1 (Nat.le_refl _)) hg)
    have C14 := Aside0.mk (fun (u : World) (hg : Glob u) => array_Parse.calls (mkB T) l a 0 0 u hpt hg)
    have C15 := Aside0.mk (fun (u : World) (Av : Option Addr) (cv : Nat) (h : Kd.C (Kd.int .i64) u Av l.length l) (hcv : l.length ≤ cv) (h' : Kd.C (Kd.int .i64) u A l.length l) => marlinspikeref01_Ints.calls K2 Av cv l A c l true u h hcv h' hc (h2 K2 (Nat.le_refl _)))
    clear hr hc hG h1 h2 hp hpt hb hl
    go_enter Tryd.func4, Tryd.ntmps4
    go_wp2_with fail
    refine (theirs_calls A c l a _).mono ?_
    rintro e w1 ⟨rfl, hb⟩
    have HB1 := Aside0.mk (below_then (below_alloc (Below.refl w.heap.size w) _) (below_alloc (Below.refl w.heap.size w) _).size hb)
    have BK1 := Aside0.mk (blk_below (blk_new w (.cells #[.slice A l.length c, .int .i64 a] 24)) hb)
    clear hb
    go_wp2_with fail
    refine (C8.out _ (Kd.C_below HR.out HB1.out) (HG.out.below HB1.out)).mono ?_
    rintro e w2 ⟨rfl, hb⟩
    have HB2 := Aside0.mk (below_then HB1.out HB1.out.size hb)
    have BK2 := Aside0.mk (blk_below BK1.out hb)
    clear hb
    go_wp2_with fail
    refine (C14.out _ (HG.out.below HB2.out)).mono ?_
    rintro e w3 ⟨v, rfl, hO, hb⟩
    have HB3 := Aside0.mk (below_then HB2.out HB2.out.size hb)
    have BK3 := Aside0.mk (blk_below BK2.out hb)
    obtain ⟨Av, cv, rfl⟩ := Kd.R_slice hO
    have hOO := Kd.R_reads' hO
    have HV := Aside0.mk hOO.2.2
    have HVc := Aside0.mk hOO.2.1
    clear hb hO hOO
    go_upto_region 5 with (fail)
    have BK4 := Aside0.mk (blk_alloc (blk_alloc BK3.out (.cells #[.slice Av l.length cv, .int .i64 a] 28)) (.cells #[.int .i64 0, .int .i64 0] 36))
    have BK5 := Aside0.mk (blk_alloc (blk_new w3 (.cells #[.slice Av l.length cv, .int .i64 a] 28)) (.cells #[.int .i64 0, .int .i64 0] 36))
    have BK6 := Aside0.mk (blk_new (w3.alloc (.cells #[.slice Av l.length cv, .int .i64 a] 28)) (.cells #[.int .i64 0, .int .i64 0] 36))
    rw [World.size_alloc] at BK6
    have HB4 := Aside0.mk (below_alloc (below_alloc HB3.out (.cells #[.slice Av l.length cv, .int .i64 a] 28)) (.cells #[.int .i64 0, .int .i64 0] 36))
    have HV4 := Aside0.mk (Kd.C_alloc (Kd.C_alloc HV.out (.cells #[.slice Av l.length cv, .int .i64 a] 28)) (.cells #[.int .i64 0, .int .i64 0] 36))
    generalize (w3.alloc (.cells #[.slice Av l.length cv, .int .i64 a] 28)).alloc (.cells #[.int .i64 0, .int .i64 0] 36) = w4 at BK4 BK5 BK6 HB4 HV4 ⊢
    have x0 : w4.cell? ⟨w.heap.size, 0, none⟩ = some (.slice A l.length c) := (blk_cell BK4.out 0).trans rfl
    have x1 : w4.cell? ⟨w.heap.size, 1, none⟩ = some (.int .i64 a) := (blk_cell BK4.out 1).trans rfl
    have y0 : w4.cell? ⟨w3.heap.size, 0, none⟩ = some (.slice Av l.length cv) := (blk_cell BK5.out 0).trans rfl
    have y1 : w4.cell? ⟨w3.heap.size, 1, none⟩ = some (.int .i64 a) := (blk_cell BK5.out 1).trans rfl
    have z0 : w4.cell? ⟨w3.heap.size + 1, 0, none⟩ = some (.int .i64 0) := (blk_cell BK6.out 0).trans rfl
    have z1 : w4.cell? ⟨w3.heap.size + 1, 1, none⟩ = some (.int .i64 0) := (blk_cell BK6.out 1).trans rfl
    go_wp2_with fail
    refine (C15.out _ Av cv HV4.out HVc.out (Kd.C_below HR.out HB4.out)).mono ?_
    rintro e w5 ⟨rfl, ⟨nd, rfl⟩⟩
    go_wp2_with fail
    refine (alive_calls _ (HG.out.below (pw_below_drewN HB4.out nd))).mono ?_
    rintro e w6 ⟨rfl, hb⟩
    have HB6 := Aside0.mk (below_then (pw_below_drewN HB4.out nd) (pw_below_drewN HB4.out nd).size hb)
    clear hb
    go_wp2
    go_ret
    exact ⟨rfl, HB6.out⟩
end Go.Proofs.YtnfpchpnephheaaDoor.Ar
end
section
namespace Go.Proofs.YtnfpchpnephheaaDoor.Ar
open Go.RowKit Go.Proofs.YtnfpchpnephheaaDoorW.PrintWords Go.Proofs.YtnfpchpnephheaaDoor.Op
theorem arr_opens : Opens Tryd.prog 24 (Kd.pair (Kd.slice 3 (Kd.int .i64)) (Kd.int .i64)).K (fun x => (x.1.length ≤ maxLen ∧ ∀ y ∈ x.1, (Lit.int .i64 y).wf = true) ∧ (Lit.int .i64 x.2).wf = true) :=
  opens_struct (sz := 2) Tryd.underlying24 (by kernel_rfl)
    (opensF_cons (off := 0) (a := Kd.slice 3 (Kd.int .i64)) (b := Kd.int .i64) (Ga := fun l => l.length ≤ maxLen ∧ ∀ y ∈ l, (Lit.int .i64 y).wf = true) (Gb := fun y => (Lit.int .i64 y).wf = true) 22 rfl rfl (by kernel_rfl) (opens_slice 3 Tryd.underlying22 (by kernel_rfl) (opens_int Tryd.underlying3))
      (opensF_one 3 rfl rfl (by kernel_rfl) (opens_int Tryd.underlying3)))
end Go.Proofs.YtnfpchpnephheaaDoor.Ar
end
section
namespace Go.Proofs.YtnfpchpnephheaaDoor.arrayBack
open Go.ChangeShapes Go.WideShapes Go.ChangeAt Go.RowKit
open Go.ChangeMaps (open_string shut_string)
open Go.Proofs.YtnfpchpnephheaaDoorW.PrintWords 
set_option linter.unusedVariables false
set_option maxRecDepth 100000
theorem own : ownKnob Tryd.prog.godebug = none := by kernel_rfl
theorem laidOut : laidOutB Tryd.prog = true := by kernel_rfl
theorem laid_met (os : Os) : laidMet Tryd.prog Rows.arrayBackRow.laid ((World.laidAll Tryd.prog os Rows.arrayBackRow.laid).forCall (fun _ _ => 0) ⟨#[], #[.agg #[.slice none 0 0, .int .i64 0]], []⟩).memory :=
  laidMet_laidAll _ (by kernel_rfl) (by kernel_rfl)
theorem witness_row (os : Os) {H : Type} (enc : TypeId × Value → H) :
    (OpenSpec.ofChange Rows.arrayBackSpec).preRow enc Tryd.prog Tryd.f4 Rows.arrayBackRow.domain false Rows.arrayBackRow.laid ((World.laidAll Tryd.prog os Rows.arrayBackRow.laid).forCall (fun _ _ => 0) ⟨#[], #[.agg #[.slice none 0 0, .int .i64 0]], []⟩).memory #[.agg #[.slice none 0 0, .int .i64 0]] := by
  have hw : (DataW.whole enc Tryd.prog ((World.laidAll Tryd.prog os Rows.arrayBackRow.laid).forCall (fun _ _ => 0) ⟨#[], #[.agg #[.slice none 0 0, .int .i64 0]], []⟩).memory Tryd.f4.params.toList (OpenSpec.ofChange Rows.arrayBackSpec).vars false #[.agg #[.slice none 0 0, .int .i64 0]].toList 8).map (fun x => (x.1, x.2.1)) =
      some ([.agg [.nil, .lit (.int .i64 0)]], []) := by kernel_rfl
  obtain ⟨⟨x1, x2, x3⟩, hx, hx1⟩ := Option.map_eq_some_iff.1 hw
  simp only [Prod.mk.injEq] at hx1
  obtain ⟨rfl, rfl⟩ := hx1
  exact OpenSpec.preRow_of_cond 8 hx (by kernel_rfl) (fun k hk => by cases hk) (by kernel_rfl) (laid_met os)
theorem star : "*" ++ "errors.errorString" = "*errors.errorString" := by decide
theorem row_err (u : TypeId) (h : Tryd.prog.typeName? 3 u = some "*errors.errorString") : u = 143 :=
  typeName_ptr_named (nm := "errors.errorString") (by rw [star]; kernel_rfl) (by kernel_rfl) (by decide) u (by rw [star]; exact h)
theorem glob {W : World} (h : laidMetH Tryd.prog Rows.arrayBackRow.laid W) : Lib.Glob W := by
  rw [MakeChecks.laidMetH_plain _ _ _ (by kernel_rfl)] at h
  have h0 : laidMet Tryd.prog Rows.arrayBackRow.laid W := h
  have h1 : laidMet Tryd.prog [("math/bits.deBruijn64tab", Rows.laid_math_bits_deBruijn64tab), ("internal/strconv.uint64pow10", Rows.laid_internal_strconv_uint64pow10), ("unicode/utf8.acceptRanges", Rows.laid_unicode_utf8_acceptRanges), ("strconv.ErrRange", Rows.laid_strconv_ErrRange), ("strconv.ErrSyntax", Rows.laid_strconv_ErrSyntax), ("unicode/utf8.first", Rows.laid_unicode_utf8_first)] W := laidMet.tail h0
  have h2 : laidMet Tryd.prog [("internal/strconv.uint64pow10", Rows.laid_internal_strconv_uint64pow10), ("unicode/utf8.acceptRanges", Rows.laid_unicode_utf8_acceptRanges), ("strconv.ErrRange", Rows.laid_strconv_ErrRange), ("strconv.ErrSyntax", Rows.laid_strconv_ErrSyntax), ("unicode/utf8.first", Rows.laid_unicode_utf8_first)] W := laidMet.tail h1
  have h3 : laidMet Tryd.prog [("unicode/utf8.acceptRanges", Rows.laid_unicode_utf8_acceptRanges), ("strconv.ErrRange", Rows.laid_strconv_ErrRange), ("strconv.ErrSyntax", Rows.laid_strconv_ErrSyntax), ("unicode/utf8.first", Rows.laid_unicode_utf8_first)] W := laidMet.tail h2
  have h4 : laidMet Tryd.prog [("strconv.ErrRange", Rows.laid_strconv_ErrRange), ("strconv.ErrSyntax", Rows.laid_strconv_ErrSyntax), ("unicode/utf8.first", Rows.laid_unicode_utf8_first)] W := laidMet.tail h3
  have h5 : laidMet Tryd.prog [("strconv.ErrSyntax", Rows.laid_strconv_ErrSyntax), ("unicode/utf8.first", Rows.laid_unicode_utf8_first)] W := laidMet.tail h4
  have h6 : laidMet Tryd.prog [("unicode/utf8.first", Rows.laid_unicode_utf8_first)] W := laidMet.tail h5
  have h7 : laidMet Tryd.prog [] W := laidMet.tail h6
  obtain ⟨a1, s1, v1, _⟩ := laid_sentinel (g := 2) h5 (by kernel_rfl) (by kernel_rfl) Tryd.underlying68 row_err Tryd.underlying143 Tryd.underlying145 rfl rfl Tryd.underlying9 (by kernel_rfl) (by kernel_rfl)
  obtain ⟨a2, s2, v2, _⟩ := laid_sentinel (g := 3) h4 (by kernel_rfl) (by kernel_rfl) Tryd.underlying68 row_err Tryd.underlying143 Tryd.underlying145 rfl rfl Tryd.underlying9 (by kernel_rfl) (by kernel_rfl)
  refine ⟨Go.Lib.tabIs_of_head Lib.g_tab (by kernel_rfl) Tryd.underlying124 Tryd.underlying100 (by kernel_rfl) (by kernel_rfl) h2, ⟨_, _, v1⟩, ⟨_, _, v2⟩⟩
set_option maxHeartbeats 4000000 in
theorem lifted (os : Os) (started : os.Started) (H : Type) (enc : TypeId × Value → H) (F : Stop.Interp) :
    ReturnsInHanded {} Tryd.checked os 4 .any ((OpenSpec.ofChange Rows.arrayBackSpec).preRow enc Tryd.prog Tryd.f4 Rows.arrayBackRow.domain false Rows.arrayBackRow.laid) (((OpenSpec.ofChange Rows.arrayBackSpec).at F).post enc Tryd.prog Tryd.f4 false true false false) := by
  refine returnsInHanded_of_row (C := Tryd.checked) (s := (OpenSpec.ofChange Rows.arrayBackSpec)) own started (by kernel_rfl) Tryd.func4
    (witness_row_atRef (enc := enc) (C := Tryd.checked) false (World.laidAll Tryd.prog os Rows.arrayBackRow.laid) #[.agg #[.slice none 0 0, .int .i64 0]] (World.laidAll_os _ _ _) (by kernel_rfl) (by kernel_rfl) (by kernel_rfl) (witness_row os enc)) ?_
  intro W base args ds gs before hval0 hW _ _ hsz0 hL _ _
  have hsz : (DataW.weightsEach Tryd.prog (Tryd.f4.params.toList ++ (OpenSpec.ofChange Rows.arrayBackSpec).bare.plain.varTypes Tryd.prog) (ds ++ gs)).all (· ≤ reachBytes) = true := hsz0
  have hval : ∀ (j : Nat) t v, Tryd.f4.params[j]? = some t → args[j]? = some v → Value.okWide Tryd.prog W .any base t v := hval0
  have hG := glob hL
  have hW' := hW
  obtain ⟨p, q, hA0, hV, rfl, hfz, hnd⟩ := hW
  have hA : DataW.TrodAll enc Tryd.prog W 0 (fun _ => true) true Tryd.f4.params.toList args.toList ds p := hA0
  rw [Tryd.params4] at hA hval hsz
  obtain ⟨v0, vs0, d0, ds0, p0, q0, hargs, rfl, rfl, t0, r0⟩ := trodAll_cons hA
  obtain ⟨rfl, rfl, rfl⟩ := trodAll_nil r0
  obtain rfl : args = #[v0] := by cases args; simp_all
  obtain ⟨rfl, rfl⟩ := trodVars_none hV
  have k0 := t0
  have y0 := hval 0 24 v0 rfl rfl
  obtain ⟨x0, kx0, gx0⟩ := Op.opens_arg Ar.arr_opens t0
  obtain ⟨_, _, e0, ⟨A0, c0, rfl, hc0, hr0⟩, rfl⟩ := kx0
  obtain rfl : v0 = .agg #[.slice A0 x0.1.length c0, .int .i64 x0.2] := Op.agg_of e0
  clear hA0 hval0 hsz0 hsz
  refine (Ar.back_calls A0 c0 x0.1 x0.2 W hr0 hc0 hG).mono fun e W' ⟨he, bel⟩ => ?_
  subst he
  exact ⟨_, rfl, _, _, _, [], _, [], hW', trodAll_mk1 (shut_bool Tryd.underlying4 _), (trodAll_cons_mk (Below.trod laidOut (by kernel_rfl) (of_decide_eq_true (by kernel_rfl)) k0 bel (Op.trod_lt k0)) trodAll_mk0), rfl, bel.frame _, fun h => by cases h⟩
theorem said : Rows.ArrayBackSaid :=
  OpenClaim.holds_of_cond 4 Tryd.f4 rfl rfl rfl rfl rfl rfl rfl ⟨rfl, rfl, rfl, rfl, rfl⟩ rfl rfl rfl rfl rfl (by kernel_rfl) Tryd.func4 (by kernel_rfl)
    (of_decide_eq_true (by kernel_rfl)) (by unfold Func.isWrapper; first | (rw [if_pos (by decide +kernel)]; kernel_rfl) | (rw [if_neg (by decide +kernel)]; exact ⟨rfl, rfl⟩))
    (fun os started H enc _ F => by rw [OpenClaim.pre_eq_preRow]; exact lifted os started H enc F)
theorem plain (f : FuncId) (fn : Func) (hf : Tryd.pinned.checked.prog.funcNamed "marlinspike/marlinspikelaw08.ArrayBack" = some f) (hfn : Tryd.pinned.checked.prog.funcs[f]? = some fn) :
    true = Tryd.pinned.checked.prog.looks [] ∧ ∀ (j : Nat) t, fn.params[j]? = some t → Tryd.pinned.checked.prog.wantsStandIn t = false := by
  obtain rfl : f = 4 := Option.some.inj ((show Tryd.prog.funcNamed "marlinspike/marlinspikelaw08.ArrayBack" = some 4 by kernel_rfl).symm.trans hf) |>.symm
  obtain rfl : fn = Tryd.f4 := (Option.some.inj (Tryd.func4.symm.trans hfn)).symm
  refine ⟨by kernel_rfl, fun j t ht => ?_⟩
  rw [Tryd.params4] at ht
  have := Array.mem_of_getElem? ht
  have all : (#[24] : Array TypeId).all (fun t => Tryd.prog.wantsStandIn t = false) = true := by kernel_rfl
  exact of_decide_eq_true (Array.all_eq_true_iff_forall_mem.1 all t this)
theorem card : Rows.ArrayBackCardSaid :=
  Claim7.holds_tied_plain_at .later [] _ _ _ _ said (fun _ h => by cases h) (by kernel_rfl) (fun _ h => by cases h) arrayBack_row_tie rfl ⟨rfl, rfl⟩ (by kernel_rfl) rfl plain (by kernel_rfl)
#print axioms card
end Go.Proofs.YtnfpchpnephheaaDoor.arrayBack
namespace Go.Proofs.YtnfpchpnephheaaDoor
theorem arrayBack_card : Rows.ArrayBackCardSaid := arrayBack.card
end Go.Proofs.YtnfpchpnephheaaDoor
end
