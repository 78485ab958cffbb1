/- HostBack holds of every list of names: a compressed list of names that may be is expanded to it. -/
import Derived.Test.YtoammgpfbdcphaaDoorZ03
import Derived.Test.YtoammgpfbdcphaaDoorZ07
import Derived.Test.YtoammgpfbdcphaaDoorZ09
import Derived.Test.YtoammgpfbdcphaaDoorZ12
import Derived.Test.YtoammgpfbdcphaaDoorZ10
import Derived.Test.YtoammgpfbdcphaaDoorRows
import Derived.Test.YtoammgpfbdcphaaDoorCards
import Derived.Test.YtoammgpfbdcphaaDoorTie
import Derived.Test.YtoammgpfbdcphaaDoorZ02
import Derived.Lay
import Derived.WalkKit
import Derived.ProofKit
import Derived.OpenShut
import Derived.ShutString
import Derived.ChangeOld
import Derived.Below
import Derived.Carry
import Derived.SizedLaws
import Derived.Deep.DeepHandedRow
import Derived.Deep.DeepWitnessRowRef
import Derived.Stop.LaidErr
import Derived.Lib.LaidTab
import Derived.LaidMore
section
namespace Go.Proofs.YtoammgpfbdcphaaDoor.PH
open Go.RowKit Go.Proofs.YtoammgpfbdcphaaDoor.Lib Go.Proofs.YtoammgpfbdcphaaDoorW.PrintWords Go.Proofs.YtoammgpfbdcphaaDoorW.PrintLast Go.Proofs.YtoammgpfbdcphaaDoorW.PrintMore
attribute [local go_sem] max2_int min2_int max_two min_two max_three min_three max_four min_four   
set_option linter.unusedVariables false
set_option linter.unusedSimpArgs false
attribute [local go_sem high] eqA27
mutual
def marlinspikelaw05_HostBack.j0 : Nat → List ByteArray → Bool → Option (Bool)
 | 0, _, _ => none
 | k + 1, x0, x15 => if x15 = true then ((marlinspikelaw05_alive.f k).bind fun t409 => (some t409)) else (marlinspikelaw05_HostBack.l0 k x0 x0 (x0.length : Int) 0)
def marlinspikelaw05_HostBack.l0 : Nat → List ByteArray → List ByteArray → Int → Int → Option (Bool)
 | 0, _, _, _, _ => none
 | k + 1, x0, x17, x18, x19 => if x19 < x18 then (if 0 ≤ x19 then (if x19 < (x17.length : Int) then ((marlinspikeref05_Expand.f k (rdOf ByteArray.empty x17 x19)).bind fun bt411 => (if (!(bt411.2.1 == 0) || (!(bt411.2.2 == 0))) = true then ((marlinspikelaw05_alive.f k).bind fun t417 => (some t417)) else (if (bt411.1.length : Int) = 1 then (if 0 < (bt411.1.length : Int) then (if (rdOf ByteArray.empty bt411.1 0).toList = (rdOf ByteArray.empty x17 x19).toList then (marlinspikelaw05_HostBack.l0 k x0 x17 x18 (wrap64 (x19 + 1))) else ((marlinspikelaw05_alive.f k).bind fun t419 => (some t419))) else (none)) else ((marlinspikelaw05_alive.f k).bind fun t420 => (some t420))))) else (none)) else (none)) else ((host_Compress.f k x0).bind fun t421 => ((host_Expand.f k t421).bind fun bt422 => (if (bt422.2.1 == 0 && (bt422.2.2 == 0)) = true then ((marlinspikeref05_Same.f k bt422.1 x0).bind fun t428 => (if t428 = true then ((marlinspikelaw05_alive.f k).bind fun t429 => (some t429)) else (some false))) else (some false))))
end
def marlinspikelaw05_HostBack.f (k : Nat) (l0 : List ByteArray) : Option (Bool) := (marlinspikelaw05_long.f k l0).bind fun t408 => (if t408 = true then (marlinspikelaw05_HostBack.j0 k l0 true) else (marlinspikelaw05_HostBack.j0 k l0 (decide ((l0.length : Int) > 256))))
theorem marlinspikelaw05_HostBack.mono_l : ∀ k,(∀ y0 y1,LeO (marlinspikelaw05_HostBack.j0 k y0 y1) (marlinspikelaw05_HostBack.j0 (k + 1) y0 y1))∧(∀ y0 y1 y2 y3,LeO (marlinspikelaw05_HostBack.l0 k y0 y1 y2 y3) (marlinspikelaw05_HostBack.l0 (k + 1) y0 y1 y2 y3))
|0 => ⟨fun _ _ r h => by simp [marlinspikelaw05_HostBack.j0] at h,fun _ _ _ _ r h => by simp [marlinspikelaw05_HostBack.l0] at h⟩
|k + 1 => by
  obtain ⟨ih0,ih1⟩:=marlinspikelaw05_HostBack.mono_l k
  refine ⟨?_,?_⟩
  ·intro y0 y1
   unfold marlinspikelaw05_HostBack.j0
   repeat' first
  |(with_reducible exact ih0 _ _)
  |(with_reducible exact ih1 _ _ _ _)
  |(with_reducible exact host_Compress.mono _ _)
  |(with_reducible exact host_Expand.mono _ _)
  |(with_reducible exact marlinspikelaw05_alive.mono _)
  |(with_reducible exact marlinspikelaw05_long.mono _ _)
  |(with_reducible exact marlinspikeref05_Expand.mono _ _)
  |(with_reducible exact marlinspikeref05_Same.mono _ _ _)
  |(with_reducible exact LeO.refl _)
  |(with_reducible exact LeO.none _)
  |(with_reducible refine LeO.ite ?_ ?_)
  |(with_reducible refine LeO.bind ?_ (fun _ => ?_))
  |exact ih0 _ _
  |exact ih1 _ _ _ _
  |exact host_Compress.mono _ _
  |exact host_Expand.mono _ _
  |exact marlinspikelaw05_alive.mono _
  |exact marlinspikelaw05_long.mono _ _
  |exact marlinspikeref05_Expand.mono _ _
  |exact marlinspikeref05_Same.mono _ _ _
  |exact LeO.none _
  |refine LeO.ite ?_ ?_
  |refine LeO.bind ?_ (fun _ => ?_)
  ·intro y0 y1 y2 y3
   unfold marlinspikelaw05_HostBack.l0
   repeat' first
  |(with_reducible exact ih0 _ _)
  |(with_reducible exact ih1 _ _ _ _)
  |(with_reducible exact host_Compress.mono _ _)
  |(with_reducible exact host_Expand.mono _ _)
  |(with_reducible exact marlinspikelaw05_alive.mono _)
  |(with_reducible exact marlinspikelaw05_long.mono _ _)
  |(with_reducible exact marlinspikeref05_Expand.mono _ _)
  |(with_reducible exact marlinspikeref05_Same.mono _ _ _)
  |(with_reducible exact LeO.refl _)
  |(with_reducible exact LeO.none _)
  |(with_reducible refine LeO.ite ?_ ?_)
  |(with_reducible refine LeO.bind ?_ (fun _ => ?_))
  |exact ih0 _ _
  |exact ih1 _ _ _ _
  |exact host_Compress.mono _ _
  |exact host_Expand.mono _ _
  |exact marlinspikelaw05_alive.mono _
  |exact marlinspikelaw05_long.mono _ _
  |exact marlinspikeref05_Expand.mono _ _
  |exact marlinspikeref05_Same.mono _ _ _
  |exact LeO.none _
  |refine LeO.ite ?_ ?_
  |refine LeO.bind ?_ (fun _ => ?_)
theorem marlinspikelaw05_HostBack.mono : ∀ a0 k,LeO (marlinspikelaw05_HostBack.f k a0) (marlinspikelaw05_HostBack.f (k + 1) a0):=by
 (intro a0 k);(obtain ⟨ih0,ih1⟩:=marlinspikelaw05_HostBack.mono_l k);(unfold marlinspikelaw05_HostBack.f)
 repeat' first
  |(with_reducible exact ih0 _ _)
  |(with_reducible exact ih1 _ _ _ _)
  |(with_reducible exact host_Compress.mono _ _)
  |(with_reducible exact host_Expand.mono _ _)
  |(with_reducible exact marlinspikelaw05_alive.mono _)
  |(with_reducible exact marlinspikelaw05_long.mono _ _)
  |(with_reducible exact marlinspikeref05_Expand.mono _ _)
  |(with_reducible exact marlinspikeref05_Same.mono _ _ _)
  |(with_reducible exact LeO.refl _)
  |(with_reducible exact LeO.none _)
  |(with_reducible refine LeO.ite ?_ ?_)
  |(with_reducible refine LeO.bind ?_ (fun _ => ?_))
  |exact ih0 _ _
  |exact ih1 _ _ _ _
  |exact host_Compress.mono _ _
  |exact host_Expand.mono _ _
  |exact marlinspikelaw05_alive.mono _
  |exact marlinspikelaw05_long.mono _ _
  |exact marlinspikeref05_Expand.mono _ _
  |exact marlinspikeref05_Same.mono _ _ _
  |exact LeO.none _
  |refine LeO.ite ?_ ?_
  |refine LeO.bind ?_ (fun _ => ?_)
set_option maxHeartbeats 8000000 in
set_option maxRecDepth 100000 in
theorem marlinspikelaw05_HostBack.calls (k : Nat) (A0 : Option Addr) (c0 : Nat) (l0 : List ByteArray) (r : Bool) (w : World) (hr0 : Kd.C Kd.string w A0 l0.length l0) (hc0 : l0.length ≤ c0) (h : marlinspikelaw05_HostBack.f k l0 = some r) (hG_ : Glob w) :
  Calls Tryd.prog 3 #[.slice A0 l0.length c0] w fun e w' => e = .returned (.bool r)∧Below w.heap.size w w':=by
 (have HG_:=Aside0.mk hG_);(clear hG_);(have hu27:=Tryd.underlying27);(have HR0:=Aside0.mk hr0);(have HC0:=Aside0.mk hc0);(clear hr0 hc0);(have HB:=Aside0.mk (Below.refl w.heap.size w));(have H : ((marlinspikelaw05_long.f k l0).bind fun t408 => (if t408 = true then (marlinspikelaw05_HostBack.j0 k l0 true) else (marlinspikelaw05_HostBack.j0 k l0 (decide ((l0.length : Int) > 256))))) = some r:=h);(clear h);(have HC2:=Aside0.mk H);(clear H);(go_enter Tryd.func3,Tryd.ntmps3);(go_upto_region 1 with (fail));(go_cut [15] (fun v15 wc => ∃ (kq : Nat) (x15_1 : Bool),v15 = .bool x15_1∧Aside0 (marlinspikelaw05_HostBack.j0 kq l0 x15_1 = some r)∧Aside0 (kq ≤ k)∧Aside0 (Below w.heap.size w wc)))
 case first =>
  (have H:=HC2.out);(clear HC2);(replace H:=Option.bind_eq_some_iff.mp H);(obtain ⟨t408,A30,H⟩:=H);(replace H : (if t408 = true then (marlinspikelaw05_HostBack.j0 k l0 true) else (marlinspikelaw05_HostBack.j0 k l0 (decide ((l0.length : Int) > 256)))) = some r:=H);(have A3:=Aside0.mk A30);(clear A30);(by_cases c4 : t408 = true)
  ·(subst c4);(have H1 : (marlinspikelaw05_HostBack.j0 k l0 true) = some r:=by rw [if_pos rfl] at H;exact H);(clear H);(have H:=H1);(clear H1);(have H':=Aside0.mk H);(clear H);(go_wp2_with (first|((with_reducible refine gate_callee (f:=8) rfl ?_);refine goesL_ (some 10) rfl rfl Tryd.func8 (by kernel_rfl) rfl #[.slice A0 l0.length c0] rfl (by (try simp only [List.map_toArray,List.map_cons,List.map_nil]);first|done|rfl|(simp only [List.length_drop,List.length_take];rfl)) ?_;(with_reducible refine (marlinspikelaw05_long.calls k _ _ l0 true _ ?side1 ?side2 A3.out).mono ?_);(case side1 => repeat (first|exact (Kd.C_below HR0.out HB.out)|(with_reducible refine Kd.C_alloc ?_ _)|(with_reducible refine Kd.C_drewN ?_ _)|(with_reducible refine Kd.C_drew ?_)));(case side2 => exact HC0.out);rintro e w' ⟨rfl,⟨nd,rfl⟩⟩;refine ⟨_,rfl,?_⟩)));(go_meet)
   case rel => exact ⟨_,(true),(by first|rfl|(simp;done)|(simp [*];done)),H',⟨by first|omega|exact Nat.le_refl _⟩,⟨by repeat (first|(with_reducible first|exact HB.out|apply below_alloc|apply pw_below_drewN|apply below_drew1)|exact HB.out)⟩⟩
  ·(replace c4:=Bool.eq_false_iff.mpr c4);(subst c4);(have H1 : (marlinspikelaw05_HostBack.j0 k l0 (decide ((l0.length : Int) > 256))) = some r:=by rw [if_neg (show ¬ (false = true) by decide)] at H;exact H);(clear H);(have H:=H1);(clear H1);(have H':=Aside0.mk H);(clear H);(go_wp2_with (first|((with_reducible refine gate_callee (f:=8) rfl ?_);refine goesL_ (some 10) rfl rfl Tryd.func8 (by kernel_rfl) rfl #[.slice A0 l0.length c0] rfl (by (try simp only [List.map_toArray,List.map_cons,List.map_nil]);first|done|rfl|(simp only [List.length_drop,List.length_take];rfl)) ?_;(with_reducible refine (marlinspikelaw05_long.calls k _ _ l0 false _ ?side1 ?side2 A3.out).mono ?_);(case side1 => repeat (first|exact (Kd.C_below HR0.out HB.out)|(with_reducible refine Kd.C_alloc ?_ _)|(with_reducible refine Kd.C_drewN ?_ _)|(with_reducible refine Kd.C_drew ?_)));(case side2 => exact HC0.out);rintro e w' ⟨rfl,⟨nd,rfl⟩⟩;refine ⟨_,rfl,?_⟩)));(go_meet)
   case rel => exact ⟨_,(decide ((l0.length : Int) > 256)),(by first|rfl|(simp;done)|(simp [*];done)),H',⟨by first|omega|exact Nat.le_refl _⟩,⟨by repeat (first|(with_reducible first|exact HB.out|apply below_alloc|apply pw_below_drewN|apply below_drew1)|exact HB.out)⟩⟩
 case rest =>
  (clear HC2);(try clear p2);(try clear c3);(try clear c4);(obtain ⟨kq,x15_1,rfl,HA,HJ1,HB⟩:=hcut)
  cases kq with
 |zero => exact absurd HA.out (by simp [marlinspikelaw05_HostBack.j0])
 |succ kj1 =>
   (have H:=HA.out);(clear HA);(simp only [marlinspikelaw05_HostBack.j0] at H);(by_cases c5 : x15_1 = true);·(subst c5);(have H1 : ((marlinspikelaw05_alive.f kj1).bind fun t409 => (some t409)) = some r:=by rw [if_pos rfl] at H;exact H);(clear H);(have H:=H1);(clear H1);(replace H:=Option.bind_eq_some_iff.mp H);(obtain ⟨t409,A60,H⟩:=H);(replace H : (some t409) = some r:=H);(have A6:=Aside0.mk A60);(clear A60);(obtain rfl:=Option.some.inj H);(go_wp2_with (first|((with_reducible refine gate_callee (f:=9) rfl ?_);refine goesL_ (some 16) rfl rfl Tryd.func9 (by kernel_rfl) rfl #[] rfl (by (try simp only [List.map_toArray,List.map_cons,List.map_nil]);first|done|rfl|(simp only [List.length_drop,List.length_take];rfl)) ?_;(with_reducible refine (marlinspikelaw05_alive.calls kj1  t409 _ A6.out (HG_.out.below (by repeat (first|(with_reducible first|exact HB.out|apply below_alloc|apply pw_below_drewN|apply below_drew1)|exact HB.out)))).mono ?_);rintro e w7 ⟨rfl,hb⟩;refine ⟨_,rfl,?_⟩;have n0_:=Aside0.mk (below_step (by repeat (first|(with_reducible first|exact HB.out|apply below_alloc|apply pw_below_drewN|apply below_drew1)|exact HB.out)) hb);clear HB;have HB:=n0_;clear n0_;(try clear hb);(try clear hb2);(try clear hk);(try clear hi))));(go_ret);(exact ⟨by first|rfl|(simp [errW_none,errW_some] <;> rfl)|(simp [*,errW_none,errW_some] <;> rfl),by repeat (first|(with_reducible first|exact HB.out|apply below_alloc|apply pw_below_drewN|apply below_drew1)|exact HB.out)⟩)
   ·(replace c5:=Bool.eq_false_iff.mpr c5);(subst c5);(have H1 : (marlinspikelaw05_HostBack.l0 kj1 l0 l0 (l0.length : Int) 0) = some r:=by rw [if_neg (show ¬ (false = true) by decide)] at H;exact H);(clear H);(have H:=H1);(clear H1);(have H':=Aside0.mk H);(clear H);(go_wp2);(go_loopg [19] kj1 (fun kq v19 w' => ∃ (x19_2 : Int),v19 = .int .i64 x19_2∧Aside0 (marlinspikelaw05_HostBack.l0 kq l0 l0 (l0.length : Int) x19_2 = some r)∧Aside0 (kq ≤ kj1)∧Aside0 (Below w.heap.size w w')))
    case atStart => exact ⟨(0),(by first|rfl|(simp;done)|(simp [*];done)),H',⟨Nat.le_refl _⟩,⟨by repeat (first|(with_reducible first|exact HB.out|apply below_alloc|apply pw_below_drewN|apply below_drew1)|exact HB.out)⟩⟩
    case round =>
     (clear H');(try clear p2);(try clear c3);(try clear c4);(try clear c5);(try clear p2);(obtain ⟨x19_2,rfl,HA,HK2,HB⟩:=hrel)
     cases gk with
    |zero => exact absurd HA.out (by simp [marlinspikelaw05_HostBack.l0])
    |succ k2 =>
      (have H:=HA.out);(clear HA);(simp only [marlinspikelaw05_HostBack.l0] at H);(by_cases c8 : x19_2 < (l0.length : Int))
      ·(rw [if_pos c8] at H);(have c8b0 : decide (x19_2 < (l0.length : Int)) = true:=decide_eq_true c8);(clear c8);(by_cases c9 : 0 ≤ x19_2)
       ·(rw [if_pos c9] at H);(have c9b0 : decide (0 ≤ x19_2) = true:=decide_eq_true c9);(clear c9);(by_cases c10 : x19_2 < (l0.length : Int))
        ·(rw [if_pos c10] at H);(have c10b0 : decide (x19_2 < (l0.length : Int)) = true:=decide_eq_true c10);(clear c10);(replace H:=Option.bind_eq_some_iff.mp H);(obtain ⟨⟨t411,t414,t415⟩,A110,H⟩:=H);(replace H : (if (!(t414 == 0) || (!(t415 == 0))) = true then ((marlinspikelaw05_alive.f k2).bind fun t417 => (some t417)) else (if (t411.length : Int) = 1 then (if 0 < (t411.length : Int) then (if (rdOf ByteArray.empty t411 0).toList = (rdOf ByteArray.empty l0 x19_2).toList then (marlinspikelaw05_HostBack.l0 k2 l0 l0 (l0.length : Int) (wrap64 (x19_2 + 1))) else ((marlinspikelaw05_alive.f k2).bind fun t419 => (some t419))) else (none)) else ((marlinspikelaw05_alive.f k2).bind fun t420 => (some t420)))) = some r:=H);(have A11:=Aside0.mk A110);(clear A110);(by_cases c12 : (!(t414 == 0) || (!(t415 == 0))) = true)
         ·(rw [if_pos c12] at H);(have c12b0 : (!(t414 == 0) || (!(t415 == 0))) = true:=c12);(clear c12);(replace H:=Option.bind_eq_some_iff.mp H);(obtain ⟨t417,A130,H⟩:=H);(replace H : (some t417) = some r:=H);(have A13:=Aside0.mk A130);(clear A130);(obtain rfl:=Option.some.inj H);(have p410 : 0 ≤ (x19_2 : Int):=of_decide_eq_true (by first|(with_reducible assumption)|assumption));(have q410 : x19_2 < (l0.length : Int):=of_decide_eq_true (by first|(with_reducible assumption)|assumption));(obtain ⟨ad410,e410,hx410_0⟩:=Kd.at_string HR0.out x19_2 p410 q410)
          cases e410
          (replace hx410_0:=(HB.out.cell (World.block_lt_of_cell? w _ hx410_0)).trans hx410_0);(replace p410:=eq_true p410);(replace q410:=eq_true q410);(go_wp2_with (first|((with_reducible refine gate_callee (f:=10) rfl ?_);refine goesL_ (some 25) rfl rfl Tryd.func10 (by kernel_rfl) rfl #[.string (rdOf ByteArray.empty l0 x19_2)] rfl (by (try simp only [List.map_toArray,List.map_cons,List.map_nil]);first|done|rfl|(simp only [List.length_drop,List.length_take];rfl)) ?_;(with_reducible refine (marlinspikeref05_Expand.calls k2 (rdOf ByteArray.empty l0 x19_2) t411 t414 t415 _ A11.out).mono ?_);rintro e w14 ⟨v412,rfl,ho0,hb⟩;refine ⟨_,rfl,?_⟩;have n0_:=Aside0.mk (Kd.R_lower ho0 (below_size (by repeat (first|(with_reducible first|exact HB.out|apply below_alloc|apply pw_below_drewN|apply below_drew1)|exact HB.out))));have n1_:=Aside0.mk (below_step (by repeat (first|(with_reducible first|exact HB.out|apply below_alloc|apply pw_below_drewN|apply below_drew1)|exact HB.out)) hb);clear HB;have HO413:=n0_;have HB:=n1_;clear n0_ n1_;(try clear hb);(try clear hb2);(try clear hk);(try clear hi);(try clear ho0))|((with_reducible refine gate_dst (N:=6) rfl ?_);(try (refine gate_guard (by rfl) ?_;dsimp only));refine box_event ?hg (N:=6) ?hd (cs:=#[.int .i64 0,.int .i64 0]) (t:=27) ?hr ?_;(case hd => rfl);(case hg => rfl);(case hr => first|(go_simp;done)|(go_simp;rfl));intro gb416 hg w15 hbox hb;have n0_:=Aside0.mk (Kd.R_below (by (with_reducible repeat (first|apply Kd.R_alloc|apply Kd.R_drewN|apply Kd.R_drew));exact HO413.out) hb);have n1_:=Aside0.mk (below_step (by repeat (first|(with_reducible first|exact HB.out|apply below_alloc|apply pw_below_drewN|apply below_drew1)|exact HB.out)) hb);have n2_:=Aside0.mk (hbox);have n3_:=Aside0.mk ((by rw [hg];exact (below_size (by repeat (first|(with_reducible first|exact HB.out|apply below_alloc|apply pw_below_drewN|apply below_drew1)|exact HB.out))) : w.heap.size ≤ gb416));have n4_:=Aside0.mk ((by rw [hg];exact (below_size (by repeat (first|(with_reducible first|exact HB.out|apply below_alloc|apply pw_below_drewN|apply below_drew1)|exact HB.out))) : w.heap.size ≤ gb416));clear HO413;clear HB;have HO413:=n0_;have HB:=n1_;have BK416:=n2_;have GW416:=n3_;have GE416:=n4_;clear n0_ n1_ n2_ n3_ n4_;clear hb hbox hg;have hcz16_0 : w15.cell? ⟨gb416,0,none⟩ = some (.int .i64 0):=(blk_cell BK416.out 0).trans rfl;have hcz16_1 : w15.cell? ⟨gb416,1,none⟩ = some (.int .i64 0):=(blk_cell BK416.out 1).trans rfl;have hfz16_0:=blk_frozen BK416.out 0;have hfz16_1:=blk_frozen BK416.out 1)|((with_reducible refine gate_callee (f:=9) rfl ?_);refine goesL_ (some 43) rfl rfl Tryd.func9 (by kernel_rfl) rfl #[] rfl (by (try simp only [List.map_toArray,List.map_cons,List.map_nil]);first|done|rfl|(simp only [List.length_drop,List.length_take];rfl)) ?_;(with_reducible refine (marlinspikelaw05_alive.calls k2  t417 _ A13.out (HG_.out.below (by repeat (first|(with_reducible first|exact HB.out|apply below_alloc|apply pw_below_drewN|apply below_drew1|refine below_set ?_ GE416.out)|exact HB.out)))).mono ?_);rintro e w17 ⟨rfl,hb⟩;refine ⟨_,rfl,?_⟩;have n0_:=Aside0.mk (Kd.R_below (by (with_reducible repeat (first|apply Kd.R_alloc|apply Kd.R_drewN|apply Kd.R_drew));exact (Kd.R_mono (Kd.R_far (p:=⟨gb416,1,none⟩) (Kd.R_far (p:=⟨gb416,0,none⟩) (Kd.R_types HO413.out BK416.out (by decide)) (fun _ hk => hk.2) (.int .i64 t414)) (fun _ hk => hk.2) (.int .i64 t415)) (fun _ h_ => h_.1))) hb);have n1_:=Aside0.mk (blk_below (g:=gb416) (o:=.cells #[.int .i64 t414,.int .i64 t415] 27 (0,0)) (by (with_reducible repeat (first|refine blk_drewN ?_ _|refine blk_drew ?_|refine blk_alloc ?_ _));refine blk_put (cs:=#[.int .i64 t414,.int .i64 0]) ?_ 1 _ rfl;(with_reducible repeat (first|refine blk_drewN ?_ _|refine blk_drew ?_|refine blk_alloc ?_ _));refine blk_put (cs:=#[.int .i64 0,.int .i64 0]) ?_ 0 _ rfl;(with_reducible repeat (first|refine blk_drewN ?_ _|refine blk_drew ?_|refine blk_alloc ?_ _));exact BK416.out) hb);have n2_:=Aside0.mk (below_step (by repeat (first|(with_reducible first|exact HB.out|apply below_alloc|apply pw_below_drewN|apply below_drew1|refine below_set ?_ GE416.out)|exact HB.out)) hb);clear HO413;clear BK416;clear HB;have HO413:=n0_;have BK416:=n1_;have HB:=n2_;clear n0_ n1_ n2_;(try clear hb);(try clear hb2);(try clear hk);(try clear hi))));(go_ret);(exact ⟨by first|rfl|(simp [errW_none,errW_some] <;> rfl)|(simp [*,errW_none,errW_some] <;> rfl),by repeat (first|(with_reducible first|exact HB.out|apply below_alloc|apply pw_below_drewN|apply below_drew1|refine below_set ?_ GE416.out)|exact HB.out)⟩)
         ·(rw [if_neg c12] at H);(have c12b0 : (!(t414 == 0) || (!(t415 == 0))) = false:=by simpa using c12);(clear c12);(by_cases c18 : (t411.length : Int) = 1)
          ·(rw [if_pos c18] at H);(have c18b0 : ((t411.length : Int) == 1) = true:=beq_iff_eq.mpr c18);(have c18b1 : ((t411.length : Int) != 1) = false:=bne_eq_false_iff_eq.mpr c18);(clear c18);(by_cases c19 : 0 < (t411.length : Int))
           ·(rw [if_pos c19] at H);(have c19b0 : decide (0 < (t411.length : Int)) = true:=decide_eq_true c19);(have c19b1 : decide (0 < t411.length) = true:=decide_eq_true (by omega));(clear c19);(by_cases c20 : (rdOf ByteArray.empty t411 0).toList = (rdOf ByteArray.empty l0 x19_2).toList)
            ·(rw [if_pos c20] at H);(have c20b0 : ((rdOf ByteArray.empty t411 0).toList == (rdOf ByteArray.empty l0 x19_2).toList) = true:=beq_iff_eq.mpr c20);(have c20b1 : ((rdOf ByteArray.empty t411 0).toList != (rdOf ByteArray.empty l0 x19_2).toList) = false:=bne_eq_false_iff_eq.mpr c20);(clear c20);(have H':=Aside0.mk H);(clear H);(have p410 : 0 ≤ (x19_2 : Int):=of_decide_eq_true (by first|(with_reducible assumption)|assumption));(have q410 : x19_2 < (l0.length : Int):=of_decide_eq_true (by first|(with_reducible assumption)|assumption));(obtain ⟨ad410,e410,hx410_0⟩:=Kd.at_string HR0.out x19_2 p410 q410)
             cases e410
             (replace hx410_0:=(HB.out.cell (World.block_lt_of_cell? w _ hx410_0)).trans hx410_0);(replace p410:=eq_true p410);(replace q410:=eq_true q410);(go_wp2_with (first|((with_reducible refine gate_callee (f:=10) rfl ?_);refine goesL_ (some 25) rfl rfl Tryd.func10 (by kernel_rfl) rfl #[.string (rdOf ByteArray.empty l0 x19_2)] rfl (by (try simp only [List.map_toArray,List.map_cons,List.map_nil]);first|done|rfl|(simp only [List.length_drop,List.length_take];rfl)) ?_;(with_reducible refine (marlinspikeref05_Expand.calls k2 (rdOf ByteArray.empty l0 x19_2) t411 t414 t415 _ A11.out).mono ?_);rintro e w21 ⟨v412,rfl,ho0,hb⟩;refine ⟨_,rfl,?_⟩;have n0_:=Aside0.mk (Kd.R_lower ho0 (below_size (by repeat (first|(with_reducible first|exact HB.out|apply below_alloc|apply pw_below_drewN|apply below_drew1)|exact HB.out))));have n1_:=Aside0.mk (below_step (by repeat (first|(with_reducible first|exact HB.out|apply below_alloc|apply pw_below_drewN|apply below_drew1)|exact HB.out)) hb);clear HB;have HO413:=n0_;have HB:=n1_;clear n0_ n1_;(try clear hb);(try clear hb2);(try clear hk);(try clear hi);(try clear ho0))|((with_reducible refine gate_dst (N:=6) rfl ?_);(try (refine gate_guard (by rfl) ?_;dsimp only));refine box_event ?hg (N:=6) ?hd (cs:=#[.int .i64 0,.int .i64 0]) (t:=27) ?hr ?_;(case hd => rfl);(case hg => rfl);(case hr => first|(go_simp;done)|(go_simp;rfl));intro gb416 hg w22 hbox hb;have n0_:=Aside0.mk (Kd.R_below (by (with_reducible repeat (first|apply Kd.R_alloc|apply Kd.R_drewN|apply Kd.R_drew));exact HO413.out) hb);have n1_:=Aside0.mk (below_step (by repeat (first|(with_reducible first|exact HB.out|apply below_alloc|apply pw_below_drewN|apply below_drew1)|exact HB.out)) hb);have n2_:=Aside0.mk (hbox);have n3_:=Aside0.mk ((by rw [hg];exact (below_size (by repeat (first|(with_reducible first|exact HB.out|apply below_alloc|apply pw_below_drewN|apply below_drew1)|exact HB.out))) : w.heap.size ≤ gb416));have n4_:=Aside0.mk ((by rw [hg];exact (below_size (by repeat (first|(with_reducible first|exact HB.out|apply below_alloc|apply pw_below_drewN|apply below_drew1)|exact HB.out))) : w.heap.size ≤ gb416));clear HO413;clear HB;have HO413:=n0_;have HB:=n1_;have BK416:=n2_;have GW416:=n3_;have GE416:=n4_;clear n0_ n1_ n2_ n3_ n4_;clear hb hbox hg;have hcz23_0 : w22.cell? ⟨gb416,0,none⟩ = some (.int .i64 0):=(blk_cell BK416.out 0).trans rfl;have hcz23_1 : w22.cell? ⟨gb416,1,none⟩ = some (.int .i64 0):=(blk_cell BK416.out 1).trans rfl;have hfz23_0:=blk_frozen BK416.out 0;have hfz23_1:=blk_frozen BK416.out 1;obtain ⟨Ao24,co24,eo24⟩:=Kd.R_slice HO413.out;subst eo24;have p418 : 0 ≤ (0 : Int):=(by omega);have q418 : 0 < (t411.length : Int):=of_decide_eq_true (by first|(with_reducible assumption)|assumption);obtain ⟨ad418,e418,hx418_0⟩:=Kd.at_string (Kd.R_reads' HO413.out).2.2 0 p418 q418;cases e418;have qi418 : (0 < t411.length) = True:=eq_true (by omega);(try rw [show ((0 : Int)).toNat = 0 from rfl] at hx418_0);(try rw [Addr.add_zero'] at hx418_0);have hn418_0 : ad418.block ≠ gb416:=Kd.own_blk (Kd.R_ne HO413.out BK416.out (by decide));have hn418_1 : ad418.block ≠ gb416:=Kd.own_blk (Kd.R_ne HO413.out BK416.out (by decide));replace hx418_0:=(cell_far (p:=⟨gb416,0,none⟩) (by first|(rw [add_block];exact hn418_0)|(show (Addr.add _ _).block ≠ _;rw [add_block];exact hn418_0)|exact hn418_0) (.int .i64 t414)).trans hx418_0;replace hx418_0:=(cell_far (p:=⟨gb416,1,none⟩) (by first|(rw [add_block];exact hn418_1)|(show (Addr.add _ _).block ≠ _;rw [add_block];exact hn418_1)|exact hn418_1) (.int .i64 t415)).trans hx418_0;clear hn418_0;clear hn418_1;replace p418:=eq_true p418;replace q418:=eq_true q418)));(go_roundg k2)
             case measure => have:=HJ1.out;have:=HK2.out;omega
             case rel => exact ⟨(wrap64 (x19_2 + 1)),(by first|rfl|(simp;done)|(simp [*];done)),H',⟨by have:=HJ1.out;have:=HK2.out;omega⟩,⟨by repeat (first|(with_reducible first|exact HB.out|apply below_alloc|apply pw_below_drewN|apply below_drew1|refine below_set ?_ GE416.out)|exact HB.out)⟩⟩
            ·(rw [if_neg c20] at H);(have c20b0 : ((rdOf ByteArray.empty t411 0).toList == (rdOf ByteArray.empty l0 x19_2).toList) = false:=beq_eq_false_iff_ne.mpr c20);(have c20b1 : ((rdOf ByteArray.empty t411 0).toList != (rdOf ByteArray.empty l0 x19_2).toList) = true:=bne_iff_ne.mpr c20);(replace H:=Option.bind_eq_some_iff.mp H);(obtain ⟨t419,A250,H⟩:=H);(replace H : (some t419) = some r:=H);(have A25:=Aside0.mk A250);(clear A250);(obtain rfl:=Option.some.inj H);(have p410 : 0 ≤ (x19_2 : Int):=of_decide_eq_true (by first|(with_reducible assumption)|assumption));(have q410 : x19_2 < (l0.length : Int):=of_decide_eq_true (by first|(with_reducible assumption)|assumption));(obtain ⟨ad410,e410,hx410_0⟩:=Kd.at_string HR0.out x19_2 p410 q410)
             cases e410
             (replace hx410_0:=(HB.out.cell (World.block_lt_of_cell? w _ hx410_0)).trans hx410_0);(replace p410:=eq_true p410);(replace q410:=eq_true q410);(go_wp2_with (first|((with_reducible refine gate_callee (f:=10) rfl ?_);refine goesL_ (some 25) rfl rfl Tryd.func10 (by kernel_rfl) rfl #[.string (rdOf ByteArray.empty l0 x19_2)] rfl (by (try simp only [List.map_toArray,List.map_cons,List.map_nil]);first|done|rfl|(simp only [List.length_drop,List.length_take];rfl)) ?_;(with_reducible refine (marlinspikeref05_Expand.calls k2 (rdOf ByteArray.empty l0 x19_2) t411 t414 t415 _ A11.out).mono ?_);rintro e w26 ⟨v412,rfl,ho0,hb⟩;refine ⟨_,rfl,?_⟩;have n0_:=Aside0.mk (Kd.R_lower ho0 (below_size (by repeat (first|(with_reducible first|exact HB.out|apply below_alloc|apply pw_below_drewN|apply below_drew1)|exact HB.out))));have n1_:=Aside0.mk (below_step (by repeat (first|(with_reducible first|exact HB.out|apply below_alloc|apply pw_below_drewN|apply below_drew1)|exact HB.out)) hb);clear HB;have HO413:=n0_;have HB:=n1_;clear n0_ n1_;(try clear hb);(try clear hb2);(try clear hk);(try clear hi);(try clear ho0))|((with_reducible refine gate_dst (N:=6) rfl ?_);(try (refine gate_guard (by rfl) ?_;dsimp only));refine box_event ?hg (N:=6) ?hd (cs:=#[.int .i64 0,.int .i64 0]) (t:=27) ?hr ?_;(case hd => rfl);(case hg => rfl);(case hr => first|(go_simp;done)|(go_simp;rfl));intro gb416 hg w27 hbox hb;have n0_:=Aside0.mk (Kd.R_below (by (with_reducible repeat (first|apply Kd.R_alloc|apply Kd.R_drewN|apply Kd.R_drew));exact HO413.out) hb);have n1_:=Aside0.mk (below_step (by repeat (first|(with_reducible first|exact HB.out|apply below_alloc|apply pw_below_drewN|apply below_drew1)|exact HB.out)) hb);have n2_:=Aside0.mk (hbox);have n3_:=Aside0.mk ((by rw [hg];exact (below_size (by repeat (first|(with_reducible first|exact HB.out|apply below_alloc|apply pw_below_drewN|apply below_drew1)|exact HB.out))) : w.heap.size ≤ gb416));have n4_:=Aside0.mk ((by rw [hg];exact (below_size (by repeat (first|(with_reducible first|exact HB.out|apply below_alloc|apply pw_below_drewN|apply below_drew1)|exact HB.out))) : w.heap.size ≤ gb416));clear HO413;clear HB;have HO413:=n0_;have HB:=n1_;have BK416:=n2_;have GW416:=n3_;have GE416:=n4_;clear n0_ n1_ n2_ n3_ n4_;clear hb hbox hg;have hcz28_0 : w27.cell? ⟨gb416,0,none⟩ = some (.int .i64 0):=(blk_cell BK416.out 0).trans rfl;have hcz28_1 : w27.cell? ⟨gb416,1,none⟩ = some (.int .i64 0):=(blk_cell BK416.out 1).trans rfl;have hfz28_0:=blk_frozen BK416.out 0;have hfz28_1:=blk_frozen BK416.out 1;obtain ⟨Ao29,co29,eo29⟩:=Kd.R_slice HO413.out;subst eo29;have p418 : 0 ≤ (0 : Int):=(by omega);have q418 : 0 < (t411.length : Int):=of_decide_eq_true (by first|(with_reducible assumption)|assumption);obtain ⟨ad418,e418,hx418_0⟩:=Kd.at_string (Kd.R_reads' HO413.out).2.2 0 p418 q418;cases e418;have qi418 : (0 < t411.length) = True:=eq_true (by omega);(try rw [show ((0 : Int)).toNat = 0 from rfl] at hx418_0);(try rw [Addr.add_zero'] at hx418_0);have hn418_0 : ad418.block ≠ gb416:=Kd.own_blk (Kd.R_ne HO413.out BK416.out (by decide));have hn418_1 : ad418.block ≠ gb416:=Kd.own_blk (Kd.R_ne HO413.out BK416.out (by decide));replace hx418_0:=(cell_far (p:=⟨gb416,0,none⟩) (by first|(rw [add_block];exact hn418_0)|(show (Addr.add _ _).block ≠ _;rw [add_block];exact hn418_0)|exact hn418_0) (.int .i64 t414)).trans hx418_0;replace hx418_0:=(cell_far (p:=⟨gb416,1,none⟩) (by first|(rw [add_block];exact hn418_1)|(show (Addr.add _ _).block ≠ _;rw [add_block];exact hn418_1)|exact hn418_1) (.int .i64 t415)).trans hx418_0;clear hn418_0;clear hn418_1;replace p418:=eq_true p418;replace q418:=eq_true q418)|((with_reducible refine gate_callee (f:=9) rfl ?_);refine goesL_ (some 43) rfl rfl Tryd.func9 (by kernel_rfl) rfl #[] rfl (by (try simp only [List.map_toArray,List.map_cons,List.map_nil]);first|done|rfl|(simp only [List.length_drop,List.length_take];rfl)) ?_;(with_reducible refine (marlinspikelaw05_alive.calls k2  t419 _ A25.out (HG_.out.below (by repeat (first|(with_reducible first|exact HB.out|apply below_alloc|apply pw_below_drewN|apply below_drew1|refine below_set ?_ GE416.out)|exact HB.out)))).mono ?_);rintro e w30 ⟨rfl,hb⟩;refine ⟨_,rfl,?_⟩;have n0_:=Aside0.mk (Kd.R_below (by (with_reducible repeat (first|apply Kd.R_alloc|apply Kd.R_drewN|apply Kd.R_drew));exact (Kd.R_mono (Kd.R_far (p:=⟨gb416,1,none⟩) (Kd.R_far (p:=⟨gb416,0,none⟩) (Kd.R_types HO413.out BK416.out (by decide)) (fun _ hk => hk.2) (.int .i64 t414)) (fun _ hk => hk.2) (.int .i64 t415)) (fun _ h_ => h_.1))) hb);have n1_:=Aside0.mk (blk_below (g:=gb416) (o:=.cells #[.int .i64 t414,.int .i64 t415] 27 (0,0)) (by (with_reducible repeat (first|refine blk_drewN ?_ _|refine blk_drew ?_|refine blk_alloc ?_ _));refine blk_put (cs:=#[.int .i64 t414,.int .i64 0]) ?_ 1 _ rfl;(with_reducible repeat (first|refine blk_drewN ?_ _|refine blk_drew ?_|refine blk_alloc ?_ _));refine blk_put (cs:=#[.int .i64 0,.int .i64 0]) ?_ 0 _ rfl;(with_reducible repeat (first|refine blk_drewN ?_ _|refine blk_drew ?_|refine blk_alloc ?_ _));exact BK416.out) hb);have n2_:=Aside0.mk (below_step (by repeat (first|(with_reducible first|exact HB.out|apply below_alloc|apply pw_below_drewN|apply below_drew1|refine below_set ?_ GE416.out)|exact HB.out)) hb);clear HO413;clear BK416;clear HB;have HO413:=n0_;have BK416:=n1_;have HB:=n2_;clear n0_ n1_ n2_;(try clear hb);(try clear hb2);(try clear hk);(try clear hi))));(go_ret);(exact ⟨by first|rfl|(simp [errW_none,errW_some] <;> rfl)|(simp [*,errW_none,errW_some] <;> rfl),by repeat (first|(with_reducible first|exact HB.out|apply below_alloc|apply pw_below_drewN|apply below_drew1|refine below_set ?_ GE416.out)|exact HB.out)⟩)
           ·(rw [if_neg c19] at H);(exact absurd H (by simp))
          ·(rw [if_neg c18] at H);(have c18b0 : ((t411.length : Int) == 1) = false:=beq_eq_false_iff_ne.mpr c18);(have c18b1 : ((t411.length : Int) != 1) = true:=bne_iff_ne.mpr c18);(replace H:=Option.bind_eq_some_iff.mp H);(obtain ⟨t420,A310,H⟩:=H);(replace H : (some t420) = some r:=H);(have A31:=Aside0.mk A310);(clear A310);(obtain rfl:=Option.some.inj H);(have p410 : 0 ≤ (x19_2 : Int):=of_decide_eq_true (by first|(with_reducible assumption)|assumption));(have q410 : x19_2 < (l0.length : Int):=of_decide_eq_true (by first|(with_reducible assumption)|assumption));(obtain ⟨ad410,e410,hx410_0⟩:=Kd.at_string HR0.out x19_2 p410 q410)
           cases e410
           (replace hx410_0:=(HB.out.cell (World.block_lt_of_cell? w _ hx410_0)).trans hx410_0);(replace p410:=eq_true p410);(replace q410:=eq_true q410);(go_wp2_with (first|((with_reducible refine gate_callee (f:=10) rfl ?_);refine goesL_ (some 25) rfl rfl Tryd.func10 (by kernel_rfl) rfl #[.string (rdOf ByteArray.empty l0 x19_2)] rfl (by (try simp only [List.map_toArray,List.map_cons,List.map_nil]);first|done|rfl|(simp only [List.length_drop,List.length_take];rfl)) ?_;(with_reducible refine (marlinspikeref05_Expand.calls k2 (rdOf ByteArray.empty l0 x19_2) t411 t414 t415 _ A11.out).mono ?_);rintro e w32 ⟨v412,rfl,ho0,hb⟩;refine ⟨_,rfl,?_⟩;have n0_:=Aside0.mk (Kd.R_lower ho0 (below_size (by repeat (first|(with_reducible first|exact HB.out|apply below_alloc|apply pw_below_drewN|apply below_drew1)|exact HB.out))));have n1_:=Aside0.mk (below_step (by repeat (first|(with_reducible first|exact HB.out|apply below_alloc|apply pw_below_drewN|apply below_drew1)|exact HB.out)) hb);clear HB;have HO413:=n0_;have HB:=n1_;clear n0_ n1_;(try clear hb);(try clear hb2);(try clear hk);(try clear hi);(try clear ho0))|((with_reducible refine gate_dst (N:=6) rfl ?_);(try (refine gate_guard (by rfl) ?_;dsimp only));refine box_event ?hg (N:=6) ?hd (cs:=#[.int .i64 0,.int .i64 0]) (t:=27) ?hr ?_;(case hd => rfl);(case hg => rfl);(case hr => first|(go_simp;done)|(go_simp;rfl));intro gb416 hg w33 hbox hb;have n0_:=Aside0.mk (Kd.R_below (by (with_reducible repeat (first|apply Kd.R_alloc|apply Kd.R_drewN|apply Kd.R_drew));exact HO413.out) hb);have n1_:=Aside0.mk (below_step (by repeat (first|(with_reducible first|exact HB.out|apply below_alloc|apply pw_below_drewN|apply below_drew1)|exact HB.out)) hb);have n2_:=Aside0.mk (hbox);have n3_:=Aside0.mk ((by rw [hg];exact (below_size (by repeat (first|(with_reducible first|exact HB.out|apply below_alloc|apply pw_below_drewN|apply below_drew1)|exact HB.out))) : w.heap.size ≤ gb416));have n4_:=Aside0.mk ((by rw [hg];exact (below_size (by repeat (first|(with_reducible first|exact HB.out|apply below_alloc|apply pw_below_drewN|apply below_drew1)|exact HB.out))) : w.heap.size ≤ gb416));clear HO413;clear HB;have HO413:=n0_;have HB:=n1_;have BK416:=n2_;have GW416:=n3_;have GE416:=n4_;clear n0_ n1_ n2_ n3_ n4_;clear hb hbox hg;have hcz34_0 : w33.cell? ⟨gb416,0,none⟩ = some (.int .i64 0):=(blk_cell BK416.out 0).trans rfl;have hcz34_1 : w33.cell? ⟨gb416,1,none⟩ = some (.int .i64 0):=(blk_cell BK416.out 1).trans rfl;have hfz34_0:=blk_frozen BK416.out 0;have hfz34_1:=blk_frozen BK416.out 1;obtain ⟨Ao35,co35,eo35⟩:=Kd.R_slice HO413.out;subst eo35)|((with_reducible refine gate_callee (f:=9) rfl ?_);refine goesL_ (some 43) rfl rfl Tryd.func9 (by kernel_rfl) rfl #[] rfl (by (try simp only [List.map_toArray,List.map_cons,List.map_nil]);first|done|rfl|(simp only [List.length_drop,List.length_take];rfl)) ?_;(with_reducible refine (marlinspikelaw05_alive.calls k2  t420 _ A31.out (HG_.out.below (by repeat (first|(with_reducible first|exact HB.out|apply below_alloc|apply pw_below_drewN|apply below_drew1|refine below_set ?_ GE416.out)|exact HB.out)))).mono ?_);rintro e w36 ⟨rfl,hb⟩;refine ⟨_,rfl,?_⟩;have n0_:=Aside0.mk (Kd.R_below (by (with_reducible repeat (first|apply Kd.R_alloc|apply Kd.R_drewN|apply Kd.R_drew));exact (Kd.R_mono (Kd.R_far (p:=⟨gb416,1,none⟩) (Kd.R_far (p:=⟨gb416,0,none⟩) (Kd.R_types HO413.out BK416.out (by decide)) (fun _ hk => hk.2) (.int .i64 t414)) (fun _ hk => hk.2) (.int .i64 t415)) (fun _ h_ => h_.1))) hb);have n1_:=Aside0.mk (blk_below (g:=gb416) (o:=.cells #[.int .i64 t414,.int .i64 t415] 27 (0,0)) (by (with_reducible repeat (first|refine blk_drewN ?_ _|refine blk_drew ?_|refine blk_alloc ?_ _));refine blk_put (cs:=#[.int .i64 t414,.int .i64 0]) ?_ 1 _ rfl;(with_reducible repeat (first|refine blk_drewN ?_ _|refine blk_drew ?_|refine blk_alloc ?_ _));refine blk_put (cs:=#[.int .i64 0,.int .i64 0]) ?_ 0 _ rfl;(with_reducible repeat (first|refine blk_drewN ?_ _|refine blk_drew ?_|refine blk_alloc ?_ _));exact BK416.out) hb);have n2_:=Aside0.mk (below_step (by repeat (first|(with_reducible first|exact HB.out|apply below_alloc|apply pw_below_drewN|apply below_drew1|refine below_set ?_ GE416.out)|exact HB.out)) hb);clear HO413;clear BK416;clear HB;have HO413:=n0_;have BK416:=n1_;have HB:=n2_;clear n0_ n1_ n2_;(try clear hb);(try clear hb2);(try clear hk);(try clear hi))));(go_ret);(exact ⟨by first|rfl|(simp [errW_none,errW_some] <;> rfl)|(simp [*,errW_none,errW_some] <;> rfl),by repeat (first|(with_reducible first|exact HB.out|apply below_alloc|apply pw_below_drewN|apply below_drew1|refine below_set ?_ GE416.out)|exact HB.out)⟩)
        ·(rw [if_neg c10] at H);(exact absurd H (by simp))
       ·(rw [if_neg c9] at H);(exact absurd H (by simp))
      ·(rw [if_neg c8] at H);(have c8b0 : decide (x19_2 < (l0.length : Int)) = false:=decide_eq_false c8);(clear c8);(replace H:=Option.bind_eq_some_iff.mp H);(obtain ⟨t421,A370,H⟩:=H);(replace H : ((host_Expand.f k2 t421).bind fun bt422 => (if (bt422.2.1 == 0 && (bt422.2.2 == 0)) = true then ((marlinspikeref05_Same.f k2 bt422.1 l0).bind fun t428 => (if t428 = true then ((marlinspikelaw05_alive.f k2).bind fun t429 => (some t429)) else (some false))) else (some false))) = some r:=H);(have A37:=Aside0.mk A370);(clear A370);(replace H:=Option.bind_eq_some_iff.mp H);(obtain ⟨⟨t422,t425,t426⟩,A380,H⟩:=H);(replace H : (if (t425 == 0 && (t426 == 0)) = true then ((marlinspikeref05_Same.f k2 t422 l0).bind fun t428 => (if t428 = true then ((marlinspikelaw05_alive.f k2).bind fun t429 => (some t429)) else (some false))) else (some false)) = some r:=H);(have A38:=Aside0.mk A380);(clear A380);(by_cases c39 : (t425 == 0 && (t426 == 0)) = true)
       ·(rw [if_pos c39] at H);(have c39b0 : (t425 == 0 && (t426 == 0)) = true:=c39);((try (have c39b1 : decide (t425 = 0 && (t426 == 0)) = true:=by simpa using c39)));((try (have c39b2 : (t425 == 0 && (t426 == 0)) = true:=by simpa using c39)));(clear c39);(replace H:=Option.bind_eq_some_iff.mp H);(obtain ⟨t428,A400,H⟩:=H);(replace H : (if t428 = true then ((marlinspikelaw05_alive.f k2).bind fun t429 => (some t429)) else (some false)) = some r:=H);(have A40:=Aside0.mk A400);(clear A400);(by_cases c41 : t428 = true)
        ·(subst c41);(have H1 : ((marlinspikelaw05_alive.f k2).bind fun t429 => (some t429)) = some r:=by rw [if_pos rfl] at H;exact H);(clear H);(have H:=H1);(clear H1);(replace H:=Option.bind_eq_some_iff.mp H);(obtain ⟨t429,A420,H⟩:=H);(replace H : (some t429) = some r:=H);(have A42:=Aside0.mk A420);(clear A420);(obtain rfl:=Option.some.inj H);(go_wp2_with (first|((with_reducible refine gate_callee (f:=12) rfl ?_);refine goesL_ (some 47) rfl rfl Tryd.func12 (by kernel_rfl) rfl #[.slice A0 l0.length c0] rfl (by (try simp only [List.map_toArray,List.map_cons,List.map_nil]);first|done|rfl|(simp only [List.length_drop,List.length_take];rfl)) ?_;(with_reducible refine (host_Compress.calls k2 (fun k_ => k_ < w.heap.size) _ _ l0 t421 _ ?side1 A37.out (HG_.out.below (by repeat (first|(with_reducible first|exact HB.out|apply below_alloc|apply pw_below_drewN|apply below_drew1)|exact HB.out)))).mono ?_);(case side1 => exact Kd.V_mk HC0.out (Kd.F_below (Kd.C_F Kd.heap_string HR0.out) (by repeat (first|(with_reducible first|exact HB.out|apply below_alloc|apply pw_below_drewN|apply below_drew1)|exact HB.out))));rintro e w43 ⟨rfl,hb⟩;refine ⟨_,rfl,?_⟩;have n0_:=Aside0.mk (below_step (by repeat (first|(with_reducible first|exact HB.out|apply below_alloc|apply pw_below_drewN|apply below_drew1)|exact HB.out)) hb);clear HB;have HB:=n0_;clear n0_;(try clear hb);(try clear hb2);(try clear hk);(try clear hi))|((with_reducible refine gate_callee (f:=11) rfl ?_);refine goesL_ (some 48) rfl rfl Tryd.func11 (by kernel_rfl) rfl #[.string t421] rfl (by (try simp only [List.map_toArray,List.map_cons,List.map_nil]);first|done|rfl|(simp only [List.length_drop,List.length_take];rfl)) ?_;(with_reducible refine (host_Expand.calls k2 t421 t422 t425 t426 _ A38.out (HG_.out.below (by repeat (first|(with_reducible first|exact HB.out|apply below_alloc|apply pw_below_drewN|apply below_drew1)|exact HB.out)))).mono ?_);rintro e w44 ⟨v423,rfl,ho0,hb⟩;refine ⟨_,rfl,?_⟩;have n0_:=Aside0.mk (Kd.R_lower ho0 (below_size (by repeat (first|(with_reducible first|exact HB.out|apply below_alloc|apply pw_below_drewN|apply below_drew1)|exact HB.out))));have n1_:=Aside0.mk (below_step (by repeat (first|(with_reducible first|exact HB.out|apply below_alloc|apply pw_below_drewN|apply below_drew1)|exact HB.out)) hb);clear HB;have HO424:=n0_;have HB:=n1_;clear n0_ n1_;(try clear hb);(try clear hb2);(try clear hk);(try clear hi);(try clear ho0))|((with_reducible refine gate_dst (N:=8) rfl ?_);(try (refine gate_guard (by rfl) ?_;dsimp only));refine box_event ?hg (N:=8) ?hd (cs:=#[.int .i64 0,.int .i64 0]) (t:=27) ?hr ?_;(case hd => rfl);(case hg => rfl);(case hr => first|(go_simp;done)|(go_simp;rfl));intro gb427 hg w45 hbox hb;have n0_:=Aside0.mk (Kd.R_below (by (with_reducible repeat (first|apply Kd.R_alloc|apply Kd.R_drewN|apply Kd.R_drew));exact HO424.out) hb);have n1_:=Aside0.mk (below_step (by repeat (first|(with_reducible first|exact HB.out|apply below_alloc|apply pw_below_drewN|apply below_drew1)|exact HB.out)) hb);have n2_:=Aside0.mk (hbox);have n3_:=Aside0.mk ((by rw [hg];exact (below_size (by repeat (first|(with_reducible first|exact HB.out|apply below_alloc|apply pw_below_drewN|apply below_drew1)|exact HB.out))) : w.heap.size ≤ gb427));have n4_:=Aside0.mk ((by rw [hg];exact (below_size (by repeat (first|(with_reducible first|exact HB.out|apply below_alloc|apply pw_below_drewN|apply below_drew1)|exact HB.out))) : w.heap.size ≤ gb427));clear HO424;clear HB;have HO424:=n0_;have HB:=n1_;have BK427:=n2_;have GW427:=n3_;have GE427:=n4_;clear n0_ n1_ n2_ n3_ n4_;clear hb hbox hg;have hcz46_0 : w45.cell? ⟨gb427,0,none⟩ = some (.int .i64 0):=(blk_cell BK427.out 0).trans rfl;have hcz46_1 : w45.cell? ⟨gb427,1,none⟩ = some (.int .i64 0):=(blk_cell BK427.out 1).trans rfl;have hfz46_0:=blk_frozen BK427.out 0;have hfz46_1:=blk_frozen BK427.out 1;obtain ⟨Ao47,co47,eo47⟩:=Kd.R_slice HO424.out;subst eo47)|(go_at_call 13;(with_reducible refine (marlinspikeref05_Same.calls k2 _ _ t422 _ _ l0 true _ ?side1 ?side2 ?side3 ?side4 A40.out).mono ?_);(case side1 => refine (Kd.R_reads' (e:=9) (base:=w.heap.size) (ok:=fun k_ => True) (n:=t422.length) (c:=co47) ?_).2.2;exact (by (with_reducible repeat (first|apply Kd.R_alloc|apply Kd.R_drewN|apply Kd.R_drew));exact (Kd.R_mono (Kd.R_far (p:=⟨gb427,1,none⟩) (Kd.R_far (p:=⟨gb427,0,none⟩) (Kd.R_types HO424.out BK427.out (by decide)) (fun _ hk => hk.2) (.int .i64 t425)) (fun _ hk => hk.2) (.int .i64 t426)) (fun _ h_ => h_.1))));(case side2 => exact (Kd.R_reads' HO424.out).2.1);(case side3 => exact Kd.C_below HR0.out (by repeat (first|(with_reducible first|exact HB.out|apply below_alloc|apply pw_below_drewN|apply below_drew1|refine below_set ?_ GE427.out)|exact HB.out)));(case side4 => exact HC0.out);rintro e w' ⟨rfl,⟨nd,rfl⟩⟩)|(go_at_call 9;(with_reducible refine (marlinspikelaw05_alive.calls k2  t429 _ A42.out (HG_.out.below (by repeat (first|(with_reducible first|exact HB.out|apply below_alloc|apply pw_below_drewN|apply below_drew1|refine below_set ?_ GE427.out)|exact HB.out)))).mono ?_);rintro e w48 ⟨rfl,hb⟩;have n0_:=Aside0.mk (Kd.R_below (by (with_reducible repeat (first|apply Kd.R_alloc|apply Kd.R_drewN|apply Kd.R_drew));exact (Kd.R_mono (Kd.R_far (p:=⟨gb427,1,none⟩) (Kd.R_far (p:=⟨gb427,0,none⟩) (Kd.R_types HO424.out BK427.out (by decide)) (fun _ hk => hk.2) (.int .i64 t425)) (fun _ hk => hk.2) (.int .i64 t426)) (fun _ h_ => h_.1))) hb);have n1_:=Aside0.mk (blk_below (g:=gb427) (o:=.cells #[.int .i64 t425,.int .i64 t426] 27 (0,0)) (by (with_reducible repeat (first|refine blk_drewN ?_ _|refine blk_drew ?_|refine blk_alloc ?_ _));refine blk_put (cs:=#[.int .i64 t425,.int .i64 0]) ?_ 1 _ rfl;(with_reducible repeat (first|refine blk_drewN ?_ _|refine blk_drew ?_|refine blk_alloc ?_ _));refine blk_put (cs:=#[.int .i64 0,.int .i64 0]) ?_ 0 _ rfl;(with_reducible repeat (first|refine blk_drewN ?_ _|refine blk_drew ?_|refine blk_alloc ?_ _));exact BK427.out) hb);have n2_:=Aside0.mk (below_step (by repeat (first|(with_reducible first|exact HB.out|apply below_alloc|apply pw_below_drewN|apply below_drew1|refine below_set ?_ GE427.out)|exact HB.out)) hb);clear HO424;clear BK427;clear HB;have HO424:=n0_;have BK427:=n1_;have HB:=n2_;clear n0_ n1_ n2_;(try clear hb);(try clear hb2);(try clear hk);(try clear hi))));(go_ret);(exact ⟨by first|rfl|(simp [errW_none,errW_some] <;> rfl)|(simp [*,errW_none,errW_some] <;> rfl),by repeat (first|(with_reducible first|exact HB.out|apply below_alloc|apply pw_below_drewN|apply below_drew1|refine below_set ?_ GE427.out)|exact HB.out)⟩)
        ·(replace c41:=Bool.eq_false_iff.mpr c41);(subst c41);(have H1 : (some false) = some r:=by rw [if_neg (show ¬ (false = true) by decide)] at H;exact H);(clear H);(have H:=H1);(clear H1);(obtain rfl:=Option.some.inj H);(go_wp2_with (first|((with_reducible refine gate_callee (f:=12) rfl ?_);refine goesL_ (some 47) rfl rfl Tryd.func12 (by kernel_rfl) rfl #[.slice A0 l0.length c0] rfl (by (try simp only [List.map_toArray,List.map_cons,List.map_nil]);first|done|rfl|(simp only [List.length_drop,List.length_take];rfl)) ?_;(with_reducible refine (host_Compress.calls k2 (fun k_ => k_ < w.heap.size) _ _ l0 t421 _ ?side1 A37.out (HG_.out.below (by repeat (first|(with_reducible first|exact HB.out|apply below_alloc|apply pw_below_drewN|apply below_drew1)|exact HB.out)))).mono ?_);(case side1 => exact Kd.V_mk HC0.out (Kd.F_below (Kd.C_F Kd.heap_string HR0.out) (by repeat (first|(with_reducible first|exact HB.out|apply below_alloc|apply pw_below_drewN|apply below_drew1)|exact HB.out))));rintro e w49 ⟨rfl,hb⟩;refine ⟨_,rfl,?_⟩;have n0_:=Aside0.mk (below_step (by repeat (first|(with_reducible first|exact HB.out|apply below_alloc|apply pw_below_drewN|apply below_drew1)|exact HB.out)) hb);clear HB;have HB:=n0_;clear n0_;(try clear hb);(try clear hb2);(try clear hk);(try clear hi))|((with_reducible refine gate_callee (f:=11) rfl ?_);refine goesL_ (some 48) rfl rfl Tryd.func11 (by kernel_rfl) rfl #[.string t421] rfl (by (try simp only [List.map_toArray,List.map_cons,List.map_nil]);first|done|rfl|(simp only [List.length_drop,List.length_take];rfl)) ?_;(with_reducible refine (host_Expand.calls k2 t421 t422 t425 t426 _ A38.out (HG_.out.below (by repeat (first|(with_reducible first|exact HB.out|apply below_alloc|apply pw_below_drewN|apply below_drew1)|exact HB.out)))).mono ?_);rintro e w50 ⟨v423,rfl,ho0,hb⟩;refine ⟨_,rfl,?_⟩;have n0_:=Aside0.mk (Kd.R_lower ho0 (below_size (by repeat (first|(with_reducible first|exact HB.out|apply below_alloc|apply pw_below_drewN|apply below_drew1)|exact HB.out))));have n1_:=Aside0.mk (below_step (by repeat (first|(with_reducible first|exact HB.out|apply below_alloc|apply pw_below_drewN|apply below_drew1)|exact HB.out)) hb);clear HB;have HO424:=n0_;have HB:=n1_;clear n0_ n1_;(try clear hb);(try clear hb2);(try clear hk);(try clear hi);(try clear ho0))|((with_reducible refine gate_dst (N:=8) rfl ?_);(try (refine gate_guard (by rfl) ?_;dsimp only));refine box_event ?hg (N:=8) ?hd (cs:=#[.int .i64 0,.int .i64 0]) (t:=27) ?hr ?_;(case hd => rfl);(case hg => rfl);(case hr => first|(go_simp;done)|(go_simp;rfl));intro gb427 hg w51 hbox hb;have n0_:=Aside0.mk (Kd.R_below (by (with_reducible repeat (first|apply Kd.R_alloc|apply Kd.R_drewN|apply Kd.R_drew));exact HO424.out) hb);have n1_:=Aside0.mk (below_step (by repeat (first|(with_reducible first|exact HB.out|apply below_alloc|apply pw_below_drewN|apply below_drew1)|exact HB.out)) hb);have n2_:=Aside0.mk (hbox);have n3_:=Aside0.mk ((by rw [hg];exact (below_size (by repeat (first|(with_reducible first|exact HB.out|apply below_alloc|apply pw_below_drewN|apply below_drew1)|exact HB.out))) : w.heap.size ≤ gb427));have n4_:=Aside0.mk ((by rw [hg];exact (below_size (by repeat (first|(with_reducible first|exact HB.out|apply below_alloc|apply pw_below_drewN|apply below_drew1)|exact HB.out))) : w.heap.size ≤ gb427));clear HO424;clear HB;have HO424:=n0_;have HB:=n1_;have BK427:=n2_;have GW427:=n3_;have GE427:=n4_;clear n0_ n1_ n2_ n3_ n4_;clear hb hbox hg;have hcz52_0 : w51.cell? ⟨gb427,0,none⟩ = some (.int .i64 0):=(blk_cell BK427.out 0).trans rfl;have hcz52_1 : w51.cell? ⟨gb427,1,none⟩ = some (.int .i64 0):=(blk_cell BK427.out 1).trans rfl;have hfz52_0:=blk_frozen BK427.out 0;have hfz52_1:=blk_frozen BK427.out 1;obtain ⟨Ao53,co53,eo53⟩:=Kd.R_slice HO424.out;subst eo53)|(go_at_call 13;(with_reducible refine (marlinspikeref05_Same.calls k2 _ _ t422 _ _ l0 false _ ?side1 ?side2 ?side3 ?side4 A40.out).mono ?_);(case side1 => refine (Kd.R_reads' (e:=9) (base:=w.heap.size) (ok:=fun k_ => True) (n:=t422.length) (c:=co53) ?_).2.2;exact (by (with_reducible repeat (first|apply Kd.R_alloc|apply Kd.R_drewN|apply Kd.R_drew));exact (Kd.R_mono (Kd.R_far (p:=⟨gb427,1,none⟩) (Kd.R_far (p:=⟨gb427,0,none⟩) (Kd.R_types HO424.out BK427.out (by decide)) (fun _ hk => hk.2) (.int .i64 t425)) (fun _ hk => hk.2) (.int .i64 t426)) (fun _ h_ => h_.1))));(case side2 => exact (Kd.R_reads' HO424.out).2.1);(case side3 => exact Kd.C_below HR0.out (by repeat (first|(with_reducible first|exact HB.out|apply below_alloc|apply pw_below_drewN|apply below_drew1|refine below_set ?_ GE427.out)|exact HB.out)));(case side4 => exact HC0.out);rintro e w' ⟨rfl,⟨nd,rfl⟩⟩)));(go_ret);(exact ⟨by first|rfl|(simp [errW_none,errW_some] <;> rfl)|(simp [*,errW_none,errW_some] <;> rfl),by repeat (first|(with_reducible first|exact HB.out|apply below_alloc|apply pw_below_drewN|apply below_drew1|refine below_set ?_ GE427.out)|exact HB.out)⟩)
       ·(rw [if_neg c39] at H);(have c39b0 : (t425 == 0 && (t426 == 0)) = false:=by simpa using c39);((try (have c39b1 : decide (t425 = 0 && (t426 == 0)) = false:=by simpa using c39)));((try (have c39b2 : (t425 == 0 && (t426 == 0)) = false:=by simpa using c39)));((try (have c39b3 : ¬ (t425 = 0 && (t426 == 0)):=by simpa using c39)));(clear c39);(obtain rfl:=Option.some.inj H);(go_wp2_with (first|((with_reducible refine gate_callee (f:=12) rfl ?_);refine goesL_ (some 47) rfl rfl Tryd.func12 (by kernel_rfl) rfl #[.slice A0 l0.length c0] rfl (by (try simp only [List.map_toArray,List.map_cons,List.map_nil]);first|done|rfl|(simp only [List.length_drop,List.length_take];rfl)) ?_;(with_reducible refine (host_Compress.calls k2 (fun k_ => k_ < w.heap.size) _ _ l0 t421 _ ?side1 A37.out (HG_.out.below (by repeat (first|(with_reducible first|exact HB.out|apply below_alloc|apply pw_below_drewN|apply below_drew1)|exact HB.out)))).mono ?_);(case side1 => exact Kd.V_mk HC0.out (Kd.F_below (Kd.C_F Kd.heap_string HR0.out) (by repeat (first|(with_reducible first|exact HB.out|apply below_alloc|apply pw_below_drewN|apply below_drew1)|exact HB.out))));rintro e w54 ⟨rfl,hb⟩;refine ⟨_,rfl,?_⟩;have n0_:=Aside0.mk (below_step (by repeat (first|(with_reducible first|exact HB.out|apply below_alloc|apply pw_below_drewN|apply below_drew1)|exact HB.out)) hb);clear HB;have HB:=n0_;clear n0_;(try clear hb);(try clear hb2);(try clear hk);(try clear hi))|((with_reducible refine gate_callee (f:=11) rfl ?_);refine goesL_ (some 48) rfl rfl Tryd.func11 (by kernel_rfl) rfl #[.string t421] rfl (by (try simp only [List.map_toArray,List.map_cons,List.map_nil]);first|done|rfl|(simp only [List.length_drop,List.length_take];rfl)) ?_;(with_reducible refine (host_Expand.calls k2 t421 t422 t425 t426 _ A38.out (HG_.out.below (by repeat (first|(with_reducible first|exact HB.out|apply below_alloc|apply pw_below_drewN|apply below_drew1)|exact HB.out)))).mono ?_);rintro e w55 ⟨v423,rfl,ho0,hb⟩;refine ⟨_,rfl,?_⟩;have n0_:=Aside0.mk (Kd.R_lower ho0 (below_size (by repeat (first|(with_reducible first|exact HB.out|apply below_alloc|apply pw_below_drewN|apply below_drew1)|exact HB.out))));have n1_:=Aside0.mk (below_step (by repeat (first|(with_reducible first|exact HB.out|apply below_alloc|apply pw_below_drewN|apply below_drew1)|exact HB.out)) hb);clear HB;have HO424:=n0_;have HB:=n1_;clear n0_ n1_;(try clear hb);(try clear hb2);(try clear hk);(try clear hi);(try clear ho0))|((with_reducible refine gate_dst (N:=8) rfl ?_);(try (refine gate_guard (by rfl) ?_;dsimp only));refine box_event ?hg (N:=8) ?hd (cs:=#[.int .i64 0,.int .i64 0]) (t:=27) ?hr ?_;(case hd => rfl);(case hg => rfl);(case hr => first|(go_simp;done)|(go_simp;rfl));intro gb427 hg w56 hbox hb;have n0_:=Aside0.mk (Kd.R_below (by (with_reducible repeat (first|apply Kd.R_alloc|apply Kd.R_drewN|apply Kd.R_drew));exact HO424.out) hb);have n1_:=Aside0.mk (below_step (by repeat (first|(with_reducible first|exact HB.out|apply below_alloc|apply pw_below_drewN|apply below_drew1)|exact HB.out)) hb);have n2_:=Aside0.mk (hbox);have n3_:=Aside0.mk ((by rw [hg];exact (below_size (by repeat (first|(with_reducible first|exact HB.out|apply below_alloc|apply pw_below_drewN|apply below_drew1)|exact HB.out))) : w.heap.size ≤ gb427));have n4_:=Aside0.mk ((by rw [hg];exact (below_size (by repeat (first|(with_reducible first|exact HB.out|apply below_alloc|apply pw_below_drewN|apply below_drew1)|exact HB.out))) : w.heap.size ≤ gb427));clear HO424;clear HB;have HO424:=n0_;have HB:=n1_;have BK427:=n2_;have GW427:=n3_;have GE427:=n4_;clear n0_ n1_ n2_ n3_ n4_;clear hb hbox hg;have hcz57_0 : w56.cell? ⟨gb427,0,none⟩ = some (.int .i64 0):=(blk_cell BK427.out 0).trans rfl;have hcz57_1 : w56.cell? ⟨gb427,1,none⟩ = some (.int .i64 0):=(blk_cell BK427.out 1).trans rfl;have hfz57_0:=blk_frozen BK427.out 0;have hfz57_1:=blk_frozen BK427.out 1)));(go_ret);(exact ⟨by first|rfl|(simp [errW_none,errW_some] <;> rfl)|(simp [*,errW_none,errW_some] <;> rfl),by repeat (first|(with_reducible first|exact HB.out|apply below_alloc|apply pw_below_drewN|apply below_drew1|refine below_set ?_ GE427.out)|exact HB.out)⟩)
end Go.Proofs.YtoammgpfbdcphaaDoor.PH
end
section
namespace Go.Proofs.YtoammgpfbdcphaaDoor.Hx
open Go.RowKit Go.Proofs.YtoammgpfbdcphaaDoor.Lib Go.Proofs.YtoammgpfbdcphaaDoor.PH Go.Proofs.YtoammgpfbdcphaaDoor.Txt Go.Proofs.YtoammgpfbdcphaaDoor.Num Go.Proofs.YtoammgpfbdcphaaDoor.Hn Go.Proofs.YtoammgpfbdcphaaDoorW.PrintWords Go.Proofs.YtoammgpfbdcphaaDoorW.PrintLast Go.Proofs.YtoammgpfbdcphaaDoorW.PrintMore
set_option linter.unusedVariables false
set_option linter.unusedSimpArgs false
theorem long_l0 (l : List ByteArray) (hl : l.length ≤ 9223372036854775807) : ∀ (d i : Nat), l.length - i = d → i ≤ l.length → (∀ j (h : j < l.length), j < i → l[j].size ≤ 300) →
    (Ev (fun k => marlinspikelaw05_long.l0 k l l (l.length : Int) (i : Int)) true) ∨ (Ev (fun k => marlinspikelaw05_long.l0 k l l (l.length : Int) (i : Int)) false ∧ l.length ≤ 300 ∧ ∀ b ∈ l, b.size ≤ 300) := by
  intro d
  induction d with
  | zero =>
    intro i hd hi hb
    by_cases h : l.length ≤ 300
    · refine .inr ⟨Ev.shift ⟨0, fun k hk => ?_⟩, h, fun b hbm => ?_⟩
      · simp only [marlinspikelaw05_long.l0]
        rw [if_neg (by omega), decide_eq_false (show ¬ (l.length : Int) > 300 by omega)]
      · obtain ⟨j, hj, rfl⟩ := List.getElem_of_mem hbm
        exact hb j hj (by omega)
    · refine .inl (Ev.shift ⟨0, fun k hk => ?_⟩)
      simp only [marlinspikelaw05_long.l0]
      rw [if_neg (by omega), decide_eq_true (show (l.length : Int) > 300 by omega)]
  | succ d ih =>
    intro i hd hi hb
    have hlt : i < l.length := by omega
    by_cases h : l[i].size ≤ 300
    · have hstep : ∀ r, Ev (fun k => marlinspikelaw05_long.l0 k l l (l.length : Int) ((i + 1 : Nat) : Int)) r → Ev (fun k => marlinspikelaw05_long.l0 k l l (l.length : Int) (i : Int)) r := by
        intro r hr
        obtain ⟨K, hK⟩ := hr
        dsimp only at hK
        refine Ev.shift ⟨K, fun k hk => ?_⟩
        simp only [marlinspikelaw05_long.l0]
        rw [if_pos (by omega), if_pos (by omega), if_pos (by omega), rdN l i hlt, if_neg (by omega), wrap_nat (by omega)]
        exact hK k hk
      rcases ih (i + 1) (by omega) (by omega) (by
        intro j hj hji
        by_cases hji2 : j < i
        · exact hb j hj hji2
        · obtain rfl : j = i := by omega
          exact h) with h1 | ⟨h1, h2, h3⟩
      · exact .inl (hstep _ h1)
      · exact .inr ⟨hstep _ h1, h2, h3⟩
    · refine .inl (Ev.shift ⟨0, fun k hk => ?_⟩)
      simp only [marlinspikelaw05_long.l0]
      rw [if_pos (by omega), if_pos (by omega), if_pos (by omega), rdN l i hlt, if_pos (by omega)]
theorem long_ev (l : List ByteArray) (hl : l.length ≤ 9223372036854775807) : (Ev (fun k => marlinspikelaw05_long.f k l) true) ∨ (Ev (fun k => marlinspikelaw05_long.f k l) false ∧ l.length ≤ 300 ∧ ∀ b ∈ l, b.size ≤ 300) :=
  long_l0 l hl _ 0 rfl (by omega) (fun j h hj => by omega)
theorem back_l0 (l : List ByteArray) (hl : l.length ≤ 256) (hb : ∀ b ∈ l, b.size ≤ 300) : ∀ (d i : Nat), l.length - i = d → i ≤ l.length → (∀ j (h : j < l.length), j < i → gN 20000 l[j]) →
    Ev (fun k => marlinspikelaw05_HostBack.l0 k l l (l.length : Int) (i : Int)) true := by
  intro d
  obtain ⟨KA, hA⟩ := alive_ev
  dsimp only at hA
  induction d with
  | zero =>
    intro i hd hi hg
    obtain ⟨t, ⟨K1, h1⟩, ⟨K2, h2⟩⟩ := back l (by
      intro b hbm
      obtain ⟨j, hj, rfl⟩ := List.getElem_of_mem hbm
      exact hg j hj (by omega)) hl
    obtain ⟨K3, h3⟩ := same_ev l (by omega)
    dsimp only at h1 h2 h3
    refine Ev.shift ⟨KA + K1 + K2 + K3, fun k hk => ?_⟩
    simp only [marlinspikelaw05_HostBack.l0]
    rw [if_neg (by omega), h1 k (by omega), Option.bind_some, h2 k (by omega), Option.bind_some]
    dsimp only
    rw [if_pos (by decide), h3 k (by omega), Option.bind_some, if_pos (by rfl), hA k (by omega)]
    rfl
  | succ d ih =>
    intro i hd hi hg
    have hlt : i < l.length := by omega
    have hbs := hb l[i] (List.getElem_mem hlt)
    obtain ⟨⟨ns, y, z⟩, ⟨K1, h1⟩, hR⟩ := rexp_any l[i] (by omega)
    dsimp only at h1
    have hdone : (!(y == 0) || (!(z == 0))) = true → Ev (fun k => marlinspikelaw05_HostBack.l0 k l l (l.length : Int) (i : Int)) true := by
      intro hc
      refine Ev.shift ⟨KA + K1, fun k hk => ?_⟩
      simp only [marlinspikelaw05_HostBack.l0]
      rw [if_pos (by omega), if_pos (by omega), if_pos (by omega), rdN l i hlt, h1 k (by omega), Option.bind_some]
      dsimp only
      rw [if_pos hc, hA k (by omega)]
      rfl
    rcases hR with hR | ⟨he, hR⟩
    · dsimp only at hR
      exact hdone (by simp [hR])
    · dsimp only at he hR
      injection he with he1 he2
      subst he1; subst he2
      by_cases hn : ns.length = 1
      · obtain ⟨b, rfl⟩ := List.length_eq_one_iff.1 hn
        by_cases heq : L b = L l[i]
        · have hbe : b = l[i] := L_inj heq
          have hgb := hR b (by simp)
          obtain ⟨K, hK⟩ := ih (i + 1) (by omega) (by omega) (by
            intro j hj hji
            by_cases hji2 : j < i
            · exact hg j hj hji2
            · obtain rfl : j = i := by omega
              rw [← hbe]
              exact ⟨hgb.1, by rw [hbe]; omega, hgb.2⟩)
          dsimp only at hK
          refine Ev.shift ⟨K + K1, fun k hk => ?_⟩
          simp only [marlinspikelaw05_HostBack.l0]
          rw [if_pos (by omega), if_pos (by omega), if_pos (by omega), rdN l i hlt, h1 k (by omega), Option.bind_some]
          dsimp only
          rw [if_neg (by decide), if_pos (by rfl), if_pos (by simp), if_pos (by rw [toList_L, toList_L]; exact heq), wrap_nat (by omega)]
          exact hK k (by omega)
        · refine Ev.shift ⟨KA + K1, fun k hk => ?_⟩
          simp only [marlinspikelaw05_HostBack.l0]
          rw [if_pos (by omega), if_pos (by omega), if_pos (by omega), rdN l i hlt, h1 k (by omega), Option.bind_some]
          dsimp only
          rw [if_neg (by decide), if_pos (by rfl), if_pos (by simp), if_neg (by rw [toList_L, toList_L]; exact heq), hA k (by omega)]
          rfl
      · refine Ev.shift ⟨KA + K1, fun k hk => ?_⟩
        simp only [marlinspikelaw05_HostBack.l0]
        rw [if_pos (by omega), if_pos (by omega), if_pos (by omega), rdN l i hlt, h1 k (by omega), Option.bind_some]
        dsimp only
        rw [if_neg (by decide), if_neg (by omega), hA k (by omega)]
        rfl
theorem back_law (l : List ByteArray) (hl : l.length ≤ 9223372036854775807) : ∃ k, marlinspikelaw05_HostBack.f k l = some true := by
  refine Ev.rounds (g := fun k => marlinspikelaw05_HostBack.f k l) ?_
  obtain ⟨KA, hA⟩ := alive_ev
  dsimp only at hA
  have hj : ∀ b : Bool, (b = false → l.length ≤ 256 ∧ ∀ b ∈ l, b.size ≤ 300) → Ev (fun k => marlinspikelaw05_HostBack.j0 k l b) true := by
    intro b hb
    cases b with
    | true =>
      refine Ev.shift ⟨KA, fun k hk => ?_⟩
      simp only [marlinspikelaw05_HostBack.j0]
      rw [if_pos (by first | rfl | trivial), hA k hk]
      rfl
    | false =>
      obtain ⟨h1, h2⟩ := hb rfl
      obtain ⟨K, hK⟩ := back_l0 l h1 h2 _ 0 rfl (by omega) (fun j h hj => by omega)
      dsimp only at hK
      refine Ev.shift ⟨K, fun k hk => ?_⟩
      simp only [marlinspikelaw05_HostBack.j0]
      rw [if_neg (by decide)]
      exact hK k hk
  rcases long_ev l (by omega) with ⟨K1, h1⟩ | ⟨⟨K1, h1⟩, h2, h3⟩
  · obtain ⟨K, hK⟩ := hj true (fun h => by cases h)
    dsimp only at h1 hK
    refine ⟨K + K1, fun k hk => ?_⟩
    simp only [marlinspikelaw05_HostBack.f]
    rw [h1 k (by omega), Option.bind_some, if_pos (by rfl)]
    exact hK k (by omega)
  · obtain ⟨K, hK⟩ := hj (decide ((l.length : Int) > 256)) (fun h => ⟨by have := of_decide_eq_false h; omega, h3⟩)
    dsimp only at h1 hK
    refine ⟨K + K1, fun k hk => ?_⟩
    simp only [marlinspikelaw05_HostBack.f]
    rw [h1 k (by omega), Option.bind_some, if_neg (by decide)]
    exact hK k (by omega)
end Go.Proofs.YtoammgpfbdcphaaDoor.Hx
end
section
namespace Go.Proofs.YtoammgpfbdcphaaDoor.Hx
open Go.RowKit Go.Proofs.YtoammgpfbdcphaaDoorW.PrintWords Go.Proofs.YtoammgpfbdcphaaDoor.Op
theorem strs_opens : Opens Tryd.prog 22 (Kd.slice 9 Kd.string).K (fun l => l.length ≤ maxLen ∧ ∀ x ∈ l, x.size ≤ maxLen) := opens_slice 9 Tryd.underlying22 (by kernel_rfl) (opens_string Tryd.underlying9)
end Go.Proofs.YtoammgpfbdcphaaDoor.Hx
end
section
namespace Go.Proofs.YtoammgpfbdcphaaDoor.hostBack
open Go.ChangeShapes Go.WideShapes Go.ChangeAt Go.RowKit
open Go.ChangeMaps (open_string shut_string)
open Go.Proofs.YtoammgpfbdcphaaDoorW.PrintWords 
set_option linter.unusedVariables false
set_option maxRecDepth 100000
theorem own : ownKnob Tryd.prog.godebug = none := by kernel_rfl
theorem laidOut : laidOutB Tryd.prog = true := by kernel_rfl
theorem laid_met (os : Os) : laidMet Tryd.prog Rows.hostBackRow.laid ((World.doorLaid Tryd.prog 62 os).forCall (fun _ _ => 0) ⟨#[], #[.slice none 0 0], []⟩).memory :=
  laidMet_of_run' 8 (by kernel_rfl) (by kernel_rfl)
theorem witness_row (os : Os) {H : Type} (enc : TypeId × Value → H) :
    (OpenSpec.ofChange Rows.hostBackSpec).preRow enc Tryd.prog Tryd.f3 Rows.hostBackRow.domain false Rows.hostBackRow.laid ((World.doorLaid Tryd.prog 62 os).forCall (fun _ _ => 0) ⟨#[], #[.slice none 0 0], []⟩).memory #[.slice none 0 0] := by
  have hw : (DataW.whole enc Tryd.prog ((World.doorLaid Tryd.prog 62 os).forCall (fun _ _ => 0) ⟨#[], #[.slice none 0 0], []⟩).memory Tryd.f3.params.toList (OpenSpec.ofChange Rows.hostBackSpec).vars false #[.slice none 0 0].toList 8).map (fun x => (x.1, x.2.1)) =
      some ([.nil], []) := by kernel_rfl
  obtain ⟨⟨x1, x2, x3⟩, hx, hx1⟩ := Option.map_eq_some_iff.1 hw
  simp only [Prod.mk.injEq] at hx1
  obtain ⟨rfl, rfl⟩ := hx1
  exact OpenSpec.preRow_of_cond 8 hx (by kernel_rfl) (fun k hk => by cases hk) (by kernel_rfl) (laid_met os)
theorem star : "*" ++ "errors.errorString" = "*errors.errorString" := by decide
theorem row_err (u : TypeId) (h : Tryd.prog.typeName? 3 u = some "*errors.errorString") : u = 132 :=
  typeName_ptr_named (nm := "errors.errorString") (by rw [star]; kernel_rfl) (by kernel_rfl) (by decide) u (by rw [star]; exact h)
theorem glob {W : World} (h : laidMetH Tryd.prog Rows.hostBackRow.laid W) : Lib.Glob W := by
  rw [MakeChecks.laidMetH_plain _ _ _ (by kernel_rfl)] at h
  have h0 : laidMet Tryd.prog Rows.hostBackRow.laid W := h
  have h1 : laidMet Tryd.prog [("math/bits.deBruijn64tab", Rows.laid_math_bits_deBruijn64tab), ("internal/strconv.uint64pow10", Rows.laid_internal_strconv_uint64pow10), ("strconv.ErrRange", Rows.laid_strconv_ErrRange), ("strconv.ErrSyntax", Rows.laid_strconv_ErrSyntax)] W := laidMet.tail h0
  have h2 : laidMet Tryd.prog [("internal/strconv.uint64pow10", Rows.laid_internal_strconv_uint64pow10), ("strconv.ErrRange", Rows.laid_strconv_ErrRange), ("strconv.ErrSyntax", Rows.laid_strconv_ErrSyntax)] W := laidMet.tail h1
  have h3 : laidMet Tryd.prog [("strconv.ErrRange", Rows.laid_strconv_ErrRange), ("strconv.ErrSyntax", Rows.laid_strconv_ErrSyntax)] W := laidMet.tail h2
  have h4 : laidMet Tryd.prog [("strconv.ErrSyntax", Rows.laid_strconv_ErrSyntax)] W := laidMet.tail h3
  have h5 : laidMet Tryd.prog [] W := laidMet.tail h4
  obtain ⟨a1, s1, v1, _⟩ := laid_sentinel (g := 0) h4 (by kernel_rfl) (by kernel_rfl) Tryd.underlying59 row_err Tryd.underlying132 Tryd.underlying134 rfl rfl Tryd.underlying9 (by kernel_rfl) (by kernel_rfl)
  obtain ⟨a2, s2, v2, _⟩ := laid_sentinel (g := 1) h3 (by kernel_rfl) (by kernel_rfl) Tryd.underlying59 row_err Tryd.underlying132 Tryd.underlying134 rfl rfl Tryd.underlying9 (by kernel_rfl) (by kernel_rfl)
  refine ⟨Go.Lib.tabIs_of_head Lib.g_tab (by kernel_rfl) Tryd.underlying140 Tryd.underlying106 (by kernel_rfl) (by kernel_rfl) h2, ⟨_, _, v1⟩, ⟨_, _, v2⟩⟩
set_option maxHeartbeats 4000000 in
theorem lifted (os : Os) (started : os.Started) (H : Type) (enc : TypeId × Value → H) (F : Stop.Interp) :
    ReturnsInHanded {} Tryd.checked os 3 .any ((OpenSpec.ofChange Rows.hostBackSpec).preRow enc Tryd.prog Tryd.f3 Rows.hostBackRow.domain false Rows.hostBackRow.laid) (((OpenSpec.ofChange Rows.hostBackSpec).at F).post enc Tryd.prog Tryd.f3 false true false false) := by
  refine returnsInHanded_of_row (C := Tryd.checked) (s := (OpenSpec.ofChange Rows.hostBackSpec)) own started (by kernel_rfl) Tryd.func3
    (witness_row_atRef (enc := enc) (C := Tryd.checked) false (World.doorLaid Tryd.prog 62 os) #[.slice none 0 0] rfl (by kernel_rfl) (by kernel_rfl) (by kernel_rfl) (witness_row os enc)) ?_
  intro W base args ds gs before hval0 hW _ _ hsz0 hL _ _
  have hsz : (DataW.weightsEach Tryd.prog (Tryd.f3.params.toList ++ (OpenSpec.ofChange Rows.hostBackSpec).bare.plain.varTypes Tryd.prog) (ds ++ gs)).all (· ≤ reachBytes) = true := hsz0
  have hval : ∀ (j : Nat) t v, Tryd.f3.params[j]? = some t → args[j]? = some v → Value.okWide Tryd.prog W .any base t v := hval0
  have hG := glob hL
  have hW' := hW
  obtain ⟨p, q, hA0, hV, rfl, hfz, hnd⟩ := hW
  have hA : DataW.TrodAll enc Tryd.prog W 0 (fun _ => true) true Tryd.f3.params.toList args.toList ds p := hA0
  rw [Tryd.params3] at hA hval hsz
  obtain ⟨v0, vs0, d0, ds0, p0, q0, hargs, rfl, rfl, t0, r0⟩ := trodAll_cons hA
  obtain ⟨rfl, rfl, rfl⟩ := trodAll_nil r0
  obtain rfl : args = #[v0] := by cases args; simp_all
  obtain ⟨rfl, rfl⟩ := trodVars_none hV
  have k0 := t0
  have y0 := hval 0 22 v0 rfl rfl
  obtain ⟨x0, kx0, gx0⟩ := Op.opens_arg Hx.strs_opens t0
  obtain ⟨A0, c0, e0, hc0, hr0⟩ := kx0
  obtain ⟨a0, l0, b0, rfl⟩ := okWide_slice Tryd.underlying22 y0
  have e0 : Value.slice a0 l0 b0 = .slice A0 x0.length c0 := by simpa [Value.cells] using e0
  injection e0 with ea0 eb0 ec0
  subst ea0; subst eb0; subst ec0
  clear hA0 hval0 hsz0 hsz
  refine (PH.marlinspikelaw05_HostBack.calls _ a0 b0 x0 true W hr0 hc0 (Hx.back_law x0 (Nat.le_trans gx0.1 (by decide))).choose_spec hG).mono fun e W' ⟨he, bel⟩ => ?_
  subst he
  exact ⟨_, rfl, _, _, _, [], _, [], hW', trodAll_mk1 (shut_bool Tryd.underlying4 _), (trodAll_cons_mk (Below.trod laidOut (by kernel_rfl) (of_decide_eq_true (by kernel_rfl)) k0 bel (Op.trod_lt k0)) trodAll_mk0), rfl, bel.frame _, fun h => by cases h⟩
theorem said : Rows.HostBackSaid :=
  OpenClaim.holds_of_cond 3 Tryd.f3 rfl rfl rfl rfl rfl rfl rfl ⟨rfl, rfl, rfl, rfl, rfl⟩ rfl rfl rfl rfl rfl (by kernel_rfl) Tryd.func3 (by kernel_rfl)
    (of_decide_eq_true (by kernel_rfl)) (by unfold Func.isWrapper; first | (rw [if_pos (by decide +kernel)]; kernel_rfl) | (rw [if_neg (by decide +kernel)]; exact ⟨rfl, rfl⟩))
    (fun os started H enc _ F => by rw [OpenClaim.pre_eq_preRow]; exact lifted os started H enc F)
theorem plain (f : FuncId) (fn : Func) (hf : Tryd.pinned.checked.prog.funcNamed "marlinspike/marlinspikelaw05.HostBack" = some f) (hfn : Tryd.pinned.checked.prog.funcs[f]? = some fn) :
    true = Tryd.pinned.checked.prog.looks [] ∧ ∀ (j : Nat) t, fn.params[j]? = some t → Tryd.pinned.checked.prog.wantsStandIn t = false := by
  obtain rfl : f = 3 := Option.some.inj ((show Tryd.prog.funcNamed "marlinspike/marlinspikelaw05.HostBack" = some 3 by kernel_rfl).symm.trans hf) |>.symm
  obtain rfl : fn = Tryd.f3 := (Option.some.inj (Tryd.func3.symm.trans hfn)).symm
  refine ⟨by kernel_rfl, fun j t ht => ?_⟩
  rw [Tryd.params3] at ht
  have := Array.mem_of_getElem? ht
  have all : (#[22] : Array TypeId).all (fun t => Tryd.prog.wantsStandIn t = false) = true := by kernel_rfl
  exact of_decide_eq_true (Array.all_eq_true_iff_forall_mem.1 all t this)
theorem card : Rows.HostBackCardSaid :=
  Claim7.holds_tied_plain_at .later [] _ _ _ _ said (fun _ h => by cases h) (by kernel_rfl) (fun _ h => by cases h) hostBack_row_tie rfl ⟨rfl, rfl⟩ (by kernel_rfl) rfl plain (by kernel_rfl)
#print axioms card
end Go.Proofs.YtoammgpfbdcphaaDoor.hostBack
namespace Go.Proofs.YtoammgpfbdcphaaDoor
theorem hostBack_card : Rows.HostBackCardSaid := hostBack.card
end Go.Proofs.YtoammgpfbdcphaaDoor
end
