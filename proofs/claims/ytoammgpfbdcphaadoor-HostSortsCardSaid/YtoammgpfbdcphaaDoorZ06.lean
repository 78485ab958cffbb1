/- Part 6 of the proof of HostSortsCardSaid. -/
import Derived.Test.YtoammgpfbdcphaaDoorZ03
import Derived.Test.YtoammgpfbdcphaaDoorZ05
import Derived.Lib.ItoaNum
import Derived.Lib.AtoiAll
import Derived.Test.YtoammgpfbdcphaaDoorZ01
import Derived.Lib.Strings
section
namespace Go.Proofs.YtoammgpfbdcphaaDoor.PH
open Go.RowKit Go.Proofs.YtoammgpfbdcphaaDoor.Lib Go.Proofs.YtoammgpfbdcphaaDoorW.PrintWords Go.Proofs.YtoammgpfbdcphaaDoorW.PrintLast Go.Proofs.YtoammgpfbdcphaaDoorW.PrintMore
attribute [local go_sem] max2_int min2_int max_two min_two max_three min_three max_four min_four   
set_option linter.unusedVariables false
set_option linter.unusedSimpArgs false
attribute [local go_sem high] eqA27
mutual
def host_reader_spans.l0 : Nat → List (S54) → ByteArray → Int → Int → Int → Option ((List (S54)) × ByteArray × Int × Int × Int)
 | 0, _, _, _, _, _ => none
 | k + 1, x3, x1000, x1001, x1002, x1003 => if (x1002 == 0 && (x1003 == 0)) = true then ((host_reader_span.f k x1000 x1001 x1002 x1003).bind fun bt143 => (if x3.length < 5864062014805 then ((some (x3 ++ [(⟨bt143.1, bt143.2.1, bt143.2.2.1⟩ : S54)] : List (S54))).bind fun y150 => (if (!(bt143.2.2.2.2.2.1 == 0) || (!(bt143.2.2.2.2.2.2 == 0))) = true then (host_reader_spans.j1 k y150 true bt143.2.2.2.1 bt143.2.2.2.2.1 bt143.2.2.2.2.2.1 bt143.2.2.2.2.2.2) else ((host_reader_next.f bt143.2.2.2.1 bt143.2.2.2.2.1 bt143.2.2.2.2.2.1 bt143.2.2.2.2.2.2 93).bind fun bt153 => (host_reader_spans.j1 k y150 bt153.1 bt153.2.1 bt153.2.2.1 bt153.2.2.2.1 bt153.2.2.2.2)))) else (none))) else (some (x3, x1000, x1001, x1002, x1003))
def host_reader_spans.j1 : Nat → List (S54) → Bool → ByteArray → Int → Int → Int → Option ((List (S54)) × ByteArray × Int × Int × Int)
 | 0, _, _, _, _, _, _ => none
 | k + 1, x3, x24, x1000, x1001, x1002, x1003 => if x24 = true then (some (x3, x1000, x1001, x1002, x1003)) else ((host_reader_next.f x1000 x1001 x1002 x1003 44).bind fun bt158 => (if bt158.1 = true then (host_reader_spans.l0 k x3 bt158.2.1 bt158.2.2.1 bt158.2.2.2.1 bt158.2.2.2.2) else ((host_reader_wrong.f bt158.2.1 bt158.2.2.1 bt158.2.2.2.1 bt158.2.2.2.2).bind fun bt163 => (host_reader_spans.l0 k x3 bt163.1 bt163.2.1 bt163.2.2.1 bt163.2.2.2))))
end
def host_reader_spans.f (k : Nat) (s0_0 : ByteArray) (s0_1 : Int) (s0_2 : Int) (s0_3 : Int) : Option ((List (S54)) × ByteArray × Int × Int × Int) := host_reader_spans.l0 k ([] : List (S54)) s0_0 s0_1 s0_2 s0_3
theorem host_reader_spans.mono_l : ∀ k,(∀ y0 y1 y2 y3 y4,LeO (host_reader_spans.l0 k y0 y1 y2 y3 y4) (host_reader_spans.l0 (k + 1) y0 y1 y2 y3 y4))∧(∀ y0 y1 y2 y3 y4 y5,LeO (host_reader_spans.j1 k y0 y1 y2 y3 y4 y5) (host_reader_spans.j1 (k + 1) y0 y1 y2 y3 y4 y5))
|0 => ⟨fun _ _ _ _ _ r h => by simp [host_reader_spans.l0] at h,fun _ _ _ _ _ _ r h => by simp [host_reader_spans.j1] at h⟩
|k + 1 => by
  obtain ⟨ih0,ih1⟩:=host_reader_spans.mono_l k
  refine ⟨?_,?_⟩
  ·intro y0 y1 y2 y3 y4
   unfold host_reader_spans.l0
   repeat' first
  |(with_reducible exact ih0 _ _ _ _ _)
  |(with_reducible exact ih1 _ _ _ _ _ _)
  |(with_reducible exact host_reader_span.mono _ _ _ _ _)
  |(with_reducible exact LeO.refl _)
  |(with_reducible exact LeO.none _)
  |(with_reducible refine LeO.ite ?_ ?_)
  |(with_reducible refine LeO.bind ?_ (fun _ => ?_))
  |exact ih0 _ _ _ _ _
  |exact ih1 _ _ _ _ _ _
  |exact host_reader_span.mono _ _ _ _ _
  |exact LeO.none _
  |refine LeO.ite ?_ ?_
  |refine LeO.bind ?_ (fun _ => ?_)
  ·intro y0 y1 y2 y3 y4 y5
   unfold host_reader_spans.j1
   repeat' first
  |(with_reducible exact ih0 _ _ _ _ _)
  |(with_reducible exact ih1 _ _ _ _ _ _)
  |(with_reducible exact host_reader_span.mono _ _ _ _ _)
  |(with_reducible exact LeO.refl _)
  |(with_reducible exact LeO.none _)
  |(with_reducible refine LeO.ite ?_ ?_)
  |(with_reducible refine LeO.bind ?_ (fun _ => ?_))
  |exact ih0 _ _ _ _ _
  |exact ih1 _ _ _ _ _ _
  |exact host_reader_span.mono _ _ _ _ _
  |exact LeO.none _
  |refine LeO.ite ?_ ?_
  |refine LeO.bind ?_ (fun _ => ?_)
theorem host_reader_spans.mono : ∀ a0 a1 a2 a3 k,LeO (host_reader_spans.f k a0 a1 a2 a3) (host_reader_spans.f (k + 1) a0 a1 a2 a3):=by
 (intro a0 a1 a2 a3 k);(obtain ⟨ih0,ih1⟩:=host_reader_spans.mono_l k);(unfold host_reader_spans.f)
 repeat' first
  |(with_reducible exact ih0 _ _ _ _ _)
  |(with_reducible exact ih1 _ _ _ _ _ _)
  |(with_reducible exact host_reader_span.mono _ _ _ _ _)
  |(with_reducible exact LeO.refl _)
  |(with_reducible exact LeO.none _)
  |(with_reducible refine LeO.ite ?_ ?_)
  |(with_reducible refine LeO.bind ?_ (fun _ => ?_))
  |exact ih0 _ _ _ _ _
  |exact ih1 _ _ _ _ _ _
  |exact host_reader_span.mono _ _ _ _ _
  |exact LeO.none _
  |refine LeO.ite ?_ ?_
  |refine LeO.bind ?_ (fun _ => ?_)
set_option maxHeartbeats 8000000 in
set_option maxRecDepth 100000 in
theorem host_reader_spans.calls (k : Nat) (g : Nat) (s0_0 : ByteArray) (s0_1 : Int) (s0_2 : Int) (s0_3 : Int) (r1 : List (S54)) (r2 : ByteArray) (r3 : Int) (r4 : Int) (r5 : Int) (w0 w : World) (hI : IsS49 w0 w g s0_0 s0_1 s0_2 s0_3) (hB : Below w0.heap.size w0 w) (h : host_reader_spans.f k s0_0 s0_1 s0_2 s0_3 = some (r1,r2,r3,r4,r5)) (hG_ : Glob w0) :
  Calls Tryd.prog 26 #[.pointer (some ⟨g,0,none⟩)] w fun e w' => ∃ v0_ : Value,e = .returned (v0_)∧Kd.R k54 54 w' w.heap.size (fun _ => True) v0_ r1∧IsS49 w0 w' g r2 r3 r4 r5∧Below w0.heap.size w0 w'∧KeepBut w w' g none:=by
 (have HG_:=Aside0.mk hG_);(clear hG_);(have hu27:=Tryd.underlying27);(have HI0:=Aside0.mk hI);(have HK:=Aside0.mk (KeepBut.refl w g none));(have HL:=Aside0.mk hB.size);(clear hI);(have HW0:=Aside0.mk hB.size);(have HB:=Aside0.mk hB);(clear hB);(have H : (host_reader_spans.l0 k ([] : List (S54)) s0_0 s0_1 s0_2 s0_3) = some (r1,r2,r3,r4,r5):=h);(clear h);(have H':=Aside0.mk H);(clear H);(go_enter Tryd.func26,Tryd.ntmps26);(go_wp2);(go_loopg [3] k (fun kq v3 w' => ∃ (x3_1 : List (S54)) (x1000_1 : ByteArray) (x1001_1 : Int) (x1002_1 : Int) (x1003_1 : Int),Aside0 (host_reader_spans.l0 kq x3_1 x1000_1 x1001_1 x1002_1 x1003_1 = some (r1,r2,r3,r4,r5))∧Aside0 (kq ≤ k)∧Aside0 (Kd.R k54 54 w' w.heap.size (fun _ => True) v3 x3_1)∧Aside0 (IsS49 w0 w' g x1000_1 x1001_1 x1002_1 x1003_1)∧Aside0 (KeepBut w w' g none)∧Aside0 (Below w0.heap.size w0 w')))
 case atStart => exact ⟨(([] : List (S54))),(s0_0),(s0_1),(s0_2),(s0_3),H',⟨Nat.le_refl _⟩,⟨by first|exact Kd.R_nil _ _ _ _ _|exact Kd.N_nil _ _ _ _ _|exact Kd.V_nil _ _ _ _ _|exact Kd.Q_nil _ _ _ _ _|exact Kd.S_nil _ _ _ _ _⟩,⟨by repeat (first|(with_reducible first|exact HI0.out|apply IsS49.alloc|apply IsS49.drewN|apply IsS49.drew|apply IsS49.set_0|apply IsS49.set_1|apply IsS49.set_2|apply IsS49.set_3)|exact HI0.out)⟩,⟨by repeat (first|(with_reducible first|exact HK.out|apply KeepBut.set_|apply keep_drewN|apply keep_drew|apply keep_alloc)|exact HK.out)⟩,⟨by repeat (first|(with_reducible first|exact HB.out|apply below_alloc|apply pw_below_drewN|apply below_drew1|refine below_set ?_ (IsS49.ge HI0.out))|exact HB.out)⟩⟩
 case round =>
  (clear H');(obtain ⟨x3_1,x1000_1,x1001_1,x1002_1,x1003_1,HA,HK1,HO_3,HI0,HK,HB⟩:=hrel)
  cases gk with
 |zero => exact absurd HA.out (by simp [host_reader_spans.l0])
 |succ k1 =>
   (have H:=HA.out);(clear HA);(simp only [host_reader_spans.l0] at H);(by_cases c2 : (x1002_1 == 0 && (x1003_1 == 0)) = true)
   ·(rw [if_pos c2] at H);(have c2b0 : (x1002_1 == 0 && (x1003_1 == 0)) = true:=c2);((try (have c2b1 : decide (x1002_1 = 0 && (x1003_1 == 0)) = true:=by simpa using c2)));((try (have c2b2 : (x1002_1 == 0 && (x1003_1 == 0)) = true:=by simpa using c2)));(clear c2);(replace H:=Option.bind_eq_some_iff.mp H);(obtain ⟨⟨t143,t144,t145,t146,t147,t148,t149⟩,A30,H⟩:=H);(replace H : (if x3_1.length < 5864062014805 then ((some (x3_1 ++ [(⟨t143,t144,t145⟩ : S54)] : List (S54))).bind fun y150 => (if (!(t148 == 0) || (!(t149 == 0))) = true then (host_reader_spans.j1 k1 y150 true t146 t147 t148 t149) else ((host_reader_next.f t146 t147 t148 t149 93).bind fun bt153 => (host_reader_spans.j1 k1 y150 bt153.1 bt153.2.1 bt153.2.2.1 bt153.2.2.2.1 bt153.2.2.2.2)))) else (none)) = some (r1,r2,r3,r4,r5):=H);(have A3:=Aside0.mk A30);(clear A30);(by_cases c4 : x3_1.length < 5864062014805)
    ·(rw [if_pos c4] at H);(have LMc4:=Aside0.mk c4);(clear c4);(obtain ⟨y150,hy150⟩ : ∃ y_ : List (S54),y_ = (x3_1 ++ [(⟨t143,t144,t145⟩ : S54)]):=⟨_,rfl⟩);(replace H : (if (!(t148 == 0) || (!(t149 == 0))) = true then (host_reader_spans.j1 k1 y150 true t146 t147 t148 t149) else ((host_reader_next.f t146 t147 t148 t149 93).bind fun bt153 => (host_reader_spans.j1 k1 y150 bt153.1 bt153.2.1 bt153.2.2.1 bt153.2.2.2.1 bt153.2.2.2.2))) = some (r1,r2,r3,r4,r5):=by first|(rw [hy150];with_reducible exact H)|(have H2_:=(Option.bind_some _ _).symm.trans H;rw [hy150];with_reducible exact H2_)|(have H2_:=(Option.bind_some _ _).symm.trans H;with_reducible exact H2_)|with_reducible exact H|(rw [hy150];exact H)|exact H);(have Ny150:=Aside0.mk hy150);(clear hy150);(have HC5:=Aside0.mk H);(clear H);(obtain ⟨HGz6,hgz6⟩:=HI0.out);(have hcz6_0:=cellS49_0 HGz6);(have hcz6_1:=cellS49_1 HGz6);(have hcz6_2:=cellS49_2 HGz6);(have hcz6_3:=cellS49_3 HGz6);(have hfz6_0:=blk_frozen HGz6 0);(have hfz6_1:=blk_frozen HGz6 1);(have hfz6_2:=blk_frozen HGz6 2);(have hfz6_3:=blk_frozen HGz6 3);(clear HGz6 hgz6);(go_upto_region 4 with (first|((with_reducible refine gate_callee (f:=44) rfl ?_);refine goesL_ (some 12) rfl rfl Tryd.func44 (by kernel_rfl) rfl #[.pointer (some ⟨g,0,none⟩)] rfl (by (try simp only [List.map_toArray,List.map_cons,List.map_nil]);first|done|rfl|(simp only [List.length_drop,List.length_take];rfl)) ?_;(with_reducible refine (host_reader_span.calls k1 g x1000_1 x1001_1 x1002_1 x1003_1 t143 t144 t145 t146 t147 t148 t149 w0 _ ?side1 ?side2 A3.out HG_.out).mono ?_);(case side1 => repeat (first|(with_reducible first|exact HI0.out|apply IsS49.alloc|apply IsS49.drewN|apply IsS49.drew|apply IsS49.set_0|apply IsS49.set_1|apply IsS49.set_2|apply IsS49.set_3)|exact HI0.out));(case side2 => repeat (first|(with_reducible first|exact HB.out|apply below_alloc|apply pw_below_drewN|apply below_drew1|refine below_set ?_ (IsS49.ge HI0.out))|exact HB.out));rintro e w7 ⟨rfl,hi,hb,hk⟩;refine ⟨_,rfl,?_⟩;have n0_:=Aside0.mk (Kd.R_mono (Kd.R_keep (IsS49.apart (show IsS49 w0 _ g x1000_1 x1001_1 x1002_1 x1003_1 from by repeat (first|(with_reducible first|exact HI0.out|apply IsS49.alloc|apply IsS49.drewN|apply IsS49.drew|apply IsS49.set_0|apply IsS49.set_1|apply IsS49.set_2|apply IsS49.set_3)|exact HI0.out)) (by (with_reducible repeat (first|apply Kd.R_alloc|apply Kd.R_drewN|apply Kd.R_drew));exact HO_3.out) (by decide)) hk (fun _ h => h.2)) (fun _ h => h.1));have n1_:=Aside0.mk (KeepBut.trans (by repeat (first|(with_reducible first|exact HK.out|apply KeepBut.set_|apply keep_drewN|apply keep_drew|apply keep_alloc)|exact HK.out)) hk (.inl rfl));have n2_:=Aside0.mk (hb);have n3_:=Aside0.mk (hi);clear HO_3;clear HK;clear HB;clear HI0;have HO_3:=n0_;have HK:=n1_;have HB:=n2_;have HI0:=n3_;clear n0_ n1_ n2_ n3_;(try clear hb);(try clear hb2);(try clear hk);(try clear hi))|((with_reducible refine gate_builtin (b:=.append) (xs:=#[.tmp 10,.tmp 13]) rfl ?_);at_builtin;refine Kd.R_append k54 w.heap.size rfl (.tmp 10) (.tmp 13) 51 54 (.agg #[(.int .i64 0),(.int .i64 0),(.int .i64 0)]) 24 rfl Tryd.underlying51 info54 rfl (by decide) (by omega) u3 x3_1 (⟨t143,t144,t145⟩ : S54) [.int .i64 t143,.int .i64 t144,.int .i64 t145] (fun _ => True) (fun _ => False) rfl rfl ?aP (fun _ hk => hk.elim) ?aF ?aO (Below.refl _ _) ?aS ?aL ?_;(case aP => exact k54_mkM _ _ _ (⟨t143,t144,t145⟩ : S54));(case aF => exact (fun _ _ => trivial));(case aO => exact (by (with_reducible repeat (first|apply Kd.R_alloc|apply Kd.R_drewN|apply Kd.R_drew));exact HO_3.out));(case aS => exact (keep_size (w:=w) (g:=g) (row:=none) (by repeat (first|(with_reducible first|exact HK.out|apply KeepBut.set_|apply keep_drewN|apply keep_drew|apply keep_alloc)|exact HK.out))));(case aL => have:=LMc4.out;omega);intro v151 w8 ho hb hg hat;rw [← Ny150.out] at ho;have n0_:=Aside0.mk (IsS49.grown (by repeat (first|(with_reducible first|exact HI0.out|apply IsS49.alloc|apply IsS49.drewN|apply IsS49.drew|apply IsS49.set_0|apply IsS49.set_1|apply IsS49.set_2|apply IsS49.set_3)|exact HI0.out)) hg (IsS49.own_ne HI0.out HO_3.out (by decide)));have n1_:=Aside0.mk (below_weaken (by repeat (first|(with_reducible first|exact HB.out|apply below_alloc|apply pw_below_drewN|apply below_drew1|refine below_set ?_ (IsS49.ge HI0.out))|exact HB.out)) HL.out hb);have n2_:=Aside0.mk (KeepBut.trans (by repeat (first|(with_reducible first|exact HK.out|apply KeepBut.set_|apply keep_drewN|apply keep_drew|apply keep_alloc)|exact HK.out)) (KeepBut.of_grown hg g) (Kd.R_base2 HO_3.out));have n3_:=Aside0.mk (ho);clear HI0;clear HB;clear HK;clear HO_3;have HI0:=n0_;have HB:=n1_;have HK:=n2_;have HO152:=n3_;clear n0_ n1_ n2_ n3_;clear ho hb hg hat)));((try simp only [Act.put,List.setIfInBounds_toArray,List.set_cons_zero,List.set_cons_succ]));(go_cut [24] (fun v24 wc => ∃ (kq : Nat) (x24_4 : Bool) (x1000_4 : ByteArray) (x1001_4 : Int) (x1002_4 : Int) (x1003_4 : Int),v24 = .bool x24_4∧Aside0 (host_reader_spans.j1 kq y150 x24_4 x1000_4 x1001_4 x1002_4 x1003_4 = some (r1,r2,r3,r4,r5))∧Aside0 (kq ≤ k1)∧Aside0 (Kd.R k54 54 wc w.heap.size (fun _ => True) v151 y150)∧Aside0 (IsS49 w0 wc g x1000_4 x1001_4 x1002_4 x1003_4)∧Aside0 (KeepBut w wc g none)∧Aside0 (Below w0.heap.size w0 wc)))
     case first =>
      (have H:=HC5.out);(clear HC5);(by_cases c9 : (!(t148 == 0) || (!(t149 == 0))) = true)
      ·(rw [if_pos c9] at H);(have c9b0 : (!(t148 == 0) || (!(t149 == 0))) = true:=c9);(clear c9);((first|rw [c9b0]|(simp only [i64_w,i32_w];rw [c9b0])|skip));(have H':=Aside0.mk H);(clear H);(obtain ⟨HGz10,hgz10⟩:=HI0.out);(have hcz10_0:=cellS49_0 HGz10);(have hcz10_1:=cellS49_1 HGz10);(have hcz10_2:=cellS49_2 HGz10);(have hcz10_3:=cellS49_3 HGz10);(have hfz10_0:=blk_frozen HGz10 0);(have hfz10_1:=blk_frozen HGz10 1);(have hfz10_2:=blk_frozen HGz10 2);(have hfz10_3:=blk_frozen HGz10 3);(clear HGz10 hgz10);(go_wp2);(go_meet)
       case rel => exact ⟨_,(true),(t146),(t147),(t148),(t149),(by first|rfl|(simp;done)|(simp [*];done)),H',⟨by have:=HK1.out;first|omega|exact Nat.le_refl _⟩,⟨by (with_reducible repeat (first|apply Kd.R_alloc|apply Kd.R_drewN|apply Kd.R_drew));exact HO152.out⟩,⟨by repeat (first|(with_reducible first|exact HI0.out|apply IsS49.alloc|apply IsS49.drewN|apply IsS49.drew|apply IsS49.set_0|apply IsS49.set_1|apply IsS49.set_2|apply IsS49.set_3)|exact HI0.out)⟩,⟨by repeat (first|(with_reducible first|exact HK.out|apply KeepBut.set_|apply keep_drewN|apply keep_drew|apply keep_alloc)|exact HK.out)⟩,⟨by repeat (first|(with_reducible first|exact HB.out|apply below_alloc|apply pw_below_drewN|apply below_drew1|refine below_set ?_ (IsS49.ge HI0.out))|exact HB.out)⟩⟩
      ·(rw [if_neg c9] at H);(have c9b0 : (!(t148 == 0) || (!(t149 == 0))) = false:=by simpa using c9);(clear c9);((first|rw [c9b0]|(simp only [i64_w,i32_w];rw [c9b0])|skip));(replace H:=Option.bind_eq_some_iff.mp H);(obtain ⟨⟨t153,t154,t155,t156,t157⟩,A110,H⟩:=H);(replace H : (host_reader_spans.j1 k1 y150 t153 t154 t155 t156 t157) = some (r1,r2,r3,r4,r5):=H);(have A11:=Aside0.mk A110);(clear A110);(have H':=Aside0.mk H);(clear H);(obtain ⟨HGz12,hgz12⟩:=HI0.out);(have hcz12_0:=cellS49_0 HGz12);(have hcz12_1:=cellS49_1 HGz12);(have hcz12_2:=cellS49_2 HGz12);(have hcz12_3:=cellS49_3 HGz12);(have hfz12_0:=blk_frozen HGz12 0);(have hfz12_1:=blk_frozen HGz12 1);(have hfz12_2:=blk_frozen HGz12 2);(have hfz12_3:=blk_frozen HGz12 3);(clear HGz12 hgz12);(go_wp2_with (first|(go_at_call 25;(with_reducible refine (host_reader_next.calls g t146 t147 t148 t149 93 t153 t154 t155 t156 t157 w0 _ ?side1 ?side2 A11.out).mono ?_);(case side1 => repeat (first|(with_reducible first|exact HI0.out|apply IsS49.alloc|apply IsS49.drewN|apply IsS49.drew|apply IsS49.set_0|apply IsS49.set_1|apply IsS49.set_2|apply IsS49.set_3)|exact HI0.out));(case side2 => repeat (first|(with_reducible first|exact HB.out|apply below_alloc|apply pw_below_drewN|apply below_drew1|refine below_set ?_ (IsS49.ge HI0.out))|exact HB.out));rintro e w13 ⟨rfl,hi,hb,hk⟩;have n0_:=Aside0.mk (Kd.R_mono (Kd.R_keep (IsS49.apart (show IsS49 w0 _ g t146 t147 t148 t149 from by repeat (first|(with_reducible first|exact HI0.out|apply IsS49.alloc|apply IsS49.drewN|apply IsS49.drew|apply IsS49.set_0|apply IsS49.set_1|apply IsS49.set_2|apply IsS49.set_3)|exact HI0.out)) (by (with_reducible repeat (first|apply Kd.R_alloc|apply Kd.R_drewN|apply Kd.R_drew));exact HO152.out) (by decide)) hk (fun _ h => h.2)) (fun _ h => h.1));have n1_:=Aside0.mk (KeepBut.trans (by repeat (first|(with_reducible first|exact HK.out|apply KeepBut.set_|apply keep_drewN|apply keep_drew|apply keep_alloc)|exact HK.out)) hk (.inl rfl));have n2_:=Aside0.mk (hb);have n3_:=Aside0.mk (hi);clear HO152;clear HK;clear HB;clear HI0;have HO152:=n0_;have HK:=n1_;have HB:=n2_;have HI0:=n3_;clear n0_ n1_ n2_ n3_;(try clear hb);(try clear hb2);(try clear hk);(try clear hi))));(go_meet)
       case rel => exact ⟨_,(t153),(t154),(t155),(t156),(t157),(by first|rfl|(simp;done)|(simp [*];done)),H',⟨by have:=HK1.out;first|omega|exact Nat.le_refl _⟩,⟨by (with_reducible repeat (first|apply Kd.R_alloc|apply Kd.R_drewN|apply Kd.R_drew));exact HO152.out⟩,⟨by repeat (first|(with_reducible first|exact HI0.out|apply IsS49.alloc|apply IsS49.drewN|apply IsS49.drew|apply IsS49.set_0|apply IsS49.set_1|apply IsS49.set_2|apply IsS49.set_3)|exact HI0.out)⟩,⟨by repeat (first|(with_reducible first|exact HK.out|apply KeepBut.set_|apply keep_drewN|apply keep_drew|apply keep_alloc)|exact HK.out)⟩,⟨by repeat (first|(with_reducible first|exact HB.out|apply below_alloc|apply pw_below_drewN|apply below_drew1|refine below_set ?_ (IsS49.ge HI0.out))|exact HB.out)⟩⟩
     case rest =>
      (clear HC5);(try clear c2);(try clear c2b0);(try clear c2b1);(try clear c2b2);(try clear p2);(try clear c4);(try clear c9);(try clear c9b0);(try clear hcz10_0);(try clear hcz10_1);(try clear hcz10_2);(try clear hcz10_3);(try clear hcz12_0);(try clear hcz12_1);(try clear hcz12_2);(try clear hcz12_3);(try clear hcz6_0);(try clear hcz6_1);(try clear hcz6_2);(try clear hcz6_3);(try clear hfz10_0);(try clear hfz10_1);(try clear hfz10_2);(try clear hfz10_3);(try clear hfz12_0);(try clear hfz12_1);(try clear hfz12_2);(try clear hfz12_3);(try clear hfz6_0);(try clear hfz6_1);(try clear hfz6_2);(try clear hfz6_3);(obtain ⟨kq,x24_4,x1000_4,x1001_4,x1002_4,x1003_4,rfl,HA,HJ4,HO_3,HI0,HK,HB⟩:=hcut)
      cases kq with
     |zero => exact absurd HA.out (by simp [host_reader_spans.j1])
     |succ kj4 =>
       (have H:=HA.out);(clear HA);(simp only [host_reader_spans.j1] at H);(by_cases c14 : x24_4 = true);·(subst c14);(have H1 : (some (y150,x1000_4,x1001_4,x1002_4,x1003_4)) = some (r1,r2,r3,r4,r5):=by rw [if_pos rfl] at H;exact H);(clear H);(have H:=H1);(clear H1);(simp only [Option.some.injEq,Prod.mk.injEq] at H);(obtain ⟨rfl,rfl,rfl,rfl,rfl⟩:=H);(go_wp2);(go_ret);(exact ⟨_,by first|rfl|(simp [errW_none,errW_some] <;> rfl)|(simp [*,errW_none,errW_some] <;> rfl),by (with_reducible repeat (first|apply Kd.R_alloc|apply Kd.R_drewN|apply Kd.R_drew));exact HO_3.out,by repeat (first|(with_reducible first|exact HI0.out|apply IsS49.alloc|apply IsS49.drewN|apply IsS49.drew|apply IsS49.set_0|apply IsS49.set_1|apply IsS49.set_2|apply IsS49.set_3)|exact HI0.out),by repeat (first|(with_reducible first|exact HB.out|apply below_alloc|apply pw_below_drewN|apply below_drew1|refine below_set ?_ (IsS49.ge HI0.out))|exact HB.out),by repeat (first|(with_reducible first|exact HK.out|apply KeepBut.set_|apply keep_drewN|apply keep_drew|apply keep_alloc)|exact HK.out)⟩)
       ·(replace c14:=Bool.eq_false_iff.mpr c14);(subst c14);(have H1 : ((host_reader_next.f x1000_4 x1001_4 x1002_4 x1003_4 44).bind fun bt158 => (if bt158.1 = true then (host_reader_spans.l0 kj4 y150 bt158.2.1 bt158.2.2.1 bt158.2.2.2.1 bt158.2.2.2.2) else ((host_reader_wrong.f bt158.2.1 bt158.2.2.1 bt158.2.2.2.1 bt158.2.2.2.2).bind fun bt163 => (host_reader_spans.l0 kj4 y150 bt163.1 bt163.2.1 bt163.2.2.1 bt163.2.2.2)))) = some (r1,r2,r3,r4,r5):=by rw [if_neg (show ¬ (false = true) by decide)] at H;exact H);(clear H);(have H:=H1);(clear H1);(replace H:=Option.bind_eq_some_iff.mp H);(obtain ⟨⟨t158,t159,t160,t161,t162⟩,A150,H⟩:=H);(replace H : (if t158 = true then (host_reader_spans.l0 kj4 y150 t159 t160 t161 t162) else ((host_reader_wrong.f t159 t160 t161 t162).bind fun bt163 => (host_reader_spans.l0 kj4 y150 bt163.1 bt163.2.1 bt163.2.2.1 bt163.2.2.2))) = some (r1,r2,r3,r4,r5):=H);(have A15:=Aside0.mk A150);(clear A150);(by_cases c16 : t158 = true)
        ·(subst c16);(have H1 : (host_reader_spans.l0 kj4 y150 t159 t160 t161 t162) = some (r1,r2,r3,r4,r5):=by rw [if_pos rfl] at H;exact H);(clear H);(have H:=H1);(clear H1);(have H':=Aside0.mk H);(clear H);(go_wp2_with (first|((with_reducible refine gate_callee (f:=25) rfl ?_);refine goesL_ (some 26) rfl rfl Tryd.func25 (by kernel_rfl) rfl #[.pointer (some ⟨g,0,none⟩),.int .u8 44] rfl (by (try simp only [List.map_toArray,List.map_cons,List.map_nil]);first|done|rfl|(simp only [List.length_drop,List.length_take];rfl)) ?_;(with_reducible refine (host_reader_next.calls g x1000_4 x1001_4 x1002_4 x1003_4 44 true t159 t160 t161 t162 w0 _ ?side1 ?side2 A15.out).mono ?_);(case side1 => repeat (first|(with_reducible first|exact HI0.out|apply IsS49.alloc|apply IsS49.drewN|apply IsS49.drew|apply IsS49.set_0|apply IsS49.set_1|apply IsS49.set_2|apply IsS49.set_3)|exact HI0.out));(case side2 => repeat (first|(with_reducible first|exact HB.out|apply below_alloc|apply pw_below_drewN|apply below_drew1|refine below_set ?_ (IsS49.ge HI0.out))|exact HB.out));rintro e w17 ⟨rfl,hi,hb,hk⟩;refine ⟨_,rfl,?_⟩;have n0_:=Aside0.mk (Kd.R_mono (Kd.R_keep (IsS49.apart (show IsS49 w0 _ g x1000_4 x1001_4 x1002_4 x1003_4 from by repeat (first|(with_reducible first|exact HI0.out|apply IsS49.alloc|apply IsS49.drewN|apply IsS49.drew|apply IsS49.set_0|apply IsS49.set_1|apply IsS49.set_2|apply IsS49.set_3)|exact HI0.out)) (by (with_reducible repeat (first|apply Kd.R_alloc|apply Kd.R_drewN|apply Kd.R_drew));exact HO_3.out) (by decide)) hk (fun _ h => h.2)) (fun _ h => h.1));have n1_:=Aside0.mk (KeepBut.trans (by repeat (first|(with_reducible first|exact HK.out|apply KeepBut.set_|apply keep_drewN|apply keep_drew|apply keep_alloc)|exact HK.out)) hk (.inl rfl));have n2_:=Aside0.mk (hb);have n3_:=Aside0.mk (hi);clear HO_3;clear HK;clear HB;clear HI0;have HO_3:=n0_;have HK:=n1_;have HB:=n2_;have HI0:=n3_;clear n0_ n1_ n2_ n3_;(try clear hb);(try clear hb2);(try clear hk);(try clear hi))));(go_roundg kj4)
         case measure => have:=HK1.out;have:=HJ4.out;omega
         case rel => exact ⟨(y150),(t159),(t160),(t161),(t162),H',⟨by have:=HK1.out;have:=HJ4.out;omega⟩,⟨by (with_reducible repeat (first|apply Kd.R_alloc|apply Kd.R_drewN|apply Kd.R_drew));exact HO_3.out⟩,⟨by repeat (first|(with_reducible first|exact HI0.out|apply IsS49.alloc|apply IsS49.drewN|apply IsS49.drew|apply IsS49.set_0|apply IsS49.set_1|apply IsS49.set_2|apply IsS49.set_3)|exact HI0.out)⟩,⟨by repeat (first|(with_reducible first|exact HK.out|apply KeepBut.set_|apply keep_drewN|apply keep_drew|apply keep_alloc)|exact HK.out)⟩,⟨by repeat (first|(with_reducible first|exact HB.out|apply below_alloc|apply pw_below_drewN|apply below_drew1|refine below_set ?_ (IsS49.ge HI0.out))|exact HB.out)⟩⟩
        ·(replace c16:=Bool.eq_false_iff.mpr c16);(subst c16);(have H1 : ((host_reader_wrong.f t159 t160 t161 t162).bind fun bt163 => (host_reader_spans.l0 kj4 y150 bt163.1 bt163.2.1 bt163.2.2.1 bt163.2.2.2)) = some (r1,r2,r3,r4,r5):=by rw [if_neg (show ¬ (false = true) by decide)] at H;exact H);(clear H);(have H:=H1);(clear H1);(replace H:=Option.bind_eq_some_iff.mp H);(obtain ⟨⟨t163,t164,t165,t166⟩,A180,H⟩:=H);(replace H : (host_reader_spans.l0 kj4 y150 t163 t164 t165 t166) = some (r1,r2,r3,r4,r5):=H);(have A18:=Aside0.mk A180);(clear A180);(have H':=Aside0.mk H);(clear H);(go_wp2_with (first|((with_reducible refine gate_callee (f:=25) rfl ?_);refine goesL_ (some 26) rfl rfl Tryd.func25 (by kernel_rfl) rfl #[.pointer (some ⟨g,0,none⟩),.int .u8 44] rfl (by (try simp only [List.map_toArray,List.map_cons,List.map_nil]);first|done|rfl|(simp only [List.length_drop,List.length_take];rfl)) ?_;(with_reducible refine (host_reader_next.calls g x1000_4 x1001_4 x1002_4 x1003_4 44 false t159 t160 t161 t162 w0 _ ?side1 ?side2 A15.out).mono ?_);(case side1 => repeat (first|(with_reducible first|exact HI0.out|apply IsS49.alloc|apply IsS49.drewN|apply IsS49.drew|apply IsS49.set_0|apply IsS49.set_1|apply IsS49.set_2|apply IsS49.set_3)|exact HI0.out));(case side2 => repeat (first|(with_reducible first|exact HB.out|apply below_alloc|apply pw_below_drewN|apply below_drew1|refine below_set ?_ (IsS49.ge HI0.out))|exact HB.out));rintro e w19 ⟨rfl,hi,hb,hk⟩;refine ⟨_,rfl,?_⟩;have n0_:=Aside0.mk (Kd.R_mono (Kd.R_keep (IsS49.apart (show IsS49 w0 _ g x1000_4 x1001_4 x1002_4 x1003_4 from by repeat (first|(with_reducible first|exact HI0.out|apply IsS49.alloc|apply IsS49.drewN|apply IsS49.drew|apply IsS49.set_0|apply IsS49.set_1|apply IsS49.set_2|apply IsS49.set_3)|exact HI0.out)) (by (with_reducible repeat (first|apply Kd.R_alloc|apply Kd.R_drewN|apply Kd.R_drew));exact HO_3.out) (by decide)) hk (fun _ h => h.2)) (fun _ h => h.1));have n1_:=Aside0.mk (KeepBut.trans (by repeat (first|(with_reducible first|exact HK.out|apply KeepBut.set_|apply keep_drewN|apply keep_drew|apply keep_alloc)|exact HK.out)) hk (.inl rfl));have n2_:=Aside0.mk (hb);have n3_:=Aside0.mk (hi);clear HO_3;clear HK;clear HB;clear HI0;have HO_3:=n0_;have HK:=n1_;have HB:=n2_;have HI0:=n3_;clear n0_ n1_ n2_ n3_;(try clear hb);(try clear hb2);(try clear hk);(try clear hi))|((with_reducible refine gate_callee (f:=27) rfl ?_);refine goesL_ (some 29) rfl rfl Tryd.func27 (by kernel_rfl) rfl #[.pointer (some ⟨g,0,none⟩)] rfl (by (try simp only [List.map_toArray,List.map_cons,List.map_nil]);first|done|rfl|(simp only [List.length_drop,List.length_take];rfl)) ?_;(with_reducible refine (host_reader_wrong.calls g t159 t160 t161 t162 t163 t164 t165 t166 w0 _ ?side1 ?side2 A18.out).mono ?_);(case side1 => repeat (first|(with_reducible first|exact HI0.out|apply IsS49.alloc|apply IsS49.drewN|apply IsS49.drew|apply IsS49.set_0|apply IsS49.set_1|apply IsS49.set_2|apply IsS49.set_3)|exact HI0.out));(case side2 => repeat (first|(with_reducible first|exact HB.out|apply below_alloc|apply pw_below_drewN|apply below_drew1|refine below_set ?_ (IsS49.ge HI0.out))|exact HB.out));rintro e w20 ⟨rfl,hi,hb,hk⟩;refine ⟨_,rfl,?_⟩;have n0_:=Aside0.mk (Kd.R_mono (Kd.R_keep (IsS49.apart (show IsS49 w0 _ g t159 t160 t161 t162 from by repeat (first|(with_reducible first|exact HI0.out|apply IsS49.alloc|apply IsS49.drewN|apply IsS49.drew|apply IsS49.set_0|apply IsS49.set_1|apply IsS49.set_2|apply IsS49.set_3)|exact HI0.out)) (by (with_reducible repeat (first|apply Kd.R_alloc|apply Kd.R_drewN|apply Kd.R_drew));exact HO_3.out) (by decide)) hk (fun _ h => h.2)) (fun _ h => h.1));have n1_:=Aside0.mk (KeepBut.trans (by repeat (first|(with_reducible first|exact HK.out|apply KeepBut.set_|apply keep_drewN|apply keep_drew|apply keep_alloc)|exact HK.out)) hk (.inl rfl));have n2_:=Aside0.mk (hb);have n3_:=Aside0.mk (hi);clear HO_3;clear HK;clear HB;clear HI0;have HO_3:=n0_;have HK:=n1_;have HB:=n2_;have HI0:=n3_;clear n0_ n1_ n2_ n3_;(try clear hb);(try clear hb2);(try clear hk);(try clear hi))));(go_roundg kj4)
         case measure => have:=HK1.out;have:=HJ4.out;omega
         case rel => exact ⟨(y150),(t163),(t164),(t165),(t166),H',⟨by have:=HK1.out;have:=HJ4.out;omega⟩,⟨by (with_reducible repeat (first|apply Kd.R_alloc|apply Kd.R_drewN|apply Kd.R_drew));exact HO_3.out⟩,⟨by repeat (first|(with_reducible first|exact HI0.out|apply IsS49.alloc|apply IsS49.drewN|apply IsS49.drew|apply IsS49.set_0|apply IsS49.set_1|apply IsS49.set_2|apply IsS49.set_3)|exact HI0.out)⟩,⟨by repeat (first|(with_reducible first|exact HK.out|apply KeepBut.set_|apply keep_drewN|apply keep_drew|apply keep_alloc)|exact HK.out)⟩,⟨by repeat (first|(with_reducible first|exact HB.out|apply below_alloc|apply pw_below_drewN|apply below_drew1|refine below_set ?_ (IsS49.ge HI0.out))|exact HB.out)⟩⟩
    ·(rw [if_neg c4] at H);(exact absurd H (by simp))
   ·(rw [if_neg c2] at H);(have c2b0 : (x1002_1 == 0 && (x1003_1 == 0)) = false:=by simpa using c2);((try (have c2b1 : decide (x1002_1 = 0 && (x1003_1 == 0)) = false:=by simpa using c2)));((try (have c2b2 : (x1002_1 == 0 && (x1003_1 == 0)) = false:=by simpa using c2)));((try (have c2b3 : ¬ (x1002_1 = 0 && (x1003_1 == 0)):=by simpa using c2)));(clear c2);(simp only [Option.some.injEq,Prod.mk.injEq] at H);(obtain ⟨rfl,rfl,rfl,rfl,rfl⟩:=H);(obtain ⟨HGz21,hgz21⟩:=HI0.out);(have hcz21_0:=cellS49_0 HGz21);(have hcz21_1:=cellS49_1 HGz21);(have hcz21_2:=cellS49_2 HGz21);(have hcz21_3:=cellS49_3 HGz21);(have hfz21_0:=blk_frozen HGz21 0);(have hfz21_1:=blk_frozen HGz21 1);(have hfz21_2:=blk_frozen HGz21 2);(have hfz21_3:=blk_frozen HGz21 3);(clear HGz21 hgz21);(go_wp2);(go_ret);(exact ⟨_,by first|rfl|(simp [errW_none,errW_some] <;> rfl)|(simp [*,errW_none,errW_some] <;> rfl),by (with_reducible repeat (first|apply Kd.R_alloc|apply Kd.R_drewN|apply Kd.R_drew));exact HO_3.out,by repeat (first|(with_reducible first|exact HI0.out|apply IsS49.alloc|apply IsS49.drewN|apply IsS49.drew|apply IsS49.set_0|apply IsS49.set_1|apply IsS49.set_2|apply IsS49.set_3)|exact HI0.out),by repeat (first|(with_reducible first|exact HB.out|apply below_alloc|apply pw_below_drewN|apply below_drew1|refine below_set ?_ (IsS49.ge HI0.out))|exact HB.out),by repeat (first|(with_reducible first|exact HK.out|apply KeepBut.set_|apply keep_drewN|apply keep_drew|apply keep_alloc)|exact HK.out)⟩)
def host_span_text.f (a0_0 : Int) (a0_1 : Int) (a0_2 : Int) (a1 : Int) : Option (ByteArray) := (strconv_Itoa.f a1).bind fun t168 => ((strings_Repeat.f (⟨#[48]⟩ : ByteArray) (mx 0 (wrap64 (a0_2 - (t168.size : Int))))).bind fun t169 => (if t169.size + t168.size ≤ 9223372036854775807 then (some (t169 ++ t168)) else (none)))
set_option maxHeartbeats 8000000 in
set_option maxRecDepth 100000 in
theorem host_span_text.calls (a0_0 : Int) (a0_1 : Int) (a0_2 : Int) (a1 : Int) (r : ByteArray) (w : World) (h : host_span_text.f a0_0 a0_1 a0_2 a1 = some r) (hG_ : Glob w) :
  Calls Tryd.prog 28 #[.agg #[.int .i64 a0_0,.int .i64 a0_1,.int .i64 a0_2],.int .i64 a1] w fun e w' => e = .returned (.string r)∧Below w.heap.size w w':=by
 (have HG_:=Aside0.mk hG_);(clear hG_);(have hu54:=Tryd.underlying54);(have HB:=Aside0.mk (Below.refl w.heap.size w));(have H : ((strconv_Itoa.f a1).bind fun t168 => ((strings_Repeat.f (⟨#[48]⟩ : ByteArray) (mx 0 (wrap64 (a0_2 - (t168.size : Int))))).bind fun t169 => (if t169.size + t168.size ≤ 9223372036854775807 then (some (t169 ++ t168)) else (none)))) = some r:=h);(clear h);(replace H:=Option.bind_eq_some_iff.mp H);(obtain ⟨t168,A30,H⟩:=H);(replace H : ((strings_Repeat.f (⟨#[48]⟩ : ByteArray) (mx 0 (wrap64 (a0_2 - (t168.size : Int))))).bind fun t169 => (if t169.size + t168.size ≤ 9223372036854775807 then (some (t169 ++ t168)) else (none))) = some r:=H);(have A3:=Aside0.mk A30);(clear A30);(obtain ⟨ji4,hji4⟩ : ∃ j_ : Int,(mx 0 (wrap64 (a0_2 - (t168.size : Int)))) = j_:=⟨_,rfl⟩);(replace H : ((strings_Repeat.f (⟨#[48]⟩ : ByteArray) (ji4)).bind fun t169 => (if t169.size + t168.size ≤ 9223372036854775807 then (some (t169 ++ t168)) else (none))) = some r:=by first|(rw [hji4] at H;exact H)|(simp only [hji4] at H ⊢;exact H));((try rw [hji4] at A3));((try (have hji4l : 0 ≤ ji4:=by (rw [← hji4];unfold mx;(repeat' split) <;> omega))));((try (have hji4m : 0 ≤ ji4:=by omega)));(have hji4_ : (if 0 < (wrap64 (a0_2 - (t168.size : Int))) then (wrap64 (a0_2 - (t168.size : Int))) else 0) = ji4:=hji4);(replace H:=Option.bind_eq_some_iff.mp H);(obtain ⟨t169,A50,H⟩:=H);(replace H : (if t169.size + t168.size ≤ 9223372036854775807 then (some (t169 ++ t168)) else (none)) = some r:=H);(have A5:=Aside0.mk A50);(clear A50);(by_cases c6 : t169.size + t168.size ≤ 9223372036854775807);·(rw [if_pos c6] at H);(have c6b0:=eq_true c6);(have c6b1 : decide (t169.size + t168.size ≤ 9223372036854775807) = true:=decide_eq_true c6);(try have c6b2 : (9223372036854775807 < t169.size + t168.size) = False:=eq_false (Nat.not_lt.2 c6));(obtain rfl:=Option.some.inj H);(go_enter Tryd.func28,Tryd.ntmps28);(go_wp2_with (first|((with_reducible refine gate_dst (N:=2) rfl ?_);refine box_event ?hg (N:=2) ?hd (cs:=#[.int .i64 a0_0,.int .i64 a0_1,.int .i64 a0_2]) (t:=54) ?hr ?_;(case hd => rfl);(case hg => rfl);(case hr => first|(go_simp;done)|(go_simp;rfl));intro gb167 hg w7 hbox hb;have n0_:=Aside0.mk (below_step (by repeat (first|(with_reducible first|exact HB.out|apply below_alloc|apply pw_below_drewN|apply below_drew1)|exact HB.out)) hb);have n1_:=Aside0.mk (hbox);have n2_:=Aside0.mk ((by rw [hg];exact (below_size (by repeat (first|(with_reducible first|exact HB.out|apply below_alloc|apply pw_below_drewN|apply below_drew1)|exact HB.out))) : w.heap.size ≤ gb167));have n3_:=Aside0.mk ((by rw [hg];exact (below_size (by repeat (first|(with_reducible first|exact HB.out|apply below_alloc|apply pw_below_drewN|apply below_drew1)|exact HB.out))) : w.heap.size ≤ gb167));clear HB;have HB:=n0_;have BK167:=n1_;have GW167:=n2_;have GE167:=n3_;clear n0_ n1_ n2_ n3_;clear hb hbox hg)|((with_reducible refine gate_callee (f:=45) rfl ?_);refine goesL_ (some 7) rfl rfl Tryd.func45 (by kernel_rfl) rfl #[.int .i64 a1] rfl (by (try simp only [List.map_toArray,List.map_cons,List.map_nil]);first|done|rfl|(simp only [List.length_drop,List.length_take];rfl)) ?_;(with_reducible refine (strconv_Itoa.calls a1 t168 _ A3.out (HG_.out.below (by repeat (first|(with_reducible first|exact HB.out|apply below_alloc|apply pw_below_drewN|apply below_drew1|refine below_set ?_ GE167.out)|exact HB.out)))).mono ?_);rintro e w8 ⟨rfl,hb⟩;refine ⟨_,rfl,?_⟩;have n0_:=Aside0.mk (blk_below (g:=gb167) (o:=.cells #[.int .i64 a0_0,.int .i64 a0_1,.int .i64 a0_2] 54 (0,0)) (by (with_reducible repeat (first|refine blk_drewN ?_ _|refine blk_drew ?_|refine blk_alloc ?_ _));exact BK167.out) hb);have n1_:=Aside0.mk (below_step (by repeat (first|(with_reducible first|exact HB.out|apply below_alloc|apply pw_below_drewN|apply below_drew1|refine below_set ?_ GE167.out)|exact HB.out)) hb);clear BK167;clear HB;have BK167:=n0_;have HB:=n1_;clear n0_ n1_;(try clear hb);(try clear hb2);(try clear hk);(try clear hi);have hcz9_0 : w8.cell? ⟨gb167,0,none⟩ = some (.int .i64 a0_0):=(blk_cell BK167.out 0).trans rfl;have hcz9_1 : w8.cell? ⟨gb167,1,none⟩ = some (.int .i64 a0_1):=(blk_cell BK167.out 1).trans rfl;have hcz9_2 : w8.cell? ⟨gb167,2,none⟩ = some (.int .i64 a0_2):=(blk_cell BK167.out 2).trans rfl;have hfz9_0:=blk_frozen BK167.out 0;have hfz9_1:=blk_frozen BK167.out 1;have hfz9_2:=blk_frozen BK167.out 2)|((with_reducible refine gate_callee (f:=46) rfl ?_);refine goesL_ (some 14) rfl rfl Tryd.func46 (by kernel_rfl) rfl #[.string (⟨#[48]⟩ : ByteArray),.int .i64 ji4] rfl (by (try simp only [List.map_toArray,List.map_cons,List.map_nil]);first|done|(simp only [hji4];rfl)|rfl|(simp only [List.length_drop,List.length_take];rfl)) ?_;(with_reducible refine (strings_Repeat.calls (⟨#[48]⟩ : ByteArray) ji4 t169 _ A5.out).mono ?_);rintro e w10 ⟨rfl,hb⟩;refine ⟨_,rfl,?_⟩;have n0_:=Aside0.mk (blk_below (g:=gb167) (o:=.cells #[.int .i64 a0_0,.int .i64 a0_1,.int .i64 a0_2] 54 (0,0)) (by (with_reducible repeat (first|refine blk_drewN ?_ _|refine blk_drew ?_|refine blk_alloc ?_ _));exact BK167.out) hb);have n1_:=Aside0.mk (below_step (by repeat (first|(with_reducible first|exact HB.out|apply below_alloc|apply pw_below_drewN|apply below_drew1|refine below_set ?_ GE167.out)|exact HB.out)) hb);clear BK167;clear HB;have BK167:=n0_;have HB:=n1_;clear n0_ n1_;(try clear hb);(try clear hb2);(try clear hk);(try clear hi))));(go_ret);(exact ⟨by first|rfl|(simp [errW_none,errW_some] <;> rfl)|(simp only [← hji4];first|rfl|(simp [errW_none,errW_some] <;> rfl))|(simp [*,errW_none,errW_some] <;> rfl),by repeat (first|(with_reducible first|exact HB.out|apply below_alloc|apply pw_below_drewN|apply below_drew1|refine below_set ?_ GE167.out)|exact HB.out)⟩)
 ·(rw [if_neg c6] at H);(exact absurd H (by simp))
end Go.Proofs.YtoammgpfbdcphaaDoor.PH
end
section
set_option linter.unusedVariables false
set_option linter.unusedSimpArgs false
namespace Go.Proofs.YtoammgpfbdcphaaDoor.Num
def isDig (c : UInt8) : Bool := decide (48 ≤ c.toNat) && decide (c.toNat ≤ 57)
theorem isDig_iff (c : UInt8) : isDig c = true ↔ 48 ≤ c.toNat ∧ c.toNat ≤ 57 := by simp [isDig]
def valA (a : Nat) : List UInt8 → Nat
  | [] => a
  | c :: l => valA (a * 10 + (c.toNat - 48)) l
def valD (l : List UInt8) : Nat := valA 0 l
theorem pow_step (a d n : Nat) (hd : d < 10) : (a * 10 + d + 1) * 10 ^ n ≤ (a + 1) * 10 ^ (n + 1) := by
  rw [Nat.pow_succ]
  generalize 10 ^ n = p
  have h1 : a * 10 + d + 1 ≤ (a + 1) * 10 := by omega
  have h2 := Nat.mul_le_mul_right p h1
  rw [Nat.mul_comm p 10, ← Nat.mul_assoc]
  exact h2
theorem valA_lt : ∀ (l : List UInt8) (h : ∀ c ∈ l, isDig c = true) (a : Nat), valA a l < (a + 1) * 10 ^ l.length
  | [], _, a => by show a < (a + 1) * 1; omega
  | c :: l, h, a => by
    have hc := (isDig_iff c).1 (h c (List.mem_cons_self ..))
    have h1 := valA_lt l (fun d hd => h d (List.mem_cons_of_mem _ hd)) (a * 10 + (c.toNat - 48))
    show valA (a * 10 + (c.toNat - 48)) l < (a + 1) * 10 ^ (l.length + 1)
    exact Nat.lt_of_lt_of_le h1 (pow_step a (c.toNat - 48) l.length (by omega))
theorem valD_lt (l : List UInt8) (h : ∀ c ∈ l, isDig c = true) : valD l < 10 ^ l.length := by
  have := valA_lt l h 0
  rw [Nat.zero_add, Nat.one_mul] at this
  exact this
theorem pow_ge (a d n : Nat) : a * 10 ^ (n + 1) ≤ (a * 10 + d) * 10 ^ n := by
  rw [Nat.pow_succ]
  generalize 10 ^ n = p
  have h2 := Nat.mul_le_mul_right p (Nat.le_add_right (a * 10) d)
  rw [Nat.mul_comm p 10, ← Nat.mul_assoc]
  exact h2
theorem valA_ge : ∀ (l : List UInt8) (a : Nat), a * 10 ^ l.length ≤ valA a l
  | [], a => by show a * 1 ≤ a; omega
  | c :: l, a => Nat.le_trans (pow_ge a (c.toNat - 48) l.length) (valA_ge l (a * 10 + (c.toNat - 48)))
theorem parse_digits (l : List UInt8) (h : ∀ c ∈ l, isDig c = true) : ∀ a, valA a l < 18446744073709551616 → Go.Lib.parseUint10 a l = .ok (valA a l) := by
  induction l with
  | nil => intro a ha; rfl
  | cons c l ih =>
    intro a ha
    have hc := (isDig_iff c).1 (h c (by simp))
    have hm := valA_ge l (a * 10 + (c.toNat - 48))
    have h1 : 1 ≤ 10 ^ l.length := Nat.one_le_pow _ _ (by decide)
    have h3 : valA a (c :: l) = valA (a * 10 + (c.toNat - 48)) l := rfl
    rw [h3] at ha ⊢
    have h2 : a * 10 + (c.toNat - 48) < 18446744073709551616 := by
      have : (a * 10 + (c.toNat - 48)) * 1 ≤ (a * 10 + (c.toNat - 48)) * 10 ^ l.length := Nat.mul_le_mul_left _ h1
      omega
    unfold Go.Lib.parseUint10
    rw [if_pos hc, if_neg (by omega), if_neg (by omega)]
    exact ih (fun d hd => h d (by simp [hd])) _ ha
theorem atoi_digits (l : List UInt8) (h : ∀ c ∈ l, isDig c = true) (hne : l ≠ []) (hl : l.length ≤ 18) : Go.Lib.atoiAll l = .ok (valD l : Int) := by
  have hv := valD_lt l h
  have hp : 10 ^ l.length ≤ 10 ^ 18 := Nat.pow_le_pow_right (by decide) hl
  have hb : valD l < 1000000000000000000 := Nat.lt_of_lt_of_le hv hp
  cases l with
  | nil => exact absurd rfl hne
  | cons c r =>
    have hc := (isDig_iff c).1 (h c (by simp))
    have e := parse_digits (c :: r) h 0 (by show valD (c :: r) < _; omega)
    unfold Go.Lib.atoiAll
    simp only
    rw [if_neg (by omega)]
    unfold Go.Lib.parseMag
    rw [if_neg (by simp), e]
    have hb' : valA 0 (c :: r) < 1000000000000000000 := hb
    simp only
    rw [if_neg (by omega), if_neg (by omega), if_neg (by omega)]
    rfl
end Go.Proofs.YtoammgpfbdcphaaDoor.Num
end
section
namespace Go.Proofs.YtoammgpfbdcphaaDoor.Hn
open Go.Proofs.YtoammgpfbdcphaaDoor.Num
set_option linter.unusedVariables false
set_option linter.unusedSimpArgs false
def Digs (d : List UInt8) : Prop := ∀ c ∈ d, isDig c = true
end Go.Proofs.YtoammgpfbdcphaaDoor.Hn
end
section
set_option linter.unusedVariables false
set_option linter.unusedSimpArgs false
namespace Go.Proofs.YtoammgpfbdcphaaDoor.Txt
open Go.RowKit Go.Proofs.YtoammgpfbdcphaaDoorW.PrintWords
def L (s : ByteArray) : List UInt8 := s.data.toList
theorem L_length (s : ByteArray) : (L s).length = s.size := by show s.data.toList.length = s.data.size; exact Array.length_toList
theorem L_inj {s t : ByteArray} (h : L s = L t) : s = t := by
  cases s; cases t; congr 1; exact Array.toList_inj.1 h
theorem toList_L (s : ByteArray) : s.toList = L s := ByteArray.toList_eq s
theorem bt_L (s : ByteArray) (p : Nat) (h : p < s.size) : bt s (p : Int) = ((L s)[p]'(by rw [L_length]; exact h)).toNat := by
  unfold bt
  simp only [Int.toNat_natCast]
  rw [dif_pos h]
  rfl
theorem extract_L (s : ByteArray) (a b : Nat) : L (s.extract a b) = ((L s).drop a).take (b - a) := Go.Lib.extract_data s a b
theorem wrap_nat {p : Nat} (h : p + 1 ≤ 9223372036854775807) : wrap64 ((p : Int) + 1) = ((p + 1 : Nat) : Int) := by unfold wrap64; omega
def run (f : UInt8 → Bool) (l : List UInt8) (p : Nat) : Nat := p + ((l.drop p).takeWhile f).length
theorem run_le (f : UInt8 → Bool) (l : List UInt8) (p : Nat) (h : p ≤ l.length) : run f l p ≤ l.length := by
  have := (List.takeWhile_prefix f (l := l.drop p)).length_le
  rw [List.length_drop] at this
  unfold run; omega
theorem le_run (f : UInt8 → Bool) (l : List UInt8) (p : Nat) : p ≤ run f l p := by unfold run; omega
theorem run_on (f : UInt8 → Bool) (l : List UInt8) (p : Nat) (h : p < l.length) (hf : f l[p] = true) : run f l p = run f l (p + 1) := by
  unfold run
  rw [List.drop_eq_getElem_cons h, List.takeWhile_cons_of_pos hf, List.length_cons]; omega
theorem run_off (f : UInt8 → Bool) (l : List UInt8) (p : Nat) (h : p < l.length) (hf : f l[p] = false) : run f l p = p := by
  unfold run
  rw [List.drop_eq_getElem_cons h, List.takeWhile_cons_of_neg (by simp [hf])]; rfl
theorem run_stop (f : UInt8 → Bool) (l : List UInt8) (p : Nat) (h : run f l p < l.length) (hp : p ≤ l.length) : f (l[run f l p]) = false := by
  induction hd : l.length - p generalizing p with
  | zero => have := le_run f l p; omega
  | succ d ih =>
    by_cases hlt : p < l.length
    · cases hf : f l[p] with
      | true =>
        have e := run_on f l p hlt hf
        have := ih (p + 1) (by rw [← e]; exact h) (by omega) (by omega)
        simp only [e]
        exact this
      | false =>
        have e := run_off f l p hlt hf
        simp only [e]
        exact hf
    · omega
end Go.Proofs.YtoammgpfbdcphaaDoor.Txt
end
section
namespace Go.Proofs.YtoammgpfbdcphaaDoor.Hx
open Go.RowKit Go.Proofs.YtoammgpfbdcphaaDoor.Lib Go.Proofs.YtoammgpfbdcphaaDoor.PH Go.Proofs.YtoammgpfbdcphaaDoor.Txt Go.Proofs.YtoammgpfbdcphaaDoor.Num Go.Proofs.YtoammgpfbdcphaaDoor.Hn Go.Proofs.YtoammgpfbdcphaaDoorW.PrintWords Go.Proofs.YtoammgpfbdcphaaDoorW.PrintLast Go.Proofs.YtoammgpfbdcphaaDoorW.PrintMore
set_option linter.unusedVariables false
set_option linter.unusedSimpArgs false
theorem Ev.shift {α : Type} {g : Nat → Option α} {r : α} (h : Ev (fun k => g (k + 1)) r) : Ev g r := by
  obtain ⟨K, hK⟩ := h
  refine ⟨K + 1, fun k hk => ?_⟩
  obtain ⟨m, rfl⟩ : ∃ m, k = m + 1 := ⟨k - 1, by omega⟩
  exact hK m (by omega)
theorem digit_f (c : UInt8) : host_isDigit.f (c.toNat : Int) = some (isDig c) := by
  unfold host_isDigit.f isDig
  by_cases h : (c.toNat : Int) ≥ 48
  · rw [if_pos h, decide_eq_true (show 48 ≤ c.toNat by omega)]
    by_cases h2 : (c.toNat : Int) ≤ 57
    · rw [decide_eq_true h2, decide_eq_true (show c.toNat ≤ 57 by omega)]; rfl
    · rw [decide_eq_false h2, decide_eq_false (show ¬ c.toNat ≤ 57 by omega)]; rfl
  · rw [if_neg h, decide_eq_false (show ¬ 48 ≤ c.toNat by omega)]; rfl
theorem atoi_f (b : ByteArray) (h : Digs (L b)) (hne : L b ≠ []) (hl : (L b).length ≤ 6) : strconv_Atoi.f b = some ((valD (L b) : Int), none) := by
  unfold strconv_Atoi.f atoiVal
  have : b.size ≤ 6 := by rw [← L_length]; exact hl
  rw [if_pos (by omega)]
  have e := atoi_digits (L b) h hne (by omega)
  unfold L at e
  rw [e]; rfl
end Go.Proofs.YtoammgpfbdcphaaDoor.Hx
end
section
namespace Go.Proofs.YtoammgpfbdcphaaDoor.Hx
open Go.RowKit Go.Proofs.YtoammgpfbdcphaaDoor.Lib Go.Proofs.YtoammgpfbdcphaaDoor.PH Go.Proofs.YtoammgpfbdcphaaDoor.Txt Go.Proofs.YtoammgpfbdcphaaDoor.Num Go.Proofs.YtoammgpfbdcphaaDoor.Hn Go.Proofs.YtoammgpfbdcphaaDoorW.PrintWords Go.Proofs.YtoammgpfbdcphaaDoorW.PrintLast Go.Proofs.YtoammgpfbdcphaaDoorW.PrintMore
set_option linter.unusedVariables false
set_option linter.unusedSimpArgs false
end Go.Proofs.YtoammgpfbdcphaaDoor.Hx
end
