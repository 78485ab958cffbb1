/- Part 6 of the proof of HostBackCardSaid. -/
import Derived.Test.YtoammgpfbdcphaaDoorZ03
import Derived.Test.YtoammgpfbdcphaaDoorZ05
import Derived.Lib.ItoaNum
import Derived.Lib.AtoiAll
import Derived.Test.YtoammgpfbdcphaaDoorZ01
import Derived.Lib.Strings
section
namespace Go.Proofs.YtoammgpfbdcphaaDoor.PH
open Go.RowKit Go.Proofs.YtoammgpfbdcphaaDoor.Lib Go.Proofs.YtoammgpfbdcphaaDoorW.PrintWords Go.Proofs.YtoammgpfbdcphaaDoorW.PrintLast Go.Proofs.YtoammgpfbdcphaaDoorW.PrintMore
attribute [local go_sem] max2_int min2_int max_two min_two max_three min_three max_four min_four   
set_option linter.unusedVariables false
set_option linter.unusedSimpArgs false
attribute [local go_sem high] eqA27
mutual
def host_reader_spans.l0 : Nat → List (S54) → ByteArray → Int → Int → Int → Option ((List (S54)) × ByteArray × Int × Int × Int)
 | 0, _, _, _, _, _ => none
 | k + 1, x3, x1000, x1001, x1002, x1003 => if (x1002 == 0 && (x1003 == 0)) = true then ((host_reader_span.f k x1000 x1001 x1002 x1003).bind fun bt143 => (if x3.length < 5864062014805 then ((some (x3 ++ [(⟨bt143.1, bt143.2.1, bt143.2.2.1⟩ : S54)] : List (S54))).bind fun y150 => (if (!(bt143.2.2.2.2.2.1 == 0) || (!(bt143.2.2.2.2.2.2 == 0))) = true then (host_reader_spans.j1 k y150 true bt143.2.2.2.1 bt143.2.2.2.2.1 bt143.2.2.2.2.2.1 bt143.2.2.2.2.2.2) else ((host_reader_next.f bt143.2.2.2.1 bt143.2.2.2.2.1 bt143.2.2.2.2.2.1 bt143.2.2.2.2.2.2 93).bind fun bt153 => (host_reader_spans.j1 k y150 bt153.1 bt153.2.1 bt153.2.2.1 bt153.2.2.2.1 bt153.2.2.2.2)))) else (none))) else (some (x3, x1000, x1001, x1002, x1003))
def host_reader_spans.j1 : Nat → List (S54) → Bool → ByteArray → Int → Int → Int → Option ((List (S54)) × ByteArray × Int × Int × Int)
 | 0, _, _, _, _, _, _ => none
 | k + 1, x3, x24, x1000, x1001, x1002, x1003 => if x24 = true then (some (x3, x1000, x1001, x1002, x1003)) else ((host_reader_next.f x1000 x1001 x1002 x1003 44).bind fun bt158 => (if bt158.1 = true then (host_reader_spans.l0 k x3 bt158.2.1 bt158.2.2.1 bt158.2.2.2.1 bt158.2.2.2.2) else ((host_reader_wrong.f bt158.2.1 bt158.2.2.1 bt158.2.2.2.1 bt158.2.2.2.2).bind fun bt163 => (host_reader_spans.l0 k x3 bt163.1 bt163.2.1 bt163.2.2.1 bt163.2.2.2))))
end
def host_reader_spans.f (k : Nat) (s0_0 : ByteArray) (s0_1 : Int) (s0_2 : Int) (s0_3 : Int) : Option ((List (S54)) × ByteArray × Int × Int × Int) := host_reader_spans.l0 k ([] : List (S54)) s0_0 s0_1 s0_2 s0_3
theorem host_reader_spans.mono_l : ∀ k,(∀ y0 y1 y2 y3 y4,LeO (host_reader_spans.l0 k y0 y1 y2 y3 y4) (host_reader_spans.l0 (k + 1) y0 y1 y2 y3 y4))∧(∀ y0 y1 y2 y3 y4 y5,LeO (host_reader_spans.j1 k y0 y1 y2 y3 y4 y5) (host_reader_spans.j1 (k + 1) y0 y1 y2 y3 y4 y5))
|0 => ⟨fun _ _ _ _ _ r h => by simp [host_reader_spans.l0] at h,fun _ _ _ _ _ _ r h => by simp [host_reader_spans.j1] at h⟩
|k + 1 => by
  obtain ⟨ih0,ih1⟩:=host_reader_spans.mono_l k
  refine ⟨?_,?_⟩
  ·intro y0 y1 y2 y3 y4
   unfold host_reader_spans.l0
   repeat' first
  |(with_reducible exact ih0 _ _ _ _ _)
  |(with_reducible exact ih1 _ _ _ _ _ _)
  |(with_reducible exact host_reader_span.mono _ _ _ _ _)
  |(with_reducible exact LeO.refl _)
  |(with_reducible exact LeO.none _)
  |(with_reducible refine LeO.ite ?_ ?_)
  |(with_reducible refine LeO.bind ?_ (fun _ => ?_))
  |exact ih0 _ _ _ _ _
  |exact ih1 _ _ _ _ _ _
  |exact host_reader_span.mono _ _ _ _ _
  |exact LeO.none _
  |refine LeO.ite ?_ ?_
  |refine LeO.bind ?_ (fun _ => ?_)
  ·intro y0 y1 y2 y3 y4 y5
   unfold host_reader_spans.j1
   repeat' first
  |(with_reducible exact ih0 _ _ _ _ _)
  |(with_reducible exact ih1 _ _ _ _ _ _)
  |(with_reducible exact host_reader_span.mono _ _ _ _ _)
  |(with_reducible exact LeO.refl _)
  |(with_reducible exact LeO.none _)
  |(with_reducible refine LeO.ite ?_ ?_)
  |(with_reducible refine LeO.bind ?_ (fun _ => ?_))
  |exact ih0 _ _ _ _ _
  |exact ih1 _ _ _ _ _ _
  |exact host_reader_span.mono _ _ _ _ _
  |exact LeO.none _
  |refine LeO.ite ?_ ?_
  |refine LeO.bind ?_ (fun _ => ?_)
theorem host_reader_spans.mono : ∀ a0 a1 a2 a3 k,LeO (host_reader_spans.f k a0 a1 a2 a3) (host_reader_spans.f (k + 1) a0 a1 a2 a3):=by
 (intro a0 a1 a2 a3 k);(obtain ⟨ih0,ih1⟩:=host_reader_spans.mono_l k);(unfold host_reader_spans.f)
 repeat' first
  |(with_reducible exact ih0 _ _ _ _ _)
  |(with_reducible exact ih1 _ _ _ _ _ _)
  |(with_reducible exact host_reader_span.mono _ _ _ _ _)
  |(with_reducible exact LeO.refl _)
  |(with_reducible exact LeO.none _)
  |(with_reducible refine LeO.ite ?_ ?_)
  |(with_reducible refine LeO.bind ?_ (fun _ => ?_))
  |exact ih0 _ _ _ _ _
  |exact ih1 _ _ _ _ _ _
  |exact host_reader_span.mono _ _ _ _ _
  |exact LeO.none _
  |refine LeO.ite ?_ ?_
  |refine LeO.bind ?_ (fun _ => ?_)
set_option maxHeartbeats 8000000 in
set_option maxRecDepth 100000 in
theorem host_reader_spans.calls (k : Nat) (g : Nat) (s0_0 : ByteArray) (s0_1 : Int) (s0_2 : Int) (s0_3 : Int) (r1 : List (S54)) (r2 : ByteArray) (r3 : Int) (r4 : Int) (r5 : Int) (w0 w : World) (hI : IsS49 w0 w g s0_0 s0_1 s0_2 s0_3) (hB : Below w0.heap.size w0 w) (h : host_reader_spans.f k s0_0 s0_1 s0_2 s0_3 = some (r1,r2,r3,r4,r5)) (hG_ : Glob w0) :
  Calls Tryd.prog 26 #[.pointer (some ⟨g,0,none⟩)] w fun e w' => ∃ v0_ : Value,e = .returned (v0_)∧Kd.R k54 54 w' w.heap.size (fun _ => True) v0_ r1∧IsS49 w0 w' g r2 r3 r4 r5∧Below w0.heap.size w0 w'∧KeepBut w w' g none:=by
 (have HG_:=Aside0.mk hG_);(clear hG_);(have hu27:=Tryd.underlying27);(have HI0:=Aside0.mk hI);(have HK:=Aside0.mk (KeepBut.refl w g none));(have HL:=Aside0.mk hB.size);(clear hI);(have HW0:=Aside0.mk hB.size);(have HB:=Aside0.mk hB);(clear hB);(have H : (host_reader_spans.l0 k ([] : List (S54)) s0_0 s0_1 s0_2 s0_3) = some (r1,r2,r3,r4,r5):=h);(clear h);(have H':=Aside0.mk H);(clear H);(go_enter Tryd.func26,Tryd.ntmps26);(go_wp2);(go_loopg [3] k (fun kq v3 w' => ∃ (x3_1 : List (S54)) (x1000_1 : ByteArray) (x1001_1 : Int) (x1002_1 : Int) (x1003_1 : Int),Aside0 (host_reader_spans.l0 kq x3_1 x1000_1 x1001_1 x1002_1 x1003_1 = some (r1,r2,r3,r4,r5))∧Aside0 (kq ≤ k)∧Aside0 (Kd.R k54 54 w' w.heap.size (fun _ => True) v3 x3_1)∧Aside0 (IsS49 w0 w' g x1000_1 x1001_1 x1002_1 x1003_1)∧Aside0 (KeepBut w w' g none)∧Aside0 (Below w0.heap.size w0 w')))
 case atStart => exact ⟨(([] : List (S54))),(s0_0),(s0_1),(s0_2),(s0_3),H',⟨Nat.le_refl _⟩,⟨by first|exact Kd.R_nil _ _ _ _ _|exact Kd.N_nil _ _ _ _ _|exact Kd.V_nil _ _ _ _ _|exact Kd.Q_nil _ _ _ _ _|exact Kd.S_nil _ _ _ _ _⟩,⟨by repeat (first|(with_reducible first|exact HI0.out|apply IsS49.alloc|apply IsS49.drewN|apply IsS49.drew|apply IsS49.set_0|apply IsS49.set_1|apply IsS49.set_2|apply IsS49.set_3)|exact HI0.out)⟩,⟨by repeat (first|(with_reducible first|exact HK.out|apply KeepBut.set_|apply keep_drewN|apply keep_drew|apply keep_alloc)|exact HK.out)⟩,⟨by repeat (first|(with_reducible first|exact HB.out|apply below_alloc|apply pw_below_drewN|apply below_drew1|refine below_set ?_ (IsS49.ge HI0.out))|exact HB.out)⟩⟩
 case round =>
  (clear H');(obtain ⟨x3_1,x1000_1,x1001_1,x1002_1,x1003_1,HA,HK1,HO_3,HI0,HK,HB⟩:=hrel)
  cases gk with
 |zero => exact absurd HA.out (by simp [host_reader_spans.l0])
 |succ k1 =>
   (have H:=HA.out);(clear HA);(simp only [host_reader_spans.l0] at H);(by_cases c2 : (x1002_1 == 0 && (x1003_1 == 0)) = true)
   ·(rw [if_pos c2] at H);(have c2b0 : (x1002_1 == 0 && (x1003_1 == 0)) = true:=c2);((try (have c2b1 : decide (x1002_1 = 0 && (x1003_1 == 0)) = true:=by simpa using c2)));((try (have c2b2 : (x1002_1 == 0 && (x1003_1 == 0)) = true:=by simpa using c2)));(clear c2);(replace H:=Option.bind_eq_some_iff.mp H);(obtain ⟨⟨t143,t144,t145,t146,t147,t148,t149⟩,A30,H⟩:=H);(replace H : (if x3_1.length < 5864062014805 then ((some (x3_1 ++ [(⟨t143,t144,t145⟩ : S54)] : List (S54))).bind fun y150 => (if (!(t148 == 0) || (!(t149 == 0))) = true then (host_reader_spans.j1 k1 y150 true t146 t147 t148 t149) else ((host_reader_next.f t146 t147 t148 t149 93).bind fun bt153 => (host_reader_spans.j1 k1 y150 bt153.1 bt153.2.1 bt153.2.2.1 bt153.2.2.2.1 bt153.2.2.2.2)))) else (none)) = some (r1,r2,r3,r4,r5):=H);(have A3:=Aside0.mk A30);(clear A30);(by_cases c4 : x3_1.length < 5864062014805)
    ·(rw [if_pos c4] at H);(have LMc4:=Aside0.mk c4);(clear c4);(obtain ⟨y150,hy150⟩ : ∃ y_ : List (S54),y_ = (x3_1 ++ [(⟨t143,t144,t145⟩ : S54)]):=⟨_,rfl⟩);(replace H : (if (!(t148 == 0) || (!(t149 == 0))) = true then (host_reader_spans.j1 k1 y150 true t146 t147 t148 t149) else ((host_reader_next.f t146 t147 t148 t149 93).bind fun bt153 => (host_reader_spans.j1 k1 y150 bt153.1 bt153.2.1 bt153.2.2.1 bt153.2.2.2.1 bt153.2.2.2.2))) = some (r1,r2,r3,r4,r5):=by first|(rw [hy150];with_reducible exact H)|(have H2_:=(Option.bind_some _ _).symm.trans H;rw [hy150];with_reducible exact H2_)|(have H2_:=(Option.bind_some _ _).symm.trans H;with_reducible exact H2_)|with_reducible exact H|(rw [hy150];exact H)|exact H);(have Ny150:=Aside0.mk hy150);(clear hy150);(have HC5:=Aside0.mk H);(clear H);(obtain ⟨HGz6,hgz6⟩:=HI0.out);(have hcz6_0:=cellS49_0 HGz6);(have hcz6_1:=cellS49_1 HGz6);(have hcz6_2:=cellS49_2 HGz6);(have hcz6_3:=cellS49_3 HGz6);(have hfz6_0:=blk_frozen HGz6 0);(have hfz6_1:=blk_frozen HGz6 1);(have hfz6_2:=blk_frozen HGz6 2);(have hfz6_3:=blk_frozen HGz6 3);(clear HGz6 hgz6);(go_upto_region 4 with (first|((with_reducible refine gate_callee (f:=44) rfl ?_);refine goesL_ (some 12) rfl rfl Tryd.func44 (by kernel_rfl) rfl #[.pointer (some ⟨g,0,none⟩)] rfl (by (try simp only [List.map_toArray,List.map_cons,List.map_nil]);first|done|rfl|(simp only [List.length_drop,List.length_take];rfl)) ?_;(with_reducible refine (host_reader_span.calls k1 g x1000_1 x1001_1 x1002_1 x1003_1 t143 t144 t145 t146 t147 t148 t149 w0 _ ?side1 ?side2 A3.out HG_.out).mono ?_);(case side1 => repeat (first|(with_reducible first|exact HI0.out|apply IsS49.alloc|apply IsS49.drewN|apply IsS49.drew|apply IsS49.set_0|apply IsS49.set_1|apply IsS49.set_2|apply IsS49.set_3)|exact HI0.out));(case side2 => repeat (first|(with_reducible first|exact HB.out|apply below_alloc|apply pw_below_drewN|apply below_drew1|refine below_set ?_ (IsS49.ge HI0.out))|exact HB.out));rintro e w7 ⟨rfl,hi,hb,hk⟩;refine ⟨_,rfl,?_⟩;have n0_:=Aside0.mk (Kd.R_mono (Kd.R_keep (IsS49.apart (show IsS49 w0 _ g x1000_1 x1001_1 x1002_1 x1003_1 from by repeat (first|(with_reducible first|exact HI0.out|apply IsS49.alloc|apply IsS49.drewN|apply IsS49.drew|apply IsS49.set_0|apply IsS49.set_1|apply IsS49.set_2|apply IsS49.set_3)|exact HI0.out)) (by (with_reducible repeat (first|apply Kd.R_alloc|apply Kd.R_drewN|apply Kd.R_drew));exact HO_3.out) (by decide)) hk (fun _ h => h.2)) (fun _ h => h.1));have n1_:=Aside0.mk (KeepBut.trans (by repeat (first|(with_reducible first|exact HK.out|apply KeepBut.set_|apply keep_drewN|apply keep_drew|apply keep_alloc)|exact HK.out)) hk (.inl rfl));have n2_:=Aside0.mk (hb);have n3_:=Aside0.mk (hi);clear HO_3;clear HK;clear HB;clear HI0;have HO_3:=n0_;have HK:=n1_;have HB:=n2_;have HI0:=n3_;clear n0_ n1_ n2_ n3_;(try clear hb);(try clear hb2);(try clear hk);(try clear hi))|((with_reducible refine gate_builtin (b:=.append) (xs:=#[.tmp 10,.tmp 13]) rfl ?_);at_builtin;refine Kd.R_append k54 w.heap.size rfl (.tmp 10) (.tmp 13) 51 54 (.agg #[(.int .i64 0),(.int .i64 0),(.int .i64 0)]) 24 rfl Tryd.underlying51 info54 rfl (by decide) (by omega) u3 x3_1 (⟨t143,t144,t145⟩ : S54) [.int .i64 t143,.int .i64 t144,.int .i64 t145] (fun _ => True) (fun _ => False) rfl rfl ?aP (fun _ hk => hk.elim) ?aF ?aO (Below.refl _ _) ?aS ?aL ?_;(case aP => exact k54_mkM _ _ _ (⟨t143,t144,t145⟩ : S54));(case aF => exact (fun _ _ => trivial));(case aO => exact (by (with_reducible repeat (first|apply Kd.R_alloc|apply Kd.R_drewN|apply Kd.R_drew));exact HO_3.out));(case aS => exact (keep_size (w:=w) (g:=g) (row:=none) (by repeat (first|(with_reducible first|exact HK.out|apply KeepBut.set_|apply keep_drewN|apply keep_drew|apply keep_alloc)|exact HK.out))));(case aL => have:=LMc4.out;omega);intro v151 w8 ho hb hg hat;rw [← Ny150.out] at ho;have n0_:=Aside0.mk (IsS49.grown (by repeat (first|(with_reducible first|exact HI0.out|apply IsS49.alloc|apply IsS49.drewN|apply IsS49.drew|apply IsS49.set_0|apply IsS49.set_1|apply IsS49.set_2|apply IsS49.set_3)|exact HI0.out)) hg (IsS49.own_ne HI0.out HO_3.out (by decide)));have n1_:=Aside0.mk (below_weaken (by repeat (first|(with_reducible first|exact HB.out|apply below_alloc|apply pw_below_drewN|apply below_drew1|refine below_set ?_ (IsS49.ge HI0.out))|exact HB.out)) HL.out hb);have n2_:=Aside0.mk (KeepBut.trans (by repeat (first|(with_reducible first|exact HK.out|apply KeepBut.set_|apply keep_drewN|apply keep_drew|apply keep_alloc)|exact HK.out)) (KeepBut.of_grown hg g) (Kd.R_base2 HO_3.out));have n3_:=Aside0.mk (ho);clear HI0;clear HB;clear HK;clear HO_3;have HI0:=n0_;have HB:=n1_;have HK:=n2_;have HO152:=n3_;clear n0_ n1_ n2_ n3_;clear ho hb hg hat)));((try simp only [Act.put,List.setIfInBounds_toArray,List.set_cons_zero,List.set_cons_succ]));(go_cut [24] (fun v24 wc => ∃ (kq : Nat) (x24_4 : Bool) (x1000_4 : ByteArray) (x1001_4 : Int) (x1002_4 : Int) (x1003_4 : Int),v24 = .bool x24_4∧Aside0 (host_reader_spans.j1 kq y150 x24_4 x1000_4 x1001_4 x1002_4 x1003_4 = some (r1,r2,r3,r4,r5))∧Aside0 (kq ≤ k1)∧Aside0 (Kd.R k54 54 wc w.heap.size (fun _ => True) v151 y150)∧Aside0 (IsS49 w0 wc g x1000_4 x1001_4 x1002_4 x1003_4)∧Aside0 (KeepBut w wc g none)∧Aside0 (Below w0.heap.size w0 wc)))
     case first =>
      (have H:=HC5.out);(clear HC5);(by_cases c9 : (!(t148 == 0) || (!(t149 == 0))) = true)
      ·(rw [if_pos c9] at H);(have c9b0 : (!(t148 == 0) || (!(t149 == 0))) = true:=c9);(clear c9);((first|rw [c9b0]|(simp only [i64_w,i32_w];rw [c9b0])|skip));(have H':=Aside0.mk H);(clear H);(obtain ⟨HGz10,hgz10⟩:=HI0.out);(have hcz10_0:=cellS49_0 HGz10);(have hcz10_1:=cellS49_1 HGz10);(have hcz10_2:=cellS49_2 HGz10);(have hcz10_3:=cellS49_3 HGz10);(have hfz10_0:=blk_frozen HGz10 0);(have hfz10_1:=blk_frozen HGz10 1);(have hfz10_2:=blk_frozen HGz10 2);(have hfz10_3:=blk_frozen HGz10 3);(clear HGz10 hgz10);(go_wp2);(go_meet)
       case rel => exact ⟨_,(true),(t146),(t147),(t148),(t149),(by first|rfl|(simp;done)|(simp [*];done)),H',⟨by have:=HK1.out;first|omega|exact Nat.le_refl _⟩,⟨by (with_reducible repeat (first|apply Kd.R_alloc|apply Kd.R_drewN|apply Kd.R_drew));exact HO152.out⟩,⟨by repeat (first|(with_reducible first|exact HI0.out|apply IsS49.alloc|apply IsS49.drewN|apply IsS49.drew|apply IsS49.set_0|apply IsS49.set_1|apply IsS49.set_2|apply IsS49.set_3)|exact HI0.out)⟩,⟨by repeat (first|(with_reducible first|exact HK.out|apply KeepBut.set_|apply keep_drewN|apply keep_drew|apply keep_alloc)|exact HK.out)⟩,⟨by repeat (first|(with_reducible first|exact HB.out|apply below_alloc|apply pw_below_drewN|apply below_drew1|refine below_set ?_ (IsS49.ge HI0.out))|exact HB.out)⟩⟩
      ·(rw [if_neg c9] at H);(have c9b0 : (!(t148 == 0) || (!(t149 == 0))) = false:=by simpa using c9);(clear c9);((first|rw [c9b0]|(simp only [i64_w,i32_w];rw [c9b0])|skip));(replace H:=Option.bind_eq_some_iff.mp H);(obtain ⟨⟨t153,t154,t155,t156,t157⟩,A110,H⟩:=H);(replace H : (host_reader_spans.j1 k1 y150 t153 t154 t155 t156 t157) = some (r1,r2,r3,r4,r5):=H);(have A11:=Aside0.mk A110);(clear A110);(have H':=Aside0.mk H);(clear H);(obtain ⟨HGz12,hgz12⟩:=HI0.out);(have hcz12_0:=cellS49_0 HGz12);(have hcz12_1:=cellS49_1 HGz12);(have hcz12_2:=cellS49_2 HGz12);(have hcz12_3:=cellS49_3 HGz12);(have hfz12_0:=blk_frozen HGz12 0);(have hfz12_1:=blk_frozen HGz12 1);(have hfz12_2:=blk_frozen HGz12 2);(have hfz12_3:=blk_frozen HGz12 3);(clear HGz12 hgz12);(go_wp2_with (first|(go_at_call 25;(with_reducible refine (host_reader_next.calls g t146 t147 t148 t149 93 t153 t154 t155 t156 t157 w0 _ ?side1 ?side2 A11.out).mono ?_);(case side1 => repeat (first|(with_reducible first|exact HI0.out|apply IsS49.alloc|apply IsS49.drewN|apply IsS49.drew|apply IsS49.set_0|apply IsS49.set_1|apply IsS49.set_2|apply IsS49.set_3)|exact HI0.out));(case side2 => repeat (first|(with_reducible first|exact HB.out|apply below_alloc|apply pw_below_drewN|apply below_drew1|refine below_set ?_ (IsS49.ge HI0.out))|exact HB.out));rintro e w13 ⟨rfl,hi,hb,hk⟩;have n0_:=Aside0.mk (Kd.R_mono (Kd.R_keep (IsS49.apart (show IsS49 w0 _ g t146 t147 t148 t149 from by repeat (first|(with_reducible first|exact HI0.out|apply IsS49.alloc|apply IsS49.drewN|apply IsS49.drew|apply IsS49.set_0|apply IsS49.set_1|apply IsS49.set_2|apply IsS49.set_3)|exact HI0.out)) (by (with_reducible repeat (first|apply Kd.R_alloc|apply Kd.R_drewN|apply Kd.R_drew));exact HO152.out) (by decide)) hk (fun _ h => h.2)) (fun _ h => h.1));have n1_:=Aside0.mk (KeepBut.trans (by repeat (first|(with_reducible first|exact HK.out|apply KeepBut.set_|apply keep_drewN|apply keep_drew|apply keep_alloc)|exact HK.out)) hk (.inl rfl));have n2_:=Aside0.mk (hb);have n3_:=Aside0.mk (hi);clear HO152;clear HK;clear HB;clear HI0;have HO152:=n0_;have HK:=n1_;have HB:=n2_;have HI0:=n3_;clear n0_ n1_ n2_ n3_;(try clear hb);(try clear hb2);(try clear hk);(try clear hi))));(go_meet)
       case rel => exact ⟨_,(t153),(t154),(t155),(t156),(t157),(by first|rfl|(simp;done)|(simp [*];done)),H',⟨by have:=HK1.out;first|omega|exact Nat.le_refl _⟩,⟨by (with_reducible repeat (first|apply Kd.R_alloc|apply Kd.R_drewN|apply Kd.R_drew));exact HO152.out⟩,⟨by repeat (first|(with_reducible first|exact HI0.out|apply IsS49.alloc|apply IsS49.drewN|apply IsS49.drew|apply IsS49.set_0|apply IsS49.set_1|apply IsS49.set_2|apply IsS49.set_3)|exact HI0.out)⟩,⟨by repeat (first|(with_reducible first|exact HK.out|apply KeepBut.set_|apply keep_drewN|apply keep_drew|apply keep_alloc)|exact HK.out)⟩,⟨by repeat (first|(with_reducible first|exact HB.out|apply below_alloc|apply pw_below_drewN|apply below_drew1|refine below_set ?_ (IsS49.ge HI0.out))|exact HB.out)⟩⟩
     case rest =>
      (clear HC5);(try clear c2);(try clear c2b0);(try clear c2b1);(try clear c2b2);(try clear p2);(try clear c4);(try clear c9);(try clear c9b0);(try clear hcz10_0);(try clear hcz10_1);(try clear hcz10_2);(try clear hcz10_3);(try clear hcz12_0);(try clear hcz12_1);(try clear hcz12_2);(try clear hcz12_3);(try clear hcz6_0);(try clear hcz6_1);(try clear hcz6_2);(try clear hcz6_3);(try clear hfz10_0);(try clear hfz10_1);(try clear hfz10_2);(try clear hfz10_3);(try clear hfz12_0);(try clear hfz12_1);(try clear hfz12_2);(try clear hfz12_3);(try clear hfz6_0);(try clear hfz6_1);(try clear hfz6_2);(try clear hfz6_3);(obtain ⟨kq,x24_4,x1000_4,x1001_4,x1002_4,x1003_4,rfl,HA,HJ4,HO_3,HI0,HK,HB⟩:=hcut)
      cases kq with
     |zero => exact absurd HA.out (by simp [host_reader_spans.j1])
     |succ kj4 =>
       (have H:=HA.out);(clear HA);(simp only [host_reader_spans.j1] at H);(by_cases c14 : x24_4 = true);·(subst c14);(have H1 : (some (y150,x1000_4,x1001_4,x1002_4,x1003_4)) = some (r1,r2,r3,r4,r5):=by rw [if_pos rfl] at H;exact H);(clear H);(have H:=H1);(clear H1);(simp only [Option.some.injEq,Prod.mk.injEq] at H);(obtain ⟨rfl,rfl,rfl,rfl,rfl⟩:=H);(go_wp2);(go_ret);(exact ⟨_,by first|rfl|(simp [errW_none,errW_some] <;> rfl)|(simp [*,errW_none,errW_some] <;> rfl),by (with_reducible repeat (first|apply Kd.R_alloc|apply Kd.R_drewN|apply Kd.R_drew));exact HO_3.out,by repeat (first|(with_reducible first|exact HI0.out|apply IsS49.alloc|apply IsS49.drewN|apply IsS49.drew|apply IsS49.set_0|apply IsS49.set_1|apply IsS49.set_2|apply IsS49.set_3)|exact HI0.out),by repeat (first|(with_reducible first|exact HB.out|apply below_alloc|apply pw_below_drewN|apply below_drew1|refine below_set ?_ (IsS49.ge HI0.out))|exact HB.out),by repeat (first|(with_reducible first|exact HK.out|apply KeepBut.set_|apply keep_drewN|apply keep_drew|apply keep_alloc)|exact HK.out)⟩)
       ·(replace c14:=Bool.eq_false_iff.mpr c14);(subst c14);(have H1 : ((host_reader_next.f x1000_4 x1001_4 x1002_4 x1003_4 44).bind fun bt158 => (if bt158.1 = true then (host_reader_spans.l0 kj4 y150 bt158.2.1 bt158.2.2.1 bt158.2.2.2.1 bt158.2.2.2.2) else ((host_reader_wrong.f bt158.2.1 bt158.2.2.1 bt158.2.2.2.1 bt158.2.2.2.2).bind fun bt163 => (host_reader_spans.l0 kj4 y150 bt163.1 bt163.2.1 bt163.2.2.1 bt163.2.2.2)))) = some (r1,r2,r3,r4,r5):=by rw [if_neg (show ¬ (false = true) by decide)] at H;exact H);(clear H);(have H:=H1);(clear H1);(replace H:=Option.bind_eq_some_iff.mp H);(obtain ⟨⟨t158,t159,t160,t161,t162⟩,A150,H⟩:=H);(replace H : (if t158 = true then (host_reader_spans.l0 kj4 y150 t159 t160 t161 t162) else ((host_reader_wrong.f t159 t160 t161 t162).bind fun bt163 => (host_reader_spans.l0 kj4 y150 bt163.1 bt163.2.1 bt163.2.2.1 bt163.2.2.2))) = some (r1,r2,r3,r4,r5):=H);(have A15:=Aside0.mk A150);(clear A150);(by_cases c16 : t158 = true)
        ·(subst c16);(have H1 : (host_reader_spans.l0 kj4 y150 t159 t160 t161 t162) = some (r1,r2,r3,r4,r5):=by rw [if_pos rfl] at H;exact H);(clear H);(have H:=H1);(clear H1);(have H':=Aside0.mk H);(clear H);(go_wp2_with (first|((with_reducible refine gate_callee (f:=25) rfl ?_);refine goesL_ (some 26) rfl rfl Tryd.func25 (by kernel_rfl) rfl #[.pointer (some ⟨g,0,none⟩),.int .u8 44] rfl (by (try simp only [List.map_toArray,List.map_cons,List.map_nil]);first|done|rfl|(simp only [List.length_drop,List.length_take];rfl)) ?_;(with_reducible refine (host_reader_next.calls g x1000_4 x1001_4 x1002_4 x1003_4 44 true t159 t160 t161 t162 w0 _ ?side1 ?side2 A15.out).mono ?_);(case side1 => repeat (first|(with_reducible first|exact HI0.out|apply IsS49.alloc|apply IsS49.drewN|apply IsS49.drew|apply IsS49.set_0|apply IsS49.set_1|apply IsS49.set_2|apply IsS49.set_3)|exact HI0.out));(case side2 => repeat (first|(with_reducible first|exact HB.out|apply below_alloc|apply pw_below_drewN|apply below_drew1|refine below_set ?_ (IsS49.ge HI0.out))|exact HB.out));rintro e w17 ⟨rfl,hi,hb,hk⟩;refine ⟨_,rfl,?_⟩;have n0_:=Aside0.mk (Kd.R_mono (Kd.R_keep (IsS49.apart (show IsS49 w0 _ g x1000_4 x1001_4 x1002_4 x1003_4 from by repeat (first|(with_reducible first|exact HI0.out|apply IsS49.alloc|apply IsS49.drewN|apply IsS49.drew|apply IsS49.set_0|apply IsS49.set_1|apply IsS49.set_2|apply IsS49.set_3)|exact HI0.out)) (by (with_reducible repeat (first|apply Kd.R_alloc|apply Kd.R_drewN|apply Kd.R_drew));exact HO_3.out) (by decide)) hk (fun _ h => h.2)) (fun _ h => h.1));have n1_:=Aside0.mk (KeepBut.trans (by repeat (first|(with_reducible first|exact HK.out|apply KeepBut.set_|apply keep_drewN|apply keep_drew|apply keep_alloc)|exact HK.out)) hk (.inl rfl));have n2_:=Aside0.mk (hb);have n3_:=Aside0.mk (hi);clear HO_3;clear HK;clear HB;clear HI0;have HO_3:=n0_;have HK:=n1_;have HB:=n2_;have HI0:=n3_;clear n0_ n1_ n2_ n3_;(try clear hb);(try clear hb2);(try clear hk);(try clear hi))));(go_roundg kj4)
         case measure => have:=HK1.out;have:=HJ4.out;omega
         case rel => exact ⟨(y150),(t159),(t160),(t161),(t162),H',⟨by have:=HK1.out;have:=HJ4.out;omega⟩,⟨by (with_reducible repeat (first|apply Kd.R_alloc|apply Kd.R_drewN|apply Kd.R_drew));exact HO_3.out⟩,⟨by repeat (first|(with_reducible first|exact HI0.out|apply IsS49.alloc|apply IsS49.drewN|apply IsS49.drew|apply IsS49.set_0|apply IsS49.set_1|apply IsS49.set_2|apply IsS49.set_3)|exact HI0.out)⟩,⟨by repeat (first|(with_reducible first|exact HK.out|apply KeepBut.set_|apply keep_drewN|apply keep_drew|apply keep_alloc)|exact HK.out)⟩,⟨by repeat (first|(with_reducible first|exact HB.out|apply below_alloc|apply pw_below_drewN|apply below_drew1|refine below_set ?_ (IsS49.ge HI0.out))|exact HB.out)⟩⟩
        ·(replace c16:=Bool.eq_false_iff.mpr c16);(subst c16);(have H1 : ((host_reader_wrong.f t159 t160 t161 t162).bind fun bt163 => (host_reader_spans.l0 kj4 y150 bt163.1 bt163.2.1 bt163.2.2.1 bt163.2.2.2)) = some (r1,r2,r3,r4,r5):=by rw [if_neg (show ¬ (false = true) by decide)] at H;exact H);(clear H);(have H:=H1);(clear H1);(replace H:=Option.bind_eq_some_iff.mp H);(obtain ⟨⟨t163,t164,t165,t166⟩,A180,H⟩:=H);(replace H : (host_reader_spans.l0 kj4 y150 t163 t164 t165 t166) = some (r1,r2,r3,r4,r5):=H);(have A18:=Aside0.mk A180);(clear A180);(have H':=Aside0.mk H);(clear H);(go_wp2_with (first|((with_reducible refine gate_callee (f:=25) rfl ?_);refine goesL_ (some 26) rfl rfl Tryd.func25 (by kernel_rfl) rfl #[.pointer (some ⟨g,0,none⟩),.int .u8 44] rfl (by (try simp only [List.map_toArray,List.map_cons,List.map_nil]);first|done|rfl|(simp only [List.length_drop,List.length_take];rfl)) ?_;(with_reducible refine (host_reader_next.calls g x1000_4 x1001_4 x1002_4 x1003_4 44 false t159 t160 t161 t162 w0 _ ?side1 ?side2 A15.out).mono ?_);(case side1 => repeat (first|(with_reducible first|exact HI0.out|apply IsS49.alloc|apply IsS49.drewN|apply IsS49.drew|apply IsS49.set_0|apply IsS49.set_1|apply IsS49.set_2|apply IsS49.set_3)|exact HI0.out));(case side2 => repeat (first|(with_reducible first|exact HB.out|apply below_alloc|apply pw_below_drewN|apply below_drew1|refine below_set ?_ (IsS49.ge HI0.out))|exact HB.out));rintro e w19 ⟨rfl,hi,hb,hk⟩;refine ⟨_,rfl,?_⟩;have n0_:=Aside0.mk (Kd.R_mono (Kd.R_keep (IsS49.apart (show IsS49 w0 _ g x1000_4 x1001_4 x1002_4 x1003_4 from by repeat (first|(with_reducible first|exact HI0.out|apply IsS49.alloc|apply IsS49.drewN|apply IsS49.drew|apply IsS49.set_0|apply IsS49.set_1|apply IsS49.set_2|apply IsS49.set_3)|exact HI0.out)) (by (with_reducible repeat (first|apply Kd.R_alloc|apply Kd.R_drewN|apply Kd.R_drew));exact HO_3.out) (by decide)) hk (fun _ h => h.2)) (fun _ h => h.1));have n1_:=Aside0.mk (KeepBut.trans (by repeat (first|(with_reducible first|exact HK.out|apply KeepBut.set_|apply keep_drewN|apply keep_drew|apply keep_alloc)|exact HK.out)) hk (.inl rfl));have n2_:=Aside0.mk (hb);have n3_:=Aside0.mk (hi);clear HO_3;clear HK;clear HB;clear HI0;have HO_3:=n0_;have HK:=n1_;have HB:=n2_;have HI0:=n3_;clear n0_ n1_ n2_ n3_;(try clear hb);(try clear hb2);(try clear hk);(try clear hi))|((with_reducible refine gate_callee (f:=27) rfl ?_);refine goesL_ (some 29) rfl rfl Tryd.func27 (by kernel_rfl) rfl #[.pointer (some ⟨g,0,none⟩)] rfl (by (try simp only [List.map_toArray,List.map_cons,List.map_nil]);first|done|rfl|(simp only [List.length_drop,List.length_take];rfl)) ?_;(with_reducible refine (host_reader_wrong.calls g t159 t160 t161 t162 t163 t164 t165 t166 w0 _ ?side1 ?side2 A18.out).mono ?_);(case side1 => repeat (first|(with_reducible first|exact HI0.out|apply IsS49.alloc|apply IsS49.drewN|apply IsS49.drew|apply IsS49.set_0|apply IsS49.set_1|apply IsS49.set_2|apply IsS49.set_3)|exact HI0.out));(case side2 => repeat (first|(with_reducible first|exact HB.out|apply below_alloc|apply pw_below_drewN|apply below_drew1|refine below_set ?_ (IsS49.ge HI0.out))|exact HB.out));rintro e w20 ⟨rfl,hi,hb,hk⟩;refine ⟨_,rfl,?_⟩;have n0_:=Aside0.mk (Kd.R_mono (Kd.R_keep (IsS49.apart (show IsS49 w0 _ g t159 t160 t161 t162 from by repeat (first|(with_reducible first|exact HI0.out|apply IsS49.alloc|apply IsS49.drewN|apply IsS49.drew|apply IsS49.set_0|apply IsS49.set_1|apply IsS49.set_2|apply IsS49.set_3)|exact HI0.out)) (by (with_reducible repeat (first|apply Kd.R_alloc|apply Kd.R_drewN|apply Kd.R_drew));exact HO_3.out) (by decide)) hk (fun _ h => h.2)) (fun _ h => h.1));have n1_:=Aside0.mk (KeepBut.trans (by repeat (first|(with_reducible first|exact HK.out|apply KeepBut.set_|apply keep_drewN|apply keep_drew|apply keep_alloc)|exact HK.out)) hk (.inl rfl));have n2_:=Aside0.mk (hb);have n3_:=Aside0.mk (hi);clear HO_3;clear HK;clear HB;clear HI0;have HO_3:=n0_;have HK:=n1_;have HB:=n2_;have HI0:=n3_;clear n0_ n1_ n2_ n3_;(try clear hb);(try clear hb2);(try clear hk);(try clear hi))));(go_roundg kj4)
         case measure => have:=HK1.out;have:=HJ4.out;omega
         case rel => exact ⟨(y150),(t163),(t164),(t165),(t166),H',⟨by have:=HK1.out;have:=HJ4.out;omega⟩,⟨by (with_reducible repeat (first|apply Kd.R_alloc|apply Kd.R_drewN|apply Kd.R_drew));exact HO_3.out⟩,⟨by repeat (first|(with_reducible first|exact HI0.out|apply IsS49.alloc|apply IsS49.drewN|apply IsS49.drew|apply IsS49.set_0|apply IsS49.set_1|apply IsS49.set_2|apply IsS49.set_3)|exact HI0.out)⟩,⟨by repeat (first|(with_reducible first|exact HK.out|apply KeepBut.set_|apply keep_drewN|apply keep_drew|apply keep_alloc)|exact HK.out)⟩,⟨by repeat (first|(with_reducible first|exact HB.out|apply below_alloc|apply pw_below_drewN|apply below_drew1|refine below_set ?_ (IsS49.ge HI0.out))|exact HB.out)⟩⟩
    ·(rw [if_neg c4] at H);(exact absurd H (by simp))
   ·(rw [if_neg c2] at H);(have c2b0 : (x1002_1 == 0 && (x1003_1 == 0)) = false:=by simpa using c2);((try (have c2b1 : decide (x1002_1 = 0 && (x1003_1 == 0)) = false:=by simpa using c2)));((try (have c2b2 : (x1002_1 == 0 && (x1003_1 == 0)) = false:=by simpa using c2)));((try (have c2b3 : ¬ (x1002_1 = 0 && (x1003_1 == 0)):=by simpa using c2)));(clear c2);(simp only [Option.some.injEq,Prod.mk.injEq] at H);(obtain ⟨rfl,rfl,rfl,rfl,rfl⟩:=H);(obtain ⟨HGz21,hgz21⟩:=HI0.out);(have hcz21_0:=cellS49_0 HGz21);(have hcz21_1:=cellS49_1 HGz21);(have hcz21_2:=cellS49_2 HGz21);(have hcz21_3:=cellS49_3 HGz21);(have hfz21_0:=blk_frozen HGz21 0);(have hfz21_1:=blk_frozen HGz21 1);(have hfz21_2:=blk_frozen HGz21 2);(have hfz21_3:=blk_frozen HGz21 3);(clear HGz21 hgz21);(go_wp2);(go_ret);(exact ⟨_,by first|rfl|(simp [errW_none,errW_some] <;> rfl)|(simp [*,errW_none,errW_some] <;> rfl),by (with_reducible repeat (first|apply Kd.R_alloc|apply Kd.R_drewN|apply Kd.R_drew));exact HO_3.out,by repeat (first|(with_reducible first|exact HI0.out|apply IsS49.alloc|apply IsS49.drewN|apply IsS49.drew|apply IsS49.set_0|apply IsS49.set_1|apply IsS49.set_2|apply IsS49.set_3)|exact HI0.out),by repeat (first|(with_reducible first|exact HB.out|apply below_alloc|apply pw_below_drewN|apply below_drew1|refine below_set ?_ (IsS49.ge HI0.out))|exact HB.out),by repeat (first|(with_reducible first|exact HK.out|apply KeepBut.set_|apply keep_drewN|apply keep_drew|apply keep_alloc)|exact HK.out)⟩)
def host_span_text.f (a0_0 : Int) (a0_1 : Int) (a0_2 : Int) (a1 : Int) : Option (ByteArray) := (strconv_Itoa.f a1).bind fun t168 => ((strings_Repeat.f (⟨#[48]⟩ : ByteArray) (mx 0 (wrap64 (a0_2 - (t168.size : Int))))).bind fun t169 => (if t169.size + t168.size ≤ 9223372036854775807 then (some (t169 ++ t168)) else (none)))
set_option maxHeartbeats 8000000 in
set_option maxRecDepth 100000 in
theorem host_span_text.calls (a0_0 : Int) (a0_1 : Int) (a0_2 : Int) (a1 : Int) (r : ByteArray) (w : World) (h : host_span_text.f a0_0 a0_1 a0_2 a1 = some r) (hG_ : Glob w) :
  Calls Tryd.prog 28 #[.agg #[.int .i64 a0_0,.int .i64 a0_1,.int .i64 a0_2],.int .i64 a1] w fun e w' => e = .returned (.string r)∧Below w.heap.size w w':=by
 (have HG_:=Aside0.mk hG_);(clear hG_);(have hu54:=Tryd.underlying54);(have HB:=Aside0.mk (Below.refl w.heap.size w));(have H : ((strconv_Itoa.f a1).bind fun t168 => ((strings_Repeat.f (⟨#[48]⟩ : ByteArray) (mx 0 (wrap64 (a0_2 - (t168.size : Int))))).bind fun t169 => (if t169.size + t168.size ≤ 9223372036854775807 then (some (t169 ++ t168)) else (none)))) = some r:=h);(clear h);(replace H:=Option.bind_eq_some_iff.mp H);(obtain ⟨t168,A30,H⟩:=H);(replace H : ((strings_Repeat.f (⟨#[48]⟩ : ByteArray) (mx 0 (wrap64 (a0_2 - (t168.size : Int))))).bind fun t169 => (if t169.size + t168.size ≤ 9223372036854775807 then (some (t169 ++ t168)) else (none))) = some r:=H);(have A3:=Aside0.mk A30);(clear A30);(obtain ⟨ji4,hji4⟩ : ∃ j_ : Int,(mx 0 (wrap64 (a0_2 - (t168.size : Int)))) = j_:=⟨_,rfl⟩);(replace H : ((strings_Repeat.f (⟨#[48]⟩ : ByteArray) (ji4)).bind fun t169 => (if t169.size + t168.size ≤ 9223372036854775807 then (some (t169 ++ t168)) else (none))) = some r:=by first|(rw [hji4] at H;exact H)|(simp only [hji4] at H ⊢;exact H));((try rw [hji4] at A3));((try (have hji4l : 0 ≤ ji4:=by (rw [← hji4];unfold mx;(repeat' split) <;> omega))));((try (have hji4m : 0 ≤ ji4:=by omega)));(have hji4_ : (if 0 < (wrap64 (a0_2 - (t168.size : Int))) then (wrap64 (a0_2 - (t168.size : Int))) else 0) = ji4:=hji4);(replace H:=Option.bind_eq_some_iff.mp H);(obtain ⟨t169,A50,H⟩:=H);(replace H : (if t169.size + t168.size ≤ 9223372036854775807 then (some (t169 ++ t168)) else (none)) = some r:=H);(have A5:=Aside0.mk A50);(clear A50);(by_cases c6 : t169.size + t168.size ≤ 9223372036854775807);·(rw [if_pos c6] at H);(have c6b0:=eq_true c6);(have c6b1 : decide (t169.size + t168.size ≤ 9223372036854775807) = true:=decide_eq_true c6);(try have c6b2 : (9223372036854775807 < t169.size + t168.size) = False:=eq_false (Nat.not_lt.2 c6));(obtain rfl:=Option.some.inj H);(go_enter Tryd.func28,Tryd.ntmps28);(go_wp2_with (first|((with_reducible refine gate_dst (N:=2) rfl ?_);refine box_event ?hg (N:=2) ?hd (cs:=#[.int .i64 a0_0,.int .i64 a0_1,.int .i64 a0_2]) (t:=54) ?hr ?_;(case hd => rfl);(case hg => rfl);(case hr => first|(go_simp;done)|(go_simp;rfl));intro gb167 hg w7 hbox hb;have n0_:=Aside0.mk (below_step (by repeat (first|(with_reducible first|exact HB.out|apply below_alloc|apply pw_below_drewN|apply below_drew1)|exact HB.out)) hb);have n1_:=Aside0.mk (hbox);have n2_:=Aside0.mk ((by rw [hg];exact (below_size (by repeat (first|(with_reducible first|exact HB.out|apply below_alloc|apply pw_below_drewN|apply below_drew1)|exact HB.out))) : w.heap.size ≤ gb167));have n3_:=Aside0.mk ((by rw [hg];exact (below_size (by repeat (first|(with_reducible first|exact HB.out|apply below_alloc|apply pw_below_drewN|apply below_drew1)|exact HB.out))) : w.heap.size ≤ gb167));clear HB;have HB:=n0_;have BK167:=n1_;have GW167:=n2_;have GE167:=n3_;clear n0_ n1_ n2_ n3_;clear hb hbox hg)|((with_reducible refine gate_callee (f:=45) rfl ?_);refine goesL_ (some 7) rfl rfl Tryd.func45 (by kernel_rfl) rfl #[.int .i64 a1] rfl (by (try simp only [List.map_toArray,List.map_cons,List.map_nil]);first|done|rfl|(simp only [List.length_drop,List.length_take];rfl)) ?_;(with_reducible refine (strconv_Itoa.calls a1 t168 _ A3.out (HG_.out.below (by repeat (first|(with_reducible first|exact HB.out|apply below_alloc|apply pw_below_drewN|apply below_drew1|refine below_set ?_ GE167.out)|exact HB.out)))).mono ?_);rintro e w8 ⟨rfl,hb⟩;refine ⟨_,rfl,?_⟩;have n0_:=Aside0.mk (blk_below (g:=gb167) (o:=.cells #[.int .i64 a0_0,.int .i64 a0_1,.int .i64 a0_2] 54 (0,0)) (by (with_reducible repeat (first|refine blk_drewN ?_ _|refine blk_drew ?_|refine blk_alloc ?_ _));exact BK167.out) hb);have n1_:=Aside0.mk (below_step (by repeat (first|(with_reducible first|exact HB.out|apply below_alloc|apply pw_below_drewN|apply below_drew1|refine below_set ?_ GE167.out)|exact HB.out)) hb);clear BK167;clear HB;have BK167:=n0_;have HB:=n1_;clear n0_ n1_;(try clear hb);(try clear hb2);(try clear hk);(try clear hi);have hcz9_0 : w8.cell? ⟨gb167,0,none⟩ = some (.int .i64 a0_0):=(blk_cell BK167.out 0).trans rfl;have hcz9_1 : w8.cell? ⟨gb167,1,none⟩ = some (.int .i64 a0_1):=(blk_cell BK167.out 1).trans rfl;have hcz9_2 : w8.cell? ⟨gb167,2,none⟩ = some (.int .i64 a0_2):=(blk_cell BK167.out 2).trans rfl;have hfz9_0:=blk_frozen BK167.out 0;have hfz9_1:=blk_frozen BK167.out 1;have hfz9_2:=blk_frozen BK167.out 2)|((with_reducible refine gate_callee (f:=46) rfl ?_);refine goesL_ (some 14) rfl rfl Tryd.func46 (by kernel_rfl) rfl #[.string (⟨#[48]⟩ : ByteArray),.int .i64 ji4] rfl (by (try simp only [List.map_toArray,List.map_cons,List.map_nil]);first|done|(simp only [hji4];rfl)|rfl|(simp only [List.length_drop,List.length_take];rfl)) ?_;(with_reducible refine (strings_Repeat.calls (⟨#[48]⟩ : ByteArray) ji4 t169 _ A5.out).mono ?_);rintro e w10 ⟨rfl,hb⟩;refine ⟨_,rfl,?_⟩;have n0_:=Aside0.mk (blk_below (g:=gb167) (o:=.cells #[.int .i64 a0_0,.int .i64 a0_1,.int .i64 a0_2] 54 (0,0)) (by (with_reducible repeat (first|refine blk_drewN ?_ _|refine blk_drew ?_|refine blk_alloc ?_ _));exact BK167.out) hb);have n1_:=Aside0.mk (below_step (by repeat (first|(with_reducible first|exact HB.out|apply below_alloc|apply pw_below_drewN|apply below_drew1|refine below_set ?_ GE167.out)|exact HB.out)) hb);clear BK167;clear HB;have BK167:=n0_;have HB:=n1_;clear n0_ n1_;(try clear hb);(try clear hb2);(try clear hk);(try clear hi))));(go_ret);(exact ⟨by first|rfl|(simp [errW_none,errW_some] <;> rfl)|(simp only [← hji4];first|rfl|(simp [errW_none,errW_some] <;> rfl))|(simp [*,errW_none,errW_some] <;> rfl),by repeat (first|(with_reducible first|exact HB.out|apply below_alloc|apply pw_below_drewN|apply below_drew1|refine below_set ?_ GE167.out)|exact HB.out)⟩)
 ·(rw [if_neg c6] at H);(exact absurd H (by simp))
end Go.Proofs.YtoammgpfbdcphaaDoor.PH
end
section
set_option linter.unusedVariables false
set_option linter.unusedSimpArgs false
namespace Go.Proofs.YtoammgpfbdcphaaDoor.Num
def isDig (c : UInt8) : Bool := decide (48 ≤ c.toNat) && decide (c.toNat ≤ 57)
theorem isDig_iff (c : UInt8) : isDig c = true ↔ 48 ≤ c.toNat ∧ c.toNat ≤ 57 := by simp [isDig]
def valA (a : Nat) : List UInt8 → Nat
  | [] => a
  | c :: l => valA (a * 10 + (c.toNat - 48)) l
def valD (l : List UInt8) : Nat := valA 0 l
theorem valA_append (a : Nat) (l : List UInt8) (c : UInt8) : valA a (l ++ [c]) = valA a l * 10 + (c.toNat - 48) := by
  induction l generalizing a with
  | nil => rfl
  | cons d l ih => exact ih _
theorem valD_snoc (l : List UInt8) (c : UInt8) : valD (l ++ [c]) = valD l * 10 + (c.toNat - 48) := valA_append 0 l c
theorem pow_step (a d n : Nat) (hd : d < 10) : (a * 10 + d + 1) * 10 ^ n ≤ (a + 1) * 10 ^ (n + 1) := by
  rw [Nat.pow_succ]
  generalize 10 ^ n = p
  have h1 : a * 10 + d + 1 ≤ (a + 1) * 10 := by omega
  have h2 := Nat.mul_le_mul_right p h1
  rw [Nat.mul_comm p 10, ← Nat.mul_assoc]
  exact h2
theorem valA_lt : ∀ (l : List UInt8) (h : ∀ c ∈ l, isDig c = true) (a : Nat), valA a l < (a + 1) * 10 ^ l.length
  | [], _, a => by show a < (a + 1) * 1; omega
  | c :: l, h, a => by
    have hc := (isDig_iff c).1 (h c (List.mem_cons_self ..))
    have h1 := valA_lt l (fun d hd => h d (List.mem_cons_of_mem _ hd)) (a * 10 + (c.toNat - 48))
    show valA (a * 10 + (c.toNat - 48)) l < (a + 1) * 10 ^ (l.length + 1)
    exact Nat.lt_of_lt_of_le h1 (pow_step a (c.toNat - 48) l.length (by omega))
theorem valD_lt (l : List UInt8) (h : ∀ c ∈ l, isDig c = true) : valD l < 10 ^ l.length := by
  have := valA_lt l h 0
  rw [Nat.zero_add, Nat.one_mul] at this
  exact this
theorem pow_ge (a d n : Nat) : a * 10 ^ (n + 1) ≤ (a * 10 + d) * 10 ^ n := by
  rw [Nat.pow_succ]
  generalize 10 ^ n = p
  have h2 := Nat.mul_le_mul_right p (Nat.le_add_right (a * 10) d)
  rw [Nat.mul_comm p 10, ← Nat.mul_assoc]
  exact h2
theorem valA_ge : ∀ (l : List UInt8) (a : Nat), a * 10 ^ l.length ≤ valA a l
  | [], a => by show a * 1 ≤ a; omega
  | c :: l, a => Nat.le_trans (pow_ge a (c.toNat - 48) l.length) (valA_ge l (a * 10 + (c.toNat - 48)))
theorem parse_digits (l : List UInt8) (h : ∀ c ∈ l, isDig c = true) : ∀ a, valA a l < 18446744073709551616 → Go.Lib.parseUint10 a l = .ok (valA a l) := by
  induction l with
  | nil => intro a ha; rfl
  | cons c l ih =>
    intro a ha
    have hc := (isDig_iff c).1 (h c (by simp))
    have hm := valA_ge l (a * 10 + (c.toNat - 48))
    have h1 : 1 ≤ 10 ^ l.length := Nat.one_le_pow _ _ (by decide)
    have h3 : valA a (c :: l) = valA (a * 10 + (c.toNat - 48)) l := rfl
    rw [h3] at ha ⊢
    have h2 : a * 10 + (c.toNat - 48) < 18446744073709551616 := by
      have : (a * 10 + (c.toNat - 48)) * 1 ≤ (a * 10 + (c.toNat - 48)) * 10 ^ l.length := Nat.mul_le_mul_left _ h1
      omega
    unfold Go.Lib.parseUint10
    rw [if_pos hc, if_neg (by omega), if_neg (by omega)]
    exact ih (fun d hd => h d (by simp [hd])) _ ha
theorem atoi_digits (l : List UInt8) (h : ∀ c ∈ l, isDig c = true) (hne : l ≠ []) (hl : l.length ≤ 18) : Go.Lib.atoiAll l = .ok (valD l : Int) := by
  have hv := valD_lt l h
  have hp : 10 ^ l.length ≤ 10 ^ 18 := Nat.pow_le_pow_right (by decide) hl
  have hb : valD l < 1000000000000000000 := Nat.lt_of_lt_of_le hv hp
  cases l with
  | nil => exact absurd rfl hne
  | cons c r =>
    have hc := (isDig_iff c).1 (h c (by simp))
    have e := parse_digits (c :: r) h 0 (by show valD (c :: r) < _; omega)
    unfold Go.Lib.atoiAll
    simp only
    rw [if_neg (by omega)]
    unfold Go.Lib.parseMag
    rw [if_neg (by simp), e]
    have hb' : valA 0 (c :: r) < 1000000000000000000 := hb
    simp only
    rw [if_neg (by omega), if_neg (by omega), if_neg (by omega)]
    rfl
theorem ofNat_toNat (c : UInt8) : UInt8.ofNat c.toNat = c := by simp
theorem dec_val (l : List UInt8) : ∀ (h : ∀ c ∈ l, isDig c = true) (hne : l ≠ []) (h0 : l.length = 1 ∨ ∀ c, l.head? = some c → c.toNat ≠ 48), Go.Lib.decDigits (valD l) = l := by
  induction hn : l.length generalizing l with
  | zero => intro _ hne _; exact absurd (List.length_eq_zero_iff.1 hn) hne
  | succ n ih =>
    intro h hne h0
    obtain ⟨m, c, rfl⟩ : ∃ m c, l = m ++ [c] := ⟨l.dropLast, l.getLast hne, (List.dropLast_concat_getLast hne).symm⟩
    have hc := (isDig_iff c).1 (h c (by simp))
    rw [valD_snoc]
    by_cases hm : m = []
    · subst hm
      rw [show valD [] = 0 from rfl, Go.Lib.decDigits, dif_pos (by omega)]
      simp only [List.nil_append, List.cons.injEq, and_true]
      rw [show 48 + (0 * 10 + (c.toNat - 48)) = c.toNat by omega]
      exact ofNat_toNat c
    · have hlen : m.length = n := by simpa using hn
      have hd : ∀ c ∈ m, isDig c = true := fun d hd => h d (by simp [hd])
      obtain ⟨d, r, rfl⟩ : ∃ d r, m = d :: r := by cases m with | nil => exact absurd rfl hm | cons d r => exact ⟨d, r, rfl⟩
      have hhead : d.toNat ≠ 48 := by
        rcases h0 with h0 | h0
        · simp at h0 hn; omega
        · exact h0 d rfl
      have hdd := (isDig_iff d).1 (hd d (by simp))
      have hpos : 1 ≤ valD (d :: r) := by
        have := valA_ge r (0 * 10 + (d.toNat - 48))
        have h1 : 1 ≤ 10 ^ r.length := Nat.one_le_pow _ _ (by decide)
        have h2 : 1 * 1 ≤ (0 * 10 + (d.toNat - 48)) * 10 ^ r.length := Nat.mul_le_mul (by omega) h1
        show 1 ≤ valA (0 * 10 + (d.toNat - 48)) r
        omega
      rw [Go.Lib.decDigits, dif_neg (by omega), show (valD (d :: r) * 10 + (c.toNat - 48)) / 10 = valD (d :: r) by omega, show (valD (d :: r) * 10 + (c.toNat - 48)) % 10 = c.toNat - 48 by omega,
        ih (d :: r) hlen hd (by simp) (.inr (fun e he => by simp at he; subst he; exact hhead)), show 48 + (c.toNat - 48) = c.toNat by omega, ofNat_toNat]
theorem dec_digits (u : Nat) : (∀ c ∈ Go.Lib.decDigits u, isDig c = true) ∧ valD (Go.Lib.decDigits u) = u ∧ Go.Lib.decDigits u ≠ [] ∧ ((Go.Lib.decDigits u).length = 1 ∨ ∀ c, (Go.Lib.decDigits u).head? = some c → c.toNat ≠ 48) := by
  induction u using Nat.strongRecOn with
  | _ u ih =>
    by_cases h : u < 10
    · rw [Go.Lib.decDigits, dif_pos h]
      have e : (UInt8.ofNat (48 + u)).toNat = 48 + u := by simp; omega
      refine ⟨fun c hc => ?_, ?_, by simp, .inl rfl⟩
      · rw [List.mem_singleton.1 hc, isDig_iff, e]; omega
      · show 0 * 10 + ((UInt8.ofNat (48 + u)).toNat - 48) = u
        rw [e]; omega
    · obtain ⟨h1, h2, h3, h4⟩ := ih (u / 10) (by omega)
      rw [Go.Lib.decDigits, dif_neg h]
      have e : (UInt8.ofNat (48 + u % 10)).toNat = 48 + u % 10 := by simp; omega
      refine ⟨fun c hc => ?_, ?_, by simp, .inr fun c hc => ?_⟩
      · rcases List.mem_append.1 hc with hc | hc
        · exact h1 c hc
        · rw [List.mem_singleton.1 hc, isDig_iff, e]; omega
      · rw [valD_snoc, h2, e]; omega
      · rw [List.head?_append, Option.or_of_isSome (by cases hq : Go.Lib.decDigits (u / 10) with | nil => exact absurd hq h3 | cons x y => rfl)] at hc
        rcases h4 with h4 | h4
        · obtain ⟨d, hd⟩ := List.length_eq_one_iff.1 h4
          rw [hd] at hc h2 h1
          simp at hc
          subst hc
          have := (isDig_iff d).1 (h1 d (by simp))
          have h2' : 0 * 10 + (d.toNat - 48) = u / 10 := h2
          omega
        · exact h4 c hc
end Go.Proofs.YtoammgpfbdcphaaDoor.Num
end
section
namespace Go.Proofs.YtoammgpfbdcphaaDoor.Hn
open Go.Proofs.YtoammgpfbdcphaaDoor.Num
set_option linter.unusedVariables false
set_option linter.unusedSimpArgs false
def padL (w n : Nat) : List UInt8 := List.replicate (w - (Go.Lib.decDigits n).length) 48 ++ Go.Lib.decDigits n
def widthOf (d : List UInt8) : Nat := if 1 < d.length ∧ d.head? = some 48 then d.length else 0
def Digs (d : List UInt8) : Prop := ∀ c ∈ d, isDig c = true
theorem valD_zero (r : List UInt8) : valD (48 :: r) = valD r := rfl
theorem dec_one (c : UInt8) (h : isDig c = true) : Go.Lib.decDigits (valD [c]) = [c] :=
  dec_val [c] (fun d hd => by rw [List.mem_singleton.1 hd]; exact h) (by simp) (.inl rfl)
theorem pad_val : ∀ (d : List UInt8), Digs d → d ≠ [] → (Go.Lib.decDigits (valD d)).length ≤ d.length ∧ padL d.length (valD d) = d
  | [], _, h => absurd rfl h
  | [c], h, _ => by
    have e := dec_one c (h c (by simp))
    unfold padL
    rw [e]
    exact ⟨Nat.le_refl _, rfl⟩
  | c :: e :: r, h, _ => by
    by_cases hc : c = 48
    · subst hc
      obtain ⟨h1, h2⟩ := pad_val (e :: r) (fun x hx => h x (List.mem_cons_of_mem _ hx)) (by simp)
      rw [valD_zero]
      refine ⟨Nat.le_succ_of_le h1, ?_⟩
      unfold padL at h2 ⊢
      rw [List.length_cons (a := 48), Nat.succ_sub h1, List.replicate_succ, List.cons_append, h2]
    · have e2 := dec_val (c :: e :: r) h (by simp) (.inr fun x hx => by
        simp at hx; subst hx; intro h; exact hc (UInt8.toNat_inj.1 h))
      unfold padL
      rw [e2]
      exact ⟨Nat.le_refl _, by simp⟩
theorem head_of_dec (d : List UInt8) (h : Digs d) (hne : d ≠ []) (hw : ¬ (1 < d.length ∧ d.head? = some 48)) : Go.Lib.decDigits (valD d) = d := by
  refine dec_val d h hne ?_
  by_cases hl : d.length = 1
  · exact .inl hl
  · refine .inr fun c hc h48 => hw ⟨?_, ?_⟩
    · have : d.length ≠ 0 := fun h => hne (List.length_eq_zero_iff.1 h)
      omega
    · rw [hc, show c = 48 from UInt8.toNat_inj.1 h48]
theorem text_val (d : List UInt8) (h : Digs d) (hne : d ≠ []) : padL (widthOf d) (valD d) = d := by
  unfold widthOf
  split
  · exact (pad_val d h hne).2
  · rename_i hw
    have e := head_of_dec d h hne hw
    unfold padL
    rw [e]; simp
theorem pad_digs (w n : Nat) : Digs (padL w n) := by
  intro c hc
  rcases List.mem_append.1 hc with hc | hc
  · rw [(List.mem_replicate.1 hc).2]; decide
  · exact (dec_digits n).1 c hc
theorem valD_rep (k : Nat) (l : List UInt8) : valD (List.replicate k 48 ++ l) = valD l := by
  induction k with
  | zero => rfl
  | succ k ih => rw [List.replicate_succ, List.cons_append, valD_zero]; exact ih
theorem pad_valD (w n : Nat) : valD (padL w n) = n := by unfold padL; rw [valD_rep]; exact (dec_digits n).2.1
theorem pad_ne (w n : Nat) : padL w n ≠ [] := by
  unfold padL
  intro h
  exact (dec_digits n).2.2.1 (List.append_eq_nil_iff.1 h).2
theorem pad_length (w n : Nat) : (padL w n).length = max w (Go.Lib.decDigits n).length := by unfold padL; simp; omega
theorem dec_len : ∀ (k n : Nat), n < 10 ^ (k + 1) → (Go.Lib.decDigits n).length ≤ k + 1
  | 0, n, h => by rw [Go.Lib.decDigits, dif_pos (by simpa using h)]; simp
  | k + 1, n, h => by
    by_cases h1 : n < 10
    · rw [Go.Lib.decDigits, dif_pos h1]; simp
    · have := dec_len k (n / 10) (by rw [Nat.pow_succ] at h; omega)
      rw [Go.Lib.decDigits, dif_neg h1, List.length_append]
      simp; omega
theorem dec_pos (n : Nat) : 1 ≤ (Go.Lib.decDigits n).length := by
  have := (dec_digits n).2.2.1
  cases h : Go.Lib.decDigits n with
  | nil => exact absurd h this
  | cons a l => simp
theorem pad_le6 (w n : Nat) (hw : w ≤ 6) (hn : n < 1000000) : (padL w n).length ≤ 6 := by
  rw [pad_length]
  have := dec_len 5 n hn
  omega
end Go.Proofs.YtoammgpfbdcphaaDoor.Hn
end
section
set_option linter.unusedVariables false
set_option linter.unusedSimpArgs false
namespace Go.Proofs.YtoammgpfbdcphaaDoor.Txt
open Go.RowKit Go.Proofs.YtoammgpfbdcphaaDoorW.PrintWords
def L (s : ByteArray) : List UInt8 := s.data.toList
theorem L_length (s : ByteArray) : (L s).length = s.size := by show s.data.toList.length = s.data.size; exact Array.length_toList
theorem L_inj {s t : ByteArray} (h : L s = L t) : s = t := by
  cases s; cases t; congr 1; exact Array.toList_inj.1 h
theorem L_mk (l : List UInt8) : L ⟨l.toArray⟩ = l := by simp [L]
theorem L_append (s t : ByteArray) : L (s ++ t) = L s ++ L t := by simp [L]
theorem toList_L (s : ByteArray) : s.toList = L s := ByteArray.toList_eq s
theorem bt_L (s : ByteArray) (p : Nat) (h : p < s.size) : bt s (p : Int) = ((L s)[p]'(by rw [L_length]; exact h)).toNat := by
  unfold bt
  simp only [Int.toNat_natCast]
  rw [dif_pos h]
  rfl
theorem extract_L (s : ByteArray) (a b : Nat) : L (s.extract a b) = ((L s).drop a).take (b - a) := Go.Lib.extract_data s a b
theorem wrap_nat {p : Nat} (h : p + 1 ≤ 9223372036854775807) : wrap64 ((p : Int) + 1) = ((p + 1 : Nat) : Int) := by unfold wrap64; omega
def run (f : UInt8 → Bool) (l : List UInt8) (p : Nat) : Nat := p + ((l.drop p).takeWhile f).length
theorem run_le (f : UInt8 → Bool) (l : List UInt8) (p : Nat) (h : p ≤ l.length) : run f l p ≤ l.length := by
  have := (List.takeWhile_prefix f (l := l.drop p)).length_le
  rw [List.length_drop] at this
  unfold run; omega
theorem le_run (f : UInt8 → Bool) (l : List UInt8) (p : Nat) : p ≤ run f l p := by unfold run; omega
theorem run_on (f : UInt8 → Bool) (l : List UInt8) (p : Nat) (h : p < l.length) (hf : f l[p] = true) : run f l p = run f l (p + 1) := by
  unfold run
  rw [List.drop_eq_getElem_cons h, List.takeWhile_cons_of_pos hf, List.length_cons]; omega
theorem run_off (f : UInt8 → Bool) (l : List UInt8) (p : Nat) (h : p < l.length) (hf : f l[p] = false) : run f l p = p := by
  unfold run
  rw [List.drop_eq_getElem_cons h, List.takeWhile_cons_of_neg (by simp [hf])]; rfl
theorem run_end (f : UInt8 → Bool) (l : List UInt8) (p : Nat) (h : l.length ≤ p) : run f l p = p := by
  unfold run; rw [List.drop_eq_nil_of_le h]; rfl
theorem run_text (f : UInt8 → Bool) (l : List UInt8) (p : Nat) : (l.drop p).take (run f l p - p) = (l.drop p).takeWhile f := by
  unfold run
  rw [Nat.add_sub_cancel_left]
  have := List.takeWhile_append_dropWhile (p := f) (l := l.drop p)
  generalize List.takeWhile f (l.drop p) = u at this ⊢
  rw [← this, List.take_left']
  rfl
end Go.Proofs.YtoammgpfbdcphaaDoor.Txt
end
section
namespace Go.Proofs.YtoammgpfbdcphaaDoor.Hx
open Go.RowKit Go.Proofs.YtoammgpfbdcphaaDoor.Lib Go.Proofs.YtoammgpfbdcphaaDoor.PH Go.Proofs.YtoammgpfbdcphaaDoor.Txt Go.Proofs.YtoammgpfbdcphaaDoor.Num Go.Proofs.YtoammgpfbdcphaaDoor.Hn Go.Proofs.YtoammgpfbdcphaaDoorW.PrintWords Go.Proofs.YtoammgpfbdcphaaDoorW.PrintLast Go.Proofs.YtoammgpfbdcphaaDoorW.PrintMore
set_option linter.unusedVariables false
set_option linter.unusedSimpArgs false
theorem Ev.shift {α : Type} {g : Nat → Option α} {r : α} (h : Ev (fun k => g (k + 1)) r) : Ev g r := by
  obtain ⟨K, hK⟩ := h
  refine ⟨K + 1, fun k hk => ?_⟩
  obtain ⟨m, rfl⟩ : ∃ m, k = m + 1 := ⟨k - 1, by omega⟩
  exact hK m (by omega)
def bareB (c : UInt8) : Bool := (host_isBare.f (c.toNat : Int)).getD false
theorem digit_f (c : UInt8) : host_isDigit.f (c.toNat : Int) = some (isDig c) := by
  unfold host_isDigit.f isDig
  by_cases h : (c.toNat : Int) ≥ 48
  · rw [if_pos h, decide_eq_true (show 48 ≤ c.toNat by omega)]
    by_cases h2 : (c.toNat : Int) ≤ 57
    · rw [decide_eq_true h2, decide_eq_true (show c.toNat ≤ 57 by omega)]; rfl
    · rw [decide_eq_false h2, decide_eq_false (show ¬ c.toNat ≤ 57 by omega)]; rfl
  · rw [if_neg h, decide_eq_false (show ¬ 48 ≤ c.toNat by omega)]; rfl
theorem bare_f (c : UInt8) : host_isBare.f (c.toNat : Int) = some (bareB c) := by
  unfold bareB
  have : ∃ b, host_isBare.f (c.toNat : Int) = some b := by
    unfold host_isBare.f
    rw [digit_f]
    simp only [Option.bind_some, strings_IndexByte.f]
    repeat' split
    all_goals exact ⟨_, rfl⟩
  obtain ⟨b, hb⟩ := this
  rw [hb]; rfl
theorem bare_dig (c : UInt8) (h : isDig c = true) : bareB c = true := by
  unfold bareB host_isBare.f
  rw [digit_f, h]; rfl
theorem bare_91 : bareB 91 = false := by decide +kernel
theorem bare_44 : bareB 44 = false := by decide +kernel
theorem is_bare (c : UInt8) : takeIs.f 24 (c.toNat : Int) = some (bareB c) := by unfold takeIs.f; rw [if_pos rfl]; exact bare_f c
theorem is_dig (c : UInt8) : takeIs.f 30 (c.toNat : Int) = some (isDig c) := by unfold takeIs.f; rw [if_neg (by decide)]; exact digit_f c
def errA (s : ByteArray) (p : Nat) : Int := if p = s.size then 4 else 3
theorem wrong_f (s : ByteArray) (p : Nat) : host_reader_wrong.f s p 0 0 = some (s, (p : Int), errA s p, (p : Int)) := by
  unfold host_reader_wrong.f errA
  rw [if_neg (by decide)]
  by_cases h : p = s.size
  · rw [if_pos (by omega), if_pos h]
  · rw [if_neg (by omega), if_neg h]
def takeR (s : ByteArray) (p q : Nat) : ByteArray × ByteArray × Int × Int × Int :=
  if q = p then (s.extract p p, s, (p : Int), errA s p, (p : Int)) else (s.extract p q, s, (q : Int), 0, 0)
theorem wrap_sub {a b : Nat} (h : b ≤ a) (ha : a ≤ 9000000000) : wrap64 ((a : Int) - (b : Int)) = ((a - b : Nat) : Int) := by unfold wrap64; omega
theorem take_done (s : ByteArray) (p i : Nat) (hp : p ≤ i) (hi : i ≤ s.size) :
    (if (i : Int) = (p : Int) then ((host_reader_wrong.f s (i : Int) 0 0).bind fun bt => (if 0 ≤ (p : Int) then (if (p : Int) ≤ bt.2.1 then (if bt.2.1 ≤ (bt.1.size : Int) then (some (bt.1.extract (p : Int).toNat (bt.2.1 : Int).toNat, bt.1, bt.2.1, bt.2.2.1, bt.2.2.2)) else (none)) else (none)) else (none)))
     else (if 0 ≤ (p : Int) then (if (p : Int) ≤ (i : Int) then (if (i : Int) ≤ (s.size : Int) then (some (s.extract (p : Int).toNat (i : Int).toNat, s, (i : Int), (0 : Int), (0 : Int))) else (none)) else (none)) else (none))) = some (takeR s p i) := by
  unfold takeR
  by_cases h : i = p
  · subst h
    rw [if_pos rfl, if_pos rfl, wrong_f]
    simp only [Option.bind_some]
    rw [if_pos (by omega), if_pos (by omega), if_pos (by omega), Int.toNat_natCast]
  · rw [if_neg (by omega), if_neg h, if_pos (by omega), if_pos (by omega), if_pos (by omega), Int.toNat_natCast, Int.toNat_natCast]
theorem take_l0 (n : Int) (g : UInt8 → Bool) (hg : ∀ c : UInt8, takeIs.f n (c.toNat : Int) = some (g c)) (s : ByteArray) (hs : s.size ≤ 9000000000) (most p : Nat) :
    ∀ (d i : Nat), s.size - i = d → p ≤ i → i ≤ s.size → i ≤ p + most → Ev (fun k => host_reader_take.l0 n k (most : Int) (p : Int) s (i : Int) 0 0) (takeR s p (min (p + most) (run g (L s) i))) := by
  intro d
  induction d with
  | zero =>
    intro i hd hp hi hm
    refine Ev.shift ⟨0, fun k _ => ?_⟩
    simp only [host_reader_take.l0]
    rw [if_neg (by omega), take_done s p i hp hi, run_end g (L s) i (by rw [L_length]; omega), Nat.min_eq_right (by omega)]
  | succ d ih =>
    intro i hd hp hi hm
    have hlt : i < s.size := by omega
    have hl : i < (L s).length := by rw [L_length]; exact hlt
    by_cases hmo : i - p < most
    · by_cases hc : g (L s)[i] = true
      · obtain ⟨K, hK⟩ := ih (i + 1) (by omega) (by omega) (by omega) (by omega)
        refine Ev.shift ⟨K, fun k hk => ?_⟩
        simp only [host_reader_take.l0]
        rw [if_pos (by omega), wrap_sub hp (by omega), if_pos (by omega), if_pos (by omega), bt_L s i hlt, hg]
        simp only [Option.bind_some]
        rw [if_pos hc, wrap_nat (by omega), run_on g (L s) i hl hc]
        exact hK k hk
      · refine Ev.shift ⟨0, fun k hk => ?_⟩
        simp only [host_reader_take.l0]
        rw [if_pos (by omega), wrap_sub hp (by omega), if_pos (by omega), if_pos (by omega), bt_L s i hlt, hg]
        simp only [Option.bind_some]
        rw [if_neg hc, take_done s p i hp hi, run_off g (L s) i hl (by simpa using hc), Nat.min_eq_right (by omega)]
    · refine Ev.shift ⟨0, fun k hk => ?_⟩
      simp only [host_reader_take.l0]
      rw [if_pos (by omega), wrap_sub hp (by omega), if_neg (by omega), take_done s p i hp hi]
      have := le_run g (L s) i
      rw [Nat.min_eq_left (by omega), show i = p + most by omega]
def dEnd (l : List UInt8) (p : Nat) : Nat := min (p + 6) (run isDig l p)
theorem take_digits (s : ByteArray) (hs : s.size ≤ 9000000000) (p : Nat) (hp : p ≤ s.size) : Ev (fun k => host_reader_take.f k s (p : Int) 0 0 6 30) (takeR s p (dEnd (L s) p)) :=
  take_l0 30 isDig is_dig s hs 6 p _ p rfl (Nat.le_refl _) hp (by omega)
theorem take_bare (s : ByteArray) (hs : s.size ≤ 9000000000) (p : Nat) (hp : p ≤ s.size) : Ev (fun k => host_reader_take.f k s (p : Int) 0 0 (s.size : Int) 24) (takeR s p (run bareB (L s) p)) := by
  have h := take_l0 24 bareB is_bare s hs s.size p _ p rfl (Nat.le_refl _) hp (by omega)
  have h2 := run_le bareB (L s) p (by rw [L_length]; exact hp)
  rw [L_length] at h2
  rw [Nat.min_eq_right (by omega)] at h
  exact h
theorem dEnd_le (s : ByteArray) (p : Nat) (hp : p ≤ s.size) : p ≤ dEnd (L s) p ∧ dEnd (L s) p ≤ s.size ∧ dEnd (L s) p ≤ p + 6 := by
  have h1 := le_run isDig (L s) p
  have h2 := run_le isDig (L s) p (by rw [L_length]; exact hp)
  rw [L_length] at h2
  unfold dEnd; omega
def dTxt (l : List UInt8) (p : Nat) : List UInt8 := (l.drop p).take (dEnd l p - p)
theorem take_takeWhile (f : UInt8 → Bool) (l : List UInt8) (m : Nat) (h : m ≤ (l.takeWhile f).length) : ∀ c ∈ l.take m, f c = true := by
  intro c hc
  have hp : l.take m = (l.takeWhile f).take m := by
    have e := List.takeWhile_append_dropWhile (p := f) (l := l)
    have : (l.takeWhile f ++ l.dropWhile f).take m = (l.takeWhile f).take m := by rw [List.take_append_of_le_length h]
    rw [e] at this; exact this
  rw [hp] at hc
  exact List.all_eq_true.1 (List.all_takeWhile (p := f) (l := l)) c (List.mem_of_mem_take hc)
theorem dTxt_digs (l : List UInt8) (p : Nat) : Digs (dTxt l p) := by
  intro c hc
  refine take_takeWhile isDig (l.drop p) _ ?_ c hc
  have : run isDig l p - p = ((l.drop p).takeWhile isDig).length := by unfold run; omega
  unfold dEnd; omega
theorem dTxt_len (s : ByteArray) (p : Nat) (hp : p ≤ s.size) : (dTxt (L s) p).length = dEnd (L s) p - p := by
  have := dEnd_le s p hp
  unfold dTxt
  rw [List.length_take, List.length_drop, L_length]; omega
theorem dTxt_L (s : ByteArray) (p : Nat) : L (s.extract p (dEnd (L s) p)) = dTxt (L s) p := extract_L s p _
theorem atoi_f (b : ByteArray) (h : Digs (L b)) (hne : L b ≠ []) (hl : (L b).length ≤ 6) : strconv_Atoi.f b = some ((valD (L b) : Int), none) := by
  unfold strconv_Atoi.f atoiVal
  have : b.size ≤ 6 := by rw [← L_length]; exact hl
  rw [if_pos (by omega)]
  have e := atoi_digits (L b) h hne (by omega)
  unfold L at e
  rw [e]; rfl
theorem valD_six (d : List UInt8) (h : Digs d) (hl : d.length ≤ 6) : valD d < 1000000 := by
  have h1 := valD_lt d h
  have h2 : 10 ^ d.length ≤ 10 ^ 6 := Nat.pow_le_pow_right (by decide) hl
  omega
theorem next_f (s : ByteArray) (p : Nat) (y z : Int) (c : UInt8) (hp : p ≤ s.size) :
    host_reader_next.f s (p : Int) y z (c.toNat : Int) = if (L s)[p]? = some c then some (true, s, wrap64 ((p : Int) + 1), y, z) else some (false, s, (p : Int), y, z) := by
  unfold host_reader_next.f
  by_cases h : p < s.size
  · rw [if_pos (by omega), if_pos (by omega), bt_L s p h, List.getElem?_eq_getElem (by rw [L_length]; exact h)]
    by_cases e : (L s)[p]'(by rw [L_length]; exact h) = c
    · rw [if_pos (by rw [e]), if_pos (by rw [e])]
    · rw [if_neg, if_neg]
      · intro h2; exact e (by injection h2)
      · intro h2; exact e (UInt8.toNat_inj.1 (by omega))
  · rw [if_neg (by omega), List.getElem?_eq_none (by rw [L_length]; omega), if_neg (by simp)]
end Go.Proofs.YtoammgpfbdcphaaDoor.Hx
end
section
namespace Go.Proofs.YtoammgpfbdcphaaDoor.Hx
open Go.RowKit Go.Proofs.YtoammgpfbdcphaaDoor.Lib Go.Proofs.YtoammgpfbdcphaaDoor.PH Go.Proofs.YtoammgpfbdcphaaDoor.Txt Go.Proofs.YtoammgpfbdcphaaDoor.Num Go.Proofs.YtoammgpfbdcphaaDoor.Hn Go.Proofs.YtoammgpfbdcphaaDoorW.PrintWords Go.Proofs.YtoammgpfbdcphaaDoorW.PrintLast Go.Proofs.YtoammgpfbdcphaaDoorW.PrintMore
set_option linter.unusedVariables false
set_option linter.unusedSimpArgs false
theorem takeR_ok (s : ByteArray) (p q : Nat) (h : q ≠ p) : takeR s p q = (s.extract p q, s, (q : Int), 0, 0) := by unfold takeR; rw [if_neg h]
theorem bt_head (b : ByteArray) (h : 0 < b.size) : ((bt b 0) == 48) = decide ((L b).head? = some 48) := by
  have e := bt_L b 0 h
  have hl : 0 < (L b).length := by rw [L_length]; exact h
  rw [show ((0 : Nat) : Int) = 0 from rfl] at e
  rw [e, List.head?_eq_getElem?, List.getElem?_eq_getElem hl]
  by_cases c : (L b)[0] = 48
  · rw [c]; rfl
  · rw [decide_eq_false (by intro h2; exact c (by injection h2))]
    have : ((L b)[0]).toNat ≠ 48 := fun h2 => c (UInt8.toNat_inj.1 h2)
    simp; omega
theorem j1_one (s : ByteArray) (q : Nat) (n t w : Int) (hq : q ≤ s.size) (h : (L s)[q]? ≠ some 45) :
    Ev (fun k => host_reader_span.j1 k s (q : Int) 0 0 n t w) (n, t, w, s, (q : Int), 0, 0) := by
  refine Ev.shift (Ev.shift ⟨0, fun k _ => ?_⟩)
  simp only [host_reader_span.j1]
  rw [if_pos (by first | rfl | trivial)]
  have e := next_f s q 0 0 45 hq
  rw [if_neg h] at e
  rw [show ((45 : UInt8).toNat : Int) = 45 from rfl] at e
  rw [e]
  simp only [Option.bind_some, host_reader_span.j2]
  rw [if_neg (by first | decide | simp)]
theorem j2_ok (s : ByteArray) (hs : s.size ≤ 9000000000) (p : Nat) (n : Nat) (t w : Int) (hp : p ≤ s.size) (hq : dEnd (L s) p ≠ p) (hv : n ≤ valD (dTxt (L s) p)) :
    Ev (fun k => host_reader_span.j2 k true s (p : Int) 0 0 (n : Int) t w) ((n : Int), (valD (dTxt (L s) p) : Int), w, s, (dEnd (L s) p : Int), 0, 0) := by
  obtain ⟨K, hK⟩ := take_digits s hs p hp
  dsimp only at hK
  have hb := dEnd_le s p hp
  have hl := dTxt_len s p hp
  have ha := atoi_f (s.extract p (dEnd (L s) p)) (by rw [dTxt_L]; exact dTxt_digs _ _) (by rw [dTxt_L]; intro h; rw [h] at hl; simp at hl; omega) (by rw [dTxt_L]; omega)
  refine Ev.shift ⟨K + 1, fun k hk => ?_⟩
  simp only [host_reader_span.j2]
  rw [if_pos (by first | rfl | trivial), hK k (by omega), takeR_ok _ _ _ hq]
  try simp only [Option.bind_some]
  rw [ha, dTxt_L]
  try simp only [Option.bind_some]
  rw [if_neg (by omega)]
  obtain ⟨m, rfl⟩ : ∃ m, k = m + 1 := ⟨k - 1, by omega⟩
  simp only [host_reader_span.j3]
  rw [if_neg (by first | decide | simp)]
theorem j1_two (s : ByteArray) (q : Nat) (n t w : Int) (hs : s.size ≤ 9000000000) (hq : q ≤ s.size) (h : (L s)[q]? = some 45) (r : Int × Int × Int × ByteArray × Int × Int × Int) (hr : Ev (fun k => host_reader_span.j2 k true s ((q + 1 : Nat) : Int) 0 0 n t w) r) :
    Ev (fun k => host_reader_span.j1 k s (q : Int) 0 0 n t w) r := by
  obtain ⟨K, hK⟩ := hr
  dsimp only at hK
  refine Ev.shift ⟨K, fun k hk => ?_⟩
  simp only [host_reader_span.j1]
  rw [if_pos (by first | rfl | trivial)]
  have e := next_f s q 0 0 45 hq
  rw [if_pos h, wrap_nat (by omega)] at e
  rw [show ((45 : UInt8).toNat : Int) = 45 from rfl] at e
  rw [e]
  try simp only [Option.bind_some]
  exact hK k hk
theorem span_first (s : ByteArray) (hs : s.size ≤ 9000000000) (p : Nat) (hp : p ≤ s.size) (hq : dEnd (L s) p ≠ p) (r : Int × Int × Int × ByteArray × Int × Int × Int)
    (hr : Ev (fun k => host_reader_span.j1 k s (dEnd (L s) p : Int) 0 0 (valD (dTxt (L s) p) : Int) (valD (dTxt (L s) p) : Int) (widthOf (dTxt (L s) p) : Int)) r) : Ev (fun k => host_reader_span.f k s (p : Int) 0 0) r := by
  obtain ⟨K, hK⟩ := take_digits s hs p hp
  dsimp only at hK
  obtain ⟨K1, h1⟩ := hr
  have hb := dEnd_le s p hp
  have hl := dTxt_len s p hp
  have ha := atoi_f (s.extract p (dEnd (L s) p)) (by rw [dTxt_L]; exact dTxt_digs _ _) (by rw [dTxt_L]; intro h; rw [h] at hl; simp at hl; omega) (by rw [dTxt_L]; omega)
  have hz : (s.extract p (dEnd (L s) p)).size = (dTxt (L s) p).length := by rw [← L_length, dTxt_L]
  have hj0 : ∀ b : Bool, (b = decide (1 < (dTxt (L s) p).length ∧ (dTxt (L s) p).head? = some 48)) →
      Ev (fun k => host_reader_span.j0 k (s.extract p (dEnd (L s) p)) b s (dEnd (L s) p : Int) 0 0 (valD (dTxt (L s) p) : Int) (valD (dTxt (L s) p) : Int) 0) r := by
    intro b hb
    refine Ev.shift ⟨K1, fun k hk => ?_⟩
    simp only [host_reader_span.j0]
    have h2 := h1 k hk
    unfold widthOf at h2
    by_cases hc : 1 < (dTxt (L s) p).length ∧ (dTxt (L s) p).head? = some 48
    · rw [hb, if_pos (decide_eq_true hc), hz]
      rw [if_pos hc] at h2
      exact h2
    · rw [hb, if_neg (by simpa using hc)]
      rw [if_neg hc] at h2
      exact h2
  obtain ⟨K0, h0⟩ := hj0 _ rfl
  refine ⟨K + K0, fun k hk => ?_⟩
  simp only [host_reader_span.f]
  rw [hK k (by omega), takeR_ok _ _ _ hq]
  try simp only [Option.bind_some]
  rw [ha, dTxt_L]
  try simp only [Option.bind_some]
  have h00 := h0 k (by omega)
  by_cases h1 : 1 < (dTxt (L s) p).length
  · rw [if_pos (by omega), if_pos (by omega), bt_head _ (by omega), dTxt_L]
    simp only [h1, true_and] at h00
    exact h00
  · rw [if_neg (by omega)]
    simp only [h1, false_and, decide_false] at h00
    exact h00
abbrev Sp := Nat × Nat × Nat
def mkS (x : Sp) : S54 := ⟨(x.1 : Int), (x.2.1 : Int), (x.2.2 : Int)⟩
def goodS (x : Sp) : Prop := x.1 ≤ x.2.1 ∧ x.2.1 < 1000000 ∧ x.2.2 ≤ 6
def spanO (l : List UInt8) (p : Nat) : Option (Sp × Nat) :=
  if dEnd l p = p then none
  else if l[dEnd l p]? = some 45 then
    if dEnd l (dEnd l p + 1) = dEnd l p + 1 ∨ valD (dTxt l (dEnd l p + 1)) < valD (dTxt l p) then none
    else some ((valD (dTxt l p), valD (dTxt l (dEnd l p + 1)), widthOf (dTxt l p)), dEnd l (dEnd l p + 1))
  else some ((valD (dTxt l p), valD (dTxt l p), widthOf (dTxt l p)), dEnd l p)
theorem width_le (d : List UInt8) : widthOf d ≤ d.length := by unfold widthOf; split <;> omega
theorem spanO_good (s : ByteArray) (p : Nat) (hp : p ≤ s.size) (x : Sp) (q : Nat) (h : spanO (L s) p = some (x, q)) : goodS x ∧ p < q ∧ q ≤ s.size := by
  have hb := dEnd_le s p hp
  have hl := dTxt_len s p hp
  have hw := width_le (dTxt (L s) p)
  have hv := valD_six (dTxt (L s) p) (dTxt_digs _ _) (by omega)
  unfold spanO at h
  split at h
  · cases h
  · rename_i h1
    split at h
    · rename_i h2
      have hlt : dEnd (L s) p < s.size := by
        have := (List.getElem?_eq_some_iff.1 h2).1
        rwa [L_length] at this
      have hb2 := dEnd_le s (dEnd (L s) p + 1) (by omega)
      have hl2 := dTxt_len s (dEnd (L s) p + 1) (by omega)
      have hv2 := valD_six (dTxt (L s) (dEnd (L s) p + 1)) (dTxt_digs _ _) (by omega)
      split at h
      · cases h
      · rename_i h3
        injection h with h
        injection h with ha hb
        subst ha; subst hb
        exact ⟨⟨by show valD (dTxt (L s) p) ≤ valD (dTxt (L s) (dEnd (L s) p + 1)); omega, hv2, by show widthOf (dTxt (L s) p) ≤ 6; omega⟩, by omega, by omega⟩
    · injection h with h
      injection h with ha hb
      subst ha; subst hb
      exact ⟨⟨Nat.le_refl _, hv, by show widthOf (dTxt (L s) p) ≤ 6; omega⟩, by omega, by omega⟩
theorem span_some (s : ByteArray) (hs : s.size ≤ 9000000000) (p : Nat) (hp : p ≤ s.size) (x : Sp) (q : Nat) (h : spanO (L s) p = some (x, q)) :
    Ev (fun k => host_reader_span.f k s (p : Int) 0 0) ((x.1 : Int), (x.2.1 : Int), (x.2.2 : Int), s, (q : Int), 0, 0) := by
  have hb := dEnd_le s p hp
  unfold spanO at h
  split at h
  · cases h
  · rename_i h1
    refine span_first s hs p hp h1 _ ?_
    split at h
    · rename_i h2
      have hlt : dEnd (L s) p < s.size := by
        have := (List.getElem?_eq_some_iff.1 h2).1
        rwa [L_length] at this
      split at h
      · cases h
      · rename_i h3
        injection h with h
        injection h with ha hb
        subst ha; subst hb
        exact j1_two s _ _ _ _ hs (by omega) h2 _ (j2_ok s hs _ _ _ _ (by omega) (by omega) (by omega))
    · rename_i h2
      injection h with h
      injection h with ha hb
      subst ha; subst hb
      exact j1_one s _ _ _ _ (by omega) h2
theorem spans_stop (s : ByteArray) (hs : s.size ≤ 9000000000) (p : Nat) (hp : p ≤ s.size) (acc : List Sp) (ha : acc.length ≤ 9000000000) (x : Sp) (q : Nat) (h : spanO (L s) p = some (x, q)) (hc : (L s)[q]? = some 93) :
    Ev (fun k => host_reader_spans.l0 k (acc.map mkS) s (p : Int) 0 0) ((acc ++ [x]).map mkS, s, ((q + 1 : Nat) : Int), 0, 0) := by
  obtain ⟨K, hK⟩ := span_some s hs p hp x q h
  dsimp only at hK
  obtain ⟨hg, hpq, hq⟩ := spanO_good s p hp x q h
  refine Ev.shift ⟨K + 1, fun k hk => ?_⟩
  simp only [host_reader_spans.l0]
  rw [if_pos (by first | rfl | trivial), hK k (by omega)]
  try simp only [Option.bind_some]
  rw [if_pos (by simp; omega)]
  try simp only [Option.bind_some]
  rw [if_neg (by first | decide | simp)]
  have e := next_f s q 0 0 93 hq
  rw [if_pos hc, wrap_nat (by omega)] at e
  rw [show ((93 : UInt8).toNat : Int) = 93 from rfl] at e
  rw [e]
  try simp only [Option.bind_some]
  obtain ⟨m, rfl⟩ : ∃ m, k = m + 1 := ⟨k - 1, by omega⟩
  simp only [host_reader_spans.j1]
  rw [if_pos (by first | rfl | trivial)]
  simp [mkS]
end Go.Proofs.YtoammgpfbdcphaaDoor.Hx
end
