/- Part 4 of the proof. -/
import Derived.Test.YtnfpchpnephheaaDoorZ03
import Derived.RegionTactic
import Derived.ChangeAlike
section
namespace Go.Proofs.YtnfpchpnephheaaDoor.PA
open Go.RowKit Go.Proofs.YtnfpchpnephheaaDoor.Lib Go.Proofs.YtnfpchpnephheaaDoorW.PrintWords Go.Proofs.YtnfpchpnephheaaDoorW.PrintLast Go.Proofs.YtnfpchpnephheaaDoorW.PrintMore
attribute [local go_sem] max2_int min2_int max_two min_two max_three min_three max_four min_four   
set_option linter.unusedVariables false
set_option linter.unusedSimpArgs false
def array_Format.l0 : Nat → List ByteArray → List Int → List Int → Int → Option (ByteArray × Int)
 | 0, _, _, _, _ => none
 | k + 1, x4, x5, x108000, x108001 => if (x5.length : Int) > 0 then (if 0 < (x5.length : Int) then ((strconv_Itoa.f (rd x5 0)).bind fun t110 => ((array_run.f k x5).bind fun bt111 => (if bt111.2 = 1 then (if 0 ≤ (wrap64 (bt111.1 - 1)) then (if (wrap64 (bt111.1 - 1)) < (x5.length : Int) then ((strconv_Itoa.f (rd x5 (wrap64 (bt111.1 - 1)))).bind fun t114 => (if 1 + t114.size ≤ 9223372036854775807 then (if t110.size + ((⟨#[45]⟩ : ByteArray) ++ t114).size ≤ 9223372036854775807 then (if x4.length < 8796093022208 then (if 0 ≤ bt111.1 then (if bt111.1 ≤ (x5.length : Int) then (array_Format.l0 k (x4 ++ [t110 ++ ((⟨#[45]⟩ : ByteArray) ++ t114)]) (x5.drop (bt111.1 : Int).toNat) x108000 x108001) else (none)) else (none)) else (none)) else (none)) else (none))) else (none)) else (none)) else (if bt111.1 > 2 then (if 0 ≤ (wrap64 (bt111.1 - 1)) then (if (wrap64 (bt111.1 - 1)) < (x5.length : Int) then ((strconv_Itoa.f (rd x5 (wrap64 (bt111.1 - 1)))).bind fun t124 => (if 1 + t124.size ≤ 9223372036854775807 then (if ((⟨#[45]⟩ : ByteArray) ++ t124).size + 1 ≤ 9223372036854775807 then ((strconv_Itoa.f bt111.2).bind fun t125 => (if (((⟨#[45]⟩ : ByteArray) ++ t124) ++ (⟨#[58]⟩ : ByteArray)).size + t125.size ≤ 9223372036854775807 then (if t110.size + ((((⟨#[45]⟩ : ByteArray) ++ t124) ++ (⟨#[58]⟩ : ByteArray)) ++ t125).size ≤ 9223372036854775807 then (if x4.length < 8796093022208 then (if 0 ≤ bt111.1 then (if bt111.1 ≤ (x5.length : Int) then (array_Format.l0 k (x4 ++ [t110 ++ ((((⟨#[45]⟩ : ByteArray) ++ t124) ++ (⟨#[58]⟩ : ByteArray)) ++ t125)]) (x5.drop (bt111.1 : Int).toNat) x108000 x108001) else (none)) else (none)) else (none)) else (none)) else (none))) else (none)) else (none))) else (none)) else (none)) else (if x4.length < 8796093022208 then (if 1 ≤ (x5.length : Int) then (array_Format.l0 k (x4 ++ [t110]) (x5.drop 1) x108000 x108001) else (none)) else (none)))))) else (none)) else ((strings_Join.f x4 (⟨#[44]⟩ : ByteArray)).bind fun t142 => (if x108001 > 0 then ((strconv_Itoa.f x108001).bind fun t143 => (if 1 + t143.size ≤ 9223372036854775807 then (if t142.size + ((⟨#[37]⟩ : ByteArray) ++ t143).size ≤ 9223372036854775807 then (some (t142 ++ ((⟨#[37]⟩ : ByteArray) ++ t143), 0)) else (none)) else (none))) else (some (t142, 0))))
def array_Format.f (k : Nat) (l0_0 : List Int) (a0_1 : Int) : Option (ByteArray × Int) := (array_Right.f k l0_0 a0_1).bind fun t108 => (if t108 = true then (array_Format.l0 k ([] : List ByteArray) l0_0 l0_0 a0_1) else (some ((⟨#[]⟩ : ByteArray), 3)))
theorem array_Format.mono_l : ∀ k,(∀ y0 y1 y2 y3,LeO (array_Format.l0 k y0 y1 y2 y3) (array_Format.l0 (k + 1) y0 y1 y2 y3))
|0 => fun _ _ _ _ r h => by simp [array_Format.l0] at h
|k + 1 => by
  have ih0:=array_Format.mono_l k
  ·intro y0 y1 y2 y3
   unfold array_Format.l0
   repeat' first
  |(with_reducible exact ih0 _ _ _ _)
  |(with_reducible exact array_Right.mono _ _ _)
  |(with_reducible exact array_run.mono _ _)
  |(with_reducible exact LeO.refl _)
  |(with_reducible exact LeO.none _)
  |(with_reducible refine LeO.ite ?_ ?_)
  |(with_reducible refine LeO.bind ?_ (fun _ => ?_))
  |exact ih0 _ _ _ _
  |exact array_Right.mono _ _ _
  |exact array_run.mono _ _
  |exact LeO.none _
  |refine LeO.ite ?_ ?_
  |refine LeO.bind ?_ (fun _ => ?_)
theorem array_Format.mono : ∀ a0 a1 k,LeO (array_Format.f k a0 a1) (array_Format.f (k + 1) a0 a1):=by
 (intro a0 a1 k);(have ih0:=array_Format.mono_l k);(unfold array_Format.f)
 repeat' first
  |(with_reducible exact ih0 _ _ _ _)
  |(with_reducible exact array_Right.mono _ _ _)
  |(with_reducible exact array_run.mono _ _)
  |(with_reducible exact LeO.refl _)
  |(with_reducible exact LeO.none _)
  |(with_reducible refine LeO.ite ?_ ?_)
  |(with_reducible refine LeO.bind ?_ (fun _ => ?_))
  |exact ih0 _ _ _ _
  |exact array_Right.mono _ _ _
  |exact array_run.mono _ _
  |exact LeO.none _
  |refine LeO.ite ?_ ?_
  |refine LeO.bind ?_ (fun _ => ?_)
set_option maxHeartbeats 8000000 in
set_option maxRecDepth 100000 in
theorem array_Format.calls (k : Nat) (P0_0_ : Nat → Prop) (A0_0 : Option Addr) (c0_0 : Nat) (l0_0 : List Int) (a0_1 : Int) (r1 : ByteArray) (r2 : Int) (w : World) (hs0_0 : Kd.V (Kd.int .i64) 3 w w.heap.size (fun k_ => P0_0_ k_) (.slice A0_0 l0_0.length c0_0) l0_0) (h : array_Format.f k l0_0 a0_1 = some (r1,r2)) (hG_ : Glob w) :
  Calls Tryd.prog 8 #[.agg #[.slice A0_0 l0_0.length c0_0,.int .i64 a0_1]] w fun e w' => e = .returned (.tuple #[.string r1,.int .i64 r2])∧Below w.heap.size w w':=by
 (have HG_:=Aside0.mk hG_);(clear hG_);(have hu28:=Tryd.underlying28);(have HO0_0:=Aside0.mk (show Kd.V (Kd.int .i64) 3 w w.heap.size (fun k_ => (P0_0_ k_ ∨ w.heap.size ≤ k_)) (.slice A0_0 l0_0.length c0_0) l0_0 from Kd.V_mono hs0_0 (fun k_ hk => .inl hk)));(have HB:=Aside0.mk (Below.refl w.heap.size w));(have H : ((array_Right.f k l0_0 a0_1).bind fun t108 => (if t108 = true then (array_Format.l0 k ([] : List ByteArray) l0_0 l0_0 a0_1) else (some ((⟨#[]⟩ : ByteArray),3)))) = some (r1,r2):=h);(clear h);(replace H:=Option.bind_eq_some_iff.mp H);(obtain ⟨t108,A20,H⟩:=H);(replace H : (if t108 = true then (array_Format.l0 k ([] : List ByteArray) l0_0 l0_0 a0_1) else (some ((⟨#[]⟩ : ByteArray),3))) = some (r1,r2):=H);(have A2:=Aside0.mk A20);(clear A20);(by_cases c3 : t108 = true)
 ·(subst c3);(have H1 : (array_Format.l0 k ([] : List ByteArray) l0_0 l0_0 a0_1) = some (r1,r2):=by rw [if_pos rfl] at H;exact H);(clear H);(have H:=H1);(clear H1);(have H':=Aside0.mk H);(clear H);(go_enter Tryd.func8,Tryd.ntmps8);(go_wp2_with (first|((with_reducible refine gate_dst (N:=1) rfl ?_);refine box_event ?hg (N:=1) ?hd (cs:=#[.slice A0_0 l0_0.length c0_0,.int .i64 a0_1]) (t:=28) ?hr ?_;(case hd => rfl);(case hg => rfl);(case hr => first|(go_simp;done)|(go_simp;rfl));intro gb107 hg w4 hbox hb;have n0_:=Aside0.mk (Kd.V_below (Kd.V_elderB (by (with_reducible repeat (first|apply Kd.V_alloc|apply Kd.V_drewN|apply Kd.V_drew));exact HO0_0.out) gb107 (Nat.le_of_eq hg.symm)) hb);have n1_:=Aside0.mk (below_step (by repeat (first|(with_reducible first|exact HB.out|apply below_alloc|apply pw_below_drewN|apply below_drew1)|exact HB.out)) hb);have n2_:=Aside0.mk (hbox);have n3_:=Aside0.mk ((by rw [hg];exact (below_size (by repeat (first|(with_reducible first|exact HB.out|apply below_alloc|apply pw_below_drewN|apply below_drew1)|exact HB.out))) : w.heap.size ≤ gb107));have n4_:=Aside0.mk ((by rw [hg];exact (below_size (by repeat (first|(with_reducible first|exact HB.out|apply below_alloc|apply pw_below_drewN|apply below_drew1)|exact HB.out))) : w.heap.size ≤ gb107));clear HO0_0;clear HB;have HO0_0:=n0_;have HB:=n1_;have BK107:=n2_;have GW107:=n3_;have GE107:=n4_;clear n0_ n1_ n2_ n3_ n4_;clear hb hbox hg;have hcz5_0 : w4.cell? ⟨gb107,0,none⟩ = some (.slice A0_0 l0_0.length c0_0):=(blk_cell BK107.out 0).trans rfl;have hcz5_1 : w4.cell? ⟨gb107,1,none⟩ = some (.int .i64 a0_1):=(blk_cell BK107.out 1).trans rfl;have hfz5_0:=blk_frozen BK107.out 0;have hfz5_1:=blk_frozen BK107.out 1)|((with_reducible refine gate_callee (f:=11) rfl ?_);refine goesL_ (some 11) rfl rfl Tryd.func11 (by kernel_rfl) rfl #[.agg #[.slice A0_0 l0_0.length c0_0,.int .i64 a0_1]] rfl (by (try simp only [List.map_toArray,List.map_cons,List.map_nil]);first|done|rfl|(simp only [List.length_drop,List.length_take];rfl)) ?_;(with_reducible refine (array_Right.calls k _ _ l0_0 a0_1 true _ ?side1 ?side2 A2.out).mono ?_);(case side1 => repeat (first|exact (Kd.V_reads' HO0_0.out).2.2|(with_reducible refine Kd.C_alloc ?_ _)|(with_reducible refine Kd.C_drewN ?_ _)|(with_reducible refine Kd.C_drew ?_)));(case side2 => exact (Kd.V_reads' HO0_0.out).2.1);rintro e w6 ⟨rfl,hb⟩;refine ⟨_,rfl,?_⟩;have n0_:=Aside0.mk (Kd.V_below (by (with_reducible repeat (first|apply Kd.V_alloc|apply Kd.V_drewN|apply Kd.V_drew));exact HO0_0.out) hb);have n1_:=Aside0.mk (blk_below (g:=gb107) (o:=.cells #[.slice A0_0 l0_0.length c0_0,.int .i64 a0_1] 28 (0,0)) (by (with_reducible repeat (first|refine blk_drewN ?_ _|refine blk_drew ?_|refine blk_alloc ?_ _));exact BK107.out) hb);have n2_:=Aside0.mk (below_step (by repeat (first|(with_reducible first|exact HB.out|apply below_alloc|apply pw_below_drewN|apply below_drew1|refine below_set ?_ GE107.out)|exact HB.out)) hb);clear HO0_0;clear BK107;clear HB;have HO0_0:=n0_;have BK107:=n1_;have HB:=n2_;clear n0_ n1_ n2_;(try clear hb);(try clear hb2);(try clear hk);(try clear hi);have hcz7_0 : w6.cell? ⟨gb107,0,none⟩ = some (.slice A0_0 l0_0.length c0_0):=(blk_cell BK107.out 0).trans rfl;have hcz7_1 : w6.cell? ⟨gb107,1,none⟩ = some (.int .i64 a0_1):=(blk_cell BK107.out 1).trans rfl;have hfz7_0:=blk_frozen BK107.out 0;have hfz7_1:=blk_frozen BK107.out 1)));(go_loopg [4,5] k (fun kq v4 v5 w' => ∃ (x4_1 : List ByteArray) (x5_1 : List Int),Aside0 (array_Format.l0 kq x4_1 x5_1 l0_0 a0_1 = some (r1,r2))∧Aside0 (kq ≤ k)∧Aside0 (Kd.R Kd.string 9 w' w.heap.size (fun k_ => (w.heap.size ≤ k_)) v4 x4_1)∧Aside0 (Kd.V (Kd.int .i64) 3 w' w.heap.size (fun k_ => (P0_0_ k_ ∨ w.heap.size ≤ k_)∧some k_ ≠ (v4 : Value).ownBlock∧k_ ≠ gb107) v5 x5_1)∧Aside0 (Kd.V (Kd.int .i64) 3 w' w.heap.size (fun k_ => (P0_0_ k_ ∨ w.heap.size ≤ k_)∧some k_ ≠ (v4 : Value).ownBlock∧k_ ≠ gb107) (.slice A0_0 l0_0.length c0_0) l0_0)∧Aside0 (w'.heap[gb107]? = some (.cells #[(.slice A0_0 l0_0.length c0_0),.int .i64 a0_1] 28 (0,0)))∧Aside0 (Below w.heap.size w w')))
  case atStart => exact ⟨(([] : List ByteArray)),(l0_0),H',⟨Nat.le_refl _⟩,⟨by first|exact Kd.R_nil _ _ _ _ _|exact Kd.N_nil _ _ _ _ _|exact Kd.V_nil _ _ _ _ _|exact Kd.Q_nil _ _ _ _ _|exact Kd.S_nil _ _ _ _ _⟩,⟨by (with_reducible repeat (first|apply Kd.V_alloc|apply Kd.V_drewN|apply Kd.V_drew));exact Kd.V_mono HO0_0.out (fun _ hk => ⟨hk.1,⟨(by simp [Value.ownBlock]),hk.2⟩⟩)⟩,⟨by (with_reducible repeat (first|apply Kd.V_alloc|apply Kd.V_drewN|apply Kd.V_drew));exact Kd.V_mono HO0_0.out (fun _ hk => ⟨hk.1,⟨(by simp [Value.ownBlock]),hk.2⟩⟩)⟩,⟨by (with_reducible repeat (first|refine blk_drewN ?_ _|refine blk_drew ?_|refine blk_alloc ?_ _));exact BK107.out⟩,⟨by repeat (first|(with_reducible first|exact HB.out|apply below_alloc|apply pw_below_drewN|apply below_drew1|refine below_set ?_ GE107.out)|exact HB.out)⟩⟩
  case round =>
   (clear H');(try clear c1);(try clear p2);(try clear c3);(try clear hcz5_0);(try clear hcz5_1);(try clear hcz7_0);(try clear hcz7_1);(try clear hfz5_0);(try clear hfz5_1);(try clear hfz7_0);(try clear hfz7_1);(obtain ⟨x4_1,x5_1,HA,HK1,HO_4,HO_5,HO_108000,BK107,HB⟩:=hrel)
   cases gk with
  |zero => exact absurd HA.out (by simp [array_Format.l0])
  |succ k1 =>
    (have H:=HA.out);(clear HA);(simp only [array_Format.l0] at H);(by_cases c8 : (x5_1.length : Int) > 0)
    ·(rw [if_pos c8] at H);(have c8b0 : decide (0 < (x5_1.length : Int)) = true:=decide_eq_true c8);(have c8b1 : decide (0 < x5_1.length) = true:=decide_eq_true (by omega));(clear c8);(by_cases c9 : 0 < (x5_1.length : Int))
     ·(rw [if_pos c9] at H);(have c9b0 : decide (0 < (x5_1.length : Int)) = true:=decide_eq_true c9);(have c9b1 : decide (0 < x5_1.length) = true:=decide_eq_true (by omega));(clear c9);(replace H:=Option.bind_eq_some_iff.mp H);(obtain ⟨t110,A100,H⟩:=H);(replace H : ((array_run.f k1 x5_1).bind fun bt111 => (if bt111.2 = 1 then (if 0 ≤ (wrap64 (bt111.1 - 1)) then (if (wrap64 (bt111.1 - 1)) < (x5_1.length : Int) then ((strconv_Itoa.f (rd x5_1 (wrap64 (bt111.1 - 1)))).bind fun t114 => (if 1 + t114.size ≤ 9223372036854775807 then (if t110.size + ((⟨#[45]⟩ : ByteArray) ++ t114).size ≤ 9223372036854775807 then (if x4_1.length < 8796093022208 then (if 0 ≤ bt111.1 then (if bt111.1 ≤ (x5_1.length : Int) then (array_Format.l0 k1 (x4_1 ++ [t110 ++ ((⟨#[45]⟩ : ByteArray) ++ t114)]) (x5_1.drop (bt111.1 : Int).toNat) l0_0 a0_1) else (none)) else (none)) else (none)) else (none)) else (none))) else (none)) else (none)) else (if bt111.1 > 2 then (if 0 ≤ (wrap64 (bt111.1 - 1)) then (if (wrap64 (bt111.1 - 1)) < (x5_1.length : Int) then ((strconv_Itoa.f (rd x5_1 (wrap64 (bt111.1 - 1)))).bind fun t124 => (if 1 + t124.size ≤ 9223372036854775807 then (if ((⟨#[45]⟩ : ByteArray) ++ t124).size + 1 ≤ 9223372036854775807 then ((strconv_Itoa.f bt111.2).bind fun t125 => (if (((⟨#[45]⟩ : ByteArray) ++ t124) ++ (⟨#[58]⟩ : ByteArray)).size + t125.size ≤ 9223372036854775807 then (if t110.size + ((((⟨#[45]⟩ : ByteArray) ++ t124) ++ (⟨#[58]⟩ : ByteArray)) ++ t125).size ≤ 9223372036854775807 then (if x4_1.length < 8796093022208 then (if 0 ≤ bt111.1 then (if bt111.1 ≤ (x5_1.length : Int) then (array_Format.l0 k1 (x4_1 ++ [t110 ++ ((((⟨#[45]⟩ : ByteArray) ++ t124) ++ (⟨#[58]⟩ : ByteArray)) ++ t125)]) (x5_1.drop (bt111.1 : Int).toNat) l0_0 a0_1) else (none)) else (none)) else (none)) else (none)) else (none))) else (none)) else (none))) else (none)) else (none)) else (if x4_1.length < 8796093022208 then (if 1 ≤ (x5_1.length : Int) then (array_Format.l0 k1 (x4_1 ++ [t110]) (x5_1.drop 1) l0_0 a0_1) else (none)) else (none))))) = some (r1,r2):=H);(have A10:=Aside0.mk A100);(clear A100);(replace H:=Option.bind_eq_some_iff.mp H);(obtain ⟨⟨t111,t112⟩,A110,H⟩:=H);(replace H : (if t112 = 1 then (if 0 ≤ (wrap64 (t111 - 1)) then (if (wrap64 (t111 - 1)) < (x5_1.length : Int) then ((strconv_Itoa.f (rd x5_1 (wrap64 (t111 - 1)))).bind fun t114 => (if 1 + t114.size ≤ 9223372036854775807 then (if t110.size + ((⟨#[45]⟩ : ByteArray) ++ t114).size ≤ 9223372036854775807 then (if x4_1.length < 8796093022208 then (if 0 ≤ t111 then (if t111 ≤ (x5_1.length : Int) then (array_Format.l0 k1 (x4_1 ++ [t110 ++ ((⟨#[45]⟩ : ByteArray) ++ t114)]) (x5_1.drop (t111 : Int).toNat) l0_0 a0_1) else (none)) else (none)) else (none)) else (none)) else (none))) else (none)) else (none)) else (if t111 > 2 then (if 0 ≤ (wrap64 (t111 - 1)) then (if (wrap64 (t111 - 1)) < (x5_1.length : Int) then ((strconv_Itoa.f (rd x5_1 (wrap64 (t111 - 1)))).bind fun t124 => (if 1 + t124.size ≤ 9223372036854775807 then (if ((⟨#[45]⟩ : ByteArray) ++ t124).size + 1 ≤ 9223372036854775807 then ((strconv_Itoa.f t112).bind fun t125 => (if (((⟨#[45]⟩ : ByteArray) ++ t124) ++ (⟨#[58]⟩ : ByteArray)).size + t125.size ≤ 9223372036854775807 then (if t110.size + ((((⟨#[45]⟩ : ByteArray) ++ t124) ++ (⟨#[58]⟩ : ByteArray)) ++ t125).size ≤ 9223372036854775807 then (if x4_1.length < 8796093022208 then (if 0 ≤ t111 then (if t111 ≤ (x5_1.length : Int) then (array_Format.l0 k1 (x4_1 ++ [t110 ++ ((((⟨#[45]⟩ : ByteArray) ++ t124) ++ (⟨#[58]⟩ : ByteArray)) ++ t125)]) (x5_1.drop (t111 : Int).toNat) l0_0 a0_1) else (none)) else (none)) else (none)) else (none)) else (none))) else (none)) else (none))) else (none)) else (none)) else (if x4_1.length < 8796093022208 then (if 1 ≤ (x5_1.length : Int) then (array_Format.l0 k1 (x4_1 ++ [t110]) (x5_1.drop 1) l0_0 a0_1) else (none)) else (none)))) = some (r1,r2):=H);(have A11:=Aside0.mk A110);(clear A110);(by_cases c12 : t112 = 1)
      ·(rw [if_pos c12] at H);(have c12b0 : (t112 == 1) = true:=beq_iff_eq.mpr c12);(have c12b1 : (t112 != 1) = false:=bne_eq_false_iff_eq.mpr c12);(clear c12);(obtain ⟨ji13,hji13⟩ : ∃ j_ : Int,(wrap64 (t111 - 1)) = j_:=⟨_,rfl⟩);(replace H : (if 0 ≤ (ji13) then (if (ji13) < (x5_1.length : Int) then ((strconv_Itoa.f (rd x5_1 (ji13))).bind fun t114 => (if 1 + t114.size ≤ 9223372036854775807 then (if t110.size + ((⟨#[45]⟩ : ByteArray) ++ t114).size ≤ 9223372036854775807 then (if x4_1.length < 8796093022208 then (if 0 ≤ t111 then (if t111 ≤ (x5_1.length : Int) then (array_Format.l0 k1 (x4_1 ++ [t110 ++ ((⟨#[45]⟩ : ByteArray) ++ t114)]) (x5_1.drop (t111 : Int).toNat) l0_0 a0_1) else (none)) else (none)) else (none)) else (none)) else (none))) else (none)) else (none)) = some (r1,r2):=by first|(rw [hji13] at H;exact H)|(simp only [hji13] at H ⊢;exact H));((try rw [hji13] at A10));((try rw [hji13] at A11));(have hji13w : (IntKind.i64.wrap (t111 - 1)) = ji13:=(i64_w _).trans hji13);(by_cases c14 : 0 ≤ (ji13))
       ·(rw [if_pos c14] at H);(have c14b0 : decide (0 ≤ (ji13)) = true:=decide_eq_true c14);(clear c14);(by_cases c15 : (ji13) < (x5_1.length : Int))
        ·(rw [if_pos c15] at H);(have c15b0 : decide ((ji13) < (x5_1.length : Int)) = true:=decide_eq_true c15);(clear c15);(replace H:=Option.bind_eq_some_iff.mp H);(obtain ⟨t114,A160,H⟩:=H);(replace H : (if 1 + t114.size ≤ 9223372036854775807 then (if t110.size + ((⟨#[45]⟩ : ByteArray) ++ t114).size ≤ 9223372036854775807 then (if x4_1.length < 8796093022208 then (if 0 ≤ t111 then (if t111 ≤ (x5_1.length : Int) then (array_Format.l0 k1 (x4_1 ++ [t110 ++ ((⟨#[45]⟩ : ByteArray) ++ t114)]) (x5_1.drop (t111 : Int).toNat) l0_0 a0_1) else (none)) else (none)) else (none)) else (none)) else (none)) = some (r1,r2):=H);(have A16:=Aside0.mk A160);(clear A160);(by_cases c17 : 1 + t114.size ≤ 9223372036854775807)
         ·(rw [if_pos c17] at H);(have c17b0:=eq_true c17);(have c17b1 : decide (1 + t114.size ≤ 9223372036854775807) = true:=decide_eq_true c17);(try have c17b2 : (9223372036854775807 < 1 + t114.size) = False:=eq_false (Nat.not_lt.2 c17));(by_cases c18 : t110.size + ((⟨#[45]⟩ : ByteArray) ++ t114).size ≤ 9223372036854775807)
          ·(rw [if_pos c18] at H);(have c18b0:=eq_true c18);(have c18b1 : decide (t110.size + ((⟨#[45]⟩ : ByteArray) ++ t114).size ≤ 9223372036854775807) = true:=decide_eq_true c18);(try have c18b3 : (9223372036854775807 < t110.size + 1 + t114.size) = False:=eq_false (by have z:=c18;rw [show t110.size + ((⟨#[45]⟩ : ByteArray) ++ t114).size = t110.size + 1 + t114.size from by rw [ByteArray.size_append];rfl] at z;omega));(try have c18b2 : (9223372036854775807 < t110.size + ((⟨#[45]⟩ : ByteArray) ++ t114).size) = False:=eq_false (Nat.not_lt.2 c18));(by_cases c19 : x4_1.length < 8796093022208)
           ·(rw [if_pos c19] at H);(have LMc19:=Aside0.mk c19);(clear c19);(obtain ⟨y115,hy115⟩ : ∃ y_ : List ByteArray,y_ = (x4_1 ++ [t110 ++ ((⟨#[45]⟩ : ByteArray) ++ t114)]):=⟨_,rfl⟩);(replace H : (if 0 ≤ t111 then (if t111 ≤ (x5_1.length : Int) then (array_Format.l0 k1 y115 (x5_1.drop (t111 : Int).toNat) l0_0 a0_1) else (none)) else (none)) = some (r1,r2):=by first|(rw [hy115];with_reducible exact H)|(have H2_:=(Option.bind_some _ _).symm.trans H;rw [hy115];with_reducible exact H2_)|(have H2_:=(Option.bind_some _ _).symm.trans H;with_reducible exact H2_)|with_reducible exact H|(rw [hy115];exact H)|exact H);(have Ny115:=Aside0.mk hy115);(clear hy115);(by_cases c20 : 0 ≤ t111)
            ·(rw [if_pos c20] at H);(have c20b0:=eq_true c20);(have c20b1 : decide (0 ≤ t111) = true:=decide_eq_true c20);(clear c20);(by_cases c21 : t111 ≤ (x5_1.length : Int))
             ·(rw [if_pos c21] at H);(have c21b0:=eq_true c21);(have c21b1 : decide (t111 ≤ (x5_1.length : Int)) = true:=decide_eq_true c21);(clear c21);(obtain ⟨y118,hy118⟩ : ∃ y_ : List Int,y_ = (x5_1.drop (t111 : Int).toNat):=⟨_,rfl⟩);(replace H : (array_Format.l0 k1 y115 y118 l0_0 a0_1) = some (r1,r2):=by first|(rw [hy118];with_reducible exact H)|(have H2_:=(Option.bind_some _ _).symm.trans H;rw [hy118];with_reducible exact H2_)|(have H2_:=(Option.bind_some _ _).symm.trans H;with_reducible exact H2_)|with_reducible exact H|(rw [hy118];exact H)|exact H);(have Ny118:=Aside0.mk hy118);(clear hy118);(have H':=Aside0.mk H);(clear H);(obtain ⟨Ao22,co22,eo22⟩:=Kd.V_slice HO_5.out);(subst eo22);(have p109 : 0 ≤ (0 : Int):=(by omega));(have q109 : 0 < (x5_1.length : Int):=of_decide_eq_true (by first|(with_reducible assumption)|assumption));(obtain ⟨ad109,e109,hx109_0⟩:=Kd.at_int (Kd.V_reads' HO_5.out).2.2 0 p109 q109)
              cases e109
              (have qi109 : (0 < x5_1.length) = True:=eq_true (by omega));((try rw [show ((0 : Int)).toNat = 0 from rfl] at hx109_0));((try rw [Addr.add_zero'] at hx109_0));(replace p109:=eq_true p109);(replace q109:=eq_true q109);(go_wp2_with (first|((with_reducible refine gate_callee (f:=18) rfl ?_);refine goesL_ (some 21) rfl rfl Tryd.func18 (by kernel_rfl) rfl #[.int .i64 (rd x5_1 0)] rfl (by (try simp only [List.map_toArray,List.map_cons,List.map_nil]);first|done|rfl|(simp only [List.length_drop,List.length_take];rfl)) ?_;(with_reducible refine (strconv_Itoa.calls (rd x5_1 0) t110 _ A10.out (HG_.out.below (by repeat (first|(with_reducible first|exact HB.out|apply below_alloc|apply pw_below_drewN|apply below_drew1|refine below_set ?_ GE107.out)|exact HB.out)))).mono ?_);rintro e w23 ⟨rfl,hb⟩;refine ⟨_,rfl,?_⟩;have n0_:=Aside0.mk (Kd.R_below (by (with_reducible repeat (first|apply Kd.R_alloc|apply Kd.R_drewN|apply Kd.R_drew));exact HO_4.out) hb);have n1_:=Aside0.mk (Kd.V_below (by (with_reducible repeat (first|apply Kd.V_alloc|apply Kd.V_drewN|apply Kd.V_drew));exact HO_5.out) hb);have n2_:=Aside0.mk (Kd.V_below (by (with_reducible repeat (first|apply Kd.V_alloc|apply Kd.V_drewN|apply Kd.V_drew));exact HO_108000.out) hb);have n3_:=Aside0.mk (blk_below (g:=gb107) (o:=.cells #[.slice A0_0 l0_0.length c0_0,.int .i64 a0_1] 28 (0,0)) (by (with_reducible repeat (first|refine blk_drewN ?_ _|refine blk_drew ?_|refine blk_alloc ?_ _));exact BK107.out) hb);have n4_:=Aside0.mk (below_step (by repeat (first|(with_reducible first|exact HB.out|apply below_alloc|apply pw_below_drewN|apply below_drew1|refine below_set ?_ GE107.out)|exact HB.out)) hb);clear HO_4;clear HO_5;clear HO_108000;clear BK107;clear HB;have HO_4:=n0_;have HO_5:=n1_;have HO_108000:=n2_;have BK107:=n3_;have HB:=n4_;clear n0_ n1_ n2_ n3_ n4_;(try clear hb);(try clear hb2);(try clear hk);(try clear hi))|((with_reducible refine gate_callee (f:=19) rfl ?_);refine goesL_ (some 24) rfl rfl Tryd.func19 (by kernel_rfl) rfl #[.slice (some ad109) x5_1.length co22] rfl (by (try simp only [List.map_toArray,List.map_cons,List.map_nil]);first|done|rfl|(simp only [List.length_drop,List.length_take];rfl)) ?_;(with_reducible refine (array_run.calls k1 _ _ x5_1 t111 t112 _ ?side1 ?side2 A11.out).mono ?_);(case side1 => repeat (first|exact (Kd.V_reads' HO_5.out).2.2|(with_reducible refine Kd.C_alloc ?_ _)|(with_reducible refine Kd.C_drewN ?_ _)|(with_reducible refine Kd.C_drew ?_)));(case side2 => exact (Kd.V_reads' HO_5.out).2.1);rintro e w' ⟨rfl,⟨nd,rfl⟩⟩;refine ⟨_,rfl,?_⟩;have p113 : 0 ≤ ((ji13) : Int):=of_decide_eq_true (by first|(with_reducible assumption)|assumption);have q113 : (ji13) < (x5_1.length : Int):=of_decide_eq_true (by first|(with_reducible assumption)|assumption);obtain ⟨ad113,e113,hx113_0⟩:=Kd.at_int (Kd.V_reads' HO_5.out).2.2 (ji13) p113 q113;obtain rfl : ad109 = ad113:=(by injection e113);replace p113:=eq_true p113;replace q113:=eq_true q113)|((with_reducible refine gate_callee (f:=18) rfl ?_);refine goesL_ (some 36) rfl rfl Tryd.func18 (by kernel_rfl) rfl #[.int .i64 (rd x5_1 (ji13))] rfl (by (try simp only [List.map_toArray,List.map_cons,List.map_nil]);first|done|(simp only [hji13];rfl)|rfl|(simp only [List.length_drop,List.length_take];rfl)) ?_;(with_reducible refine (strconv_Itoa.calls (rd x5_1 (ji13)) t114 _ A16.out (HG_.out.below (by repeat (first|(with_reducible first|exact HB.out|apply below_alloc|apply pw_below_drewN|apply below_drew1|refine below_set ?_ GE107.out)|exact HB.out)))).mono ?_);rintro e w24 ⟨rfl,hb⟩;refine ⟨_,rfl,?_⟩;have n0_:=Aside0.mk (Kd.R_below (by (with_reducible repeat (first|apply Kd.R_alloc|apply Kd.R_drewN|apply Kd.R_drew));exact HO_4.out) hb);have n1_:=Aside0.mk (Kd.V_below (by (with_reducible repeat (first|apply Kd.V_alloc|apply Kd.V_drewN|apply Kd.V_drew));exact HO_5.out) hb);have n2_:=Aside0.mk (Kd.V_below (by (with_reducible repeat (first|apply Kd.V_alloc|apply Kd.V_drewN|apply Kd.V_drew));exact HO_108000.out) hb);have n3_:=Aside0.mk (blk_below (g:=gb107) (o:=.cells #[.slice A0_0 l0_0.length c0_0,.int .i64 a0_1] 28 (0,0)) (by (with_reducible repeat (first|refine blk_drewN ?_ _|refine blk_drew ?_|refine blk_alloc ?_ _));exact BK107.out) hb);have n4_:=Aside0.mk (below_step (by repeat (first|(with_reducible first|exact HB.out|apply below_alloc|apply pw_below_drewN|apply below_drew1|refine below_set ?_ GE107.out)|exact HB.out)) hb);clear HO_4;clear HO_5;clear HO_108000;clear BK107;clear HB;have HO_4:=n0_;have HO_5:=n1_;have HO_108000:=n2_;have BK107:=n3_;have HB:=n4_;clear n0_ n1_ n2_ n3_ n4_;(try clear hb);(try clear hb2);(try clear hk);(try clear hi))|((with_reducible refine gate_builtin (b:=.append) (xs:=#[.tmp 55,.tmp 57]) rfl ?_);at_builtin;refine Kd.R_append Kd.string (w0:=w) w.heap.size rfl (.tmp 55) (.tmp 57) 47 9 (.string ⟨#[]⟩) 16 rfl Tryd.underlying47 info9 rfl (by decide) (by omega) u4 x4_1 (t110 ++ ((⟨#[45]⟩ : ByteArray) ++ t114)) [.string (t110 ++ ((⟨#[45]⟩ : ByteArray) ++ t114))] (fun k_ => (w.heap.size ≤ k_)) (fun _ => False) rfl rfl ?aP (fun _ hk => hk.elim) ?aF ?aO ?aB ?aS ?aL ?_;(case aP => exact rfl);(case aB => exact (by repeat (first|(with_reducible first|exact HB.out|apply below_alloc|apply pw_below_drewN|apply below_drew1|refine below_set ?_ GE107.out)|exact HB.out)));(case aF => exact (fun k_ hk => (Nat.le_trans (below_size (by repeat (first|(with_reducible first|exact HB.out|apply below_alloc|apply pw_below_drewN|apply below_drew1|refine below_set ?_ GE107.out)|exact HB.out))) hk)));(case aO => exact (by (with_reducible repeat (first|apply Kd.R_alloc|apply Kd.R_drewN|apply Kd.R_drew));exact HO_4.out));(case aS => exact (below_size (by repeat (first|(with_reducible first|exact HB.out|apply below_alloc|apply pw_below_drewN|apply below_drew1|refine below_set ?_ GE107.out)|exact HB.out))));(case aL => have:=LMc19.out;omega);intro v116 w25 ho hb hg hat;rw [← Ny115.out] at ho;have n0_:=Aside0.mk (Kd.V_afterv (ok:=(fun k_ => (P0_0_ k_ ∨ w.heap.size ≤ k_)∧k_ ≠ gb107)) (by (with_reducible repeat (first|apply Kd.V_alloc|apply Kd.V_drewN|apply Kd.V_drew));exact Kd.V_mono HO_5.out (fun _ hk => ⟨⟨hk.1,hk.2.2⟩,hk.2.1⟩)) hg hat);have n1_:=Aside0.mk (Kd.V_afterv (ok:=(fun k_ => (P0_0_ k_ ∨ w.heap.size ≤ k_)∧k_ ≠ gb107)) (by (with_reducible repeat (first|apply Kd.V_alloc|apply Kd.V_drewN|apply Kd.V_drew));exact Kd.V_mono HO_108000.out (fun _ hk => ⟨⟨hk.1,hk.2.2⟩,hk.2.1⟩)) hg hat);have n2_:=Aside0.mk (blk_grown (g:=gb107) (o:=.cells #[.slice A0_0 l0_0.length c0_0,.int .i64 a0_1] 28 (0,0)) (by (with_reducible repeat (first|refine blk_drewN ?_ _|refine blk_drew ?_|refine blk_alloc ?_ _));exact BK107.out) hg (Kd.R_ne HO_4.out BK107.out (by decide)));have n3_:=Aside0.mk (hb);have n4_:=Aside0.mk (ho);clear HO_5;clear HO_108000;clear BK107;clear HB;clear HO_4;have HO_5:=n0_;have HO_108000:=n1_;have BK107:=n2_;have HB:=n3_;have HO117:=n4_;clear n0_ n1_ n2_ n3_ n4_;clear ho hb hg hat;have q26 : (t111 : Int) ≤ ((x5_1.length : Int) : Int):=of_decide_eq_true (by first|(with_reducible assumption)|assumption);obtain ⟨i026,hi026,_,hsz26,_⟩:=info_parts info3;have hroom26 : x5_1.length ≤ co22:=(Kd.V_reads' HO_5.out).2.1;have hC26 : Kd.F (Kd.int .i64) _ _ (some ad109) x5_1.length x5_1:=(Kd.V_at (base:=w.heap.size) HO_5.out).2.2;have q026 : (0 : Int) ≤ (t111 : Int):=of_decide_eq_true (by first|(with_reducible assumption)|assumption);have hcut26:=cut_from (P:=Tryd.prog) 22 3 .i64 Tryd.underlying22 hi026 1 hsz26 (some ad109) x5_1.length co22 t111 q026 q26;have hr26:=Kd.F_cut (m:=(t111 : Int).toNat) (c:=co22) hC26 (by omega) hroom26;obtain ⟨A26,hA26⟩ : ∃ A1,A1 = (if co22 = (t111 : Int).toNat then (some ad109) else ((some ad109) : Option Addr).map (·.add ((t111 : Int).toNat * 1))):=⟨_,rfl⟩;obtain ⟨c26,hc26⟩ : ∃ c1,c1 = co22 - (t111 : Int).toNat:=⟨_,rfl⟩;have hy26 : y118.length = x5_1.length - (t111 : Int).toNat:=(by rw [Ny118.out,List.length_drop] <;> omega);rw [show (x5_1).drop (t111 : Int).toNat = y118 from Ny118.out.symm] at hr26;replace hr26 : Kd.F (Kd.int .i64) _ _ A26 y118.length y118:=(by rw [hA26];exact hr26);rw [← hy26,← hA26,← hc26] at hcut26;have HO122:=Aside0.mk (show Kd.V (Kd.int .i64) 3 _ w.heap.size _ (.slice A26 y118.length c26) y118 from Kd.V_mk (by rw [hy26,hc26];exact Nat.sub_le_sub_right hroom26 _) hr26);have HC122:=Aside0.mk (show y118.length ≤ c26 from by rw [hy26,hc26];exact Nat.sub_le_sub_right hroom26 _);clear hr26 hC26 hroom26 hi026 hsz26 hc26;have KY26:=Aside0.mk hy26;have KA26:=Aside0.mk hA26;clear hy26 hA26;replace q26:=eq_true q26)));(go_roundg k1)
              case measure => have:=HK1.out;omega
              case rel => exact ⟨(y115),(y118),H',⟨by have:=HK1.out;omega⟩,⟨by (with_reducible repeat (first|apply Kd.R_alloc|apply Kd.R_drewN|apply Kd.R_drew));exact HO117.out⟩,⟨by (with_reducible repeat (first|apply Kd.V_alloc|apply Kd.V_drewN|apply Kd.V_drew));exact Kd.V_mono HO122.out (fun _ hk => ⟨hk.1.1,⟨hk.2,hk.1.2⟩⟩)⟩,⟨by (with_reducible repeat (first|apply Kd.V_alloc|apply Kd.V_drewN|apply Kd.V_drew));exact Kd.V_mono HO_108000.out (fun _ hk => ⟨hk.1.1,⟨hk.2,hk.1.2⟩⟩)⟩,⟨by (with_reducible repeat (first|refine blk_drewN ?_ _|refine blk_drew ?_|refine blk_alloc ?_ _));exact BK107.out⟩,⟨by repeat (first|(with_reducible first|exact HB.out|apply below_alloc|apply pw_below_drewN|apply below_drew1|refine below_set ?_ GE107.out)|exact HB.out)⟩⟩
             ·(rw [if_neg c21] at H);(exact absurd H (by simp))
            ·(rw [if_neg c20] at H);(exact absurd H (by simp))
           ·(rw [if_neg c19] at H);(exact absurd H (by simp))
          ·(rw [if_neg c18] at H);(exact absurd H (by simp))
         ·(rw [if_neg c17] at H);(exact absurd H (by simp))
        ·(rw [if_neg c15] at H);(exact absurd H (by simp))
       ·(rw [if_neg c14] at H);(exact absurd H (by simp))
      ·(rw [if_neg c12] at H);(have c12b0 : (t112 == 1) = false:=beq_eq_false_iff_ne.mpr c12);(have c12b1 : (t112 != 1) = true:=bne_iff_ne.mpr c12);(by_cases c27 : t111 > 2)
       ·(rw [if_pos c27] at H);(have c27b0 : decide (2 < t111) = true:=decide_eq_true c27);(clear c27);(obtain ⟨ji28,hji28⟩ : ∃ j_ : Int,(wrap64 (t111 - 1)) = j_:=⟨_,rfl⟩);(replace H : (if 0 ≤ (ji28) then (if (ji28) < (x5_1.length : Int) then ((strconv_Itoa.f (rd x5_1 (ji28))).bind fun t124 => (if 1 + t124.size ≤ 9223372036854775807 then (if ((⟨#[45]⟩ : ByteArray) ++ t124).size + 1 ≤ 9223372036854775807 then ((strconv_Itoa.f t112).bind fun t125 => (if (((⟨#[45]⟩ : ByteArray) ++ t124) ++ (⟨#[58]⟩ : ByteArray)).size + t125.size ≤ 9223372036854775807 then (if t110.size + ((((⟨#[45]⟩ : ByteArray) ++ t124) ++ (⟨#[58]⟩ : ByteArray)) ++ t125).size ≤ 9223372036854775807 then (if x4_1.length < 8796093022208 then (if 0 ≤ t111 then (if t111 ≤ (x5_1.length : Int) then (array_Format.l0 k1 (x4_1 ++ [t110 ++ ((((⟨#[45]⟩ : ByteArray) ++ t124) ++ (⟨#[58]⟩ : ByteArray)) ++ t125)]) (x5_1.drop (t111 : Int).toNat) l0_0 a0_1) else (none)) else (none)) else (none)) else (none)) else (none))) else (none)) else (none))) else (none)) else (none)) = some (r1,r2):=by first|(rw [hji28] at H;exact H)|(simp only [hji28] at H ⊢;exact H));((try rw [hji28] at A10));((try rw [hji28] at A11));(have hji28w : (IntKind.i64.wrap (t111 - 1)) = ji28:=(i64_w _).trans hji28);(by_cases c29 : 0 ≤ (ji28))
        ·(rw [if_pos c29] at H);(have c29b0 : decide (0 ≤ (ji28)) = true:=decide_eq_true c29);(clear c29);(by_cases c30 : (ji28) < (x5_1.length : Int))
         ·(rw [if_pos c30] at H);(have c30b0 : decide ((ji28) < (x5_1.length : Int)) = true:=decide_eq_true c30);(clear c30);(replace H:=Option.bind_eq_some_iff.mp H);(obtain ⟨t124,A310,H⟩:=H);(replace H : (if 1 + t124.size ≤ 9223372036854775807 then (if ((⟨#[45]⟩ : ByteArray) ++ t124).size + 1 ≤ 9223372036854775807 then ((strconv_Itoa.f t112).bind fun t125 => (if (((⟨#[45]⟩ : ByteArray) ++ t124) ++ (⟨#[58]⟩ : ByteArray)).size + t125.size ≤ 9223372036854775807 then (if t110.size + ((((⟨#[45]⟩ : ByteArray) ++ t124) ++ (⟨#[58]⟩ : ByteArray)) ++ t125).size ≤ 9223372036854775807 then (if x4_1.length < 8796093022208 then (if 0 ≤ t111 then (if t111 ≤ (x5_1.length : Int) then (array_Format.l0 k1 (x4_1 ++ [t110 ++ ((((⟨#[45]⟩ : ByteArray) ++ t124) ++ (⟨#[58]⟩ : ByteArray)) ++ t125)]) (x5_1.drop (t111 : Int).toNat) l0_0 a0_1) else (none)) else (none)) else (none)) else (none)) else (none))) else (none)) else (none)) = some (r1,r2):=H);(have A31:=Aside0.mk A310);(clear A310);(by_cases c32 : 1 + t124.size ≤ 9223372036854775807)
          ·(rw [if_pos c32] at H);(have c32b0:=eq_true c32);(have c32b1 : decide (1 + t124.size ≤ 9223372036854775807) = true:=decide_eq_true c32);(try have c32b2 : (9223372036854775807 < 1 + t124.size) = False:=eq_false (Nat.not_lt.2 c32));(by_cases c33 : ((⟨#[45]⟩ : ByteArray) ++ t124).size + 1 ≤ 9223372036854775807)
           ·(rw [if_pos c33] at H);(have c33b0:=eq_true c33);(have c33b1 : decide (((⟨#[45]⟩ : ByteArray) ++ t124).size + 1 ≤ 9223372036854775807) = true:=decide_eq_true c33);(try have c33b3 : (9223372036854775807 < 1 + t124.size + 1) = False:=eq_false (by have z:=c33;rw [show ((⟨#[45]⟩ : ByteArray) ++ t124).size + 1 = 1 + t124.size + 1 from by rw [ByteArray.size_append];rfl] at z;omega));(try have c33b2 : (9223372036854775807 < ((⟨#[45]⟩ : ByteArray) ++ t124).size + 1) = False:=eq_false (Nat.not_lt.2 c33));(replace H:=Option.bind_eq_some_iff.mp H);(obtain ⟨t125,A340,H⟩:=H);(replace H : (if (((⟨#[45]⟩ : ByteArray) ++ t124) ++ (⟨#[58]⟩ : ByteArray)).size + t125.size ≤ 9223372036854775807 then (if t110.size + ((((⟨#[45]⟩ : ByteArray) ++ t124) ++ (⟨#[58]⟩ : ByteArray)) ++ t125).size ≤ 9223372036854775807 then (if x4_1.length < 8796093022208 then (if 0 ≤ t111 then (if t111 ≤ (x5_1.length : Int) then (array_Format.l0 k1 (x4_1 ++ [t110 ++ ((((⟨#[45]⟩ : ByteArray) ++ t124) ++ (⟨#[58]⟩ : ByteArray)) ++ t125)]) (x5_1.drop (t111 : Int).toNat) l0_0 a0_1) else (none)) else (none)) else (none)) else (none)) else (none)) = some (r1,r2):=H);(have A34:=Aside0.mk A340);(clear A340);(by_cases c35 : (((⟨#[45]⟩ : ByteArray) ++ t124) ++ (⟨#[58]⟩ : ByteArray)).size + t125.size ≤ 9223372036854775807)
            ·(rw [if_pos c35] at H);(have c35b0:=eq_true c35);(have c35b1 : decide ((((⟨#[45]⟩ : ByteArray) ++ t124) ++ (⟨#[58]⟩ : ByteArray)).size + t125.size ≤ 9223372036854775807) = true:=decide_eq_true c35);(try have c35b3 : (9223372036854775807 < 1 + t124.size + 1 + t125.size) = False:=eq_false (by have z:=c35;rw [show (((⟨#[45]⟩ : ByteArray) ++ t124) ++ (⟨#[58]⟩ : ByteArray)).size + t125.size = 1 + t124.size + 1 + t125.size from by rw [ByteArray.size_append];rw [ByteArray.size_append];rfl] at z;omega));(try have c35b2 : (9223372036854775807 < (((⟨#[45]⟩ : ByteArray) ++ t124) ++ (⟨#[58]⟩ : ByteArray)).size + t125.size) = False:=eq_false (Nat.not_lt.2 c35));(by_cases c36 : t110.size + ((((⟨#[45]⟩ : ByteArray) ++ t124) ++ (⟨#[58]⟩ : ByteArray)) ++ t125).size ≤ 9223372036854775807)
             ·(rw [if_pos c36] at H);(have c36b0:=eq_true c36);(have c36b1 : decide (t110.size + ((((⟨#[45]⟩ : ByteArray) ++ t124) ++ (⟨#[58]⟩ : ByteArray)) ++ t125).size ≤ 9223372036854775807) = true:=decide_eq_true c36);(try have c36b3 : (9223372036854775807 < t110.size + 1 + t124.size + 1 + t125.size) = False:=eq_false (by have z:=c36;rw [show t110.size + ((((⟨#[45]⟩ : ByteArray) ++ t124) ++ (⟨#[58]⟩ : ByteArray)) ++ t125).size = t110.size + 1 + t124.size + 1 + t125.size from by rw [ByteArray.size_append];rw [ByteArray.size_append];rw [ByteArray.size_append];rfl] at z;omega));(try have c36b2 : (9223372036854775807 < t110.size + ((((⟨#[45]⟩ : ByteArray) ++ t124) ++ (⟨#[58]⟩ : ByteArray)) ++ t125).size) = False:=eq_false (Nat.not_lt.2 c36));(by_cases c37 : x4_1.length < 8796093022208)
              ·(rw [if_pos c37] at H);(have LMc37:=Aside0.mk c37);(clear c37);(obtain ⟨y126,hy126⟩ : ∃ y_ : List ByteArray,y_ = (x4_1 ++ [t110 ++ ((((⟨#[45]⟩ : ByteArray) ++ t124) ++ (⟨#[58]⟩ : ByteArray)) ++ t125)]):=⟨_,rfl⟩);(replace H : (if 0 ≤ t111 then (if t111 ≤ (x5_1.length : Int) then (array_Format.l0 k1 y126 (x5_1.drop (t111 : Int).toNat) l0_0 a0_1) else (none)) else (none)) = some (r1,r2):=by first|(rw [hy126];with_reducible exact H)|(have H2_:=(Option.bind_some _ _).symm.trans H;rw [hy126];with_reducible exact H2_)|(have H2_:=(Option.bind_some _ _).symm.trans H;with_reducible exact H2_)|with_reducible exact H|(rw [hy126];exact H)|exact H);(have Ny126:=Aside0.mk hy126);(clear hy126);(by_cases c38 : 0 ≤ t111)
               ·(rw [if_pos c38] at H);(have c38b0:=eq_true c38);(have c38b1 : decide (0 ≤ t111) = true:=decide_eq_true c38);(clear c38);(by_cases c39 : t111 ≤ (x5_1.length : Int))
                ·(rw [if_pos c39] at H);(have c39b0:=eq_true c39);(have c39b1 : decide (t111 ≤ (x5_1.length : Int)) = true:=decide_eq_true c39);(clear c39);(obtain ⟨y129,hy129⟩ : ∃ y_ : List Int,y_ = (x5_1.drop (t111 : Int).toNat):=⟨_,rfl⟩);(replace H : (array_Format.l0 k1 y126 y129 l0_0 a0_1) = some (r1,r2):=by first|(rw [hy129];with_reducible exact H)|(have H2_:=(Option.bind_some _ _).symm.trans H;rw [hy129];with_reducible exact H2_)|(have H2_:=(Option.bind_some _ _).symm.trans H;with_reducible exact H2_)|with_reducible exact H|(rw [hy129];exact H)|exact H);(have Ny129:=Aside0.mk hy129);(clear hy129);(have H':=Aside0.mk H);(clear H);(obtain ⟨Ao40,co40,eo40⟩:=Kd.V_slice HO_5.out);(subst eo40);(have p109 : 0 ≤ (0 : Int):=(by omega));(have q109 : 0 < (x5_1.length : Int):=of_decide_eq_true (by first|(with_reducible assumption)|assumption));(obtain ⟨ad109,e109,hx109_0⟩:=Kd.at_int (Kd.V_reads' HO_5.out).2.2 0 p109 q109)
                 cases e109
                 (have qi109 : (0 < x5_1.length) = True:=eq_true (by omega));((try rw [show ((0 : Int)).toNat = 0 from rfl] at hx109_0));((try rw [Addr.add_zero'] at hx109_0));(replace p109:=eq_true p109);(replace q109:=eq_true q109);(go_wp2_with (first|((with_reducible refine gate_callee (f:=18) rfl ?_);refine goesL_ (some 21) rfl rfl Tryd.func18 (by kernel_rfl) rfl #[.int .i64 (rd x5_1 0)] rfl (by (try simp only [List.map_toArray,List.map_cons,List.map_nil]);first|done|rfl|(simp only [List.length_drop,List.length_take];rfl)) ?_;(with_reducible refine (strconv_Itoa.calls (rd x5_1 0) t110 _ A10.out (HG_.out.below (by repeat (first|(with_reducible first|exact HB.out|apply below_alloc|apply pw_below_drewN|apply below_drew1|refine below_set ?_ GE107.out)|exact HB.out)))).mono ?_);rintro e w41 ⟨rfl,hb⟩;refine ⟨_,rfl,?_⟩;have n0_:=Aside0.mk (Kd.R_below (by (with_reducible repeat (first|apply Kd.R_alloc|apply Kd.R_drewN|apply Kd.R_drew));exact HO_4.out) hb);have n1_:=Aside0.mk (Kd.V_below (by (with_reducible repeat (first|apply Kd.V_alloc|apply Kd.V_drewN|apply Kd.V_drew));exact HO_5.out) hb);have n2_:=Aside0.mk (Kd.V_below (by (with_reducible repeat (first|apply Kd.V_alloc|apply Kd.V_drewN|apply Kd.V_drew));exact HO_108000.out) hb);have n3_:=Aside0.mk (blk_below (g:=gb107) (o:=.cells #[.slice A0_0 l0_0.length c0_0,.int .i64 a0_1] 28 (0,0)) (by (with_reducible repeat (first|refine blk_drewN ?_ _|refine blk_drew ?_|refine blk_alloc ?_ _));exact BK107.out) hb);have n4_:=Aside0.mk (below_step (by repeat (first|(with_reducible first|exact HB.out|apply below_alloc|apply pw_below_drewN|apply below_drew1|refine below_set ?_ GE107.out)|exact HB.out)) hb);clear HO_4;clear HO_5;clear HO_108000;clear BK107;clear HB;have HO_4:=n0_;have HO_5:=n1_;have HO_108000:=n2_;have BK107:=n3_;have HB:=n4_;clear n0_ n1_ n2_ n3_ n4_;(try clear hb);(try clear hb2);(try clear hk);(try clear hi))|((with_reducible refine gate_callee (f:=19) rfl ?_);refine goesL_ (some 24) rfl rfl Tryd.func19 (by kernel_rfl) rfl #[.slice (some ad109) x5_1.length co40] rfl (by (try simp only [List.map_toArray,List.map_cons,List.map_nil]);first|done|rfl|(simp only [List.length_drop,List.length_take];rfl)) ?_;(with_reducible refine (array_run.calls k1 _ _ x5_1 t111 t112 _ ?side1 ?side2 A11.out).mono ?_);(case side1 => repeat (first|exact (Kd.V_reads' HO_5.out).2.2|(with_reducible refine Kd.C_alloc ?_ _)|(with_reducible refine Kd.C_drewN ?_ _)|(with_reducible refine Kd.C_drew ?_)));(case side2 => exact (Kd.V_reads' HO_5.out).2.1);rintro e w' ⟨rfl,⟨nd,rfl⟩⟩;refine ⟨_,rfl,?_⟩;have p123 : 0 ≤ ((ji28) : Int):=of_decide_eq_true (by first|(with_reducible assumption)|assumption);have q123 : (ji28) < (x5_1.length : Int):=of_decide_eq_true (by first|(with_reducible assumption)|assumption);obtain ⟨ad123,e123,hx123_0⟩:=Kd.at_int (Kd.V_reads' HO_5.out).2.2 (ji28) p123 q123;obtain rfl : ad109 = ad123:=(by injection e123);replace p123:=eq_true p123;replace q123:=eq_true q123)|((with_reducible refine gate_callee (f:=18) rfl ?_);refine goesL_ (some 48) rfl rfl Tryd.func18 (by kernel_rfl) rfl #[.int .i64 (rd x5_1 (ji28))] rfl (by (try simp only [List.map_toArray,List.map_cons,List.map_nil]);first|done|(simp only [hji28];rfl)|rfl|(simp only [List.length_drop,List.length_take];rfl)) ?_;(with_reducible refine (strconv_Itoa.calls (rd x5_1 (ji28)) t124 _ A31.out (HG_.out.below (by repeat (first|(with_reducible first|exact HB.out|apply below_alloc|apply pw_below_drewN|apply below_drew1|refine below_set ?_ GE107.out)|exact HB.out)))).mono ?_);rintro e w42 ⟨rfl,hb⟩;refine ⟨_,rfl,?_⟩;have n0_:=Aside0.mk (Kd.R_below (by (with_reducible repeat (first|apply Kd.R_alloc|apply Kd.R_drewN|apply Kd.R_drew));exact HO_4.out) hb);have n1_:=Aside0.mk (Kd.V_below (by (with_reducible repeat (first|apply Kd.V_alloc|apply Kd.V_drewN|apply Kd.V_drew));exact HO_5.out) hb);have n2_:=Aside0.mk (Kd.V_below (by (with_reducible repeat (first|apply Kd.V_alloc|apply Kd.V_drewN|apply Kd.V_drew));exact HO_108000.out) hb);have n3_:=Aside0.mk (blk_below (g:=gb107) (o:=.cells #[.slice A0_0 l0_0.length c0_0,.int .i64 a0_1] 28 (0,0)) (by (with_reducible repeat (first|refine blk_drewN ?_ _|refine blk_drew ?_|refine blk_alloc ?_ _));exact BK107.out) hb);have n4_:=Aside0.mk (below_step (by repeat (first|(with_reducible first|exact HB.out|apply below_alloc|apply pw_below_drewN|apply below_drew1|refine below_set ?_ GE107.out)|exact HB.out)) hb);clear HO_4;clear HO_5;clear HO_108000;clear BK107;clear HB;have HO_4:=n0_;have HO_5:=n1_;have HO_108000:=n2_;have BK107:=n3_;have HB:=n4_;clear n0_ n1_ n2_ n3_ n4_;(try clear hb);(try clear hb2);(try clear hk);(try clear hi))|((with_reducible refine gate_callee (f:=18) rfl ?_);refine goesL_ (some 52) rfl rfl Tryd.func18 (by kernel_rfl) rfl #[.int .i64 t112] rfl (by (try simp only [List.map_toArray,List.map_cons,List.map_nil]);first|done|rfl|(simp only [List.length_drop,List.length_take];rfl)) ?_;(with_reducible refine (strconv_Itoa.calls t112 t125 _ A34.out (HG_.out.below (by repeat (first|(with_reducible first|exact HB.out|apply below_alloc|apply pw_below_drewN|apply below_drew1|refine below_set ?_ GE107.out)|exact HB.out)))).mono ?_);rintro e w43 ⟨rfl,hb⟩;refine ⟨_,rfl,?_⟩;have n0_:=Aside0.mk (Kd.R_below (by (with_reducible repeat (first|apply Kd.R_alloc|apply Kd.R_drewN|apply Kd.R_drew));exact HO_4.out) hb);have n1_:=Aside0.mk (Kd.V_below (by (with_reducible repeat (first|apply Kd.V_alloc|apply Kd.V_drewN|apply Kd.V_drew));exact HO_5.out) hb);have n2_:=Aside0.mk (Kd.V_below (by (with_reducible repeat (first|apply Kd.V_alloc|apply Kd.V_drewN|apply Kd.V_drew));exact HO_108000.out) hb);have n3_:=Aside0.mk (blk_below (g:=gb107) (o:=.cells #[.slice A0_0 l0_0.length c0_0,.int .i64 a0_1] 28 (0,0)) (by (with_reducible repeat (first|refine blk_drewN ?_ _|refine blk_drew ?_|refine blk_alloc ?_ _));exact BK107.out) hb);have n4_:=Aside0.mk (below_step (by repeat (first|(with_reducible first|exact HB.out|apply below_alloc|apply pw_below_drewN|apply below_drew1|refine below_set ?_ GE107.out)|exact HB.out)) hb);clear HO_4;clear HO_5;clear HO_108000;clear BK107;clear HB;have HO_4:=n0_;have HO_5:=n1_;have HO_108000:=n2_;have BK107:=n3_;have HB:=n4_;clear n0_ n1_ n2_ n3_ n4_;(try clear hb);(try clear hb2);(try clear hk);(try clear hi))|((with_reducible refine gate_builtin (b:=.append) (xs:=#[.tmp 55,.tmp 57]) rfl ?_);at_builtin;refine Kd.R_append Kd.string (w0:=w) w.heap.size rfl (.tmp 55) (.tmp 57) 47 9 (.string ⟨#[]⟩) 16 rfl Tryd.underlying47 info9 rfl (by decide) (by omega) u4 x4_1 (t110 ++ ((((⟨#[45]⟩ : ByteArray) ++ t124) ++ (⟨#[58]⟩ : ByteArray)) ++ t125)) [.string (t110 ++ ((((⟨#[45]⟩ : ByteArray) ++ t124) ++ (⟨#[58]⟩ : ByteArray)) ++ t125))] (fun k_ => (w.heap.size ≤ k_)) (fun _ => False) rfl rfl ?aP (fun _ hk => hk.elim) ?aF ?aO ?aB ?aS ?aL ?_;(case aP => exact rfl);(case aB => exact (by repeat (first|(with_reducible first|exact HB.out|apply below_alloc|apply pw_below_drewN|apply below_drew1|refine below_set ?_ GE107.out)|exact HB.out)));(case aF => exact (fun k_ hk => (Nat.le_trans (below_size (by repeat (first|(with_reducible first|exact HB.out|apply below_alloc|apply pw_below_drewN|apply below_drew1|refine below_set ?_ GE107.out)|exact HB.out))) hk)));(case aO => exact (by (with_reducible repeat (first|apply Kd.R_alloc|apply Kd.R_drewN|apply Kd.R_drew));exact HO_4.out));(case aS => exact (below_size (by repeat (first|(with_reducible first|exact HB.out|apply below_alloc|apply pw_below_drewN|apply below_drew1|refine below_set ?_ GE107.out)|exact HB.out))));(case aL => have:=LMc37.out;omega);intro v127 w44 ho hb hg hat;rw [← Ny126.out] at ho;have n0_:=Aside0.mk (Kd.V_afterv (ok:=(fun k_ => (P0_0_ k_ ∨ w.heap.size ≤ k_)∧k_ ≠ gb107)) (by (with_reducible repeat (first|apply Kd.V_alloc|apply Kd.V_drewN|apply Kd.V_drew));exact Kd.V_mono HO_5.out (fun _ hk => ⟨⟨hk.1,hk.2.2⟩,hk.2.1⟩)) hg hat);have n1_:=Aside0.mk (Kd.V_afterv (ok:=(fun k_ => (P0_0_ k_ ∨ w.heap.size ≤ k_)∧k_ ≠ gb107)) (by (with_reducible repeat (first|apply Kd.V_alloc|apply Kd.V_drewN|apply Kd.V_drew));exact Kd.V_mono HO_108000.out (fun _ hk => ⟨⟨hk.1,hk.2.2⟩,hk.2.1⟩)) hg hat);have n2_:=Aside0.mk (blk_grown (g:=gb107) (o:=.cells #[.slice A0_0 l0_0.length c0_0,.int .i64 a0_1] 28 (0,0)) (by (with_reducible repeat (first|refine blk_drewN ?_ _|refine blk_drew ?_|refine blk_alloc ?_ _));exact BK107.out) hg (Kd.R_ne HO_4.out BK107.out (by decide)));have n3_:=Aside0.mk (hb);have n4_:=Aside0.mk (ho);clear HO_5;clear HO_108000;clear BK107;clear HB;clear HO_4;have HO_5:=n0_;have HO_108000:=n1_;have BK107:=n2_;have HB:=n3_;have HO128:=n4_;clear n0_ n1_ n2_ n3_ n4_;clear ho hb hg hat;have q45 : (t111 : Int) ≤ ((x5_1.length : Int) : Int):=of_decide_eq_true (by first|(with_reducible assumption)|assumption);obtain ⟨i045,hi045,_,hsz45,_⟩:=info_parts info3;have hroom45 : x5_1.length ≤ co40:=(Kd.V_reads' HO_5.out).2.1;have hC45 : Kd.F (Kd.int .i64) _ _ (some ad109) x5_1.length x5_1:=(Kd.V_at (base:=w.heap.size) HO_5.out).2.2;have q045 : (0 : Int) ≤ (t111 : Int):=of_decide_eq_true (by first|(with_reducible assumption)|assumption);have hcut45:=cut_from (P:=Tryd.prog) 22 3 .i64 Tryd.underlying22 hi045 1 hsz45 (some ad109) x5_1.length co40 t111 q045 q45;have hr45:=Kd.F_cut (m:=(t111 : Int).toNat) (c:=co40) hC45 (by omega) hroom45;obtain ⟨A45,hA45⟩ : ∃ A1,A1 = (if co40 = (t111 : Int).toNat then (some ad109) else ((some ad109) : Option Addr).map (·.add ((t111 : Int).toNat * 1))):=⟨_,rfl⟩;obtain ⟨c45,hc45⟩ : ∃ c1,c1 = co40 - (t111 : Int).toNat:=⟨_,rfl⟩;have hy45 : y129.length = x5_1.length - (t111 : Int).toNat:=(by rw [Ny129.out,List.length_drop] <;> omega);rw [show (x5_1).drop (t111 : Int).toNat = y129 from Ny129.out.symm] at hr45;replace hr45 : Kd.F (Kd.int .i64) _ _ A45 y129.length y129:=(by rw [hA45];exact hr45);rw [← hy45,← hA45,← hc45] at hcut45;have HO133:=Aside0.mk (show Kd.V (Kd.int .i64) 3 _ w.heap.size _ (.slice A45 y129.length c45) y129 from Kd.V_mk (by rw [hy45,hc45];exact Nat.sub_le_sub_right hroom45 _) hr45);have HC133:=Aside0.mk (show y129.length ≤ c45 from by rw [hy45,hc45];exact Nat.sub_le_sub_right hroom45 _);clear hr45 hC45 hroom45 hi045 hsz45 hc45;have KY45:=Aside0.mk hy45;have KA45:=Aside0.mk hA45;clear hy45 hA45;replace q45:=eq_true q45)));(go_roundg k1)
                 case measure => have:=HK1.out;omega
                 case rel => exact ⟨(y126),(y129),H',⟨by have:=HK1.out;omega⟩,⟨by (with_reducible repeat (first|apply Kd.R_alloc|apply Kd.R_drewN|apply Kd.R_drew));exact HO128.out⟩,⟨by (with_reducible repeat (first|apply Kd.V_alloc|apply Kd.V_drewN|apply Kd.V_drew));exact Kd.V_mono HO133.out (fun _ hk => ⟨hk.1.1,⟨hk.2,hk.1.2⟩⟩)⟩,⟨by (with_reducible repeat (first|apply Kd.V_alloc|apply Kd.V_drewN|apply Kd.V_drew));exact Kd.V_mono HO_108000.out (fun _ hk => ⟨hk.1.1,⟨hk.2,hk.1.2⟩⟩)⟩,⟨by (with_reducible repeat (first|refine blk_drewN ?_ _|refine blk_drew ?_|refine blk_alloc ?_ _));exact BK107.out⟩,⟨by repeat (first|(with_reducible first|exact HB.out|apply below_alloc|apply pw_below_drewN|apply below_drew1|refine below_set ?_ GE107.out)|exact HB.out)⟩⟩
                ·(rw [if_neg c39] at H);(exact absurd H (by simp))
               ·(rw [if_neg c38] at H);(exact absurd H (by simp))
              ·(rw [if_neg c37] at H);(exact absurd H (by simp))
             ·(rw [if_neg c36] at H);(exact absurd H (by simp))
            ·(rw [if_neg c35] at H);(exact absurd H (by simp))
           ·(rw [if_neg c33] at H);(exact absurd H (by simp))
          ·(rw [if_neg c32] at H);(exact absurd H (by simp))
         ·(rw [if_neg c30] at H);(exact absurd H (by simp))
        ·(rw [if_neg c29] at H);(exact absurd H (by simp))
       ·(rw [if_neg c27] at H);(have c27b0 : decide (2 < t111) = false:=decide_eq_false c27);(clear c27);(by_cases c46 : x4_1.length < 8796093022208)
        ·(rw [if_pos c46] at H);(have LMc46:=Aside0.mk c46);(clear c46);(obtain ⟨y134,hy134⟩ : ∃ y_ : List ByteArray,y_ = (x4_1 ++ [t110]):=⟨_,rfl⟩);(replace H : (if 1 ≤ (x5_1.length : Int) then (array_Format.l0 k1 y134 (x5_1.drop 1) l0_0 a0_1) else (none)) = some (r1,r2):=by first|(rw [hy134];with_reducible exact H)|(have H2_:=(Option.bind_some _ _).symm.trans H;rw [hy134];with_reducible exact H2_)|(have H2_:=(Option.bind_some _ _).symm.trans H;with_reducible exact H2_)|with_reducible exact H|(rw [hy134];exact H)|exact H);(have Ny134:=Aside0.mk hy134);(clear hy134);(by_cases c47 : 1 ≤ (x5_1.length : Int))
         ·(rw [if_pos c47] at H);(have c47b0:=eq_true c47);(have c47b1 : decide (1 ≤ (x5_1.length : Int)) = true:=decide_eq_true c47);(clear c47);(obtain ⟨y137,hy137⟩ : ∃ y_ : List Int,y_ = (x5_1.drop 1):=⟨_,rfl⟩);(replace H : (array_Format.l0 k1 y134 y137 l0_0 a0_1) = some (r1,r2):=by first|(rw [hy137];with_reducible exact H)|(have H2_:=(Option.bind_some _ _).symm.trans H;rw [hy137];with_reducible exact H2_)|(have H2_:=(Option.bind_some _ _).symm.trans H;with_reducible exact H2_)|with_reducible exact H|(rw [hy137];exact H)|exact H);(have Ny137:=Aside0.mk hy137);(clear hy137);(have H':=Aside0.mk H);(clear H);(obtain ⟨Ao48,co48,eo48⟩:=Kd.V_slice HO_5.out);(subst eo48);(have p109 : 0 ≤ (0 : Int):=(by omega));(have q109 : 0 < (x5_1.length : Int):=of_decide_eq_true (by first|(with_reducible assumption)|assumption));(obtain ⟨ad109,e109,hx109_0⟩:=Kd.at_int (Kd.V_reads' HO_5.out).2.2 0 p109 q109)
          cases e109
          (have qi109 : (0 < x5_1.length) = True:=eq_true (by omega));((try rw [show ((0 : Int)).toNat = 0 from rfl] at hx109_0));((try rw [Addr.add_zero'] at hx109_0));(replace p109:=eq_true p109);(replace q109:=eq_true q109);(go_wp2_with (first|((with_reducible refine gate_callee (f:=18) rfl ?_);refine goesL_ (some 21) rfl rfl Tryd.func18 (by kernel_rfl) rfl #[.int .i64 (rd x5_1 0)] rfl (by (try simp only [List.map_toArray,List.map_cons,List.map_nil]);first|done|rfl|(simp only [List.length_drop,List.length_take];rfl)) ?_;(with_reducible refine (strconv_Itoa.calls (rd x5_1 0) t110 _ A10.out (HG_.out.below (by repeat (first|(with_reducible first|exact HB.out|apply below_alloc|apply pw_below_drewN|apply below_drew1|refine below_set ?_ GE107.out)|exact HB.out)))).mono ?_);rintro e w49 ⟨rfl,hb⟩;refine ⟨_,rfl,?_⟩;have n0_:=Aside0.mk (Kd.R_below (by (with_reducible repeat (first|apply Kd.R_alloc|apply Kd.R_drewN|apply Kd.R_drew));exact HO_4.out) hb);have n1_:=Aside0.mk (Kd.V_below (by (with_reducible repeat (first|apply Kd.V_alloc|apply Kd.V_drewN|apply Kd.V_drew));exact HO_5.out) hb);have n2_:=Aside0.mk (Kd.V_below (by (with_reducible repeat (first|apply Kd.V_alloc|apply Kd.V_drewN|apply Kd.V_drew));exact HO_108000.out) hb);have n3_:=Aside0.mk (blk_below (g:=gb107) (o:=.cells #[.slice A0_0 l0_0.length c0_0,.int .i64 a0_1] 28 (0,0)) (by (with_reducible repeat (first|refine blk_drewN ?_ _|refine blk_drew ?_|refine blk_alloc ?_ _));exact BK107.out) hb);have n4_:=Aside0.mk (below_step (by repeat (first|(with_reducible first|exact HB.out|apply below_alloc|apply pw_below_drewN|apply below_drew1|refine below_set ?_ GE107.out)|exact HB.out)) hb);clear HO_4;clear HO_5;clear HO_108000;clear BK107;clear HB;have HO_4:=n0_;have HO_5:=n1_;have HO_108000:=n2_;have BK107:=n3_;have HB:=n4_;clear n0_ n1_ n2_ n3_ n4_;(try clear hb);(try clear hb2);(try clear hk);(try clear hi))|((with_reducible refine gate_callee (f:=19) rfl ?_);refine goesL_ (some 24) rfl rfl Tryd.func19 (by kernel_rfl) rfl #[.slice (some ad109) x5_1.length co48] rfl (by (try simp only [List.map_toArray,List.map_cons,List.map_nil]);first|done|rfl|(simp only [List.length_drop,List.length_take];rfl)) ?_;(with_reducible refine (array_run.calls k1 _ _ x5_1 t111 t112 _ ?side1 ?side2 A11.out).mono ?_);(case side1 => repeat (first|exact (Kd.V_reads' HO_5.out).2.2|(with_reducible refine Kd.C_alloc ?_ _)|(with_reducible refine Kd.C_drewN ?_ _)|(with_reducible refine Kd.C_drew ?_)));(case side2 => exact (Kd.V_reads' HO_5.out).2.1);rintro e w' ⟨rfl,⟨nd,rfl⟩⟩;refine ⟨_,rfl,?_⟩)|((with_reducible refine gate_builtin (b:=.append) (xs:=#[.tmp 55,.tmp 57]) rfl ?_);at_builtin;refine Kd.R_append Kd.string (w0:=w) w.heap.size rfl (.tmp 55) (.tmp 57) 47 9 (.string ⟨#[]⟩) 16 rfl Tryd.underlying47 info9 rfl (by decide) (by omega) u4 x4_1 t110 [.string t110] (fun k_ => (w.heap.size ≤ k_)) (fun _ => False) rfl rfl ?aP (fun _ hk => hk.elim) ?aF ?aO ?aB ?aS ?aL ?_;(case aP => exact rfl);(case aB => exact (by repeat (first|(with_reducible first|exact HB.out|apply below_alloc|apply pw_below_drewN|apply below_drew1|refine below_set ?_ GE107.out)|exact HB.out)));(case aF => exact (fun k_ hk => (Nat.le_trans (below_size (by repeat (first|(with_reducible first|exact HB.out|apply below_alloc|apply pw_below_drewN|apply below_drew1|refine below_set ?_ GE107.out)|exact HB.out))) hk)));(case aO => exact (by (with_reducible repeat (first|apply Kd.R_alloc|apply Kd.R_drewN|apply Kd.R_drew));exact HO_4.out));(case aS => exact (below_size (by repeat (first|(with_reducible first|exact HB.out|apply below_alloc|apply pw_below_drewN|apply below_drew1|refine below_set ?_ GE107.out)|exact HB.out))));(case aL => have:=LMc46.out;omega);intro v135 w50 ho hb hg hat;rw [← Ny134.out] at ho;have n0_:=Aside0.mk (Kd.V_afterv (ok:=(fun k_ => (P0_0_ k_ ∨ w.heap.size ≤ k_)∧k_ ≠ gb107)) (by (with_reducible repeat (first|apply Kd.V_alloc|apply Kd.V_drewN|apply Kd.V_drew));exact Kd.V_mono HO_5.out (fun _ hk => ⟨⟨hk.1,hk.2.2⟩,hk.2.1⟩)) hg hat);have n1_:=Aside0.mk (Kd.V_afterv (ok:=(fun k_ => (P0_0_ k_ ∨ w.heap.size ≤ k_)∧k_ ≠ gb107)) (by (with_reducible repeat (first|apply Kd.V_alloc|apply Kd.V_drewN|apply Kd.V_drew));exact Kd.V_mono HO_108000.out (fun _ hk => ⟨⟨hk.1,hk.2.2⟩,hk.2.1⟩)) hg hat);have n2_:=Aside0.mk (blk_grown (g:=gb107) (o:=.cells #[.slice A0_0 l0_0.length c0_0,.int .i64 a0_1] 28 (0,0)) (by (with_reducible repeat (first|refine blk_drewN ?_ _|refine blk_drew ?_|refine blk_alloc ?_ _));exact BK107.out) hg (Kd.R_ne HO_4.out BK107.out (by decide)));have n3_:=Aside0.mk (hb);have n4_:=Aside0.mk (ho);clear HO_5;clear HO_108000;clear BK107;clear HB;clear HO_4;have HO_5:=n0_;have HO_108000:=n1_;have BK107:=n2_;have HB:=n3_;have HO136:=n4_;clear n0_ n1_ n2_ n3_ n4_;clear ho hb hg hat;have q51 : (1 : Int) ≤ ((x5_1.length : Int) : Int):=of_decide_eq_true (by first|(with_reducible assumption)|assumption);obtain ⟨i051,hi051,_,hsz51,_⟩:=info_parts info3;have hroom51 : x5_1.length ≤ co48:=(Kd.V_reads' HO_5.out).2.1;have hC51 : Kd.F (Kd.int .i64) _ _ (some ad109) x5_1.length x5_1:=(Kd.V_at (base:=w.heap.size) HO_5.out).2.2;have hcut51:=cut_from (P:=Tryd.prog) 22 3 .i64 Tryd.underlying22 hi051 1 hsz51 (some ad109) x5_1.length co48 1 (by omega) q51;have hr51:=Kd.F_cut (m:=(1 : Int).toNat) (c:=co48) hC51 (by omega) hroom51;obtain ⟨A51,hA51⟩ : ∃ A1,A1 = (if co48 = (1 : Int).toNat then (some ad109) else ((some ad109) : Option Addr).map (·.add ((1 : Int).toNat * 1))):=⟨_,rfl⟩;obtain ⟨c51,hc51⟩ : ∃ c1,c1 = co48 - (1 : Int).toNat:=⟨_,rfl⟩;have hy51 : y137.length = x5_1.length - (1 : Int).toNat:=(by rw [Ny137.out,List.length_drop] <;> omega);rw [show (x5_1).drop (1 : Int).toNat = y137 from Ny137.out.symm] at hr51;replace hr51 : Kd.F (Kd.int .i64) _ _ A51 y137.length y137:=(by rw [hA51];exact hr51);rw [← hy51,← hA51,← hc51] at hcut51;have HO141:=Aside0.mk (show Kd.V (Kd.int .i64) 3 _ w.heap.size _ (.slice A51 y137.length c51) y137 from Kd.V_mk (by rw [hy51,hc51];exact Nat.sub_le_sub_right hroom51 _) hr51);have HC141:=Aside0.mk (show y137.length ≤ c51 from by rw [hy51,hc51];exact Nat.sub_le_sub_right hroom51 _);clear hr51 hC51 hroom51 hi051 hsz51 hc51;have KY51:=Aside0.mk hy51;have KA51:=Aside0.mk hA51;clear hy51 hA51;replace q51:=eq_true q51)));(go_roundg k1)
          case measure => have:=HK1.out;omega
          case rel => exact ⟨(y134),(y137),H',⟨by have:=HK1.out;omega⟩,⟨by (with_reducible repeat (first|apply Kd.R_alloc|apply Kd.R_drewN|apply Kd.R_drew));exact HO136.out⟩,⟨by (with_reducible repeat (first|apply Kd.V_alloc|apply Kd.V_drewN|apply Kd.V_drew));exact Kd.V_mono HO141.out (fun _ hk => ⟨hk.1.1,⟨hk.2,hk.1.2⟩⟩)⟩,⟨by (with_reducible repeat (first|apply Kd.V_alloc|apply Kd.V_drewN|apply Kd.V_drew));exact Kd.V_mono HO_108000.out (fun _ hk => ⟨hk.1.1,⟨hk.2,hk.1.2⟩⟩)⟩,⟨by (with_reducible repeat (first|refine blk_drewN ?_ _|refine blk_drew ?_|refine blk_alloc ?_ _));exact BK107.out⟩,⟨by repeat (first|(with_reducible first|exact HB.out|apply below_alloc|apply pw_below_drewN|apply below_drew1|refine below_set ?_ GE107.out)|exact HB.out)⟩⟩
         ·(rw [if_neg c47] at H);(exact absurd H (by simp))
        ·(rw [if_neg c46] at H);(exact absurd H (by simp))
     ·(rw [if_neg c9] at H);(exact absurd H (by simp))
    ·(rw [if_neg c8] at H);(have c8b0 : decide (0 < (x5_1.length : Int)) = false:=decide_eq_false c8);(have c8b1 : decide (0 < x5_1.length) = false:=decide_eq_false (by omega));(clear c8);(replace H:=Option.bind_eq_some_iff.mp H);(obtain ⟨t142,A520,H⟩:=H);(replace H : (if a0_1 > 0 then ((strconv_Itoa.f a0_1).bind fun t143 => (if 1 + t143.size ≤ 9223372036854775807 then (if t142.size + ((⟨#[37]⟩ : ByteArray) ++ t143).size ≤ 9223372036854775807 then (some (t142 ++ ((⟨#[37]⟩ : ByteArray) ++ t143),0)) else (none)) else (none))) else (some (t142,0))) = some (r1,r2):=H);(have A52:=Aside0.mk A520);(clear A520);(by_cases c53 : a0_1 > 0)
     ·(rw [if_pos c53] at H);(have c53b0 : decide (0 < a0_1) = true:=decide_eq_true c53);(clear c53);(replace H:=Option.bind_eq_some_iff.mp H);(obtain ⟨t143,A540,H⟩:=H);(replace H : (if 1 + t143.size ≤ 9223372036854775807 then (if t142.size + ((⟨#[37]⟩ : ByteArray) ++ t143).size ≤ 9223372036854775807 then (some (t142 ++ ((⟨#[37]⟩ : ByteArray) ++ t143),0)) else (none)) else (none)) = some (r1,r2):=H);(have A54:=Aside0.mk A540);(clear A540);(by_cases c55 : 1 + t143.size ≤ 9223372036854775807)
      ·(rw [if_pos c55] at H);(have c55b0:=eq_true c55);(have c55b1 : decide (1 + t143.size ≤ 9223372036854775807) = true:=decide_eq_true c55);(try have c55b2 : (9223372036854775807 < 1 + t143.size) = False:=eq_false (Nat.not_lt.2 c55));(by_cases c56 : t142.size + ((⟨#[37]⟩ : ByteArray) ++ t143).size ≤ 9223372036854775807)
       ·(rw [if_pos c56] at H);(have c56b0:=eq_true c56);(have c56b1 : decide (t142.size + ((⟨#[37]⟩ : ByteArray) ++ t143).size ≤ 9223372036854775807) = true:=decide_eq_true c56);(try have c56b3 : (9223372036854775807 < t142.size + 1 + t143.size) = False:=eq_false (by have z:=c56;rw [show t142.size + ((⟨#[37]⟩ : ByteArray) ++ t143).size = t142.size + 1 + t143.size from by rw [ByteArray.size_append];rfl] at z;omega));(try have c56b2 : (9223372036854775807 < t142.size + ((⟨#[37]⟩ : ByteArray) ++ t143).size) = False:=eq_false (Nat.not_lt.2 c56));(simp only [Option.some.injEq,Prod.mk.injEq] at H);(obtain ⟨rfl,rfl⟩:=H);(obtain ⟨Ao57,co57,eo57⟩:=Kd.V_slice HO_5.out);(subst eo57);(obtain ⟨Ao58,co58,eo58⟩:=Kd.R_slice HO_4.out);(subst eo58);(go_wp2_with (first|((with_reducible refine gate_callee (f:=20) rfl ?_);refine goesL_ (some 63) rfl rfl Tryd.func20 (by kernel_rfl) rfl #[.slice Ao58 x4_1.length co58,.string (⟨#[44]⟩ : ByteArray)] rfl (by (try simp only [List.map_toArray,List.map_cons,List.map_nil]);first|done|rfl|(simp only [List.length_drop,List.length_take];rfl)) ?_;(with_reducible refine (strings_Join.calls _ _ x4_1 (⟨#[44]⟩ : ByteArray) t142 _ ?side1 ?side2 A52.out).mono ?_);(case side1 => repeat (first|exact (Kd.R_reads' HO_4.out).2.2|(with_reducible refine Kd.C_alloc ?_ _)|(with_reducible refine Kd.C_drewN ?_ _)|(with_reducible refine Kd.C_drew ?_)));(case side2 => exact (Kd.R_reads' HO_4.out).2.1);rintro e w59 ⟨rfl,hb⟩;refine ⟨_,rfl,?_⟩;have n0_:=Aside0.mk (Kd.R_below (by (with_reducible repeat (first|apply Kd.R_alloc|apply Kd.R_drewN|apply Kd.R_drew));exact HO_4.out) hb);have n1_:=Aside0.mk (Kd.V_below (by (with_reducible repeat (first|apply Kd.V_alloc|apply Kd.V_drewN|apply Kd.V_drew));exact HO_5.out) hb);have n2_:=Aside0.mk (Kd.V_below (by (with_reducible repeat (first|apply Kd.V_alloc|apply Kd.V_drewN|apply Kd.V_drew));exact HO_108000.out) hb);have n3_:=Aside0.mk (blk_below (g:=gb107) (o:=.cells #[.slice A0_0 l0_0.length c0_0,.int .i64 a0_1] 28 (0,0)) (by (with_reducible repeat (first|refine blk_drewN ?_ _|refine blk_drew ?_|refine blk_alloc ?_ _));exact BK107.out) hb);have n4_:=Aside0.mk (below_step (by repeat (first|(with_reducible first|exact HB.out|apply below_alloc|apply pw_below_drewN|apply below_drew1|refine below_set ?_ GE107.out)|exact HB.out)) hb);clear HO_4;clear HO_5;clear HO_108000;clear BK107;clear HB;have HO_4:=n0_;have HO_5:=n1_;have HO_108000:=n2_;have BK107:=n3_;have HB:=n4_;clear n0_ n1_ n2_ n3_ n4_;(try clear hb);(try clear hb2);(try clear hk);(try clear hi);have hcz60_0 : w59.cell? ⟨gb107,0,none⟩ = some (.slice A0_0 l0_0.length c0_0):=(blk_cell BK107.out 0).trans rfl;have hcz60_1 : w59.cell? ⟨gb107,1,none⟩ = some (.int .i64 a0_1):=(blk_cell BK107.out 1).trans rfl;have hfz60_0:=blk_frozen BK107.out 0;have hfz60_1:=blk_frozen BK107.out 1)|((with_reducible refine gate_callee (f:=18) rfl ?_);refine goesL_ (some 70) rfl rfl Tryd.func18 (by kernel_rfl) rfl #[.int .i64 a0_1] rfl (by (try simp only [List.map_toArray,List.map_cons,List.map_nil]);first|done|rfl|(simp only [List.length_drop,List.length_take];rfl)) ?_;(with_reducible refine (strconv_Itoa.calls a0_1 t143 _ A54.out (HG_.out.below (by repeat (first|(with_reducible first|exact HB.out|apply below_alloc|apply pw_below_drewN|apply below_drew1|refine below_set ?_ GE107.out)|exact HB.out)))).mono ?_);rintro e w61 ⟨rfl,hb⟩;refine ⟨_,rfl,?_⟩;have n0_:=Aside0.mk (Kd.R_below (by (with_reducible repeat (first|apply Kd.R_alloc|apply Kd.R_drewN|apply Kd.R_drew));exact HO_4.out) hb);have n1_:=Aside0.mk (Kd.V_below (by (with_reducible repeat (first|apply Kd.V_alloc|apply Kd.V_drewN|apply Kd.V_drew));exact HO_5.out) hb);have n2_:=Aside0.mk (Kd.V_below (by (with_reducible repeat (first|apply Kd.V_alloc|apply Kd.V_drewN|apply Kd.V_drew));exact HO_108000.out) hb);have n3_:=Aside0.mk (blk_below (g:=gb107) (o:=.cells #[.slice A0_0 l0_0.length c0_0,.int .i64 a0_1] 28 (0,0)) (by (with_reducible repeat (first|refine blk_drewN ?_ _|refine blk_drew ?_|refine blk_alloc ?_ _));exact BK107.out) hb);have n4_:=Aside0.mk (below_step (by repeat (first|(with_reducible first|exact HB.out|apply below_alloc|apply pw_below_drewN|apply below_drew1|refine below_set ?_ GE107.out)|exact HB.out)) hb);clear HO_4;clear HO_5;clear HO_108000;clear BK107;clear HB;have HO_4:=n0_;have HO_5:=n1_;have HO_108000:=n2_;have BK107:=n3_;have HB:=n4_;clear n0_ n1_ n2_ n3_ n4_;(try clear hb);(try clear hb2);(try clear hk);(try clear hi))));(go_ret2);(exact ⟨by first|rfl|(simp [errW_none,errW_some] <;> rfl)|(simp [*,errW_none,errW_some] <;> rfl),by repeat (first|(with_reducible first|exact HB.out|apply below_alloc|apply pw_below_drewN|apply below_drew1|refine below_set ?_ GE107.out)|exact HB.out)⟩)
       ·(rw [if_neg c56] at H);(exact absurd H (by simp))
      ·(rw [if_neg c55] at H);(exact absurd H (by simp))
     ·(rw [if_neg c53] at H);(have c53b0 : decide (0 < a0_1) = false:=decide_eq_false c53);(clear c53);(simp only [Option.some.injEq,Prod.mk.injEq] at H);(obtain ⟨rfl,rfl⟩:=H);(obtain ⟨Ao62,co62,eo62⟩:=Kd.V_slice HO_5.out);(subst eo62);(obtain ⟨Ao63,co63,eo63⟩:=Kd.R_slice HO_4.out);(subst eo63);(go_wp2_with (first|((with_reducible refine gate_callee (f:=20) rfl ?_);refine goesL_ (some 63) rfl rfl Tryd.func20 (by kernel_rfl) rfl #[.slice Ao63 x4_1.length co63,.string (⟨#[44]⟩ : ByteArray)] rfl (by (try simp only [List.map_toArray,List.map_cons,List.map_nil]);first|done|rfl|(simp only [List.length_drop,List.length_take];rfl)) ?_;(with_reducible refine (strings_Join.calls _ _ x4_1 (⟨#[44]⟩ : ByteArray) t142 _ ?side1 ?side2 A52.out).mono ?_);(case side1 => repeat (first|exact (Kd.R_reads' HO_4.out).2.2|(with_reducible refine Kd.C_alloc ?_ _)|(with_reducible refine Kd.C_drewN ?_ _)|(with_reducible refine Kd.C_drew ?_)));(case side2 => exact (Kd.R_reads' HO_4.out).2.1);rintro e w64 ⟨rfl,hb⟩;refine ⟨_,rfl,?_⟩;have n0_:=Aside0.mk (Kd.R_below (by (with_reducible repeat (first|apply Kd.R_alloc|apply Kd.R_drewN|apply Kd.R_drew));exact HO_4.out) hb);have n1_:=Aside0.mk (Kd.V_below (by (with_reducible repeat (first|apply Kd.V_alloc|apply Kd.V_drewN|apply Kd.V_drew));exact HO_5.out) hb);have n2_:=Aside0.mk (Kd.V_below (by (with_reducible repeat (first|apply Kd.V_alloc|apply Kd.V_drewN|apply Kd.V_drew));exact HO_108000.out) hb);have n3_:=Aside0.mk (blk_below (g:=gb107) (o:=.cells #[.slice A0_0 l0_0.length c0_0,.int .i64 a0_1] 28 (0,0)) (by (with_reducible repeat (first|refine blk_drewN ?_ _|refine blk_drew ?_|refine blk_alloc ?_ _));exact BK107.out) hb);have n4_:=Aside0.mk (below_step (by repeat (first|(with_reducible first|exact HB.out|apply below_alloc|apply pw_below_drewN|apply below_drew1|refine below_set ?_ GE107.out)|exact HB.out)) hb);clear HO_4;clear HO_5;clear HO_108000;clear BK107;clear HB;have HO_4:=n0_;have HO_5:=n1_;have HO_108000:=n2_;have BK107:=n3_;have HB:=n4_;clear n0_ n1_ n2_ n3_ n4_;(try clear hb);(try clear hb2);(try clear hk);(try clear hi);have hcz65_0 : w64.cell? ⟨gb107,0,none⟩ = some (.slice A0_0 l0_0.length c0_0):=(blk_cell BK107.out 0).trans rfl;have hcz65_1 : w64.cell? ⟨gb107,1,none⟩ = some (.int .i64 a0_1):=(blk_cell BK107.out 1).trans rfl;have hfz65_0:=blk_frozen BK107.out 0;have hfz65_1:=blk_frozen BK107.out 1)));(go_ret2);(exact ⟨by first|rfl|(simp [errW_none,errW_some] <;> rfl)|(simp [*,errW_none,errW_some] <;> rfl),by repeat (first|(with_reducible first|exact HB.out|apply below_alloc|apply pw_below_drewN|apply below_drew1|refine below_set ?_ GE107.out)|exact HB.out)⟩)
 ·(replace c3:=Bool.eq_false_iff.mpr c3);(subst c3);(have H1 : (some ((⟨#[]⟩ : ByteArray),3)) = some (r1,r2):=by rw [if_neg (show ¬ (false = true) by decide)] at H;exact H);(clear H);(have H:=H1);(clear H1);(simp only [Option.some.injEq,Prod.mk.injEq] at H);(obtain ⟨rfl,rfl⟩:=H);(go_enter Tryd.func8,Tryd.ntmps8);(go_wp2_with (first|((with_reducible refine gate_dst (N:=1) rfl ?_);refine box_event ?hg (N:=1) ?hd (cs:=#[.slice A0_0 l0_0.length c0_0,.int .i64 a0_1]) (t:=28) ?hr ?_;(case hd => rfl);(case hg => rfl);(case hr => first|(go_simp;done)|(go_simp;rfl));intro gb107 hg w66 hbox hb;have n0_:=Aside0.mk (Kd.V_below (Kd.V_elderB (by (with_reducible repeat (first|apply Kd.V_alloc|apply Kd.V_drewN|apply Kd.V_drew));exact HO0_0.out) gb107 (Nat.le_of_eq hg.symm)) hb);have n1_:=Aside0.mk (below_step (by repeat (first|(with_reducible first|exact HB.out|apply below_alloc|apply pw_below_drewN|apply below_drew1)|exact HB.out)) hb);have n2_:=Aside0.mk (hbox);have n3_:=Aside0.mk ((by rw [hg];exact (below_size (by repeat (first|(with_reducible first|exact HB.out|apply below_alloc|apply pw_below_drewN|apply below_drew1)|exact HB.out))) : w.heap.size ≤ gb107));have n4_:=Aside0.mk ((by rw [hg];exact (below_size (by repeat (first|(with_reducible first|exact HB.out|apply below_alloc|apply pw_below_drewN|apply below_drew1)|exact HB.out))) : w.heap.size ≤ gb107));clear HO0_0;clear HB;have HO0_0:=n0_;have HB:=n1_;have BK107:=n2_;have GW107:=n3_;have GE107:=n4_;clear n0_ n1_ n2_ n3_ n4_;clear hb hbox hg;have hcz67_0 : w66.cell? ⟨gb107,0,none⟩ = some (.slice A0_0 l0_0.length c0_0):=(blk_cell BK107.out 0).trans rfl;have hcz67_1 : w66.cell? ⟨gb107,1,none⟩ = some (.int .i64 a0_1):=(blk_cell BK107.out 1).trans rfl;have hfz67_0:=blk_frozen BK107.out 0;have hfz67_1:=blk_frozen BK107.out 1)|((with_reducible refine gate_callee (f:=11) rfl ?_);refine goesL_ (some 11) rfl rfl Tryd.func11 (by kernel_rfl) rfl #[.agg #[.slice A0_0 l0_0.length c0_0,.int .i64 a0_1]] rfl (by (try simp only [List.map_toArray,List.map_cons,List.map_nil]);first|done|rfl|(simp only [List.length_drop,List.length_take];rfl)) ?_;(with_reducible refine (array_Right.calls k _ _ l0_0 a0_1 false _ ?side1 ?side2 A2.out).mono ?_);(case side1 => repeat (first|exact (Kd.V_reads' HO0_0.out).2.2|(with_reducible refine Kd.C_alloc ?_ _)|(with_reducible refine Kd.C_drewN ?_ _)|(with_reducible refine Kd.C_drew ?_)));(case side2 => exact (Kd.V_reads' HO0_0.out).2.1);rintro e w68 ⟨rfl,hb⟩;refine ⟨_,rfl,?_⟩;have n0_:=Aside0.mk (Kd.V_below (by (with_reducible repeat (first|apply Kd.V_alloc|apply Kd.V_drewN|apply Kd.V_drew));exact HO0_0.out) hb);have n1_:=Aside0.mk (blk_below (g:=gb107) (o:=.cells #[.slice A0_0 l0_0.length c0_0,.int .i64 a0_1] 28 (0,0)) (by (with_reducible repeat (first|refine blk_drewN ?_ _|refine blk_drew ?_|refine blk_alloc ?_ _));exact BK107.out) hb);have n2_:=Aside0.mk (below_step (by repeat (first|(with_reducible first|exact HB.out|apply below_alloc|apply pw_below_drewN|apply below_drew1|refine below_set ?_ GE107.out)|exact HB.out)) hb);clear HO0_0;clear BK107;clear HB;have HO0_0:=n0_;have BK107:=n1_;have HB:=n2_;clear n0_ n1_ n2_;(try clear hb);(try clear hb2);(try clear hk);(try clear hi))));(go_ret2);(exact ⟨by first|rfl|(simp [errW_none,errW_some] <;> rfl)|(simp [*,errW_none,errW_some] <;> rfl),by repeat (first|(with_reducible first|exact HB.out|apply below_alloc|apply pw_below_drewN|apply below_drew1|refine below_set ?_ GE107.out)|exact HB.out)⟩)
mutual
def marlinspikeref08_Right.j0 : Nat → Int → Bool → List Int → Int → Option (Bool)
 | 0, _, _, _, _ => none
 | k + 1, x3, x24, x145000, x145001 => if x24 = true then (some false) else (marlinspikeref08_Right.l0 k x3 0 x145000 x145001)
def marlinspikeref08_Right.l0 : Nat → Int → Int → List Int → Int → Option (Bool)
 | 0, _, _, _, _ => none
 | k + 1, x3, x4, x145000, x145001 => if x4 < x3 then (if 0 ≤ x4 then (if x4 < (x145000.length : Int) then (if (rd x145000 x4) < 0 then (some false) else (if (rd x145000 x4) > 999999 then (some false) else (if x4 > 0 then (if 0 ≤ (wrap64 (x4 - 1)) then (if (wrap64 (x4 - 1)) < (x145000.length : Int) then (if (rd x145000 x4) ≤ (rd x145000 (wrap64 (x4 - 1))) then (some false) else (marlinspikeref08_Right.l0 k x3 (wrap64 (x4 + 1)) x145000 x145001)) else (none)) else (none)) else (marlinspikeref08_Right.l0 k x3 (wrap64 (x4 + 1)) x145000 x145001)))) else (none)) else (none)) else (some true)
end
def marlinspikeref08_Right.f (k : Nat) (l0_0 : List Int) (a0_1 : Int) : Option (Bool) := if (l0_0.length : Int) < 1 then (marlinspikeref08_Right.j0 k (l0_0.length : Int) true l0_0 a0_1) else (if (l0_0.length : Int) > 256 then (marlinspikeref08_Right.j0 k (l0_0.length : Int) true l0_0 a0_1) else (if a0_1 < 0 then (marlinspikeref08_Right.j0 k (l0_0.length : Int) true l0_0 a0_1) else (marlinspikeref08_Right.j0 k (l0_0.length : Int) (decide (a0_1 > 999999)) l0_0 a0_1)))
theorem marlinspikeref08_Right.mono_l : ∀ k,(∀ y0 y1 y2 y3,LeO (marlinspikeref08_Right.j0 k y0 y1 y2 y3) (marlinspikeref08_Right.j0 (k + 1) y0 y1 y2 y3))∧(∀ y0 y1 y2 y3,LeO (marlinspikeref08_Right.l0 k y0 y1 y2 y3) (marlinspikeref08_Right.l0 (k + 1) y0 y1 y2 y3))
|0 => ⟨fun _ _ _ _ r h => by simp [marlinspikeref08_Right.j0] at h,fun _ _ _ _ r h => by simp [marlinspikeref08_Right.l0] at h⟩
|k + 1 => by
  obtain ⟨ih0,ih1⟩:=marlinspikeref08_Right.mono_l k
  refine ⟨?_,?_⟩
  ·intro y0 y1 y2 y3
   unfold marlinspikeref08_Right.j0
   repeat' first
  |(with_reducible exact ih0 _ _ _ _)
  |(with_reducible exact ih1 _ _ _ _)
  |(with_reducible exact LeO.refl _)
  |(with_reducible exact LeO.none _)
  |(with_reducible refine LeO.ite ?_ ?_)
  |(with_reducible refine LeO.bind ?_ (fun _ => ?_))
  |exact ih0 _ _ _ _
  |exact ih1 _ _ _ _
  |exact LeO.none _
  |refine LeO.ite ?_ ?_
  |refine LeO.bind ?_ (fun _ => ?_)
  ·intro y0 y1 y2 y3
   unfold marlinspikeref08_Right.l0
   repeat' first
  |(with_reducible exact ih0 _ _ _ _)
  |(with_reducible exact ih1 _ _ _ _)
  |(with_reducible exact LeO.refl _)
  |(with_reducible exact LeO.none _)
  |(with_reducible refine LeO.ite ?_ ?_)
  |(with_reducible refine LeO.bind ?_ (fun _ => ?_))
  |exact ih0 _ _ _ _
  |exact ih1 _ _ _ _
  |exact LeO.none _
  |refine LeO.ite ?_ ?_
  |refine LeO.bind ?_ (fun _ => ?_)
theorem marlinspikeref08_Right.mono : ∀ a0 a1 k,LeO (marlinspikeref08_Right.f k a0 a1) (marlinspikeref08_Right.f (k + 1) a0 a1):=by
 (intro a0 a1 k);(obtain ⟨ih0,ih1⟩:=marlinspikeref08_Right.mono_l k);(unfold marlinspikeref08_Right.f)
 repeat' first
  |(with_reducible exact ih0 _ _ _ _)
  |(with_reducible exact ih1 _ _ _ _)
  |(with_reducible exact LeO.refl _)
  |(with_reducible exact LeO.none _)
  |(with_reducible refine LeO.ite ?_ ?_)
  |(with_reducible refine LeO.bind ?_ (fun _ => ?_))
  |exact ih0 _ _ _ _
  |exact ih1 _ _ _ _
  |exact LeO.none _
  |refine LeO.ite ?_ ?_
  |refine LeO.bind ?_ (fun _ => ?_)
set_option maxHeartbeats 8000000 in
set_option maxRecDepth 100000 in
theorem marlinspikeref08_Right.calls (k : Nat) (A0_0 : Option Addr) (c0_0 : Nat) (l0_0 : List Int) (a0_1 : Int) (r : Bool) (w : World) (hr0_0 : Kd.C (Kd.int .i64) w A0_0 l0_0.length l0_0) (hc0_0 : l0_0.length ≤ c0_0) (h : marlinspikeref08_Right.f k l0_0 a0_1 = some r) :
  Calls Tryd.prog 12 #[.agg #[.slice A0_0 l0_0.length c0_0,.int .i64 a0_1]] w fun e w' => e = .returned (.bool r)∧Below w.heap.size w w':=by
 (have hu24:=Tryd.underlying24);(have HR0_0:=Aside0.mk hr0_0);(have HC0_0:=Aside0.mk hc0_0);(clear hr0_0 hc0_0);(have HB:=Aside0.mk (Below.refl w.heap.size w));(have H : (if (l0_0.length : Int) < 1 then (marlinspikeref08_Right.j0 k (l0_0.length : Int) true l0_0 a0_1) else (if (l0_0.length : Int) > 256 then (marlinspikeref08_Right.j0 k (l0_0.length : Int) true l0_0 a0_1) else (if a0_1 < 0 then (marlinspikeref08_Right.j0 k (l0_0.length : Int) true l0_0 a0_1) else (marlinspikeref08_Right.j0 k (l0_0.length : Int) (decide (a0_1 > 999999)) l0_0 a0_1)))) = some r:=h);(clear h);(have HC2:=Aside0.mk H);(clear H);(go_enter Tryd.func12,Tryd.ntmps12);(go_upto_region 2 with (first|((with_reducible refine gate_dst (N:=1) rfl ?_);refine box_event ?hg (N:=1) ?hd (cs:=#[.slice A0_0 l0_0.length c0_0,.int .i64 a0_1]) (t:=24) ?hr ?_;(case hd => rfl);(case hg => rfl);(case hr => first|(go_simp;done)|(go_simp;rfl));intro gb144 hg w3 hbox hb;have n0_:=Aside0.mk (below_step (by repeat (first|(with_reducible first|exact HB.out|apply below_alloc|apply pw_below_drewN|apply below_drew1)|exact HB.out)) hb);have n1_:=Aside0.mk (hbox);have n2_:=Aside0.mk ((by rw [hg];exact (below_size (by repeat (first|(with_reducible first|exact HB.out|apply below_alloc|apply pw_below_drewN|apply below_drew1)|exact HB.out))) : w.heap.size ≤ gb144));have n3_:=Aside0.mk ((by rw [hg];exact (below_size (by repeat (first|(with_reducible first|exact HB.out|apply below_alloc|apply pw_below_drewN|apply below_drew1)|exact HB.out))) : w.heap.size ≤ gb144));clear HB;have HB:=n0_;have BK144:=n1_;have GW144:=n2_;have GE144:=n3_;clear n0_ n1_ n2_ n3_;clear hb hbox hg;have hcz4_0 : w3.cell? ⟨gb144,0,none⟩ = some (.slice A0_0 l0_0.length c0_0):=(blk_cell BK144.out 0).trans rfl;have hcz4_1 : w3.cell? ⟨gb144,1,none⟩ = some (.int .i64 a0_1):=(blk_cell BK144.out 1).trans rfl;have hfz4_0:=blk_frozen BK144.out 0;have hfz4_1:=blk_frozen BK144.out 1)));((try simp only [Act.put,List.setIfInBounds_toArray,List.set_cons_zero,List.set_cons_succ]));(go_cut [24] (fun v24 wc => ∃ (kq : Nat) (x24_1 : Bool),v24 = .bool x24_1∧Aside0 (marlinspikeref08_Right.j0 kq (l0_0.length : Int) x24_1 l0_0 a0_1 = some r)∧Aside0 (kq ≤ k)∧Aside0 (wc.heap[gb144]? = some (.cells #[(.slice A0_0 l0_0.length c0_0),.int .i64 a0_1] 24 (0,0)))∧Aside0 (Below w.heap.size w wc)))
 case first =>
  (have H:=HC2.out);(clear HC2);(by_cases c5 : (l0_0.length : Int) < 1)
  ·(rw [if_pos c5] at H);(have c5b0 : decide ((l0_0.length : Int) < 1) = true:=decide_eq_true c5);(have c5b1 : decide (l0_0.length < 1) = true:=decide_eq_true (by omega));(clear c5);((first|rw [c5b0]|(simp only [i64_w,i32_w];rw [c5b0])|skip));(have H':=Aside0.mk H);(clear H);(go_wp2);(go_meet)
   case rel => exact ⟨_,(true),(by first|rfl|(simp;done)|(simp [*];done)),H',⟨by first|omega|exact Nat.le_refl _⟩,⟨by (with_reducible repeat (first|refine blk_drewN ?_ _|refine blk_drew ?_|refine blk_alloc ?_ _));exact BK144.out⟩,⟨by repeat (first|(with_reducible first|exact HB.out|apply below_alloc|apply pw_below_drewN|apply below_drew1|refine below_set ?_ GE144.out)|exact HB.out)⟩⟩
  ·(rw [if_neg c5] at H);(have c5b0 : decide ((l0_0.length : Int) < 1) = false:=decide_eq_false c5);(have c5b1 : decide (l0_0.length < 1) = false:=decide_eq_false (by omega));(clear c5);((first|rw [c5b0]|(simp only [i64_w,i32_w];rw [c5b0])|skip));(by_cases c6 : (l0_0.length : Int) > 256)
   ·(rw [if_pos c6] at H);(have c6b0 : decide (256 < (l0_0.length : Int)) = true:=decide_eq_true c6);(have c6b1 : decide (256 < l0_0.length) = true:=decide_eq_true (by omega));(clear c6);(have H':=Aside0.mk H);(clear H);(go_wp2);(go_meet)
    case rel => exact ⟨_,(true),(by first|rfl|(simp;done)|(simp [*];done)),H',⟨by first|omega|exact Nat.le_refl _⟩,⟨by (with_reducible repeat (first|refine blk_drewN ?_ _|refine blk_drew ?_|refine blk_alloc ?_ _));exact BK144.out⟩,⟨by repeat (first|(with_reducible first|exact HB.out|apply below_alloc|apply pw_below_drewN|apply below_drew1|refine below_set ?_ GE144.out)|exact HB.out)⟩⟩
   ·(rw [if_neg c6] at H);(have c6b0 : decide (256 < (l0_0.length : Int)) = false:=decide_eq_false c6);(have c6b1 : decide (256 < l0_0.length) = false:=decide_eq_false (by omega));(clear c6);(by_cases c7 : a0_1 < 0)
    ·(rw [if_pos c7] at H);(have c7b0 : decide (a0_1 < 0) = true:=decide_eq_true c7);(clear c7);(have H':=Aside0.mk H);(clear H);(have hcz8_0 : w3.cell? ⟨gb144,0,none⟩ = some (.slice A0_0 l0_0.length c0_0):=(blk_cell BK144.out 0).trans rfl);(have hcz8_1 : w3.cell? ⟨gb144,1,none⟩ = some (.int .i64 a0_1):=(blk_cell BK144.out 1).trans rfl);(have hfz8_0:=blk_frozen BK144.out 0);(have hfz8_1:=blk_frozen BK144.out 1);(go_wp2);(go_meet)
     case rel => exact ⟨_,(true),(by first|rfl|(simp;done)|(simp [*];done)),H',⟨by first|omega|exact Nat.le_refl _⟩,⟨by (with_reducible repeat (first|refine blk_drewN ?_ _|refine blk_drew ?_|refine blk_alloc ?_ _));exact BK144.out⟩,⟨by repeat (first|(with_reducible first|exact HB.out|apply below_alloc|apply pw_below_drewN|apply below_drew1|refine below_set ?_ GE144.out)|exact HB.out)⟩⟩
    ·(rw [if_neg c7] at H);(have c7b0 : decide (a0_1 < 0) = false:=decide_eq_false c7);(clear c7);(have H':=Aside0.mk H);(clear H);(have hcz9_0 : w3.cell? ⟨gb144,0,none⟩ = some (.slice A0_0 l0_0.length c0_0):=(blk_cell BK144.out 0).trans rfl);(have hcz9_1 : w3.cell? ⟨gb144,1,none⟩ = some (.int .i64 a0_1):=(blk_cell BK144.out 1).trans rfl);(have hfz9_0:=blk_frozen BK144.out 0);(have hfz9_1:=blk_frozen BK144.out 1);(go_wp2);(go_meet)
     case rel => exact ⟨_,(decide (a0_1 > 999999)),(by first|rfl|(simp;done)|(simp [*];done)),H',⟨by first|omega|exact Nat.le_refl _⟩,⟨by (with_reducible repeat (first|refine blk_drewN ?_ _|refine blk_drew ?_|refine blk_alloc ?_ _));exact BK144.out⟩,⟨by repeat (first|(with_reducible first|exact HB.out|apply below_alloc|apply pw_below_drewN|apply below_drew1|refine below_set ?_ GE144.out)|exact HB.out)⟩⟩
 case rest =>
  (clear HC2);(try clear c1);(try clear p2);(try clear c5);(try clear c5b0);(try clear c5b1);(try clear c6);(try clear c6b0);(try clear c6b1);(try clear c7);(try clear c7b0);(try clear hcz4_0);(try clear hcz4_1);(try clear hcz8_0);(try clear hcz8_1);(try clear hcz9_0);(try clear hcz9_1);(try clear hfz4_0);(try clear hfz4_1);(try clear hfz8_0);(try clear hfz8_1);(try clear hfz9_0);(try clear hfz9_1);(obtain ⟨kq,x24_1,rfl,HA,HJ1,BK144,HB⟩:=hcut)
  cases kq with
 |zero => exact absurd HA.out (by simp [marlinspikeref08_Right.j0])
 |succ kj1 =>
   (have H:=HA.out);(clear HA);(simp only [marlinspikeref08_Right.j0] at H);(by_cases c10 : x24_1 = true);·(subst c10);(have H1 : (some false) = some r:=by rw [if_pos rfl] at H;exact H);(clear H);(have H:=H1);(clear H1);(obtain rfl:=Option.some.inj H);(go_wp2);(go_ret);(exact ⟨by first|rfl|(simp [errW_none,errW_some] <;> rfl)|(simp [*,errW_none,errW_some] <;> rfl),by repeat (first|(with_reducible first|exact HB.out|apply below_alloc|apply pw_below_drewN|apply below_drew1|refine below_set ?_ GE144.out)|exact HB.out)⟩)
   ·(replace c10:=Bool.eq_false_iff.mpr c10);(subst c10);(have H1 : (marlinspikeref08_Right.l0 kj1 (l0_0.length : Int) 0 l0_0 a0_1) = some r:=by rw [if_neg (show ¬ (false = true) by decide)] at H;exact H);(clear H);(have H:=H1);(clear H1);(have H':=Aside0.mk H);(clear H);(go_wp2);(go_loopg [4] kj1 (fun kq v4 w' => ∃ (x4_2 : Int),v4 = .int .i64 x4_2∧Aside0 (marlinspikeref08_Right.l0 kq (l0_0.length : Int) x4_2 l0_0 a0_1 = some r)∧Aside0 (kq ≤ kj1)∧Aside0 (w'.heap[gb144]? = some (.cells #[(.slice A0_0 l0_0.length c0_0),.int .i64 a0_1] 24 (0,0)))∧Aside0 (Below w.heap.size w w')))
    case atStart => exact ⟨(0),(by first|rfl|(simp;done)|(simp [*];done)),H',⟨Nat.le_refl _⟩,⟨by (with_reducible repeat (first|refine blk_drewN ?_ _|refine blk_drew ?_|refine blk_alloc ?_ _));exact BK144.out⟩,⟨by repeat (first|(with_reducible first|exact HB.out|apply below_alloc|apply pw_below_drewN|apply below_drew1|refine below_set ?_ GE144.out)|exact HB.out)⟩⟩
    case round =>
     (clear H');(try clear c1);(try clear p2);(try clear c5);(try clear c5b0);(try clear c5b1);(try clear c6);(try clear c6b0);(try clear c6b1);(try clear c7);(try clear c7b0);(try clear c10);(try clear hcz4_0);(try clear hcz4_1);(try clear hcz8_0);(try clear hcz8_1);(try clear hcz9_0);(try clear hcz9_1);(try clear hfz4_0);(try clear hfz4_1);(try clear hfz8_0);(try clear hfz8_1);(try clear hfz9_0);(try clear hfz9_1);(try clear p2);(obtain ⟨x4_2,rfl,HA,HK2,BK144,HB⟩:=hrel)
     cases gk with
    |zero => exact absurd HA.out (by simp [marlinspikeref08_Right.l0])
    |succ k2 =>
      (have H:=HA.out);(clear HA);(simp only [marlinspikeref08_Right.l0] at H);(by_cases c11 : x4_2 < (l0_0.length : Int))
      ·(rw [if_pos c11] at H);(have c11b0 : decide (x4_2 < (l0_0.length : Int)) = true:=decide_eq_true c11);(clear c11);(by_cases c12 : 0 ≤ x4_2)
       ·(rw [if_pos c12] at H);(have c12b0 : decide (0 ≤ x4_2) = true:=decide_eq_true c12);(clear c12);(by_cases c13 : x4_2 < (l0_0.length : Int))
        ·(rw [if_pos c13] at H);(have c13b0 : decide (x4_2 < (l0_0.length : Int)) = true:=decide_eq_true c13);(clear c13);(by_cases c14 : (rd l0_0 x4_2) < 0)
         ·(rw [if_pos c14] at H);(have c14b0 : decide ((rd l0_0 x4_2) < 0) = true:=decide_eq_true c14);(clear c14);(obtain rfl:=Option.some.inj H);(have hcz15_0 : wr.cell? ⟨gb144,0,none⟩ = some (.slice A0_0 l0_0.length c0_0):=(blk_cell BK144.out 0).trans rfl);(have hcz15_1 : wr.cell? ⟨gb144,1,none⟩ = some (.int .i64 a0_1):=(blk_cell BK144.out 1).trans rfl);(have hfz15_0:=blk_frozen BK144.out 0);(have hfz15_1:=blk_frozen BK144.out 1);(have p145 : 0 ≤ (x4_2 : Int):=of_decide_eq_true (by first|(with_reducible assumption)|assumption));(have q145 : x4_2 < (l0_0.length : Int):=of_decide_eq_true (by first|(with_reducible assumption)|assumption));(obtain ⟨ad145,e145,hx145_0⟩:=Kd.at_int HR0_0.out x4_2 p145 q145)
          cases e145
          (replace hx145_0:=(HB.out.cell (World.block_lt_of_cell? w _ hx145_0)).trans hx145_0);(replace p145:=eq_true p145);(replace q145:=eq_true q145);(go_wp2);(go_ret);(exact ⟨by first|rfl|(simp [errW_none,errW_some] <;> rfl)|(simp [*,errW_none,errW_some] <;> rfl),by repeat (first|(with_reducible first|exact HB.out|apply below_alloc|apply pw_below_drewN|apply below_drew1|refine below_set ?_ GE144.out)|exact HB.out)⟩)
         ·(rw [if_neg c14] at H);(have c14b0 : decide ((rd l0_0 x4_2) < 0) = false:=decide_eq_false c14);(clear c14);(by_cases c16 : (rd l0_0 x4_2) > 999999)
          ·(rw [if_pos c16] at H);(have c16b0 : decide (999999 < (rd l0_0 x4_2)) = true:=decide_eq_true c16);(clear c16);(obtain rfl:=Option.some.inj H);(have hcz17_0 : wr.cell? ⟨gb144,0,none⟩ = some (.slice A0_0 l0_0.length c0_0):=(blk_cell BK144.out 0).trans rfl);(have hcz17_1 : wr.cell? ⟨gb144,1,none⟩ = some (.int .i64 a0_1):=(blk_cell BK144.out 1).trans rfl);(have hfz17_0:=blk_frozen BK144.out 0);(have hfz17_1:=blk_frozen BK144.out 1);(have p145 : 0 ≤ (x4_2 : Int):=of_decide_eq_true (by first|(with_reducible assumption)|assumption));(have q145 : x4_2 < (l0_0.length : Int):=of_decide_eq_true (by first|(with_reducible assumption)|assumption));(obtain ⟨ad145,e145,hx145_0⟩:=Kd.at_int HR0_0.out x4_2 p145 q145)
           cases e145
           (replace hx145_0:=(HB.out.cell (World.block_lt_of_cell? w _ hx145_0)).trans hx145_0);(replace p145:=eq_true p145);(replace q145:=eq_true q145);(go_wp2);(go_ret);(exact ⟨by first|rfl|(simp [errW_none,errW_some] <;> rfl)|(simp [*,errW_none,errW_some] <;> rfl),by repeat (first|(with_reducible first|exact HB.out|apply below_alloc|apply pw_below_drewN|apply below_drew1|refine below_set ?_ GE144.out)|exact HB.out)⟩)
          ·(rw [if_neg c16] at H);(have c16b0 : decide (999999 < (rd l0_0 x4_2)) = false:=decide_eq_false c16);(clear c16);(by_cases c18 : x4_2 > 0)
           ·(rw [if_pos c18] at H);(have c18b0 : decide (0 < x4_2) = true:=decide_eq_true c18);(clear c18);(obtain ⟨ji19,hji19⟩ : ∃ j_ : Int,(wrap64 (x4_2 - 1)) = j_:=⟨_,rfl⟩);(replace H : (if 0 ≤ (ji19) then (if (ji19) < (l0_0.length : Int) then (if (rd l0_0 x4_2) ≤ (rd l0_0 (ji19)) then (some false) else (marlinspikeref08_Right.l0 k2 (l0_0.length : Int) (wrap64 (x4_2 + 1)) l0_0 a0_1)) else (none)) else (none)) = some r:=by first|(rw [hji19] at H;exact H)|(simp only [hji19] at H ⊢;exact H));(have hji19w : (IntKind.i64.wrap (x4_2 - 1)) = ji19:=(i64_w _).trans hji19);(by_cases c20 : 0 ≤ (ji19))
            ·(rw [if_pos c20] at H);(have c20b0 : decide (0 ≤ (ji19)) = true:=decide_eq_true c20);(clear c20);(by_cases c21 : (ji19) < (l0_0.length : Int))
             ·(rw [if_pos c21] at H);(have c21b0 : decide ((ji19) < (l0_0.length : Int)) = true:=decide_eq_true c21);(clear c21);(by_cases c22 : (rd l0_0 x4_2) ≤ (rd l0_0 (ji19)))
              ·(rw [if_pos c22] at H);(have c22b0 : decide ((rd l0_0 x4_2) ≤ (rd l0_0 (ji19))) = true:=decide_eq_true c22);(clear c22);(obtain rfl:=Option.some.inj H);(have hcz23_0 : wr.cell? ⟨gb144,0,none⟩ = some (.slice A0_0 l0_0.length c0_0):=(blk_cell BK144.out 0).trans rfl);(have hcz23_1 : wr.cell? ⟨gb144,1,none⟩ = some (.int .i64 a0_1):=(blk_cell BK144.out 1).trans rfl);(have hfz23_0:=blk_frozen BK144.out 0);(have hfz23_1:=blk_frozen BK144.out 1);(have p145 : 0 ≤ (x4_2 : Int):=of_decide_eq_true (by first|(with_reducible assumption)|assumption));(have q145 : x4_2 < (l0_0.length : Int):=of_decide_eq_true (by first|(with_reducible assumption)|assumption));(obtain ⟨ad145,e145,hx145_0⟩:=Kd.at_int HR0_0.out x4_2 p145 q145)
               cases e145
               (replace hx145_0:=(HB.out.cell (World.block_lt_of_cell? w _ hx145_0)).trans hx145_0);(replace p145:=eq_true p145);(replace q145:=eq_true q145);(have p146 : 0 ≤ ((ji19) : Int):=of_decide_eq_true (by first|(with_reducible assumption)|assumption));(have q146 : (ji19) < (l0_0.length : Int):=of_decide_eq_true (by first|(with_reducible assumption)|assumption));(obtain ⟨ad146,e146,hx146_0⟩:=Kd.at_int HR0_0.out (ji19) p146 q146);(obtain rfl : ad145 = ad146:=(by injection e146));(replace hx146_0:=(HB.out.cell (World.block_lt_of_cell? w _ hx146_0)).trans hx146_0);(replace p146:=eq_true p146);(replace q146:=eq_true q146);(go_wp2);(go_ret);(exact ⟨by first|rfl|(simp [errW_none,errW_some] <;> rfl)|(simp only [← hji19];first|rfl|(simp [errW_none,errW_some] <;> rfl))|(simp [*,errW_none,errW_some] <;> rfl),by repeat (first|(with_reducible first|exact HB.out|apply below_alloc|apply pw_below_drewN|apply below_drew1|refine below_set ?_ GE144.out)|exact HB.out)⟩)
              ·(rw [if_neg c22] at H);(have c22b0 : decide ((rd l0_0 x4_2) ≤ (rd l0_0 (ji19))) = false:=decide_eq_false c22);(clear c22);(have H':=Aside0.mk H);(clear H);(have hcz24_0 : wr.cell? ⟨gb144,0,none⟩ = some (.slice A0_0 l0_0.length c0_0):=(blk_cell BK144.out 0).trans rfl);(have hcz24_1 : wr.cell? ⟨gb144,1,none⟩ = some (.int .i64 a0_1):=(blk_cell BK144.out 1).trans rfl);(have hfz24_0:=blk_frozen BK144.out 0);(have hfz24_1:=blk_frozen BK144.out 1);(have p145 : 0 ≤ (x4_2 : Int):=of_decide_eq_true (by first|(with_reducible assumption)|assumption));(have q145 : x4_2 < (l0_0.length : Int):=of_decide_eq_true (by first|(with_reducible assumption)|assumption));(obtain ⟨ad145,e145,hx145_0⟩:=Kd.at_int HR0_0.out x4_2 p145 q145)
               cases e145
               (replace hx145_0:=(HB.out.cell (World.block_lt_of_cell? w _ hx145_0)).trans hx145_0);(replace p145:=eq_true p145);(replace q145:=eq_true q145);(have p146 : 0 ≤ ((ji19) : Int):=of_decide_eq_true (by first|(with_reducible assumption)|assumption));(have q146 : (ji19) < (l0_0.length : Int):=of_decide_eq_true (by first|(with_reducible assumption)|assumption));(obtain ⟨ad146,e146,hx146_0⟩:=Kd.at_int HR0_0.out (ji19) p146 q146);(obtain rfl : ad145 = ad146:=(by injection e146));(replace hx146_0:=(HB.out.cell (World.block_lt_of_cell? w _ hx146_0)).trans hx146_0);(replace p146:=eq_true p146);(replace q146:=eq_true q146);(go_wp2);(go_roundg k2)
               case measure => have:=HJ1.out;have:=HK2.out;omega
               case rel => exact ⟨(wrap64 (x4_2 + 1)),(by first|rfl|(simp;done)|(simp [*];done)),H',⟨by have:=HJ1.out;have:=HK2.out;omega⟩,⟨by (with_reducible repeat (first|refine blk_drewN ?_ _|refine blk_drew ?_|refine blk_alloc ?_ _));exact BK144.out⟩,⟨by repeat (first|(with_reducible first|exact HB.out|apply below_alloc|apply pw_below_drewN|apply below_drew1|refine below_set ?_ GE144.out)|exact HB.out)⟩⟩
             ·(rw [if_neg c21] at H);(exact absurd H (by simp))
            ·(rw [if_neg c20] at H);(exact absurd H (by simp))
           ·(rw [if_neg c18] at H);(have c18b0 : decide (0 < x4_2) = false:=decide_eq_false c18);(clear c18);(have H':=Aside0.mk H);(clear H);(have hcz25_0 : wr.cell? ⟨gb144,0,none⟩ = some (.slice A0_0 l0_0.length c0_0):=(blk_cell BK144.out 0).trans rfl);(have hcz25_1 : wr.cell? ⟨gb144,1,none⟩ = some (.int .i64 a0_1):=(blk_cell BK144.out 1).trans rfl);(have hfz25_0:=blk_frozen BK144.out 0);(have hfz25_1:=blk_frozen BK144.out 1);(have p145 : 0 ≤ (x4_2 : Int):=of_decide_eq_true (by first|(with_reducible assumption)|assumption));(have q145 : x4_2 < (l0_0.length : Int):=of_decide_eq_true (by first|(with_reducible assumption)|assumption));(obtain ⟨ad145,e145,hx145_0⟩:=Kd.at_int HR0_0.out x4_2 p145 q145)
            cases e145
            (replace hx145_0:=(HB.out.cell (World.block_lt_of_cell? w _ hx145_0)).trans hx145_0);(replace p145:=eq_true p145);(replace q145:=eq_true q145);(go_wp2);(go_roundg k2)
            case measure => have:=HJ1.out;have:=HK2.out;omega
            case rel => exact ⟨(wrap64 (x4_2 + 1)),(by first|rfl|(simp;done)|(simp [*];done)),H',⟨by have:=HJ1.out;have:=HK2.out;omega⟩,⟨by (with_reducible repeat (first|refine blk_drewN ?_ _|refine blk_drew ?_|refine blk_alloc ?_ _));exact BK144.out⟩,⟨by repeat (first|(with_reducible first|exact HB.out|apply below_alloc|apply pw_below_drewN|apply below_drew1|refine below_set ?_ GE144.out)|exact HB.out)⟩⟩
        ·(rw [if_neg c13] at H);(exact absurd H (by simp))
       ·(rw [if_neg c12] at H);(exact absurd H (by simp))
      ·(rw [if_neg c11] at H);(have c11b0 : decide (x4_2 < (l0_0.length : Int)) = false:=decide_eq_false c11);(clear c11);(obtain rfl:=Option.some.inj H);(go_wp2);(go_ret);(exact ⟨by first|rfl|(simp [errW_none,errW_some] <;> rfl)|(simp [*,errW_none,errW_some] <;> rfl),by repeat (first|(with_reducible first|exact HB.out|apply below_alloc|apply pw_below_drewN|apply below_drew1|refine below_set ?_ GE144.out)|exact HB.out)⟩)
end Go.Proofs.YtnfpchpnephheaaDoor.PA
end
section
namespace Go.Proofs.YtnfpchpnephheaaDoor.PA
open Go.RowKit Go.Proofs.YtnfpchpnephheaaDoor.Lib Go.Proofs.YtnfpchpnephheaaDoorW.PrintWords Go.Proofs.YtnfpchpnephheaaDoorW.PrintLast Go.Proofs.YtnfpchpnephheaaDoorW.PrintMore
attribute [local go_sem] max2_int min2_int max_two min_two max_three min_three max_four min_four   
set_option linter.unusedVariables false
set_option linter.unusedSimpArgs false
end Go.Proofs.YtnfpchpnephheaaDoor.PA
end
section
namespace Go.Proofs.YtnfpchpnephheaaDoor.PA
open Go.RowKit Go.Proofs.YtnfpchpnephheaaDoor.Lib Go.Proofs.YtnfpchpnephheaaDoorW.PrintWords Go.Proofs.YtnfpchpnephheaaDoorW.PrintLast Go.Proofs.YtnfpchpnephheaaDoorW.PrintMore
attribute [local go_sem] max2_int min2_int max_two min_two max_three min_three max_four min_four   
set_option linter.unusedVariables false
set_option linter.unusedSimpArgs false
end Go.Proofs.YtnfpchpnephheaaDoor.PA
end
section
namespace Go.Proofs.YtnfpchpnephheaaDoor.Hn
open Go.Proofs.YtnfpchpnephheaaDoor.Num
set_option linter.unusedVariables false
set_option linter.unusedSimpArgs false
end Go.Proofs.YtnfpchpnephheaaDoor.Hn
end
section
namespace Go.Proofs.YtnfpchpnephheaaDoor.Ar
open Go.RowKit Go.Proofs.YtnfpchpnephheaaDoor.Lib Go.Proofs.YtnfpchpnephheaaDoor.PA Go.Proofs.YtnfpchpnephheaaDoor.Txt Go.Proofs.YtnfpchpnephheaaDoor.Num Go.Proofs.YtnfpchpnephheaaDoor.Hn Go.Proofs.YtnfpchpnephheaaDoorW.PrintWords Go.Proofs.YtnfpchpnephheaaDoorW.PrintLast Go.Proofs.YtnfpchpnephheaaDoorW.PrintMore
set_option linter.unusedVariables false
set_option linter.unusedSimpArgs false
theorem Ev.shift {α : Type} {g : Nat → Option α} {r : α} (h : Ev (fun k => g (k + 1)) r) : Ev g r := by
  obtain ⟨K, hK⟩ := h
  refine ⟨K + 1, fun k hk => ?_⟩
  obtain ⟨m, rfl⟩ : ∃ m, k = m + 1 := ⟨k - 1, by omega⟩
  exact hK m (by omega)
def incr : Int → List Int → Bool
  | _, [] => true
  | last, n :: l => decide (last < n) && decide (n ≤ 999999) && incr n l
def rightB (l : List Int) (lim : Int) : Bool := decide (1 ≤ l.length) && decide (l.length ≤ 256) && decide (0 ≤ lim) && decide (lim ≤ 999999) && incr (-1) l
theorem rd_get (l : List Int) (i : Nat) (h : i < l.length) : rd l (i : Int) = l[i] := by
  unfold rd
  rw [Int.toNat_natCast, List.getD_eq_getElem?_getD, List.getElem?_eq_getElem h]; rfl
theorem right_l0 (l : List Int) (hl : l.length ≤ 1000) : ∀ (d i : Nat) (last : Int), l.length - i = d → i ≤ l.length → Ev (fun k => array_Right.l0 k last l (l.length : Int) (i : Int)) (incr last (l.drop i)) := by
  intro d
  induction d with
  | zero =>
    intro i last hd hi
    refine Ev.shift ⟨0, fun k hk => ?_⟩
    simp only [array_Right.l0]
    rw [if_neg (by omega), List.drop_eq_nil_of_le (by omega)]; rfl
  | succ d ih =>
    intro i last hd hi
    have hlt : i < l.length := by omega
    rw [List.drop_eq_getElem_cons hlt]
    by_cases c1 : l[i] ≤ last
    · refine Ev.shift ⟨0, fun k hk => ?_⟩
      simp only [array_Right.l0]
      rw [if_pos (by omega), if_pos (by omega), if_pos (by omega), rd_get l i hlt, if_pos c1]
      simp only [incr]
      rw [decide_eq_false (show ¬ last < l[i] by omega)]; rfl
    · by_cases c2 : l[i] > 999999
      · refine Ev.shift ⟨0, fun k hk => ?_⟩
        simp only [array_Right.l0]
        rw [if_pos (by omega), if_pos (by omega), if_pos (by omega), rd_get l i hlt, if_neg c1, if_pos c2]
        simp only [incr]
        rw [decide_eq_false (show ¬ l[i] ≤ 999999 by omega)]; simp
      · obtain ⟨K, hK⟩ := ih (i + 1) l[i] (by omega) (by omega)
        dsimp only at hK
        refine Ev.shift ⟨K, fun k hk => ?_⟩
        simp only [array_Right.l0]
        rw [if_pos (by omega), if_pos (by omega), if_pos (by omega), rd_get l i hlt, if_neg c1, if_neg c2, wrap_nat (by omega)]
        simp only [incr]
        rw [decide_eq_true (show last < l[i] by omega), decide_eq_true (show l[i] ≤ 999999 by omega)]
        exact hK k hk
theorem right_ev (l : List Int) (lim : Int) : Ev (fun k => array_Right.f k l lim) (rightB l lim) := by
  have hj : ∀ b : Bool, (b = false → l.length ≤ 256) → Ev (fun k => array_Right.j0 k b l lim) (!b && incr (-1) l) := by
    intro b hb
    cases b with
    | true =>
      refine Ev.shift ⟨0, fun k hk => ?_⟩
      simp only [array_Right.j0]
      rw [if_pos (by first | rfl | trivial)]; rfl
    | false =>
      obtain ⟨K, hK⟩ := right_l0 l (by have := hb rfl; omega) _ 0 (-1) rfl (by omega)
      refine Ev.shift ⟨K, fun k hk => ?_⟩
      simp only [array_Right.j0]
      rw [if_neg (by decide)]
      exact hK k hk
  by_cases c1 : l.length = 0
  · obtain ⟨K, hK⟩ := hj true (fun h => by cases h)
    refine ⟨K, fun k hk => ?_⟩
    simp only [array_Right.f]
    rw [if_pos (by omega)]
    unfold rightB
    rw [decide_eq_false (show ¬ 1 ≤ l.length by omega)]
    exact hK k hk
  · by_cases c2 : l.length > 256
    · obtain ⟨K, hK⟩ := hj true (fun h => by cases h)
      refine ⟨K, fun k hk => ?_⟩
      simp only [array_Right.f]
      rw [if_neg (by omega), if_pos (by omega)]
      unfold rightB
      rw [decide_eq_false (show ¬ l.length ≤ 256 by omega)]
      have := hK k hk
      simpa using this
    · by_cases c3 : lim < 0
      · obtain ⟨K, hK⟩ := hj true (fun h => by cases h)
        refine ⟨K, fun k hk => ?_⟩
        simp only [array_Right.f]
        rw [if_neg (by omega), if_neg (by omega), if_pos c3]
        unfold rightB
        rw [decide_eq_false (show ¬ 0 ≤ lim by omega)]
        have := hK k hk
        simpa using this
      · obtain ⟨K, hK⟩ := hj (decide (lim > 999999)) (fun _ => by omega)
        refine ⟨K, fun k hk => ?_⟩
        simp only [array_Right.f]
        rw [if_neg (by omega), if_neg (by omega), if_neg c3]
        have e : rightB l lim = (!(decide (lim > 999999)) && incr (-1) l) := by
          unfold rightB
          rw [decide_eq_true (show 1 ≤ l.length by omega), decide_eq_true (show l.length ≤ 256 by omega), decide_eq_true (show 0 ≤ lim by omega)]
          by_cases c4 : lim > 999999
          · rw [decide_eq_true c4, decide_eq_false (show ¬ lim ≤ 999999 by omega)]; rfl
          · rw [decide_eq_false c4, decide_eq_true (show lim ≤ 999999 by omega)]; rfl
        rw [e]
        exact hK k hk
def lastOf (l : List Int) (i : Nat) : Int := if i = 0 then -1 else l.getD (i - 1) 0
theorem rright_l0 (l : List Int) (lim : Int) (hl : l.length ≤ 1000) : ∀ (d i : Nat), l.length - i = d → i ≤ l.length → (i ≠ 0 → 0 ≤ lastOf l i) → Ev (fun k => marlinspikeref08_Right.l0 k (l.length : Int) (i : Int) l lim) (incr (lastOf l i) (l.drop i)) := by
  intro d
  induction d with
  | zero =>
    intro i hd hi h0
    refine Ev.shift ⟨0, fun k hk => ?_⟩
    simp only [marlinspikeref08_Right.l0]
    rw [if_neg (by omega), List.drop_eq_nil_of_le (by omega)]; rfl
  | succ d ih =>
    intro i hd hi h0
    have hlt : i < l.length := by omega
    have hnext : lastOf l (i + 1) = l[i] := by
      unfold lastOf
      rw [if_neg (by omega), Nat.add_sub_cancel, List.getD_eq_getElem?_getD, List.getElem?_eq_getElem hlt]; rfl
    rw [List.drop_eq_getElem_cons hlt]
    simp only [incr]
    by_cases c1 : l[i] < 0
    · refine Ev.shift ⟨0, fun k hk => ?_⟩
      simp only [marlinspikeref08_Right.l0]
      rw [if_pos (by omega), if_pos (by omega), if_pos (by omega), rd_get l i hlt, if_pos c1]
      have : ¬ lastOf l i < l[i] := by
        by_cases hi0 : i = 0
        · unfold lastOf; rw [if_pos hi0]; omega
        · have := h0 hi0; omega
      rw [decide_eq_false this]; rfl
    · by_cases c2 : l[i] > 999999
      · refine Ev.shift ⟨0, fun k hk => ?_⟩
        simp only [marlinspikeref08_Right.l0]
        rw [if_pos (by omega), if_pos (by omega), if_pos (by omega), rd_get l i hlt, if_neg c1, if_pos c2, decide_eq_false (show ¬ l[i] ≤ 999999 by omega)]; simp
      · obtain ⟨K, hK⟩ := ih (i + 1) (by omega) (by omega) (fun _ => by rw [hnext]; omega)
        rw [hnext] at hK
        dsimp only at hK
        by_cases hi0 : i = 0
        · refine Ev.shift ⟨K, fun k hk => ?_⟩
          simp only [marlinspikeref08_Right.l0]
          rw [if_pos (by omega), if_pos (by omega), if_pos (by omega), rd_get l i hlt, if_neg c1, if_neg c2, if_neg (by omega), wrap_nat (by omega)]
          have e : lastOf l i = -1 := by unfold lastOf; rw [if_pos hi0]
          rw [e, decide_eq_true (show (-1 : Int) < l[i] by omega), decide_eq_true (show l[i] ≤ 999999 by omega)]
          exact hK k hk
        · have hw : wrap64 ((i : Int) - 1) = ((i - 1 : Nat) : Int) := by unfold wrap64; omega
          have e : lastOf l i = l[i - 1] := by
            unfold lastOf
            rw [if_neg hi0, List.getD_eq_getElem?_getD, List.getElem?_eq_getElem (by omega)]; rfl
          by_cases c3 : l[i] ≤ l[i - 1]
          · refine Ev.shift ⟨0, fun k hk => ?_⟩
            simp only [marlinspikeref08_Right.l0]
            rw [if_pos (by omega), if_pos (by omega), if_pos (by omega), rd_get l i hlt, if_neg c1, if_neg c2, if_pos (by omega), hw, if_pos (by omega), if_pos (by omega), rd_get l (i - 1) (by omega), if_pos c3, e, decide_eq_false (show ¬ l[i - 1] < l[i] by omega)]; rfl
          · refine Ev.shift ⟨K, fun k hk => ?_⟩
            simp only [marlinspikeref08_Right.l0]
            rw [if_pos (by omega), if_pos (by omega), if_pos (by omega), rd_get l i hlt, if_neg c1, if_neg c2, if_pos (by omega), hw, if_pos (by omega), if_pos (by omega), rd_get l (i - 1) (by omega), if_neg c3, wrap_nat (by omega), e, decide_eq_true (show l[i - 1] < l[i] by omega), decide_eq_true (show l[i] ≤ 999999 by omega)]
            exact hK k hk
theorem rright_ev (l : List Int) (lim : Int) : Ev (fun k => marlinspikeref08_Right.f k l lim) (rightB l lim) := by
  have hj : ∀ b : Bool, (b = false → l.length ≤ 256) → Ev (fun k => marlinspikeref08_Right.j0 k (l.length : Int) b l lim) (!b && incr (-1) l) := by
    intro b hb
    cases b with
    | true =>
      refine Ev.shift ⟨0, fun k hk => ?_⟩
      simp only [marlinspikeref08_Right.j0]
      rw [if_pos (by first | rfl | trivial)]; rfl
    | false =>
      obtain ⟨K, hK⟩ := rright_l0 l lim (by have := hb rfl; omega) _ 0 rfl (by omega) (fun h => absurd rfl h)
      refine Ev.shift ⟨K, fun k hk => ?_⟩
      simp only [marlinspikeref08_Right.j0]
      rw [if_neg (by decide)]
      exact hK k hk
  by_cases c1 : l.length = 0
  · obtain ⟨K, hK⟩ := hj true (fun h => by cases h)
    refine ⟨K, fun k hk => ?_⟩
    simp only [marlinspikeref08_Right.f]
    rw [if_pos (by omega)]
    unfold rightB
    rw [decide_eq_false (show ¬ 1 ≤ l.length by omega)]
    exact hK k hk
  · by_cases c2 : l.length > 256
    · obtain ⟨K, hK⟩ := hj true (fun h => by cases h)
      refine ⟨K, fun k hk => ?_⟩
      simp only [marlinspikeref08_Right.f]
      rw [if_neg (by omega), if_pos (by omega)]
      unfold rightB
      rw [decide_eq_false (show ¬ l.length ≤ 256 by omega)]
      have := hK k hk
      simpa using this
    · by_cases c3 : lim < 0
      · obtain ⟨K, hK⟩ := hj true (fun h => by cases h)
        refine ⟨K, fun k hk => ?_⟩
        simp only [marlinspikeref08_Right.f]
        rw [if_neg (by omega), if_neg (by omega), if_pos c3]
        unfold rightB
        rw [decide_eq_false (show ¬ 0 ≤ lim by omega)]
        have := hK k hk
        simpa using this
      · obtain ⟨K, hK⟩ := hj (decide (lim > 999999)) (fun _ => by omega)
        refine ⟨K, fun k hk => ?_⟩
        simp only [marlinspikeref08_Right.f]
        rw [if_neg (by omega), if_neg (by omega), if_neg c3]
        have e : rightB l lim = (!(decide (lim > 999999)) && incr (-1) l) := by
          unfold rightB
          rw [decide_eq_true (show 1 ≤ l.length by omega), decide_eq_true (show l.length ≤ 256 by omega), decide_eq_true (show 0 ≤ lim by omega)]
          by_cases c4 : lim > 999999
          · rw [decide_eq_true c4, decide_eq_false (show ¬ lim ≤ 999999 by omega)]; rfl
          · rw [decide_eq_false c4, decide_eq_true (show lim ≤ 999999 by omega)]; rfl
        rw [e]
        exact hK k hk
end Go.Proofs.YtnfpchpnephheaaDoor.Ar
end
section
namespace Go.Proofs.YtnfpchpnephheaaDoor.Ar
open Go.RowKit Go.Proofs.YtnfpchpnephheaaDoor.Lib Go.Proofs.YtnfpchpnephheaaDoor.PA Go.Proofs.YtnfpchpnephheaaDoor.Txt Go.Proofs.YtnfpchpnephheaaDoor.Num Go.Proofs.YtnfpchpnephheaaDoor.Hn Go.Proofs.YtnfpchpnephheaaDoorW.PrintWords Go.Proofs.YtnfpchpnephheaaDoorW.PrintLast Go.Proofs.YtnfpchpnephheaaDoorW.PrintMore
set_option linter.unusedVariables false
set_option linter.unusedSimpArgs false
def Good (l : List Int) : Prop := (∀ x ∈ l, 0 ≤ x ∧ x ≤ 999999) ∧ l.Pairwise (· < ·)
theorem Good.drop {l : List Int} (h : Good l) (n : Nat) : Good (l.drop n) := ⟨fun x hx => h.1 x (List.mem_of_mem_drop hx), h.2.sublist (List.drop_sublist n l)⟩
end Go.Proofs.YtnfpchpnephheaaDoor.Ar
end
section
namespace Go.Proofs.YtnfpchpnephheaaDoor.Ar
open Go.RowKit Go.Proofs.YtnfpchpnephheaaDoor.Lib Go.Proofs.YtnfpchpnephheaaDoor.PA Go.Proofs.YtnfpchpnephheaaDoor.Txt Go.Proofs.YtnfpchpnephheaaDoor.Num Go.Proofs.YtnfpchpnephheaaDoor.Hn Go.Proofs.YtnfpchpnephheaaDoorW.PrintWords Go.Proofs.YtnfpchpnephheaaDoorW.PrintLast Go.Proofs.YtnfpchpnephheaaDoorW.PrintMore
set_option linter.unusedVariables false
set_option linter.unusedSimpArgs false
end Go.Proofs.YtnfpchpnephheaaDoor.Ar
end
section
namespace Go.Proofs.YtnfpchpnephheaaDoor.PA
open Go.RowKit Go.Sort Go.Proofs.YtnfpchpnephheaaDoor.Lib Go.Proofs.YtnfpchpnephheaaDoor.Mp Go.Proofs.YtnfpchpnephheaaDoorW.PrintWords Go.Proofs.YtnfpchpnephheaaDoorW.PrintLast Go.Proofs.YtnfpchpnephheaaDoorW.PrintMore
set_option linter.unusedVariables false
set_option linter.unusedSimpArgs false
attribute [local go_sem high] eqA36
def sortL (zs : List Int) : List Int := zs.mergeSort fun x y => decide (x ≤ y)
theorem own_ne_nil {w : World} {base : Nat} {u : Value} {zs : List Int} (h : w.ownsRow base 3 1 u zs.length (zs.map (Value.int .i64))) (hz : zs ≠ []) : u ≠ .slice none 0 0 := by
  rintro rfl
  rcases h.2 with ⟨_, h0⟩ | ⟨g, cap, cur, e, _⟩
  · exact hz (List.length_eq_zero_iff.1 h0)
  · cases e
theorem own_grow {w : World} {base : Nat} {u : Value} {n : Nat} {xs : List Value} (h : w.ownsRow base 3 1 u n xs) (os : Array Obj) : (grow w os).ownsRow base 3 1 u n xs := by
  rcases h with ⟨h1, h2⟩
  refine ⟨h1, ?_⟩
  rcases h2 with h2 | ⟨g, cap, cur, e, hb, hg, hr⟩
  · exact .inl h2
  · refine .inr ⟨g, cap, cur, e, hb, ?_, hr⟩
    have hlt : g < w.heap.size := (Array.getElem?_eq_some_iff.1 hg).1
    show (w.heap ++ os)[g]? = _
    rw [Array.getElem?_append, if_pos hlt, hg]
theorem below_grow' {B : Nat} {w0 w : World} (h : Below B w0 w) (hB : B ≤ w.heap.size) (os : Array Obj) : Below B w0 (grow w os) :=
  ⟨h.os, h.tape, h.output, by show w0.heap.size ≤ (w.heap ++ os).size; rw [Array.size_append]; have := h.size; omega, fun k hk => by
    rw [← h.block k hk]
    show (w.heap ++ os)[k]? = _
    rw [Array.getElem?_append, if_pos (by omega)]⟩
theorem sort_own {w0 w : World} {ok : Nat → Prop} {u : Value} {zs : List Int} (HO : Kd.R (Kd.int .i64) 3 w w0.heap.size ok u zs) (HB : Below w0.heap.size w0 w) (hz : zs.length < 4611686018427387904) :
    Calls Tryd.prog 27 #[u] w fun e w' => e = .returned (.tuple #[]) ∧ Kd.R (Kd.int .i64) 3 w' w0.heap.size (fun _ => True) u (sortL zs) ∧ Below w0.heap.size w0 w' ∧ w.heap.size ≤ w'.heap.size ∧ ∀ i, i < w.heap.size → some i ≠ u.ownBlock → w'.heap[i]? = w.heap[i]? := by
  have ho : w.ownsRow w0.heap.size 3 1 u zs.length (zs.map (Value.int .i64)) := Kd.own_of_R HO
  by_cases hn : zs = []
  · subst hn
    obtain ⟨A, c, rfl⟩ := Kd.R_slice HO
    refine (Tryd.slices_Sort_int_none A c w).mono ?_
    rintro e w' ⟨rfl, rfl⟩
    exact ⟨rfl, Kd.R_mono (by simpa [sortL] using HO) (fun _ _ => trivial), HB, Nat.le_refl _, fun _ _ _ => rfl⟩
  · obtain ⟨g, cap, rfl, hb, hlt, hnc, hcm, _, hH⟩ := Go.Lib.holds_of_ownsRow ho (own_ne_nil ho hn)
    refine (Tryd.slices_Sort_int g 0 cap zs w hH hlt hz).mono ?_
    rintro e w' ⟨rfl, n, os, rfl⟩
    have h1 := Go.Lib.ownsRow_putRow (q := n) (k := zs.length) (ys := sortL zs) ho (by simp [sortL]) (Nat.le_refl _)
    rw [List.take_of_length_le (by simp [sortL])] at h1
    have h2 := own_grow h1 os
    refine ⟨rfl, Kd.R_of_own ?_ (fun _ _ => trivial), below_grow' (Go.Lib.below_putRow HB hb) ?_ os, ?_, ?_⟩
    · have hl : (sortL zs).length = zs.length := by simp [sortL]
      rw [hl]
      exact h2
    · exact (Go.Lib.below_putRow (enc := Value.int .i64) (q := n) (d := (sortL zs).toArray) HB hb).size
    · show w.heap.size ≤ ((putRow (Value.int .i64) (Sort.ahead w n) g 0 (sortL zs).toArray).heap ++ os).size
      rw [Array.size_append]
      simp [putRow, mapBlock, Sort.ahead]
    · intro i hi hne
      have hgi : g ≠ i := fun e => hne (by rw [e]; rfl)
      show ((putRow (Value.int .i64) (Sort.ahead w n) g 0 (sortL zs).toArray).heap ++ os)[i]? = _
      rw [Array.getElem?_append, if_pos (by simp [putRow, mapBlock, Sort.ahead]; exact hi)]
      simp [putRow, mapBlock, Sort.ahead, Array.getElem?_modify, hgi]
abbrev St := ByteArray × Int × Int × Int
def wellB (st : St) : Bool := st.2.2.1 == 0 && (st.2.2.2 == 0)
def pNum (st : St) (low : Int) : Option (Int × St) := array_reader_number.f st.1 st.2.1 st.2.2.1 st.2.2.2 low
def pNext (st : St) (c : Int) : Option (Bool × St) := array_reader_next.f st.1 st.2.1 st.2.2.1 st.2.2.2 c
def parse_tail (again : List Int → St → Option (List Int × St)) (xs : List Int) (at_ from_ to_ step : Int) (st : St) : Option (List Int × St) :=
  if wellB st = true then (array_Array_add.l 300 xs from_ to_ step).bind fun r => if r.1 = true then again r.2 st else again r.2 (st.1, st.2.1, 5, at_)
  else again xs st
def parse_l : Nat → List Int → St → Bool → Option (List Int × St)
  | 0, _, _, _ => none
  | k + 1, xs, st, more =>
    if more = true then
      (if wellB st = true then
        (pNum st 0).bind fun a => (pNext a.2 45).bind fun d =>
          if d.1 = true then (pNum d.2 a.1).bind fun t => (pNext t.2 58).bind fun e =>
            if e.1 = true then (pNum e.2 1).bind fun u => parse_tail (fun ys st' => (pNext st' 44).bind fun m => parse_l k ys m.2 m.1) xs st.2.1 a.1 t.1 u.1 u.2
            else parse_tail (fun ys st' => (pNext st' 44).bind fun m => parse_l k ys m.2 m.1) xs st.2.1 a.1 t.1 1 e.2
          else parse_tail (fun ys st' => (pNext st' 44).bind fun m => parse_l k ys m.2 m.1) xs st.2.1 a.1 a.1 1 d.2
      else some (xs, st))
    else some (xs, st)
abbrev PR := List Int × Int × Int × Int
def parse_out (xs : List Int) (lim : Int) (st : St) : Option PR := if wellB st = true then some (sortL xs, lim, 0, 0) else some ([], 0, st.2.2.1, st.2.2.2)
def parse_fin (s : ByteArray) (xs : List Int) (lim : Int) (st : St) : Option PR :=
  if st.2.1 < (s.size : Int) then (array_reader_wrong.f st.1 st.2.1 st.2.2.1 st.2.2.2 st.2.1).bind fun z => parse_out xs lim z else parse_out xs lim st
def parse_end (s : ByteArray) (xs : List Int) (st : St) : Option PR :=
  (pNext st 37).bind fun m => if m.1 = true then (pNum m.2 1).bind fun t => parse_fin s xs t.1 t.2 else parse_fin s xs 0 m.2
def array_Parse.g (k : Nat) (s : ByteArray) : Option PR := (parse_l k [] (s, 0, 0, 0) true).bind fun q => if q.1.length ≤ 1000 then parse_end s q.1 q.2 else none
structure PSt (w W : World) (g2 g3 gr ga b : Nat) (u : Value) (lim : Int) (xs : List Int) (st : St) : Prop where mk ::
  c2 : W.heap[g2]? = some (.cells #[.slice none 0 0, .int .i64 0] 28 (0, 0))
  c3 : W.heap[g3]? = some (.cells #[.int .i64 0, .int .i64 0] 36 (0, 0))
  n2 : g2 ≠ ga
  p2 : w.heap.size ≤ g2
  p3 : w.heap.size ≤ g3
  rd : IsS55 w W gr st.1 st.2.1 st.2.2.1 st.2.2.2
  ad : Adds w W ga b u lim xs
theorem keep_grown {B : Nat} {w0 W W' : World} {g : Nat} (h : Below B w0 W) (h' : Below B w0 W') (hk : KeepBut W W' g none) : W.grownBy W' (some g) :=
  ⟨h'.os.trans h.os.symm, h'.tape.trans h.tape.symm, h'.output.trans h.output.symm, hk.1, fun i hi hne => hk.2 i hi (fun e => hne (by rw [e])) (by simp)⟩
theorem PSt.nr2 {w W : World} {g2 g3 gr ga b : Nat} {u : Value} {lim : Int} {xs : List Int} {st : St} (h : PSt w W g2 g3 gr ga b u lim xs st) : g2 ≠ gr := blk_ne h.c2 h.rd.1 (by decide)
theorem PSt.nr3 {w W : World} {g2 g3 gr ga b : Nat} {u : Value} {lim : Int} {xs : List Int} {st : St} (h : PSt w W g2 g3 gr ga b u lim xs st) : g3 ≠ gr := blk_ne h.c3 h.rd.1 (by decide)
theorem PSt.nra {w W : World} {g2 g3 gr ga b : Nat} {u : Value} {lim : Int} {xs : List Int} {st : St} (h : PSt w W g2 g3 gr ga b u lim xs st) : ga ≠ gr := blk_ne h.ad.blk h.rd.1 (by decide)
theorem PSt.n3 {w W : World} {g2 g3 gr ga b : Nat} {u : Value} {lim : Int} {xs : List Int} {st : St} (h : PSt w W g2 g3 gr ga b u lim xs st) : g3 ≠ ga := blk_ne h.c3 h.ad.blk (by decide)
theorem PSt.n23 {w W : World} {g2 g3 gr ga b : Nat} {u : Value} {lim : Int} {xs : List Int} {st : St} (h : PSt w W g2 g3 gr ga b u lim xs st) : g2 ≠ g3 := blk_ne h.c2 h.c3 (by decide)
theorem nomap {w W : World} {ga b : Nat} {u : Value} {lim : Int} {xs : List Int} (h : Adds w W ga b u lim xs) {g t : Nat} {cs : Array Value} (hc : W.heap[g]? = some (.cells cs t (0, 0))) : g ≠ b := fun e => by
  rw [e] at hc
  exact h.met.noCells hc
theorem PSt.read {w W W' : World} {g2 g3 gr ga b : Nat} {u : Value} {lim : Int} {xs : List Int} {st st' : St} (h : PSt w W g2 g3 gr ga b u lim xs st) (hI : IsS55 w W' gr st'.1 st'.2.1 st'.2.2.1 st'.2.2.2) (hB : Below w.heap.size w W') (hK : KeepBut W W' gr none) :
    PSt w W' g2 g3 gr ga b u lim xs st' := by
  have hg := keep_grown h.ad.bel hB hK
  have e2 : some g2 ≠ some gr := fun e => h.nr2 (Option.some.inj e)
  have e3 : some g3 ≠ some gr := fun e => h.nr3 (Option.some.inj e)
  have ea : some ga ≠ some gr := fun e => h.nra (Option.some.inj e)
  have eb : some b ≠ some gr := fun e => nomap h.ad h.rd.1 (Option.some.inj e).symm
  exact ⟨blk_grown h.c2 hg e2, blk_grown h.c3 hg e3, h.n2, h.p2, h.p3, hI,
    ⟨blk_grown h.ad.blk hg ea, h.ad.ge, Kd.R_mono (Kd.R_grown (Kd.R_types h.ad.row h.rd.1 (by decide)) hg (fun k hk e => hk.2 (Option.some.inj e))) (fun _ _ => trivial), h.ad.met.grown hg eb, h.ad.mge, hB⟩⟩
theorem PSt.added {w W W' : World} {g2 g3 gr ga b : Nat} {u u' : Value} {lim : Int} {xs ys : List Int} {st : St} (h : PSt w W g2 g3 gr ga b u lim xs st) (hA : Adds w W' ga b u' lim ys) (hR : Rest W W' ga b u) : PSt w W' g2 g3 gr ga b u' lim ys st := by
  have k2 : W'.heap[g2]? = W.heap[g2]? := hR.2 g2 (blk_lt h.c2) h.n2 (nomap h.ad h.c2) (Kd.R_ne h.ad.row h.c2 (by decide))
  have k3 : W'.heap[g3]? = W.heap[g3]? := hR.2 g3 (blk_lt h.c3) h.n3 (nomap h.ad h.c3) (Kd.R_ne h.ad.row h.c3 (by decide))
  have kr : W'.heap[gr]? = W.heap[gr]? := hR.2 gr (blk_lt h.rd.1) (fun e => h.nra e.symm) (nomap h.ad h.rd.1) (Kd.R_ne h.ad.row h.rd.1 (by decide))
  exact ⟨k2.trans h.c2, k3.trans h.c3, h.n2, h.p2, h.p3, ⟨kr.trans h.rd.1, h.rd.2⟩, hA⟩
theorem PSt.limit {w W : World} {g2 g3 gr ga b : Nat} {u : Value} {lim : Int} {xs : List Int} {st : St} (h : PSt w W g2 g3 gr ga b u lim xs st) (n : Int) : PSt w (W.setCell ⟨ga, 1, none⟩ (.int .i64 n)) g2 g3 gr ga b u n xs st := by
  have hb := blk_set h.ad.blk 1 (Value.int .i64 n)
  refine ⟨(Below.heap_setCell W ⟨ga, 1, none⟩ _ g2 h.n2).trans h.c2, (Below.heap_setCell W ⟨ga, 1, none⟩ _ g3 h.n3).trans h.c3, h.n2, h.p2, h.p3, ⟨(Below.heap_setCell W ⟨ga, 1, none⟩ _ gr (fun e => h.nra e.symm)).trans h.rd.1, h.rd.2⟩,
    ⟨hb, h.ad.ge, Kd.R_mono (Kd.R_far (p := ⟨ga, 1, none⟩) (Kd.R_types h.ad.row h.ad.blk (by decide)) (fun _ hk => hk.2) _) (fun _ _ => trivial), h.ad.met.setCell h.ad.ne_map _, h.ad.mge, h.ad.bel.setCell h.ad.ge _⟩⟩
theorem new_at {w : World} {o : Obj} {n : Nat} (h : w.heap.size = n) : (w.alloc o).heap[n]? = some o := h ▸ blk_new w o
theorem PSt.init (w : World) (s : ByteArray) : PSt w (((((w.alloc (.cells #[.slice none 0 0, .int .i64 0] 28)).alloc (.cells #[.int .i64 0, .int .i64 0] 36)).alloc (.cells #[.string s, .int .i64 0, .int .i64 0, .int .i64 0] 55)).alloc (.cells #[.slice none 0 0, .int .i64 0] 28)).alloc (.map #[] 0))
    w.heap.size (w.heap.size + 1) (w.heap.size + 1 + 1) (w.heap.size + 1 + 1 + 1) (w.heap.size + 1 + 1 + 1 + 1) (.slice none 0 0) 0 [] (s, 0, 0, 0) := by
  refine ⟨?_, ?_, by omega, Nat.le_refl _, by omega, ⟨?_, by omega⟩, ⟨?_, by omega, Kd.R_nil _ _ _ _ _, ?_, by omega, ?_⟩⟩
  · exact blk_alloc (blk_alloc (blk_alloc (blk_alloc (blk_new _ _) _) _) _) _
  · exact blk_alloc (blk_alloc (blk_alloc (new_at (by simp)) _) _) _
  · exact blk_alloc (blk_alloc (new_at (by simp)) _) _
  · exact blk_alloc (new_at (by simp)) _
  · have h := MapOf.made (K := KI) (V := VB) ((((w.alloc (.cells #[.slice none 0 0, .int .i64 0] 28)).alloc (.cells #[.int .i64 0, .int .i64 0] 36)).alloc (.cells #[.string s, .int .i64 0, .int .i64 0, .int .i64 0] 55)).alloc (.cells #[.slice none 0 0, .int .i64 0] 28))
    have e : ((((w.alloc (.cells #[.slice none 0 0, .int .i64 0] 28)).alloc (.cells #[.int .i64 0, .int .i64 0] 36)).alloc (.cells #[.string s, .int .i64 0, .int .i64 0, .int .i64 0] 55)).alloc (.cells #[.slice none 0 0, .int .i64 0] 28)).heap.size = w.heap.size + 1 + 1 + 1 + 1 := by simp
    rw [e] at h
    exact mapOf_fun h (by funext x; simp [metF])
  · exact below_alloc (below_alloc (below_alloc (below_alloc (below_alloc (Below.refl _ _) _) _) _) _) _
set_option maxHeartbeats 8000000 in
set_option maxRecDepth 100000 in
theorem array_Parse.callsG (k : Nat) (s : ByteArray) (r1 : List Int) (r2 r3 r4 : Int) (w : World) (h : array_Parse.g k s = some (r1, r2, r3, r4)) (hG : Glob w) :
    Calls Tryd.prog 14 #[.string s] w fun e w' => ∃ v1_ : Value, e = .returned (.tuple #[.agg #[v1_, .int .i64 r2], .agg #[.int .i64 r3, .int .i64 r4]]) ∧ Kd.R (Kd.int .i64) 3 w' w.heap.size (fun _ => True) v1_ r1 ∧ Below w.heap.size w w' := by
  unfold array_Parse.g at h
  obtain ⟨⟨xs9, st9⟩, hl, h2⟩ := Option.bind_eq_some_iff.mp h
  dsimp only at h2
  split at h2
  · rename_i hlen
    have H' := Aside0.mk hl
    have HE := Aside0.mk h2
    have HZ := Aside0.mk hlen
    have HG := Aside0.mk hG
    have hmm := @run_makeMap Tryd.prog
    have hu36 := Tryd.underlying36
    have hu28 := Tryd.underlying28
    have hu55 := Tryd.underlying55
    clear h hl h2 hlen hG
    go_enter Tryd.func14, Tryd.ntmps14
    have hP := PSt.init w s
    have HP := Aside0.mk hP
    clear hP
    go_upto_block 0 with (fail)
    go_cut [7] (fun v7 wc => ∃ (u : Value), Aside0 (PSt w wc w.heap.size (w.heap.size + 1) (w.heap.size + 1 + 1) (w.heap.size + 1 + 1 + 1) (w.heap.size + 1 + 1 + 1 + 1) u 0 xs9 st9))
    case first =>
      go_wp2
      go_loopg [7] k (fun kq v7 W' => ∃ (xs : List Int) (u : Value) (st : St) (more : Bool), v7 = .bool more ∧ Aside0 (parse_l kq xs st more = some (xs9, st9)) ∧ Aside0 (kq ≤ k) ∧ Aside0 (PSt w W' w.heap.size (w.heap.size + 1) (w.heap.size + 1 + 1) (w.heap.size + 1 + 1 + 1) (w.heap.size + 1 + 1 + 1 + 1) u 0 xs st))
      case atStart => exact ⟨[], _, _, true, rfl, H', ⟨Nat.le_refl _⟩, HP⟩
      case round =>
        clear H' HP
        obtain ⟨xs, u, ⟨s1, p1, y1, z1⟩, more, rfl, HA, HK1, HP⟩ := hrel
        cases gk with
        | zero => exact absurd HA.out (by simp [parse_l])
        | succ k1 =>
          have H := HA.out
          clear HA
          simp only [parse_l] at H
          cases more with
          | false =>
            rw [if_neg (by decide)] at H
            injection H with H
            injection H with e1 e2
            subst e1; subst e2
            go_wp2
            go_meet
            exact ⟨_, HP⟩
          | true =>
            rw [if_pos (by first | rfl | trivial)] at H
            cases hwl : wellB (s1, p1, y1, z1) with
            | false =>
              rw [if_neg (by rw [hwl]; decide)] at H
              injection H with H
              injection H with e1 e2
              subst e1; subst e2
              go_wp2_with fail
              refine (well_same _ s1 p1 y1 z1 _ HP.out.rd.1 false hwl).mono ?_
              rintro e w1 ⟨rfl, rfl⟩
              go_wp2
              go_meet
              exact ⟨_, HP⟩
            | true =>
              rw [if_pos hwl] at H
              go_wp2_with fail
              refine (well_same _ s1 p1 y1 z1 _ HP.out.rd.1 true hwl).mono ?_
              rintro e w1 ⟨rfl, rfl⟩
              have hc1 := cellS55_1 HP.out.rd.1
              obtain ⟨⟨n1, s2, p2, y2, z2⟩, q1, H⟩ := Option.bind_eq_some_iff.mp H
              have A1 := Aside0.mk q1
              obtain ⟨⟨d1, s3, p3, y3, z3⟩, q2, H⟩ := Option.bind_eq_some_iff.mp H
              have A2 := Aside0.mk q2
              have HH := Aside0.mk H
              clear q1 q2 H hwl
              go_wp2_with fail
              refine (array_reader_number.calls _ s1 p1 y1 z1 0 n1 s2 p2 y2 z2 w _ HP.out.rd HP.out.ad.bel A1.out (HG.out.below HP.out.ad.bel)).mono ?_
              rintro e w2 ⟨rfl, hI, hB, hK⟩
              have HP2 := Aside0.mk (HP.out.read (st' := (s2, p2, y2, z2)) hI hB hK)
              clear hI hB hK hc1
              go_wp2_with fail
              refine (array_reader_next.calls _ s2 p2 y2 z2 45 d1 s3 p3 y3 z3 w _ HP2.out.rd HP2.out.ad.bel A2.out).mono ?_
              rintro e w3 ⟨rfl, hI, hB, hK⟩
              have HP3 := Aside0.mk (HP2.out.read (st' := (s3, p3, y3, z3)) hI hB hK)
              clear hI hB hK
              go_upto_if 31 with (fail)
              go_cut [10, 11] (fun v10 v11 wc => ∃ (t sp : Int) (s4 : ByteArray) (p4 y4 z4 : Int), v10 = .int .i64 t ∧ v11 = .int .i64 sp ∧ Aside0 (parse_tail (fun ys st' => (pNext st' 44).bind fun m => parse_l k1 ys m.2 m.1) xs p1 n1 t sp (s4, p4, y4, z4) = some (xs9, st9)) ∧ Aside0 (PSt w wc w.heap.size (w.heap.size + 1) (w.heap.size + 1 + 1) (w.heap.size + 1 + 1 + 1) (w.heap.size + 1 + 1 + 1 + 1) u 0 xs (s4, p4, y4, z4)))
              case first =>
                cases d1 with
                | false =>
                  have H := HH.out
                  rw [if_neg (by decide)] at H
                  have H2 := Aside0.mk H
                  clear H
                  go_wp2
                  go_meet
                  exact ⟨_, _, _, _, _, _, rfl, rfl, H2, HP3⟩
                | true =>
                  have H := HH.out
                  rw [if_pos (by first | rfl | trivial)] at H
                  obtain ⟨⟨n2, s4, p4, y4, z4⟩, q3, H⟩ := Option.bind_eq_some_iff.mp H
                  have A3 := Aside0.mk q3
                  obtain ⟨⟨d2, s5, p5, y5, z5⟩, q4, H⟩ := Option.bind_eq_some_iff.mp H
                  have A4 := Aside0.mk q4
                  have H4 := Aside0.mk H
                  clear q3 q4 H
                  go_wp2_with fail
                  refine (array_reader_number.calls _ s3 p3 y3 z3 n1 n2 s4 p4 y4 z4 w _ HP3.out.rd HP3.out.ad.bel A3.out (HG.out.below HP3.out.ad.bel)).mono ?_
                  rintro e w4 ⟨rfl, hI, hB, hK⟩
                  have HP4 := Aside0.mk (HP3.out.read (st' := (s4, p4, y4, z4)) hI hB hK)
                  clear hI hB hK
                  go_wp2_with fail
                  refine (array_reader_next.calls _ s4 p4 y4 z4 58 d2 s5 p5 y5 z5 w _ HP4.out.rd HP4.out.ad.bel A4.out).mono ?_
                  rintro e w5 ⟨rfl, hI, hB, hK⟩
                  have HP5 := Aside0.mk (HP4.out.read (st' := (s5, p5, y5, z5)) hI hB hK)
                  clear hI hB hK
                  cases d2 with
                  | false =>
                    have H := H4.out
                    rw [if_neg (by decide)] at H
                    have H2 := Aside0.mk H
                    clear H
                    go_wp2
                    go_meet
                    exact ⟨_, _, _, _, _, _, rfl, rfl, H2, HP5⟩
                  | true =>
                    have H := H4.out
                    rw [if_pos (by first | rfl | trivial)] at H
                    obtain ⟨⟨n3, s6, p6, y6, z6⟩, q5, H⟩ := Option.bind_eq_some_iff.mp H
                    have A5 := Aside0.mk q5
                    have H2 := Aside0.mk H
                    clear q5 H
                    go_wp2_with fail
                    refine (array_reader_number.calls _ s5 p5 y5 z5 1 n3 s6 p6 y6 z6 w _ HP5.out.rd HP5.out.ad.bel A5.out (HG.out.below HP5.out.ad.bel)).mono ?_
                    rintro e w6 ⟨rfl, hI, hB, hK⟩
                    have HP6 := Aside0.mk (HP5.out.read (st' := (s6, p6, y6, z6)) hI hB hK)
                    clear hI hB hK
                    go_wp2
                    go_meet
                    exact ⟨_, _, _, _, _, _, rfl, rfl, H2, HP6⟩
              case rest =>
                obtain ⟨t, sp, s4, p4, y4, z4, rfl, rfl, HT, HP4⟩ := hcut
                clear HH HP HP2 HP3 A1 A2
                cases hwl : wellB (s4, p4, y4, z4) with
                | false =>
                  have H := HT.out
                  unfold parse_tail at H
                  rw [if_neg (by rw [hwl]; decide)] at H
                  obtain ⟨⟨m7, s7, p7, y7, z7⟩, q6, H⟩ := Option.bind_eq_some_iff.mp H
                  have A6 := Aside0.mk q6
                  have H2 := Aside0.mk H
                  clear q6 H
                  go_wp2_with fail
                  refine (well_same _ s4 p4 y4 z4 _ HP4.out.rd.1 false hwl).mono ?_
                  rintro e w1 ⟨rfl, rfl⟩
                  clear hwl
                  go_wp2_with fail
                  refine (array_reader_next.calls _ s4 p4 y4 z4 44 m7 s7 p7 y7 z7 w _ HP4.out.rd HP4.out.ad.bel A6.out).mono ?_
                  rintro e w7 ⟨rfl, hI, hB, hK⟩
                  have HP7 := Aside0.mk (HP4.out.read (st' := (s7, p7, y7, z7)) hI hB hK)
                  clear hI hB hK
                  go_wp2
                  go_roundg k1
                  case measure => have := HK1.out; omega
                  case rel => exact ⟨xs, u, (s7, p7, y7, z7), m7, rfl, H2, ⟨by have := HK1.out; omega⟩, HP7⟩
                | true =>
                  have H := HT.out
                  unfold parse_tail at H
                  rw [if_pos hwl] at H
                  obtain ⟨⟨ra, ys⟩, q6, H⟩ := Option.bind_eq_some_iff.mp H
                  have A6 := Aside0.mk q6
                  have H5 := Aside0.mk H
                  clear q6 H
                  go_wp2_with fail
                  refine (well_same _ s4 p4 y4 z4 _ HP4.out.rd.1 true hwl).mono ?_
                  rintro e w1 ⟨rfl, rfl⟩
                  clear hwl
                  go_wp2_with fail
                  refine (array_Array_add.calls 300 _ _ _ 0 xs n1 t sp ra ys w _ HP4.out.ad A6.out).mono ?_
                  rintro e w5 ⟨u5, rfl, hA, hR, hO⟩
                  have HP5 := Aside0.mk (HP4.out.added hA hR)
                  clear hA hR hO
                  cases ra with
                  | true =>
                    have H := H5.out
                    rw [if_pos (by first | rfl | trivial)] at H
                    obtain ⟨⟨m7, s7, p7, y7, z7⟩, q6, H⟩ := Option.bind_eq_some_iff.mp H
                    have A7 := Aside0.mk q6
                    have H2 := Aside0.mk H
                    clear q6 H
                    go_wp2_with fail
                    refine (array_reader_next.calls _ s4 p4 y4 z4 44 m7 s7 p7 y7 z7 w _ HP5.out.rd HP5.out.ad.bel A7.out).mono ?_
                    rintro e w7 ⟨rfl, hI, hB, hK⟩
                    have HP7 := Aside0.mk (HP5.out.read (st' := (s7, p7, y7, z7)) hI hB hK)
                    clear hI hB hK
                    go_wp2
                    go_roundg k1
                    case measure => have := HK1.out; omega
                    case rel => exact ⟨ys, u5, (s7, p7, y7, z7), m7, rfl, H2, ⟨by have := HK1.out; omega⟩, HP7⟩
                  | false =>
                    have H := H5.out
                    rw [if_neg (by decide)] at H
                    obtain ⟨⟨m7, s7, p7, y7, z7⟩, q6, H⟩ := Option.bind_eq_some_iff.mp H
                    have A7 := Aside0.mk q6
                    have H2 := Aside0.mk H
                    clear q6 H
                    have hz := HP5.out.rd.1
                    have hc2 := cellS55_2 hz
                    have hc3 := cellS55_3 hz
                    have hf2 := blk_frozen hz 2
                    have hf3 := blk_frozen hz 3
                    clear hz
                    have HPf := Aside0.mk (HP5.out.read (st' := (s4, p4, 5, p1)) ((HP5.out.rd.set_2 5).set_3 p1) (below_set (below_set HP5.out.ad.bel HP5.out.rd.2) HP5.out.rd.2) (KeepBut.set_ (KeepBut.set_ (KeepBut.refl _ _ _) _ _) _ _))
                    go_wp2_with fail
                    refine (array_reader_next.calls _ s4 p4 5 p1 44 m7 s7 p7 y7 z7 w _ HPf.out.rd HPf.out.ad.bel A7.out).mono ?_
                    rintro e w7 ⟨rfl, hI, hB, hK⟩
                    have HP7 := Aside0.mk (HPf.out.read (st' := (s7, p7, y7, z7)) hI hB hK)
                    clear hI hB hK
                    go_wp2
                    go_roundg k1
                    case measure => have := HK1.out; omega
                    case rel => exact ⟨ys, u5, (s7, p7, y7, z7), m7, rfl, H2, ⟨by have := HK1.out; omega⟩, HP7⟩
    case rest =>
      obtain ⟨u, HP⟩ := hcut
      obtain ⟨s1, p1, y1, z1⟩ := st9
      have H := HE.out
      unfold parse_end at H
      obtain ⟨⟨m2, s2, p2, y2, z2⟩, q1, H⟩ := Option.bind_eq_some_iff.mp H
      have A1 := Aside0.mk q1
      have HH := Aside0.mk H
      clear q1 H HE H'
      go_wp2_with fail
      refine (array_reader_next.calls _ s1 p1 y1 z1 37 m2 s2 p2 y2 z2 w _ HP.out.rd HP.out.ad.bel A1.out).mono ?_
      rintro e w2 ⟨rfl, hI, hB, hK⟩
      have HP2 := Aside0.mk (HP.out.read (st' := (s2, p2, y2, z2)) hI hB hK)
      clear hI hB hK
      go_upto_if 55 with (fail)
      go_cut [] (fun wc => ∃ (lim : Int) (s3 : ByteArray) (p3 y3 z3 : Int), Aside0 (parse_fin s xs9 lim (s3, p3, y3, z3) = some (r1, r2, r3, r4)) ∧ Aside0 (PSt w wc w.heap.size (w.heap.size + 1) (w.heap.size + 1 + 1) (w.heap.size + 1 + 1 + 1) (w.heap.size + 1 + 1 + 1 + 1) u lim xs9 (s3, p3, y3, z3)))
      case first =>
        cases m2 with
        | false =>
          have H := HH.out
          rw [if_neg (by decide)] at H
          have H2 := Aside0.mk H
          clear H
          go_wp2
          go_meet
          exact ⟨_, _, _, _, _, H2, HP2⟩
        | true =>
          have H := HH.out
          rw [if_pos (by first | rfl | trivial)] at H
          obtain ⟨⟨n3, s3, p3, y3, z3⟩, q3, H⟩ := Option.bind_eq_some_iff.mp H
          have A3 := Aside0.mk q3
          have H2 := Aside0.mk H
          clear q3 H
          go_wp2_with fail
          refine (array_reader_number.calls _ s2 p2 y2 z2 1 n3 s3 p3 y3 z3 w _ HP2.out.rd HP2.out.ad.bel A3.out (HG.out.below HP2.out.ad.bel)).mono ?_
          rintro e w3 ⟨rfl, hI, hB, hK⟩
          have HP3 := Aside0.mk (HP2.out.read (st' := (s3, p3, y3, z3)) hI hB hK)
          clear hI hB hK
          have hc1 := (blk_cell HP3.out.ad.blk 1).trans (show _ = some (Value.int .i64 0) from rfl)
          have hf1 := blk_frozen HP3.out.ad.blk 1
          go_wp2
          go_meet
          exact ⟨_, _, _, _, _, H2, ⟨HP3.out.limit n3⟩⟩
      case rest =>
        obtain ⟨lim, s3, p3, y3, z3, H3, HP3⟩ := hcut
        clear HH HP HP2 A1
        have hc1 := cellS55_1 HP3.out.rd.1
        go_upto_if 65 with (fail)
        go_cut [] (fun wc => ∃ (s4 : ByteArray) (p4 y4 z4 : Int), Aside0 (parse_out xs9 lim (s4, p4, y4, z4) = some (r1, r2, r3, r4)) ∧ Aside0 (PSt w wc w.heap.size (w.heap.size + 1) (w.heap.size + 1 + 1) (w.heap.size + 1 + 1 + 1) (w.heap.size + 1 + 1 + 1 + 1) u lim xs9 (s4, p4, y4, z4)))
        case first =>
          have H := H3.out
          unfold parse_fin at H
          dsimp only at H
          by_cases hlt : p3 < (s.size : Int)
          · rw [if_pos hlt] at H
            obtain ⟨⟨s4, p4, y4, z4⟩, q3, H⟩ := Option.bind_eq_some_iff.mp H
            have A3 := Aside0.mk q3
            have H2 := Aside0.mk H
            have hb := decide_eq_true hlt
            clear q3 H hlt
            (first | rw [hb] | skip)
            go_wp2_with fail
            refine (array_reader_wrong.calls _ s3 p3 y3 z3 p3 s4 p4 y4 z4 w _ HP3.out.rd HP3.out.ad.bel A3.out).mono ?_
            rintro e w4 ⟨rfl, hI, hB, hK⟩
            have HP4 := Aside0.mk (HP3.out.read (st' := (s4, p4, y4, z4)) hI hB hK)
            clear hI hB hK
            go_wp2
            go_meet
            exact ⟨_, _, _, _, H2, HP4⟩
          · rw [if_neg hlt] at H
            have H2 := Aside0.mk H
            have hb := decide_eq_false hlt
            clear H hlt
            (first | rw [hb] | skip)
            go_wp2
            go_meet
            exact ⟨_, _, _, _, H2, HP3⟩
        case rest =>
          obtain ⟨s4, p4, y4, z4, H4, HP4⟩ := hcut
          clear H3 HP3 hc1
          have H := H4.out
          unfold parse_out at H
          cases hwl : wellB (s4, p4, y4, z4) with
          | false =>
            rw [if_neg (by rw [hwl]; decide)] at H
            simp only [Option.some.injEq, Prod.mk.injEq] at H
            obtain ⟨rfl, rfl, rfl, rfl⟩ := H
            have hz := HP4.out.rd.1
            have hc2 := cellS55_2 hz
            have hc3 := cellS55_3 hz
            have e0 := (blk_cell HP4.out.c2 0).trans (show _ = some (Value.slice none 0 0) from rfl)
            have e1 := (blk_cell HP4.out.c2 1).trans (show _ = some (Value.int .i64 0) from rfl)
            have e2 := (blk_cell HP4.out.c3 0).trans (show _ = some (Value.int .i64 0) from rfl)
            have e3 := (blk_cell HP4.out.c3 1).trans (show _ = some (Value.int .i64 0) from rfl)
            have f0 := blk_frozen HP4.out.c2 0
            have f1 := blk_frozen HP4.out.c2 1
            have f2 := blk_frozen HP4.out.c3 0
            have f3 := blk_frozen HP4.out.c3 1
            clear hz
            go_wp2_with fail
            refine (well_same _ s4 p4 y4 z4 _ HP4.out.rd.1 false hwl).mono ?_
            rintro e w1 ⟨rfl, rfl⟩
            clear hwl
            go_wp2
            go_region
            all_goals
              go_wp2
              refine bodyPost_ret (results_cc rfl _ _ w.heap.size (w.heap.size + 1) 28 36 #[.slice none 0 0, .int .i64 0] #[.int .i64 y4, .int .i64 z4] (0, 0) (0, 0) _ _ rfl
                (by (with_reducible repeat (first | refine blk_drewN ?_ _ | refine blk_drew ?_)); refine blk_far ?_ HP4.out.n23 _; (with_reducible repeat (first | refine blk_drewN ?_ _ | refine blk_drew ?_)); refine blk_far ?_ HP4.out.n23 _; (with_reducible repeat (first | refine blk_drewN ?_ _ | refine blk_drew ?_)); (with_reducible repeat (first | refine blk_drewN ?_ _ | refine blk_drew ?_)); refine blk_put (cs := #[.slice none 0 0, .int .i64 0]) ?_ 1 _ rfl; (with_reducible repeat (first | refine blk_drewN ?_ _ | refine blk_drew ?_)); refine blk_put (cs := #[.slice none 0 0, .int .i64 0]) ?_ 0 _ rfl; (with_reducible repeat (first | refine blk_drewN ?_ _ | refine blk_drew ?_)); exact HP4.out.c2) Tryd.underlying28 rfl (by kernel_rfl) rfl
                (by (with_reducible repeat (first | refine blk_drewN ?_ _ | refine blk_drew ?_)); refine blk_put (cs := #[.int .i64 y4, .int .i64 0]) ?_ 1 _ rfl; (with_reducible repeat (first | refine blk_drewN ?_ _ | refine blk_drew ?_)); refine blk_put (cs := #[.int .i64 0, .int .i64 0]) ?_ 0 _ rfl; (with_reducible repeat (first | refine blk_drewN ?_ _ | refine blk_drew ?_)); (with_reducible repeat (first | refine blk_drewN ?_ _ | refine blk_drew ?_)); refine blk_far ?_ (Ne.symm HP4.out.n23) _; (with_reducible repeat (first | refine blk_drewN ?_ _ | refine blk_drew ?_)); refine blk_far ?_ (Ne.symm HP4.out.n23) _; (with_reducible repeat (first | refine blk_drewN ?_ _ | refine blk_drew ?_)); exact HP4.out.c3) Tryd.underlying36 rfl (by kernel_rfl)) rfl ?_
              exact ⟨_, rfl, Kd.R_nil _ _ _ _ _, by repeat (first | (with_reducible first | exact HP4.out.ad.bel | apply below_drew1 | apply pw_below_drewN | refine below_set ?_ HP4.out.p2 | refine below_set ?_ HP4.out.p3) | exact HP4.out.ad.bel)⟩
          | true =>
            rw [if_pos hwl] at H
            simp only [Option.some.injEq, Prod.mk.injEq] at H
            obtain ⟨rfl, rfl, rfl, rfl⟩ := H
            have e0 := (blk_cell HP4.out.c2 0).trans (show _ = some (Value.slice none 0 0) from rfl)
            have e1 := (blk_cell HP4.out.c2 1).trans (show _ = some (Value.int .i64 0) from rfl)
            obtain ⟨A, c, rfl⟩ := Kd.R_slice HP4.out.ad.row
            have hc0 := HP4.out.ad.cell0
            go_wp2_with fail
            refine (well_same _ s4 p4 y4 z4 _ HP4.out.rd.1 true hwl).mono ?_
            rintro e w1 ⟨rfl, rfl⟩
            clear hwl
            go_wp2_with fail
            refine (sort_own HP4.out.ad.row HP4.out.ad.bel (by have := HZ.out; omega)).mono ?_
            rintro e w5 ⟨rfl, hrow, hbel, hsz, hfr⟩
            have b2 := (hfr _ (blk_lt HP4.out.c2) (Kd.R_ne HP4.out.ad.row HP4.out.c2 (by decide))).trans HP4.out.c2
            have b3 := (hfr _ (blk_lt HP4.out.c3) (Kd.R_ne HP4.out.ad.row HP4.out.c3 (by decide))).trans HP4.out.c3
            have ba := (hfr _ (blk_lt HP4.out.ad.blk) HP4.out.ad.ne_row).trans HP4.out.ad.blk
            have B2 := Aside0.mk b2
            have B3 := Aside0.mk b3
            have HR := Aside0.mk hrow
            have HBl := Aside0.mk hbel
            have g0 := (blk_cell b2 0).trans (show _ = some (Value.slice none 0 0) from rfl)
            have g1 := (blk_cell b2 1).trans (show _ = some (Value.int .i64 0) from rfl)
            have g2 := (blk_cell b3 0).trans (show _ = some (Value.int .i64 0) from rfl)
            have g3 := (blk_cell b3 1).trans (show _ = some (Value.int .i64 0) from rfl)
            have g4 := (blk_cell ba 0).trans (show _ = some (Value.slice A xs9.length c) from rfl)
            have g5 := (blk_cell ba 1).trans (show _ = some (Value.int .i64 lim) from rfl)
            have f0 := blk_frozen b2 0
            have f1 := blk_frozen b2 1
            have f2 := blk_frozen b3 0
            have f3 := blk_frozen b3 1
            clear b2 b3 ba hrow hbel hsz hfr hc0 e0 e1
            go_wp2
            refine bodyPost_ret (results_cc rfl _ _ w.heap.size (w.heap.size + 1) 28 36 #[.slice A xs9.length c, .int .i64 lim] #[.int .i64 0, .int .i64 0] (0, 0) (0, 0) _ _ rfl
              (by (with_reducible repeat (first | refine blk_drewN ?_ _ | refine blk_drew ?_)); refine blk_far ?_ HP4.out.n23 _; (with_reducible repeat (first | refine blk_drewN ?_ _ | refine blk_drew ?_)); refine blk_far ?_ HP4.out.n23 _; (with_reducible repeat (first | refine blk_drewN ?_ _ | refine blk_drew ?_)); (with_reducible repeat (first | refine blk_drewN ?_ _ | refine blk_drew ?_)); refine blk_put (cs := #[.slice A xs9.length c, .int .i64 0]) ?_ 1 _ rfl; (with_reducible repeat (first | refine blk_drewN ?_ _ | refine blk_drew ?_)); refine blk_put (cs := #[.slice none 0 0, .int .i64 0]) ?_ 0 _ rfl; (with_reducible repeat (first | refine blk_drewN ?_ _ | refine blk_drew ?_)); exact B2.out) Tryd.underlying28 rfl (by kernel_rfl) rfl
              (by (with_reducible repeat (first | refine blk_drewN ?_ _ | refine blk_drew ?_)); refine blk_put (cs := #[.int .i64 0, .int .i64 0]) ?_ 1 _ rfl; (with_reducible repeat (first | refine blk_drewN ?_ _ | refine blk_drew ?_)); refine blk_put (cs := #[.int .i64 0, .int .i64 0]) ?_ 0 _ rfl; (with_reducible repeat (first | refine blk_drewN ?_ _ | refine blk_drew ?_)); (with_reducible repeat (first | refine blk_drewN ?_ _ | refine blk_drew ?_)); refine blk_far ?_ (Ne.symm HP4.out.n23) _; (with_reducible repeat (first | refine blk_drewN ?_ _ | refine blk_drew ?_)); refine blk_far ?_ (Ne.symm HP4.out.n23) _; (with_reducible repeat (first | refine blk_drewN ?_ _ | refine blk_drew ?_)); exact B3.out) Tryd.underlying36 rfl (by kernel_rfl)) rfl ?_
            have HR2 := Kd.R_types (Kd.R_types HR.out B2.out (by decide)) B3.out (by decide)
            exact ⟨_, rfl, Kd.R_mono (Kd.R_far (p := ⟨w.heap.size + 1, 1, none⟩) (Kd.R_far (p := ⟨w.heap.size + 1, 0, none⟩) (Kd.R_far (p := ⟨w.heap.size, 1, none⟩) (Kd.R_far (p := ⟨w.heap.size, 0, none⟩) HR2 (fun _ hk => hk.1.2) _) (fun _ hk => hk.1.2) _) (fun _ hk => hk.2) _) (fun _ hk => hk.2) _) (fun _ _ => trivial), by repeat (first | (with_reducible first | exact HBl.out | apply below_drew1 | apply pw_below_drewN | refine below_set ?_ HP4.out.p2 | refine below_set ?_ HP4.out.p3) | exact HBl.out)⟩
  · cases h2
end Go.Proofs.YtnfpchpnephheaaDoor.PA
end
section
namespace Go.Proofs.YtnfpchpnephheaaDoor.PA
open Go.RowKit Go.Proofs.YtnfpchpnephheaaDoor.Lib Go.Proofs.YtnfpchpnephheaaDoorW.PrintWords Go.Proofs.YtnfpchpnephheaaDoorW.PrintLast Go.Proofs.YtnfpchpnephheaaDoorW.PrintMore
def array_Parse.f (s : ByteArray) : Option (List Int × Int × Int × Int) := array_Parse.g (s.size + 2) s
theorem array_Parse.calls (s : ByteArray) (r1 : List Int) (r2 r3 r4 : Int) (w : World) (h : array_Parse.f s = some (r1, r2, r3, r4)) (hG : Glob w) :
    Calls Tryd.prog 14 #[.string s] w fun e w' => ∃ v1_ : Value, e = .returned (.tuple #[.agg #[v1_, .int .i64 r2], .agg #[.int .i64 r3, .int .i64 r4]]) ∧ Kd.R (Kd.int .i64) 3 w' w.heap.size (fun _ => True) v1_ r1 ∧ Below w.heap.size w w' :=
  array_Parse.callsG (s.size + 2) s r1 r2 r3 r4 w h hG
end Go.Proofs.YtnfpchpnephheaaDoor.PA
end
