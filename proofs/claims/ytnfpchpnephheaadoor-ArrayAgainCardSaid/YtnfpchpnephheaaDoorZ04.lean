/- Part 4 of the proof of ArrayAgainCardSaid. -/
import Derived.Test.YtnfpchpnephheaaDoorZ03
import Derived.WalkSpells
import Derived.Maps.OwnSet
import Derived.Maps.OwnOps
import Derived.WalkKit
import Derived.KernelRfl
import Derived.Deep.Draws
import Derived.Lib.OwnBridge
import Derived.RegionTactic
import Derived.ChangeAlike
section
namespace Go.Proofs.YtnfpchpnephheaaDoor.PA
open Go.RowKit Go.Proofs.YtnfpchpnephheaaDoor.Lib Go.Proofs.YtnfpchpnephheaaDoorW.PrintWords Go.Proofs.YtnfpchpnephheaaDoorW.PrintLast Go.Proofs.YtnfpchpnephheaaDoorW.PrintMore
attribute [local go_sem] max2_int min2_int max_two min_two max_three min_three max_four min_four   
set_option linter.unusedVariables false
set_option linter.unusedSimpArgs false
attribute [local go_sem high] eqA36
def IsS55 (w0 W : World) (g : Nat) (f0 : ByteArray) (f1 : Int) (f2 : Int) (f3 : Int) : Prop := W.heap[g]? = some (.cells #[.string f0, .int .i64 f1, .int .i64 f2, .int .i64 f3] 55 (0, 0)) ∧ w0.heap.size ≤ g
theorem IsS55.grown {w0 W : World} {g : Nat} {f0 : ByteArray} {f1 : Int} {f2 : Int} {f3 : Int} {W1 : World} {row : Option Nat} (h : IsS55 w0 W g f0 f1 f2 f3) (hw : W.grownBy W1 row) (hne : some g ≠ row) : IsS55 w0 W1 g f0 f1 f2 f3:=by
 (obtain ⟨hb,hg⟩:=h);(exact ⟨blk_grown hb hw hne,hg⟩)
theorem IsS55.kept {w0 W : World} {g : Nat} {f0 : ByteArray} {f1 : Int} {f2 : Int} {f3 : Int} {W1 : World} {S : Nat → Prop} (h : IsS55 w0 W g f0 f1 f2 f3) (hk : Kept W W1 S) (hne : ¬ S g) : IsS55 w0 W1 g f0 f1 f2 f3:=by
 (obtain ⟨hb,hg⟩:=h);(exact ⟨blk_kept hb hk hne,hg⟩)
theorem IsS55.below {w0 W : World} {g : Nat} {f0 : ByteArray} {f1 : Int} {f2 : Int} {f3 : Int} {W1 : World} (h : IsS55 w0 W g f0 f1 f2 f3) (hw : Below W.heap.size W W1) : IsS55 w0 W1 g f0 f1 f2 f3:=h.grown (grown_of_below hw none) (by simp)
theorem IsS55.alloc {w0 W : World} {g : Nat} {f0 : ByteArray} {f1 : Int} {f2 : Int} {f3 : Int} (h : IsS55 w0 W g f0 f1 f2 f3) (o : Obj) : IsS55 w0 (W.alloc o) g f0 f1 f2 f3:=h.below (below_alloc (Below.refl _ _) o)
theorem IsS55.drewN {w0 W : World} {g : Nat} {f0 : ByteArray} {f1 : Int} {f2 : Int} {f3 : Int} (h : IsS55 w0 W g f0 f1 f2 f3) (m : Nat) : IsS55 w0 (W.drewN m) g f0 f1 f2 f3:=h
theorem IsS55.drew {w0 W : World} {g : Nat} {f0 : ByteArray} {f1 : Int} {f2 : Int} {f3 : Int} (h : IsS55 w0 W g f0 f1 f2 f3) : IsS55 w0 W.drew g f0 f1 f2 f3:=h
theorem IsS55.at_ {w0 W : World} {g : Nat} {f0 : ByteArray} {f1 : Int} {f2 : Int} {f3 : Int} {w' : World} {m : Nat} (hq : W.drewN m = w') (h : IsS55 w0 W g f0 f1 f2 f3) : IsS55 w0 w' g f0 f1 f2 f3:=by subst hq;exact IsS55.drewN h m
theorem IsS55.own_ne {w0 W : World} {g : Nat} {f0 : ByteArray} {f1 : Int} {f2 : Int} {f3 : Int} {α : Type} {d : Kd α} {e : Nat} {base : Nat} {ok : Nat → Prop} {v : Value} {xs : List α} (h : IsS55 w0 W g f0 f1 f2 f3) (ho : d.R e W base ok v xs) (ht : e ≠ 55) : some g ≠ v.ownBlock:=by
 (obtain ⟨hb,hg⟩:=h);(exact Kd.R_ne ho hb ht)
theorem IsS55.ge {w0 W : World} {g : Nat} {f0 : ByteArray} {f1 : Int} {f2 : Int} {f3 : Int} (h : IsS55 w0 W g f0 f1 f2 f3) : w0.heap.size ≤ g:=by
 (obtain ⟨hb,hg⟩:=h);(exact hg)
theorem cellS55_0 {W : World} {g : Nat} {f0 : ByteArray} {f1 : Int} {f2 : Int} {f3 : Int} (h : W.heap[g]? = some (.cells #[.string f0,.int .i64 f1,.int .i64 f2,.int .i64 f3] 55 (0,0))) : W.cell? ⟨g,0,none⟩ = some (.string f0):=(blk_cell h 0).trans rfl
theorem IsS55.set_0 {w0 W : World} {g : Nat} {f0 : ByteArray} {f1 : Int} {f2 : Int} {f3 : Int} (h : IsS55 w0 W g f0 f1 f2 f3) (x : ByteArray) : IsS55 w0 (W.setCell ⟨g,0,none⟩ (.string x)) g x f1 f2 f3:=by
 (obtain ⟨hb,hg⟩:=h);(exact ⟨by simpa using blk_set hb 0 (.string x),hg⟩)
theorem cellS55_1 {W : World} {g : Nat} {f0 : ByteArray} {f1 : Int} {f2 : Int} {f3 : Int} (h : W.heap[g]? = some (.cells #[.string f0,.int .i64 f1,.int .i64 f2,.int .i64 f3] 55 (0,0))) : W.cell? ⟨g,1,none⟩ = some (.int .i64 f1):=(blk_cell h 1).trans rfl
theorem IsS55.set_1 {w0 W : World} {g : Nat} {f0 : ByteArray} {f1 : Int} {f2 : Int} {f3 : Int} (h : IsS55 w0 W g f0 f1 f2 f3) (x : Int) : IsS55 w0 (W.setCell ⟨g,1,none⟩ (.int .i64 x)) g f0 x f2 f3:=by
 (obtain ⟨hb,hg⟩:=h);(exact ⟨by simpa using blk_set hb 1 (.int .i64 x),hg⟩)
theorem cellS55_2 {W : World} {g : Nat} {f0 : ByteArray} {f1 : Int} {f2 : Int} {f3 : Int} (h : W.heap[g]? = some (.cells #[.string f0,.int .i64 f1,.int .i64 f2,.int .i64 f3] 55 (0,0))) : W.cell? ⟨g,2,none⟩ = some (.int .i64 f2):=(blk_cell h 2).trans rfl
theorem IsS55.set_2 {w0 W : World} {g : Nat} {f0 : ByteArray} {f1 : Int} {f2 : Int} {f3 : Int} (h : IsS55 w0 W g f0 f1 f2 f3) (x : Int) : IsS55 w0 (W.setCell ⟨g,2,none⟩ (.int .i64 x)) g f0 f1 x f3:=by
 (obtain ⟨hb,hg⟩:=h);(exact ⟨by simpa using blk_set hb 2 (.int .i64 x),hg⟩)
theorem cellS55_3 {W : World} {g : Nat} {f0 : ByteArray} {f1 : Int} {f2 : Int} {f3 : Int} (h : W.heap[g]? = some (.cells #[.string f0,.int .i64 f1,.int .i64 f2,.int .i64 f3] 55 (0,0))) : W.cell? ⟨g,3,none⟩ = some (.int .i64 f3):=(blk_cell h 3).trans rfl
theorem IsS55.set_3 {w0 W : World} {g : Nat} {f0 : ByteArray} {f1 : Int} {f2 : Int} {f3 : Int} (h : IsS55 w0 W g f0 f1 f2 f3) (x : Int) : IsS55 w0 (W.setCell ⟨g,3,none⟩ (.int .i64 x)) g f0 f1 f2 x:=by
 (obtain ⟨hb,hg⟩:=h);(exact ⟨by simpa using blk_set hb 3 (.int .i64 x),hg⟩)
def array_reader_well.f (s0_0 : ByteArray) (s0_1 : Int) (s0_2 : Int) (s0_3 : Int) : Option (Bool × ByteArray × Int × Int × Int) := some ((s0_2 == 0 && (s0_3 == 0)), s0_0, s0_1, s0_2, s0_3)
set_option maxHeartbeats 8000000 in
set_option maxRecDepth 100000 in
theorem array_reader_well.calls (g : Nat) (s0_0 : ByteArray) (s0_1 : Int) (s0_2 : Int) (s0_3 : Int) (r1 : Bool) (r2 : ByteArray) (r3 : Int) (r4 : Int) (r5 : Int) (w0 w : World) (hI : IsS55 w0 w g s0_0 s0_1 s0_2 s0_3) (hB : Below w0.heap.size w0 w) (h : array_reader_well.f s0_0 s0_1 s0_2 s0_3 = some (r1,r2,r3,r4,r5)) :
  Calls Tryd.prog 22 #[.pointer (some ⟨g,0,none⟩)] w fun e w' => e = .returned (.bool r1)∧IsS55 w0 w' g r2 r3 r4 r5∧Below w0.heap.size w0 w'∧KeepBut w w' g none:=by
 (have hu36:=Tryd.underlying36);(have HI0:=Aside0.mk hI);(have HK:=Aside0.mk (KeepBut.refl w g none));(have HL:=Aside0.mk hB.size);(clear hI);(have HW0:=Aside0.mk hB.size);(have HB:=Aside0.mk hB);(clear hB);(have H : (some ((s0_2 == 0 && (s0_3 == 0)),s0_0,s0_1,s0_2,s0_3)) = some (r1,r2,r3,r4,r5):=h);(clear h);(simp only [Option.some.injEq,Prod.mk.injEq] at H);(obtain ⟨rfl,rfl,rfl,rfl,rfl⟩:=H);(obtain ⟨HGz2,hgz2⟩:=HI0.out);(have hcz2_0:=cellS55_0 HGz2);(have hcz2_1:=cellS55_1 HGz2);(have hcz2_2:=cellS55_2 HGz2);(have hcz2_3:=cellS55_3 HGz2);(have hfz2_0:=blk_frozen HGz2 0);(have hfz2_1:=blk_frozen HGz2 1);(have hfz2_2:=blk_frozen HGz2 2);(have hfz2_3:=blk_frozen HGz2 3);(clear HGz2 hgz2);(go_enter Tryd.func22,Tryd.ntmps22);(go_wp2);(go_ret);(exact ⟨by first|rfl|(simp [errW_none,errW_some] <;> rfl)|(simp [*,errW_none,errW_some] <;> rfl),by repeat (first|(with_reducible first|exact HI0.out|apply IsS55.alloc|apply IsS55.drewN|apply IsS55.drew|apply IsS55.set_0|apply IsS55.set_1|apply IsS55.set_2|apply IsS55.set_3)|exact HI0.out),by repeat (first|(with_reducible first|exact HB.out|apply below_alloc|apply pw_below_drewN|apply below_drew1|refine below_set ?_ (IsS55.ge HI0.out))|exact HB.out),by repeat (first|(with_reducible first|exact HK.out|apply KeepBut.set_|apply keep_drewN|apply keep_drew|apply keep_alloc)|exact HK.out)⟩)
def array_reader_wrong.f (s0_0 : ByteArray) (s0_1 : Int) (s0_2 : Int) (s0_3 : Int) (a1 : Int) : Option (ByteArray × Int × Int × Int) := (array_reader_well.f s0_0 s0_1 s0_2 s0_3).bind fun bt165 => (if bt165.1 = true then (if a1 = (bt165.2.1.size : Int) then (some (bt165.2.1, bt165.2.2.1, 4, a1)) else (some (bt165.2.1, bt165.2.2.1, 3, a1))) else (some (bt165.2.1, bt165.2.2.1, bt165.2.2.2.1, bt165.2.2.2.2)))
set_option maxHeartbeats 8000000 in
set_option maxRecDepth 100000 in
theorem array_reader_wrong.calls (g : Nat) (s0_0 : ByteArray) (s0_1 : Int) (s0_2 : Int) (s0_3 : Int) (a1 : Int) (r1 : ByteArray) (r2 : Int) (r3 : Int) (r4 : Int) (w0 w : World) (hI : IsS55 w0 w g s0_0 s0_1 s0_2 s0_3) (hB : Below w0.heap.size w0 w) (h : array_reader_wrong.f s0_0 s0_1 s0_2 s0_3 a1 = some (r1,r2,r3,r4)) :
  Calls Tryd.prog 26 #[.pointer (some ⟨g,0,none⟩),.int .i64 a1] w fun e w' => e = .returned (.tuple #[])∧IsS55 w0 w' g r1 r2 r3 r4∧Below w0.heap.size w0 w'∧KeepBut w w' g none:=by
 (have hu36:=Tryd.underlying36);(have HI0:=Aside0.mk hI);(have HK:=Aside0.mk (KeepBut.refl w g none));(have HL:=Aside0.mk hB.size);(clear hI);(have HW0:=Aside0.mk hB.size);(have HB:=Aside0.mk hB);(clear hB);(have H : ((array_reader_well.f s0_0 s0_1 s0_2 s0_3).bind fun bt165 => (if bt165.1 = true then (if a1 = (bt165.2.1.size : Int) then (some (bt165.2.1,bt165.2.2.1,4,a1)) else (some (bt165.2.1,bt165.2.2.1,3,a1))) else (some (bt165.2.1,bt165.2.2.1,bt165.2.2.2.1,bt165.2.2.2.2)))) = some (r1,r2,r3,r4):=h);(clear h);(replace H:=Option.bind_eq_some_iff.mp H);(obtain ⟨⟨t165,t166,t167,t168,t169⟩,A30,H⟩:=H);(replace H : (if t165 = true then (if a1 = (t166.size : Int) then (some (t166,t167,4,a1)) else (some (t166,t167,3,a1))) else (some (t166,t167,t168,t169))) = some (r1,r2,r3,r4):=H);(have A3:=Aside0.mk A30);(clear A30);(by_cases c4 : t165 = true)
 ·(subst c4);(have H1 : (if a1 = (t166.size : Int) then (some (t166,t167,4,a1)) else (some (t166,t167,3,a1))) = some (r1,r2,r3,r4):=by rw [if_pos rfl] at H;exact H);(clear H);(have H:=H1);(clear H1);(by_cases c5 : a1 = (t166.size : Int))
  ·(rw [if_pos c5] at H);(have c5b0 : (a1 == (t166.size : Int)) = true:=beq_iff_eq.mpr c5);(have c5b1 : (a1 != (t166.size : Int)) = false:=bne_eq_false_iff_eq.mpr c5);(clear c5);(simp only [Option.some.injEq,Prod.mk.injEq] at H);(obtain ⟨rfl,rfl,rfl,rfl⟩:=H);(go_enter Tryd.func26,Tryd.ntmps26);(go_wp2_with (first|((with_reducible refine gate_callee (f:=22) rfl ?_);refine goesL_ (some 5) rfl rfl Tryd.func22 (by kernel_rfl) rfl #[.pointer (some ⟨g,0,none⟩)] rfl (by (try simp only [List.map_toArray,List.map_cons,List.map_nil]);first|done|rfl|(simp only [List.length_drop,List.length_take];rfl)) ?_;(with_reducible refine (array_reader_well.calls g s0_0 s0_1 s0_2 s0_3 true t166 t167 t168 t169 w0 _ ?side1 ?side2 A3.out).mono ?_);(case side1 => repeat (first|(with_reducible first|exact HI0.out|apply IsS55.alloc|apply IsS55.drewN|apply IsS55.drew|apply IsS55.set_0|apply IsS55.set_1|apply IsS55.set_2|apply IsS55.set_3)|exact HI0.out));(case side2 => repeat (first|(with_reducible first|exact HB.out|apply below_alloc|apply pw_below_drewN|apply below_drew1|refine below_set ?_ (IsS55.ge HI0.out))|exact HB.out));rintro e w6 ⟨rfl,hi,hb,hk⟩;refine ⟨_,rfl,?_⟩;have n0_:=Aside0.mk (KeepBut.trans (by repeat (first|(with_reducible first|exact HK.out|apply KeepBut.set_|apply keep_drewN|apply keep_drew|apply keep_alloc)|exact HK.out)) hk (.inl rfl));have n1_:=Aside0.mk (hb);have n2_:=Aside0.mk (hi);clear HK;clear HB;clear HI0;have HK:=n0_;have HB:=n1_;have HI0:=n2_;clear n0_ n1_ n2_;(try clear hb);(try clear hb2);(try clear hk);(try clear hi);obtain ⟨HGz7,hgz7⟩:=HI0.out;have hcz7_0:=cellS55_0 HGz7;have hcz7_1:=cellS55_1 HGz7;have hcz7_2:=cellS55_2 HGz7;have hcz7_3:=cellS55_3 HGz7;have hfz7_0:=blk_frozen HGz7 0;have hfz7_1:=blk_frozen HGz7 1;have hfz7_2:=blk_frozen HGz7 2;have hfz7_3:=blk_frozen HGz7 3;clear HGz7 hgz7)))
   first|go_end0|((try simp only [Exit.inBlock,Exit.then]);refine bodyPost_ret (results_none rfl _ _ _) rfl ?_)
   (exact ⟨by first|rfl|(simp [errW_none,errW_some] <;> rfl)|(simp [*,errW_none,errW_some] <;> rfl),by repeat (first|(with_reducible first|exact HI0.out|apply IsS55.alloc|apply IsS55.drewN|apply IsS55.drew|apply IsS55.set_0|apply IsS55.set_1|apply IsS55.set_2|apply IsS55.set_3)|exact HI0.out),by repeat (first|(with_reducible first|exact HB.out|apply below_alloc|apply pw_below_drewN|apply below_drew1|refine below_set ?_ (IsS55.ge HI0.out))|exact HB.out),by repeat (first|(with_reducible first|exact HK.out|apply KeepBut.set_|apply keep_drewN|apply keep_drew|apply keep_alloc)|exact HK.out)⟩)
  ·(rw [if_neg c5] at H);(have c5b0 : (a1 == (t166.size : Int)) = false:=beq_eq_false_iff_ne.mpr c5);(have c5b1 : (a1 != (t166.size : Int)) = true:=bne_iff_ne.mpr c5);(simp only [Option.some.injEq,Prod.mk.injEq] at H);(obtain ⟨rfl,rfl,rfl,rfl⟩:=H);(go_enter Tryd.func26,Tryd.ntmps26);(go_wp2_with (first|((with_reducible refine gate_callee (f:=22) rfl ?_);refine goesL_ (some 5) rfl rfl Tryd.func22 (by kernel_rfl) rfl #[.pointer (some ⟨g,0,none⟩)] rfl (by (try simp only [List.map_toArray,List.map_cons,List.map_nil]);first|done|rfl|(simp only [List.length_drop,List.length_take];rfl)) ?_;(with_reducible refine (array_reader_well.calls g s0_0 s0_1 s0_2 s0_3 true t166 t167 t168 t169 w0 _ ?side1 ?side2 A3.out).mono ?_);(case side1 => repeat (first|(with_reducible first|exact HI0.out|apply IsS55.alloc|apply IsS55.drewN|apply IsS55.drew|apply IsS55.set_0|apply IsS55.set_1|apply IsS55.set_2|apply IsS55.set_3)|exact HI0.out));(case side2 => repeat (first|(with_reducible first|exact HB.out|apply below_alloc|apply pw_below_drewN|apply below_drew1|refine below_set ?_ (IsS55.ge HI0.out))|exact HB.out));rintro e w8 ⟨rfl,hi,hb,hk⟩;refine ⟨_,rfl,?_⟩;have n0_:=Aside0.mk (KeepBut.trans (by repeat (first|(with_reducible first|exact HK.out|apply KeepBut.set_|apply keep_drewN|apply keep_drew|apply keep_alloc)|exact HK.out)) hk (.inl rfl));have n1_:=Aside0.mk (hb);have n2_:=Aside0.mk (hi);clear HK;clear HB;clear HI0;have HK:=n0_;have HB:=n1_;have HI0:=n2_;clear n0_ n1_ n2_;(try clear hb);(try clear hb2);(try clear hk);(try clear hi);obtain ⟨HGz9,hgz9⟩:=HI0.out;have hcz9_0:=cellS55_0 HGz9;have hcz9_1:=cellS55_1 HGz9;have hcz9_2:=cellS55_2 HGz9;have hcz9_3:=cellS55_3 HGz9;have hfz9_0:=blk_frozen HGz9 0;have hfz9_1:=blk_frozen HGz9 1;have hfz9_2:=blk_frozen HGz9 2;have hfz9_3:=blk_frozen HGz9 3;clear HGz9 hgz9)))
   first|go_end0|((try simp only [Exit.inBlock,Exit.then]);refine bodyPost_ret (results_none rfl _ _ _) rfl ?_)
   (exact ⟨by first|rfl|(simp [errW_none,errW_some] <;> rfl)|(simp [*,errW_none,errW_some] <;> rfl),by repeat (first|(with_reducible first|exact HI0.out|apply IsS55.alloc|apply IsS55.drewN|apply IsS55.drew|apply IsS55.set_0|apply IsS55.set_1|apply IsS55.set_2|apply IsS55.set_3)|exact HI0.out),by repeat (first|(with_reducible first|exact HB.out|apply below_alloc|apply pw_below_drewN|apply below_drew1|refine below_set ?_ (IsS55.ge HI0.out))|exact HB.out),by repeat (first|(with_reducible first|exact HK.out|apply KeepBut.set_|apply keep_drewN|apply keep_drew|apply keep_alloc)|exact HK.out)⟩)
 ·(replace c4:=Bool.eq_false_iff.mpr c4);(subst c4);(have H1 : (some (t166,t167,t168,t169)) = some (r1,r2,r3,r4):=by rw [if_neg (show ¬ (false = true) by decide)] at H;exact H);(clear H);(have H:=H1);(clear H1);(simp only [Option.some.injEq,Prod.mk.injEq] at H);(obtain ⟨rfl,rfl,rfl,rfl⟩:=H);(go_enter Tryd.func26,Tryd.ntmps26);(go_wp2_with (first|((with_reducible refine gate_callee (f:=22) rfl ?_);refine goesL_ (some 5) rfl rfl Tryd.func22 (by kernel_rfl) rfl #[.pointer (some ⟨g,0,none⟩)] rfl (by (try simp only [List.map_toArray,List.map_cons,List.map_nil]);first|done|rfl|(simp only [List.length_drop,List.length_take];rfl)) ?_;(with_reducible refine (array_reader_well.calls g s0_0 s0_1 s0_2 s0_3 false t166 t167 t168 t169 w0 _ ?side1 ?side2 A3.out).mono ?_);(case side1 => repeat (first|(with_reducible first|exact HI0.out|apply IsS55.alloc|apply IsS55.drewN|apply IsS55.drew|apply IsS55.set_0|apply IsS55.set_1|apply IsS55.set_2|apply IsS55.set_3)|exact HI0.out));(case side2 => repeat (first|(with_reducible first|exact HB.out|apply below_alloc|apply pw_below_drewN|apply below_drew1|refine below_set ?_ (IsS55.ge HI0.out))|exact HB.out));rintro e w10 ⟨rfl,hi,hb,hk⟩;refine ⟨_,rfl,?_⟩;have n0_:=Aside0.mk (KeepBut.trans (by repeat (first|(with_reducible first|exact HK.out|apply KeepBut.set_|apply keep_drewN|apply keep_drew|apply keep_alloc)|exact HK.out)) hk (.inl rfl));have n1_:=Aside0.mk (hb);have n2_:=Aside0.mk (hi);clear HK;clear HB;clear HI0;have HK:=n0_;have HB:=n1_;have HI0:=n2_;clear n0_ n1_ n2_;(try clear hb);(try clear hb2);(try clear hk);(try clear hi))))
  first|go_end0|((try simp only [Exit.inBlock,Exit.then]);refine bodyPost_ret (results_none rfl _ _ _) rfl ?_)
  (exact ⟨by first|rfl|(simp [errW_none,errW_some] <;> rfl)|(simp [*,errW_none,errW_some] <;> rfl),by repeat (first|(with_reducible first|exact HI0.out|apply IsS55.alloc|apply IsS55.drewN|apply IsS55.drew|apply IsS55.set_0|apply IsS55.set_1|apply IsS55.set_2|apply IsS55.set_3)|exact HI0.out),by repeat (first|(with_reducible first|exact HB.out|apply below_alloc|apply pw_below_drewN|apply below_drew1|refine below_set ?_ (IsS55.ge HI0.out))|exact HB.out),by repeat (first|(with_reducible first|exact HK.out|apply KeepBut.set_|apply keep_drewN|apply keep_drew|apply keep_alloc)|exact HK.out)⟩)
def marlinspikeref01_Ints.l0 : Nat → List Int → List Int → Int → Option (Bool)
 | 0, _, _, _ => none
 | k + 1, x0, x1, x5 => if x5 < (x0.length : Int) then (if 0 ≤ x5 then (if x5 < (x1.length : Int) then (if (rd x0 x5) = (rd x1 x5) then (marlinspikeref01_Ints.l0 k x0 x1 (wrap64 (x5 + 1))) else (some false)) else (none)) else (none)) else (some true)
def marlinspikeref01_Ints.f (k : Nat) (l0 : List Int) (l1 : List Int) : Option (Bool) := if (l0.length : Int) = (l1.length : Int) then (marlinspikeref01_Ints.l0 k l0 l1 0) else (some false)
theorem marlinspikeref01_Ints.mono_l : ∀ k,(∀ y0 y1 y2,LeO (marlinspikeref01_Ints.l0 k y0 y1 y2) (marlinspikeref01_Ints.l0 (k + 1) y0 y1 y2))
|0 => fun _ _ _ r h => by simp [marlinspikeref01_Ints.l0] at h
|k + 1 => by
  have ih0:=marlinspikeref01_Ints.mono_l k
  ·intro y0 y1 y2
   unfold marlinspikeref01_Ints.l0
   repeat' first
  |(with_reducible exact ih0 _ _ _)
  |(with_reducible exact LeO.refl _)
  |(with_reducible exact LeO.none _)
  |(with_reducible refine LeO.ite ?_ ?_)
  |(with_reducible refine LeO.bind ?_ (fun _ => ?_))
  |exact ih0 _ _ _
  |exact LeO.none _
  |refine LeO.ite ?_ ?_
  |refine LeO.bind ?_ (fun _ => ?_)
theorem marlinspikeref01_Ints.mono : ∀ a0 a1 k,LeO (marlinspikeref01_Ints.f k a0 a1) (marlinspikeref01_Ints.f (k + 1) a0 a1):=by
 (intro a0 a1 k);(have ih0:=marlinspikeref01_Ints.mono_l k);(unfold marlinspikeref01_Ints.f)
 repeat' first
  |(with_reducible exact ih0 _ _ _)
  |(with_reducible exact LeO.refl _)
  |(with_reducible exact LeO.none _)
  |(with_reducible refine LeO.ite ?_ ?_)
  |(with_reducible refine LeO.bind ?_ (fun _ => ?_))
  |exact ih0 _ _ _
  |exact LeO.none _
  |refine LeO.ite ?_ ?_
  |refine LeO.bind ?_ (fun _ => ?_)
set_option maxHeartbeats 8000000 in
set_option maxRecDepth 100000 in
theorem marlinspikeref01_Ints.calls (k : Nat) (A0 : Option Addr) (c0 : Nat) (l0 : List Int) (A1 : Option Addr) (c1 : Nat) (l1 : List Int) (r : Bool) (w : World) (hr0 : Kd.C (Kd.int .i64) w A0 l0.length l0) (hc0 : l0.length ≤ c0) (hr1 : Kd.C (Kd.int .i64) w A1 l1.length l1) (hc1 : l1.length ≤ c1) (h : marlinspikeref01_Ints.f k l0 l1 = some r) :
  Calls Tryd.prog 15 #[.slice A0 l0.length c0,.slice A1 l1.length c1] w fun e w' => e = .returned (.bool r)∧Drawn0 w w':=by
 (have HR0:=Aside0.mk hr0);(have HC0:=Aside0.mk hc0);(clear hr0 hc0);(have HR1:=Aside0.mk hr1);(have HC1:=Aside0.mk hc1);(clear hr1 hc1);(have H : (if (l0.length : Int) = (l1.length : Int) then (marlinspikeref01_Ints.l0 k l0 l1 0) else (some false)) = some r:=h);(clear h);(by_cases c3 : (l0.length : Int) = (l1.length : Int))
 ·(rw [if_pos c3] at H);(have c3b0 : ((l0.length : Int) == (l1.length : Int)) = true:=beq_iff_eq.mpr c3);(have c3b1 : ((l0.length : Int) != (l1.length : Int)) = false:=bne_eq_false_iff_eq.mpr c3);(have c3b2 : (l0.length == l1.length) = true:=by first|simpa using c3|(simp at c3 ⊢;omega));(clear c3);(have H':=Aside0.mk H);(clear H);(go_enter Tryd.func15,Tryd.ntmps15);(go_wp2)
  repeat (go_quiet (fail);try go_wp2)
  (go_loopg [5] k (fun kq v5 w' => ∃ (x5_1 : Int),v5 = .int .i64 x5_1∧Aside0 (marlinspikeref01_Ints.l0 kq l0 l1 x5_1 = some r)∧Aside0 (kq ≤ k)∧Drawn0 w w'))
  case atStart => exact ⟨(0),(by first|rfl|(simp;done)|(simp [*];done)),H',⟨Nat.le_refl _⟩,by repeat (first|exact Drawn0.refl _|apply Drawn0.step)⟩
  case round =>
   (clear H');(try clear c1);(try clear p2);(try clear c3);(try clear c3b0);(try clear c3b1);(try clear c3b2);(obtain ⟨x5_1,rfl,HA,HK1,⟨m1,rfl⟩⟩:=hrel)
   cases gk with
  |zero => exact absurd HA.out (by simp [marlinspikeref01_Ints.l0])
  |succ k1 =>
    (have H:=HA.out);(clear HA);(simp only [marlinspikeref01_Ints.l0] at H);(by_cases c4 : x5_1 < (l0.length : Int))
    ·(rw [if_pos c4] at H);(have c4b0 : decide (x5_1 < (l0.length : Int)) = true:=decide_eq_true c4);(clear c4);(by_cases c5 : 0 ≤ x5_1)
     ·(rw [if_pos c5] at H);(have c5b0 : decide (0 ≤ x5_1) = true:=decide_eq_true c5);(clear c5);(by_cases c6 : x5_1 < (l1.length : Int))
      ·(rw [if_pos c6] at H);(have c6b0 : decide (x5_1 < (l1.length : Int)) = true:=decide_eq_true c6);(clear c6);(by_cases c7 : (rd l0 x5_1) = (rd l1 x5_1))
       ·(rw [if_pos c7] at H);(have c7b0 : ((rd l0 x5_1) == (rd l1 x5_1)) = true:=beq_iff_eq.mpr c7);(have c7b1 : ((rd l0 x5_1) != (rd l1 x5_1)) = false:=bne_eq_false_iff_eq.mpr c7);(clear c7);(have H':=Aside0.mk H);(clear H);(have p170 : 0 ≤ (x5_1 : Int):=of_decide_eq_true (by first|(with_reducible assumption)|assumption));(have q170 : x5_1 < (l0.length : Int):=of_decide_eq_true (by first|(with_reducible assumption)|assumption));(obtain ⟨ad170,e170,hx170_0⟩:=Kd.at_int HR0.out x5_1 p170 q170)
        cases e170
        (replace p170:=eq_true p170);(replace q170:=eq_true q170);(have p171 : 0 ≤ (x5_1 : Int):=of_decide_eq_true (by first|(with_reducible assumption)|assumption));(have q171 : x5_1 < (l1.length : Int):=of_decide_eq_true (by first|(with_reducible assumption)|assumption));(obtain ⟨ad171,e171,hx171_0⟩:=Kd.at_int HR1.out x5_1 p171 q171)
        cases e171
        (replace p171:=eq_true p171);(replace q171:=eq_true q171);(go_wp2)
        repeat (go_quiet (fail);try go_wp2)
        (go_roundg k1)
        case measure => have:=HK1.out;omega
        case rel => exact ⟨(wrap64 (x5_1 + 1)),(by first|rfl|(simp;done)|(simp [*];done)),H',⟨by have:=HK1.out;omega⟩,by repeat (first|exact Drawn0.refl _|apply Drawn0.step)⟩
       ·(rw [if_neg c7] at H);(have c7b0 : ((rd l0 x5_1) == (rd l1 x5_1)) = false:=beq_eq_false_iff_ne.mpr c7);(have c7b1 : ((rd l0 x5_1) != (rd l1 x5_1)) = true:=bne_iff_ne.mpr c7);(obtain rfl:=Option.some.inj H);(have p170 : 0 ≤ (x5_1 : Int):=of_decide_eq_true (by first|(with_reducible assumption)|assumption));(have q170 : x5_1 < (l0.length : Int):=of_decide_eq_true (by first|(with_reducible assumption)|assumption));(obtain ⟨ad170,e170,hx170_0⟩:=Kd.at_int HR0.out x5_1 p170 q170)
        cases e170
        (replace p170:=eq_true p170);(replace q170:=eq_true q170);(have p171 : 0 ≤ (x5_1 : Int):=of_decide_eq_true (by first|(with_reducible assumption)|assumption));(have q171 : x5_1 < (l1.length : Int):=of_decide_eq_true (by first|(with_reducible assumption)|assumption));(obtain ⟨ad171,e171,hx171_0⟩:=Kd.at_int HR1.out x5_1 p171 q171)
        cases e171
        (replace p171:=eq_true p171);(replace q171:=eq_true q171);(go_wp2)
        repeat (go_quiet (fail);try go_wp2)
        (go_ret);(exact ⟨by first|rfl|(simp;done)|(simp [*];done),by repeat (first|exact Drawn0.refl _|apply Drawn0.step)⟩)
      ·(rw [if_neg c6] at H);(exact absurd H (by simp))
     ·(rw [if_neg c5] at H);(exact absurd H (by simp))
    ·(rw [if_neg c4] at H);(have c4b0 : decide (x5_1 < (l0.length : Int)) = false:=decide_eq_false c4);(clear c4);(obtain rfl:=Option.some.inj H);(go_wp2)
     repeat (go_quiet (fail);try go_wp2)
     (go_ret);(exact ⟨by first|rfl|(simp;done)|(simp [*];done),by repeat (first|exact Drawn0.refl _|apply Drawn0.step)⟩)
 ·(rw [if_neg c3] at H);(have c3b0 : ((l0.length : Int) == (l1.length : Int)) = false:=beq_eq_false_iff_ne.mpr c3);(have c3b1 : ((l0.length : Int) != (l1.length : Int)) = true:=bne_iff_ne.mpr c3);(have c3b2 : (l0.length == l1.length) = false:=by first|simpa using c3|(simp at c3 ⊢;omega));(obtain rfl:=Option.some.inj H);(go_enter Tryd.func15,Tryd.ntmps15);(go_wp2)
  repeat (go_quiet (fail);try go_wp2)
  (go_ret);(exact ⟨by first|rfl|(simp;done)|(simp [*];done),by repeat (first|exact Drawn0.refl _|apply Drawn0.step)⟩)
end Go.Proofs.YtnfpchpnephheaaDoor.PA
end
section
namespace Go.Proofs.YtnfpchpnephheaaDoor.PA
open Go.RowKit Go.Proofs.YtnfpchpnephheaaDoor.Lib Go.Proofs.YtnfpchpnephheaaDoorW.PrintWords Go.Proofs.YtnfpchpnephheaaDoorW.PrintLast Go.Proofs.YtnfpchpnephheaaDoorW.PrintMore
set_option linter.unusedVariables false
set_option linter.unusedSimpArgs false
attribute [local go_sem high] eqA36
set_option maxHeartbeats 2000000 in
set_option maxRecDepth 100000 in
theorem well_same (g : Nat) (s : ByteArray) (p y z : Int) (w : World) (hc : w.heap[g]? = some (.cells #[.string s, .int .i64 p, .int .i64 y, .int .i64 z] 55 (0, 0))) (b : Bool) (hb : (y == 0 && (z == 0)) = b) :
    Calls Tryd.prog 22 #[.pointer (some ⟨g, 0, none⟩)] w fun e w' => e = .returned (.bool b) ∧ w' = w := by
  have HB := Aside0.mk hb
  clear hb
  have hu36 := Tryd.underlying36
  have hcz2_0 := cellS55_0 hc
  have hcz2_1 := cellS55_1 hc
  have hcz2_2 := cellS55_2 hc
  have hcz2_3 := cellS55_3 hc
  clear hc
  go_enter Tryd.func22, Tryd.ntmps22
  go_wp2
  go_ret
  rw [HB.out]
  exact ⟨rfl, rfl⟩
def array_reader_next.f (s0_0 : ByteArray) (s0_1 s0_2 s0_3 a1 : Int) : Option (Bool × ByteArray × Int × Int × Int) :=
  if (s0_2 == 0 && (s0_3 == 0)) = true then
    (if s0_1 = (s0_0.size : Int) then some (false, s0_0, s0_1, s0_2, s0_3)
     else if 0 ≤ s0_1 then (if s0_1 < (s0_0.size : Int) then (if bt s0_0 s0_1 = a1 then some (true, s0_0, wrap64 (s0_1 + 1), s0_2, s0_3) else some (false, s0_0, s0_1, s0_2, s0_3)) else none) else none)
  else some (false, s0_0, s0_1, s0_2, s0_3)
set_option maxHeartbeats 4000000 in
set_option maxRecDepth 100000 in
theorem array_reader_next.calls (g : Nat) (s0_0 : ByteArray) (s0_1 : Int) (s0_2 : Int) (s0_3 : Int) (a1 : Int) (r1 : Bool) (r2 : ByteArray) (r3 : Int) (r4 : Int) (r5 : Int) (w0 w : World) (hI : IsS55 w0 w g s0_0 s0_1 s0_2 s0_3) (hB : Below w0.heap.size w0 w) (h : array_reader_next.f s0_0 s0_1 s0_2 s0_3 a1 = some (r1, r2, r3, r4, r5)) :
    Calls Tryd.prog 23 #[.pointer (some ⟨g, 0, none⟩), .int .u8 a1] w fun e w' => e = .returned (.bool r1) ∧ IsS55 w0 w' g r2 r3 r4 r5 ∧ Below w0.heap.size w0 w' ∧ KeepBut w w' g none := by
  have HI0 := Aside0.mk hI
  have HK := Aside0.mk (KeepBut.refl w g none)
  have HL := Aside0.mk hB.size
  have HB := Aside0.mk hB
  have hc := hI.1
  clear hI hB
  have hcz_0 := cellS55_0 hc
  have hcz_1 := cellS55_1 hc
  have hfz_0 := blk_frozen hc 0
  have hfz_1 := blk_frozen hc 1
  unfold array_reader_next.f at h
  by_cases c1 : (s0_2 == 0 && (s0_3 == 0)) = true
  · rw [if_pos c1] at h
    have c2 := c1
    clear c1
    have HW : Aside0 (∀ W : World, W.heap[g]? = some (.cells #[.string s0_0, .int .i64 s0_1, .int .i64 s0_2, .int .i64 s0_3] 55 (0, 0)) → Calls Tryd.prog 22 #[.pointer (some ⟨g, 0, none⟩)] W fun e w' => e = .returned (.bool true) ∧ w' = W) := ⟨fun W h => well_same g s0_0 s0_1 s0_2 s0_3 W h true c2⟩
    have HC := Aside0.mk hc
    clear c2 hc
    by_cases c3 : s0_1 = (s0_0.size : Int)
    · rw [if_pos c3] at h
      simp only [Option.some.injEq, Prod.mk.injEq] at h
      obtain ⟨rfl, rfl, rfl, rfl, rfl⟩ := h
      have c4 : (s0_1 == (s0_0.size : Int)) = true := beq_iff_eq.mpr c3
      clear c3
      go_enter Tryd.func23, Tryd.ntmps23
      go_wp2_with fail
      go_quiet ((go_at_call 22; exact Calls.quiet_of_same (HW.out _ (by repeat (first | exact HC.out | refine blk_drewN ?_ _ | refine blk_drew ?_)))))
      go_wp2
      go_ret
      exact ⟨rfl, by repeat (first | (with_reducible first | exact HI0.out | apply IsS55.alloc | apply IsS55.drewN | apply IsS55.drew | apply IsS55.set_1) | exact HI0.out), by repeat (first | (with_reducible first | exact HB.out | apply below_alloc | apply pw_below_drewN | apply below_drew1 | refine below_set ?_ (IsS55.ge HI0.out)) | exact HB.out), by repeat (first | (with_reducible first | exact HK.out | apply KeepBut.set_ | apply keep_drewN | apply keep_drew | apply keep_alloc) | exact HK.out)⟩
    · rw [if_neg c3] at h
      have c4 : (s0_1 == (s0_0.size : Int)) = false := beq_eq_false_iff_ne.mpr c3
      clear c3
      by_cases c5 : 0 ≤ s0_1
      · rw [if_pos c5] at h
        by_cases c6 : s0_1 < (s0_0.size : Int)
        · rw [if_pos c6] at h
          have hx := bt_at s0_0 s0_1
          have p5 : (0 ≤ s0_1) = True := eq_true c5
          have q5 : (s0_1 < (s0_0.size : Int)) = True := eq_true c6
          by_cases c7 : bt s0_0 s0_1 = a1
          · rw [if_pos c7] at h
            simp only [Option.some.injEq, Prod.mk.injEq] at h
            obtain ⟨rfl, rfl, rfl, rfl, rfl⟩ := h
            have c8 : (bt s0_0 s0_1 != a1) = false := bne_eq_false_iff_eq.mpr c7
            clear c7 c5 c6
            go_enter Tryd.func23, Tryd.ntmps23
            go_wp2_with fail
            go_quiet ((go_at_call 22; exact Calls.quiet_of_same (HW.out _ (by repeat (first | exact HC.out | refine blk_drewN ?_ _ | refine blk_drew ?_)))))
            go_wp2
            go_ret
            exact ⟨rfl, by repeat (first | (with_reducible first | exact HI0.out | apply IsS55.alloc | apply IsS55.drewN | apply IsS55.drew | apply IsS55.set_1) | exact HI0.out), by repeat (first | (with_reducible first | exact HB.out | apply below_alloc | apply pw_below_drewN | apply below_drew1 | refine below_set ?_ (IsS55.ge HI0.out)) | exact HB.out), by repeat (first | (with_reducible first | exact HK.out | apply KeepBut.set_ | apply keep_drewN | apply keep_drew | apply keep_alloc) | exact HK.out)⟩
          · rw [if_neg c7] at h
            simp only [Option.some.injEq, Prod.mk.injEq] at h
            obtain ⟨rfl, rfl, rfl, rfl, rfl⟩ := h
            have c8 : (bt s0_0 s0_1 != a1) = true := bne_iff_ne.mpr c7
            clear c7 c5 c6
            go_enter Tryd.func23, Tryd.ntmps23
            go_wp2_with fail
            go_quiet ((go_at_call 22; exact Calls.quiet_of_same (HW.out _ (by repeat (first | exact HC.out | refine blk_drewN ?_ _ | refine blk_drew ?_)))))
            go_wp2
            go_ret
            exact ⟨rfl, by repeat (first | (with_reducible first | exact HI0.out | apply IsS55.alloc | apply IsS55.drewN | apply IsS55.drew | apply IsS55.set_1) | exact HI0.out), by repeat (first | (with_reducible first | exact HB.out | apply below_alloc | apply pw_below_drewN | apply below_drew1 | refine below_set ?_ (IsS55.ge HI0.out)) | exact HB.out), by repeat (first | (with_reducible first | exact HK.out | apply KeepBut.set_ | apply keep_drewN | apply keep_drew | apply keep_alloc) | exact HK.out)⟩
        · rw [if_neg c6] at h; cases h
      · rw [if_neg c5] at h; cases h
  · rw [if_neg c1] at h
    simp only [Option.some.injEq, Prod.mk.injEq] at h
    obtain ⟨rfl, rfl, rfl, rfl, rfl⟩ := h
    have c2 : (s0_2 == 0 && (s0_3 == 0)) = false := by simpa using c1
    have HW : Aside0 (∀ W : World, W.heap[g]? = some (.cells #[.string s0_0, .int .i64 s0_1, .int .i64 s0_2, .int .i64 s0_3] 55 (0, 0)) → Calls Tryd.prog 22 #[.pointer (some ⟨g, 0, none⟩)] W fun e w' => e = .returned (.bool false) ∧ w' = W) := ⟨fun W h => well_same g s0_0 s0_1 s0_2 s0_3 W h false c2⟩
    have HC := Aside0.mk hc
    clear c1 c2 hc
    go_enter Tryd.func23, Tryd.ntmps23
    go_wp2_with fail
    go_quiet ((go_at_call 22; exact Calls.quiet_of_same (HW.out _ (by repeat (first | exact HC.out | refine blk_drewN ?_ _ | refine blk_drew ?_)))))
    go_wp2
    go_ret
    exact ⟨rfl, by repeat (first | (with_reducible first | exact HI0.out | apply IsS55.alloc | apply IsS55.drewN | apply IsS55.drew | apply IsS55.set_1) | exact HI0.out), by repeat (first | (with_reducible first | exact HB.out | apply below_alloc | apply pw_below_drewN | apply below_drew1 | refine below_set ?_ (IsS55.ge HI0.out)) | exact HB.out), by repeat (first | (with_reducible first | exact HK.out | apply KeepBut.set_ | apply keep_drewN | apply keep_drew | apply keep_alloc) | exact HK.out)⟩
end Go.Proofs.YtnfpchpnephheaaDoor.PA
end
section
namespace Go.Proofs.YtnfpchpnephheaaDoor.PA
open Go.RowKit Go.Proofs.YtnfpchpnephheaaDoor.Lib Go.Proofs.YtnfpchpnephheaaDoor.Num Go.Proofs.YtnfpchpnephheaaDoor.Txt Go.Proofs.YtnfpchpnephheaaDoorW.PrintWords Go.Proofs.YtnfpchpnephheaaDoorW.PrintLast Go.Proofs.YtnfpchpnephheaaDoorW.PrintMore
set_option linter.unusedVariables false
set_option linter.unusedSimpArgs false
attribute [local go_sem high] eqA36
def cut10 : ByteArray := ⟨#[48, 49, 50, 51, 52, 53, 54, 55, 56, 57]⟩
theorem cut10_is (c : UInt8) : cut10.data.toList.contains c = isDig c := by
  have h : ∀ n : Fin 256, cut10.data.toList.contains (UInt8.ofNat n.val) = isDig (UInt8.ofNat n.val) := by decide +kernel
  have := h ⟨c.toNat, c.toNat_lt⟩
  simpa using this
def digN (l : List UInt8) : Nat := (l.takeWhile isDig).length
theorem digN_le (l : List UInt8) : digN l ≤ l.length := (List.takeWhile_prefix isDig (l := l)).length_le
theorem drop_while (l : List UInt8) : l.dropWhile isDig = l.drop (digN l) := by
  have h := List.takeWhile_append_dropWhile (p := isDig) (l := l)
  have e : (l.takeWhile isDig ++ l.dropWhile isDig).drop (l.takeWhile isDig).length = l.dropWhile isDig := List.drop_left
  rw [h] at e
  exact e.symm
theorem trim_calls (s : ByteArray) (w : World) :
    Calls Tryd.prog 35 #[.string s, .string cut10] w fun e w' => e = .returned (.string (s.extract (digN (L s)) s.size)) ∧ Below w.heap.size w w' := by
  refine (Any.strings_TrimLeft_laid Tryd.lays161 (by kernel_rfl) s cut10 w (by decide) (by
    intro j b hj
    have hb : b ∈ cut10.data.toList := List.mem_of_getElem? hj
    have : cut10.data.toList.contains b = true := by simpa using hb
    rw [cut10_is, isDig_iff] at this
    omega)).mono ?_
  rintro e w' ⟨rfl, hb⟩
  refine ⟨?_, hb⟩
  have e1 : Go.Lib.trimLeftS s.data.toList cut10.data.toList = (L s).drop (digN (L s)) := by
    unfold Go.Lib.trimLeftS
    rw [← drop_while]
    congr 1
    funext c
    exact cut10_is c
  rw [e1]
  have e2 : (⟨((L s).drop (digN (L s))).toArray⟩ : ByteArray) = s.extract (digN (L s)) s.size := L_inj (by
    rw [L_mk, extract_L, List.take_of_length_le (by rw [List.length_drop, L_length]; exact Nat.le_refl _)])
  rw [e2]
theorem keep_then {w w1 w2 : World} {g : Nat} (h : KeepBut w w1 g none) (k : KeepBut w1 w2 g none) : KeepBut w w2 g none := h.trans k (.inl rfl)
theorem keep_below {w w1 w2 : World} {g : Nat} (h : KeepBut w w1 g none) (k : Below w1.heap.size w1 w2) : KeepBut w w2 g none := h.trans (KeepBut.of_below k g none) (.inl rfl)
def digT (s : ByteArray) (p : Nat) : ByteArray := s.extract p (p + digN ((L s).drop p))
def array_reader_number.f (s : ByteArray) (p y z low : Int) : Option (Int × ByteArray × Int × Int × Int) :=
  if 0 ≤ p ∧ p ≤ (s.size : Int) ∧ s.size ≤ 100000000 then
    if 6 < (digT s p.toNat).size then (array_reader_wrong.f s p y z (wrap64 (p + 6))).bind fun q => some (0, q)
    else if atoiOk (L (digT s p.toNat)) = false ∨ atoiVal (L (digT s p.toNat)) < low then (array_reader_wrong.f s p y z p).bind fun q => some (atoiVal (L (digT s p.toNat)), q.1, wrap64 (q.2.1 + ((digT s p.toNat).size : Int)), q.2.2)
    else some (atoiVal (L (digT s p.toNat)), s, wrap64 (p + ((digT s p.toNat).size : Int)), y, z)
  else none
set_option maxHeartbeats 4000000 in
set_option maxRecDepth 100000 in
theorem array_reader_number.calls (g : Nat) (s : ByteArray) (p y z low : Int) (r1 : Int) (r2 : ByteArray) (r3 : Int) (r4 : Int) (r5 : Int) (w0 w : World) (hI : IsS55 w0 w g s p y z) (hB : Below w0.heap.size w0 w) (h : array_reader_number.f s p y z low = some (r1, r2, r3, r4, r5)) (hG : Glob w) :
    Calls Tryd.prog 24 #[.pointer (some ⟨g, 0, none⟩), .int .i64 low] w fun e w' => e = .returned (.int .i64 r1) ∧ IsS55 w0 w' g r2 r3 r4 r5 ∧ Below w0.heap.size w0 w' ∧ KeepBut w w' g none := by
  unfold array_reader_number.f at h
  split at h
  · rename_i hp
    obtain ⟨hp0, hp1, hp2⟩ := hp
    obtain ⟨p, rfl⟩ := Int.eq_ofNat_of_zero_le hp0
    rw [Int.toNat_natCast] at h
    have HI0 := Aside0.mk hI
    have HK := Aside0.mk (KeepBut.refl w g none)
    have HL := Aside0.mk hB.size
    have HB := Aside0.mk hB
    have HG := Aside0.mk hG
    have H := Aside0.mk h
    have hc := hI.1
    clear hI hB h hG
    have hcz_0 := cellS55_0 hc
    have hcz_1 := cellS55_1 hc
    clear hc
    have hp3 : (p : Int) ≤ 100000000 := by omega
    go_enter Tryd.func24, Tryd.ntmps24
    go_wp2_with fail
    go_quiet (fail)
    go_upto_region 2 with (fail)
    go_cut [6] (fun v6 wc => v6 = .string (digT s p) ∧ Aside0 (Below w.heap.size w wc))
    case first =>
      go_wp2_with fail
      refine (trim_calls (s.extract p s.size) _).mono ?_
      rintro e w2 ⟨rfl, hb2⟩
      have HB2 := Aside0.mk hb2
      clear hb2
      go_wp2
      go_meet
      refine ⟨congrArg Value.string ?_, ⟨below_then (pw_below_drewN (Below.refl _ _) _) (Nat.le_refl _) HB2.out⟩⟩
      apply L_inj
      unfold digT
      have hl : List.take (s.size - p) (List.drop p (L s)) = List.drop p (L s) := List.take_of_length_le (by rw [List.length_drop, L_length]; exact Nat.le_refl _)
      have hn := digN_le ((L s).drop p)
      rw [List.length_drop, L_length] at hn
      rw [extract_L, extract_L, extract_L, hl, List.drop_zero]
      congr 1
      omega
    case rest =>
      obtain ⟨rfl, HC⟩ := hcut
      have HI1 := Aside0.mk (HI0.out.below HC.out)
      have HB1 := Aside0.mk (below_then HB.out HB.out.size HC.out)
      have HK1 := Aside0.mk (keep_below HK.out HC.out)
      have hds : (digT s p).size ≤ s.size := by
        unfold digT; rw [ByteArray.size_extract]; omega
      generalize hD : digT s p = D at *
      have HD := Aside0.mk hD
      have HC0 := HC
      clear hD HC
      have hd2 : D.size ≤ 100000000 := by omega
      have hz := HI1.out.1
      have hcz_2 := cellS55_1 hz
      have hfz_2 := blk_frozen hz 1
      clear hz
      by_cases h6 : 6 < D.size
      · have h6b : decide ((6 : Int) < (D.size : Int)) = true := decide_eq_true (by omega)
        have H2 := H.out
        rw [if_pos h6] at H2
        obtain ⟨⟨s1, p1, y1, z1⟩, h1, h2⟩ := Option.bind_eq_some_iff.mp H2
        simp only [Option.some.injEq, Prod.mk.injEq] at h2
        obtain ⟨rfl, rfl, rfl, rfl, rfl⟩ := h2
        have e6 : wrap64 ((p : Int) + 6) = (p : Int) + 6 := by unfold wrap64; omega
        rw [e6] at h1
        have A1 := Aside0.mk h1
        clear h1 H2 H e6 h6 hcz_0 hcz_1
        go_wp2_with fail
        refine (array_reader_wrong.calls g s (p : Int) y z _ s1 p1 y1 z1 w0 _ HI1.out HB1.out A1.out).mono ?_
        rintro e w5 ⟨rfl, hI5, hB5, hK5⟩
        have HI9 := Aside0.mk hI5
        have HB9 := Aside0.mk hB5
        have HK9 := Aside0.mk (keep_then HK1.out hK5)
        have hz5 := hI5.1
        have hcz5 := cellS55_1 hz5
        have hfz5 := blk_frozen hz5 1
        clear hI5 hB5 hK5 hz5
        go_wp2
        go_ret
        exact ⟨rfl, by repeat (first | (with_reducible first | exact HI9.out | apply IsS55.alloc | apply IsS55.drewN | apply IsS55.drew | apply IsS55.set_1) | exact HI9.out), by repeat (first | (with_reducible first | exact HB9.out | apply below_alloc | apply pw_below_drewN | apply below_drew1 | refine below_set ?_ (IsS55.ge HI9.out)) | exact HB9.out), by repeat (first | (with_reducible first | exact HK9.out | apply KeepBut.set_ | apply keep_drewN | apply keep_drew | apply keep_alloc) | exact HK9.out)⟩
      · have h6b : decide ((6 : Int) < (D.size : Int)) = false := decide_eq_false (by omega)
        have H2 := H.out
        rw [if_neg h6] at H2
        have H3 := Aside0.mk H2
        have HA := Aside0.mk (strconv_Atoi_any D (by omega) wc (HG.out.below HC0.out))
        clear H2 H h6 hcz_0 hcz_1 hcz_2 hfz_2
        go_wp2_with fail
        refine HA.out.mono ?_
        rintro e w3 ⟨ev, rfl, hok, hno, hb3⟩
        have HI3 := Aside0.mk (HI1.out.below hb3)
        have HB3 := Aside0.mk (below_then HB1.out HB1.out.size hb3)
        have HK3 := Aside0.mk (keep_below HK1.out hb3)
        have hz3 := HI3.out.1
        have hcz3 := cellS55_1 hz3
        have hfz3 := blk_frozen hz3 1
        clear hz3 hb3
        have H4 := H3.out
        clear H3
        generalize hV : atoiVal (L D) = V at *
        generalize hV2 : atoiVal D.data.toList = V2 at *
        have hVV : V2 = V := by rw [← hV, ← hV2]; rfl
        subst hVV
        clear hV hV2
        have hOO : atoiOk D.data.toList = atoiOk (L D) := rfl
        rw [hOO] at hok hno
        clear hOO
        cases hok2 : atoiOk (L D) with
        | false =>
          obtain ⟨tp, q, rfl⟩ := hno hok2
          rw [if_pos (.inl hok2)] at H4
          obtain ⟨⟨s1, p1, y1, z1⟩, h1, h2⟩ := Option.bind_eq_some_iff.mp H4
          simp only [Option.some.injEq, Prod.mk.injEq] at h2
          obtain ⟨rfl, rfl, rfl, rfl, rfl⟩ := h2
          have A1 := Aside0.mk h1
          clear h1 H4 hok hno hok2
          go_wp2_with fail
          refine (array_reader_wrong.calls g s (p : Int) y z _ s1 p1 y1 z1 w0 _ HI3.out HB3.out A1.out).mono ?_
          rintro e w5 ⟨rfl, hI5, hB5, hK5⟩
          have HI9 := Aside0.mk hI5
          have HB9 := Aside0.mk hB5
          have HK9 := Aside0.mk (keep_then HK3.out hK5)
          have hz5 := hI5.1
          have hcz5 := cellS55_1 hz5
          have hfz5 := blk_frozen hz5 1
          clear hI5 hB5 hK5 hz5
          go_wp2
          go_ret
          exact ⟨rfl, by repeat (first | (with_reducible first | exact HI9.out | apply IsS55.alloc | apply IsS55.drewN | apply IsS55.drew | apply IsS55.set_1) | exact HI9.out), by repeat (first | (with_reducible first | exact HB9.out | apply below_alloc | apply pw_below_drewN | apply below_drew1 | refine below_set ?_ (IsS55.ge HI9.out)) | exact HB9.out), by repeat (first | (with_reducible first | exact HK9.out | apply KeepBut.set_ | apply keep_drewN | apply keep_drew | apply keep_alloc) | exact HK9.out)⟩
        | true =>
          obtain rfl := hok hok2
          clear hok hno
          by_cases hlow : V2 < low
          · rw [if_pos (.inr hlow)] at H4
            obtain ⟨⟨s1, p1, y1, z1⟩, h1, h2⟩ := Option.bind_eq_some_iff.mp H4
            simp only [Option.some.injEq, Prod.mk.injEq] at h2
            obtain ⟨rfl, rfl, rfl, rfl, rfl⟩ := h2
            have A1 := Aside0.mk h1
            have hlb : decide (V2 < low) = true := decide_eq_true hlow
            clear h1 H4 hok2 hlow
            go_wp2_with fail
            refine (array_reader_wrong.calls g s (p : Int) y z _ s1 p1 y1 z1 w0 _ HI3.out HB3.out A1.out).mono ?_
            rintro e w5 ⟨rfl, hI5, hB5, hK5⟩
            have HI9 := Aside0.mk hI5
            have HB9 := Aside0.mk hB5
            have HK9 := Aside0.mk (keep_then HK3.out hK5)
            have hz5 := hI5.1
            have hcz5 := cellS55_1 hz5
            have hfz5 := blk_frozen hz5 1
            clear hI5 hB5 hK5 hz5
            go_wp2
            go_ret
            exact ⟨rfl, by repeat (first | (with_reducible first | exact HI9.out | apply IsS55.alloc | apply IsS55.drewN | apply IsS55.drew | apply IsS55.set_1) | exact HI9.out), by repeat (first | (with_reducible first | exact HB9.out | apply below_alloc | apply pw_below_drewN | apply below_drew1 | refine below_set ?_ (IsS55.ge HI9.out)) | exact HB9.out), by repeat (first | (with_reducible first | exact HK9.out | apply KeepBut.set_ | apply keep_drewN | apply keep_drew | apply keep_alloc) | exact HK9.out)⟩
          · rw [if_neg (by rintro (h | h); (rw [hok2] at h; cases h); exact hlow h)] at H4
            have ew : wrap64 ((p : Int) + (D.size : Int)) = (p : Int) + (D.size : Int) := by unfold wrap64; omega
            rw [ew] at H4
            clear ew
            simp only [Option.some.injEq, Prod.mk.injEq] at H4
            obtain ⟨rfl, rfl, rfl, rfl, rfl⟩ := H4
            have hlb : decide (V2 < low) = false := decide_eq_false hlow
            have HI9 := HI3
            have HB9 := HB3
            have HK9 := HK3
            clear hok2 hlow
            go_wp2
            go_ret
            exact ⟨rfl, by repeat (first | (with_reducible first | exact HI9.out | apply IsS55.alloc | apply IsS55.drewN | apply IsS55.drew | apply IsS55.set_1) | exact HI9.out), by repeat (first | (with_reducible first | exact HB9.out | apply below_alloc | apply pw_below_drewN | apply below_drew1 | refine below_set ?_ (IsS55.ge HI9.out)) | exact HB9.out), by repeat (first | (with_reducible first | exact HK9.out | apply KeepBut.set_ | apply keep_drewN | apply keep_drew | apply keep_alloc) | exact HK9.out)⟩
  · cases h
end Go.Proofs.YtnfpchpnephheaaDoor.PA
end
section
set_option linter.unusedVariables false
set_option linter.unusedSimpArgs false
namespace Go.Proofs.YtnfpchpnephheaaDoor.Mp
open Go.RowKit Go.WideShapes
structure KeyEnc (P : Program) (kt : TypeId) (κ : Type) where
  val : κ → Value
  lit : κ → Lit
  ok : κ → Prop
  law : Maps.Keyed P kt
  key : ∀ k, ok k → keyOf P kt (val k) = some (lit k)
  inj : ∀ k k', lit k = lit k' → k = k'
  isLit : ∀ k, WideAt.IsKeyLit (lit k)
structure ElEnc (P : Program) (et : TypeId) (ε : Type) where
  val : ε → Value
  lit : ε → Lit
  zero : ε
  ok : ε → Prop
  hz : ∀ w, (zeroValue et).run P w = .ok (val zero) w
  read : ∀ x, ok x → plainElem (H := Unit) P et (val x) = some (.lit (lit x), [])
  zok : ok zero
  inv : ∀ v z, plainElem (H := Unit) P et v = some z → ∃ x, v = val x ∧ z = (.lit (lit x), [])
  inj : ∀ x x', lit x = lit x' → x = x'
def intKey {P : Program} {kt : TypeId} (h : P.underlying kt = some (.int .i64)) : KeyEnc P kt Int where
  val := Value.int .i64
  lit := Lit.int .i64
  ok := fun k => (Lit.int .i64 k).wf = true
  law := Maps.int_keyed h
  key := fun k hk => Maps.keyOf_int_mk h hk
  inj := fun k k' e => by injection e
  isLit := fun k => by simp [WideAt.IsKeyLit]
theorem bool_inv {P : Program} {e : TypeId} (he : P.underlying e = some .bool) {v : Value} {z : DataW Unit × List MemPlace} (h : plainElem P e v = some z) : ∃ x, v = .bool x ∧ z = (.lit (.bool x), []) := by
  unfold plainElem at h
  rw [he] at h
  cases v <;> simp at h
  exact ⟨_, rfl, h.symm⟩
def boolEl {P : Program} {et : TypeId} (h : P.underlying et = some .bool) (hz : ∀ w, (zeroValue et).run P w = .ok (.bool false) w) : ElEnc P et Bool where
  val := Value.bool
  lit := Lit.bool
  zero := false
  ok := fun _ => True
  hz := hz
  read := fun x _ => plainElem_bool h x
  zok := trivial
  inv := fun v z hv => bool_inv h hv
  inj := fun k k' e => by injection e
section
variable {P : Program} {kt et t : TypeId} {κ ε : Type} (K : KeyEnc P kt κ) (V : ElEnc P et ε)
structure MapOf (w : World) (b n : Nat) (f : κ → Option ε) : Prop where mk ::
  out : ∃ D : DataW Unit, w.ownsMap P kt (plainElem P et) b n D ∧ Maps.IsMap D ∧ ∀ k, Maps.has D (K.lit k) = (f k).isSome ∧ ∀ z, D.atKey (K.lit k) (.lit (V.lit z)) = .lit (V.lit ((f k).getD z))
variable {K V}
variable {w w' : World} {b n : Nat} {f : κ → Option ε}
theorem MapOf.made (w : World) : MapOf K V (w.alloc (.map #[] 0)) w.heap.size 0 (fun _ => none) :=
  ⟨.map [], World.ownsMap_made w P kt _, ⟨[], rfl⟩, fun k => ⟨rfl, fun z => rfl⟩⟩
theorem MapOf.mono (h : MapOf K V w b n f) {n' : Nat} (hn : n ≤ n') : MapOf K V w b n' f := by
  obtain ⟨D, h1, h2⟩ := h.out; exact ⟨D, h1.mono hn, h2⟩
theorem MapOf.grown (h : MapOf K V w b n f) {row : Option Nat} (hg : w.grownBy w' row) (hne : some b ≠ row) : MapOf K V w' b n f := by
  obtain ⟨D, h1, h2⟩ := h.out; exact ⟨D, h1.kept hg hne, h2⟩
theorem MapOf.below (h : MapOf K V w b n f) (hb : Below w.heap.size w w') : MapOf K V w' b n f :=
  h.grown (row := none) ⟨hb.os, hb.tape, hb.output, hb.size, fun i hi _ => hb.block i hi⟩ (by simp)
theorem MapOf.alloc (h : MapOf K V w b n f) (o : Obj) : MapOf K V (w.alloc o) b n f := by
  obtain ⟨D, h1, h2⟩ := h.out; exact ⟨D, h1.alloc o, h2⟩
theorem MapOf.drew (h : MapOf K V w b n f) : MapOf K V w.drew b n f := by
  obtain ⟨D, h1, h2⟩ := h.out; exact ⟨D, h1.drew, h2⟩
theorem MapOf.drewN (h : MapOf K V w b n f) (m : Nat) : MapOf K V (w.drewN m) b n f := by
  obtain ⟨D, h1, h2⟩ := h.out; exact ⟨D, h1, h2⟩
theorem MapOf.setCell (h : MapOf K V w b n f) {a : Addr} (ha : b ≠ a.block) (u : Value) : MapOf K V (w.setCell a u) b n f := by
  obtain ⟨D, h1, h2⟩ := h.out; exact ⟨D, h1.setCell ha u, h2⟩
theorem MapOf.noCells (h : MapOf K V w b n f) {c : Array Value} {tt : TypeId} {fr : Nat × Nat} (hc : w.heap[b]? = some (.cells c tt fr)) : False := by
  obtain ⟨D, ⟨es, clock, h1, _⟩, _⟩ := h.out
  rw [h1] at hc; cases hc
theorem MapOf.run_plain (h : MapOf K V w b n f) (ht : P.underlying t = some (.map kt et)) {k : κ} (hk : K.ok k) :
    (Instr.lookup t (.map (some b)) (K.val k) false).run P w = .ok (V.val ((f k).getD V.zero)) w := by
  obtain ⟨D, h1, h2, h3⟩ := h.out
  obtain ⟨v, ps, hrun, hv⟩ := h1.lookup K.law ht (V.hz w) (V.read _ V.zok) (K.key k hk)
  rw [(h3 k).2] at hv
  obtain ⟨x, rfl, hx⟩ := V.inv _ _ hv
  simp only [Prod.mk.injEq, DataW.lit.injEq] at hx
  rw [hrun, ← V.inj _ _ hx.1]
theorem MapOf.put [DecidableEq κ] {D : DataW Unit} (h2 : Maps.IsMap D) (h3 : ∀ k, Maps.has D (K.lit k) = (f k).isSome ∧ ∀ z, D.atKey (K.lit k) (.lit (V.lit z)) = .lit (V.lit ((f k).getD z))) (k : κ) (x : ε) :
    Maps.IsMap (D.put (K.lit k) (.lit (V.lit x))) ∧ ∀ k', Maps.has (D.put (K.lit k) (.lit (V.lit x))) (K.lit k') = (if k' = k then some x else f k').isSome ∧ ∀ z, (D.put (K.lit k) (.lit (V.lit x))).atKey (K.lit k') (.lit (V.lit z)) = .lit (V.lit ((if k' = k then some x else f k').getD z)) := by
  refine ⟨h2.put _ _, fun k' => ?_⟩
  by_cases e : k' = k
  · subst e
    rw [if_pos rfl]
    exact ⟨Maps.has_put_same h2 (K.isLit _) _, fun z => Maps.atKey_put_same h2 (K.isLit _) _ _⟩
  · rw [if_neg e]
    have hne : K.lit k' ≠ K.lit k := fun h => e (K.inj _ _ h)
    exact ⟨by rw [Maps.has_put_other hne]; exact (h3 k').1, fun z => by rw [Maps.atKey_put_other hne]; exact (h3 k').2 z⟩
theorem MapOf.update [DecidableEq κ] (h : MapOf K V w b n f) (ht : P.underlying t = some (.map kt et)) (hn : n < maxLen) {k : κ} (hk : K.ok k) {x : ε} (hx : V.ok x) :
    ∃ w', (Instr.mapUpdate t (.map (some b)) (K.val k) (V.val x)).run P w = .ok () w' ∧ MapOf K V w' b (n + 1) (fun k' => if k' = k then some x else f k') ∧ w.grownBy w' (some b) := by
  obtain ⟨D, h1, h2, h3⟩ := h.out
  obtain ⟨w', hrun, h4, h5⟩ := h1.update K.law ht hn (K.key k hk) (V.read x hx)
  exact ⟨w', hrun, ⟨_, h4, MapOf.put h2 h3 k x⟩, h5⟩
variable {ops : Array Oper} {rest : List Oper} {o : Oper} {a : Act} {Q : Exit → Act → World → Prop}
end
end Go.Proofs.YtnfpchpnephheaaDoor.Mp
end
section
namespace Go.Proofs.YtnfpchpnephheaaDoor.PA
open Go.RowKit Go.Sort Go.Proofs.YtnfpchpnephheaaDoor.Lib Go.Proofs.YtnfpchpnephheaaDoor.Mp Go.Proofs.YtnfpchpnephheaaDoorW.PrintWords Go.Proofs.YtnfpchpnephheaaDoorW.PrintLast Go.Proofs.YtnfpchpnephheaaDoorW.PrintMore
set_option linter.unusedVariables false
set_option linter.unusedSimpArgs false
noncomputable def KI : KeyEnc Tryd.prog 3 Int := intKey Tryd.underlying3
noncomputable def VB : ElEnc Tryd.prog 4 Bool := boolEl Tryd.underlying4 (fun w => by kernel_rfl)
def metF (xs : List Int) : Int → Option Bool := fun k => if k ∈ xs then some true else none
structure Adds (w0 W : World) (ga b : Nat) (v : Value) (lim : Int) (xs : List Int) : Prop where mk ::
  blk : W.heap[ga]? = some (.cells #[v, .int .i64 lim] 28 (0, 0))
  ge : w0.heap.size ≤ ga
  row : Kd.R (Kd.int .i64) 3 W w0.heap.size (fun _ => True) v xs
  met : MapOf KI VB W b xs.length (metF xs)
  mge : w0.heap.size ≤ b
  bel : Below w0.heap.size w0 W
theorem Adds.ne_row {w0 W : World} {ga b : Nat} {v : Value} {lim : Int} {xs : List Int} (h : Adds w0 W ga b v lim xs) : some ga ≠ v.ownBlock := Kd.R_ne h.row h.blk (by decide)
theorem Adds.ne_map {w0 W : World} {ga b : Nat} {v : Value} {lim : Int} {xs : List Int} (h : Adds w0 W ga b v lim xs) : b ≠ ga := fun e => by
  have := h.blk
  rw [← e] at this
  exact h.met.noCells this
theorem Adds.map_row {w0 W : World} {ga b : Nat} {v : Value} {lim : Int} {xs : List Int} (h : Adds w0 W ga b v lim xs) : some b ≠ v.ownBlock := by
  intro e
  obtain ⟨cells, hc⟩ := Kd.R_typed h.row b e.symm
  exact h.met.noCells hc
theorem metF_put (xs : List Int) (n : Int) (h : n ∉ xs) : (fun k' => if k' = n then some true else metF xs k') = metF (xs ++ [n]) := by
  funext k
  unfold metF
  by_cases e : k = n
  · subst e; simp
  · simp [e]
theorem mapOf_fun {W : World} {b n : Nat} {f f' : Int → Option Bool} (h : MapOf KI VB W b n f) (e : f = f') : MapOf KI VB W b n f' := e ▸ h
def Rest (w W : World) (ga b : Nat) (v : Value) : Prop := w.heap.size ≤ W.heap.size ∧ ∀ i, i < w.heap.size → i ≠ ga → i ≠ b → some i ≠ v.ownBlock → W.heap[i]? = w.heap[i]?
def OwnNext (w : World) (v v1 : Value) : Prop := v1.ownBlock = v.ownBlock ∨ ∃ b, v1.ownBlock = some b ∧ w.heap.size ≤ b
def array_Array_add.l : Nat → List Int → Int → Int → Int → Option (Bool × List Int)
  | 0, _, _, _, _ => none
  | k + 1, xs, n, to_, step =>
    if 0 ≤ n ∧ n ≤ 2000000 ∧ 0 ≤ step ∧ step ≤ 2000000 ∧ xs.length ≤ 256 then
      (if n ≤ to_ then (if n ∈ xs then some (false, xs) else if xs.length = 256 then some (false, xs) else array_Array_add.l k (xs ++ [n]) (n + step) to_ step) else some (true, xs))
    else none
theorem lookT {W : World} {b : Nat} {xs : List Int} (h : MapOf KI VB W b xs.length (metF xs)) (n : Int) (hn : 0 ≤ n ∧ n ≤ 2000000) (t : Bool) (ht : decide (n ∈ xs) = t) :
    (Instr.lookup 41 (.map (some b)) (.int .i64 n) false).run Tryd.prog W = .ok (.bool t) W := by
  have hk : KI.ok n := by show (Lit.int .i64 n).wf = true; simp [Lit.wf, IntKind.min, IntKind.max, IntKind.signed, IntKind.bits]; omega
  have e := h.run_plain (t := 41) Tryd.underlying41 hk
  have ev : VB.val ((metF xs n).getD VB.zero) = .bool t := by
    show Value.bool ((metF xs n).getD false) = .bool t
    unfold metF
    rw [← ht]
    by_cases hm : n ∈ xs <;> simp [hm]
  rw [ev] at e
  exact e
theorem wf_small {n : Int} (hn : 0 ≤ n ∧ n ≤ 2000000) : KI.ok n := by
  have h : (Lit.int .i64 n).wf = true := by simp [Lit.wf, IntKind.min, IntKind.max, IntKind.signed, IntKind.bits]; omega
  exact h
theorem Adds.cell0 {w0 W : World} {ga b : Nat} {v : Value} {lim : Int} {xs : List Int} (h : Adds w0 W ga b v lim xs) : W.cell? ⟨ga, 0, none⟩ = some v := (blk_cell h.blk 0).trans rfl
structure Mid (w0 W w1 : World) (ga b : Nat) (v : Value) (lim : Int) (xs : List Int) (n : Int) : Prop where mk ::
  blk : w1.heap[ga]? = some (.cells #[v, .int .i64 lim] 28 (0, 0))
  ge : w0.heap.size ≤ ga
  row : Kd.R (Kd.int .i64) 3 w1 w0.heap.size (fun _ => True) v xs
  met : MapOf KI VB w1 b (xs ++ [n]).length (metF (xs ++ [n]))
  mge : w0.heap.size ≤ b
  bel : Below w0.heap.size w0 w1
  gr : W.grownBy w1 (some b)
  nr : some ga ≠ v.ownBlock
  nm : b ≠ ga
  mr : some b ≠ v.ownBlock
theorem Adds.put {w0 W : World} {ga b : Nat} {v : Value} {lim : Int} {xs : List Int} (h : Adds w0 W ga b v lim xs) (n : Int) (hn : 0 ≤ n ∧ n ≤ 2000000) (hm : n ∉ xs) (hl : xs.length ≤ 256) :
    ∃ w1, (Instr.mapUpdate 41 (.map (some b)) (.int .i64 n) (.bool true)).run Tryd.prog W = .ok () w1 ∧ Mid w0 W w1 ga b v lim xs n := by
  have hlm : xs.length < maxLen := Nat.lt_of_le_of_lt hl (by decide)
  obtain ⟨w1, hput, hmet1, hg1⟩ := h.met.update (t := 41) Tryd.underlying41 hlm (wf_small hn) (x := true) trivial
  have hmet2 := mapOf_fun hmet1 (metF_put xs n hm)
  have hne : some ga ≠ some b := fun e => h.ne_map (Option.some.inj e).symm
  exact ⟨w1, hput, ⟨blk_grown h.blk hg1 hne, h.ge,
    Kd.R_mono (Kd.R_grown (Kd.R_mono (Kd.R_bound h.row) (fun k hk => (show k ≠ b from fun e => by
      obtain ⟨_, _, _, q, _, cells, hc⟩ := hk
      rw [e] at hc
      exact h.met.noCells hc))) hg1 (fun k hk e => hk (Option.some.inj e))) (fun _ _ => trivial), by rw [List.length_append]; exact hmet2, h.mge,
    h.bel.grown hg1 h.bel.size (fun k hk => (Option.some.inj hk) ▸ h.mge), hg1, h.ne_row, h.ne_map, h.map_row⟩⟩
theorem Mid.next {w0 W w1 w2 : World} {ga b : Nat} {v v1 : Value} {lim : Int} {xs : List Int} {n : Int} (h : Mid w0 W w1 ga b v lim xs n) (hr : Kd.R (Kd.int .i64) 3 w2 w0.heap.size (fun _ => True) v1 (xs ++ [n])) (hb : Below w0.heap.size w0 w2)
    (hg : w1.grownBy w2 v.ownBlock) : Adds w0 (w2.setCell ⟨ga, 0, none⟩ v1) ga b v1 lim (xs ++ [n]) ∧ Rest W (w2.setCell ⟨ga, 0, none⟩ v1) ga b v := by
  have hblk := blk_grown h.blk hg h.nr
  have hblk2 := blk_set hblk 0 v1
  refine ⟨⟨hblk2, h.ge, Kd.R_mono (Kd.R_far (p := ⟨ga, 0, none⟩) (Kd.R_types hr hblk (by decide)) (fun _ hk => hk.2) v1) (fun _ _ => trivial), (h.met.grown hg h.mr).setCell h.nm v1, h.mge, hb.setCell h.ge _⟩, ?_, ?_⟩
  · have h1 := h.gr.size
    have h2 := hg.size
    have h4 : (w2.setCell ⟨ga, 0, none⟩ v1).heap.size = w2.heap.size := by simp [World.setCell]
    omega
  · intro i hi h1 h2 h3
    have hs1 := h.gr.size
    rw [Below.heap_setCell w2 ⟨ga, 0, none⟩ v1 i h1, hg.block i (by omega) h3, h.gr.block i hi (fun e => h2 (by injection e))]
theorem OwnNext.next {w : World} {v u u1 : Value} {N : Nat} (h : OwnNext w v u) (k : u1.ownBlock = u.ownBlock ∨ ∃ b, u1.ownBlock = some b ∧ N ≤ b) (hN : w.heap.size ≤ N) : OwnNext w v u1 := by
  rcases k with k | ⟨b, hb, hle⟩
  · rcases h with h | ⟨b, hb, hle⟩
    · exact .inl (k.trans h)
    · exact .inr ⟨b, k.trans hb, hle⟩
  · exact .inr ⟨b, hb, Nat.le_trans hN hle⟩
theorem Rest.trans {w W W2 : World} {ga b : Nat} {v u : Value} (h : Rest w W ga b v) (k : Rest W W2 ga b u) (hu : OwnNext w v u) : Rest w W2 ga b v := by
  refine ⟨Nat.le_trans h.1 k.1, fun i hi h1 h2 h3 => ?_⟩
  rw [k.2 i (Nat.lt_of_lt_of_le hi h.1) h1 h2 (fun e => by
    rcases hu with hu | ⟨c, hc, hle⟩
    · exact h3 (e.trans hu)
    · rw [hc] at e; injection e with e; omega), h.2 i hi h1 h2 h3]
set_option maxHeartbeats 4000000 in
set_option maxRecDepth 100000 in
theorem array_Array_add.calls (k : Nat) (ga b : Nat) (v : Value) (lim : Int) (xs : List Int) (n to_ step : Int) (r : Bool) (ys : List Int) (w0 w : World) (h : Adds w0 w ga b v lim xs) (hf : array_Array_add.l k xs n to_ step = some (r, ys)) :
    Calls Tryd.prog 25 #[.pointer (some ⟨ga, 0, none⟩), .map (some b), .int .i64 n, .int .i64 to_, .int .i64 step] w fun e w' => ∃ v', e = .returned (.bool r) ∧ Adds w0 w' ga b v' lim ys ∧ Rest w w' ga b v ∧ OwnNext w v v' := by
  have HS := Aside0.mk h
  have H' := Aside0.mk hf
  clear h hf
  go_enter Tryd.func25, Tryd.ntmps25
  go_wp2
  go_loopg [11] k (fun kq v11 W' => ∃ (x : List Int) (u : Value) (m : Int), v11 = .int .i64 m ∧ Aside0 (array_Array_add.l kq x m to_ step = some (r, ys)) ∧ Aside0 (kq ≤ k) ∧ Aside0 (Adds w0 W' ga b u lim x) ∧ Aside0 (Rest w W' ga b v) ∧ Aside0 (OwnNext w v u))
  case atStart => exact ⟨xs, v, n, rfl, H', ⟨Nat.le_refl _⟩, HS, ⟨Nat.le_refl _, fun _ _ _ _ _ => rfl⟩, ⟨.inl rfl⟩⟩
  case round =>
    clear H' HS
    obtain ⟨x, u, m, rfl, HA, HK1, HS, HR, HO⟩ := hrel
    cases gk with
    | zero => exact absurd HA.out (by simp [array_Array_add.l])
    | succ k1 =>
      have H := HA.out
      clear HA
      simp only [array_Array_add.l] at H
      split at H
      · rename_i hb
        obtain ⟨b1, b2, b3, b4, b5⟩ := hb
        by_cases c1 : m ≤ to_
        · rw [if_pos c1] at H
          have c1b : decide (m ≤ to_) = true := decide_eq_true c1
          clear c1
          obtain ⟨A, c, rfl⟩ := Kd.R_slice HS.out.row
          have hc0 := HS.out.cell0
          by_cases hm : m ∈ x
          · rw [if_pos hm] at H
            simp only [Option.some.injEq, Prod.mk.injEq] at H
            obtain ⟨rfl, rfl⟩ := H
            have hlook := lookT HS.out.met m ⟨b1, b2⟩ true (decide_eq_true hm)
            clear hm
            go_wp2
            go_ret
            exact ⟨_, rfl, HS.out, HR.out, HO.out⟩
          · rw [if_neg hm] at H
            have hlook := lookT HS.out.met m ⟨b1, b2⟩ false (decide_eq_false hm)
            by_cases h256 : x.length = 256
            · rw [if_pos h256] at H
              simp only [Option.some.injEq, Prod.mk.injEq] at H
              obtain ⟨rfl, rfl⟩ := H
              have hl : ((x.length : Int) == 256) = true := beq_iff_eq.mpr (by omega)
              clear hm h256 b5
              go_wp2
              go_ret
              exact ⟨_, rfl, HS.out, HR.out, HO.out⟩
            · rw [if_neg h256] at H
              have hl : ((x.length : Int) == 256) = false := beq_eq_false_iff_ne.mpr (by omega)
              obtain ⟨w1, hput, hmid⟩ := HS.out.put m ⟨b1, b2⟩ hm b5
              have HM := Aside0.mk hmid
              have hc1 := (blk_cell hmid.blk 0).trans (show _ = some (Value.slice A x.length c) from rfl)
              have hf1 := blk_frozen hmid.blk 0
              have H' := Aside0.mk H
              have B5 := Aside0.mk b5
              clear hm h256 hmid H b5
              go_wp2_with (first | ((with_reducible refine gate_builtin (b := .append) (xs := #[.tmp 36, .tmp 38]) rfl ?_); at_builtin; refine Kd.R_append (Kd.int .i64) (w0 := w0) w0.heap.size rfl (.tmp 36) (.tmp 38) 22 3 (.int .i64 0) 8 rfl Tryd.underlying22 info3 rfl (by decide) (by omega) (.slice A x.length c) x m [.int .i64 m] (fun _ => True) (fun _ => False) rfl rfl ?aP (fun _ hk => hk.elim) ?aF ?aO ?aB ?aS ?aL ?_; (case aP => exact rfl); (case aF => exact fun _ _ => trivial); (case aO => exact HM.out.row); (case aB => exact HM.out.bel); (case aS => exact HM.out.bel.size); (case aL => have := B5.out; omega); intro v1 w2 ho hb hg hat; obtain ⟨A2, c2, rfl⟩ := Kd.R_slice ho; have HN := Aside0.mk (HM.out.next ho hb hg); have HT := Aside0.mk hat; have hlen : (x ++ [m]).length = x.length + 1 := (by simp); rw [hlen] at HN HT; clear hlen;  have hc2 := (blk_cell (blk_grown HM.out.blk hg HM.out.nr) 0).trans (show _ = some (Value.slice A x.length c) from rfl); have hf2 := blk_frozen (blk_grown HM.out.blk hg HM.out.nr) 0; have hs1 := HM.out.gr.size; clear ho hb hg hat))
              go_roundg k1
              case measure => have := HK1.out; omega
              case rel =>
                exact ⟨x ++ [m], _, m + step, rfl, H', ⟨by have := HK1.out; omega⟩, ⟨HN.out.1⟩, ⟨HR.out.trans HN.out.2 HO.out⟩, ⟨HO.out.next HT.out (Nat.le_trans HR.out.1 hs1)⟩⟩
        · rw [if_neg c1] at H
          have c1b : decide (m ≤ to_) = false := decide_eq_false c1
          clear c1
          simp only [Option.some.injEq, Prod.mk.injEq] at H
          obtain ⟨rfl, rfl⟩ := H
          go_wp2
          go_ret
          exact ⟨u, rfl, HS.out, HR.out, HO.out⟩
      · cases H
end Go.Proofs.YtnfpchpnephheaaDoor.PA
end
section
namespace Go.Proofs.YtnfpchpnephheaaDoor.PA
open Go.RowKit Go.Sort Go.Proofs.YtnfpchpnephheaaDoor.Lib Go.Proofs.YtnfpchpnephheaaDoor.Mp Go.Proofs.YtnfpchpnephheaaDoorW.PrintWords Go.Proofs.YtnfpchpnephheaaDoorW.PrintLast Go.Proofs.YtnfpchpnephheaaDoorW.PrintMore
set_option linter.unusedVariables false
set_option linter.unusedSimpArgs false
attribute [local go_sem high] eqA36
def sortL (zs : List Int) : List Int := zs.mergeSort fun x y => decide (x ≤ y)
theorem own_ne_nil {w : World} {base : Nat} {u : Value} {zs : List Int} (h : w.ownsRow base 3 1 u zs.length (zs.map (Value.int .i64))) (hz : zs ≠ []) : u ≠ .slice none 0 0 := by
  rintro rfl
  rcases h.2 with ⟨_, h0⟩ | ⟨g, cap, cur, e, _⟩
  · exact hz (List.length_eq_zero_iff.1 h0)
  · cases e
theorem own_grow {w : World} {base : Nat} {u : Value} {n : Nat} {xs : List Value} (h : w.ownsRow base 3 1 u n xs) (os : Array Obj) : (grow w os).ownsRow base 3 1 u n xs := by
  rcases h with ⟨h1, h2⟩
  refine ⟨h1, ?_⟩
  rcases h2 with h2 | ⟨g, cap, cur, e, hb, hg, hr⟩
  · exact .inl h2
  · refine .inr ⟨g, cap, cur, e, hb, ?_, hr⟩
    have hlt : g < w.heap.size := (Array.getElem?_eq_some_iff.1 hg).1
    show (w.heap ++ os)[g]? = _
    rw [Array.getElem?_append, if_pos hlt, hg]
theorem below_grow' {B : Nat} {w0 w : World} (h : Below B w0 w) (hB : B ≤ w.heap.size) (os : Array Obj) : Below B w0 (grow w os) :=
  ⟨h.os, h.tape, h.output, by show w0.heap.size ≤ (w.heap ++ os).size; rw [Array.size_append]; have := h.size; omega, fun k hk => by
    rw [← h.block k hk]
    show (w.heap ++ os)[k]? = _
    rw [Array.getElem?_append, if_pos (by omega)]⟩
theorem sort_own {w0 w : World} {ok : Nat → Prop} {u : Value} {zs : List Int} (HO : Kd.R (Kd.int .i64) 3 w w0.heap.size ok u zs) (HB : Below w0.heap.size w0 w) (hz : zs.length < 4611686018427387904) :
    Calls Tryd.prog 27 #[u] w fun e w' => e = .returned (.tuple #[]) ∧ Kd.R (Kd.int .i64) 3 w' w0.heap.size (fun _ => True) u (sortL zs) ∧ Below w0.heap.size w0 w' ∧ w.heap.size ≤ w'.heap.size ∧ ∀ i, i < w.heap.size → some i ≠ u.ownBlock → w'.heap[i]? = w.heap[i]? := by
  have ho : w.ownsRow w0.heap.size 3 1 u zs.length (zs.map (Value.int .i64)) := Kd.own_of_R HO
  by_cases hn : zs = []
  · subst hn
    obtain ⟨A, c, rfl⟩ := Kd.R_slice HO
    refine (Tryd.slices_Sort_int_none A c w).mono ?_
    rintro e w' ⟨rfl, rfl⟩
    exact ⟨rfl, Kd.R_mono (by simpa [sortL] using HO) (fun _ _ => trivial), HB, Nat.le_refl _, fun _ _ _ => rfl⟩
  · obtain ⟨g, cap, rfl, hb, hlt, hnc, hcm, _, hH⟩ := Go.Lib.holds_of_ownsRow ho (own_ne_nil ho hn)
    refine (Tryd.slices_Sort_int g 0 cap zs w hH hlt hz).mono ?_
    rintro e w' ⟨rfl, n, os, rfl⟩
    have h1 := Go.Lib.ownsRow_putRow (q := n) (k := zs.length) (ys := sortL zs) ho (by simp [sortL]) (Nat.le_refl _)
    rw [List.take_of_length_le (by simp [sortL])] at h1
    have h2 := own_grow h1 os
    refine ⟨rfl, Kd.R_of_own ?_ (fun _ _ => trivial), below_grow' (Go.Lib.below_putRow HB hb) ?_ os, ?_, ?_⟩
    · have hl : (sortL zs).length = zs.length := by simp [sortL]
      rw [hl]
      exact h2
    · exact (Go.Lib.below_putRow (enc := Value.int .i64) (q := n) (d := (sortL zs).toArray) HB hb).size
    · show w.heap.size ≤ ((putRow (Value.int .i64) (Sort.ahead w n) g 0 (sortL zs).toArray).heap ++ os).size
      rw [Array.size_append]
      simp [putRow, mapBlock, Sort.ahead]
    · intro i hi hne
      have hgi : g ≠ i := fun e => hne (by rw [e]; rfl)
      show ((putRow (Value.int .i64) (Sort.ahead w n) g 0 (sortL zs).toArray).heap ++ os)[i]? = _
      rw [Array.getElem?_append, if_pos (by simp [putRow, mapBlock, Sort.ahead]; exact hi)]
      simp [putRow, mapBlock, Sort.ahead, Array.getElem?_modify, hgi]
abbrev St := ByteArray × Int × Int × Int
def wellB (st : St) : Bool := st.2.2.1 == 0 && (st.2.2.2 == 0)
def pNum (st : St) (low : Int) : Option (Int × St) := array_reader_number.f st.1 st.2.1 st.2.2.1 st.2.2.2 low
def pNext (st : St) (c : Int) : Option (Bool × St) := array_reader_next.f st.1 st.2.1 st.2.2.1 st.2.2.2 c
def parse_tail (again : List Int → St → Option (List Int × St)) (xs : List Int) (at_ from_ to_ step : Int) (st : St) : Option (List Int × St) :=
  if wellB st = true then (array_Array_add.l 300 xs from_ to_ step).bind fun r => if r.1 = true then again r.2 st else again r.2 (st.1, st.2.1, 5, at_)
  else again xs st
def parse_l : Nat → List Int → St → Bool → Option (List Int × St)
  | 0, _, _, _ => none
  | k + 1, xs, st, more =>
    if more = true then
      (if wellB st = true then
        (pNum st 0).bind fun a => (pNext a.2 45).bind fun d =>
          if d.1 = true then (pNum d.2 a.1).bind fun t => (pNext t.2 58).bind fun e =>
            if e.1 = true then (pNum e.2 1).bind fun u => parse_tail (fun ys st' => (pNext st' 44).bind fun m => parse_l k ys m.2 m.1) xs st.2.1 a.1 t.1 u.1 u.2
            else parse_tail (fun ys st' => (pNext st' 44).bind fun m => parse_l k ys m.2 m.1) xs st.2.1 a.1 t.1 1 e.2
          else parse_tail (fun ys st' => (pNext st' 44).bind fun m => parse_l k ys m.2 m.1) xs st.2.1 a.1 a.1 1 d.2
      else some (xs, st))
    else some (xs, st)
abbrev PR := List Int × Int × Int × Int
def parse_out (xs : List Int) (lim : Int) (st : St) : Option PR := if wellB st = true then some (sortL xs, lim, 0, 0) else some ([], 0, st.2.2.1, st.2.2.2)
def parse_fin (s : ByteArray) (xs : List Int) (lim : Int) (st : St) : Option PR :=
  if st.2.1 < (s.size : Int) then (array_reader_wrong.f st.1 st.2.1 st.2.2.1 st.2.2.2 st.2.1).bind fun z => parse_out xs lim z else parse_out xs lim st
def parse_end (s : ByteArray) (xs : List Int) (st : St) : Option PR :=
  (pNext st 37).bind fun m => if m.1 = true then (pNum m.2 1).bind fun t => parse_fin s xs t.1 t.2 else parse_fin s xs 0 m.2
def array_Parse.g (k : Nat) (s : ByteArray) : Option PR := (parse_l k [] (s, 0, 0, 0) true).bind fun q => if q.1.length ≤ 1000 then parse_end s q.1 q.2 else none
structure PSt (w W : World) (g2 g3 gr ga b : Nat) (u : Value) (lim : Int) (xs : List Int) (st : St) : Prop where mk ::
  c2 : W.heap[g2]? = some (.cells #[.slice none 0 0, .int .i64 0] 28 (0, 0))
  c3 : W.heap[g3]? = some (.cells #[.int .i64 0, .int .i64 0] 36 (0, 0))
  n2 : g2 ≠ ga
  p2 : w.heap.size ≤ g2
  p3 : w.heap.size ≤ g3
  rd : IsS55 w W gr st.1 st.2.1 st.2.2.1 st.2.2.2
  ad : Adds w W ga b u lim xs
theorem keep_grown {B : Nat} {w0 W W' : World} {g : Nat} (h : Below B w0 W) (h' : Below B w0 W') (hk : KeepBut W W' g none) : W.grownBy W' (some g) :=
  ⟨h'.os.trans h.os.symm, h'.tape.trans h.tape.symm, h'.output.trans h.output.symm, hk.1, fun i hi hne => hk.2 i hi (fun e => hne (by rw [e])) (by simp)⟩
theorem PSt.nr2 {w W : World} {g2 g3 gr ga b : Nat} {u : Value} {lim : Int} {xs : List Int} {st : St} (h : PSt w W g2 g3 gr ga b u lim xs st) : g2 ≠ gr := blk_ne h.c2 h.rd.1 (by decide)
theorem PSt.nr3 {w W : World} {g2 g3 gr ga b : Nat} {u : Value} {lim : Int} {xs : List Int} {st : St} (h : PSt w W g2 g3 gr ga b u lim xs st) : g3 ≠ gr := blk_ne h.c3 h.rd.1 (by decide)
theorem PSt.nra {w W : World} {g2 g3 gr ga b : Nat} {u : Value} {lim : Int} {xs : List Int} {st : St} (h : PSt w W g2 g3 gr ga b u lim xs st) : ga ≠ gr := blk_ne h.ad.blk h.rd.1 (by decide)
theorem PSt.n3 {w W : World} {g2 g3 gr ga b : Nat} {u : Value} {lim : Int} {xs : List Int} {st : St} (h : PSt w W g2 g3 gr ga b u lim xs st) : g3 ≠ ga := blk_ne h.c3 h.ad.blk (by decide)
theorem PSt.n23 {w W : World} {g2 g3 gr ga b : Nat} {u : Value} {lim : Int} {xs : List Int} {st : St} (h : PSt w W g2 g3 gr ga b u lim xs st) : g2 ≠ g3 := blk_ne h.c2 h.c3 (by decide)
theorem nomap {w W : World} {ga b : Nat} {u : Value} {lim : Int} {xs : List Int} (h : Adds w W ga b u lim xs) {g t : Nat} {cs : Array Value} (hc : W.heap[g]? = some (.cells cs t (0, 0))) : g ≠ b := fun e => by
  rw [e] at hc
  exact h.met.noCells hc
theorem PSt.read {w W W' : World} {g2 g3 gr ga b : Nat} {u : Value} {lim : Int} {xs : List Int} {st st' : St} (h : PSt w W g2 g3 gr ga b u lim xs st) (hI : IsS55 w W' gr st'.1 st'.2.1 st'.2.2.1 st'.2.2.2) (hB : Below w.heap.size w W') (hK : KeepBut W W' gr none) :
    PSt w W' g2 g3 gr ga b u lim xs st' := by
  have hg := keep_grown h.ad.bel hB hK
  have e2 : some g2 ≠ some gr := fun e => h.nr2 (Option.some.inj e)
  have e3 : some g3 ≠ some gr := fun e => h.nr3 (Option.some.inj e)
  have ea : some ga ≠ some gr := fun e => h.nra (Option.some.inj e)
  have eb : some b ≠ some gr := fun e => nomap h.ad h.rd.1 (Option.some.inj e).symm
  exact ⟨blk_grown h.c2 hg e2, blk_grown h.c3 hg e3, h.n2, h.p2, h.p3, hI,
    ⟨blk_grown h.ad.blk hg ea, h.ad.ge, Kd.R_mono (Kd.R_grown (Kd.R_types h.ad.row h.rd.1 (by decide)) hg (fun k hk e => hk.2 (Option.some.inj e))) (fun _ _ => trivial), h.ad.met.grown hg eb, h.ad.mge, hB⟩⟩
theorem PSt.added {w W W' : World} {g2 g3 gr ga b : Nat} {u u' : Value} {lim : Int} {xs ys : List Int} {st : St} (h : PSt w W g2 g3 gr ga b u lim xs st) (hA : Adds w W' ga b u' lim ys) (hR : Rest W W' ga b u) : PSt w W' g2 g3 gr ga b u' lim ys st := by
  have k2 : W'.heap[g2]? = W.heap[g2]? := hR.2 g2 (blk_lt h.c2) h.n2 (nomap h.ad h.c2) (Kd.R_ne h.ad.row h.c2 (by decide))
  have k3 : W'.heap[g3]? = W.heap[g3]? := hR.2 g3 (blk_lt h.c3) h.n3 (nomap h.ad h.c3) (Kd.R_ne h.ad.row h.c3 (by decide))
  have kr : W'.heap[gr]? = W.heap[gr]? := hR.2 gr (blk_lt h.rd.1) (fun e => h.nra e.symm) (nomap h.ad h.rd.1) (Kd.R_ne h.ad.row h.rd.1 (by decide))
  exact ⟨k2.trans h.c2, k3.trans h.c3, h.n2, h.p2, h.p3, ⟨kr.trans h.rd.1, h.rd.2⟩, hA⟩
theorem PSt.limit {w W : World} {g2 g3 gr ga b : Nat} {u : Value} {lim : Int} {xs : List Int} {st : St} (h : PSt w W g2 g3 gr ga b u lim xs st) (n : Int) : PSt w (W.setCell ⟨ga, 1, none⟩ (.int .i64 n)) g2 g3 gr ga b u n xs st := by
  have hb := blk_set h.ad.blk 1 (Value.int .i64 n)
  refine ⟨(Below.heap_setCell W ⟨ga, 1, none⟩ _ g2 h.n2).trans h.c2, (Below.heap_setCell W ⟨ga, 1, none⟩ _ g3 h.n3).trans h.c3, h.n2, h.p2, h.p3, ⟨(Below.heap_setCell W ⟨ga, 1, none⟩ _ gr (fun e => h.nra e.symm)).trans h.rd.1, h.rd.2⟩,
    ⟨hb, h.ad.ge, Kd.R_mono (Kd.R_far (p := ⟨ga, 1, none⟩) (Kd.R_types h.ad.row h.ad.blk (by decide)) (fun _ hk => hk.2) _) (fun _ _ => trivial), h.ad.met.setCell h.ad.ne_map _, h.ad.mge, h.ad.bel.setCell h.ad.ge _⟩⟩
theorem new_at {w : World} {o : Obj} {n : Nat} (h : w.heap.size = n) : (w.alloc o).heap[n]? = some o := h ▸ blk_new w o
theorem PSt.init (w : World) (s : ByteArray) : PSt w (((((w.alloc (.cells #[.slice none 0 0, .int .i64 0] 28)).alloc (.cells #[.int .i64 0, .int .i64 0] 36)).alloc (.cells #[.string s, .int .i64 0, .int .i64 0, .int .i64 0] 55)).alloc (.cells #[.slice none 0 0, .int .i64 0] 28)).alloc (.map #[] 0))
    w.heap.size (w.heap.size + 1) (w.heap.size + 1 + 1) (w.heap.size + 1 + 1 + 1) (w.heap.size + 1 + 1 + 1 + 1) (.slice none 0 0) 0 [] (s, 0, 0, 0) := by
  refine ⟨?_, ?_, by omega, Nat.le_refl _, by omega, ⟨?_, by omega⟩, ⟨?_, by omega, Kd.R_nil _ _ _ _ _, ?_, by omega, ?_⟩⟩
  · exact blk_alloc (blk_alloc (blk_alloc (blk_alloc (blk_new _ _) _) _) _) _
  · exact blk_alloc (blk_alloc (blk_alloc (new_at (by simp)) _) _) _
  · exact blk_alloc (blk_alloc (new_at (by simp)) _) _
  · exact blk_alloc (new_at (by simp)) _
  · have h := MapOf.made (K := KI) (V := VB) ((((w.alloc (.cells #[.slice none 0 0, .int .i64 0] 28)).alloc (.cells #[.int .i64 0, .int .i64 0] 36)).alloc (.cells #[.string s, .int .i64 0, .int .i64 0, .int .i64 0] 55)).alloc (.cells #[.slice none 0 0, .int .i64 0] 28))
    have e : ((((w.alloc (.cells #[.slice none 0 0, .int .i64 0] 28)).alloc (.cells #[.int .i64 0, .int .i64 0] 36)).alloc (.cells #[.string s, .int .i64 0, .int .i64 0, .int .i64 0] 55)).alloc (.cells #[.slice none 0 0, .int .i64 0] 28)).heap.size = w.heap.size + 1 + 1 + 1 + 1 := by simp
    rw [e] at h
    exact mapOf_fun h (by funext x; simp [metF])
  · exact below_alloc (below_alloc (below_alloc (below_alloc (below_alloc (Below.refl _ _) _) _) _) _) _
set_option maxHeartbeats 8000000 in
set_option maxRecDepth 100000 in
theorem array_Parse.callsG (k : Nat) (s : ByteArray) (r1 : List Int) (r2 r3 r4 : Int) (w : World) (h : array_Parse.g k s = some (r1, r2, r3, r4)) (hG : Glob w) :
    Calls Tryd.prog 14 #[.string s] w fun e w' => ∃ v1_ : Value, e = .returned (.tuple #[.agg #[v1_, .int .i64 r2], .agg #[.int .i64 r3, .int .i64 r4]]) ∧ Kd.R (Kd.int .i64) 3 w' w.heap.size (fun _ => True) v1_ r1 ∧ Below w.heap.size w w' := by
  unfold array_Parse.g at h
  obtain ⟨⟨xs9, st9⟩, hl, h2⟩ := Option.bind_eq_some_iff.mp h
  dsimp only at h2
  split at h2
  · rename_i hlen
    have H' := Aside0.mk hl
    have HE := Aside0.mk h2
    have HZ := Aside0.mk hlen
    have HG := Aside0.mk hG
    have hmm := @run_makeMap Tryd.prog
    have hu36 := Tryd.underlying36
    have hu28 := Tryd.underlying28
    have hu55 := Tryd.underlying55
    clear h hl h2 hlen hG
    go_enter Tryd.func14, Tryd.ntmps14
    have hP := PSt.init w s
    have HP := Aside0.mk hP
    clear hP
    go_upto_block 0 with (fail)
    go_cut [7] (fun v7 wc => ∃ (u : Value), Aside0 (PSt w wc w.heap.size (w.heap.size + 1) (w.heap.size + 1 + 1) (w.heap.size + 1 + 1 + 1) (w.heap.size + 1 + 1 + 1 + 1) u 0 xs9 st9))
    case first =>
      go_wp2
      go_loopg [7] k (fun kq v7 W' => ∃ (xs : List Int) (u : Value) (st : St) (more : Bool), v7 = .bool more ∧ Aside0 (parse_l kq xs st more = some (xs9, st9)) ∧ Aside0 (kq ≤ k) ∧ Aside0 (PSt w W' w.heap.size (w.heap.size + 1) (w.heap.size + 1 + 1) (w.heap.size + 1 + 1 + 1) (w.heap.size + 1 + 1 + 1 + 1) u 0 xs st))
      case atStart => exact ⟨[], _, _, true, rfl, H', ⟨Nat.le_refl _⟩, HP⟩
      case round =>
        clear H' HP
        obtain ⟨xs, u, ⟨s1, p1, y1, z1⟩, more, rfl, HA, HK1, HP⟩ := hrel
        cases gk with
        | zero => exact absurd HA.out (by simp [parse_l])
        | succ k1 =>
          have H := HA.out
          clear HA
          simp only [parse_l] at H
          cases more with
          | false =>
            rw [if_neg (by decide)] at H
            injection H with H
            injection H with e1 e2
            subst e1; subst e2
            go_wp2
            go_meet
            exact ⟨_, HP⟩
          | true =>
            rw [if_pos (by first | rfl | trivial)] at H
            cases hwl : wellB (s1, p1, y1, z1) with
            | false =>
              rw [if_neg (by rw [hwl]; decide)] at H
              injection H with H
              injection H with e1 e2
              subst e1; subst e2
              go_wp2_with fail
              refine (well_same _ s1 p1 y1 z1 _ HP.out.rd.1 false hwl).mono ?_
              rintro e w1 ⟨rfl, rfl⟩
              go_wp2
              go_meet
              exact ⟨_, HP⟩
            | true =>
              rw [if_pos hwl] at H
              go_wp2_with fail
              refine (well_same _ s1 p1 y1 z1 _ HP.out.rd.1 true hwl).mono ?_
              rintro e w1 ⟨rfl, rfl⟩
              have hc1 := cellS55_1 HP.out.rd.1
              obtain ⟨⟨n1, s2, p2, y2, z2⟩, q1, H⟩ := Option.bind_eq_some_iff.mp H
              have A1 := Aside0.mk q1
              obtain ⟨⟨d1, s3, p3, y3, z3⟩, q2, H⟩ := Option.bind_eq_some_iff.mp H
              have A2 := Aside0.mk q2
              have HH := Aside0.mk H
              clear q1 q2 H hwl
              go_wp2_with fail
              refine (array_reader_number.calls _ s1 p1 y1 z1 0 n1 s2 p2 y2 z2 w _ HP.out.rd HP.out.ad.bel A1.out (HG.out.below HP.out.ad.bel)).mono ?_
              rintro e w2 ⟨rfl, hI, hB, hK⟩
              have HP2 := Aside0.mk (HP.out.read (st' := (s2, p2, y2, z2)) hI hB hK)
              clear hI hB hK hc1
              go_wp2_with fail
              refine (array_reader_next.calls _ s2 p2 y2 z2 45 d1 s3 p3 y3 z3 w _ HP2.out.rd HP2.out.ad.bel A2.out).mono ?_
              rintro e w3 ⟨rfl, hI, hB, hK⟩
              have HP3 := Aside0.mk (HP2.out.read (st' := (s3, p3, y3, z3)) hI hB hK)
              clear hI hB hK
              go_upto_if 31 with (fail)
              go_cut [10, 11] (fun v10 v11 wc => ∃ (t sp : Int) (s4 : ByteArray) (p4 y4 z4 : Int), v10 = .int .i64 t ∧ v11 = .int .i64 sp ∧ Aside0 (parse_tail (fun ys st' => (pNext st' 44).bind fun m => parse_l k1 ys m.2 m.1) xs p1 n1 t sp (s4, p4, y4, z4) = some (xs9, st9)) ∧ Aside0 (PSt w wc w.heap.size (w.heap.size + 1) (w.heap.size + 1 + 1) (w.heap.size + 1 + 1 + 1) (w.heap.size + 1 + 1 + 1 + 1) u 0 xs (s4, p4, y4, z4)))
              case first =>
                cases d1 with
                | false =>
                  have H := HH.out
                  rw [if_neg (by decide)] at H
                  have H2 := Aside0.mk H
                  clear H
                  go_wp2
                  go_meet
                  exact ⟨_, _, _, _, _, _, rfl, rfl, H2, HP3⟩
                | true =>
                  have H := HH.out
                  rw [if_pos (by first | rfl | trivial)] at H
                  obtain ⟨⟨n2, s4, p4, y4, z4⟩, q3, H⟩ := Option.bind_eq_some_iff.mp H
                  have A3 := Aside0.mk q3
                  obtain ⟨⟨d2, s5, p5, y5, z5⟩, q4, H⟩ := Option.bind_eq_some_iff.mp H
                  have A4 := Aside0.mk q4
                  have H4 := Aside0.mk H
                  clear q3 q4 H
                  go_wp2_with fail
                  refine (array_reader_number.calls _ s3 p3 y3 z3 n1 n2 s4 p4 y4 z4 w _ HP3.out.rd HP3.out.ad.bel A3.out (HG.out.below HP3.out.ad.bel)).mono ?_
                  rintro e w4 ⟨rfl, hI, hB, hK⟩
                  have HP4 := Aside0.mk (HP3.out.read (st' := (s4, p4, y4, z4)) hI hB hK)
                  clear hI hB hK
                  go_wp2_with fail
                  refine (array_reader_next.calls _ s4 p4 y4 z4 58 d2 s5 p5 y5 z5 w _ HP4.out.rd HP4.out.ad.bel A4.out).mono ?_
                  rintro e w5 ⟨rfl, hI, hB, hK⟩
                  have HP5 := Aside0.mk (HP4.out.read (st' := (s5, p5, y5, z5)) hI hB hK)
                  clear hI hB hK
                  cases d2 with
                  | false =>
                    have H := H4.out
                    rw [if_neg (by decide)] at H
                    have H2 := Aside0.mk H
                    clear H
                    go_wp2
                    go_meet
                    exact ⟨_, _, _, _, _, _, rfl, rfl, H2, HP5⟩
                  | true =>
                    have H := H4.out
                    rw [if_pos (by first | rfl | trivial)] at H
                    obtain ⟨⟨n3, s6, p6, y6, z6⟩, q5, H⟩ := Option.bind_eq_some_iff.mp H
                    have A5 := Aside0.mk q5
                    have H2 := Aside0.mk H
                    clear q5 H
                    go_wp2_with fail
                    refine (array_reader_number.calls _ s5 p5 y5 z5 1 n3 s6 p6 y6 z6 w _ HP5.out.rd HP5.out.ad.bel A5.out (HG.out.below HP5.out.ad.bel)).mono ?_
                    rintro e w6 ⟨rfl, hI, hB, hK⟩
                    have HP6 := Aside0.mk (HP5.out.read (st' := (s6, p6, y6, z6)) hI hB hK)
                    clear hI hB hK
                    go_wp2
                    go_meet
                    exact ⟨_, _, _, _, _, _, rfl, rfl, H2, HP6⟩
              case rest =>
                obtain ⟨t, sp, s4, p4, y4, z4, rfl, rfl, HT, HP4⟩ := hcut
                clear HH HP HP2 HP3 A1 A2
                cases hwl : wellB (s4, p4, y4, z4) with
                | false =>
                  have H := HT.out
                  unfold parse_tail at H
                  rw [if_neg (by rw [hwl]; decide)] at H
                  obtain ⟨⟨m7, s7, p7, y7, z7⟩, q6, H⟩ := Option.bind_eq_some_iff.mp H
                  have A6 := Aside0.mk q6
                  have H2 := Aside0.mk H
                  clear q6 H
                  go_wp2_with fail
                  refine (well_same _ s4 p4 y4 z4 _ HP4.out.rd.1 false hwl).mono ?_
                  rintro e w1 ⟨rfl, rfl⟩
                  clear hwl
                  go_wp2_with fail
                  refine (array_reader_next.calls _ s4 p4 y4 z4 44 m7 s7 p7 y7 z7 w _ HP4.out.rd HP4.out.ad.bel A6.out).mono ?_
                  rintro e w7 ⟨rfl, hI, hB, hK⟩
                  have HP7 := Aside0.mk (HP4.out.read (st' := (s7, p7, y7, z7)) hI hB hK)
                  clear hI hB hK
                  go_wp2
                  go_roundg k1
                  case measure => have := HK1.out; omega
                  case rel => exact ⟨xs, u, (s7, p7, y7, z7), m7, rfl, H2, ⟨by have := HK1.out; omega⟩, HP7⟩
                | true =>
                  have H := HT.out
                  unfold parse_tail at H
                  rw [if_pos hwl] at H
                  obtain ⟨⟨ra, ys⟩, q6, H⟩ := Option.bind_eq_some_iff.mp H
                  have A6 := Aside0.mk q6
                  have H5 := Aside0.mk H
                  clear q6 H
                  go_wp2_with fail
                  refine (well_same _ s4 p4 y4 z4 _ HP4.out.rd.1 true hwl).mono ?_
                  rintro e w1 ⟨rfl, rfl⟩
                  clear hwl
                  go_wp2_with fail
                  refine (array_Array_add.calls 300 _ _ _ 0 xs n1 t sp ra ys w _ HP4.out.ad A6.out).mono ?_
                  rintro e w5 ⟨u5, rfl, hA, hR, hO⟩
                  have HP5 := Aside0.mk (HP4.out.added hA hR)
                  clear hA hR hO
                  cases ra with
                  | true =>
                    have H := H5.out
                    rw [if_pos (by first | rfl | trivial)] at H
                    obtain ⟨⟨m7, s7, p7, y7, z7⟩, q6, H⟩ := Option.bind_eq_some_iff.mp H
                    have A7 := Aside0.mk q6
                    have H2 := Aside0.mk H
                    clear q6 H
                    go_wp2_with fail
                    refine (array_reader_next.calls _ s4 p4 y4 z4 44 m7 s7 p7 y7 z7 w _ HP5.out.rd HP5.out.ad.bel A7.out).mono ?_
                    rintro e w7 ⟨rfl, hI, hB, hK⟩
                    have HP7 := Aside0.mk (HP5.out.read (st' := (s7, p7, y7, z7)) hI hB hK)
                    clear hI hB hK
                    go_wp2
                    go_roundg k1
                    case measure => have := HK1.out; omega
                    case rel => exact ⟨ys, u5, (s7, p7, y7, z7), m7, rfl, H2, ⟨by have := HK1.out; omega⟩, HP7⟩
                  | false =>
                    have H := H5.out
                    rw [if_neg (by decide)] at H
                    obtain ⟨⟨m7, s7, p7, y7, z7⟩, q6, H⟩ := Option.bind_eq_some_iff.mp H
                    have A7 := Aside0.mk q6
                    have H2 := Aside0.mk H
                    clear q6 H
                    have hz := HP5.out.rd.1
                    have hc2 := cellS55_2 hz
                    have hc3 := cellS55_3 hz
                    have hf2 := blk_frozen hz 2
                    have hf3 := blk_frozen hz 3
                    clear hz
                    have HPf := Aside0.mk (HP5.out.read (st' := (s4, p4, 5, p1)) ((HP5.out.rd.set_2 5).set_3 p1) (below_set (below_set HP5.out.ad.bel HP5.out.rd.2) HP5.out.rd.2) (KeepBut.set_ (KeepBut.set_ (KeepBut.refl _ _ _) _ _) _ _))
                    go_wp2_with fail
                    refine (array_reader_next.calls _ s4 p4 5 p1 44 m7 s7 p7 y7 z7 w _ HPf.out.rd HPf.out.ad.bel A7.out).mono ?_
                    rintro e w7 ⟨rfl, hI, hB, hK⟩
                    have HP7 := Aside0.mk (HPf.out.read (st' := (s7, p7, y7, z7)) hI hB hK)
                    clear hI hB hK
                    go_wp2
                    go_roundg k1
                    case measure => have := HK1.out; omega
                    case rel => exact ⟨ys, u5, (s7, p7, y7, z7), m7, rfl, H2, ⟨by have := HK1.out; omega⟩, HP7⟩
    case rest =>
      obtain ⟨u, HP⟩ := hcut
      obtain ⟨s1, p1, y1, z1⟩ := st9
      have H := HE.out
      unfold parse_end at H
      obtain ⟨⟨m2, s2, p2, y2, z2⟩, q1, H⟩ := Option.bind_eq_some_iff.mp H
      have A1 := Aside0.mk q1
      have HH := Aside0.mk H
      clear q1 H HE H'
      go_wp2_with fail
      refine (array_reader_next.calls _ s1 p1 y1 z1 37 m2 s2 p2 y2 z2 w _ HP.out.rd HP.out.ad.bel A1.out).mono ?_
      rintro e w2 ⟨rfl, hI, hB, hK⟩
      have HP2 := Aside0.mk (HP.out.read (st' := (s2, p2, y2, z2)) hI hB hK)
      clear hI hB hK
      go_upto_if 55 with (fail)
      go_cut [] (fun wc => ∃ (lim : Int) (s3 : ByteArray) (p3 y3 z3 : Int), Aside0 (parse_fin s xs9 lim (s3, p3, y3, z3) = some (r1, r2, r3, r4)) ∧ Aside0 (PSt w wc w.heap.size (w.heap.size + 1) (w.heap.size + 1 + 1) (w.heap.size + 1 + 1 + 1) (w.heap.size + 1 + 1 + 1 + 1) u lim xs9 (s3, p3, y3, z3)))
      case first =>
        cases m2 with
        | false =>
          have H := HH.out
          rw [if_neg (by decide)] at H
          have H2 := Aside0.mk H
          clear H
          go_wp2
          go_meet
          exact ⟨_, _, _, _, _, H2, HP2⟩
        | true =>
          have H := HH.out
          rw [if_pos (by first | rfl | trivial)] at H
          obtain ⟨⟨n3, s3, p3, y3, z3⟩, q3, H⟩ := Option.bind_eq_some_iff.mp H
          have A3 := Aside0.mk q3
          have H2 := Aside0.mk H
          clear q3 H
          go_wp2_with fail
          refine (array_reader_number.calls _ s2 p2 y2 z2 1 n3 s3 p3 y3 z3 w _ HP2.out.rd HP2.out.ad.bel A3.out (HG.out.below HP2.out.ad.bel)).mono ?_
          rintro e w3 ⟨rfl, hI, hB, hK⟩
          have HP3 := Aside0.mk (HP2.out.read (st' := (s3, p3, y3, z3)) hI hB hK)
          clear hI hB hK
          have hc1 := (blk_cell HP3.out.ad.blk 1).trans (show _ = some (Value.int .i64 0) from rfl)
          have hf1 := blk_frozen HP3.out.ad.blk 1
          go_wp2
          go_meet
          exact ⟨_, _, _, _, _, H2, ⟨HP3.out.limit n3⟩⟩
      case rest =>
        obtain ⟨lim, s3, p3, y3, z3, H3, HP3⟩ := hcut
        clear HH HP HP2 A1
        have hc1 := cellS55_1 HP3.out.rd.1
        go_upto_if 65 with (fail)
        go_cut [] (fun wc => ∃ (s4 : ByteArray) (p4 y4 z4 : Int), Aside0 (parse_out xs9 lim (s4, p4, y4, z4) = some (r1, r2, r3, r4)) ∧ Aside0 (PSt w wc w.heap.size (w.heap.size + 1) (w.heap.size + 1 + 1) (w.heap.size + 1 + 1 + 1) (w.heap.size + 1 + 1 + 1 + 1) u lim xs9 (s4, p4, y4, z4)))
        case first =>
          have H := H3.out
          unfold parse_fin at H
          dsimp only at H
          by_cases hlt : p3 < (s.size : Int)
          · rw [if_pos hlt] at H
            obtain ⟨⟨s4, p4, y4, z4⟩, q3, H⟩ := Option.bind_eq_some_iff.mp H
            have A3 := Aside0.mk q3
            have H2 := Aside0.mk H
            have hb := decide_eq_true hlt
            clear q3 H hlt
            (first | rw [hb] | skip)
            go_wp2_with fail
            refine (array_reader_wrong.calls _ s3 p3 y3 z3 p3 s4 p4 y4 z4 w _ HP3.out.rd HP3.out.ad.bel A3.out).mono ?_
            rintro e w4 ⟨rfl, hI, hB, hK⟩
            have HP4 := Aside0.mk (HP3.out.read (st' := (s4, p4, y4, z4)) hI hB hK)
            clear hI hB hK
            go_wp2
            go_meet
            exact ⟨_, _, _, _, H2, HP4⟩
          · rw [if_neg hlt] at H
            have H2 := Aside0.mk H
            have hb := decide_eq_false hlt
            clear H hlt
            (first | rw [hb] | skip)
            go_wp2
            go_meet
            exact ⟨_, _, _, _, H2, HP3⟩
        case rest =>
          obtain ⟨s4, p4, y4, z4, H4, HP4⟩ := hcut
          clear H3 HP3 hc1
          have H := H4.out
          unfold parse_out at H
          cases hwl : wellB (s4, p4, y4, z4) with
          | false =>
            rw [if_neg (by rw [hwl]; decide)] at H
            simp only [Option.some.injEq, Prod.mk.injEq] at H
            obtain ⟨rfl, rfl, rfl, rfl⟩ := H
            have hz := HP4.out.rd.1
            have hc2 := cellS55_2 hz
            have hc3 := cellS55_3 hz
            have e0 := (blk_cell HP4.out.c2 0).trans (show _ = some (Value.slice none 0 0) from rfl)
            have e1 := (blk_cell HP4.out.c2 1).trans (show _ = some (Value.int .i64 0) from rfl)
            have e2 := (blk_cell HP4.out.c3 0).trans (show _ = some (Value.int .i64 0) from rfl)
            have e3 := (blk_cell HP4.out.c3 1).trans (show _ = some (Value.int .i64 0) from rfl)
            have f0 := blk_frozen HP4.out.c2 0
            have f1 := blk_frozen HP4.out.c2 1
            have f2 := blk_frozen HP4.out.c3 0
            have f3 := blk_frozen HP4.out.c3 1
            clear hz
            go_wp2_with fail
            refine (well_same _ s4 p4 y4 z4 _ HP4.out.rd.1 false hwl).mono ?_
            rintro e w1 ⟨rfl, rfl⟩
            clear hwl
            go_wp2
            go_region
            all_goals
              go_wp2
              refine bodyPost_ret (results_cc rfl _ _ w.heap.size (w.heap.size + 1) 28 36 #[.slice none 0 0, .int .i64 0] #[.int .i64 y4, .int .i64 z4] (0, 0) (0, 0) _ _ rfl
                (by (with_reducible repeat (first | refine blk_drewN ?_ _ | refine blk_drew ?_)); refine blk_far ?_ HP4.out.n23 _; (with_reducible repeat (first | refine blk_drewN ?_ _ | refine blk_drew ?_)); refine blk_far ?_ HP4.out.n23 _; (with_reducible repeat (first | refine blk_drewN ?_ _ | refine blk_drew ?_)); (with_reducible repeat (first | refine blk_drewN ?_ _ | refine blk_drew ?_)); refine blk_put (cs := #[.slice none 0 0, .int .i64 0]) ?_ 1 _ rfl; (with_reducible repeat (first | refine blk_drewN ?_ _ | refine blk_drew ?_)); refine blk_put (cs := #[.slice none 0 0, .int .i64 0]) ?_ 0 _ rfl; (with_reducible repeat (first | refine blk_drewN ?_ _ | refine blk_drew ?_)); exact HP4.out.c2) Tryd.underlying28 rfl (by kernel_rfl) rfl
                (by (with_reducible repeat (first | refine blk_drewN ?_ _ | refine blk_drew ?_)); refine blk_put (cs := #[.int .i64 y4, .int .i64 0]) ?_ 1 _ rfl; (with_reducible repeat (first | refine blk_drewN ?_ _ | refine blk_drew ?_)); refine blk_put (cs := #[.int .i64 0, .int .i64 0]) ?_ 0 _ rfl; (with_reducible repeat (first | refine blk_drewN ?_ _ | refine blk_drew ?_)); (with_reducible repeat (first | refine blk_drewN ?_ _ | refine blk_drew ?_)); refine blk_far ?_ (Ne.symm HP4.out.n23) _; (with_reducible repeat (first | refine blk_drewN ?_ _ | refine blk_drew ?_)); refine blk_far ?_ (Ne.symm HP4.out.n23) _; (with_reducible repeat (first | refine blk_drewN ?_ _ | refine blk_drew ?_)); exact HP4.out.c3) Tryd.underlying36 rfl (by kernel_rfl)) rfl ?_
              exact ⟨_, rfl, Kd.R_nil _ _ _ _ _, by repeat (first | (with_reducible first | exact HP4.out.ad.bel | apply below_drew1 | apply pw_below_drewN | refine below_set ?_ HP4.out.p2 | refine below_set ?_ HP4.out.p3) | exact HP4.out.ad.bel)⟩
          | true =>
            rw [if_pos hwl] at H
            simp only [Option.some.injEq, Prod.mk.injEq] at H
            obtain ⟨rfl, rfl, rfl, rfl⟩ := H
            have e0 := (blk_cell HP4.out.c2 0).trans (show _ = some (Value.slice none 0 0) from rfl)
            have e1 := (blk_cell HP4.out.c2 1).trans (show _ = some (Value.int .i64 0) from rfl)
            obtain ⟨A, c, rfl⟩ := Kd.R_slice HP4.out.ad.row
            have hc0 := HP4.out.ad.cell0
            go_wp2_with fail
            refine (well_same _ s4 p4 y4 z4 _ HP4.out.rd.1 true hwl).mono ?_
            rintro e w1 ⟨rfl, rfl⟩
            clear hwl
            go_wp2_with fail
            refine (sort_own HP4.out.ad.row HP4.out.ad.bel (by have := HZ.out; omega)).mono ?_
            rintro e w5 ⟨rfl, hrow, hbel, hsz, hfr⟩
            have b2 := (hfr _ (blk_lt HP4.out.c2) (Kd.R_ne HP4.out.ad.row HP4.out.c2 (by decide))).trans HP4.out.c2
            have b3 := (hfr _ (blk_lt HP4.out.c3) (Kd.R_ne HP4.out.ad.row HP4.out.c3 (by decide))).trans HP4.out.c3
            have ba := (hfr _ (blk_lt HP4.out.ad.blk) HP4.out.ad.ne_row).trans HP4.out.ad.blk
            have B2 := Aside0.mk b2
            have B3 := Aside0.mk b3
            have HR := Aside0.mk hrow
            have HBl := Aside0.mk hbel
            have g0 := (blk_cell b2 0).trans (show _ = some (Value.slice none 0 0) from rfl)
            have g1 := (blk_cell b2 1).trans (show _ = some (Value.int .i64 0) from rfl)
            have g2 := (blk_cell b3 0).trans (show _ = some (Value.int .i64 0) from rfl)
            have g3 := (blk_cell b3 1).trans (show _ = some (Value.int .i64 0) from rfl)
            have g4 := (blk_cell ba 0).trans (show _ = some (Value.slice A xs9.length c) from rfl)
            have g5 := (blk_cell ba 1).trans (show _ = some (Value.int .i64 lim) from rfl)
            have f0 := blk_frozen b2 0
            have f1 := blk_frozen b2 1
            have f2 := blk_frozen b3 0
            have f3 := blk_frozen b3 1
            clear b2 b3 ba hrow hbel hsz hfr hc0 e0 e1
            go_wp2
            refine bodyPost_ret (results_cc rfl _ _ w.heap.size (w.heap.size + 1) 28 36 #[.slice A xs9.length c, .int .i64 lim] #[.int .i64 0, .int .i64 0] (0, 0) (0, 0) _ _ rfl
              (by (with_reducible repeat (first | refine blk_drewN ?_ _ | refine blk_drew ?_)); refine blk_far ?_ HP4.out.n23 _; (with_reducible repeat (first | refine blk_drewN ?_ _ | refine blk_drew ?_)); refine blk_far ?_ HP4.out.n23 _; (with_reducible repeat (first | refine blk_drewN ?_ _ | refine blk_drew ?_)); (with_reducible repeat (first | refine blk_drewN ?_ _ | refine blk_drew ?_)); refine blk_put (cs := #[.slice A xs9.length c, .int .i64 0]) ?_ 1 _ rfl; (with_reducible repeat (first | refine blk_drewN ?_ _ | refine blk_drew ?_)); refine blk_put (cs := #[.slice none 0 0, .int .i64 0]) ?_ 0 _ rfl; (with_reducible repeat (first | refine blk_drewN ?_ _ | refine blk_drew ?_)); exact B2.out) Tryd.underlying28 rfl (by kernel_rfl) rfl
              (by (with_reducible repeat (first | refine blk_drewN ?_ _ | refine blk_drew ?_)); refine blk_put (cs := #[.int .i64 0, .int .i64 0]) ?_ 1 _ rfl; (with_reducible repeat (first | refine blk_drewN ?_ _ | refine blk_drew ?_)); refine blk_put (cs := #[.int .i64 0, .int .i64 0]) ?_ 0 _ rfl; (with_reducible repeat (first | refine blk_drewN ?_ _ | refine blk_drew ?_)); (with_reducible repeat (first | refine blk_drewN ?_ _ | refine blk_drew ?_)); refine blk_far ?_ (Ne.symm HP4.out.n23) _; (with_reducible repeat (first | refine blk_drewN ?_ _ | refine blk_drew ?_)); refine blk_far ?_ (Ne.symm HP4.out.n23) _; (with_reducible repeat (first | refine blk_drewN ?_ _ | refine blk_drew ?_)); exact B3.out) Tryd.underlying36 rfl (by kernel_rfl)) rfl ?_
            have HR2 := Kd.R_types (Kd.R_types HR.out B2.out (by decide)) B3.out (by decide)
            exact ⟨_, rfl, Kd.R_mono (Kd.R_far (p := ⟨w.heap.size + 1, 1, none⟩) (Kd.R_far (p := ⟨w.heap.size + 1, 0, none⟩) (Kd.R_far (p := ⟨w.heap.size, 1, none⟩) (Kd.R_far (p := ⟨w.heap.size, 0, none⟩) HR2 (fun _ hk => hk.1.2) _) (fun _ hk => hk.1.2) _) (fun _ hk => hk.2) _) (fun _ hk => hk.2) _) (fun _ _ => trivial), by repeat (first | (with_reducible first | exact HBl.out | apply below_drew1 | apply pw_below_drewN | refine below_set ?_ HP4.out.p2 | refine below_set ?_ HP4.out.p3) | exact HBl.out)⟩
  · cases h2
end Go.Proofs.YtnfpchpnephheaaDoor.PA
end
section
namespace Go.Proofs.YtnfpchpnephheaaDoor.PA
open Go.RowKit Go.Proofs.YtnfpchpnephheaaDoor.Lib Go.Proofs.YtnfpchpnephheaaDoorW.PrintWords Go.Proofs.YtnfpchpnephheaaDoorW.PrintLast Go.Proofs.YtnfpchpnephheaaDoorW.PrintMore
def array_Parse.f (s : ByteArray) : Option (List Int × Int × Int × Int) := array_Parse.g (s.size + 2) s
theorem array_Parse.calls (s : ByteArray) (r1 : List Int) (r2 r3 r4 : Int) (w : World) (h : array_Parse.f s = some (r1, r2, r3, r4)) (hG : Glob w) :
    Calls Tryd.prog 14 #[.string s] w fun e w' => ∃ v1_ : Value, e = .returned (.tuple #[.agg #[v1_, .int .i64 r2], .agg #[.int .i64 r3, .int .i64 r4]]) ∧ Kd.R (Kd.int .i64) 3 w' w.heap.size (fun _ => True) v1_ r1 ∧ Below w.heap.size w w' :=
  array_Parse.callsG (s.size + 2) s r1 r2 r3 r4 w h hG
end Go.Proofs.YtnfpchpnephheaaDoor.PA
end
section
namespace Go.Proofs.YtnfpchpnephheaaDoor.Ar
open Go.RowKit Go.Proofs.YtnfpchpnephheaaDoor.Lib Go.Proofs.YtnfpchpnephheaaDoor.PA Go.Proofs.YtnfpchpnephheaaDoor.Txt Go.Proofs.YtnfpchpnephheaaDoor.Num Go.Proofs.YtnfpchpnephheaaDoor.Hn Go.Proofs.YtnfpchpnephheaaDoorW.PrintWords Go.Proofs.YtnfpchpnephheaaDoorW.PrintLast Go.Proofs.YtnfpchpnephheaaDoorW.PrintMore
set_option linter.unusedVariables false
set_option linter.unusedSimpArgs false
theorem digN_app (d rest : List UInt8) (hd : ∀ c ∈ d, isDig c = true) (hr : ∀ c ∈ rest.head?, isDig c = false) : digN (d ++ rest) = d.length := by
  unfold digN
  induction d with
  | nil =>
    cases rest with
    | nil => rfl
    | cons c r =>
      have := hr c rfl
      simp [this]
  | cons c d ih =>
    have h1 := hd c (by simp)
    rw [List.cons_append, List.takeWhile_cons, if_pos h1, List.length_cons, List.length_cons, ih (fun x hx => hd x (by simp [hx]))]
theorem atoi_dec (n : Nat) (h : n ≤ 999999) : Go.Lib.atoiAll (dec (n : Int)) = .ok (n : Int) := by
  obtain ⟨h1, h2, h3, _⟩ := dec_digits n
  have hl := dec_len 5 n (by omega)
  have := atoi_digits (Go.Lib.decDigits n) h1 h3 (by omega)
  rw [h2] at this
  exact this
theorem num_at (s : ByteArray) (pre rest : List UInt8) (n : Nat) (hn : n ≤ 999999) (y z low : Int) (hlow : low ≤ n) (hs : s.size ≤ 100000000) (hL : L s = pre ++ (dec (n : Int) ++ rest)) (hr : ∀ c ∈ rest.head?, isDig c = false) :
    array_reader_number.f s (pre.length : Int) y z low = some ((n : Int), s, ((pre.length + (dec (n : Int)).length : Nat) : Int), y, z) := by
  have hsz : s.size = pre.length + ((dec (n : Int)).length + rest.length) := by rw [← L_length, hL, List.length_append, List.length_append]
  have hd := dec_le (n : Int) (by omega)
  have hdr : (L s).drop pre.length = dec (n : Int) ++ rest := by rw [hL, List.drop_left]
  have hN : digN ((L s).drop pre.length) = (dec (n : Int)).length := by rw [hdr]; exact digN_app _ _ (dec_digits n).1 hr
  have hT : digT s pre.length = mkB (dec (n : Int)) := L_inj (by
    unfold digT
    rw [hN, extract_L, L_mkB, hdr, Nat.add_sub_cancel_left, List.take_left])
  have ha := atoi_dec n hn
  unfold array_reader_number.f
  rw [if_pos ⟨by omega, by omega, hs⟩, Int.toNat_natCast, hT, mkB_size, L_mkB, if_neg (by omega)]
  have hok : atoiOk (dec (n : Int)) = true := by unfold atoiOk; rw [ha]
  have hval : atoiVal (dec (n : Int)) = (n : Int) := by unfold atoiVal; rw [ha]
  rw [hok, hval, if_neg (by rintro (h | h); cases h; omega)]
  have hw : wrap64 ((pre.length : Int) + ((dec (n : Int)).length : Int)) = ((pre.length + (dec (n : Int)).length : Nat) : Int) := by unfold wrap64; omega
  rw [hw]
theorem next_yes (s : ByteArray) (pre rest : List UInt8) (c : UInt8) (hs : s.size ≤ 100000000) (hL : L s = pre ++ c :: rest) :
    array_reader_next.f s (pre.length : Int) 0 0 (c.toNat : Int) = some (true, s, ((pre.length + 1 : Nat) : Int), 0, 0) := by
  have hsz : s.size = pre.length + (rest.length + 1) := by rw [← L_length, hL, List.length_append, List.length_cons]
  unfold array_reader_next.f
  rw [if_pos (by rfl), if_neg (by omega), if_pos (by omega), if_pos (by omega), bt_L s pre.length (by omega)]
  have : (L s)[pre.length]'(by rw [L_length]; omega) = c := by simp only [hL]; simp
  rw [this, if_pos rfl, wrap_nat (by omega)]
theorem next_no (s : ByteArray) (pre rest : List UInt8) (c : UInt8) (hs : s.size ≤ 100000000) (hL : L s = pre ++ rest) (hc : ∀ d ∈ rest.head?, d ≠ c) :
    array_reader_next.f s (pre.length : Int) 0 0 (c.toNat : Int) = some (false, s, (pre.length : Int), 0, 0) := by
  have hsz : s.size = pre.length + rest.length := by rw [← L_length, hL, List.length_append]
  unfold array_reader_next.f
  rw [if_pos (by rfl)]
  cases rest with
  | nil => rw [if_pos (by rw [hsz]; rfl)]
  | cons d r =>
    rw [List.length_cons] at hsz
    rw [if_neg (by omega), if_pos (by omega), if_pos (by omega), bt_L s pre.length (by omega)]
    have : (L s)[pre.length]'(by rw [L_length]; omega) = d := by simp only [hL]; simp
    have hne := hc d rfl
    rw [this, if_neg (fun h => hne (UInt8.toNat_inj.1 (by omega)))]
def apL (st : Int) : Nat → Int → List Int
  | 0, _ => []
  | m + 1, x => x :: apL st m (x + st)
theorem add_ap (st : Int) (hst : 1 ≤ st ∧ st ≤ 999999) (to_ : Int) (ht : to_ ≤ 999999) : ∀ (m k : Nat) (xs : List Int) (n : Int), m < k → 0 ≤ n → n ≤ to_ + st → (∀ x ∈ xs, x < n) → xs.length + m ≤ 256 → (0 < m → n + ((m : Int) - 1) * st ≤ to_) → to_ < n + (m : Int) * st →
    array_Array_add.l k xs n to_ st = some (true, xs ++ apL st m n) := by
  intro m
  induction m with
  | zero =>
    intro k xs n hk h0 h1 hx hl hto hlast
    obtain ⟨k, rfl⟩ : ∃ j, k = j + 1 := ⟨k - 1, by omega⟩
    simp only [array_Array_add.l]
    rw [if_pos ⟨h0, by omega, by omega, by omega, by omega⟩, if_neg (by simp at hlast; omega)]
    simp [apL]
  | succ m ih =>
    intro k xs n hk h0 h1 hx hl hto hlast
    obtain ⟨k, rfl⟩ : ∃ j, k = j + 1 := ⟨k - 1, by omega⟩
    have hto2 := hto (by omega)
    have hms : (0 : Int) ≤ (m : Int) * st := Int.mul_nonneg (by omega) (by omega)
    have e1 : (((m + 1 : Nat) : Int) - 1) * st = (m : Int) * st := by congr 1; omega
    have e2 : ((m + 1 : Nat) : Int) * st = (m : Int) * st + st := by rw [show ((m + 1 : Nat) : Int) = (m : Int) + 1 by omega, Int.add_mul, Int.one_mul]
    rw [e1] at hto2
    rw [e2] at hlast
    have hnt : n ≤ to_ := by omega
    have hnm : n ∉ xs := fun h => by have := hx n h; omega
    simp only [array_Array_add.l]
    rw [if_pos ⟨h0, by omega, by omega, by omega, by omega⟩, if_pos hnt, if_neg hnm, if_neg (by omega)]
    rw [ih k (xs ++ [n]) (n + st) (by omega) (by omega) (by omega) (by
      intro x h
      rcases List.mem_append.1 h with h | h
      · have := hx x h; omega
      · rw [List.mem_singleton.1 h]; omega) (by rw [List.length_append, List.length_singleton]; omega) (by
      intro hm
      have : ((m : Int) - 1) * st = (m : Int) * st - st := by rw [Int.sub_mul, Int.one_mul]
      rw [this]; omega) (by omega)]
    simp [apL]
end Go.Proofs.YtnfpchpnephheaaDoor.Ar
end
section
namespace Go.Proofs.YtnfpchpnephheaaDoor.Ar
open Go.RowKit Go.Proofs.YtnfpchpnephheaaDoor.Lib Go.Proofs.YtnfpchpnephheaaDoor.PA Go.Proofs.YtnfpchpnephheaaDoor.Txt Go.Proofs.YtnfpchpnephheaaDoor.Num Go.Proofs.YtnfpchpnephheaaDoor.Hn Go.Proofs.YtnfpchpnephheaaDoorW.PrintWords Go.Proofs.YtnfpchpnephheaaDoorW.PrintLast Go.Proofs.YtnfpchpnephheaaDoorW.PrintMore
set_option linter.unusedVariables false
set_option linter.unusedSimpArgs false
theorem pNum_at (s : ByteArray) (hs : s.size ≤ 100000000) (pre rest : List UInt8) (x : Int) (hx : 0 ≤ x ∧ x ≤ 999999) (low : Int) (hlow : low ≤ x) (hL : L s = pre ++ (dec x ++ rest)) (hr : ∀ c ∈ rest.head?, isDig c = false) :
    pNum (s, (pre.length : Int), 0, 0) low = some (x, (s, ((pre ++ dec x).length : Int), 0, 0)) := by
  obtain ⟨n, rfl⟩ := Int.eq_ofNat_of_zero_le hx.1
  show array_reader_number.f s (pre.length : Int) 0 0 low = _
  rw [num_at s pre rest n (by omega) 0 0 low hlow hs hL hr, List.length_append]
theorem pNext_yes (s : ByteArray) (hs : s.size ≤ 100000000) (pre rest : List UInt8) (c : UInt8) (c' : Int) (hc : c' = (c.toNat : Int)) (hL : L s = pre ++ c :: rest) :
    pNext (s, (pre.length : Int), 0, 0) c' = some (true, (s, ((pre ++ [c]).length : Int), 0, 0)) := by
  subst hc
  show array_reader_next.f s (pre.length : Int) 0 0 (c.toNat : Int) = _
  rw [next_yes s pre rest c hs hL, List.length_append, List.length_singleton]
theorem pNext_no (s : ByteArray) (hs : s.size ≤ 100000000) (pre rest : List UInt8) (c : UInt8) (c' : Int) (hc : c' = (c.toNat : Int)) (hL : L s = pre ++ rest) (hd : ∀ d ∈ rest.head?, d ≠ c) :
    pNext (s, (pre.length : Int), 0, 0) c' = some (false, (s, (pre.length : Int), 0, 0)) := by
  subst hc
  show array_reader_next.f s (pre.length : Int) 0 0 (c.toNat : Int) = _
  rw [next_no s pre rest c hs hL hd]
def Stop (rest : List UInt8) : Prop := ∀ c ∈ rest.head?, isDig c = false ∧ c ≠ 45 ∧ c ≠ 58
theorem piece_one (s : ByteArray) (hs : s.size ≤ 100000000) (pre rest : List UInt8) (x : Int) (hx : 0 ≤ x ∧ x ≤ 999999) (hL : L s = pre ++ (dec x ++ rest)) (hr : Stop rest) (k : Nat) (xs : List Int) (hxs : ∀ y ∈ xs, y < x) (hl : xs.length + 1 ≤ 256) :
    parse_l (k + 1) xs (s, (pre.length : Int), 0, 0) true = (pNext (s, ((pre ++ dec x).length : Int), 0, 0) 44).bind fun m => parse_l k (xs ++ [x]) m.2 m.1 := by
  have hw : wellB (s, (pre.length : Int), 0, 0) = true := rfl
  have hw2 : wellB (s, ((pre ++ dec x).length : Int), 0, 0) = true := rfl
  have h1 := pNum_at s hs pre rest x hx 0 hx.1 hL (fun c h => (hr c h).1)
  have h2 := pNext_no s hs (pre ++ dec x) rest 45 45 rfl (by rw [hL, List.append_assoc]) (fun c h => (hr c h).2.1)
  have h3 := add_ap 1 (by omega) x hx.2 1 300 xs x (by omega) hx.1 (by omega) hxs (by omega) (by intro _; omega) (by omega)
  simp only [parse_l]
  rw [if_pos trivial, if_pos hw, h1, Option.bind_some]
  dsimp only
  rw [h2, Option.bind_some]
  dsimp only
  rw [if_neg (by decide)]
  unfold parse_tail
  rw [if_pos hw2, h3, Option.bind_some]
  dsimp only
  rw [if_pos rfl]
  simp [apL]
theorem piece_run (s : ByteArray) (hs : s.size ≤ 100000000) (pre rest : List UInt8) (x y : Int) (hx : 0 ≤ x ∧ x ≤ 999999) (hy : x ≤ y ∧ y ≤ 999999) (hL : L s = pre ++ (dec x ++ 45 :: (dec y ++ rest))) (hr : Stop rest) (k m : Nat) (xs : List Int) (hxs : ∀ z ∈ xs, z < x) (hm : 1 ≤ m) (hl : xs.length + m ≤ 256) (he : y = x + ((m : Int) - 1)) :
    parse_l (k + 1) xs (s, (pre.length : Int), 0, 0) true = (pNext (s, ((pre ++ (dec x ++ 45 :: dec y)).length : Int), 0, 0) 44).bind fun q => parse_l k (xs ++ apL 1 m x) q.2 q.1 := by
  have hw : wellB (s, (pre.length : Int), 0, 0) = true := rfl
  have hw2 : wellB (s, ((pre ++ dec x ++ [45] ++ dec y).length : Int), 0, 0) = true := rfl
  have h1 := pNum_at s hs pre (45 :: (dec y ++ rest)) x hx 0 hx.1 hL (by intro c h; simp at h; subst h; decide)
  have h2 := pNext_yes s hs (pre ++ dec x) (dec y ++ rest) 45 45 rfl (by rw [hL]; simp)
  have h3 := pNum_at s hs (pre ++ dec x ++ [45]) rest y (by omega) x hy.1 (by rw [hL]; simp) (fun c h => (hr c h).1)
  have h4 := pNext_no s hs (pre ++ dec x ++ [45] ++ dec y) rest 58 58 rfl (by rw [hL]; simp) (fun c h => (hr c h).2.2)
  have h5 := add_ap 1 (by omega) y hy.2 m 300 xs x (by omega) hx.1 (by omega) hxs (by omega) (by intro _; omega) (by omega)
  simp only [parse_l]
  rw [if_pos trivial, if_pos hw, h1, Option.bind_some]
  dsimp only
  rw [h2, Option.bind_some]
  dsimp only
  rw [if_pos rfl, h3, Option.bind_some]
  dsimp only
  rw [h4, Option.bind_some]
  dsimp only
  rw [if_neg (by decide)]
  unfold parse_tail
  rw [if_pos hw2, h5, Option.bind_some]
  dsimp only
  rw [if_pos rfl]
  have e : pre ++ dec x ++ [45] ++ dec y = pre ++ (dec x ++ 45 :: dec y) := by simp
  rw [e]
theorem piece_step (s : ByteArray) (hs : s.size ≤ 100000000) (pre rest : List UInt8) (x y st : Int) (hx : 0 ≤ x ∧ x ≤ 999999) (hy : x ≤ y ∧ y ≤ 999999) (hst : 1 ≤ st ∧ st ≤ 999999) (hL : L s = pre ++ (dec x ++ 45 :: (dec y ++ 58 :: (dec st ++ rest)))) (hr : Stop rest) (k m : Nat) (xs : List Int) (hxs : ∀ z ∈ xs, z < x) (hm : 1 ≤ m) (hl : xs.length + m ≤ 256) (he : y = x + ((m : Int) - 1) * st) :
    parse_l (k + 1) xs (s, (pre.length : Int), 0, 0) true = (pNext (s, ((pre ++ (dec x ++ 45 :: (dec y ++ 58 :: dec st))).length : Int), 0, 0) 44).bind fun q => parse_l k (xs ++ apL st m x) q.2 q.1 := by
  have hw : wellB (s, (pre.length : Int), 0, 0) = true := rfl
  have hw2 : wellB (s, ((pre ++ dec x ++ [45] ++ dec y ++ [58] ++ dec st).length : Int), 0, 0) = true := rfl
  have h1 := pNum_at s hs pre (45 :: (dec y ++ 58 :: (dec st ++ rest))) x hx 0 hx.1 hL (by intro c h; simp at h; subst h; decide)
  have h2 := pNext_yes s hs (pre ++ dec x) (dec y ++ 58 :: (dec st ++ rest)) 45 45 rfl (by rw [hL]; simp)
  have h3 := pNum_at s hs (pre ++ dec x ++ [45]) (58 :: (dec st ++ rest)) y (by omega) x hy.1 (by rw [hL]; simp) (by intro c h; simp at h; subst h; decide)
  have h4 := pNext_yes s hs (pre ++ dec x ++ [45] ++ dec y) (dec st ++ rest) 58 58 rfl (by rw [hL]; simp)
  have h6 := pNum_at s hs (pre ++ dec x ++ [45] ++ dec y ++ [58]) rest st (by omega) 1 hst.1 (by rw [hL]; simp) (fun c h => (hr c h).1)
  have h5 := add_ap st hst y hy.2 m 300 xs x (by omega) hx.1 (by omega) hxs (by omega) (by intro _; omega) (by
    have : ((m : Int) - 1) * st = (m : Int) * st - st := by rw [Int.sub_mul, Int.one_mul]
    rw [this] at he
    omega)
  simp only [parse_l]
  rw [if_pos trivial, if_pos hw, h1, Option.bind_some]
  dsimp only
  rw [h2, Option.bind_some]
  dsimp only
  rw [if_pos rfl, h3, Option.bind_some]
  dsimp only
  rw [h4, Option.bind_some]
  dsimp only
  rw [if_pos rfl, h6, Option.bind_some]
  dsimp only
  unfold parse_tail
  rw [if_pos hw2, h5, Option.bind_some]
  dsimp only
  rw [if_pos rfl]
  have e : pre ++ dec x ++ [45] ++ dec y ++ [58] ++ dec st = pre ++ (dec x ++ 45 :: (dec y ++ 58 :: dec st)) := by simp
  rw [e]
theorem ext_take (st : Int) : ∀ (r : List Int) (p : Int), r.take (ext st p r) = apL st (ext st p r) (p + st)
  | [], p => rfl
  | z :: r, p => by
    unfold ext
    split
    · rename_i h
      have hz : z = p + st := by omega
      rw [Nat.add_comm, List.take_succ_cons, ext_take st r z]
      show _ = (p + st) :: apL st (ext st z r) (p + st + st)
      rw [hz]
    · rfl
theorem run_take (x : Int) (r : List Int) : (x :: r).take (runLen (x :: r)) = apL (stepOf (x :: r)) (runLen (x :: r)) x := by
  have e : runLen (x :: r) = ext (stepOf (x :: r)) x r + 1 := Nat.add_comm _ _
  rw [e, List.take_succ_cons, ext_take]
  rfl
theorem ap_get (st : Int) : ∀ (m : Nat) (x : Int) (i : Nat), i < m → (apL st m x).getD i 0 = x + (i : Int) * st
  | 0, _, _, h => by omega
  | m + 1, x, 0, _ => by simp [apL]
  | m + 1, x, i + 1, h => by
    have := ap_get st m (x + st) i (by omega)
    have e : ((i + 1 : Nat) : Int) * st = (i : Int) * st + st := by rw [show ((i + 1 : Nat) : Int) = (i : Int) + 1 by omega, Int.add_mul, Int.one_mul]
    rw [e]
    show (apL st m (x + st)).getD i 0 = _
    rw [this]; omega
theorem run_last (x : Int) (r : List Int) : (x :: r).getD (runLen (x :: r) - 1) 0 = x + ((runLen (x :: r) : Int) - 1) * stepOf (x :: r) := by
  have hr1 : 1 ≤ runLen (x :: r) := by
    show 1 ≤ 1 + ext (stepOf (x :: r)) x r
    omega
  have h := ap_get (stepOf (x :: r)) (runLen (x :: r)) x (runLen (x :: r) - 1) (by omega)
  rw [← run_take, List.getD_eq_getElem?_getD, List.getElem?_take_of_lt (by omega), ← List.getD_eq_getElem?_getD] at h
  rw [h]
  congr 2
  omega
end Go.Proofs.YtnfpchpnephheaaDoor.Ar
end
section
namespace Go.Proofs.YtnfpchpnephheaaDoor.Ar
open Go.RowKit Go.Proofs.YtnfpchpnephheaaDoor.Lib Go.Proofs.YtnfpchpnephheaaDoor.PA Go.Proofs.YtnfpchpnephheaaDoor.Txt Go.Proofs.YtnfpchpnephheaaDoor.Num Go.Proofs.YtnfpchpnephheaaDoor.Hn Go.Proofs.YtnfpchpnephheaaDoorW.PrintWords Go.Proofs.YtnfpchpnephheaaDoorW.PrintLast Go.Proofs.YtnfpchpnephheaaDoorW.PrintMore
set_option linter.unusedVariables false
set_option linter.unusedSimpArgs false
theorem parts_nil (n : Nat) : parts n [] = [] := by cases n <;> rfl
theorem parts_ne (n : Nat) (l : List Int) (h : l ≠ []) (hn : l.length ≤ n) : parts n l ≠ [] := by
  cases n with
  | zero => exact absurd (List.length_eq_zero_iff.1 (by omega)) h
  | succ n =>
    cases l with
    | nil => exact absurd rfl h
    | cons x r =>
      simp only [parts]
      split
      · simp
      · split <;> simp
def restT (ts : List (List UInt8)) (tail : List UInt8) : List UInt8 := if ts = [] then tail else 44 :: (Go.Lib.join ts [44] ++ tail)
theorem join_cons (t : List UInt8) (ts : List (List UInt8)) (h : ts ≠ []) : Go.Lib.join (t :: ts) [44] = t ++ 44 :: Go.Lib.join ts [44] := by
  cases ts with
  | nil => exact absurd rfl h
  | cons a r => simp [Go.Lib.join, List.intercalate]
theorem join_one (t : List UInt8) : Go.Lib.join [t] [44] = t := by simp [Go.Lib.join, List.intercalate]
theorem join_rest (t : List UInt8) (ts : List (List UInt8)) (tail : List UInt8) : Go.Lib.join (t :: ts) [44] ++ tail = t ++ restT ts tail := by
  unfold restT
  by_cases h : ts = []
  · subst h; rw [if_pos rfl, join_one]
  · rw [if_neg h, join_cons t ts h]; simp
theorem stop_rest (ts : List (List UInt8)) (tail : List UInt8) (ht : ∀ c ∈ tail.head?, c = 37) : Stop (restT ts tail) := by
  intro c hc
  unfold restT at hc
  split at hc
  · rw [ht c hc]; decide
  · simp at hc; subst hc; decide
theorem piece_end (s : ByteArray) (hs : s.size ≤ 100000000) (tail : List UInt8) (ht : ∀ c ∈ tail.head?, c = 37) (n : Nat)
    (ih : ∀ (l : List Int) (pre : List UInt8) (xs : List Int) (k : Nat), l ≠ [] → l.length ≤ n → (parts n l).length < k → Good l → (∀ z ∈ xs, ∀ y ∈ l, z < y) → xs.length + l.length ≤ 256 → L s = pre ++ (Go.Lib.join (parts n l) [44] ++ tail) →
      parse_l k xs (s, (pre.length : Int), 0, 0) true = some (xs ++ l, (s, ((pre ++ Go.Lib.join (parts n l) [44]).length : Int), 0, 0)))
    (l : List Int) (pre : List UInt8) (xs : List Int) (k : Nat) (t : List UInt8) (m : Nat) (hm : 1 ≤ m) (hml : m ≤ l.length) (hl : l.length ≤ n + 1) (hk : (parts n (l.drop m)).length < k) (hg : Good l) (hxs : ∀ z ∈ xs, ∀ y ∈ l, z < y) (hlen : xs.length + l.length ≤ 256)
    (hL : L s = pre ++ (t ++ restT (parts n (l.drop m)) tail)) :
    ((pNext (s, ((pre ++ t).length : Int), 0, 0) 44).bind fun q => parse_l k (xs ++ l.take m) q.2 q.1) = some (xs ++ l, (s, ((pre ++ Go.Lib.join (t :: parts n (l.drop m)) [44]).length : Int), 0, 0)) := by
  by_cases hd : l.drop m = []
  · have hle : l.length ≤ m := by
      have := congrArg List.length hd
      rw [List.length_drop, List.length_nil] at this
      omega
    rw [hd, parts_nil] at hL ⊢
    have h1 := pNext_no s hs (pre ++ t) tail 44 44 rfl (by rw [hL, List.append_assoc]; rfl) (fun c hc => by rw [ht c hc]; decide)
    obtain ⟨k, rfl⟩ : ∃ j, k = j + 1 := ⟨k - 1, by omega⟩
    rw [h1, Option.bind_some, join_one, List.take_of_length_le hle]
    simp only [parse_l]
    rw [if_neg (by decide)]
  · have hdl : (l.drop m).length = l.length - m := List.length_drop
    have hpn := parts_ne n (l.drop m) hd (by omega)
    have hR : restT (parts n (l.drop m)) tail = 44 :: (Go.Lib.join (parts n (l.drop m)) [44] ++ tail) := by unfold restT; rw [if_neg hpn]
    rw [hR] at hL
    have h1 := pNext_yes s hs (pre ++ t) (Go.Lib.join (parts n (l.drop m)) [44] ++ tail) 44 44 rfl (by rw [hL, List.append_assoc])
    have hsplit := List.take_append_drop m l
    have hpw : (l.take m ++ l.drop m).Pairwise (· < ·) := by rw [hsplit]; exact hg.2
    have h2 := ih (l.drop m) (pre ++ t ++ [44]) (xs ++ l.take m) k hd (by omega) hk (hg.drop m) (by
      intro z hz y hy
      rcases List.mem_append.1 hz with hz | hz
      · exact hxs z hz y (List.mem_of_mem_drop hy)
      · exact (List.pairwise_append.1 hpw).2.2 z hz y hy) (by rw [List.length_append, List.length_take, hdl]; omega) (by rw [hL]; simp)
    rw [h1, Option.bind_some]
    dsimp only
    rw [h2, join_cons t _ hpn, List.append_assoc, hsplit]
    simp
theorem parse_parts (s : ByteArray) (hs : s.size ≤ 100000000) (tail : List UInt8) (ht : ∀ c ∈ tail.head?, c = 37) : ∀ (n : Nat) (l : List Int) (pre : List UInt8) (xs : List Int) (k : Nat), l ≠ [] → l.length ≤ n → (parts n l).length < k → Good l → (∀ z ∈ xs, ∀ y ∈ l, z < y) → xs.length + l.length ≤ 256 → L s = pre ++ (Go.Lib.join (parts n l) [44] ++ tail) →
      parse_l k xs (s, (pre.length : Int), 0, 0) true = some (xs ++ l, (s, ((pre ++ Go.Lib.join (parts n l) [44]).length : Int), 0, 0)) := by
  intro n
  induction n with
  | zero => intro l pre xs k hne hl; exact absurd (List.length_eq_zero_iff.1 (by omega)) hne
  | succ n ih =>
    intro l pre xs k hne hl hk hg hxs hlen hL
    cases l with
    | nil => exact absurd rfl hne
    | cons x r =>
      obtain ⟨s1, s2, s3⟩ := step_le x r hg
      obtain ⟨hlt, hgd, b1, b2⟩ := last_ok x r hg
      have hlast := run_last x r
      have htk := run_take x r
      have hxx := hg.1 x (by simp)
      have hrl := runLen_le (x :: r)
      have hr1 : 1 ≤ runLen (x :: r) := by
        show 1 ≤ 1 + ext (stepOf (x :: r)) x r
        omega
      have hx0 : ∀ z ∈ xs, z < x := fun z hz => hxs z hz x (by simp)
      have hst1 : 2 ≤ runLen (x :: r) → 1 ≤ stepOf (x :: r) := by
        intro h
        cases r with
        | nil => exact absurd hrl (by simp; omega)
        | cons y r =>
          have : x < y := (List.pairwise_cons.1 hg.2).1 y (by simp)
          show 1 ≤ y - x
          omega
      obtain ⟨k, rfl⟩ : ∃ j, k = j + 1 := ⟨k - 1, by omega⟩
      have hxy : x ≤ (x :: r).getD (runLen (x :: r) - 1) 0 := by
        rw [hlast]
        have : 0 ≤ ((runLen (x :: r) : Int) - 1) * stepOf (x :: r) := Int.mul_nonneg (by omega) s1
        omega
      simp only [parts] at hL hk ⊢
      generalize (x :: r).getD (runLen (x :: r) - 1) 0 = last at *
      by_cases c1 : stepOf (x :: r) = 1
      · rw [if_pos c1] at hL hk ⊢
        rw [join_rest] at hL
        rw [List.length_cons] at hk
        have h1 := piece_run s hs pre (restT (parts n ((x :: r).drop (runLen (x :: r)))) tail) x last hxx ⟨hxy, b2⟩ (by rw [hL]; simp) (stop_rest _ _ ht) k (runLen (x :: r)) xs hx0 hr1 (by omega) (by rw [hlast, c1, Int.mul_one])
        rw [c1] at htk
        rw [h1, ← htk]
        exact piece_end s hs tail ht n ih (x :: r) pre xs k _ (runLen (x :: r)) hr1 hrl hl (by omega) hg hxs hlen hL
      · rw [if_neg c1] at hL hk ⊢
        by_cases c2 : 2 < runLen (x :: r)
        · rw [if_pos c2] at hL hk ⊢
          rw [join_rest] at hL
          rw [List.length_cons] at hk
          have h1 := piece_step s hs pre (restT (parts n ((x :: r).drop (runLen (x :: r)))) tail) x last (stepOf (x :: r)) hxx ⟨hxy, b2⟩ ⟨hst1 (by omega), s2⟩ (by rw [hL]; simp) (stop_rest _ _ ht) k (runLen (x :: r)) xs hx0 hr1 (by omega) hlast
          rw [h1, ← htk]
          exact piece_end s hs tail ht n ih (x :: r) pre xs k _ (runLen (x :: r)) hr1 hrl hl (by omega) hg hxs hlen hL
        · rw [if_neg c2] at hL hk ⊢
          rw [join_rest] at hL
          rw [List.length_cons] at hk
          have h1 := piece_one s hs pre (restT (parts n r) tail) x hxx hL (stop_rest _ _ ht) k xs hx0 (by simp at hlen; omega)
          rw [h1]
          exact piece_end s hs tail ht n ih (x :: r) pre xs k (dec x) 1 (by omega) (by simp) hl (by simpa using (show (parts n r).length < k by omega)) hg hxs hlen hL
end Go.Proofs.YtnfpchpnephheaaDoor.Ar
end
section
namespace Go.Proofs.YtnfpchpnephheaaDoor.Ar
open Go.RowKit Go.Proofs.YtnfpchpnephheaaDoor.Lib Go.Proofs.YtnfpchpnephheaaDoor.PA Go.Proofs.YtnfpchpnephheaaDoor.Txt Go.Proofs.YtnfpchpnephheaaDoor.Num Go.Proofs.YtnfpchpnephheaaDoor.Hn Go.Proofs.YtnfpchpnephheaaDoorW.PrintWords Go.Proofs.YtnfpchpnephheaaDoorW.PrintLast Go.Proofs.YtnfpchpnephheaaDoorW.PrintMore
set_option linter.unusedVariables false
set_option linter.unusedSimpArgs false
theorem ints_l0 (l : List Int) (hl : l.length ≤ 1000) : ∀ (d i : Nat), l.length - i = d → i ≤ l.length → Ev (fun k => marlinspikeref01_Ints.l0 k l l (i : Int)) true := by
  intro d
  induction d with
  | zero =>
    intro i hd hi
    refine Ev.shift ⟨0, fun k hk => ?_⟩
    simp only [marlinspikeref01_Ints.l0]
    rw [if_neg (by omega)]
  | succ d ih =>
    intro i hd hi
    obtain ⟨K, hK⟩ := ih (i + 1) (by omega) (by omega)
    dsimp only at hK
    refine Ev.shift ⟨K, fun k hk => ?_⟩
    have h2 := hK k hk
    simp only [marlinspikeref01_Ints.l0]
    rw [wrap_nat (by omega), if_pos (by omega), if_pos (by omega), if_pos (by omega), if_pos trivial]
    exact h2
theorem ints_ev (l : List Int) (hl : l.length ≤ 1000) : Ev (fun k => marlinspikeref01_Ints.f k l l) true := by
  obtain ⟨K, hK⟩ := ints_l0 l hl _ 0 rfl (by omega)
  refine ⟨K, fun k hk => ?_⟩
  simp only [marlinspikeref01_Ints.f]
  rw [if_pos trivial]
  exact hK k hk
theorem parts_ok : ∀ (n : Nat) (l : List Int), Good l → (∀ t ∈ parts n l, t ≠ [] ∧ t.length ≤ 100) ∧ (parts n l).length ≤ n
  | 0, l, _ => ⟨by simp [parts], by simp [parts]⟩
  | n + 1, [], _ => ⟨by simp [parts], by simp [parts]⟩
  | n + 1, x :: r, hg => by
    obtain ⟨s1, s2, s3⟩ := step_le x r hg
    obtain ⟨hlt, hgd, b1, b2⟩ := last_ok x r hg
    have hxx := hg.1 x (by simp)
    have hd1 := dec_le x hxx.2
    have hd2 := dec_le _ b2
    have hd3 := dec_le _ s2
    have hne := dec_ne x
    obtain ⟨i1, i2⟩ := parts_ok n ((x :: r).drop (runLen (x :: r))) (hg.drop _)
    obtain ⟨j1, j2⟩ := parts_ok n r (hg.drop 1)
    simp only [parts]
    generalize (x :: r).getD (runLen (x :: r) - 1) 0 = last at *
    split
    · refine ⟨fun t ht => ?_, by rw [List.length_cons]; omega⟩
      rcases List.mem_cons.1 ht with rfl | ht
      · exact ⟨by simp, by rw [List.length_append, List.length_cons]; omega⟩
      · exact i1 t ht
    · split
      · refine ⟨fun t ht => ?_, by rw [List.length_cons]; omega⟩
        rcases List.mem_cons.1 ht with rfl | ht
        · exact ⟨by simp, by rw [List.length_append, List.length_cons, List.length_append, List.length_cons]; omega⟩
        · exact i1 t ht
      · refine ⟨fun t ht => ?_, by rw [List.length_cons]; omega⟩
        rcases List.mem_cons.1 ht with rfl | ht
        · exact ⟨hne, by omega⟩
        · exact j1 t ht
theorem join_ge : ∀ (ts : List (List UInt8)), (∀ t ∈ ts, t ≠ []) → ts.length ≤ (Go.Lib.join ts [44]).length
  | [], _ => Nat.zero_le _
  | t :: ts, h => by
    have ht : 1 ≤ t.length := List.length_pos_iff.2 (h t (by simp))
    by_cases hn : ts = []
    · subst hn; rw [join_one]; simpa using ht
    · have := join_ge ts (fun x hx => h x (by simp [hx]))
      rw [join_cons t ts hn, List.length_append, List.length_cons, List.length_cons]
      omega
theorem sort_good (l : List Int) (h : Good l) : sortL l = l := by
  refine List.mergeSort_of_pairwise ?_
  exact h.2.imp (fun h => by simp only [decide_eq_true_eq]; omega)
theorem parse_text (l : List Int) (lim : Int) (h : rightB l lim = true) : array_Parse.f (mkB (textOf l lim)) = some (l, lim, 0, 0) := by
  obtain ⟨hg, hl, h0, h9⟩ := right_good h
  have hne : l ≠ [] := by
    rintro rfl
    simp [rightB] at h
  obtain ⟨p1, p2⟩ := parts_ok l.length l hg
  have hj := join_len (parts l.length l) (fun t ht => (p1 t ht).2)
  have hmul : (parts l.length l).length * 101 ≤ 256 * 101 := Nat.mul_le_mul_right _ (by omega)
  have hge := join_ge (parts l.length l) (fun t ht => (p1 t ht).1)
  have hd := dec_le lim h9
  have htl : (limT lim).length ≤ 7 := by
    unfold limT
    split
    · rw [List.length_cons]; omega
    · simp
  obtain ⟨s, hsd⟩ : ∃ s, mkB (textOf l lim) = s := ⟨_, rfl⟩
  have hL : L s = Go.Lib.join (parts l.length l) [44] ++ limT lim := by rw [← hsd, L_mkB]; rfl
  have hsz : s.size = (Go.Lib.join (parts l.length l) [44]).length + (limT lim).length := by rw [← L_length, hL, List.length_append]
  have hs : s.size ≤ 100000000 := by omega
  have ht : ∀ c ∈ (limT lim).head?, c = 37 := by
    intro c hc
    unfold limT at hc
    split at hc
    · simpa using hc.symm
    · simp at hc
  have hp : parse_l (s.size + 2) [] (s, 0, 0, 0) true = some (l, (s, ((Go.Lib.join (parts l.length l) [44]).length : Int), 0, 0)) := parse_parts s hs (limT lim) ht l.length l [] [] (s.size + 2) hne (Nat.le_refl _) (by omega) hg (by simp) (by simpa using hl) (by rw [hL]; rfl)
  rw [hsd]
  unfold array_Parse.f array_Parse.g
  rw [hp, Option.bind_some]
  dsimp only
  rw [if_pos (by omega)]
  unfold parse_end
  by_cases c : 0 < lim
  · have hlt : limT lim = 37 :: (dec lim ++ []) := by unfold limT; rw [if_pos c, List.append_nil]
    rw [hlt] at hL
    have h1 := pNext_yes s hs (Go.Lib.join (parts l.length l) [44]) (dec lim ++ []) 37 37 rfl hL
    have h2 := pNum_at s hs (Go.Lib.join (parts l.length l) [44] ++ [37]) [] lim ⟨h0, h9⟩ 1 (by omega) (by rw [hL]; simp) (by simp)
    have hend : s.size = (Go.Lib.join (parts l.length l) [44] ++ [37] ++ dec lim).length := by rw [← L_length, hL]; simp
    rw [h1, Option.bind_some]
    dsimp only
    rw [if_pos rfl, h2, Option.bind_some]
    dsimp only
    unfold parse_fin
    dsimp only
    rw [if_neg (by rw [hend]; omega)]
    unfold parse_out
    rw [if_pos (show wellB (s, _, 0, 0) = true from rfl), sort_good l hg]
  · have hlt : limT lim = [] := by unfold limT; rw [if_neg c]
    have hl0 : lim = 0 := by omega
    rw [hlt] at hL
    have h1 := pNext_no s hs (Go.Lib.join (parts l.length l) [44]) [] 37 37 rfl hL (by simp)
    have hend : s.size = (Go.Lib.join (parts l.length l) [44]).length := by rw [← L_length, hL]; simp
    rw [h1, Option.bind_some]
    dsimp only
    rw [if_neg (by decide)]
    unfold parse_fin
    dsimp only
    rw [if_neg (by rw [hend]; omega)]
    unfold parse_out
    rw [if_pos (show wellB (s, _, 0, 0) = true from rfl), sort_good l hg, hl0]
end Go.Proofs.YtnfpchpnephheaaDoor.Ar
end
section
namespace Go.Proofs.YtnfpchpnephheaaDoor.Ar
open Go.RowKit Go.Proofs.YtnfpchpnephheaaDoor.Lib Go.Proofs.YtnfpchpnephheaaDoor.PA Go.Proofs.YtnfpchpnephheaaDoor.Txt Go.Proofs.YtnfpchpnephheaaDoor.Num Go.Proofs.YtnfpchpnephheaaDoor.Hn Go.Proofs.YtnfpchpnephheaaDoorW.PrintWords Go.Proofs.YtnfpchpnephheaaDoorW.PrintLast Go.Proofs.YtnfpchpnephheaaDoorW.PrintMore
set_option linter.unusedVariables false
set_option linter.unusedSimpArgs false
theorem wrong_any (s : ByteArray) (p y z at_ : Int) : ∃ y' z', array_reader_wrong.f s p y z at_ = some (s, p, y', z') ∧ ¬ (y' = 0 ∧ z' = 0) := by
  unfold array_reader_wrong.f array_reader_well.f
  simp only [Option.bind_some]
  by_cases h : (y == 0 && z == 0) = true
  · rw [if_pos h]
    split
    · exact ⟨4, at_, rfl, by omega⟩
    · exact ⟨3, at_, rfl, by omega⟩
  · rw [if_neg h]
    refine ⟨y, z, rfl, ?_⟩
    rintro ⟨rfl, rfl⟩
    exact h rfl
theorem next_any (s : ByteArray) (p : Nat) (hp : p ≤ s.size) (hs : s.size ≤ 100000000) (y z c : Int) : ∃ (b : Bool) (p' : Nat), array_reader_next.f s (p : Int) y z c = some (b, s, (p' : Int), y, z) ∧ p ≤ p' ∧ p' ≤ s.size ∧ (b = true → p < p' ∧ y = 0 ∧ z = 0) := by
  unfold array_reader_next.f
  by_cases h : (y == 0 && z == 0) = true
  · rw [if_pos h]
    have hyz : y = 0 ∧ z = 0 := by simpa using h
    by_cases h1 : (p : Int) = (s.size : Int)
    · rw [if_pos h1]; exact ⟨false, p, rfl, Nat.le_refl _, hp, fun h => by cases h⟩
    · rw [if_neg h1, if_pos (by omega), if_pos (by omega)]
      split
      · exact ⟨true, p + 1, by rw [wrap_nat (by omega)], by omega, by omega, fun _ => ⟨by omega, hyz⟩⟩
      · exact ⟨false, p, rfl, Nat.le_refl _, hp, fun h => by cases h⟩
  · rw [if_neg h]
    exact ⟨false, p, rfl, Nat.le_refl _, hp, fun h => by cases h⟩
theorem dig_len (s : ByteArray) (p : Nat) (hp : p ≤ s.size) : (digT s p).size ≤ s.size - p ∧ ∀ c ∈ L (digT s p), isDig c = true := by
  have hn := digN_le ((L s).drop p)
  rw [List.length_drop, L_length] at hn
  refine ⟨by unfold digT; rw [ByteArray.size_extract]; omega, ?_⟩
  intro c hc
  unfold digT at hc
  rw [extract_L, Nat.add_sub_cancel_left] at hc
  have e : ((L s).drop p).take (digN ((L s).drop p)) = ((L s).drop p).takeWhile isDig := by
    unfold digN
    exact List.prefix_iff_eq_take.1 (List.takeWhile_prefix isDig) |>.symm
  rw [e] at hc
  exact run_all isDig (L s) p c hc
theorem num_any (s : ByteArray) (p : Nat) (hp : p ≤ s.size) (hs : s.size ≤ 100000000) (y z low : Int) (hlow : 0 ≤ low) : ∃ (v : Int) (p' : Nat) (y' z' : Int), array_reader_number.f s (p : Int) y z low = some (v, s, (p' : Int), y', z') ∧ p ≤ p' ∧ p' ≤ s.size ∧ 0 ≤ v ∧ ((y' = 0 ∧ z' = 0) → y = 0 ∧ z = 0 ∧ low ≤ v ∧ v ≤ 999999 ∧ p < p') := by
  obtain ⟨d1, d2⟩ := dig_len s p hp
  have hLs : (L (digT s p)).length = (digT s p).size := L_length _
  unfold array_reader_number.f
  rw [if_pos ⟨by omega, by omega, hs⟩, Int.toNat_natCast]
  by_cases h6 : 6 < (digT s p).size
  · rw [if_pos h6]
    obtain ⟨y', z', hw, hne⟩ := wrong_any s p y z (wrap64 ((p : Int) + 6))
    rw [hw]
    exact ⟨0, p, y', z', rfl, Nat.le_refl _, hp, Int.le_refl _, fun h => absurd h hne⟩
  · rw [if_neg h6]
    have hv : 0 ≤ atoiVal (L (digT s p)) ∧ (atoiOk (L (digT s p)) = true → atoiVal (L (digT s p)) ≤ 999999 ∧ 0 < (digT s p).size) := by
      by_cases hne : L (digT s p) = []
      · rw [hne]; exact ⟨by decide, fun h => by rw [show atoiOk [] = false by decide] at h; cases h⟩
      · have ha := atoi_digits _ d2 hne (by omega)
        have hlt := valD_lt _ d2
        have hpow : 10 ^ (L (digT s p)).length ≤ 10 ^ 6 := Nat.pow_le_pow_right (by omega) (by omega)
        have hlen := List.length_pos_iff.2 hne
        unfold atoiVal
        rw [ha]
        exact ⟨by show (0 : Int) ≤ (valD _ : Int); omega, fun _ => ⟨by show (valD _ : Int) ≤ 999999; omega, by omega⟩⟩
    have hwr : ∀ q : Int, q = (p : Int) → wrap64 (q + ((digT s p).size : Int)) = ((p + (digT s p).size : Nat) : Int) := by
      rintro q rfl
      unfold wrap64; omega
    split
    · obtain ⟨y', z', hw, hne⟩ := wrong_any s p y z p
      rw [hw]
      exact ⟨_, p + (digT s p).size, y', z', by rw [Option.bind_some, hwr _ rfl], by omega, by omega, hv.1, fun h => absurd h hne⟩
    · rename_i hn
      have hn1 : atoiOk (L (digT s p)) = true := by
        cases h : atoiOk (L (digT s p)) with
        | true => rfl
        | false => exact absurd (Or.inl h) hn
      have hn2 : low ≤ atoiVal (L (digT s p)) := by
        by_cases h : atoiVal (L (digT s p)) < low
        · exact absurd (Or.inr h) hn
        · omega
      obtain ⟨v1, v2⟩ := hv.2 hn1
      exact ⟨_, p + (digT s p).size, y, z, by rw [hwr _ rfl], by omega, by omega, hv.1, fun h => ⟨h.1, h.2, hn2, v1, by omega⟩⟩
def Sound (xs : List Int) : Prop := (∀ x ∈ xs, 0 ≤ x ∧ x ≤ 999999) ∧ xs.Nodup ∧ xs.length ≤ 256
theorem add_any (st : Int) (hst : 1 ≤ st ∧ st ≤ 999999) (to_ : Int) (ht : to_ ≤ 999999) : ∀ (d k : Nat) (xs : List Int) (n : Int), 256 - xs.length = d → d + 1 < k → 0 ≤ n → n ≤ 2000000 → Sound xs → ∃ b ys, array_Array_add.l k xs n to_ st = some (b, ys) ∧ Sound ys ∧ xs.length ≤ ys.length ∧ (b = true → n ≤ to_ → xs.length < ys.length) := by
  intro d
  induction d with
  | zero =>
    intro k xs n hd hk h0 hn hS
    obtain ⟨k, rfl⟩ : ∃ j, k = j + 1 := ⟨k - 1, by omega⟩
    have hl := hS.2.2
    simp only [array_Array_add.l]
    rw [if_pos ⟨h0, hn, by omega, by omega, hl⟩]
    split
    · rw [if_pos (show xs.length = 256 by omega), ite_self]
      exact ⟨false, xs, rfl, hS, Nat.le_refl _, fun h => by cases h⟩
    · exact ⟨true, xs, rfl, hS, Nat.le_refl _, fun _ h => by omega⟩
  | succ d ih =>
    intro k xs n hd hk h0 hn hS
    obtain ⟨k, rfl⟩ : ∃ j, k = j + 1 := ⟨k - 1, by omega⟩
    have hl := hS.2.2
    simp only [array_Array_add.l]
    rw [if_pos ⟨h0, hn, by omega, by omega, hl⟩]
    split
    · rename_i hnt
      by_cases hm : n ∈ xs
      · rw [if_pos hm]
        exact ⟨false, xs, rfl, hS, Nat.le_refl _, fun h => by cases h⟩
      · rw [if_neg hm, if_neg (by omega)]
        have hS2 : Sound (xs ++ [n]) := by
          refine ⟨fun x hx => ?_, ?_, by rw [List.length_append, List.length_singleton]; omega⟩
          · rcases List.mem_append.1 hx with hx | hx
            · exact hS.1 x hx
            · rw [List.mem_singleton.1 hx]; omega
          · rw [List.nodup_append]
            exact ⟨hS.2.1, by simp, fun x hx y hy e => hm (by rw [List.mem_singleton.1 hy] at e; rw [← e]; exact hx)⟩
        obtain ⟨b, ys, e, hS3, hle, _⟩ := ih k (xs ++ [n]) (n + st) (by rw [List.length_append, List.length_singleton]; omega) (by omega) (by omega) (by omega) hS2
        rw [List.length_append, List.length_singleton] at hle
        exact ⟨b, ys, e, hS3, by omega, fun _ _ => by omega⟩
    · exact ⟨true, xs, rfl, hS, Nat.le_refl _, fun _ h => by omega⟩
end Go.Proofs.YtnfpchpnephheaaDoor.Ar
end
section
namespace Go.Proofs.YtnfpchpnephheaaDoor.Ar
open Go.RowKit Go.Proofs.YtnfpchpnephheaaDoor.Lib Go.Proofs.YtnfpchpnephheaaDoor.PA Go.Proofs.YtnfpchpnephheaaDoor.Txt Go.Proofs.YtnfpchpnephheaaDoor.Num Go.Proofs.YtnfpchpnephheaaDoor.Hn Go.Proofs.YtnfpchpnephheaaDoorW.PrintWords Go.Proofs.YtnfpchpnephheaaDoorW.PrintLast Go.Proofs.YtnfpchpnephheaaDoorW.PrintMore
set_option linter.unusedVariables false
set_option linter.unusedSimpArgs false
def Ends (s : ByteArray) (n : Nat) (Q : List Int → Prop) (r : Option (List Int × St)) : Prop := ∃ zs p' y' z', r = some (zs, (s, ((p' : Nat) : Int), y', z')) ∧ p' ≤ s.size ∧ Sound zs ∧ n ≤ zs.length ∧ ((y' = 0 ∧ z' = 0) → Q zs)
def PIH (s : ByteArray) (k : Nat) : Prop := ∀ (xs : List Int) (p : Nat) (y z : Int) (more : Bool), p ≤ s.size → 1 ≤ k → (more = true → s.size - p + 2 ≤ k) → Sound xs → Ends s xs.length (fun zs => (y = 0 ∧ z = 0) ∧ (more = true → 0 < zs.length)) (parse_l k xs (s, (p : Int), y, z) more)
theorem again_any (s : ByteArray) (hs : s.size ≤ 100000000) (k p : Nat) (ih : PIH s k) (hk : s.size - p + 2 ≤ k + 1) (hk1 : 1 ≤ k) (ys : List Int) (q : Nat) (y z : Int) (hq : q ≤ s.size) (hpq : p ≤ q) (hw : (y = 0 ∧ z = 0) → p < q) (hS : Sound ys) :
    Ends s ys.length (fun _ => y = 0 ∧ z = 0) ((pNext (s, (q : Int), y, z) 44).bind fun m => parse_l k ys m.2 m.1) := by
  obtain ⟨b, q', e, h1, h2, h3⟩ := next_any s q hq hs y z 44
  have e' : pNext (s, (q : Int), y, z) 44 = some (b, (s, (q' : Int), y, z)) := e
  rw [e', Option.bind_some]
  dsimp only
  obtain ⟨zs, p', y', z', r1, r2, r3, r4, r5⟩ := ih ys q' y z b h2 hk1 (fun hb => by
    obtain ⟨h4, h5⟩ := h3 hb
    have := hw h5
    omega) hS
  exact ⟨zs, p', y', z', r1, r2, r3, r4, fun h => (r5 h).1⟩
theorem tail_any (s : ByteArray) (hs : s.size ≤ 100000000) (k p : Nat) (ih : PIH s k) (hk : s.size - p + 2 ≤ k + 1) (hk1 : 1 ≤ k) (xs : List Int) (at_ from_ to_ step : Int) (q : Nat) (y z : Int) (hq : q ≤ s.size) (hpq : p ≤ q) (hS : Sound xs)
    (hw : (y = 0 ∧ z = 0) → p < q ∧ 0 ≤ from_ ∧ from_ ≤ to_ ∧ to_ ≤ 999999 ∧ 1 ≤ step ∧ step ≤ 999999) :
    Ends s xs.length (fun zs => (y = 0 ∧ z = 0) ∧ 0 < zs.length) (parse_tail (fun ys st' => (pNext st' 44).bind fun m => parse_l k ys m.2 m.1) xs at_ from_ to_ step (s, (q : Int), y, z)) := by
  unfold parse_tail
  by_cases h : wellB (s, (q : Int), y, z) = true
  · have hyz : y = 0 ∧ z = 0 := by simpa [wellB] using h
    obtain ⟨w1, w2, w3, w4, w5, w6⟩ := hw hyz
    obtain ⟨b, ys, e, h1, h2, h3⟩ := add_any step ⟨w5, w6⟩ to_ w4 _ 300 xs from_ rfl (by omega) w2 (by omega) hS
    rw [if_pos h, e, Option.bind_some]
    dsimp only
    cases b with
    | true =>
      rw [if_pos rfl]
      obtain ⟨zs, p', y', z', r1, r2, r3, r4, r5⟩ := again_any s hs k p ih hk hk1 ys q y z hq hpq (fun _ => w1) h1
      have := h3 rfl w3
      exact ⟨zs, p', y', z', r1, r2, r3, by omega, fun h => ⟨r5 h, by omega⟩⟩
    | false =>
      rw [if_neg (by decide)]
      obtain ⟨zs, p', y', z', r1, r2, r3, r4, r5⟩ := again_any s hs k p ih hk hk1 ys q 5 at_ hq hpq (fun h => by omega) h1
      exact ⟨zs, p', y', z', r1, r2, r3, by omega, fun h => absurd (r5 h).1 (by decide)⟩
  · have hyz : ¬ (y = 0 ∧ z = 0) := by
      rintro ⟨rfl, rfl⟩
      exact h rfl
    rw [if_neg h]
    obtain ⟨zs, p', y', z', r1, r2, r3, r4, r5⟩ := again_any s hs k p ih hk hk1 xs q y z hq hpq (fun h => absurd h hyz) hS
    exact ⟨zs, p', y', z', r1, r2, r3, r4, fun h => absurd (r5 h) hyz⟩
theorem Ends.imp {s : ByteArray} {n : Nat} {Q Q' : List Int → Prop} {r : Option (List Int × St)} (h : Ends s n Q r) (hq : ∀ zs, Q zs → Q' zs) : Ends s n Q' r := by
  obtain ⟨zs, p', y', z', r1, r2, r3, r4, r5⟩ := h
  exact ⟨zs, p', y', z', r1, r2, r3, r4, fun h => hq _ (r5 h)⟩
theorem parse_any (s : ByteArray) (hs : s.size ≤ 100000000) : ∀ k, PIH s k := by
  intro k
  induction k with
  | zero => intro xs p y z more hp h1; omega
  | succ k ih =>
    intro xs p y z more hp h1 hk hS
    simp only [parse_l]
    cases more with
    | false =>
      rw [if_neg (by decide)]
      exact ⟨xs, p, y, z, rfl, hp, hS, Nat.le_refl _, fun h => ⟨h, fun h => by cases h⟩⟩
    | true =>
      have hk2 := hk rfl
      rw [if_pos rfl]
      by_cases h : wellB (s, (p : Int), y, z) = true
      · have hyz : y = 0 ∧ z = 0 := by simpa [wellB] using h
        rw [if_pos h]
        obtain ⟨a, p1, y1, z1, e1, l1, m1, a0, w1⟩ := num_any s p hp hs y z 0 (by omega)
        have e1' : pNum (s, (p : Int), y, z) 0 = some (a, (s, (p1 : Int), y1, z1)) := e1
        rw [e1', Option.bind_some]
        dsimp only
        obtain ⟨b, p2, e2, l2, m2, w2⟩ := next_any s p1 m1 hs y1 z1 45
        have e2' : pNext (s, (p1 : Int), y1, z1) 45 = some (b, (s, (p2 : Int), y1, z1)) := e2
        rw [e2', Option.bind_some]
        dsimp only
        cases b with
        | false =>
          rw [if_neg (by decide)]
          refine (tail_any s hs k p ih hk2 (by omega) xs _ a a 1 p2 y1 z1 m2 (by omega) hS (fun hw => ?_)).imp (fun zs hz => ⟨hyz, fun _ => hz.2⟩)
          obtain ⟨_, _, v1, v2, v3⟩ := w1 hw
          exact ⟨by omega, a0, by omega, v2, by omega, by omega⟩
        | true =>
          rw [if_pos rfl]
          obtain ⟨t, p3, y3, z3, e3, l3, m3, t0, w3⟩ := num_any s p2 m2 hs y1 z1 a a0
          have e3' : pNum (s, (p2 : Int), y1, z1) a = some (t, (s, (p3 : Int), y3, z3)) := e3
          rw [e3', Option.bind_some]
          dsimp only
          obtain ⟨b4, p4, e4, l4, m4, w4⟩ := next_any s p3 m3 hs y3 z3 58
          have e4' : pNext (s, (p3 : Int), y3, z3) 58 = some (b4, (s, (p4 : Int), y3, z3)) := e4
          rw [e4', Option.bind_some]
          dsimp only
          cases b4 with
          | false =>
            rw [if_neg (by decide)]
            refine (tail_any s hs k p ih hk2 (by omega) xs _ a t 1 p4 y3 z3 m4 (by omega) hS (fun hw => ?_)).imp (fun zs hz => ⟨hyz, fun _ => hz.2⟩)
            obtain ⟨_, _, v1, v2, v3⟩ := w3 hw
            exact ⟨by omega, a0, v1, v2, by omega, by omega⟩
          | true =>
            rw [if_pos rfl]
            obtain ⟨u, p5, y5, z5, e5, l5, m5, u0, w5⟩ := num_any s p4 m4 hs y3 z3 1 (by omega)
            have e5' : pNum (s, (p4 : Int), y3, z3) 1 = some (u, (s, (p5 : Int), y5, z5)) := e5
            rw [e5', Option.bind_some]
            dsimp only
            refine (tail_any s hs k p ih hk2 (by omega) xs _ a t u p5 y5 z5 m5 (by omega) hS (fun hw => ?_)).imp (fun zs hz => ⟨hyz, fun _ => hz.2⟩)
            obtain ⟨q1, q2, v1, v2, v3⟩ := w5 hw
            obtain ⟨_, _, x1, x2, x3⟩ := w3 ⟨q1, q2⟩
            exact ⟨by omega, a0, x1, x2, v1, v2⟩
      · rw [if_neg h]
        exact ⟨xs, p, y, z, rfl, hp, hS, Nat.le_refl _, fun hh => absurd (by rw [hh.1, hh.2]; rfl) h⟩
end Go.Proofs.YtnfpchpnephheaaDoor.Ar
end
