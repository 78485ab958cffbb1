/- HostSpan holds of every three numbers: a range of numbers is just these numbers behind its prefix, or too many are refused. -/
import Derived.Test.YtoammgpfbdcphaaDoorZ08
import Derived.Test.YtoammgpfbdcphaaDoorZ09
import Derived.Test.YtoammgpfbdcphaaDoorZ03
import Derived.Test.YtoammgpfbdcphaaDoorZ07
import Derived.Test.YtoammgpfbdcphaaDoorRows
import Derived.Test.YtoammgpfbdcphaaDoorCards
import Derived.Test.YtoammgpfbdcphaaDoorTie
import Derived.Test.YtoammgpfbdcphaaDoorZ02
import Derived.Lay
import Derived.WalkKit
import Derived.ProofKit
import Derived.OpenShut
import Derived.ShutString
import Derived.ChangeOld
import Derived.Below
import Derived.Carry
import Derived.SizedLaws
import Derived.Deep.DeepHandedRow
import Derived.Deep.DeepWitnessRowRef
import Derived.Stop.LaidErr
import Derived.Lib.LaidTab
import Derived.LaidMore
section
namespace Go.Proofs.YtoammgpfbdcphaaDoor.Hx
open Go.RowKit Go.Proofs.YtoammgpfbdcphaaDoor.Lib Go.Proofs.YtoammgpfbdcphaaDoor.PH Go.Proofs.YtoammgpfbdcphaaDoor.Txt Go.Proofs.YtoammgpfbdcphaaDoor.Num Go.Proofs.YtoammgpfbdcphaaDoor.Hn Go.Proofs.YtoammgpfbdcphaaDoorW.PrintWords Go.Proofs.YtoammgpfbdcphaaDoorW.PrintLast Go.Proofs.YtoammgpfbdcphaaDoorW.PrintMore
set_option linter.unusedVariables false
set_option linter.unusedSimpArgs false
theorem rdN (xs : List ByteArray) (i : Nat) (h : i < xs.length) : rdOf ByteArray.empty xs (i : Int) = xs[i] := by
  unfold rdOf
  rw [Int.toNat_natCast, List.getD_eq_getElem?_getD, List.getElem?_eq_getElem h]; rfl
theorem one_sz (c : UInt8) : (⟨#[c]⟩ : ByteArray).size = 1 := rfl
end Go.Proofs.YtoammgpfbdcphaaDoor.Hx
end
section
namespace Go.Proofs.YtoammgpfbdcphaaDoor.PH
open Go.RowKit Go.Proofs.YtoammgpfbdcphaaDoor.Lib Go.Proofs.YtoammgpfbdcphaaDoorW.PrintWords Go.Proofs.YtoammgpfbdcphaaDoorW.PrintLast Go.Proofs.YtoammgpfbdcphaaDoorW.PrintMore
attribute [local go_sem] max2_int min2_int max_two min_two max_three min_three max_four min_four   
set_option linter.unusedVariables false
set_option linter.unusedSimpArgs false
def IsS42 (w0 W : World) (g : Nat) (f0 : ByteArray) (f1 : Int) (f2 : Int) (f3 : Int) : Prop := W.heap[g]? = some (.cells #[.string f0, .int .i64 f1, .int .i64 f2, .int .i64 f3] 42 (0, 0)) ∧ w0.heap.size ≤ g
theorem IsS42.grown {w0 W : World} {g : Nat} {f0 : ByteArray} {f1 : Int} {f2 : Int} {f3 : Int} {W1 : World} {row : Option Nat} (h : IsS42 w0 W g f0 f1 f2 f3) (hw : W.grownBy W1 row) (hne : some g ≠ row) : IsS42 w0 W1 g f0 f1 f2 f3:=by
 (obtain ⟨hb,hg⟩:=h);(exact ⟨blk_grown hb hw hne,hg⟩)
theorem IsS42.kept {w0 W : World} {g : Nat} {f0 : ByteArray} {f1 : Int} {f2 : Int} {f3 : Int} {W1 : World} {S : Nat → Prop} (h : IsS42 w0 W g f0 f1 f2 f3) (hk : Kept W W1 S) (hne : ¬ S g) : IsS42 w0 W1 g f0 f1 f2 f3:=by
 (obtain ⟨hb,hg⟩:=h);(exact ⟨blk_kept hb hk hne,hg⟩)
theorem IsS42.below {w0 W : World} {g : Nat} {f0 : ByteArray} {f1 : Int} {f2 : Int} {f3 : Int} {W1 : World} (h : IsS42 w0 W g f0 f1 f2 f3) (hw : Below W.heap.size W W1) : IsS42 w0 W1 g f0 f1 f2 f3:=h.grown (grown_of_below hw none) (by simp)
theorem IsS42.alloc {w0 W : World} {g : Nat} {f0 : ByteArray} {f1 : Int} {f2 : Int} {f3 : Int} (h : IsS42 w0 W g f0 f1 f2 f3) (o : Obj) : IsS42 w0 (W.alloc o) g f0 f1 f2 f3:=h.below (below_alloc (Below.refl _ _) o)
theorem IsS42.drewN {w0 W : World} {g : Nat} {f0 : ByteArray} {f1 : Int} {f2 : Int} {f3 : Int} (h : IsS42 w0 W g f0 f1 f2 f3) (m : Nat) : IsS42 w0 (W.drewN m) g f0 f1 f2 f3:=h
theorem IsS42.drew {w0 W : World} {g : Nat} {f0 : ByteArray} {f1 : Int} {f2 : Int} {f3 : Int} (h : IsS42 w0 W g f0 f1 f2 f3) : IsS42 w0 W.drew g f0 f1 f2 f3:=h
theorem IsS42.at_ {w0 W : World} {g : Nat} {f0 : ByteArray} {f1 : Int} {f2 : Int} {f3 : Int} {w' : World} {m : Nat} (hq : W.drewN m = w') (h : IsS42 w0 W g f0 f1 f2 f3) : IsS42 w0 w' g f0 f1 f2 f3:=by subst hq;exact IsS42.drewN h m
theorem IsS42.apart {w0 W : World} {g : Nat} {f0 : ByteArray} {f1 : Int} {f2 : Int} {f3 : Int} {α : Type} {d : Kd α} {e : Nat} {base : Nat} {ok : Nat → Prop} {v : Value} {xs : List α} (h : IsS42 w0 W g f0 f1 f2 f3) (ho : d.R e W base ok v xs) (ht : ∀ q,q ∈ e :: d.E → q ≠ 42) : d.R e W base (fun k => ok k∧k ≠ g) v xs:=by
 (obtain ⟨hb,hg⟩:=h);(exact Kd.R_types ho hb ht)
theorem IsS42.own_ne {w0 W : World} {g : Nat} {f0 : ByteArray} {f1 : Int} {f2 : Int} {f3 : Int} {α : Type} {d : Kd α} {e : Nat} {base : Nat} {ok : Nat → Prop} {v : Value} {xs : List α} (h : IsS42 w0 W g f0 f1 f2 f3) (ho : d.R e W base ok v xs) (ht : e ≠ 42) : some g ≠ v.ownBlock:=by
 (obtain ⟨hb,hg⟩:=h);(exact Kd.R_ne ho hb ht)
theorem IsS42.lt {w0 W : World} {g : Nat} {f0 : ByteArray} {f1 : Int} {f2 : Int} {f3 : Int} (h : IsS42 w0 W g f0 f1 f2 f3) : g < W.heap.size:=by
 (obtain ⟨hb,hg⟩:=h);(exact blk_lt hb)
theorem IsS42.ge {w0 W : World} {g : Nat} {f0 : ByteArray} {f1 : Int} {f2 : Int} {f3 : Int} (h : IsS42 w0 W g f0 f1 f2 f3) : w0.heap.size ≤ g:=by
 (obtain ⟨hb,hg⟩:=h);(exact hg)
theorem IsS42.far {w0 W : World} {g : Nat} {f0 : ByteArray} {f1 : Int} {f2 : Int} {f3 : Int} {p : Addr} (h : IsS42 w0 W g f0 f1 f2 f3) (hne : g ≠ p.block) (u : Value) : IsS42 w0 (W.setCell p u) g f0 f1 f2 f3:=by
 (obtain ⟨hb,hg⟩:=h);(exact ⟨blk_far hb hne u,hg⟩)
theorem IsS42.set_0 {w0 W : World} {g : Nat} {f0 : ByteArray} {f1 : Int} {f2 : Int} {f3 : Int} (h : IsS42 w0 W g f0 f1 f2 f3) (x : ByteArray) : IsS42 w0 (W.setCell ⟨g,0,none⟩ (.string x)) g x f1 f2 f3:=by
 (obtain ⟨hb,hg⟩:=h);(exact ⟨by simpa using blk_set hb 0 (.string x),hg⟩)
theorem IsS42.set_1 {w0 W : World} {g : Nat} {f0 : ByteArray} {f1 : Int} {f2 : Int} {f3 : Int} (h : IsS42 w0 W g f0 f1 f2 f3) (x : Int) : IsS42 w0 (W.setCell ⟨g,1,none⟩ (.int .i64 x)) g f0 x f2 f3:=by
 (obtain ⟨hb,hg⟩:=h);(exact ⟨by simpa using blk_set hb 1 (.int .i64 x),hg⟩)
theorem IsS42.set_2 {w0 W : World} {g : Nat} {f0 : ByteArray} {f1 : Int} {f2 : Int} {f3 : Int} (h : IsS42 w0 W g f0 f1 f2 f3) (x : Int) : IsS42 w0 (W.setCell ⟨g,2,none⟩ (.int .i64 x)) g f0 f1 x f3:=by
 (obtain ⟨hb,hg⟩:=h);(exact ⟨by simpa using blk_set hb 2 (.int .i64 x),hg⟩)
theorem IsS42.set_3 {w0 W : World} {g : Nat} {f0 : ByteArray} {f1 : Int} {f2 : Int} {f3 : Int} (h : IsS42 w0 W g f0 f1 f2 f3) (x : Int) : IsS42 w0 (W.setCell ⟨g,3,none⟩ (.int .i64 x)) g f0 f1 f2 x:=by
 (obtain ⟨hb,hg⟩:=h);(exact ⟨by simpa using blk_set hb 3 (.int .i64 x),hg⟩)
mutual
def marlinspikeref05_Digits.l0 : Nat → Int → Int → ByteArray → Bool → Option (ByteArray)
 | 0, _, _, _, _ => none
 | k + 1, x0, x1, x5, x6 => if x6 = true then ((some (([(wrap64 (48 + (Int.tmod x0 10))) % 256] : List Int) : List Int)).bind fun y273 => (if (strOfNums y273).size + x5.size ≤ 9223372036854775807 then (marlinspikeref05_Digits.l0 k (wrap64 (Int.tdiv x0 10)) x1 ((strOfNums y273) ++ x5) false) else (none))) else (if x0 > 0 then ((some (([(wrap64 (48 + (Int.tmod x0 10))) % 256] : List Int) : List Int)).bind fun y276 => (if (strOfNums y276).size + x5.size ≤ 9223372036854775807 then (marlinspikeref05_Digits.l0 k (wrap64 (Int.tdiv x0 10)) x1 ((strOfNums y276) ++ x5) false) else (none))) else (marlinspikeref05_Digits.l1 k x1 x5))
def marlinspikeref05_Digits.l1 : Nat → Int → ByteArray → Option (ByteArray)
 | 0, _, _ => none
 | k + 1, x1, x5 => if (x5.size : Int) < x1 then (if 1 + x5.size ≤ 9223372036854775807 then (marlinspikeref05_Digits.l1 k x1 ((⟨#[48]⟩ : ByteArray) ++ x5)) else (none)) else (some x5)
end
def marlinspikeref05_Digits.f (k : Nat) (a0 : Int) (a1 : Int) : Option (ByteArray) := marlinspikeref05_Digits.l0 k a0 a1 (⟨#[]⟩ : ByteArray) true
theorem marlinspikeref05_Digits.mono_l : ∀ k,(∀ y0 y1 y2 y3,LeO (marlinspikeref05_Digits.l0 k y0 y1 y2 y3) (marlinspikeref05_Digits.l0 (k + 1) y0 y1 y2 y3))∧(∀ y0 y1,LeO (marlinspikeref05_Digits.l1 k y0 y1) (marlinspikeref05_Digits.l1 (k + 1) y0 y1))
|0 => ⟨fun _ _ _ _ r h => by simp [marlinspikeref05_Digits.l0] at h,fun _ _ r h => by simp [marlinspikeref05_Digits.l1] at h⟩
|k + 1 => by
  obtain ⟨ih0,ih1⟩:=marlinspikeref05_Digits.mono_l k
  refine ⟨?_,?_⟩
  ·intro y0 y1 y2 y3
   unfold marlinspikeref05_Digits.l0
   repeat' first
  |(with_reducible exact ih0 _ _ _ _)
  |(with_reducible exact ih1 _ _)
  |(with_reducible exact LeO.refl _)
  |(with_reducible exact LeO.none _)
  |(with_reducible refine LeO.ite ?_ ?_)
  |(with_reducible refine LeO.bind ?_ (fun _ => ?_))
  |exact ih0 _ _ _ _
  |exact ih1 _ _
  |exact LeO.none _
  |refine LeO.ite ?_ ?_
  |refine LeO.bind ?_ (fun _ => ?_)
  ·intro y0 y1
   unfold marlinspikeref05_Digits.l1
   repeat' first
  |(with_reducible exact ih0 _ _ _ _)
  |(with_reducible exact ih1 _ _)
  |(with_reducible exact LeO.refl _)
  |(with_reducible exact LeO.none _)
  |(with_reducible refine LeO.ite ?_ ?_)
  |(with_reducible refine LeO.bind ?_ (fun _ => ?_))
  |exact ih0 _ _ _ _
  |exact ih1 _ _
  |exact LeO.none _
  |refine LeO.ite ?_ ?_
  |refine LeO.bind ?_ (fun _ => ?_)
theorem marlinspikeref05_Digits.mono : ∀ a0 a1 k,LeO (marlinspikeref05_Digits.f k a0 a1) (marlinspikeref05_Digits.f (k + 1) a0 a1):=by
 (intro a0 a1 k);(obtain ⟨ih0,ih1⟩:=marlinspikeref05_Digits.mono_l k);(unfold marlinspikeref05_Digits.f)
 repeat' first
  |(with_reducible exact ih0 _ _ _ _)
  |(with_reducible exact ih1 _ _)
  |(with_reducible exact LeO.refl _)
  |(with_reducible exact LeO.none _)
  |(with_reducible refine LeO.ite ?_ ?_)
  |(with_reducible refine LeO.bind ?_ (fun _ => ?_))
  |exact ih0 _ _ _ _
  |exact ih1 _ _
  |exact LeO.none _
  |refine LeO.ite ?_ ?_
  |refine LeO.bind ?_ (fun _ => ?_)
set_option maxHeartbeats 8000000 in
set_option maxRecDepth 100000 in
theorem marlinspikeref05_Digits.calls (k : Nat) (a0 : Int) (a1 : Int) (r : ByteArray) (w : World) (h : marlinspikeref05_Digits.f k a0 a1 = some r) :
  Calls Tryd.prog 14 #[.int .i64 a0,.int .i64 a1] w fun e w' => e = .returned (.string r)∧Below w.heap.size w w':=by
 (have HB:=Aside0.mk (Below.refl w.heap.size w));(have H : (marlinspikeref05_Digits.l0 k a0 a1 (⟨#[]⟩ : ByteArray) true) = some r:=h);(clear h);(have H':=Aside0.mk H);(clear H);(go_enter Tryd.func14,Tryd.ntmps14);(go_wp2);(go_loopg [0,5,6] k (fun kq v0 v5 v6 w' => ∃ (x0_1 : Int) (x5_1 : ByteArray) (x6_1 : Bool),v0 = .int .i64 x0_1∧v5 = .string x5_1∧v6 = .bool x6_1∧Aside0 (marlinspikeref05_Digits.l0 kq x0_1 a1 x5_1 x6_1 = some r)∧Aside0 (kq ≤ k)∧Aside0 (Below w.heap.size w w')))
 case atStart => exact ⟨(a0),((⟨#[]⟩ : ByteArray)),(true),(by first|rfl|(simp;done)|(simp [*];done)),(by first|rfl|(simp;done)|(simp [*];done)),(by first|rfl|(simp;done)|(simp [*];done)),H',⟨Nat.le_refl _⟩,⟨by repeat (first|(with_reducible first|exact HB.out|apply below_alloc|apply pw_below_drewN|apply below_drew1)|exact HB.out)⟩⟩
 case round =>
  (clear H');(try clear c1);(try clear p2);(obtain ⟨x0_1,x5_1,x6_1,rfl,rfl,rfl,HA,HK1,HB⟩:=hrel)
  cases gk with
 |zero => exact absurd HA.out (by simp [marlinspikeref05_Digits.l0])
 |succ k1 =>
   (have H:=HA.out);(clear HA);(simp only [marlinspikeref05_Digits.l0] at H);(by_cases c3 : x6_1 = true)
   ·(subst c3);(have H1 : ((some (([(wrap64 (48 + (Int.tmod x0_1 10))) % 256] : List Int) : List Int)).bind fun y273 => (if (strOfNums y273).size + x5_1.size ≤ 9223372036854775807 then (marlinspikeref05_Digits.l0 k1 (wrap64 (Int.tdiv x0_1 10)) a1 ((strOfNums y273) ++ x5_1) false) else (none))) = some r:=by rw [if_pos rfl] at H;exact H);(clear H);(have H:=H1);(clear H1);(obtain ⟨y273,hy273⟩ : ∃ y_ : List Int,y_ = (([(wrap64 (48 + (Int.tmod x0_1 10))) % 256] : List Int)):=⟨_,rfl⟩);(replace H : (if (strOfNums y273).size + x5_1.size ≤ 9223372036854775807 then (marlinspikeref05_Digits.l0 k1 (wrap64 (Int.tdiv x0_1 10)) a1 ((strOfNums y273) ++ x5_1) false) else (none)) = some r:=by first|(rw [hy273];with_reducible exact H)|(have H2_:=(Option.bind_some _ _).symm.trans H;rw [hy273];with_reducible exact H2_)|(have H2_:=(Option.bind_some _ _).symm.trans H;with_reducible exact H2_)|with_reducible exact H|(rw [hy273];exact H)|exact H);(have Ny273:=Aside0.mk hy273);(clear hy273);(by_cases c4 : (strOfNums y273).size + x5_1.size ≤ 9223372036854775807)
    ·(rw [if_pos c4] at H);(have c4b0:=eq_true c4);(have c4b1 : decide ((strOfNums y273).size + x5_1.size ≤ 9223372036854775807) = true:=decide_eq_true c4);(try have c4b2 : (9223372036854775807 < (strOfNums y273).size + x5_1.size) = False:=eq_false (Nat.not_lt.2 c4));(have H':=Aside0.mk H);(clear H);(go_wp2_with (first|((with_reducible refine gate_dst (N:=16) rfl ?_);refine Kd.R_lit (Kd.int .u8) _ 5 ?hg (N:=16) ?hd (xs:=([(wrap64 (48 + (Int.tmod x0_1 10))) % 256] : List Int)) (inner:=[.int .u8 ((wrap64 (48 + (Int.tmod x0_1 10))) % 256)]) (ok:=fun _ => True) (okp:=fun _ => True) ?hr ?hp (fun _ hk => hk) trivial (Below.refl _ _) (Nat.le_refl _) (by simp) ?_;(case hd => rfl);(case hg => rfl);(case hr => first|(go_simp;done)|(go_simp;rfl));(case hp => exact (Reps.one (show Kd.M (Kd.int .u8) _ _ _ ((wrap64 (48 + (Int.tmod x0_1 10))) % 256) [.int .u8 ((wrap64 (48 + (Int.tmod x0_1 10))) % 256)] from rfl) (Reps.none _ _)));intro v274 w5 ho6 hb hg_ hnew_;clear hg_ hnew_;(first|rw [← Ny273.out] at ho6|(simp only [Int.reduceToNat] at ho6;rw [← Ny273.out] at ho6));have n0_:=Aside0.mk (Kd.R_lower ho6 (below_size (by repeat (first|(with_reducible first|exact HB.out|apply below_alloc|apply pw_below_drewN|apply below_drew1)|exact HB.out))));have n1_:=Aside0.mk (below_step (by repeat (first|(with_reducible first|exact HB.out|apply below_alloc|apply pw_below_drewN|apply below_drew1)|exact HB.out)) hb);clear HB;have HO275:=n0_;have HB:=n1_;clear n0_ n1_;clear hb ho6;have hcv7:=own_string (P:=Tryd.prog) Tryd.underlying57 Tryd.underlying5 Tryd.underlying9 (Kd.own_of_R HO275.out))));(go_roundg k1)
     case measure => have:=HK1.out;omega
     case rel => exact ⟨(wrap64 (Int.tdiv x0_1 10)),((strOfNums y273) ++ x5_1),(false),(by first|rfl|(simp;done)|(simp [*];done)),(by first|rfl|(simp;done)|(simp [*];done)),(by first|rfl|(simp;done)|(simp [*];done)),H',⟨by have:=HK1.out;omega⟩,⟨by repeat (first|(with_reducible first|exact HB.out|apply below_alloc|apply pw_below_drewN|apply below_drew1)|exact HB.out)⟩⟩
    ·(rw [if_neg c4] at H);(exact absurd H (by simp))
   ·(replace c3:=Bool.eq_false_iff.mpr c3);(subst c3);(have H1 : (if x0_1 > 0 then ((some (([(wrap64 (48 + (Int.tmod x0_1 10))) % 256] : List Int) : List Int)).bind fun y276 => (if (strOfNums y276).size + x5_1.size ≤ 9223372036854775807 then (marlinspikeref05_Digits.l0 k1 (wrap64 (Int.tdiv x0_1 10)) a1 ((strOfNums y276) ++ x5_1) false) else (none))) else (marlinspikeref05_Digits.l1 k1 a1 x5_1)) = some r:=by rw [if_neg (show ¬ (false = true) by decide)] at H;exact H);(clear H);(have H:=H1);(clear H1);(by_cases c8 : x0_1 > 0)
    ·(rw [if_pos c8] at H);(have c8b0 : decide (0 < x0_1) = true:=decide_eq_true c8);(clear c8);(obtain ⟨y276,hy276⟩ : ∃ y_ : List Int,y_ = (([(wrap64 (48 + (Int.tmod x0_1 10))) % 256] : List Int)):=⟨_,rfl⟩);(replace H : (if (strOfNums y276).size + x5_1.size ≤ 9223372036854775807 then (marlinspikeref05_Digits.l0 k1 (wrap64 (Int.tdiv x0_1 10)) a1 ((strOfNums y276) ++ x5_1) false) else (none)) = some r:=by first|(rw [hy276];with_reducible exact H)|(have H2_:=(Option.bind_some _ _).symm.trans H;rw [hy276];with_reducible exact H2_)|(have H2_:=(Option.bind_some _ _).symm.trans H;with_reducible exact H2_)|with_reducible exact H|(rw [hy276];exact H)|exact H);(have Ny276:=Aside0.mk hy276);(clear hy276);(by_cases c9 : (strOfNums y276).size + x5_1.size ≤ 9223372036854775807)
     ·(rw [if_pos c9] at H);(have c9b0:=eq_true c9);(have c9b1 : decide ((strOfNums y276).size + x5_1.size ≤ 9223372036854775807) = true:=decide_eq_true c9);(try have c9b2 : (9223372036854775807 < (strOfNums y276).size + x5_1.size) = False:=eq_false (Nat.not_lt.2 c9));(have H':=Aside0.mk H);(clear H);(go_wp2_with (first|((with_reducible refine gate_dst (N:=16) rfl ?_);refine Kd.R_lit (Kd.int .u8) _ 5 ?hg (N:=16) ?hd (xs:=([(wrap64 (48 + (Int.tmod x0_1 10))) % 256] : List Int)) (inner:=[.int .u8 ((wrap64 (48 + (Int.tmod x0_1 10))) % 256)]) (ok:=fun _ => True) (okp:=fun _ => True) ?hr ?hp (fun _ hk => hk) trivial (Below.refl _ _) (Nat.le_refl _) (by simp) ?_;(case hd => rfl);(case hg => rfl);(case hr => first|(go_simp;done)|(go_simp;rfl));(case hp => exact (Reps.one (show Kd.M (Kd.int .u8) _ _ _ ((wrap64 (48 + (Int.tmod x0_1 10))) % 256) [.int .u8 ((wrap64 (48 + (Int.tmod x0_1 10))) % 256)] from rfl) (Reps.none _ _)));intro v277 w10 ho11 hb hg_ hnew_;clear hg_ hnew_;(first|rw [← Ny276.out] at ho11|(simp only [Int.reduceToNat] at ho11;rw [← Ny276.out] at ho11));have n0_:=Aside0.mk (Kd.R_lower ho11 (below_size (by repeat (first|(with_reducible first|exact HB.out|apply below_alloc|apply pw_below_drewN|apply below_drew1)|exact HB.out))));have n1_:=Aside0.mk (below_step (by repeat (first|(with_reducible first|exact HB.out|apply below_alloc|apply pw_below_drewN|apply below_drew1)|exact HB.out)) hb);clear HB;have HO278:=n0_;have HB:=n1_;clear n0_ n1_;clear hb ho11;have hcv12:=own_string (P:=Tryd.prog) Tryd.underlying57 Tryd.underlying5 Tryd.underlying9 (Kd.own_of_R HO278.out))));(go_roundg k1)
      case measure => have:=HK1.out;omega
      case rel => exact ⟨(wrap64 (Int.tdiv x0_1 10)),((strOfNums y276) ++ x5_1),(false),(by first|rfl|(simp;done)|(simp [*];done)),(by first|rfl|(simp;done)|(simp [*];done)),(by first|rfl|(simp;done)|(simp [*];done)),H',⟨by have:=HK1.out;omega⟩,⟨by repeat (first|(with_reducible first|exact HB.out|apply below_alloc|apply pw_below_drewN|apply below_drew1)|exact HB.out)⟩⟩
     ·(rw [if_neg c9] at H);(exact absurd H (by simp))
    ·(rw [if_neg c8] at H);(have c8b0 : decide (0 < x0_1) = false:=decide_eq_false c8);(clear c8);(have H':=Aside0.mk H);(clear H);(go_wp2);(go_loopg [5] k1 (fun kq v5 w' => ∃ (x5_2 : ByteArray),v5 = .string x5_2∧Aside0 (marlinspikeref05_Digits.l1 kq a1 x5_2 = some r)∧Aside0 (kq ≤ k1)∧Aside0 (Below w.heap.size w w')))
     case atStart => exact ⟨(x5_1),(by first|rfl|(simp;done)|(simp [*];done)),H',⟨Nat.le_refl _⟩,⟨by repeat (first|(with_reducible first|exact HB.out|apply below_alloc|apply pw_below_drewN|apply below_drew1)|exact HB.out)⟩⟩
     case round =>
      (clear H');(try clear c1);(try clear hcv1);(try clear p2);(try clear c3);(try clear c4);(try clear c4b0);(try clear c4b1);(try clear c4b2);(try clear p6);(try clear hcv7);(try clear c8);(try clear c8b0);(try clear c9);(try clear c9b0);(try clear c9b1);(try clear c9b2);(try clear hcv12);(try clear p2);(obtain ⟨x5_2,rfl,HA,HK2,HB⟩:=hrel)
      cases gk with
     |zero => exact absurd HA.out (by simp [marlinspikeref05_Digits.l1])
     |succ k2 =>
       (have H:=HA.out);(clear HA);(simp only [marlinspikeref05_Digits.l1] at H);(by_cases c13 : (x5_2.size : Int) < a1)
       ·(rw [if_pos c13] at H);(have c13b0 : decide ((x5_2.size : Int) < a1) = true:=decide_eq_true c13);(clear c13);(by_cases c14 : 1 + x5_2.size ≤ 9223372036854775807)
        ·(rw [if_pos c14] at H);(have c14b0:=eq_true c14);(have c14b1 : decide (1 + x5_2.size ≤ 9223372036854775807) = true:=decide_eq_true c14);(try have c14b2 : (9223372036854775807 < 1 + x5_2.size) = False:=eq_false (Nat.not_lt.2 c14));(have H':=Aside0.mk H);(clear H);(go_wp2);(go_roundg k2)
         case measure => have:=HK1.out;have:=HK2.out;omega
         case rel => exact ⟨((⟨#[48]⟩ : ByteArray) ++ x5_2),(by first|rfl|(simp;done)|(simp [*];done)),H',⟨by have:=HK1.out;have:=HK2.out;omega⟩,⟨by repeat (first|(with_reducible first|exact HB.out|apply below_alloc|apply pw_below_drewN|apply below_drew1)|exact HB.out)⟩⟩
        ·(rw [if_neg c14] at H);(exact absurd H (by simp))
       ·(rw [if_neg c13] at H);(have c13b0 : decide ((x5_2.size : Int) < a1) = false:=decide_eq_false c13);(clear c13);(obtain rfl:=Option.some.inj H);(go_wp2);(go_ret);(exact ⟨by first|rfl|(simp [errW_none,errW_some] <;> rfl)|(simp [*,errW_none,errW_some] <;> rfl),by repeat (first|(with_reducible first|exact HB.out|apply below_alloc|apply pw_below_drewN|apply below_drew1)|exact HB.out)⟩)
end Go.Proofs.YtoammgpfbdcphaaDoor.PH
end
section
namespace Go.Proofs.YtoammgpfbdcphaaDoor.PH
open Go.RowKit Go.Proofs.YtoammgpfbdcphaaDoor.Lib Go.Proofs.YtoammgpfbdcphaaDoorW.PrintWords Go.Proofs.YtoammgpfbdcphaaDoorW.PrintLast Go.Proofs.YtoammgpfbdcphaaDoorW.PrintMore
attribute [local go_sem] max2_int min2_int max_two min_two max_three min_three max_four min_four   
set_option linter.unusedVariables false
set_option linter.unusedSimpArgs false
attribute [local go_sem high] eqA27
def marlinspikeref05_Same.l0 : Nat → List ByteArray → List ByteArray → Int → Option (Bool)
 | 0, _, _, _ => none
 | k + 1, x0, x1, x5 => if x5 < (x0.length : Int) then (if 0 ≤ x5 then (if x5 < (x1.length : Int) then (if (rdOf ByteArray.empty x0 x5).toList = (rdOf ByteArray.empty x1 x5).toList then (marlinspikeref05_Same.l0 k x0 x1 (wrap64 (x5 + 1))) else (some false)) else (none)) else (none)) else (some true)
def marlinspikeref05_Same.f (k : Nat) (l0 : List ByteArray) (l1 : List ByteArray) : Option (Bool) := if (l0.length : Int) = (l1.length : Int) then (marlinspikeref05_Same.l0 k l0 l1 0) else (some false)
theorem marlinspikeref05_Same.mono_l : ∀ k,(∀ y0 y1 y2,LeO (marlinspikeref05_Same.l0 k y0 y1 y2) (marlinspikeref05_Same.l0 (k + 1) y0 y1 y2))
|0 => fun _ _ _ r h => by simp [marlinspikeref05_Same.l0] at h
|k + 1 => by
  have ih0:=marlinspikeref05_Same.mono_l k
  ·intro y0 y1 y2
   unfold marlinspikeref05_Same.l0
   repeat' first
  |(with_reducible exact ih0 _ _ _)
  |(with_reducible exact LeO.refl _)
  |(with_reducible exact LeO.none _)
  |(with_reducible refine LeO.ite ?_ ?_)
  |(with_reducible refine LeO.bind ?_ (fun _ => ?_))
  |exact ih0 _ _ _
  |exact LeO.none _
  |refine LeO.ite ?_ ?_
  |refine LeO.bind ?_ (fun _ => ?_)
theorem marlinspikeref05_Same.mono : ∀ a0 a1 k,LeO (marlinspikeref05_Same.f k a0 a1) (marlinspikeref05_Same.f (k + 1) a0 a1):=by
 (intro a0 a1 k);(have ih0:=marlinspikeref05_Same.mono_l k);(unfold marlinspikeref05_Same.f)
 repeat' first
  |(with_reducible exact ih0 _ _ _)
  |(with_reducible exact LeO.refl _)
  |(with_reducible exact LeO.none _)
  |(with_reducible refine LeO.ite ?_ ?_)
  |(with_reducible refine LeO.bind ?_ (fun _ => ?_))
  |exact ih0 _ _ _
  |exact LeO.none _
  |refine LeO.ite ?_ ?_
  |refine LeO.bind ?_ (fun _ => ?_)
set_option maxHeartbeats 8000000 in
set_option maxRecDepth 100000 in
theorem marlinspikeref05_Same.calls (k : Nat) (A0 : Option Addr) (c0 : Nat) (l0 : List ByteArray) (A1 : Option Addr) (c1 : Nat) (l1 : List ByteArray) (r : Bool) (w : World) (hr0 : Kd.C Kd.string w A0 l0.length l0) (hc0 : l0.length ≤ c0) (hr1 : Kd.C Kd.string w A1 l1.length l1) (hc1 : l1.length ≤ c1) (h : marlinspikeref05_Same.f k l0 l1 = some r) :
  Calls Tryd.prog 13 #[.slice A0 l0.length c0,.slice A1 l1.length c1] w fun e w' => e = .returned (.bool r)∧Drawn0 w w':=by
 (have HR0:=Aside0.mk hr0);(have HC0:=Aside0.mk hc0);(clear hr0 hc0);(have HR1:=Aside0.mk hr1);(have HC1:=Aside0.mk hc1);(clear hr1 hc1);(have H : (if (l0.length : Int) = (l1.length : Int) then (marlinspikeref05_Same.l0 k l0 l1 0) else (some false)) = some r:=h);(clear h);(by_cases c3 : (l0.length : Int) = (l1.length : Int))
 ·(rw [if_pos c3] at H);(have c3b0 : ((l0.length : Int) == (l1.length : Int)) = true:=beq_iff_eq.mpr c3);(have c3b1 : ((l0.length : Int) != (l1.length : Int)) = false:=bne_eq_false_iff_eq.mpr c3);(have c3b2 : (l0.length == l1.length) = true:=by first|simpa using c3|(simp at c3 ⊢;omega));(clear c3);(have H':=Aside0.mk H);(clear H);(go_enter Tryd.func13,Tryd.ntmps13);(go_wp2)
  repeat (go_quiet (fail);try go_wp2)
  (go_loopg [5] k (fun kq v5 w' => ∃ (x5_1 : Int),v5 = .int .i64 x5_1∧Aside0 (marlinspikeref05_Same.l0 kq l0 l1 x5_1 = some r)∧Aside0 (kq ≤ k)∧Drawn0 w w'))
  case atStart => exact ⟨(0),(by first|rfl|(simp;done)|(simp [*];done)),H',⟨Nat.le_refl _⟩,by repeat (first|exact Drawn0.refl _|apply Drawn0.step)⟩
  case round =>
   (clear H');(try clear c1);(try clear p2);(try clear c3);(try clear c3b0);(try clear c3b1);(try clear c3b2);(obtain ⟨x5_1,rfl,HA,HK1,⟨m1,rfl⟩⟩:=hrel)
   cases gk with
  |zero => exact absurd HA.out (by simp [marlinspikeref05_Same.l0])
  |succ k1 =>
    (have H:=HA.out);(clear HA);(simp only [marlinspikeref05_Same.l0] at H);(by_cases c4 : x5_1 < (l0.length : Int))
    ·(rw [if_pos c4] at H);(have c4b0 : decide (x5_1 < (l0.length : Int)) = true:=decide_eq_true c4);(clear c4);(by_cases c5 : 0 ≤ x5_1)
     ·(rw [if_pos c5] at H);(have c5b0 : decide (0 ≤ x5_1) = true:=decide_eq_true c5);(clear c5);(by_cases c6 : x5_1 < (l1.length : Int))
      ·(rw [if_pos c6] at H);(have c6b0 : decide (x5_1 < (l1.length : Int)) = true:=decide_eq_true c6);(clear c6);(by_cases c7 : (rdOf ByteArray.empty l0 x5_1).toList = (rdOf ByteArray.empty l1 x5_1).toList)
       ·(rw [if_pos c7] at H);(have c7b0 : ((rdOf ByteArray.empty l0 x5_1).toList == (rdOf ByteArray.empty l1 x5_1).toList) = true:=beq_iff_eq.mpr c7);(have c7b1 : ((rdOf ByteArray.empty l0 x5_1).toList != (rdOf ByteArray.empty l1 x5_1).toList) = false:=bne_eq_false_iff_eq.mpr c7);(clear c7);(have H':=Aside0.mk H);(clear H);(have p360 : 0 ≤ (x5_1 : Int):=of_decide_eq_true (by first|(with_reducible assumption)|assumption));(have q360 : x5_1 < (l0.length : Int):=of_decide_eq_true (by first|(with_reducible assumption)|assumption));(obtain ⟨ad360,e360,hx360_0⟩:=Kd.at_string HR0.out x5_1 p360 q360)
        cases e360
        (replace p360:=eq_true p360);(replace q360:=eq_true q360);(have p361 : 0 ≤ (x5_1 : Int):=of_decide_eq_true (by first|(with_reducible assumption)|assumption));(have q361 : x5_1 < (l1.length : Int):=of_decide_eq_true (by first|(with_reducible assumption)|assumption));(obtain ⟨ad361,e361,hx361_0⟩:=Kd.at_string HR1.out x5_1 p361 q361)
        cases e361
        (replace p361:=eq_true p361);(replace q361:=eq_true q361);(go_wp2)
        repeat (go_quiet (fail);try go_wp2)
        (go_roundg k1)
        case measure => have:=HK1.out;omega
        case rel => exact ⟨(wrap64 (x5_1 + 1)),(by first|rfl|(simp;done)|(simp [*];done)),H',⟨by have:=HK1.out;omega⟩,by repeat (first|exact Drawn0.refl _|apply Drawn0.step)⟩
       ·(rw [if_neg c7] at H);(have c7b0 : ((rdOf ByteArray.empty l0 x5_1).toList == (rdOf ByteArray.empty l1 x5_1).toList) = false:=beq_eq_false_iff_ne.mpr c7);(have c7b1 : ((rdOf ByteArray.empty l0 x5_1).toList != (rdOf ByteArray.empty l1 x5_1).toList) = true:=bne_iff_ne.mpr c7);(obtain rfl:=Option.some.inj H);(have p360 : 0 ≤ (x5_1 : Int):=of_decide_eq_true (by first|(with_reducible assumption)|assumption));(have q360 : x5_1 < (l0.length : Int):=of_decide_eq_true (by first|(with_reducible assumption)|assumption));(obtain ⟨ad360,e360,hx360_0⟩:=Kd.at_string HR0.out x5_1 p360 q360)
        cases e360
        (replace p360:=eq_true p360);(replace q360:=eq_true q360);(have p361 : 0 ≤ (x5_1 : Int):=of_decide_eq_true (by first|(with_reducible assumption)|assumption));(have q361 : x5_1 < (l1.length : Int):=of_decide_eq_true (by first|(with_reducible assumption)|assumption));(obtain ⟨ad361,e361,hx361_0⟩:=Kd.at_string HR1.out x5_1 p361 q361)
        cases e361
        (replace p361:=eq_true p361);(replace q361:=eq_true q361);(go_wp2)
        repeat (go_quiet (fail);try go_wp2)
        (go_ret);(exact ⟨by first|rfl|(simp;done)|(simp [*];done),by repeat (first|exact Drawn0.refl _|apply Drawn0.step)⟩)
      ·(rw [if_neg c6] at H);(exact absurd H (by simp))
     ·(rw [if_neg c5] at H);(exact absurd H (by simp))
    ·(rw [if_neg c4] at H);(have c4b0 : decide (x5_1 < (l0.length : Int)) = false:=decide_eq_false c4);(clear c4);(obtain rfl:=Option.some.inj H);(go_wp2)
     repeat (go_quiet (fail);try go_wp2)
     (go_ret);(exact ⟨by first|rfl|(simp;done)|(simp [*];done),by repeat (first|exact Drawn0.refl _|apply Drawn0.step)⟩)
 ·(rw [if_neg c3] at H);(have c3b0 : ((l0.length : Int) == (l1.length : Int)) = false:=beq_eq_false_iff_ne.mpr c3);(have c3b1 : ((l0.length : Int) != (l1.length : Int)) = true:=bne_iff_ne.mpr c3);(have c3b2 : (l0.length == l1.length) = false:=by first|simpa using c3|(simp at c3 ⊢;omega));(obtain rfl:=Option.some.inj H);(go_enter Tryd.func13,Tryd.ntmps13);(go_wp2)
  repeat (go_quiet (fail);try go_wp2)
  (go_ret);(exact ⟨by first|rfl|(simp;done)|(simp [*];done),by repeat (first|exact Drawn0.refl _|apply Drawn0.step)⟩)
def marlinspikelaw05_alive.f (k : Nat)  : Option (Bool) := (host_Expand.f k (⟨#[110, 91, 49, 45, 51, 44, 48, 55, 45, 48, 56, 93, 44, 109]⟩ : ByteArray)).bind fun bt367 => (if (bt367.2.1 == 0 && (bt367.2.2 == 0)) = true then ((marlinspikeref05_Same.f k bt367.1 (([(⟨#[110, 49]⟩ : ByteArray), (⟨#[110, 50]⟩ : ByteArray), (⟨#[110, 51]⟩ : ByteArray), (⟨#[110, 48, 55]⟩ : ByteArray), (⟨#[110, 48, 56]⟩ : ByteArray), (⟨#[109]⟩ : ByteArray)] : List ByteArray))).bind fun t376 => (if t376 = true then ((host_Compress.f k bt367.1).bind fun t377 => (some (t377.toList == ([110, 91, 49, 45, 51, 93, 44, 110, 91, 48, 55, 45, 48, 56, 93, 44, 109] : List UInt8)))) else (some false))) else (some false))
theorem marlinspikelaw05_alive.mono : ∀ k,LeO (marlinspikelaw05_alive.f k ) (marlinspikelaw05_alive.f (k + 1) ):=by
 (intro  k);(unfold marlinspikelaw05_alive.f)
 repeat' first
  |(with_reducible exact host_Compress.mono _ _)
  |(with_reducible exact host_Expand.mono _ _)
  |(with_reducible exact marlinspikeref05_Same.mono _ _ _)
  |(with_reducible exact LeO.refl _)
  |(with_reducible exact LeO.none _)
  |(with_reducible refine LeO.ite ?_ ?_)
  |(with_reducible refine LeO.bind ?_ (fun _ => ?_))
  |exact host_Compress.mono _ _
  |exact host_Expand.mono _ _
  |exact marlinspikeref05_Same.mono _ _ _
  |exact LeO.none _
  |refine LeO.ite ?_ ?_
  |refine LeO.bind ?_ (fun _ => ?_)
set_option maxHeartbeats 8000000 in
set_option maxRecDepth 100000 in
theorem marlinspikelaw05_alive.calls (k : Nat)  (r : Bool) (w : World) (h : marlinspikelaw05_alive.f k  = some r) (hG_ : Glob w) :
  Calls Tryd.prog 9 #[] w fun e w' => e = .returned (.bool r)∧Below w.heap.size w w':=by
 (have HG_:=Aside0.mk hG_);(clear hG_);(have hu27:=Tryd.underlying27);(have HB:=Aside0.mk (Below.refl w.heap.size w));(have H : ((host_Expand.f k (⟨#[110,91,49,45,51,44,48,55,45,48,56,93,44,109]⟩ : ByteArray)).bind fun bt367 => (if (bt367.2.1 == 0 && (bt367.2.2 == 0)) = true then ((marlinspikeref05_Same.f k bt367.1 (([(⟨#[110,49]⟩ : ByteArray),(⟨#[110,50]⟩ : ByteArray),(⟨#[110,51]⟩ : ByteArray),(⟨#[110,48,55]⟩ : ByteArray),(⟨#[110,48,56]⟩ : ByteArray),(⟨#[109]⟩ : ByteArray)] : List ByteArray))).bind fun t376 => (if t376 = true then ((host_Compress.f k bt367.1).bind fun t377 => (some (t377.toList == ([110,91,49,45,51,93,44,110,91,48,55,45,48,56,93,44,109] : List UInt8)))) else (some false))) else (some false))) = some r:=h);(clear h);(replace H:=Option.bind_eq_some_iff.mp H);(obtain ⟨⟨t367,t370,t371⟩,A10,H⟩:=H);(replace H : (if (t370 == 0 && (t371 == 0)) = true then ((marlinspikeref05_Same.f k t367 (([(⟨#[110,49]⟩ : ByteArray),(⟨#[110,50]⟩ : ByteArray),(⟨#[110,51]⟩ : ByteArray),(⟨#[110,48,55]⟩ : ByteArray),(⟨#[110,48,56]⟩ : ByteArray),(⟨#[109]⟩ : ByteArray)] : List ByteArray))).bind fun t376 => (if t376 = true then ((host_Compress.f k t367).bind fun t377 => (some (t377.toList == ([110,91,49,45,51,93,44,110,91,48,55,45,48,56,93,44,109] : List UInt8)))) else (some false))) else (some false)) = some r:=H);(have A1:=Aside0.mk A10);(clear A10);(by_cases c2 : (t370 == 0 && (t371 == 0)) = true)
 ·(rw [if_pos c2] at H);(have c2b0 : (t370 == 0 && (t371 == 0)) = true:=c2);((try (have c2b1 : decide (t370 = 0 && (t371 == 0)) = true:=by simpa using c2)));((try (have c2b2 : (t370 == 0 && (t371 == 0)) = true:=by simpa using c2)));(clear c2);(obtain ⟨y373,hy373⟩ : ∃ y_ : List ByteArray,y_ = (([(⟨#[110,49]⟩ : ByteArray),(⟨#[110,50]⟩ : ByteArray),(⟨#[110,51]⟩ : ByteArray),(⟨#[110,48,55]⟩ : ByteArray),(⟨#[110,48,56]⟩ : ByteArray),(⟨#[109]⟩ : ByteArray)] : List ByteArray)):=⟨_,rfl⟩);(replace H : ((marlinspikeref05_Same.f k t367 y373).bind fun t376 => (if t376 = true then ((host_Compress.f k t367).bind fun t377 => (some (t377.toList == ([110,91,49,45,51,93,44,110,91,48,55,45,48,56,93,44,109] : List UInt8)))) else (some false))) = some r:=by first|(rw [hy373];with_reducible exact H)|(have H2_:=(Option.bind_some _ _).symm.trans H;rw [hy373];with_reducible exact H2_)|(have H2_:=(Option.bind_some _ _).symm.trans H;with_reducible exact H2_)|with_reducible exact H|(rw [hy373];exact H)|exact H);(have Ny373:=Aside0.mk hy373);(clear hy373);(replace H:=Option.bind_eq_some_iff.mp H);(obtain ⟨t376,A30,H⟩:=H);(replace H : (if t376 = true then ((host_Compress.f k t367).bind fun t377 => (some (t377.toList == ([110,91,49,45,51,93,44,110,91,48,55,45,48,56,93,44,109] : List UInt8)))) else (some false)) = some r:=H);(have A3:=Aside0.mk A30);(clear A30);(by_cases c4 : t376 = true)
  ·(subst c4);(have H1 : ((host_Compress.f k t367).bind fun t377 => (some (t377.toList == ([110,91,49,45,51,93,44,110,91,48,55,45,48,56,93,44,109] : List UInt8)))) = some r:=by rw [if_pos rfl] at H;exact H);(clear H);(have H:=H1);(clear H1);(replace H:=Option.bind_eq_some_iff.mp H);(obtain ⟨t377,A50,H⟩:=H);(replace H : (some (t377.toList == ([110,91,49,45,51,93,44,110,91,48,55,45,48,56,93,44,109] : List UInt8))) = some r:=H);(have A5:=Aside0.mk A50);(clear A50);(obtain rfl:=Option.some.inj H);(go_enter Tryd.func9,Tryd.ntmps9);(go_wp2_with (first|((with_reducible refine gate_callee (f:=11) rfl ?_);refine goesL_ (some 4) rfl rfl Tryd.func11 (by kernel_rfl) rfl #[.string (⟨#[110,91,49,45,51,44,48,55,45,48,56,93,44,109]⟩ : ByteArray)] rfl (by (try simp only [List.map_toArray,List.map_cons,List.map_nil]);first|done|rfl|(simp only [List.length_drop,List.length_take];rfl)) ?_;(with_reducible refine (host_Expand.calls k (⟨#[110,91,49,45,51,44,48,55,45,48,56,93,44,109]⟩ : ByteArray) t367 t370 t371 _ A1.out (HG_.out.below (by repeat (first|(with_reducible first|exact HB.out|apply below_alloc|apply pw_below_drewN|apply below_drew1)|exact HB.out)))).mono ?_);rintro e w6 ⟨v368,rfl,ho0,hb⟩;refine ⟨_,rfl,?_⟩;have n0_:=Aside0.mk (Kd.R_lower ho0 (below_size (by repeat (first|(with_reducible first|exact HB.out|apply below_alloc|apply pw_below_drewN|apply below_drew1)|exact HB.out))));have n1_:=Aside0.mk (below_step (by repeat (first|(with_reducible first|exact HB.out|apply below_alloc|apply pw_below_drewN|apply below_drew1)|exact HB.out)) hb);clear HB;have HO369:=n0_;have HB:=n1_;clear n0_ n1_;(try clear hb);(try clear hb2);(try clear hk);(try clear hi);(try clear ho0))|((with_reducible refine gate_dst (N:=2) rfl ?_);(try (refine gate_guard (by rfl) ?_;dsimp only));refine box_event ?hg (N:=2) ?hd (cs:=#[.int .i64 0,.int .i64 0]) (t:=27) ?hr ?_;(case hd => rfl);(case hg => rfl);(case hr => first|(go_simp;done)|(go_simp;rfl));intro gb372 hg w7 hbox hb;have n0_:=Aside0.mk (Kd.R_below (by (with_reducible repeat (first|apply Kd.R_alloc|apply Kd.R_drewN|apply Kd.R_drew));exact HO369.out) hb);have n1_:=Aside0.mk (below_step (by repeat (first|(with_reducible first|exact HB.out|apply below_alloc|apply pw_below_drewN|apply below_drew1)|exact HB.out)) hb);have n2_:=Aside0.mk (hbox);have n3_:=Aside0.mk ((by rw [hg];exact (below_size (by repeat (first|(with_reducible first|exact HB.out|apply below_alloc|apply pw_below_drewN|apply below_drew1)|exact HB.out))) : w.heap.size ≤ gb372));have n4_:=Aside0.mk ((by rw [hg];exact (below_size (by repeat (first|(with_reducible first|exact HB.out|apply below_alloc|apply pw_below_drewN|apply below_drew1)|exact HB.out))) : w.heap.size ≤ gb372));clear HO369;clear HB;have HO369:=n0_;have HB:=n1_;have BK372:=n2_;have GW372:=n3_;have GE372:=n4_;clear n0_ n1_ n2_ n3_ n4_;clear hb hbox hg;have hcz8_0 : w7.cell? ⟨gb372,0,none⟩ = some (.int .i64 0):=(blk_cell BK372.out 0).trans rfl;have hcz8_1 : w7.cell? ⟨gb372,1,none⟩ = some (.int .i64 0):=(blk_cell BK372.out 1).trans rfl;have hfz8_0:=blk_frozen BK372.out 0;have hfz8_1:=blk_frozen BK372.out 1)|((with_reducible refine gate_dst (N:=12) rfl ?_);(try (refine gate_guard (by rfl) ?_;dsimp only));refine Kd.R_lit Kd.string _ 9 ?hg (N:=12) ?hd (xs:=([(⟨#[110,49]⟩ : ByteArray),(⟨#[110,50]⟩ : ByteArray),(⟨#[110,51]⟩ : ByteArray),(⟨#[110,48,55]⟩ : ByteArray),(⟨#[110,48,56]⟩ : ByteArray),(⟨#[109]⟩ : ByteArray)] : List ByteArray)) (inner:=[.string (⟨#[110,49]⟩ : ByteArray),.string (⟨#[110,50]⟩ : ByteArray),.string (⟨#[110,51]⟩ : ByteArray),.string (⟨#[110,48,55]⟩ : ByteArray),.string (⟨#[110,48,56]⟩ : ByteArray),.string (⟨#[109]⟩ : ByteArray)]) (ok:=fun _ => True) (okp:=fun _ => True) ?hr ?hp (fun _ hk => hk) trivial (Below.refl _ _) (Nat.le_refl _) (by simp) ?_;(case hd => rfl);(case hg => rfl);(case hr => first|(go_simp;done)|(go_simp;rfl));(case hp => exact (Reps.one (show Kd.M Kd.string _ _ _ (⟨#[110,49]⟩ : ByteArray) [.string (⟨#[110,49]⟩ : ByteArray)] from rfl) (Reps.one (show Kd.M Kd.string _ _ _ (⟨#[110,50]⟩ : ByteArray) [.string (⟨#[110,50]⟩ : ByteArray)] from rfl) (Reps.one (show Kd.M Kd.string _ _ _ (⟨#[110,51]⟩ : ByteArray) [.string (⟨#[110,51]⟩ : ByteArray)] from rfl) (Reps.one (show Kd.M Kd.string _ _ _ (⟨#[110,48,55]⟩ : ByteArray) [.string (⟨#[110,48,55]⟩ : ByteArray)] from rfl) (Reps.one (show Kd.M Kd.string _ _ _ (⟨#[110,48,56]⟩ : ByteArray) [.string (⟨#[110,48,56]⟩ : ByteArray)] from rfl) (Reps.one (show Kd.M Kd.string _ _ _ (⟨#[109]⟩ : ByteArray) [.string (⟨#[109]⟩ : ByteArray)] from rfl) (Reps.none _ _))))))));intro v374 w9 ho10 hb hg_ hnew_;clear hg_ hnew_;(first|rw [← Ny373.out] at ho10|(simp only [Int.reduceToNat] at ho10;rw [← Ny373.out] at ho10));have n0_:=Aside0.mk (Kd.R_elder' (by (with_reducible repeat (first|apply Kd.R_alloc|apply Kd.R_drewN|apply Kd.R_drew));exact (Kd.R_mono (Kd.R_far (p:=⟨gb372,1,none⟩) (Kd.R_far (p:=⟨gb372,0,none⟩) (Kd.R_types HO369.out BK372.out (by decide)) (fun _ hk => hk.2) (.int .i64 t370)) (fun _ hk => hk.2) (.int .i64 t371)) (fun _ h_ => h_.1))) (Kd.R_base ho10) hb);have n1_:=Aside0.mk (Kd.R_lower (Kd.R_new' ho10 (Kd.R_lt (by (with_reducible repeat (first|apply Kd.R_alloc|apply Kd.R_drewN|apply Kd.R_drew));exact (Kd.R_mono (Kd.R_far (p:=⟨gb372,1,none⟩) (Kd.R_far (p:=⟨gb372,0,none⟩) (Kd.R_types HO369.out BK372.out (by decide)) (fun _ hk => hk.2) (.int .i64 t370)) (fun _ hk => hk.2) (.int .i64 t371)) (fun _ h_ => h_.1))))) (below_size (by repeat (first|(with_reducible first|exact HB.out|apply below_alloc|apply pw_below_drewN|apply below_drew1|refine below_set ?_ GE372.out)|exact HB.out))));have n2_:=Aside0.mk (blk_below (g:=gb372) (o:=.cells #[.int .i64 t370,.int .i64 t371] 27 (0,0)) (by (with_reducible repeat (first|refine blk_drewN ?_ _|refine blk_drew ?_|refine blk_alloc ?_ _));refine blk_put (cs:=#[.int .i64 t370,.int .i64 0]) ?_ 1 _ rfl;(with_reducible repeat (first|refine blk_drewN ?_ _|refine blk_drew ?_|refine blk_alloc ?_ _));refine blk_put (cs:=#[.int .i64 0,.int .i64 0]) ?_ 0 _ rfl;(with_reducible repeat (first|refine blk_drewN ?_ _|refine blk_drew ?_|refine blk_alloc ?_ _));exact BK372.out) hb);have n3_:=Aside0.mk (below_step (by repeat (first|(with_reducible first|exact HB.out|apply below_alloc|apply pw_below_drewN|apply below_drew1|refine below_set ?_ GE372.out)|exact HB.out)) hb);clear HO369;clear BK372;clear HB;have HO369:=n0_;have HO375:=n1_;have BK372:=n2_;have HB:=n3_;clear n0_ n1_ n2_ n3_;clear hb ho10;obtain ⟨Ao11,co11,eo11⟩:=Kd.R_slice HO369.out;subst eo11;obtain ⟨Ao12,co12,eo12⟩:=Kd.R_slice HO375.out;subst eo12)|(go_at_call 13;(with_reducible refine (marlinspikeref05_Same.calls k _ _ t367 _ _ y373 true _ ?side1 ?side2 ?side3 ?side4 A3.out).mono ?_);(case side1 => repeat (first|exact (Kd.R_reads' HO369.out).2.2|(with_reducible refine Kd.C_alloc ?_ _)|(with_reducible refine Kd.C_drewN ?_ _)|(with_reducible refine Kd.C_drew ?_)));(case side2 => exact (Kd.R_reads' HO369.out).2.1);(case side3 => repeat (first|exact (Kd.R_reads' HO375.out).2.2|(with_reducible refine Kd.C_alloc ?_ _)|(with_reducible refine Kd.C_drewN ?_ _)|(with_reducible refine Kd.C_drew ?_)));(case side4 => exact (Kd.R_reads' HO375.out).2.1);rintro e w' ⟨rfl,⟨nd,rfl⟩⟩)|(go_at_call 12;(with_reducible refine (host_Compress.calls k (fun k_ => some k_ = (.slice Ao11 t367.length co11 : Value).ownBlock) _ _ t367 t377 _ ?side1 A5.out (HG_.out.below (by repeat (first|(with_reducible first|exact HB.out|apply below_alloc|apply pw_below_drewN|apply below_drew1|refine below_set ?_ GE372.out)|exact HB.out)))).mono ?_);(case side1 => exact Kd.R_V (Kd.R_tight rfl (Kd.R_types (HO369.out) BK372.out (by decide))));rintro e w13 ⟨rfl,hb⟩;have n0_:=Aside0.mk (Kd.R_below (by (with_reducible repeat (first|apply Kd.R_alloc|apply Kd.R_drewN|apply Kd.R_drew));exact HO369.out) hb);have n1_:=Aside0.mk (Kd.R_below (by (with_reducible repeat (first|apply Kd.R_alloc|apply Kd.R_drewN|apply Kd.R_drew));exact HO375.out) hb);have n2_:=Aside0.mk (blk_below (g:=gb372) (o:=.cells #[.int .i64 t370,.int .i64 t371] 27 (0,0)) (by (with_reducible repeat (first|refine blk_drewN ?_ _|refine blk_drew ?_|refine blk_alloc ?_ _));exact BK372.out) hb);have n3_:=Aside0.mk (below_step (by repeat (first|(with_reducible first|exact HB.out|apply below_alloc|apply pw_below_drewN|apply below_drew1|refine below_set ?_ GE372.out)|exact HB.out)) hb);clear HO369;clear HO375;clear BK372;clear HB;have HO369:=n0_;have HO375:=n1_;have BK372:=n2_;have HB:=n3_;clear n0_ n1_ n2_ n3_;(try clear hb);(try clear hb2);(try clear hk);(try clear hi))));(go_ret);(exact ⟨by first|rfl|(simp [errW_none,errW_some] <;> rfl)|(simp [*,errW_none,errW_some] <;> rfl),by repeat (first|(with_reducible first|exact HB.out|apply below_alloc|apply pw_below_drewN|apply below_drew1|refine below_set ?_ GE372.out)|exact HB.out)⟩)
  ·(replace c4:=Bool.eq_false_iff.mpr c4);(subst c4);(have H1 : (some false) = some r:=by rw [if_neg (show ¬ (false = true) by decide)] at H;exact H);(clear H);(have H:=H1);(clear H1);(obtain rfl:=Option.some.inj H);(go_enter Tryd.func9,Tryd.ntmps9);(go_wp2_with (first|((with_reducible refine gate_callee (f:=11) rfl ?_);refine goesL_ (some 4) rfl rfl Tryd.func11 (by kernel_rfl) rfl #[.string (⟨#[110,91,49,45,51,44,48,55,45,48,56,93,44,109]⟩ : ByteArray)] rfl (by (try simp only [List.map_toArray,List.map_cons,List.map_nil]);first|done|rfl|(simp only [List.length_drop,List.length_take];rfl)) ?_;(with_reducible refine (host_Expand.calls k (⟨#[110,91,49,45,51,44,48,55,45,48,56,93,44,109]⟩ : ByteArray) t367 t370 t371 _ A1.out (HG_.out.below (by repeat (first|(with_reducible first|exact HB.out|apply below_alloc|apply pw_below_drewN|apply below_drew1)|exact HB.out)))).mono ?_);rintro e w14 ⟨v368,rfl,ho0,hb⟩;refine ⟨_,rfl,?_⟩;have n0_:=Aside0.mk (Kd.R_lower ho0 (below_size (by repeat (first|(with_reducible first|exact HB.out|apply below_alloc|apply pw_below_drewN|apply below_drew1)|exact HB.out))));have n1_:=Aside0.mk (below_step (by repeat (first|(with_reducible first|exact HB.out|apply below_alloc|apply pw_below_drewN|apply below_drew1)|exact HB.out)) hb);clear HB;have HO369:=n0_;have HB:=n1_;clear n0_ n1_;(try clear hb);(try clear hb2);(try clear hk);(try clear hi);(try clear ho0))|((with_reducible refine gate_dst (N:=2) rfl ?_);(try (refine gate_guard (by rfl) ?_;dsimp only));refine box_event ?hg (N:=2) ?hd (cs:=#[.int .i64 0,.int .i64 0]) (t:=27) ?hr ?_;(case hd => rfl);(case hg => rfl);(case hr => first|(go_simp;done)|(go_simp;rfl));intro gb372 hg w15 hbox hb;have n0_:=Aside0.mk (Kd.R_below (by (with_reducible repeat (first|apply Kd.R_alloc|apply Kd.R_drewN|apply Kd.R_drew));exact HO369.out) hb);have n1_:=Aside0.mk (below_step (by repeat (first|(with_reducible first|exact HB.out|apply below_alloc|apply pw_below_drewN|apply below_drew1)|exact HB.out)) hb);have n2_:=Aside0.mk (hbox);have n3_:=Aside0.mk ((by rw [hg];exact (below_size (by repeat (first|(with_reducible first|exact HB.out|apply below_alloc|apply pw_below_drewN|apply below_drew1)|exact HB.out))) : w.heap.size ≤ gb372));have n4_:=Aside0.mk ((by rw [hg];exact (below_size (by repeat (first|(with_reducible first|exact HB.out|apply below_alloc|apply pw_below_drewN|apply below_drew1)|exact HB.out))) : w.heap.size ≤ gb372));clear HO369;clear HB;have HO369:=n0_;have HB:=n1_;have BK372:=n2_;have GW372:=n3_;have GE372:=n4_;clear n0_ n1_ n2_ n3_ n4_;clear hb hbox hg;have hcz16_0 : w15.cell? ⟨gb372,0,none⟩ = some (.int .i64 0):=(blk_cell BK372.out 0).trans rfl;have hcz16_1 : w15.cell? ⟨gb372,1,none⟩ = some (.int .i64 0):=(blk_cell BK372.out 1).trans rfl;have hfz16_0:=blk_frozen BK372.out 0;have hfz16_1:=blk_frozen BK372.out 1)|((with_reducible refine gate_dst (N:=12) rfl ?_);(try (refine gate_guard (by rfl) ?_;dsimp only));refine Kd.R_lit Kd.string _ 9 ?hg (N:=12) ?hd (xs:=([(⟨#[110,49]⟩ : ByteArray),(⟨#[110,50]⟩ : ByteArray),(⟨#[110,51]⟩ : ByteArray),(⟨#[110,48,55]⟩ : ByteArray),(⟨#[110,48,56]⟩ : ByteArray),(⟨#[109]⟩ : ByteArray)] : List ByteArray)) (inner:=[.string (⟨#[110,49]⟩ : ByteArray),.string (⟨#[110,50]⟩ : ByteArray),.string (⟨#[110,51]⟩ : ByteArray),.string (⟨#[110,48,55]⟩ : ByteArray),.string (⟨#[110,48,56]⟩ : ByteArray),.string (⟨#[109]⟩ : ByteArray)]) (ok:=fun _ => True) (okp:=fun _ => True) ?hr ?hp (fun _ hk => hk) trivial (Below.refl _ _) (Nat.le_refl _) (by simp) ?_;(case hd => rfl);(case hg => rfl);(case hr => first|(go_simp;done)|(go_simp;rfl));(case hp => exact (Reps.one (show Kd.M Kd.string _ _ _ (⟨#[110,49]⟩ : ByteArray) [.string (⟨#[110,49]⟩ : ByteArray)] from rfl) (Reps.one (show Kd.M Kd.string _ _ _ (⟨#[110,50]⟩ : ByteArray) [.string (⟨#[110,50]⟩ : ByteArray)] from rfl) (Reps.one (show Kd.M Kd.string _ _ _ (⟨#[110,51]⟩ : ByteArray) [.string (⟨#[110,51]⟩ : ByteArray)] from rfl) (Reps.one (show Kd.M Kd.string _ _ _ (⟨#[110,48,55]⟩ : ByteArray) [.string (⟨#[110,48,55]⟩ : ByteArray)] from rfl) (Reps.one (show Kd.M Kd.string _ _ _ (⟨#[110,48,56]⟩ : ByteArray) [.string (⟨#[110,48,56]⟩ : ByteArray)] from rfl) (Reps.one (show Kd.M Kd.string _ _ _ (⟨#[109]⟩ : ByteArray) [.string (⟨#[109]⟩ : ByteArray)] from rfl) (Reps.none _ _))))))));intro v374 w17 ho18 hb hg_ hnew_;clear hg_ hnew_;(first|rw [← Ny373.out] at ho18|(simp only [Int.reduceToNat] at ho18;rw [← Ny373.out] at ho18));have n0_:=Aside0.mk (Kd.R_elder' (by (with_reducible repeat (first|apply Kd.R_alloc|apply Kd.R_drewN|apply Kd.R_drew));exact (Kd.R_mono (Kd.R_far (p:=⟨gb372,1,none⟩) (Kd.R_far (p:=⟨gb372,0,none⟩) (Kd.R_types HO369.out BK372.out (by decide)) (fun _ hk => hk.2) (.int .i64 t370)) (fun _ hk => hk.2) (.int .i64 t371)) (fun _ h_ => h_.1))) (Kd.R_base ho18) hb);have n1_:=Aside0.mk (Kd.R_lower (Kd.R_new' ho18 (Kd.R_lt (by (with_reducible repeat (first|apply Kd.R_alloc|apply Kd.R_drewN|apply Kd.R_drew));exact (Kd.R_mono (Kd.R_far (p:=⟨gb372,1,none⟩) (Kd.R_far (p:=⟨gb372,0,none⟩) (Kd.R_types HO369.out BK372.out (by decide)) (fun _ hk => hk.2) (.int .i64 t370)) (fun _ hk => hk.2) (.int .i64 t371)) (fun _ h_ => h_.1))))) (below_size (by repeat (first|(with_reducible first|exact HB.out|apply below_alloc|apply pw_below_drewN|apply below_drew1|refine below_set ?_ GE372.out)|exact HB.out))));have n2_:=Aside0.mk (blk_below (g:=gb372) (o:=.cells #[.int .i64 t370,.int .i64 t371] 27 (0,0)) (by (with_reducible repeat (first|refine blk_drewN ?_ _|refine blk_drew ?_|refine blk_alloc ?_ _));refine blk_put (cs:=#[.int .i64 t370,.int .i64 0]) ?_ 1 _ rfl;(with_reducible repeat (first|refine blk_drewN ?_ _|refine blk_drew ?_|refine blk_alloc ?_ _));refine blk_put (cs:=#[.int .i64 0,.int .i64 0]) ?_ 0 _ rfl;(with_reducible repeat (first|refine blk_drewN ?_ _|refine blk_drew ?_|refine blk_alloc ?_ _));exact BK372.out) hb);have n3_:=Aside0.mk (below_step (by repeat (first|(with_reducible first|exact HB.out|apply below_alloc|apply pw_below_drewN|apply below_drew1|refine below_set ?_ GE372.out)|exact HB.out)) hb);clear HO369;clear BK372;clear HB;have HO369:=n0_;have HO375:=n1_;have BK372:=n2_;have HB:=n3_;clear n0_ n1_ n2_ n3_;clear hb ho18;obtain ⟨Ao19,co19,eo19⟩:=Kd.R_slice HO369.out;subst eo19;obtain ⟨Ao20,co20,eo20⟩:=Kd.R_slice HO375.out;subst eo20)|(go_at_call 13;(with_reducible refine (marlinspikeref05_Same.calls k _ _ t367 _ _ y373 false _ ?side1 ?side2 ?side3 ?side4 A3.out).mono ?_);(case side1 => repeat (first|exact (Kd.R_reads' HO369.out).2.2|(with_reducible refine Kd.C_alloc ?_ _)|(with_reducible refine Kd.C_drewN ?_ _)|(with_reducible refine Kd.C_drew ?_)));(case side2 => exact (Kd.R_reads' HO369.out).2.1);(case side3 => repeat (first|exact (Kd.R_reads' HO375.out).2.2|(with_reducible refine Kd.C_alloc ?_ _)|(with_reducible refine Kd.C_drewN ?_ _)|(with_reducible refine Kd.C_drew ?_)));(case side4 => exact (Kd.R_reads' HO375.out).2.1);rintro e w' ⟨rfl,⟨nd,rfl⟩⟩)));(go_ret);(exact ⟨by first|rfl|(simp [errW_none,errW_some] <;> rfl)|(simp [*,errW_none,errW_some] <;> rfl),by repeat (first|(with_reducible first|exact HB.out|apply below_alloc|apply pw_below_drewN|apply below_drew1|refine below_set ?_ GE372.out)|exact HB.out)⟩)
 ·(rw [if_neg c2] at H);(have c2b0 : (t370 == 0 && (t371 == 0)) = false:=by simpa using c2);((try (have c2b1 : decide (t370 = 0 && (t371 == 0)) = false:=by simpa using c2)));((try (have c2b2 : (t370 == 0 && (t371 == 0)) = false:=by simpa using c2)));((try (have c2b3 : ¬ (t370 = 0 && (t371 == 0)):=by simpa using c2)));(clear c2);(obtain rfl:=Option.some.inj H);(go_enter Tryd.func9,Tryd.ntmps9);(go_wp2_with (first|((with_reducible refine gate_callee (f:=11) rfl ?_);refine goesL_ (some 4) rfl rfl Tryd.func11 (by kernel_rfl) rfl #[.string (⟨#[110,91,49,45,51,44,48,55,45,48,56,93,44,109]⟩ : ByteArray)] rfl (by (try simp only [List.map_toArray,List.map_cons,List.map_nil]);first|done|rfl|(simp only [List.length_drop,List.length_take];rfl)) ?_;(with_reducible refine (host_Expand.calls k (⟨#[110,91,49,45,51,44,48,55,45,48,56,93,44,109]⟩ : ByteArray) t367 t370 t371 _ A1.out (HG_.out.below (by repeat (first|(with_reducible first|exact HB.out|apply below_alloc|apply pw_below_drewN|apply below_drew1)|exact HB.out)))).mono ?_);rintro e w21 ⟨v368,rfl,ho0,hb⟩;refine ⟨_,rfl,?_⟩;have n0_:=Aside0.mk (Kd.R_lower ho0 (below_size (by repeat (first|(with_reducible first|exact HB.out|apply below_alloc|apply pw_below_drewN|apply below_drew1)|exact HB.out))));have n1_:=Aside0.mk (below_step (by repeat (first|(with_reducible first|exact HB.out|apply below_alloc|apply pw_below_drewN|apply below_drew1)|exact HB.out)) hb);clear HB;have HO369:=n0_;have HB:=n1_;clear n0_ n1_;(try clear hb);(try clear hb2);(try clear hk);(try clear hi);(try clear ho0))|((with_reducible refine gate_dst (N:=2) rfl ?_);(try (refine gate_guard (by rfl) ?_;dsimp only));refine box_event ?hg (N:=2) ?hd (cs:=#[.int .i64 0,.int .i64 0]) (t:=27) ?hr ?_;(case hd => rfl);(case hg => rfl);(case hr => first|(go_simp;done)|(go_simp;rfl));intro gb372 hg w22 hbox hb;have n0_:=Aside0.mk (Kd.R_below (by (with_reducible repeat (first|apply Kd.R_alloc|apply Kd.R_drewN|apply Kd.R_drew));exact HO369.out) hb);have n1_:=Aside0.mk (below_step (by repeat (first|(with_reducible first|exact HB.out|apply below_alloc|apply pw_below_drewN|apply below_drew1)|exact HB.out)) hb);have n2_:=Aside0.mk (hbox);have n3_:=Aside0.mk ((by rw [hg];exact (below_size (by repeat (first|(with_reducible first|exact HB.out|apply below_alloc|apply pw_below_drewN|apply below_drew1)|exact HB.out))) : w.heap.size ≤ gb372));have n4_:=Aside0.mk ((by rw [hg];exact (below_size (by repeat (first|(with_reducible first|exact HB.out|apply below_alloc|apply pw_below_drewN|apply below_drew1)|exact HB.out))) : w.heap.size ≤ gb372));clear HO369;clear HB;have HO369:=n0_;have HB:=n1_;have BK372:=n2_;have GW372:=n3_;have GE372:=n4_;clear n0_ n1_ n2_ n3_ n4_;clear hb hbox hg;have hcz23_0 : w22.cell? ⟨gb372,0,none⟩ = some (.int .i64 0):=(blk_cell BK372.out 0).trans rfl;have hcz23_1 : w22.cell? ⟨gb372,1,none⟩ = some (.int .i64 0):=(blk_cell BK372.out 1).trans rfl;have hfz23_0:=blk_frozen BK372.out 0;have hfz23_1:=blk_frozen BK372.out 1)));(go_ret);(exact ⟨by first|rfl|(simp [errW_none,errW_some] <;> rfl)|(simp [*,errW_none,errW_some] <;> rfl),by repeat (first|(with_reducible first|exact HB.out|apply below_alloc|apply pw_below_drewN|apply below_drew1|refine below_set ?_ GE372.out)|exact HB.out)⟩)
end Go.Proofs.YtoammgpfbdcphaaDoor.PH
end
section
namespace Go.Proofs.YtoammgpfbdcphaaDoor.PH
open Go.RowKit Go.Proofs.YtoammgpfbdcphaaDoor.Lib Go.Proofs.YtoammgpfbdcphaaDoorW.PrintWords Go.Proofs.YtoammgpfbdcphaaDoorW.PrintLast Go.Proofs.YtoammgpfbdcphaaDoorW.PrintMore
attribute [local go_sem] max2_int min2_int max_two min_two max_three min_three max_four min_four   
set_option linter.unusedVariables false
set_option linter.unusedSimpArgs false
attribute [local go_sem high] eqA27
mutual
def marlinspikelaw05_HostSpan.j0 : Nat → Int → Int → Int → Int → Bool → Option (Bool)
 | 0, _, _, _, _, _ => none
 | k + 1, x7, x8, x9, x11, x37 => if x37 = true then (marlinspikelaw05_HostSpan.j1 k x7 x8 x11) else (marlinspikelaw05_HostSpan.j1 k x7 x8 x9)
def marlinspikelaw05_HostSpan.j1 : Nat → Int → Int → Int → Option (Bool)
 | 0, _, _, _ => none
 | k + 1, x7, x8, x9 => (marlinspikeref05_Digits.f k x7 x9).bind fun t379 => (if 3 + t379.size ≤ 9223372036854775807 then (if ((⟨#[120, 45, 91]⟩ : ByteArray) ++ t379).size + 1 ≤ 9223372036854775807 then ((marlinspikeref05_Digits.f k (wrap64 (x7 + x8)) 0).bind fun t380 => (if (((⟨#[120, 45, 91]⟩ : ByteArray) ++ t379) ++ (⟨#[45]⟩ : ByteArray)).size + t380.size ≤ 9223372036854775807 then (if ((((⟨#[120, 45, 91]⟩ : ByteArray) ++ t379) ++ (⟨#[45]⟩ : ByteArray)) ++ t380).size + 1 ≤ 9223372036854775807 then ((host_Expand.f k (((((⟨#[120, 45, 91]⟩ : ByteArray) ++ t379) ++ (⟨#[45]⟩ : ByteArray)) ++ t380) ++ (⟨#[93]⟩ : ByteArray))).bind fun bt381 => (if (wrap64 (x8 + 1)) > 256 then (if (bt381.2.1 == 5 && (bt381.2.2 == 0)) = true then (if (bt381.1.length : Int) = 0 then ((marlinspikelaw05_alive.f k).bind fun t387 => (some t387)) else (some false)) else (some false)) else (if (!(bt381.2.1 == 0) || (!(bt381.2.2 == 0))) = true then (marlinspikelaw05_HostSpan.j2 k x7 x9 bt381.1 true) else (marlinspikelaw05_HostSpan.j2 k x7 x9 bt381.1 ((bt381.1.length : Int) != (wrap64 (x8 + 1))))))) else (none)) else (none))) else (none)) else (none))
def marlinspikelaw05_HostSpan.j2 : Nat → Int → Int → List ByteArray → Bool → Option (Bool)
 | 0, _, _, _, _ => none
 | k + 1, x7, x9, x12, x77 => if x77 = true then (some false) else (marlinspikelaw05_HostSpan.l0 k x7 x9 x12 (x12.length : Int) 0)
def marlinspikelaw05_HostSpan.l0 : Nat → Int → Int → List ByteArray → Int → Int → Option (Bool)
 | 0, _, _, _, _, _ => none
 | k + 1, x7, x9, x78, x79, x80 => if x80 < x79 then (if 0 ≤ x80 then (if x80 < (x78.length : Int) then ((marlinspikeref05_Digits.f k (wrap64 (x7 + x80)) x9).bind fun t389 => (if 2 + t389.size ≤ 9223372036854775807 then (if (rdOf ByteArray.empty x78 x80).toList = ((⟨#[120, 45]⟩ : ByteArray) ++ t389).toList then (marlinspikelaw05_HostSpan.l0 k x7 x9 x78 x79 (wrap64 (x80 + 1))) else (some false)) else (none))) else (none)) else (none)) else ((marlinspikelaw05_alive.f k).bind fun t390 => (some t390))
end
def marlinspikelaw05_HostSpan.f (k : Nat) (a0 : Int) (a1 : Int) (a2 : Int) : Option (Bool) := (marlinspikeref05_Digits.f k (Int.tmod (wrap64 (a0)) 900000) 0).bind fun t378 => (if (wrap64 ((t378.size : Int) + (wrap64 (Int.tmod a2 4)))) > (t378.size : Int) then (marlinspikelaw05_HostSpan.j0 k (Int.tmod (wrap64 (a0)) 900000) (Int.tmod (wrap64 (a1)) 300) 0 (wrap64 ((t378.size : Int) + (wrap64 (Int.tmod a2 4)))) (decide ((wrap64 ((t378.size : Int) + (wrap64 (Int.tmod a2 4)))) ≤ 6))) else (marlinspikelaw05_HostSpan.j0 k (Int.tmod (wrap64 (a0)) 900000) (Int.tmod (wrap64 (a1)) 300) 0 (wrap64 ((t378.size : Int) + (wrap64 (Int.tmod a2 4)))) false))
theorem marlinspikelaw05_HostSpan.mono_l : ∀ k,(∀ y0 y1 y2 y3 y4,LeO (marlinspikelaw05_HostSpan.j0 k y0 y1 y2 y3 y4) (marlinspikelaw05_HostSpan.j0 (k + 1) y0 y1 y2 y3 y4))∧(∀ y0 y1 y2,LeO (marlinspikelaw05_HostSpan.j1 k y0 y1 y2) (marlinspikelaw05_HostSpan.j1 (k + 1) y0 y1 y2))∧(∀ y0 y1 y2 y3,LeO (marlinspikelaw05_HostSpan.j2 k y0 y1 y2 y3) (marlinspikelaw05_HostSpan.j2 (k + 1) y0 y1 y2 y3))∧(∀ y0 y1 y2 y3 y4,LeO (marlinspikelaw05_HostSpan.l0 k y0 y1 y2 y3 y4) (marlinspikelaw05_HostSpan.l0 (k + 1) y0 y1 y2 y3 y4))
|0 => ⟨fun _ _ _ _ _ r h => by simp [marlinspikelaw05_HostSpan.j0] at h,fun _ _ _ r h => by simp [marlinspikelaw05_HostSpan.j1] at h,fun _ _ _ _ r h => by simp [marlinspikelaw05_HostSpan.j2] at h,fun _ _ _ _ _ r h => by simp [marlinspikelaw05_HostSpan.l0] at h⟩
|k + 1 => by
  obtain ⟨ih0,ih1,ih2,ih3⟩:=marlinspikelaw05_HostSpan.mono_l k
  refine ⟨?_,?_,?_,?_⟩
  ·intro y0 y1 y2 y3 y4
   unfold marlinspikelaw05_HostSpan.j0
   repeat' first
  |(with_reducible exact ih0 _ _ _ _ _)
  |(with_reducible exact ih1 _ _ _)
  |(with_reducible exact ih2 _ _ _ _)
  |(with_reducible exact ih3 _ _ _ _ _)
  |(with_reducible exact host_Expand.mono _ _)
  |(with_reducible exact marlinspikelaw05_alive.mono _)
  |(with_reducible exact marlinspikeref05_Digits.mono _ _ _)
  |(with_reducible exact LeO.refl _)
  |(with_reducible exact LeO.none _)
  |(with_reducible refine LeO.ite ?_ ?_)
  |(with_reducible refine LeO.bind ?_ (fun _ => ?_))
  |exact ih0 _ _ _ _ _
  |exact ih1 _ _ _
  |exact ih2 _ _ _ _
  |exact ih3 _ _ _ _ _
  |exact host_Expand.mono _ _
  |exact marlinspikelaw05_alive.mono _
  |exact marlinspikeref05_Digits.mono _ _ _
  |exact LeO.none _
  |refine LeO.ite ?_ ?_
  |refine LeO.bind ?_ (fun _ => ?_)
  ·intro y0 y1 y2
   unfold marlinspikelaw05_HostSpan.j1
   repeat' first
  |(with_reducible exact ih0 _ _ _ _ _)
  |(with_reducible exact ih1 _ _ _)
  |(with_reducible exact ih2 _ _ _ _)
  |(with_reducible exact ih3 _ _ _ _ _)
  |(with_reducible exact host_Expand.mono _ _)
  |(with_reducible exact marlinspikelaw05_alive.mono _)
  |(with_reducible exact marlinspikeref05_Digits.mono _ _ _)
  |(with_reducible exact LeO.refl _)
  |(with_reducible exact LeO.none _)
  |(with_reducible refine LeO.ite ?_ ?_)
  |(with_reducible refine LeO.bind ?_ (fun _ => ?_))
  |exact ih0 _ _ _ _ _
  |exact ih1 _ _ _
  |exact ih2 _ _ _ _
  |exact ih3 _ _ _ _ _
  |exact host_Expand.mono _ _
  |exact marlinspikelaw05_alive.mono _
  |exact marlinspikeref05_Digits.mono _ _ _
  |exact LeO.none _
  |refine LeO.ite ?_ ?_
  |refine LeO.bind ?_ (fun _ => ?_)
  ·intro y0 y1 y2 y3
   unfold marlinspikelaw05_HostSpan.j2
   repeat' first
  |(with_reducible exact ih0 _ _ _ _ _)
  |(with_reducible exact ih1 _ _ _)
  |(with_reducible exact ih2 _ _ _ _)
  |(with_reducible exact ih3 _ _ _ _ _)
  |(with_reducible exact host_Expand.mono _ _)
  |(with_reducible exact marlinspikelaw05_alive.mono _)
  |(with_reducible exact marlinspikeref05_Digits.mono _ _ _)
  |(with_reducible exact LeO.refl _)
  |(with_reducible exact LeO.none _)
  |(with_reducible refine LeO.ite ?_ ?_)
  |(with_reducible refine LeO.bind ?_ (fun _ => ?_))
  |exact ih0 _ _ _ _ _
  |exact ih1 _ _ _
  |exact ih2 _ _ _ _
  |exact ih3 _ _ _ _ _
  |exact host_Expand.mono _ _
  |exact marlinspikelaw05_alive.mono _
  |exact marlinspikeref05_Digits.mono _ _ _
  |exact LeO.none _
  |refine LeO.ite ?_ ?_
  |refine LeO.bind ?_ (fun _ => ?_)
  ·intro y0 y1 y2 y3 y4
   unfold marlinspikelaw05_HostSpan.l0
   repeat' first
  |(with_reducible exact ih0 _ _ _ _ _)
  |(with_reducible exact ih1 _ _ _)
  |(with_reducible exact ih2 _ _ _ _)
  |(with_reducible exact ih3 _ _ _ _ _)
  |(with_reducible exact host_Expand.mono _ _)
  |(with_reducible exact marlinspikelaw05_alive.mono _)
  |(with_reducible exact marlinspikeref05_Digits.mono _ _ _)
  |(with_reducible exact LeO.refl _)
  |(with_reducible exact LeO.none _)
  |(with_reducible refine LeO.ite ?_ ?_)
  |(with_reducible refine LeO.bind ?_ (fun _ => ?_))
  |exact ih0 _ _ _ _ _
  |exact ih1 _ _ _
  |exact ih2 _ _ _ _
  |exact ih3 _ _ _ _ _
  |exact host_Expand.mono _ _
  |exact marlinspikelaw05_alive.mono _
  |exact marlinspikeref05_Digits.mono _ _ _
  |exact LeO.none _
  |refine LeO.ite ?_ ?_
  |refine LeO.bind ?_ (fun _ => ?_)
theorem marlinspikelaw05_HostSpan.mono : ∀ a0 a1 a2 k,LeO (marlinspikelaw05_HostSpan.f k a0 a1 a2) (marlinspikelaw05_HostSpan.f (k + 1) a0 a1 a2):=by
 (intro a0 a1 a2 k);(obtain ⟨ih0,ih1,ih2,ih3⟩:=marlinspikelaw05_HostSpan.mono_l k);(unfold marlinspikelaw05_HostSpan.f)
 repeat' first
  |(with_reducible exact ih0 _ _ _ _ _)
  |(with_reducible exact ih1 _ _ _)
  |(with_reducible exact ih2 _ _ _ _)
  |(with_reducible exact ih3 _ _ _ _ _)
  |(with_reducible exact host_Expand.mono _ _)
  |(with_reducible exact marlinspikelaw05_alive.mono _)
  |(with_reducible exact marlinspikeref05_Digits.mono _ _ _)
  |(with_reducible exact LeO.refl _)
  |(with_reducible exact LeO.none _)
  |(with_reducible refine LeO.ite ?_ ?_)
  |(with_reducible refine LeO.bind ?_ (fun _ => ?_))
  |exact ih0 _ _ _ _ _
  |exact ih1 _ _ _
  |exact ih2 _ _ _ _
  |exact ih3 _ _ _ _ _
  |exact host_Expand.mono _ _
  |exact marlinspikelaw05_alive.mono _
  |exact marlinspikeref05_Digits.mono _ _ _
  |exact LeO.none _
  |refine LeO.ite ?_ ?_
  |refine LeO.bind ?_ (fun _ => ?_)
set_option maxHeartbeats 8000000 in
set_option maxRecDepth 100000 in
theorem marlinspikelaw05_HostSpan.calls (k : Nat) (a0 : Int) (a1 : Int) (a2 : Int) (r : Bool) (w : World) (h : marlinspikelaw05_HostSpan.f k a0 a1 a2 = some r) (hG_ : Glob w) :
  Calls Tryd.prog 5 #[.int .u16 a0,.int .u16 a1,.int .u8 a2] w fun e w' => e = .returned (.bool r)∧Below w.heap.size w w':=by
 (have HG_:=Aside0.mk hG_);(clear hG_);(have hu27:=Tryd.underlying27);(have HB:=Aside0.mk (Below.refl w.heap.size w));(have H : ((marlinspikeref05_Digits.f k (Int.tmod (wrap64 (a0)) 900000) 0).bind fun t378 => (if (wrap64 ((t378.size : Int) + (wrap64 (Int.tmod a2 4)))) > (t378.size : Int) then (marlinspikelaw05_HostSpan.j0 k (Int.tmod (wrap64 (a0)) 900000) (Int.tmod (wrap64 (a1)) 300) 0 (wrap64 ((t378.size : Int) + (wrap64 (Int.tmod a2 4)))) (decide ((wrap64 ((t378.size : Int) + (wrap64 (Int.tmod a2 4)))) ≤ 6))) else (marlinspikelaw05_HostSpan.j0 k (Int.tmod (wrap64 (a0)) 900000) (Int.tmod (wrap64 (a1)) 300) 0 (wrap64 ((t378.size : Int) + (wrap64 (Int.tmod a2 4)))) false))) = some r:=h);(clear h);(replace H:=Option.bind_eq_some_iff.mp H);(obtain ⟨t378,A40,H⟩:=H);(replace H : (if (wrap64 ((t378.size : Int) + (wrap64 (Int.tmod a2 4)))) > (t378.size : Int) then (marlinspikelaw05_HostSpan.j0 k (Int.tmod (wrap64 (a0)) 900000) (Int.tmod (wrap64 (a1)) 300) 0 (wrap64 ((t378.size : Int) + (wrap64 (Int.tmod a2 4)))) (decide ((wrap64 ((t378.size : Int) + (wrap64 (Int.tmod a2 4)))) ≤ 6))) else (marlinspikelaw05_HostSpan.j0 k (Int.tmod (wrap64 (a0)) 900000) (Int.tmod (wrap64 (a1)) 300) 0 (wrap64 ((t378.size : Int) + (wrap64 (Int.tmod a2 4)))) false)) = some r:=H);(have A4:=Aside0.mk A40);(clear A40);(have HC5:=Aside0.mk H);(clear H);(go_enter Tryd.func5,Tryd.ntmps5);(go_upto_region 5 with (first|((with_reducible refine gate_callee (f:=14) rfl ?_);refine goesL_ (some 23) rfl rfl Tryd.func14 (by kernel_rfl) rfl #[.int .i64 (Int.tmod (wrap64 (a0)) 900000),.int .i64 0] rfl (by (try simp only [List.map_toArray,List.map_cons,List.map_nil]);first|done|rfl|(simp only [List.length_drop,List.length_take];rfl)) ?_;(with_reducible refine (marlinspikeref05_Digits.calls k (Int.tmod (wrap64 (a0)) 900000) 0 t378 _ A4.out).mono ?_);rintro e w6 ⟨rfl,hb⟩;refine ⟨_,rfl,?_⟩;have n0_:=Aside0.mk (below_step (by repeat (first|(with_reducible first|exact HB.out|apply below_alloc|apply pw_below_drewN|apply below_drew1)|exact HB.out)) hb);clear HB;have HB:=n0_;clear n0_;(try clear hb);(try clear hb2);(try clear hk);(try clear hi))));((try simp only [Act.put,List.setIfInBounds_toArray,List.set_cons_zero,List.set_cons_succ]));(go_cut [37] (fun v37 wc => ∃ (kq : Nat) (x37_4 : Bool),v37 = .bool x37_4∧Aside0 (marlinspikelaw05_HostSpan.j0 kq (Int.tmod (wrap64 (a0)) 900000) (Int.tmod (wrap64 (a1)) 300) 0 (wrap64 ((t378.size : Int) + (wrap64 (Int.tmod a2 4)))) x37_4 = some r)∧Aside0 (kq ≤ k)∧Aside0 (Below w.heap.size w wc)))
 case first =>
  (have H:=HC5.out);(clear HC5);(by_cases c7 : (wrap64 ((t378.size : Int) + (wrap64 (Int.tmod a2 4)))) > (t378.size : Int))
  ·(rw [if_pos c7] at H);(have c7b0 : decide ((t378.size : Int) < (wrap64 ((t378.size : Int) + (wrap64 (Int.tmod a2 4))))) = true:=decide_eq_true c7);(clear c7);((first|rw [c7b0]|(simp only [i64_w,i32_w];rw [c7b0])|skip));(have H':=Aside0.mk H);(clear H);(go_wp2);(go_meet)
   case rel => exact ⟨_,(decide ((wrap64 ((t378.size : Int) + (wrap64 (Int.tmod a2 4)))) ≤ 6)),(by first|rfl|(simp;done)|(simp [*];done)),H',⟨by first|omega|exact Nat.le_refl _⟩,⟨by repeat (first|(with_reducible first|exact HB.out|apply below_alloc|apply pw_below_drewN|apply below_drew1)|exact HB.out)⟩⟩
  ·(rw [if_neg c7] at H);(have c7b0 : decide ((t378.size : Int) < (wrap64 ((t378.size : Int) + (wrap64 (Int.tmod a2 4))))) = false:=decide_eq_false c7);(clear c7);((first|rw [c7b0]|(simp only [i64_w,i32_w];rw [c7b0])|skip));(have H':=Aside0.mk H);(clear H);(go_wp2);(go_meet)
   case rel => exact ⟨_,(false),(by first|rfl|(simp;done)|(simp [*];done)),H',⟨by first|omega|exact Nat.le_refl _⟩,⟨by repeat (first|(with_reducible first|exact HB.out|apply below_alloc|apply pw_below_drewN|apply below_drew1)|exact HB.out)⟩⟩
 case rest =>
  (clear HC5);(try clear c1);(try clear p2);(try clear c5);(try clear p6);(try clear c7);(try clear c7b0);(obtain ⟨kq,x37_4,rfl,HA,HJ4,HB⟩:=hcut)
  cases kq with
 |zero => exact absurd HA.out (by simp [marlinspikelaw05_HostSpan.j0])
 |succ kj4 =>
   (have H:=HA.out);(clear HA);(simp only [marlinspikelaw05_HostSpan.j0] at H);(have HC8:=Aside0.mk H);(clear H);(go_upto_if 37 with (fail));(go_cut [9] (fun v9 wc => ∃ (kq : Nat) (x9_7 : Int),v9 = .int .i64 x9_7∧Aside0 (marlinspikelaw05_HostSpan.j1 kq (Int.tmod (wrap64 (a0)) 900000) (Int.tmod (wrap64 (a1)) 300) x9_7 = some r)∧Aside0 (kq ≤ kj4)∧Aside0 (Below w.heap.size w wc)))
   case first =>
    (have H:=HC8.out);(clear HC8);(by_cases c9 : x37_4 = true)
    ·(subst c9);(have H1 : (marlinspikelaw05_HostSpan.j1 kj4 (Int.tmod (wrap64 (a0)) 900000) (Int.tmod (wrap64 (a1)) 300) (wrap64 ((t378.size : Int) + (wrap64 (Int.tmod a2 4))))) = some r:=by rw [if_pos rfl] at H;exact H);(clear H);(have H:=H1);(clear H1);(have H':=Aside0.mk H);(clear H);(go_wp2);(go_meet)
     case rel => exact ⟨_,((wrap64 ((t378.size : Int) + (wrap64 (Int.tmod a2 4))))),(by first|rfl|(simp;done)|(simp [*];done)),H',⟨by have:=HJ4.out;first|omega|exact Nat.le_refl _⟩,⟨by repeat (first|(with_reducible first|exact HB.out|apply below_alloc|apply pw_below_drewN|apply below_drew1)|exact HB.out)⟩⟩
    ·(replace c9:=Bool.eq_false_iff.mpr c9);(subst c9);(have H1 : (marlinspikelaw05_HostSpan.j1 kj4 (Int.tmod (wrap64 (a0)) 900000) (Int.tmod (wrap64 (a1)) 300) 0) = some r:=by rw [if_neg (show ¬ (false = true) by decide)] at H;exact H);(clear H);(have H:=H1);(clear H1);(have H':=Aside0.mk H);(clear H);(go_wp2);(go_meet)
     case rel => exact ⟨_,(0),(by first|rfl|(simp;done)|(simp [*];done)),H',⟨by have:=HJ4.out;first|omega|exact Nat.le_refl _⟩,⟨by repeat (first|(with_reducible first|exact HB.out|apply below_alloc|apply pw_below_drewN|apply below_drew1)|exact HB.out)⟩⟩
   case rest =>
    (clear HC8);(try clear c1);(try clear p2);(try clear c5);(try clear p6);(try clear c7);(try clear c7b0);(try clear c9);(try clear p2);(try clear p6);(obtain ⟨kq,x9_7,rfl,HA,HJ7,HB⟩:=hcut)
    cases kq with
   |zero => exact absurd HA.out (by simp [marlinspikelaw05_HostSpan.j1])
   |succ kj7 =>
     (have H:=HA.out);(clear HA);(simp only [marlinspikelaw05_HostSpan.j1] at H);(replace H:=Option.bind_eq_some_iff.mp H);(obtain ⟨t379,A100,H⟩:=H);(replace H : (if 3 + t379.size ≤ 9223372036854775807 then (if ((⟨#[120,45,91]⟩ : ByteArray) ++ t379).size + 1 ≤ 9223372036854775807 then ((marlinspikeref05_Digits.f kj7 (wrap64 ((Int.tmod (wrap64 (a0)) 900000) + (Int.tmod (wrap64 (a1)) 300))) 0).bind fun t380 => (if (((⟨#[120,45,91]⟩ : ByteArray) ++ t379) ++ (⟨#[45]⟩ : ByteArray)).size + t380.size ≤ 9223372036854775807 then (if ((((⟨#[120,45,91]⟩ : ByteArray) ++ t379) ++ (⟨#[45]⟩ : ByteArray)) ++ t380).size + 1 ≤ 9223372036854775807 then ((host_Expand.f kj7 (((((⟨#[120,45,91]⟩ : ByteArray) ++ t379) ++ (⟨#[45]⟩ : ByteArray)) ++ t380) ++ (⟨#[93]⟩ : ByteArray))).bind fun bt381 => (if (wrap64 ((Int.tmod (wrap64 (a1)) 300) + 1)) > 256 then (if (bt381.2.1 == 5 && (bt381.2.2 == 0)) = true then (if (bt381.1.length : Int) = 0 then ((marlinspikelaw05_alive.f kj7).bind fun t387 => (some t387)) else (some false)) else (some false)) else (if (!(bt381.2.1 == 0) || (!(bt381.2.2 == 0))) = true then (marlinspikelaw05_HostSpan.j2 kj7 (Int.tmod (wrap64 (a0)) 900000) x9_7 bt381.1 true) else (marlinspikelaw05_HostSpan.j2 kj7 (Int.tmod (wrap64 (a0)) 900000) x9_7 bt381.1 ((bt381.1.length : Int) != (wrap64 ((Int.tmod (wrap64 (a1)) 300) + 1))))))) else (none)) else (none))) else (none)) else (none)) = some r:=H);(have A10:=Aside0.mk A100);(clear A100);(by_cases c11 : 3 + t379.size ≤ 9223372036854775807)
     ·(rw [if_pos c11] at H);(have c11b0:=eq_true c11);(have c11b1 : decide (3 + t379.size ≤ 9223372036854775807) = true:=decide_eq_true c11);(try have c11b2 : (9223372036854775807 < 3 + t379.size) = False:=eq_false (Nat.not_lt.2 c11));(by_cases c12 : ((⟨#[120,45,91]⟩ : ByteArray) ++ t379).size + 1 ≤ 9223372036854775807)
      ·(rw [if_pos c12] at H);(have c12b0:=eq_true c12);(have c12b1 : decide (((⟨#[120,45,91]⟩ : ByteArray) ++ t379).size + 1 ≤ 9223372036854775807) = true:=decide_eq_true c12);(try have c12b3 : (9223372036854775807 < 3 + t379.size + 1) = False:=eq_false (by have z:=c12;rw [show ((⟨#[120,45,91]⟩ : ByteArray) ++ t379).size + 1 = 3 + t379.size + 1 from by rw [ByteArray.size_append];rfl] at z;omega));(try have c12b2 : (9223372036854775807 < ((⟨#[120,45,91]⟩ : ByteArray) ++ t379).size + 1) = False:=eq_false (Nat.not_lt.2 c12));(replace H:=Option.bind_eq_some_iff.mp H);(obtain ⟨t380,A130,H⟩:=H);(replace H : (if (((⟨#[120,45,91]⟩ : ByteArray) ++ t379) ++ (⟨#[45]⟩ : ByteArray)).size + t380.size ≤ 9223372036854775807 then (if ((((⟨#[120,45,91]⟩ : ByteArray) ++ t379) ++ (⟨#[45]⟩ : ByteArray)) ++ t380).size + 1 ≤ 9223372036854775807 then ((host_Expand.f kj7 (((((⟨#[120,45,91]⟩ : ByteArray) ++ t379) ++ (⟨#[45]⟩ : ByteArray)) ++ t380) ++ (⟨#[93]⟩ : ByteArray))).bind fun bt381 => (if (wrap64 ((Int.tmod (wrap64 (a1)) 300) + 1)) > 256 then (if (bt381.2.1 == 5 && (bt381.2.2 == 0)) = true then (if (bt381.1.length : Int) = 0 then ((marlinspikelaw05_alive.f kj7).bind fun t387 => (some t387)) else (some false)) else (some false)) else (if (!(bt381.2.1 == 0) || (!(bt381.2.2 == 0))) = true then (marlinspikelaw05_HostSpan.j2 kj7 (Int.tmod (wrap64 (a0)) 900000) x9_7 bt381.1 true) else (marlinspikelaw05_HostSpan.j2 kj7 (Int.tmod (wrap64 (a0)) 900000) x9_7 bt381.1 ((bt381.1.length : Int) != (wrap64 ((Int.tmod (wrap64 (a1)) 300) + 1))))))) else (none)) else (none)) = some r:=H);(have A13:=Aside0.mk A130);(clear A130);(by_cases c14 : (((⟨#[120,45,91]⟩ : ByteArray) ++ t379) ++ (⟨#[45]⟩ : ByteArray)).size + t380.size ≤ 9223372036854775807)
       ·(rw [if_pos c14] at H);(have c14b0:=eq_true c14);(have c14b1 : decide ((((⟨#[120,45,91]⟩ : ByteArray) ++ t379) ++ (⟨#[45]⟩ : ByteArray)).size + t380.size ≤ 9223372036854775807) = true:=decide_eq_true c14);(try have c14b3 : (9223372036854775807 < 3 + t379.size + 1 + t380.size) = False:=eq_false (by have z:=c14;rw [show (((⟨#[120,45,91]⟩ : ByteArray) ++ t379) ++ (⟨#[45]⟩ : ByteArray)).size + t380.size = 3 + t379.size + 1 + t380.size from by rw [ByteArray.size_append];rw [ByteArray.size_append];rfl] at z;omega));(try have c14b2 : (9223372036854775807 < (((⟨#[120,45,91]⟩ : ByteArray) ++ t379) ++ (⟨#[45]⟩ : ByteArray)).size + t380.size) = False:=eq_false (Nat.not_lt.2 c14));(by_cases c15 : ((((⟨#[120,45,91]⟩ : ByteArray) ++ t379) ++ (⟨#[45]⟩ : ByteArray)) ++ t380).size + 1 ≤ 9223372036854775807)
        ·(rw [if_pos c15] at H);(have c15b0:=eq_true c15);(have c15b1 : decide (((((⟨#[120,45,91]⟩ : ByteArray) ++ t379) ++ (⟨#[45]⟩ : ByteArray)) ++ t380).size + 1 ≤ 9223372036854775807) = true:=decide_eq_true c15);(try have c15b3 : (9223372036854775807 < 3 + t379.size + 1 + t380.size + 1) = False:=eq_false (by have z:=c15;rw [show ((((⟨#[120,45,91]⟩ : ByteArray) ++ t379) ++ (⟨#[45]⟩ : ByteArray)) ++ t380).size + 1 = 3 + t379.size + 1 + t380.size + 1 from by rw [ByteArray.size_append];rw [ByteArray.size_append];rw [ByteArray.size_append];rfl] at z;omega));(try have c15b2 : (9223372036854775807 < ((((⟨#[120,45,91]⟩ : ByteArray) ++ t379) ++ (⟨#[45]⟩ : ByteArray)) ++ t380).size + 1) = False:=eq_false (Nat.not_lt.2 c15));(replace H:=Option.bind_eq_some_iff.mp H);(obtain ⟨⟨t381,t384,t385⟩,A160,H⟩:=H);(replace H : (if (wrap64 ((Int.tmod (wrap64 (a1)) 300) + 1)) > 256 then (if (t384 == 5 && (t385 == 0)) = true then (if (t381.length : Int) = 0 then ((marlinspikelaw05_alive.f kj7).bind fun t387 => (some t387)) else (some false)) else (some false)) else (if (!(t384 == 0) || (!(t385 == 0))) = true then (marlinspikelaw05_HostSpan.j2 kj7 (Int.tmod (wrap64 (a0)) 900000) x9_7 t381 true) else (marlinspikelaw05_HostSpan.j2 kj7 (Int.tmod (wrap64 (a0)) 900000) x9_7 t381 ((t381.length : Int) != (wrap64 ((Int.tmod (wrap64 (a1)) 300) + 1)))))) = some r:=H);(have A16:=Aside0.mk A160);(clear A160);(by_cases c17 : (wrap64 ((Int.tmod (wrap64 (a1)) 300) + 1)) > 256)
         ·(rw [if_pos c17] at H);(have c17b0 : decide (256 < (wrap64 ((Int.tmod (wrap64 (a1)) 300) + 1))) = true:=decide_eq_true c17);(clear c17);(by_cases c18 : (t384 == 5 && (t385 == 0)) = true)
          ·(rw [if_pos c18] at H);(have c18b0 : (t384 == 5 && (t385 == 0)) = true:=c18);((try (have c18b1 : decide (t384 = 5 && (t385 == 0)) = true:=by simpa using c18)));((try (have c18b2 : (t384 == 5 && (t385 == 0)) = true:=by simpa using c18)));(clear c18);(by_cases c19 : (t381.length : Int) = 0)
           ·(rw [if_pos c19] at H);(have c19b0 : ((t381.length : Int) == 0) = true:=beq_iff_eq.mpr c19);(have c19b1 : ((t381.length : Int) != 0) = false:=bne_eq_false_iff_eq.mpr c19);(clear c19);(replace H:=Option.bind_eq_some_iff.mp H);(obtain ⟨t387,A200,H⟩:=H);(replace H : (some t387) = some r:=H);(have A20:=Aside0.mk A200);(clear A200);(obtain rfl:=Option.some.inj H);(go_wp2_with (first|((with_reducible refine gate_callee (f:=14) rfl ?_);refine goesL_ (some 42) rfl rfl Tryd.func14 (by kernel_rfl) rfl #[.int .i64 (Int.tmod (wrap64 (a0)) 900000),.int .i64 x9_7] rfl (by (try simp only [List.map_toArray,List.map_cons,List.map_nil]);first|done|rfl|(simp only [List.length_drop,List.length_take];rfl)) ?_;(with_reducible refine (marlinspikeref05_Digits.calls kj7 (Int.tmod (wrap64 (a0)) 900000) x9_7 t379 _ A10.out).mono ?_);rintro e w21 ⟨rfl,hb⟩;refine ⟨_,rfl,?_⟩;have n0_:=Aside0.mk (below_step (by repeat (first|(with_reducible first|exact HB.out|apply below_alloc|apply pw_below_drewN|apply below_drew1)|exact HB.out)) hb);clear HB;have HB:=n0_;clear n0_;(try clear hb);(try clear hb2);(try clear hk);(try clear hi))|((with_reducible refine gate_callee (f:=14) rfl ?_);refine goesL_ (some 48) rfl rfl Tryd.func14 (by kernel_rfl) rfl #[.int .i64 (wrap64 ((Int.tmod (wrap64 (a0)) 900000) + (Int.tmod (wrap64 (a1)) 300))),.int .i64 0] rfl (by (try simp only [List.map_toArray,List.map_cons,List.map_nil]);first|done|rfl|(simp only [List.length_drop,List.length_take];rfl)) ?_;(with_reducible refine (marlinspikeref05_Digits.calls kj7 (wrap64 ((Int.tmod (wrap64 (a0)) 900000) + (Int.tmod (wrap64 (a1)) 300))) 0 t380 _ A13.out).mono ?_);rintro e w22 ⟨rfl,hb⟩;refine ⟨_,rfl,?_⟩;have n0_:=Aside0.mk (below_step (by repeat (first|(with_reducible first|exact HB.out|apply below_alloc|apply pw_below_drewN|apply below_drew1)|exact HB.out)) hb);clear HB;have HB:=n0_;clear n0_;(try clear hb);(try clear hb2);(try clear hk);(try clear hi))|((with_reducible refine gate_callee (f:=11) rfl ?_);refine goesL_ (some 51) rfl rfl Tryd.func11 (by kernel_rfl) rfl #[.string (((((⟨#[120,45,91]⟩ : ByteArray) ++ t379) ++ (⟨#[45]⟩ : ByteArray)) ++ t380) ++ (⟨#[93]⟩ : ByteArray))] rfl (by (try simp only [List.map_toArray,List.map_cons,List.map_nil]);first|done|rfl|(simp only [List.length_drop,List.length_take];rfl)) ?_;(with_reducible refine (host_Expand.calls kj7 (((((⟨#[120,45,91]⟩ : ByteArray) ++ t379) ++ (⟨#[45]⟩ : ByteArray)) ++ t380) ++ (⟨#[93]⟩ : ByteArray)) t381 t384 t385 _ A16.out (HG_.out.below (by repeat (first|(with_reducible first|exact HB.out|apply below_alloc|apply pw_below_drewN|apply below_drew1)|exact HB.out)))).mono ?_);rintro e w23 ⟨v382,rfl,ho0,hb⟩;refine ⟨_,rfl,?_⟩;have n0_:=Aside0.mk (Kd.R_lower ho0 (below_size (by repeat (first|(with_reducible first|exact HB.out|apply below_alloc|apply pw_below_drewN|apply below_drew1)|exact HB.out))));have n1_:=Aside0.mk (below_step (by repeat (first|(with_reducible first|exact HB.out|apply below_alloc|apply pw_below_drewN|apply below_drew1)|exact HB.out)) hb);clear HB;have HO383:=n0_;have HB:=n1_;clear n0_ n1_;(try clear hb);(try clear hb2);(try clear hk);(try clear hi);(try clear ho0))|((with_reducible refine gate_dst (N:=13) rfl ?_);(try (refine gate_guard (by rfl) ?_;dsimp only));refine box_event ?hg (N:=13) ?hd (cs:=#[.int .i64 0,.int .i64 0]) (t:=27) ?hr ?_;(case hd => rfl);(case hg => rfl);(case hr => first|(go_simp;done)|(go_simp;rfl));intro gb386 hg w24 hbox hb;have n0_:=Aside0.mk (Kd.R_below (by (with_reducible repeat (first|apply Kd.R_alloc|apply Kd.R_drewN|apply Kd.R_drew));exact HO383.out) hb);have n1_:=Aside0.mk (below_step (by repeat (first|(with_reducible first|exact HB.out|apply below_alloc|apply pw_below_drewN|apply below_drew1)|exact HB.out)) hb);have n2_:=Aside0.mk (hbox);have n3_:=Aside0.mk ((by rw [hg];exact (below_size (by repeat (first|(with_reducible first|exact HB.out|apply below_alloc|apply pw_below_drewN|apply below_drew1)|exact HB.out))) : w.heap.size ≤ gb386));have n4_:=Aside0.mk ((by rw [hg];exact (below_size (by repeat (first|(with_reducible first|exact HB.out|apply below_alloc|apply pw_below_drewN|apply below_drew1)|exact HB.out))) : w.heap.size ≤ gb386));clear HO383;clear HB;have HO383:=n0_;have HB:=n1_;have BK386:=n2_;have GW386:=n3_;have GE386:=n4_;clear n0_ n1_ n2_ n3_ n4_;clear hb hbox hg;have hcz25_0 : w24.cell? ⟨gb386,0,none⟩ = some (.int .i64 0):=(blk_cell BK386.out 0).trans rfl;have hcz25_1 : w24.cell? ⟨gb386,1,none⟩ = some (.int .i64 0):=(blk_cell BK386.out 1).trans rfl;have hfz25_0:=blk_frozen BK386.out 0;have hfz25_1:=blk_frozen BK386.out 1;obtain ⟨Ao26,co26,eo26⟩:=Kd.R_slice HO383.out;subst eo26)|(go_at_call 9;(with_reducible refine (marlinspikelaw05_alive.calls kj7  t387 _ A20.out (HG_.out.below (by repeat (first|(with_reducible first|exact HB.out|apply below_alloc|apply pw_below_drewN|apply below_drew1|refine below_set ?_ GE386.out)|exact HB.out)))).mono ?_);rintro e w27 ⟨rfl,hb⟩;have n0_:=Aside0.mk (Kd.R_below (by (with_reducible repeat (first|apply Kd.R_alloc|apply Kd.R_drewN|apply Kd.R_drew));exact (Kd.R_mono (Kd.R_far (p:=⟨gb386,1,none⟩) (Kd.R_far (p:=⟨gb386,0,none⟩) (Kd.R_types HO383.out BK386.out (by decide)) (fun _ hk => hk.2) (.int .i64 t384)) (fun _ hk => hk.2) (.int .i64 t385)) (fun _ h_ => h_.1))) hb);have n1_:=Aside0.mk (blk_below (g:=gb386) (o:=.cells #[.int .i64 t384,.int .i64 t385] 27 (0,0)) (by (with_reducible repeat (first|refine blk_drewN ?_ _|refine blk_drew ?_|refine blk_alloc ?_ _));refine blk_put (cs:=#[.int .i64 t384,.int .i64 0]) ?_ 1 _ rfl;(with_reducible repeat (first|refine blk_drewN ?_ _|refine blk_drew ?_|refine blk_alloc ?_ _));refine blk_put (cs:=#[.int .i64 0,.int .i64 0]) ?_ 0 _ rfl;(with_reducible repeat (first|refine blk_drewN ?_ _|refine blk_drew ?_|refine blk_alloc ?_ _));exact BK386.out) hb);have n2_:=Aside0.mk (below_step (by repeat (first|(with_reducible first|exact HB.out|apply below_alloc|apply pw_below_drewN|apply below_drew1|refine below_set ?_ GE386.out)|exact HB.out)) hb);clear HO383;clear BK386;clear HB;have HO383:=n0_;have BK386:=n1_;have HB:=n2_;clear n0_ n1_ n2_;(try clear hb);(try clear hb2);(try clear hk);(try clear hi))));(go_ret);(exact ⟨by first|rfl|(simp [errW_none,errW_some] <;> rfl)|(simp [*,errW_none,errW_some] <;> rfl),by repeat (first|(with_reducible first|exact HB.out|apply below_alloc|apply pw_below_drewN|apply below_drew1|refine below_set ?_ GE386.out)|exact HB.out)⟩)
           ·(rw [if_neg c19] at H);(have c19b0 : ((t381.length : Int) == 0) = false:=beq_eq_false_iff_ne.mpr c19);(have c19b1 : ((t381.length : Int) != 0) = true:=bne_iff_ne.mpr c19);(have c19b2 : ¬ (t381 = []):=fun h_ => c19 (by rw [h_];rfl));(obtain rfl:=Option.some.inj H);(go_wp2_with (first|((with_reducible refine gate_callee (f:=14) rfl ?_);refine goesL_ (some 42) rfl rfl Tryd.func14 (by kernel_rfl) rfl #[.int .i64 (Int.tmod (wrap64 (a0)) 900000),.int .i64 x9_7] rfl (by (try simp only [List.map_toArray,List.map_cons,List.map_nil]);first|done|rfl|(simp only [List.length_drop,List.length_take];rfl)) ?_;(with_reducible refine (marlinspikeref05_Digits.calls kj7 (Int.tmod (wrap64 (a0)) 900000) x9_7 t379 _ A10.out).mono ?_);rintro e w28 ⟨rfl,hb⟩;refine ⟨_,rfl,?_⟩;have n0_:=Aside0.mk (below_step (by repeat (first|(with_reducible first|exact HB.out|apply below_alloc|apply pw_below_drewN|apply below_drew1)|exact HB.out)) hb);clear HB;have HB:=n0_;clear n0_;(try clear hb);(try clear hb2);(try clear hk);(try clear hi))|((with_reducible refine gate_callee (f:=14) rfl ?_);refine goesL_ (some 48) rfl rfl Tryd.func14 (by kernel_rfl) rfl #[.int .i64 (wrap64 ((Int.tmod (wrap64 (a0)) 900000) + (Int.tmod (wrap64 (a1)) 300))),.int .i64 0] rfl (by (try simp only [List.map_toArray,List.map_cons,List.map_nil]);first|done|rfl|(simp only [List.length_drop,List.length_take];rfl)) ?_;(with_reducible refine (marlinspikeref05_Digits.calls kj7 (wrap64 ((Int.tmod (wrap64 (a0)) 900000) + (Int.tmod (wrap64 (a1)) 300))) 0 t380 _ A13.out).mono ?_);rintro e w29 ⟨rfl,hb⟩;refine ⟨_,rfl,?_⟩;have n0_:=Aside0.mk (below_step (by repeat (first|(with_reducible first|exact HB.out|apply below_alloc|apply pw_below_drewN|apply below_drew1)|exact HB.out)) hb);clear HB;have HB:=n0_;clear n0_;(try clear hb);(try clear hb2);(try clear hk);(try clear hi))|((with_reducible refine gate_callee (f:=11) rfl ?_);refine goesL_ (some 51) rfl rfl Tryd.func11 (by kernel_rfl) rfl #[.string (((((⟨#[120,45,91]⟩ : ByteArray) ++ t379) ++ (⟨#[45]⟩ : ByteArray)) ++ t380) ++ (⟨#[93]⟩ : ByteArray))] rfl (by (try simp only [List.map_toArray,List.map_cons,List.map_nil]);first|done|rfl|(simp only [List.length_drop,List.length_take];rfl)) ?_;(with_reducible refine (host_Expand.calls kj7 (((((⟨#[120,45,91]⟩ : ByteArray) ++ t379) ++ (⟨#[45]⟩ : ByteArray)) ++ t380) ++ (⟨#[93]⟩ : ByteArray)) t381 t384 t385 _ A16.out (HG_.out.below (by repeat (first|(with_reducible first|exact HB.out|apply below_alloc|apply pw_below_drewN|apply below_drew1)|exact HB.out)))).mono ?_);rintro e w30 ⟨v382,rfl,ho0,hb⟩;refine ⟨_,rfl,?_⟩;have n0_:=Aside0.mk (Kd.R_lower ho0 (below_size (by repeat (first|(with_reducible first|exact HB.out|apply below_alloc|apply pw_below_drewN|apply below_drew1)|exact HB.out))));have n1_:=Aside0.mk (below_step (by repeat (first|(with_reducible first|exact HB.out|apply below_alloc|apply pw_below_drewN|apply below_drew1)|exact HB.out)) hb);clear HB;have HO383:=n0_;have HB:=n1_;clear n0_ n1_;(try clear hb);(try clear hb2);(try clear hk);(try clear hi);(try clear ho0))|((with_reducible refine gate_dst (N:=13) rfl ?_);(try (refine gate_guard (by rfl) ?_;dsimp only));refine box_event ?hg (N:=13) ?hd (cs:=#[.int .i64 0,.int .i64 0]) (t:=27) ?hr ?_;(case hd => rfl);(case hg => rfl);(case hr => first|(go_simp;done)|(go_simp;rfl));intro gb386 hg w31 hbox hb;have n0_:=Aside0.mk (Kd.R_below (by (with_reducible repeat (first|apply Kd.R_alloc|apply Kd.R_drewN|apply Kd.R_drew));exact HO383.out) hb);have n1_:=Aside0.mk (below_step (by repeat (first|(with_reducible first|exact HB.out|apply below_alloc|apply pw_below_drewN|apply below_drew1)|exact HB.out)) hb);have n2_:=Aside0.mk (hbox);have n3_:=Aside0.mk ((by rw [hg];exact (below_size (by repeat (first|(with_reducible first|exact HB.out|apply below_alloc|apply pw_below_drewN|apply below_drew1)|exact HB.out))) : w.heap.size ≤ gb386));have n4_:=Aside0.mk ((by rw [hg];exact (below_size (by repeat (first|(with_reducible first|exact HB.out|apply below_alloc|apply pw_below_drewN|apply below_drew1)|exact HB.out))) : w.heap.size ≤ gb386));clear HO383;clear HB;have HO383:=n0_;have HB:=n1_;have BK386:=n2_;have GW386:=n3_;have GE386:=n4_;clear n0_ n1_ n2_ n3_ n4_;clear hb hbox hg;have hcz32_0 : w31.cell? ⟨gb386,0,none⟩ = some (.int .i64 0):=(blk_cell BK386.out 0).trans rfl;have hcz32_1 : w31.cell? ⟨gb386,1,none⟩ = some (.int .i64 0):=(blk_cell BK386.out 1).trans rfl;have hfz32_0:=blk_frozen BK386.out 0;have hfz32_1:=blk_frozen BK386.out 1;obtain ⟨Ao33,co33,eo33⟩:=Kd.R_slice HO383.out;subst eo33)));(go_ret);(exact ⟨by first|rfl|(simp [errW_none,errW_some] <;> rfl)|(simp [*,errW_none,errW_some] <;> rfl),by repeat (first|(with_reducible first|exact HB.out|apply below_alloc|apply pw_below_drewN|apply below_drew1|refine below_set ?_ GE386.out)|exact HB.out)⟩)
          ·(rw [if_neg c18] at H);(have c18b0 : (t384 == 5 && (t385 == 0)) = false:=by simpa using c18);((try (have c18b1 : decide (t384 = 5 && (t385 == 0)) = false:=by simpa using c18)));((try (have c18b2 : (t384 == 5 && (t385 == 0)) = false:=by simpa using c18)));((try (have c18b3 : ¬ (t384 = 5 && (t385 == 0)):=by simpa using c18)));(clear c18);(obtain rfl:=Option.some.inj H);(go_wp2_with (first|((with_reducible refine gate_callee (f:=14) rfl ?_);refine goesL_ (some 42) rfl rfl Tryd.func14 (by kernel_rfl) rfl #[.int .i64 (Int.tmod (wrap64 (a0)) 900000),.int .i64 x9_7] rfl (by (try simp only [List.map_toArray,List.map_cons,List.map_nil]);first|done|rfl|(simp only [List.length_drop,List.length_take];rfl)) ?_;(with_reducible refine (marlinspikeref05_Digits.calls kj7 (Int.tmod (wrap64 (a0)) 900000) x9_7 t379 _ A10.out).mono ?_);rintro e w34 ⟨rfl,hb⟩;refine ⟨_,rfl,?_⟩;have n0_:=Aside0.mk (below_step (by repeat (first|(with_reducible first|exact HB.out|apply below_alloc|apply pw_below_drewN|apply below_drew1)|exact HB.out)) hb);clear HB;have HB:=n0_;clear n0_;(try clear hb);(try clear hb2);(try clear hk);(try clear hi))|((with_reducible refine gate_callee (f:=14) rfl ?_);refine goesL_ (some 48) rfl rfl Tryd.func14 (by kernel_rfl) rfl #[.int .i64 (wrap64 ((Int.tmod (wrap64 (a0)) 900000) + (Int.tmod (wrap64 (a1)) 300))),.int .i64 0] rfl (by (try simp only [List.map_toArray,List.map_cons,List.map_nil]);first|done|rfl|(simp only [List.length_drop,List.length_take];rfl)) ?_;(with_reducible refine (marlinspikeref05_Digits.calls kj7 (wrap64 ((Int.tmod (wrap64 (a0)) 900000) + (Int.tmod (wrap64 (a1)) 300))) 0 t380 _ A13.out).mono ?_);rintro e w35 ⟨rfl,hb⟩;refine ⟨_,rfl,?_⟩;have n0_:=Aside0.mk (below_step (by repeat (first|(with_reducible first|exact HB.out|apply below_alloc|apply pw_below_drewN|apply below_drew1)|exact HB.out)) hb);clear HB;have HB:=n0_;clear n0_;(try clear hb);(try clear hb2);(try clear hk);(try clear hi))|((with_reducible refine gate_callee (f:=11) rfl ?_);refine goesL_ (some 51) rfl rfl Tryd.func11 (by kernel_rfl) rfl #[.string (((((⟨#[120,45,91]⟩ : ByteArray) ++ t379) ++ (⟨#[45]⟩ : ByteArray)) ++ t380) ++ (⟨#[93]⟩ : ByteArray))] rfl (by (try simp only [List.map_toArray,List.map_cons,List.map_nil]);first|done|rfl|(simp only [List.length_drop,List.length_take];rfl)) ?_;(with_reducible refine (host_Expand.calls kj7 (((((⟨#[120,45,91]⟩ : ByteArray) ++ t379) ++ (⟨#[45]⟩ : ByteArray)) ++ t380) ++ (⟨#[93]⟩ : ByteArray)) t381 t384 t385 _ A16.out (HG_.out.below (by repeat (first|(with_reducible first|exact HB.out|apply below_alloc|apply pw_below_drewN|apply below_drew1)|exact HB.out)))).mono ?_);rintro e w36 ⟨v382,rfl,ho0,hb⟩;refine ⟨_,rfl,?_⟩;have n0_:=Aside0.mk (Kd.R_lower ho0 (below_size (by repeat (first|(with_reducible first|exact HB.out|apply below_alloc|apply pw_below_drewN|apply below_drew1)|exact HB.out))));have n1_:=Aside0.mk (below_step (by repeat (first|(with_reducible first|exact HB.out|apply below_alloc|apply pw_below_drewN|apply below_drew1)|exact HB.out)) hb);clear HB;have HO383:=n0_;have HB:=n1_;clear n0_ n1_;(try clear hb);(try clear hb2);(try clear hk);(try clear hi);(try clear ho0))|((with_reducible refine gate_dst (N:=13) rfl ?_);(try (refine gate_guard (by rfl) ?_;dsimp only));refine box_event ?hg (N:=13) ?hd (cs:=#[.int .i64 0,.int .i64 0]) (t:=27) ?hr ?_;(case hd => rfl);(case hg => rfl);(case hr => first|(go_simp;done)|(go_simp;rfl));intro gb386 hg w37 hbox hb;have n0_:=Aside0.mk (Kd.R_below (by (with_reducible repeat (first|apply Kd.R_alloc|apply Kd.R_drewN|apply Kd.R_drew));exact HO383.out) hb);have n1_:=Aside0.mk (below_step (by repeat (first|(with_reducible first|exact HB.out|apply below_alloc|apply pw_below_drewN|apply below_drew1)|exact HB.out)) hb);have n2_:=Aside0.mk (hbox);have n3_:=Aside0.mk ((by rw [hg];exact (below_size (by repeat (first|(with_reducible first|exact HB.out|apply below_alloc|apply pw_below_drewN|apply below_drew1)|exact HB.out))) : w.heap.size ≤ gb386));have n4_:=Aside0.mk ((by rw [hg];exact (below_size (by repeat (first|(with_reducible first|exact HB.out|apply below_alloc|apply pw_below_drewN|apply below_drew1)|exact HB.out))) : w.heap.size ≤ gb386));clear HO383;clear HB;have HO383:=n0_;have HB:=n1_;have BK386:=n2_;have GW386:=n3_;have GE386:=n4_;clear n0_ n1_ n2_ n3_ n4_;clear hb hbox hg;have hcz38_0 : w37.cell? ⟨gb386,0,none⟩ = some (.int .i64 0):=(blk_cell BK386.out 0).trans rfl;have hcz38_1 : w37.cell? ⟨gb386,1,none⟩ = some (.int .i64 0):=(blk_cell BK386.out 1).trans rfl;have hfz38_0:=blk_frozen BK386.out 0;have hfz38_1:=blk_frozen BK386.out 1)));(go_ret);(exact ⟨by first|rfl|(simp [errW_none,errW_some] <;> rfl)|(simp [*,errW_none,errW_some] <;> rfl),by repeat (first|(with_reducible first|exact HB.out|apply below_alloc|apply pw_below_drewN|apply below_drew1|refine below_set ?_ GE386.out)|exact HB.out)⟩)
         ·(rw [if_neg c17] at H);(have c17b0 : decide (256 < (wrap64 ((Int.tmod (wrap64 (a1)) 300) + 1))) = false:=decide_eq_false c17);(clear c17);(have HC39:=Aside0.mk H);(clear H);(go_upto_region 10 with (first|((with_reducible refine gate_callee (f:=14) rfl ?_);refine goesL_ (some 42) rfl rfl Tryd.func14 (by kernel_rfl) rfl #[.int .i64 (Int.tmod (wrap64 (a0)) 900000),.int .i64 x9_7] rfl (by (try simp only [List.map_toArray,List.map_cons,List.map_nil]);first|done|rfl|(simp only [List.length_drop,List.length_take];rfl)) ?_;(with_reducible refine (marlinspikeref05_Digits.calls kj7 (Int.tmod (wrap64 (a0)) 900000) x9_7 t379 _ A10.out).mono ?_);rintro e w40 ⟨rfl,hb⟩;refine ⟨_,rfl,?_⟩;have n0_:=Aside0.mk (below_step (by repeat (first|(with_reducible first|exact HB.out|apply below_alloc|apply pw_below_drewN|apply below_drew1)|exact HB.out)) hb);clear HB;have HB:=n0_;clear n0_;(try clear hb);(try clear hb2);(try clear hk);(try clear hi))|((with_reducible refine gate_callee (f:=14) rfl ?_);refine goesL_ (some 48) rfl rfl Tryd.func14 (by kernel_rfl) rfl #[.int .i64 (wrap64 ((Int.tmod (wrap64 (a0)) 900000) + (Int.tmod (wrap64 (a1)) 300))),.int .i64 0] rfl (by (try simp only [List.map_toArray,List.map_cons,List.map_nil]);first|done|rfl|(simp only [List.length_drop,List.length_take];rfl)) ?_;(with_reducible refine (marlinspikeref05_Digits.calls kj7 (wrap64 ((Int.tmod (wrap64 (a0)) 900000) + (Int.tmod (wrap64 (a1)) 300))) 0 t380 _ A13.out).mono ?_);rintro e w41 ⟨rfl,hb⟩;refine ⟨_,rfl,?_⟩;have n0_:=Aside0.mk (below_step (by repeat (first|(with_reducible first|exact HB.out|apply below_alloc|apply pw_below_drewN|apply below_drew1)|exact HB.out)) hb);clear HB;have HB:=n0_;clear n0_;(try clear hb);(try clear hb2);(try clear hk);(try clear hi))|((with_reducible refine gate_callee (f:=11) rfl ?_);refine goesL_ (some 51) rfl rfl Tryd.func11 (by kernel_rfl) rfl #[.string (((((⟨#[120,45,91]⟩ : ByteArray) ++ t379) ++ (⟨#[45]⟩ : ByteArray)) ++ t380) ++ (⟨#[93]⟩ : ByteArray))] rfl (by (try simp only [List.map_toArray,List.map_cons,List.map_nil]);first|done|rfl|(simp only [List.length_drop,List.length_take];rfl)) ?_;(with_reducible refine (host_Expand.calls kj7 (((((⟨#[120,45,91]⟩ : ByteArray) ++ t379) ++ (⟨#[45]⟩ : ByteArray)) ++ t380) ++ (⟨#[93]⟩ : ByteArray)) t381 t384 t385 _ A16.out (HG_.out.below (by repeat (first|(with_reducible first|exact HB.out|apply below_alloc|apply pw_below_drewN|apply below_drew1)|exact HB.out)))).mono ?_);rintro e w42 ⟨v382,rfl,ho0,hb⟩;refine ⟨_,rfl,?_⟩;have n0_:=Aside0.mk (Kd.R_lower ho0 (below_size (by repeat (first|(with_reducible first|exact HB.out|apply below_alloc|apply pw_below_drewN|apply below_drew1)|exact HB.out))));have n1_:=Aside0.mk (below_step (by repeat (first|(with_reducible first|exact HB.out|apply below_alloc|apply pw_below_drewN|apply below_drew1)|exact HB.out)) hb);clear HB;have HO383:=n0_;have HB:=n1_;clear n0_ n1_;(try clear hb);(try clear hb2);(try clear hk);(try clear hi);(try clear ho0))|((with_reducible refine gate_dst (N:=13) rfl ?_);(try (refine gate_guard (by rfl) ?_;dsimp only));refine box_event ?hg (N:=13) ?hd (cs:=#[.int .i64 0,.int .i64 0]) (t:=27) ?hr ?_;(case hd => rfl);(case hg => rfl);(case hr => first|(go_simp;done)|(go_simp;rfl));intro gb386 hg w43 hbox hb;have n0_:=Aside0.mk (Kd.R_below (by (with_reducible repeat (first|apply Kd.R_alloc|apply Kd.R_drewN|apply Kd.R_drew));exact HO383.out) hb);have n1_:=Aside0.mk (below_step (by repeat (first|(with_reducible first|exact HB.out|apply below_alloc|apply pw_below_drewN|apply below_drew1)|exact HB.out)) hb);have n2_:=Aside0.mk (hbox);have n3_:=Aside0.mk ((by rw [hg];exact (below_size (by repeat (first|(with_reducible first|exact HB.out|apply below_alloc|apply pw_below_drewN|apply below_drew1)|exact HB.out))) : w.heap.size ≤ gb386));have n4_:=Aside0.mk ((by rw [hg];exact (below_size (by repeat (first|(with_reducible first|exact HB.out|apply below_alloc|apply pw_below_drewN|apply below_drew1)|exact HB.out))) : w.heap.size ≤ gb386));clear HO383;clear HB;have HO383:=n0_;have HB:=n1_;have BK386:=n2_;have GW386:=n3_;have GE386:=n4_;clear n0_ n1_ n2_ n3_ n4_;clear hb hbox hg;have hcz44_0 : w43.cell? ⟨gb386,0,none⟩ = some (.int .i64 0):=(blk_cell BK386.out 0).trans rfl;have hcz44_1 : w43.cell? ⟨gb386,1,none⟩ = some (.int .i64 0):=(blk_cell BK386.out 1).trans rfl;have hfz44_0:=blk_frozen BK386.out 0;have hfz44_1:=blk_frozen BK386.out 1)));((try simp only [Act.put,List.setIfInBounds_toArray,List.set_cons_zero,List.set_cons_succ]));(go_cut [77] (fun v77 wc => ∃ (kq : Nat) (x77_38 : Bool),v77 = .bool x77_38∧Aside0 (marlinspikelaw05_HostSpan.j2 kq (Int.tmod (wrap64 (a0)) 900000) x9_7 t381 x77_38 = some r)∧Aside0 (kq ≤ kj7)∧Aside0 (Kd.R Kd.string 9 wc w.heap.size (fun _ => True) v382 t381)∧Aside0 (wc.heap[gb386]? = some (.cells #[.int .i64 t384,.int .i64 t385] 27 (0,0)))∧Aside0 (Below w.heap.size w wc)))
          case first =>
           (have H:=HC39.out);(clear HC39);(by_cases c45 : (!(t384 == 0) || (!(t385 == 0))) = true)
           ·(rw [if_pos c45] at H);(have c45b0 : (!(t384 == 0) || (!(t385 == 0))) = true:=c45);(clear c45);((first|rw [c45b0]|(simp only [i64_w,i32_w];rw [c45b0])|skip));(have H':=Aside0.mk H);(clear H);(have hcz46_0 : w43.cell? ⟨gb386,0,none⟩ = some (.int .i64 0):=(blk_cell BK386.out 0).trans rfl);(have hcz46_1 : w43.cell? ⟨gb386,1,none⟩ = some (.int .i64 0):=(blk_cell BK386.out 1).trans rfl);(have hfz46_0:=blk_frozen BK386.out 0);(have hfz46_1:=blk_frozen BK386.out 1);(go_wp2);(go_meet)
            case rel => exact ⟨_,(true),(by first|rfl|(simp;done)|(simp [*];done)),H',⟨by have:=HJ4.out;have:=HJ7.out;first|omega|exact Nat.le_refl _⟩,⟨by (with_reducible repeat (first|apply Kd.R_alloc|apply Kd.R_drewN|apply Kd.R_drew));exact Kd.R_mono (Kd.R_far (p:=⟨gb386,1,none⟩) (Kd.R_far (p:=⟨gb386,0,none⟩) (Kd.R_types HO383.out BK386.out (by decide)) (fun _ hk => hk.2) (.int .i64 t384)) (fun _ hk => hk.2) (.int .i64 t385)) (fun _ hk => trivial)⟩,⟨by (with_reducible repeat (first|refine blk_drewN ?_ _|refine blk_drew ?_|refine blk_alloc ?_ _));refine blk_put (cs:=#[.int .i64 t384,.int .i64 0]) ?_ 1 _ rfl;(with_reducible repeat (first|refine blk_drewN ?_ _|refine blk_drew ?_|refine blk_alloc ?_ _));refine blk_put (cs:=#[.int .i64 0,.int .i64 0]) ?_ 0 _ rfl;(with_reducible repeat (first|refine blk_drewN ?_ _|refine blk_drew ?_|refine blk_alloc ?_ _));exact BK386.out⟩,⟨by repeat (first|(with_reducible first|exact HB.out|apply below_alloc|apply pw_below_drewN|apply below_drew1|refine below_set ?_ GE386.out)|exact HB.out)⟩⟩
           ·(rw [if_neg c45] at H);(have c45b0 : (!(t384 == 0) || (!(t385 == 0))) = false:=by simpa using c45);(clear c45);((first|rw [c45b0]|(simp only [i64_w,i32_w];rw [c45b0])|skip));(have H':=Aside0.mk H);(clear H);(have hcz47_0 : w43.cell? ⟨gb386,0,none⟩ = some (.int .i64 0):=(blk_cell BK386.out 0).trans rfl);(have hcz47_1 : w43.cell? ⟨gb386,1,none⟩ = some (.int .i64 0):=(blk_cell BK386.out 1).trans rfl);(have hfz47_0:=blk_frozen BK386.out 0);(have hfz47_1:=blk_frozen BK386.out 1);(obtain ⟨Ao48,co48,eo48⟩:=Kd.R_slice HO383.out);(subst eo48);(go_wp2);(go_meet)
            case rel => exact ⟨_,(((t381.length : Int) != (wrap64 ((Int.tmod (wrap64 (a1)) 300) + 1)))),(by first|rfl|(simp;done)|(simp [*];done)),H',⟨by have:=HJ4.out;have:=HJ7.out;first|omega|exact Nat.le_refl _⟩,⟨by (with_reducible repeat (first|apply Kd.R_alloc|apply Kd.R_drewN|apply Kd.R_drew));exact Kd.R_mono (Kd.R_far (p:=⟨gb386,1,none⟩) (Kd.R_far (p:=⟨gb386,0,none⟩) (Kd.R_types HO383.out BK386.out (by decide)) (fun _ hk => hk.2) (.int .i64 t384)) (fun _ hk => hk.2) (.int .i64 t385)) (fun _ hk => trivial)⟩,⟨by (with_reducible repeat (first|refine blk_drewN ?_ _|refine blk_drew ?_|refine blk_alloc ?_ _));refine blk_put (cs:=#[.int .i64 t384,.int .i64 0]) ?_ 1 _ rfl;(with_reducible repeat (first|refine blk_drewN ?_ _|refine blk_drew ?_|refine blk_alloc ?_ _));refine blk_put (cs:=#[.int .i64 0,.int .i64 0]) ?_ 0 _ rfl;(with_reducible repeat (first|refine blk_drewN ?_ _|refine blk_drew ?_|refine blk_alloc ?_ _));exact BK386.out⟩,⟨by repeat (first|(with_reducible first|exact HB.out|apply below_alloc|apply pw_below_drewN|apply below_drew1|refine below_set ?_ GE386.out)|exact HB.out)⟩⟩
          case rest =>
           (clear HC39);(try clear c1);(try clear p2);(try clear c4);(try clear c5);(try clear p6);(try clear c7);(try clear c7b0);(try clear c9);(try clear c11);(try clear c11b0);(try clear c11b1);(try clear c11b2);(try clear c12);(try clear c12b0);(try clear c12b1);(try clear c12b2);(try clear c14);(try clear c14b0);(try clear c14b1);(try clear c14b2);(try clear c15);(try clear c15b0);(try clear c15b1);(try clear c15b2);(try clear c17);(try clear c17b0);(try clear c18);(try clear c18b0);(try clear c18b1);(try clear c18b2);(try clear c19);(try clear c19b0);(try clear c19b1);(try clear c19b2);(try clear c45);(try clear c45b0);(try clear hcz25_0);(try clear hcz25_1);(try clear hcz32_0);(try clear hcz32_1);(try clear hcz38_0);(try clear hcz38_1);(try clear hcz44_0);(try clear hcz44_1);(try clear hcz46_0);(try clear hcz46_1);(try clear hcz47_0);(try clear hcz47_1);(try clear hfz25_0);(try clear hfz25_1);(try clear hfz32_0);(try clear hfz32_1);(try clear hfz38_0);(try clear hfz38_1);(try clear hfz44_0);(try clear hfz44_1);(try clear hfz46_0);(try clear hfz46_1);(try clear hfz47_0);(try clear hfz47_1);(try clear p2);(try clear p6);(obtain ⟨kq,x77_38,rfl,HA,HJ38,HO_12,BK386,HB⟩:=hcut)
           cases kq with
          |zero => exact absurd HA.out (by simp [marlinspikelaw05_HostSpan.j2])
          |succ kj38 =>
            (have H:=HA.out);(clear HA);(simp only [marlinspikelaw05_HostSpan.j2] at H);(by_cases c49 : x77_38 = true);·(subst c49);(have H1 : (some false) = some r:=by rw [if_pos rfl] at H;exact H);(clear H);(have H:=H1);(clear H1);(obtain rfl:=Option.some.inj H);(go_wp2);(go_ret);(exact ⟨by first|rfl|(simp [errW_none,errW_some] <;> rfl)|(simp [*,errW_none,errW_some] <;> rfl),by repeat (first|(with_reducible first|exact HB.out|apply below_alloc|apply pw_below_drewN|apply below_drew1|refine below_set ?_ GE386.out)|exact HB.out)⟩)
            ·(replace c49:=Bool.eq_false_iff.mpr c49);(subst c49);(have H1 : (marlinspikelaw05_HostSpan.l0 kj38 (Int.tmod (wrap64 (a0)) 900000) x9_7 t381 (t381.length : Int) 0) = some r:=by rw [if_neg (show ¬ (false = true) by decide)] at H;exact H);(clear H);(have H:=H1);(clear H1);(have H':=Aside0.mk H);(clear H);(obtain ⟨Ao50,co50,eo50⟩:=Kd.R_slice HO_12.out);(subst eo50);(go_wp2);(go_loopg [80] kj38 (fun kq v80 w' => ∃ (x80_4 : Int),v80 = .int .i64 x80_4∧Aside0 (marlinspikelaw05_HostSpan.l0 kq (Int.tmod (wrap64 (a0)) 900000) x9_7 t381 (t381.length : Int) x80_4 = some r)∧Aside0 (kq ≤ kj38)∧Aside0 (Kd.R Kd.string 9 w' w.heap.size (fun _ => True) (.slice Ao50 t381.length co50) t381)∧Aside0 (w'.heap[gb386]? = some (.cells #[.int .i64 t384,.int .i64 t385] 27 (0,0)))∧Aside0 (Below w.heap.size w w')))
             case atStart => exact ⟨(0),(by first|rfl|(simp;done)|(simp [*];done)),H',⟨Nat.le_refl _⟩,⟨by (with_reducible repeat (first|apply Kd.R_alloc|apply Kd.R_drewN|apply Kd.R_drew));exact HO_12.out⟩,⟨by (with_reducible repeat (first|refine blk_drewN ?_ _|refine blk_drew ?_|refine blk_alloc ?_ _));exact BK386.out⟩,⟨by repeat (first|(with_reducible first|exact HB.out|apply below_alloc|apply pw_below_drewN|apply below_drew1|refine below_set ?_ GE386.out)|exact HB.out)⟩⟩
             case round =>
              (clear H');(try clear c1);(try clear p2);(try clear c4);(try clear c5);(try clear p6);(try clear c7);(try clear c7b0);(try clear c9);(try clear c11);(try clear c11b0);(try clear c11b1);(try clear c11b2);(try clear c12);(try clear c12b0);(try clear c12b1);(try clear c12b2);(try clear c14);(try clear c14b0);(try clear c14b1);(try clear c14b2);(try clear c15);(try clear c15b0);(try clear c15b1);(try clear c15b2);(try clear c17);(try clear c17b0);(try clear c18);(try clear c18b0);(try clear c18b1);(try clear c18b2);(try clear c19);(try clear c19b0);(try clear c19b1);(try clear c19b2);(try clear c45);(try clear c45b0);(try clear c49);(try clear hcz25_0);(try clear hcz25_1);(try clear hcz32_0);(try clear hcz32_1);(try clear hcz38_0);(try clear hcz38_1);(try clear hcz44_0);(try clear hcz44_1);(try clear hcz46_0);(try clear hcz46_1);(try clear hcz47_0);(try clear hcz47_1);(try clear hfz25_0);(try clear hfz25_1);(try clear hfz32_0);(try clear hfz32_1);(try clear hfz38_0);(try clear hfz38_1);(try clear hfz44_0);(try clear hfz44_1);(try clear hfz46_0);(try clear hfz46_1);(try clear hfz47_0);(try clear hfz47_1);(try clear p2);(try clear p6);(obtain ⟨x80_4,rfl,HA,HK4,HO_78,BK386,HB⟩:=hrel)
              cases gk with
             |zero => exact absurd HA.out (by simp [marlinspikelaw05_HostSpan.l0])
             |succ k4 =>
               (have H:=HA.out);(clear HA);(simp only [marlinspikelaw05_HostSpan.l0] at H);(by_cases c51 : x80_4 < (t381.length : Int))
               ·(rw [if_pos c51] at H);(have c51b0 : decide (x80_4 < (t381.length : Int)) = true:=decide_eq_true c51);(clear c51);(by_cases c52 : 0 ≤ x80_4)
                ·(rw [if_pos c52] at H);(have c52b0 : decide (0 ≤ x80_4) = true:=decide_eq_true c52);(clear c52);(by_cases c53 : x80_4 < (t381.length : Int))
                 ·(rw [if_pos c53] at H);(have c53b0 : decide (x80_4 < (t381.length : Int)) = true:=decide_eq_true c53);(clear c53);(replace H:=Option.bind_eq_some_iff.mp H);(obtain ⟨t389,A540,H⟩:=H);(replace H : (if 2 + t389.size ≤ 9223372036854775807 then (if (rdOf ByteArray.empty t381 x80_4).toList = ((⟨#[120,45]⟩ : ByteArray) ++ t389).toList then (marlinspikelaw05_HostSpan.l0 k4 (Int.tmod (wrap64 (a0)) 900000) x9_7 t381 (t381.length : Int) (wrap64 (x80_4 + 1))) else (some false)) else (none)) = some r:=H);(have A54:=Aside0.mk A540);(clear A540);(by_cases c55 : 2 + t389.size ≤ 9223372036854775807)
                  ·(rw [if_pos c55] at H);(have c55b0:=eq_true c55);(have c55b1 : decide (2 + t389.size ≤ 9223372036854775807) = true:=decide_eq_true c55);(try have c55b2 : (9223372036854775807 < 2 + t389.size) = False:=eq_false (Nat.not_lt.2 c55));(by_cases c56 : (rdOf ByteArray.empty t381 x80_4).toList = ((⟨#[120,45]⟩ : ByteArray) ++ t389).toList)
                   ·(rw [if_pos c56] at H);(have c56b0 : ((rdOf ByteArray.empty t381 x80_4).toList == ((⟨#[120,45]⟩ : ByteArray) ++ t389).toList) = true:=beq_iff_eq.mpr c56);(have c56b1 : ((rdOf ByteArray.empty t381 x80_4).toList != ((⟨#[120,45]⟩ : ByteArray) ++ t389).toList) = false:=bne_eq_false_iff_eq.mpr c56);(clear c56);(have H':=Aside0.mk H);(clear H);(have p388 : 0 ≤ (x80_4 : Int):=of_decide_eq_true (by first|(with_reducible assumption)|assumption));(have q388 : x80_4 < (t381.length : Int):=of_decide_eq_true (by first|(with_reducible assumption)|assumption));(obtain ⟨ad388,e388,hx388_0⟩:=Kd.at_string (Kd.R_reads' HO_78.out).2.2 x80_4 p388 q388)
                    cases e388
                    (replace p388:=eq_true p388);(replace q388:=eq_true q388);(go_wp2_with (first|((with_reducible refine gate_callee (f:=14) rfl ?_);refine goesL_ (some 90) rfl rfl Tryd.func14 (by kernel_rfl) rfl #[.int .i64 (wrap64 ((Int.tmod (wrap64 (a0)) 900000) + x80_4)),.int .i64 x9_7] rfl (by (try simp only [List.map_toArray,List.map_cons,List.map_nil]);first|done|rfl|(simp only [List.length_drop,List.length_take];rfl)) ?_;(with_reducible refine (marlinspikeref05_Digits.calls k4 (wrap64 ((Int.tmod (wrap64 (a0)) 900000) + x80_4)) x9_7 t389 _ A54.out).mono ?_);rintro e w57 ⟨rfl,hb⟩;refine ⟨_,rfl,?_⟩;have n0_:=Aside0.mk (Kd.R_below (by (with_reducible repeat (first|apply Kd.R_alloc|apply Kd.R_drewN|apply Kd.R_drew));exact HO_78.out) hb);have n1_:=Aside0.mk (blk_below (g:=gb386) (o:=.cells #[.int .i64 t384,.int .i64 t385] 27 (0,0)) (by (with_reducible repeat (first|refine blk_drewN ?_ _|refine blk_drew ?_|refine blk_alloc ?_ _));exact BK386.out) hb);have n2_:=Aside0.mk (below_step (by repeat (first|(with_reducible first|exact HB.out|apply below_alloc|apply pw_below_drewN|apply below_drew1|refine below_set ?_ GE386.out)|exact HB.out)) hb);clear HO_78;clear BK386;clear HB;have HO_78:=n0_;have BK386:=n1_;have HB:=n2_;clear n0_ n1_ n2_;(try clear hb);(try clear hb2);(try clear hk);(try clear hi))));(go_roundg k4)
                    case measure => have:=HJ4.out;have:=HJ7.out;have:=HJ38.out;have:=HK4.out;omega
                    case rel => exact ⟨(wrap64 (x80_4 + 1)),(by first|rfl|(simp;done)|(simp [*];done)),H',⟨by have:=HJ4.out;have:=HJ7.out;have:=HJ38.out;have:=HK4.out;omega⟩,⟨by (with_reducible repeat (first|apply Kd.R_alloc|apply Kd.R_drewN|apply Kd.R_drew));exact HO_78.out⟩,⟨by (with_reducible repeat (first|refine blk_drewN ?_ _|refine blk_drew ?_|refine blk_alloc ?_ _));exact BK386.out⟩,⟨by repeat (first|(with_reducible first|exact HB.out|apply below_alloc|apply pw_below_drewN|apply below_drew1|refine below_set ?_ GE386.out)|exact HB.out)⟩⟩
                   ·(rw [if_neg c56] at H);(have c56b0 : ((rdOf ByteArray.empty t381 x80_4).toList == ((⟨#[120,45]⟩ : ByteArray) ++ t389).toList) = false:=beq_eq_false_iff_ne.mpr c56);(have c56b1 : ((rdOf ByteArray.empty t381 x80_4).toList != ((⟨#[120,45]⟩ : ByteArray) ++ t389).toList) = true:=bne_iff_ne.mpr c56);(obtain rfl:=Option.some.inj H);(have p388 : 0 ≤ (x80_4 : Int):=of_decide_eq_true (by first|(with_reducible assumption)|assumption));(have q388 : x80_4 < (t381.length : Int):=of_decide_eq_true (by first|(with_reducible assumption)|assumption));(obtain ⟨ad388,e388,hx388_0⟩:=Kd.at_string (Kd.R_reads' HO_78.out).2.2 x80_4 p388 q388)
                    cases e388
                    (replace p388:=eq_true p388);(replace q388:=eq_true q388);(go_wp2_with (first|((with_reducible refine gate_callee (f:=14) rfl ?_);refine goesL_ (some 90) rfl rfl Tryd.func14 (by kernel_rfl) rfl #[.int .i64 (wrap64 ((Int.tmod (wrap64 (a0)) 900000) + x80_4)),.int .i64 x9_7] rfl (by (try simp only [List.map_toArray,List.map_cons,List.map_nil]);first|done|rfl|(simp only [List.length_drop,List.length_take];rfl)) ?_;(with_reducible refine (marlinspikeref05_Digits.calls k4 (wrap64 ((Int.tmod (wrap64 (a0)) 900000) + x80_4)) x9_7 t389 _ A54.out).mono ?_);rintro e w58 ⟨rfl,hb⟩;refine ⟨_,rfl,?_⟩;have n0_:=Aside0.mk (Kd.R_below (by (with_reducible repeat (first|apply Kd.R_alloc|apply Kd.R_drewN|apply Kd.R_drew));exact HO_78.out) hb);have n1_:=Aside0.mk (blk_below (g:=gb386) (o:=.cells #[.int .i64 t384,.int .i64 t385] 27 (0,0)) (by (with_reducible repeat (first|refine blk_drewN ?_ _|refine blk_drew ?_|refine blk_alloc ?_ _));exact BK386.out) hb);have n2_:=Aside0.mk (below_step (by repeat (first|(with_reducible first|exact HB.out|apply below_alloc|apply pw_below_drewN|apply below_drew1|refine below_set ?_ GE386.out)|exact HB.out)) hb);clear HO_78;clear BK386;clear HB;have HO_78:=n0_;have BK386:=n1_;have HB:=n2_;clear n0_ n1_ n2_;(try clear hb);(try clear hb2);(try clear hk);(try clear hi))));(go_ret);(exact ⟨by first|rfl|(simp [errW_none,errW_some] <;> rfl)|(simp [*,errW_none,errW_some] <;> rfl),by repeat (first|(with_reducible first|exact HB.out|apply below_alloc|apply pw_below_drewN|apply below_drew1|refine below_set ?_ GE386.out)|exact HB.out)⟩)
                  ·(rw [if_neg c55] at H);(exact absurd H (by simp))
                 ·(rw [if_neg c53] at H);(exact absurd H (by simp))
                ·(rw [if_neg c52] at H);(exact absurd H (by simp))
               ·(rw [if_neg c51] at H);(have c51b0 : decide (x80_4 < (t381.length : Int)) = false:=decide_eq_false c51);(clear c51);(replace H:=Option.bind_eq_some_iff.mp H);(obtain ⟨t390,A590,H⟩:=H);(replace H : (some t390) = some r:=H);(have A59:=Aside0.mk A590);(clear A590);(obtain rfl:=Option.some.inj H);(go_wp2_with (first|((with_reducible refine gate_callee (f:=9) rfl ?_);refine goesL_ (some 94) rfl rfl Tryd.func9 (by kernel_rfl) rfl #[] rfl (by (try simp only [List.map_toArray,List.map_cons,List.map_nil]);first|done|rfl|(simp only [List.length_drop,List.length_take];rfl)) ?_;(with_reducible refine (marlinspikelaw05_alive.calls k4  t390 _ A59.out (HG_.out.below (by repeat (first|(with_reducible first|exact HB.out|apply below_alloc|apply pw_below_drewN|apply below_drew1|refine below_set ?_ GE386.out)|exact HB.out)))).mono ?_);rintro e w60 ⟨rfl,hb⟩;refine ⟨_,rfl,?_⟩;have n0_:=Aside0.mk (Kd.R_below (by (with_reducible repeat (first|apply Kd.R_alloc|apply Kd.R_drewN|apply Kd.R_drew));exact HO_78.out) hb);have n1_:=Aside0.mk (blk_below (g:=gb386) (o:=.cells #[.int .i64 t384,.int .i64 t385] 27 (0,0)) (by (with_reducible repeat (first|refine blk_drewN ?_ _|refine blk_drew ?_|refine blk_alloc ?_ _));exact BK386.out) hb);have n2_:=Aside0.mk (below_step (by repeat (first|(with_reducible first|exact HB.out|apply below_alloc|apply pw_below_drewN|apply below_drew1|refine below_set ?_ GE386.out)|exact HB.out)) hb);clear HO_78;clear BK386;clear HB;have HO_78:=n0_;have BK386:=n1_;have HB:=n2_;clear n0_ n1_ n2_;(try clear hb);(try clear hb2);(try clear hk);(try clear hi))));(go_ret);(exact ⟨by first|rfl|(simp [errW_none,errW_some] <;> rfl)|(simp [*,errW_none,errW_some] <;> rfl),by repeat (first|(with_reducible first|exact HB.out|apply below_alloc|apply pw_below_drewN|apply below_drew1|refine below_set ?_ GE386.out)|exact HB.out)⟩)
        ·(rw [if_neg c15] at H);(exact absurd H (by simp))
       ·(rw [if_neg c14] at H);(exact absurd H (by simp))
      ·(rw [if_neg c12] at H);(exact absurd H (by simp))
     ·(rw [if_neg c11] at H);(exact absurd H (by simp))
end Go.Proofs.YtoammgpfbdcphaaDoor.PH
end
section
namespace Go.Proofs.YtoammgpfbdcphaaDoor.Hx
open Go.RowKit Go.Proofs.YtoammgpfbdcphaaDoor.Lib Go.Proofs.YtoammgpfbdcphaaDoor.PH Go.Proofs.YtoammgpfbdcphaaDoor.Txt Go.Proofs.YtoammgpfbdcphaaDoor.Num Go.Proofs.YtoammgpfbdcphaaDoor.Hn Go.Proofs.YtoammgpfbdcphaaDoorW.PrintWords Go.Proofs.YtoammgpfbdcphaaDoorW.PrintLast Go.Proofs.YtoammgpfbdcphaaDoorW.PrintMore
set_option linter.unusedVariables false
set_option linter.unusedSimpArgs false
theorem alive_ev : Ev (fun k => marlinspikelaw05_alive.f k) true := Ev.of (fun k => marlinspikelaw05_alive.mono k) (k := 60) (by kernel_rfl)
theorem one_num (n : Nat) : strOfNums [wrap64 (48 + Int.tmod (n : Int) 10) % 256] = mkB [UInt8.ofNat (48 + n % 10)] := by
  have e : wrap64 (48 + Int.tmod (n : Int) 10) % 256 = ((48 + n % 10 : Nat) : Int) := by
    rw [Int.tmod_eq_emod_of_nonneg (by omega)]; unfold wrap64; omega
  rw [e]; rfl
theorem tdiv_ten (n : Nat) (h : n ≤ 9000000000) : wrap64 (Int.tdiv (n : Int) 10) = ((n / 10 : Nat) : Int) := by
  rw [Int.tdiv_eq_ediv_of_nonneg (by omega)]; unfold wrap64; omega
theorem digits_l1 (w : Nat) (hw : w ≤ 1000) : ∀ (d : Nat) (acc : ByteArray), w - acc.size = d → Ev (fun k => marlinspikeref05_Digits.l1 k (w : Int) acc) (mkB (List.replicate (w - acc.size) 48 ++ L acc)) := by
  intro d
  induction d with
  | zero =>
    intro acc hd
    refine Ev.shift ⟨0, fun k hk => ?_⟩
    simp only [marlinspikeref05_Digits.l1]
    rw [if_neg (by omega), hd, List.replicate_zero, List.nil_append, mkB_L]
  | succ d ih =>
    intro acc hd
    have hz : ((⟨#[48]⟩ : ByteArray) ++ acc).size = acc.size + 1 := by rw [ByteArray.size_append, one_sz]; omega
    obtain ⟨K, hK⟩ := ih ((⟨#[48]⟩ : ByteArray) ++ acc) (by rw [hz]; omega)
    dsimp only at hK
    refine Ev.shift ⟨K, fun k hk => ?_⟩
    simp only [marlinspikeref05_Digits.l1]
    rw [if_pos (by omega), if_pos (by omega)]
    have h2 := hK k hk
    rw [hz, L_append, show L (⟨#[48]⟩ : ByteArray) = [48] from rfl, ← List.append_assoc, show w - (acc.size + 1) = d by omega, ← List.replicate_succ'] at h2
    rw [hd]
    exact h2
theorem digits_l0 (w : Nat) (r : ByteArray) : ∀ (n : Nat) (first : Bool) (acc : ByteArray), n ≤ 9000000000 → acc.size + n ≤ 18000000000 → (first = false → 0 < n) →
    Ev (fun k => marlinspikeref05_Digits.l1 k (w : Int) (mkB (Go.Lib.decDigits n ++ L acc))) r → Ev (fun k => marlinspikeref05_Digits.l0 k (n : Int) (w : Int) acc first) r := by
  intro n
  induction n using Nat.strongRecOn with
  | _ n ih =>
    intro first acc hn ha hf hr
    have key : Ev (fun k => marlinspikeref05_Digits.l0 k ((n / 10 : Nat) : Int) (w : Int) (mkB [UInt8.ofNat (48 + n % 10)] ++ acc) false) r := by
      by_cases h : n < 10
      · rw [Go.Lib.decDigits, dif_pos h] at hr
        obtain ⟨K, hK⟩ := hr
        dsimp only at hK
        refine Ev.shift ⟨K, fun k hk => ?_⟩
        simp only [marlinspikeref05_Digits.l0]
        rw [if_neg (by decide), if_neg (by omega), show n % 10 = n by omega]
        have e : mkB [UInt8.ofNat (48 + n)] ++ acc = mkB ([UInt8.ofNat (48 + n)] ++ L acc) := L_inj (by rw [L_append, L_mkB, L_mkB])
        rw [e]
        exact hK k hk
      · rw [Go.Lib.decDigits, dif_neg h] at hr
        refine ih (n / 10) (by omega) false _ (by omega) (by rw [ByteArray.size_append, mkB_size]; simp; omega) (fun _ => by omega) ?_
        rw [L_append, L_mkB, ← List.append_assoc]
        exact hr
    obtain ⟨K, hK⟩ := key
    dsimp only at hK
    refine Ev.shift ⟨K, fun k hk => ?_⟩
    have hz : (mkB [UInt8.ofNat (48 + n % 10)]).size = 1 := mkB_size _
    simp only [marlinspikeref05_Digits.l0]
    rw [tdiv_ten n hn]
    simp only [Option.bind_some]
    cases first with
    | true => rw [if_pos (by first | rfl | trivial), one_num, hz, if_pos (by omega)]; exact hK k hk
    | false => rw [if_neg (by decide), if_pos (by have := hf rfl; omega), one_num, hz, if_pos (by omega)]; exact hK k hk
theorem digits_ev (n w : Nat) (hn : n ≤ 9000000000) (hw : w ≤ 1000) : Ev (fun k => marlinspikeref05_Digits.f k (n : Int) (w : Int)) (mkB (padL w n)) := by
  have h1 := digits_l1 w hw _ (mkB (Go.Lib.decDigits n)) rfl
  rw [mkB_size, L_mkB] at h1
  have h2 := digits_l0 w _ n true (⟨#[]⟩ : ByteArray) hn (by show 0 + n ≤ _; omega) (fun h => by cases h) (by rw [show L (⟨#[]⟩ : ByteArray) = [] from rfl, List.append_nil]; exact h1)
  exact h2
theorem span_loop (A w : Nat) (hA : A ≤ 1000000) (hw : w ≤ 6) (l : List ByteArray) (hl : l.length ≤ 256) (h : ∀ i (hi : i < l.length), L l[i] = [120, 45] ++ padL w (A + i)) :
    ∀ (d i : Nat), l.length - i = d → i ≤ l.length → Ev (fun k => marlinspikelaw05_HostSpan.l0 k (A : Int) (w : Int) l (l.length : Int) (i : Int)) true := by
  intro d
  obtain ⟨KA, hA2⟩ := alive_ev
  dsimp only at hA2
  induction d with
  | zero =>
    intro i hd hi
    refine Ev.shift ⟨KA, fun k hk => ?_⟩
    simp only [marlinspikelaw05_HostSpan.l0]
    rw [if_neg (by omega), hA2 k hk]
    rfl
  | succ d ih =>
    intro i hd hi
    obtain ⟨K, hK⟩ := ih (i + 1) (by omega) (by omega)
    obtain ⟨K1, h1⟩ := digits_ev (A + i) w (by omega) (by omega)
    dsimp only at hK h1
    refine Ev.shift ⟨K + K1, fun k hk => ?_⟩
    have e : wrap64 ((A : Int) + (i : Int)) = ((A + i : Nat) : Int) := by unfold wrap64; omega
    have hp := pad_length w (A + i)
    have hd6 := dec_len 6 (A + i) (by omega)
    simp only [marlinspikelaw05_HostSpan.l0]
    rw [if_pos (by omega), if_pos (by omega), if_pos (by omega), e, h1 k (by omega)]
    simp only [Option.bind_some]
    rw [mkB_size, if_pos (by omega), rdN l i (by omega), if_pos (by rw [toList_L, toList_L, L_append, L_mkB]; exact h i (by omega)), wrap_nat (by omega)]
    exact hK k (by omega)
theorem bytes_3 : L (⟨#[120, 45, 91]⟩ : ByteArray) = [120, 45, 91] := rfl
theorem bare_pre : Bare [120, 45] := by
  intro c hc
  rcases List.mem_cons.1 hc with rfl | hc
  · exact bare_120
  · rw [List.mem_singleton.1 hc]; exact bare_45
def spT (A n w : Nat) : ByteArray := ((((⟨#[120, 45, 91]⟩ : ByteArray) ++ mkB (padL w A)) ++ (⟨#[45]⟩ : ByteArray)) ++ mkB (padL 0 (A + n))) ++ (⟨#[93]⟩ : ByteArray)
theorem spT_L (A n w : Nat) : L (spT A n w) = [120, 45] ++ 91 :: (padL w A ++ 45 :: (padL 0 (A + n) ++ [93])) := by
  unfold spT
  rw [L_append, L_append, L_append, L_append, L_mkB, L_mkB, bytes_3, show L (⟨#[45]⟩ : ByteArray) = [45] from rfl, show L (⟨#[93]⟩ : ByteArray) = [93] from rfl]
  simp
theorem spT_size (A n w : Nat) (hA : A < 900000) (hn : n < 300) (hw : w ≤ 6) : (spT A n w).size ≤ 100 ∧ (spT A n w).size ≠ 0 := by
  have ha6 := pad_le6 w A hw (by omega)
  have hb6 := pad_le6 0 (A + n) (by omega) (by omega)
  rw [← L_length, spT_L]
  simp only [List.length_append, List.length_cons, List.length_nil]
  omega
theorem sp_cnt (A n w : Nat) : cntS (A, A + n, w) = n + 1 := by show A + n + 1 - A = n + 1; omega
theorem sp_names (A n w : Nat) : (namesS [120, 45] (A, A + n, w)).length = n + 1 := by unfold namesS; rw [List.length_map, List.length_range, sp_cnt]
theorem sp_ok (A n w : Nat) (hA : A < 900000) (hn : n < 300) (hw : w = 0 ∨ (Go.Lib.decDigits A).length < w ∧ w ≤ 6) (hm : n + 1 ≤ 256) : Ev (fun k => host_Expand.f k (spT A n w)) (namesS [120, 45] (A, A + n, w), 0, 0) := by
  have hw6 : w ≤ 6 := by omega
  have ha6 := pad_le6 w A hw6 (by omega)
  have hb6 := pad_le6 0 (A + n) (by omega) (by omega)
  have hwid : widthOf (padL w A) = w := width_pad A w (by omega)
  obtain ⟨h1, h2⟩ := spT_size A n w hA hn hw6
  have hL := spT_L A n w
  generalize spT A n w = t at *
  have hrep : Rep (L t) (namesS [120, 45] (A, A + n, w)) := by
    refine .inr ⟨[120, 45], padL w A, padL 0 (A + n), by simp, bare_pre, pad_digs _ _, pad_ne _ _, ha6, pad_digs _ _, pad_ne _ _, hb6, by rw [pad_valD, pad_valD]; omega, hL, ?_⟩
    rw [pad_valD, pad_valD, hwid]
  have h3 := parts_ev t (by omega) [(L t, namesS [120, 45] (A, A + n, w))] [] 0 (by omega) (by simp) (by
    intro x hx
    rw [List.mem_singleton.1 hx]
    exact hrep) (by rw [List.flatMap_cons, List.flatMap_nil, List.append_nil, sp_names]; simp; omega) (by rw [List.drop_zero]; simp [Go.Lib.join, List.intercalate])
  rw [List.nil_append, List.flatMap_cons, List.flatMap_nil, List.append_nil] at h3
  exact expand_f t h2 _ h3
theorem sp_many (A n w : Nat) (hA : A < 900000) (hn : n < 300) (hw : w = 0 ∨ (Go.Lib.decDigits A).length < w ∧ w ≤ 6) (hm : ¬ n + 1 ≤ 256) : Ev (fun k => host_Expand.f k (spT A n w)) ([], 5, 0) := by
  have hw6 : w ≤ 6 := by omega
  have ha6 := pad_le6 w A hw6 (by omega)
  have hb6 := pad_le6 0 (A + n) (by omega) (by omega)
  have hwid : widthOf (padL w A) = w := width_pad A w (by omega)
  obtain ⟨h1, h2⟩ := spT_size A n w hA hn hw6
  have hL := spT_L A n w
  generalize spT A n w = t at *
  have hsp : sumS [(valD (padL w A), valD (padL 0 (A + n)), widthOf (padL w A))] = n + 1 := by
    rw [pad_valD, pad_valD, show sumS [(A, A + n, widthOf (padL w A))] = cntS (A, A + n, widthOf (padL w A)) + 0 from rfl, sp_cnt]
  have h3 := part_ranges t (by omega) [] 0 (by omega) [120, 45] (padL w A) (padL 0 (A + n)) [] (by simp) bare_pre (pad_digs _ _) (pad_ne _ _) ha6 (pad_digs _ _) (pad_ne _ _) hb6 (by rw [pad_valD, pad_valD]; omega) (by rw [List.drop_zero, hL, List.append_nil]) (.inl rfl) ([], 5, ((0 : Nat) : Int))
    (j6_many t t [] (by simp) _ _ _ _ _ _ (by rw [hsp, List.length_nil]; omega))
  exact expand_f t h2 _ h3
theorem span_pre (A n w : Nat) (hA : A < 900000) (hn : n < 300) (hw : w ≤ 6) (r : List ByteArray × Int × Int) (hE : Ev (fun k => host_Expand.f k (spT A n w)) r) (b : Bool)
    (hr : Ev (fun k => (if (wrap64 ((n : Int) + 1)) > 256 then (if (r.2.1 == 5 && (r.2.2 == 0)) = true then (if (r.1.length : Int) = 0 then ((marlinspikelaw05_alive.f k).bind fun t387 => (some t387)) else (some false)) else (some false)) else (if (!(r.2.1 == 0) || (!(r.2.2 == 0))) = true then (marlinspikelaw05_HostSpan.j2 k (A : Int) (w : Int) r.1 true) else (marlinspikelaw05_HostSpan.j2 k (A : Int) (w : Int) r.1 ((r.1.length : Int) != (wrap64 ((n : Int) + 1))))))) b) :
    Ev (fun k => marlinspikelaw05_HostSpan.j1 k (A : Int) (n : Int) (w : Int)) b := by
  obtain ⟨K1, h1⟩ := digits_ev A w (by omega) (by omega)
  obtain ⟨K2, h2⟩ := digits_ev (A + n) 0 (by omega) (by omega)
  obtain ⟨K3, h3⟩ := hE
  obtain ⟨K4, h4⟩ := hr
  dsimp only at h1 h2 h3
  have ha6 := pad_le6 w A hw (by omega)
  have hb6 := pad_le6 0 (A + n) (by omega) (by omega)
  have hs3 : (⟨#[120, 45, 91]⟩ : ByteArray).size = 3 := rfl
  have e : wrap64 ((A : Int) + (n : Int)) = ((A + n : Nat) : Int) := by unfold wrap64; omega
  refine Ev.shift ⟨K1 + K2 + K3 + K4, fun k hk => ?_⟩
  have h2' := h2 k (by omega)
  rw [show ((0 : Nat) : Int) = 0 from rfl] at h2'
  have h3' := h3 k (by omega)
  unfold spT at h3'
  simp only [marlinspikelaw05_HostSpan.j1]
  rw [h1 k (by omega)]
  simp only [Option.bind_some, ByteArray.size_append, one_sz, hs3, mkB_size]
  rw [if_pos (by omega), if_pos (by omega), e, h2']
  simp only [Option.bind_some, mkB_size]
  rw [if_pos (by omega), if_pos (by omega), h3', Option.bind_some]
  exact h4 k (by omega)
theorem span_j1 (A n w : Nat) (hA : A < 900000) (hn : n < 300) (hw : w = 0 ∨ (Go.Lib.decDigits A).length < w ∧ w ≤ 6) : Ev (fun k => marlinspikelaw05_HostSpan.j1 k (A : Int) (n : Int) (w : Int)) true := by
  have hw6 : w ≤ 6 := by omega
  obtain ⟨KA, hA2⟩ := alive_ev
  dsimp only at hA2
  by_cases hm : n + 1 ≤ 256
  · have hln := sp_names A n w
    obtain ⟨K4, h4⟩ := span_loop A w (by omega) hw6 (namesS [120, 45] (A, A + n, w)) (by omega) (by
      intro i hi
      simp only [namesS, List.getElem_map, List.getElem_range, L_mkB]) _ 0 rfl (by omega)
    dsimp only at h4
    refine span_pre A n w hA hn hw6 _ (sp_ok A n w hA hn hw hm) true ⟨K4 + 1, fun k hk => ?_⟩
    dsimp only
    generalize namesS [120, 45] (A, A + n, w) = l at *
    rw [wrap_nat (by omega), if_neg (by omega), if_neg (by decide), hln]
    obtain ⟨k, rfl⟩ : ∃ m, k = m + 1 := ⟨k - 1, by omega⟩
    have eb : (((n + 1 : Nat) : Int) != ((n + 1 : Nat) : Int)) = false := by simp
    rw [eb]
    simp only [marlinspikelaw05_HostSpan.j2]
    rw [if_neg (by decide)]
    exact h4 k (by omega)
  · refine span_pre A n w hA hn hw6 _ (sp_many A n w hA hn hw hm) true ⟨KA, fun k hk => ?_⟩
    dsimp only
    rw [wrap_nat (by omega), if_pos (by omega), if_pos (by decide), if_pos (by rfl), hA2 k (by omega)]
    rfl
theorem span_j0 (A n ln c : Nat) (hA : A < 900000) (hn : n < 300) (hln : (Go.Lib.decDigits A).length = ln) (bb : Bool) (hbb : bb = decide (0 < c ∧ ln + c ≤ 6)) :
    Ev (fun k => marlinspikelaw05_HostSpan.j0 k (A : Int) (n : Int) 0 ((ln + c : Nat) : Int) bb) true := by
  subst hln
  by_cases hh : 0 < c ∧ (Go.Lib.decDigits A).length + c ≤ 6
  · have h1 : (Go.Lib.decDigits A).length < (Go.Lib.decDigits A).length + c := Nat.lt_add_of_pos_right hh.1
    obtain ⟨K, hK⟩ := span_j1 A n ((Go.Lib.decDigits A).length + c) hA hn (Or.inr (And.intro h1 hh.2))
    refine Ev.shift ⟨K, fun k hk => ?_⟩
    have h2 := hK k hk
    simp only [marlinspikelaw05_HostSpan.j0]
    rw [hbb, if_pos (decide_eq_true hh)]
    exact h2
  · obtain ⟨K, hK⟩ := span_j1 A n 0 hA hn (Or.inl rfl)
    refine Ev.shift ⟨K, fun k hk => ?_⟩
    have h2 := hK k hk
    dsimp only at h2
    rw [show ((0 : Nat) : Int) = 0 from rfl] at h2
    simp only [marlinspikelaw05_HostSpan.j0]
    rw [hbb, if_neg (by simpa using hh)]
    exact h2
theorem span_law (a b c : Int) (ha : 0 ≤ a ∧ a ≤ 65535) (hb : 0 ≤ b ∧ b ≤ 65535) (hc : 0 ≤ c ∧ c ≤ 255) : ∃ k, marlinspikelaw05_HostSpan.f k a b c = some true := by
  obtain ⟨A, rfl⟩ := Int.eq_ofNat_of_zero_le ha.1
  obtain ⟨B, rfl⟩ := Int.eq_ofNat_of_zero_le hb.1
  obtain ⟨C, rfl⟩ := Int.eq_ofNat_of_zero_le hc.1
  refine Ev.rounds (g := fun k => marlinspikelaw05_HostSpan.f k (A : Int) (B : Int) (C : Int)) ?_
  have eA : Int.tmod (wrap64 (A : Int)) 900000 = (A : Int) := by
    rw [show wrap64 (A : Int) = (A : Int) by unfold wrap64; omega, Int.tmod_eq_emod_of_nonneg (by omega)]; omega
  have eB : Int.tmod (wrap64 (B : Int)) 300 = ((B % 300 : Nat) : Int) := by
    rw [show wrap64 (B : Int) = (B : Int) by unfold wrap64; omega, Int.tmod_eq_emod_of_nonneg (by omega)]; omega
  have eC : wrap64 (Int.tmod (C : Int) 4) = ((C % 4 : Nat) : Int) := by
    rw [Int.tmod_eq_emod_of_nonneg (by omega)]; unfold wrap64; omega
  obtain ⟨K1, h1⟩ := digits_ev A 0 (by omega) (by omega)
  dsimp only at h1
  have hz : padL 0 A = Go.Lib.decDigits A := by unfold padL; simp
  have hl6 := dec_len 5 A (by omega)
  rw [hz] at h1
  generalize hln : (Go.Lib.decDigits A).length = ln at *
  have eS : wrap64 ((ln : Int) + ((C % 4 : Nat) : Int)) = ((ln + C % 4 : Nat) : Int) := by unfold wrap64; omega
  have hj0 := span_j0 A (B % 300) ln (C % 4) (by omega) (by omega) hln
  obtain ⟨K0, h0⟩ := hj0 _ rfl
  dsimp only at h0
  refine ⟨K0 + K1, fun k hk => ?_⟩
  have h0' := h0 k (by omega)
  simp only [marlinspikelaw05_HostSpan.f]
  have h1' := h1 k (by omega)
  rw [show ((0 : Nat) : Int) = 0 from rfl] at h1'
  rw [eA, eB, eC, h1', Option.bind_some]
  rw [mkB_size, hln, eS]
  clear eA eB eC eS h1 h1' h0 hj0
  by_cases h4 : 0 < C % 4
  · rw [if_pos (by omega)]
    have ed : decide (((ln + C % 4 : Nat) : Int) ≤ 6) = decide (0 < C % 4 ∧ ln + C % 4 ≤ 6) := by
      by_cases h6 : ln + C % 4 ≤ 6
      · rw [decide_eq_true (show ((ln + C % 4 : Nat) : Int) ≤ 6 by omega), decide_eq_true (show 0 < C % 4 ∧ ln + C % 4 ≤ 6 from ⟨h4, h6⟩)]
      · rw [decide_eq_false (show ¬ ((ln + C % 4 : Nat) : Int) ≤ 6 by omega), decide_eq_false (show ¬ (0 < C % 4 ∧ ln + C % 4 ≤ 6) from fun h => h6 h.2)]
    rw [ed]
    exact h0'
  · rw [if_neg (by omega)]
    rw [decide_eq_false (show ¬ (0 < C % 4 ∧ ln + C % 4 ≤ 6) from fun h => h4 h.1)] at h0'
    exact h0'
end Go.Proofs.YtoammgpfbdcphaaDoor.Hx
end
section
namespace Go.Proofs.YtoammgpfbdcphaaDoor.hostSpan
open Go.ChangeShapes Go.WideShapes Go.ChangeAt Go.RowKit
open Go.ChangeMaps (open_string shut_string)
open Go.Proofs.YtoammgpfbdcphaaDoorW.PrintWords 
set_option linter.unusedVariables false
set_option maxRecDepth 100000
theorem own : ownKnob Tryd.prog.godebug = none := by kernel_rfl
theorem laidOut : laidOutB Tryd.prog = true := by kernel_rfl
theorem laid_met (os : Os) : laidMet Tryd.prog Rows.hostSpanRow.laid ((World.doorLaid Tryd.prog 62 os).forCall (fun _ _ => 0) ⟨#[], #[.int .u16 0, .int .u16 0, .int .u8 0], []⟩).memory :=
  laidMet_of_run' 8 (by kernel_rfl) (by kernel_rfl)
theorem witness_row (os : Os) {H : Type} (enc : TypeId × Value → H) :
    (OpenSpec.ofChange Rows.hostSpanSpec).preRow enc Tryd.prog Tryd.f5 Rows.hostSpanRow.domain false Rows.hostSpanRow.laid ((World.doorLaid Tryd.prog 62 os).forCall (fun _ _ => 0) ⟨#[], #[.int .u16 0, .int .u16 0, .int .u8 0], []⟩).memory #[.int .u16 0, .int .u16 0, .int .u8 0] := by
  have hw : (DataW.whole enc Tryd.prog ((World.doorLaid Tryd.prog 62 os).forCall (fun _ _ => 0) ⟨#[], #[.int .u16 0, .int .u16 0, .int .u8 0], []⟩).memory Tryd.f5.params.toList (OpenSpec.ofChange Rows.hostSpanSpec).vars false #[.int .u16 0, .int .u16 0, .int .u8 0].toList 8).map (fun x => (x.1, x.2.1)) =
      some ([.lit (.int .u16 0), .lit (.int .u16 0), .lit (.int .u8 0)], []) := by kernel_rfl
  obtain ⟨⟨x1, x2, x3⟩, hx, hx1⟩ := Option.map_eq_some_iff.1 hw
  simp only [Prod.mk.injEq] at hx1
  obtain ⟨rfl, rfl⟩ := hx1
  exact OpenSpec.preRow_of_cond 8 hx (by kernel_rfl) (fun k hk => by cases hk) (by kernel_rfl) (laid_met os)
theorem star : "*" ++ "errors.errorString" = "*errors.errorString" := by decide
theorem row_err (u : TypeId) (h : Tryd.prog.typeName? 3 u = some "*errors.errorString") : u = 132 :=
  typeName_ptr_named (nm := "errors.errorString") (by rw [star]; kernel_rfl) (by kernel_rfl) (by decide) u (by rw [star]; exact h)
theorem glob {W : World} (h : laidMetH Tryd.prog Rows.hostSpanRow.laid W) : Lib.Glob W := by
  rw [MakeChecks.laidMetH_plain _ _ _ (by kernel_rfl)] at h
  have h0 : laidMet Tryd.prog Rows.hostSpanRow.laid W := h
  have h1 : laidMet Tryd.prog [("math/bits.deBruijn64tab", Rows.laid_math_bits_deBruijn64tab), ("internal/strconv.uint64pow10", Rows.laid_internal_strconv_uint64pow10), ("strconv.ErrRange", Rows.laid_strconv_ErrRange), ("strconv.ErrSyntax", Rows.laid_strconv_ErrSyntax)] W := laidMet.tail h0
  have h2 : laidMet Tryd.prog [("internal/strconv.uint64pow10", Rows.laid_internal_strconv_uint64pow10), ("strconv.ErrRange", Rows.laid_strconv_ErrRange), ("strconv.ErrSyntax", Rows.laid_strconv_ErrSyntax)] W := laidMet.tail h1
  have h3 : laidMet Tryd.prog [("strconv.ErrRange", Rows.laid_strconv_ErrRange), ("strconv.ErrSyntax", Rows.laid_strconv_ErrSyntax)] W := laidMet.tail h2
  have h4 : laidMet Tryd.prog [("strconv.ErrSyntax", Rows.laid_strconv_ErrSyntax)] W := laidMet.tail h3
  have h5 : laidMet Tryd.prog [] W := laidMet.tail h4
  obtain ⟨a1, s1, v1, _⟩ := laid_sentinel (g := 0) h4 (by kernel_rfl) (by kernel_rfl) Tryd.underlying59 row_err Tryd.underlying132 Tryd.underlying134 rfl rfl Tryd.underlying9 (by kernel_rfl) (by kernel_rfl)
  obtain ⟨a2, s2, v2, _⟩ := laid_sentinel (g := 1) h3 (by kernel_rfl) (by kernel_rfl) Tryd.underlying59 row_err Tryd.underlying132 Tryd.underlying134 rfl rfl Tryd.underlying9 (by kernel_rfl) (by kernel_rfl)
  refine ⟨Go.Lib.tabIs_of_head Lib.g_tab (by kernel_rfl) Tryd.underlying140 Tryd.underlying106 (by kernel_rfl) (by kernel_rfl) h2, ⟨_, _, v1⟩, ⟨_, _, v2⟩⟩
set_option maxHeartbeats 4000000 in
theorem lifted (os : Os) (started : os.Started) (H : Type) (enc : TypeId × Value → H) (F : Stop.Interp) :
    ReturnsInHanded {} Tryd.checked os 5 .any ((OpenSpec.ofChange Rows.hostSpanSpec).preRow enc Tryd.prog Tryd.f5 Rows.hostSpanRow.domain false Rows.hostSpanRow.laid) (((OpenSpec.ofChange Rows.hostSpanSpec).at F).post enc Tryd.prog Tryd.f5 false true false false) := by
  refine returnsInHanded_of_row (C := Tryd.checked) (s := (OpenSpec.ofChange Rows.hostSpanSpec)) own started (by kernel_rfl) Tryd.func5
    (witness_row_atRef (enc := enc) (C := Tryd.checked) false (World.doorLaid Tryd.prog 62 os) #[.int .u16 0, .int .u16 0, .int .u8 0] rfl (by kernel_rfl) (by kernel_rfl) (by kernel_rfl) (witness_row os enc)) ?_
  intro W base args ds gs before hval0 hW _ _ hsz0 hL _ _
  have hsz : (DataW.weightsEach Tryd.prog (Tryd.f5.params.toList ++ (OpenSpec.ofChange Rows.hostSpanSpec).bare.plain.varTypes Tryd.prog) (ds ++ gs)).all (· ≤ reachBytes) = true := hsz0
  have hval : ∀ (j : Nat) t v, Tryd.f5.params[j]? = some t → args[j]? = some v → Value.okWide Tryd.prog W .any base t v := hval0
  have hG := glob hL
  have hW' := hW
  obtain ⟨p, q, hA0, hV, rfl, hfz, hnd⟩ := hW
  have hA : DataW.TrodAll enc Tryd.prog W 0 (fun _ => true) true Tryd.f5.params.toList args.toList ds p := hA0
  rw [Tryd.params5] at hA hval hsz
  obtain ⟨v0, vs0, d0, ds0, p0, q0, hargs, rfl, rfl, t0, r0⟩ := trodAll_cons hA
  obtain ⟨v1, vs1, d1, ds1, p1, q1, rfl, rfl, rfl, t1, r1⟩ := trodAll_cons r0
  obtain ⟨v2, vs2, d2, ds2, p2, q2, rfl, rfl, rfl, t2, r2⟩ := trodAll_cons r1
  obtain ⟨rfl, rfl, rfl⟩ := trodAll_nil r2
  obtain rfl : args = #[v0, v1, v2] := by cases args; simp_all
  obtain ⟨rfl, rfl⟩ := trodVars_none hV
  have k0 := t0
  have y0 := hval 0 33 v0 rfl rfl
  obtain ⟨z0, rfl, rfl, rfl, wz0⟩ := open_int Tryd.underlying33 y0 t0
  have k1 := t1
  have y1 := hval 1 33 v1 rfl rfl
  obtain ⟨z1, rfl, rfl, rfl, wz1⟩ := open_int Tryd.underlying33 y1 t1
  have k2 := t2
  have y2 := hval 2 5 v2 rfl rfl
  obtain ⟨z2, rfl, rfl, rfl, wz2⟩ := open_int Tryd.underlying5 y2 t2
  clear hA0 hval0 hsz0 hsz
  refine (PH.marlinspikelaw05_HostSpan.calls _ z0 z1 z2 true W (Hx.span_law z0 z1 z2 (Go.bounds_u16 wz0) (Go.bounds_u16 wz1) (Go.bounds_u8 wz2)).choose_spec hG).mono fun e W' ⟨he, bel⟩ => ?_
  subst he
  exact ⟨_, rfl, _, _, _, [], _, [], hW', trodAll_mk1 (shut_bool Tryd.underlying4 _), (trodAll_cons_mk (Below.trod laidOut (by kernel_rfl) (of_decide_eq_true (by kernel_rfl)) k0 bel (Op.trod_lt k0)) (trodAll_cons_mk (Below.trod laidOut (by kernel_rfl) (of_decide_eq_true (by kernel_rfl)) k1 bel (Op.trod_lt k1)) (trodAll_cons_mk (Below.trod laidOut (by kernel_rfl) (of_decide_eq_true (by kernel_rfl)) k2 bel (Op.trod_lt k2)) trodAll_mk0))), rfl, bel.frame _, fun h => by cases h⟩
theorem said : Rows.HostSpanSaid :=
  OpenClaim.holds_of_cond 5 Tryd.f5 rfl rfl rfl rfl rfl rfl rfl ⟨rfl, rfl, rfl, rfl, rfl⟩ rfl rfl rfl rfl rfl (by kernel_rfl) Tryd.func5 (by kernel_rfl)
    (of_decide_eq_true (by kernel_rfl)) (by unfold Func.isWrapper; first | (rw [if_pos (by decide +kernel)]; kernel_rfl) | (rw [if_neg (by decide +kernel)]; exact ⟨rfl, rfl⟩))
    (fun os started H enc _ F => by rw [OpenClaim.pre_eq_preRow]; exact lifted os started H enc F)
theorem plain (f : FuncId) (fn : Func) (hf : Tryd.pinned.checked.prog.funcNamed "marlinspike/marlinspikelaw05.HostSpan" = some f) (hfn : Tryd.pinned.checked.prog.funcs[f]? = some fn) :
    true = Tryd.pinned.checked.prog.looks [] ∧ ∀ (j : Nat) t, fn.params[j]? = some t → Tryd.pinned.checked.prog.wantsStandIn t = false := by
  obtain rfl : f = 5 := Option.some.inj ((show Tryd.prog.funcNamed "marlinspike/marlinspikelaw05.HostSpan" = some 5 by kernel_rfl).symm.trans hf) |>.symm
  obtain rfl : fn = Tryd.f5 := (Option.some.inj (Tryd.func5.symm.trans hfn)).symm
  refine ⟨by kernel_rfl, fun j t ht => ?_⟩
  rw [Tryd.params5] at ht
  have := Array.mem_of_getElem? ht
  have all : (#[33, 33, 5] : Array TypeId).all (fun t => Tryd.prog.wantsStandIn t = false) = true := by kernel_rfl
  exact of_decide_eq_true (Array.all_eq_true_iff_forall_mem.1 all t this)
theorem card : Rows.HostSpanCardSaid :=
  Claim7.holds_tied_plain_at .later [] _ _ _ _ said (fun _ h => by cases h) (by kernel_rfl) (fun _ h => by cases h) hostSpan_row_tie rfl ⟨rfl, rfl⟩ (by kernel_rfl) rfl plain (by kernel_rfl)
#print axioms card
end Go.Proofs.YtoammgpfbdcphaaDoor.hostSpan
namespace Go.Proofs.YtoammgpfbdcphaaDoor
theorem hostSpan_card : Rows.HostSpanCardSaid := hostSpan.card
end Go.Proofs.YtoammgpfbdcphaaDoor
end
