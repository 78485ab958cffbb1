/- Part 4 of the proof of ArrayFormatsCardSaid. -/
import Derived.Test.YtnfpchpnephheaaDoorZ03
import Derived.Lib.ItoaNum
import Derived.Lib.AtoiAll
import Derived.Test.YtnfpchpnephheaaDoorZ01
import Derived.Lib.Strings
section
namespace Go.Proofs.YtnfpchpnephheaaDoor.PA
open Go.RowKit Go.Proofs.YtnfpchpnephheaaDoor.Lib Go.Proofs.YtnfpchpnephheaaDoorW.PrintWords Go.Proofs.YtnfpchpnephheaaDoorW.PrintLast Go.Proofs.YtnfpchpnephheaaDoorW.PrintMore
attribute [local go_sem] max2_int min2_int max_two min_two max_three min_three max_four min_four   
set_option linter.unusedVariables false
set_option linter.unusedSimpArgs false
mutual
def marlinspikeref05_Digits.l0 : Nat → Int → Int → ByteArray → Bool → Option (ByteArray)
 | 0, _, _, _, _ => none
 | k + 1, x0, x1, x5, x6 => if x6 = true then ((some (([(wrap64 (48 + (Int.tmod x0 10))) % 256] : List Int) : List Int)).bind fun y147 => (if (strOfNums y147).size + x5.size ≤ 9223372036854775807 then (marlinspikeref05_Digits.l0 k (wrap64 (Int.tdiv x0 10)) x1 ((strOfNums y147) ++ x5) false) else (none))) else (if x0 > 0 then ((some (([(wrap64 (48 + (Int.tmod x0 10))) % 256] : List Int) : List Int)).bind fun y150 => (if (strOfNums y150).size + x5.size ≤ 9223372036854775807 then (marlinspikeref05_Digits.l0 k (wrap64 (Int.tdiv x0 10)) x1 ((strOfNums y150) ++ x5) false) else (none))) else (marlinspikeref05_Digits.l1 k x1 x5))
def marlinspikeref05_Digits.l1 : Nat → Int → ByteArray → Option (ByteArray)
 | 0, _, _ => none
 | k + 1, x1, x5 => if (x5.size : Int) < x1 then (if 1 + x5.size ≤ 9223372036854775807 then (marlinspikeref05_Digits.l1 k x1 ((⟨#[48]⟩ : ByteArray) ++ x5)) else (none)) else (some x5)
end
def marlinspikeref05_Digits.f (k : Nat) (a0 : Int) (a1 : Int) : Option (ByteArray) := marlinspikeref05_Digits.l0 k a0 a1 (⟨#[]⟩ : ByteArray) true
theorem marlinspikeref05_Digits.mono_l : ∀ k,(∀ y0 y1 y2 y3,LeO (marlinspikeref05_Digits.l0 k y0 y1 y2 y3) (marlinspikeref05_Digits.l0 (k + 1) y0 y1 y2 y3))∧(∀ y0 y1,LeO (marlinspikeref05_Digits.l1 k y0 y1) (marlinspikeref05_Digits.l1 (k + 1) y0 y1))
|0 => ⟨fun _ _ _ _ r h => by simp [marlinspikeref05_Digits.l0] at h,fun _ _ r h => by simp [marlinspikeref05_Digits.l1] at h⟩
|k + 1 => by
  obtain ⟨ih0,ih1⟩:=marlinspikeref05_Digits.mono_l k
  refine ⟨?_,?_⟩
  ·intro y0 y1 y2 y3
   unfold marlinspikeref05_Digits.l0
   repeat' first
  |(with_reducible exact ih0 _ _ _ _)
  |(with_reducible exact ih1 _ _)
  |(with_reducible exact LeO.refl _)
  |(with_reducible exact LeO.none _)
  |(with_reducible refine LeO.ite ?_ ?_)
  |(with_reducible refine LeO.bind ?_ (fun _ => ?_))
  |exact ih0 _ _ _ _
  |exact ih1 _ _
  |exact LeO.none _
  |refine LeO.ite ?_ ?_
  |refine LeO.bind ?_ (fun _ => ?_)
  ·intro y0 y1
   unfold marlinspikeref05_Digits.l1
   repeat' first
  |(with_reducible exact ih0 _ _ _ _)
  |(with_reducible exact ih1 _ _)
  |(with_reducible exact LeO.refl _)
  |(with_reducible exact LeO.none _)
  |(with_reducible refine LeO.ite ?_ ?_)
  |(with_reducible refine LeO.bind ?_ (fun _ => ?_))
  |exact ih0 _ _ _ _
  |exact ih1 _ _
  |exact LeO.none _
  |refine LeO.ite ?_ ?_
  |refine LeO.bind ?_ (fun _ => ?_)
theorem marlinspikeref05_Digits.mono : ∀ a0 a1 k,LeO (marlinspikeref05_Digits.f k a0 a1) (marlinspikeref05_Digits.f (k + 1) a0 a1):=by
 (intro a0 a1 k);(obtain ⟨ih0,ih1⟩:=marlinspikeref05_Digits.mono_l k);(unfold marlinspikeref05_Digits.f)
 repeat' first
  |(with_reducible exact ih0 _ _ _ _)
  |(with_reducible exact ih1 _ _)
  |(with_reducible exact LeO.refl _)
  |(with_reducible exact LeO.none _)
  |(with_reducible refine LeO.ite ?_ ?_)
  |(with_reducible refine LeO.bind ?_ (fun _ => ?_))
  |exact ih0 _ _ _ _
  |exact ih1 _ _
  |exact LeO.none _
  |refine LeO.ite ?_ ?_
  |refine LeO.bind ?_ (fun _ => ?_)
set_option maxHeartbeats 8000000 in
set_option maxRecDepth 100000 in
theorem marlinspikeref05_Digits.calls (k : Nat) (a0 : Int) (a1 : Int) (r : ByteArray) (w : World) (h : marlinspikeref05_Digits.f k a0 a1 = some r) :
  Calls Tryd.prog 21 #[.int .i64 a0,.int .i64 a1] w fun e w' => e = .returned (.string r)∧Below w.heap.size w w':=by
 (have HB:=Aside0.mk (Below.refl w.heap.size w));(have H : (marlinspikeref05_Digits.l0 k a0 a1 (⟨#[]⟩ : ByteArray) true) = some r:=h);(clear h);(have H':=Aside0.mk H);(clear H);(go_enter Tryd.func21,Tryd.ntmps21);(go_wp2);(go_loopg [0,5,6] k (fun kq v0 v5 v6 w' => ∃ (x0_1 : Int) (x5_1 : ByteArray) (x6_1 : Bool),v0 = .int .i64 x0_1∧v5 = .string x5_1∧v6 = .bool x6_1∧Aside0 (marlinspikeref05_Digits.l0 kq x0_1 a1 x5_1 x6_1 = some r)∧Aside0 (kq ≤ k)∧Aside0 (Below w.heap.size w w')))
 case atStart => exact ⟨(a0),((⟨#[]⟩ : ByteArray)),(true),(by first|rfl|(simp;done)|(simp [*];done)),(by first|rfl|(simp;done)|(simp [*];done)),(by first|rfl|(simp;done)|(simp [*];done)),H',⟨Nat.le_refl _⟩,⟨by repeat (first|(with_reducible first|exact HB.out|apply below_alloc|apply pw_below_drewN|apply below_drew1)|exact HB.out)⟩⟩
 case round =>
  (clear H');(try clear c2);(try clear p2);(obtain ⟨x0_1,x5_1,x6_1,rfl,rfl,rfl,HA,HK1,HB⟩:=hrel)
  cases gk with
 |zero => exact absurd HA.out (by simp [marlinspikeref05_Digits.l0])
 |succ k1 =>
   (have H:=HA.out);(clear HA);(simp only [marlinspikeref05_Digits.l0] at H);(by_cases c3 : x6_1 = true)
   ·(subst c3);(have H1 : ((some (([(wrap64 (48 + (Int.tmod x0_1 10))) % 256] : List Int) : List Int)).bind fun y147 => (if (strOfNums y147).size + x5_1.size ≤ 9223372036854775807 then (marlinspikeref05_Digits.l0 k1 (wrap64 (Int.tdiv x0_1 10)) a1 ((strOfNums y147) ++ x5_1) false) else (none))) = some r:=by rw [if_pos rfl] at H;exact H);(clear H);(have H:=H1);(clear H1);(obtain ⟨y147,hy147⟩ : ∃ y_ : List Int,y_ = (([(wrap64 (48 + (Int.tmod x0_1 10))) % 256] : List Int)):=⟨_,rfl⟩);(replace H : (if (strOfNums y147).size + x5_1.size ≤ 9223372036854775807 then (marlinspikeref05_Digits.l0 k1 (wrap64 (Int.tdiv x0_1 10)) a1 ((strOfNums y147) ++ x5_1) false) else (none)) = some r:=by first|(rw [hy147];with_reducible exact H)|(have H2_:=(Option.bind_some _ _).symm.trans H;rw [hy147];with_reducible exact H2_)|(have H2_:=(Option.bind_some _ _).symm.trans H;with_reducible exact H2_)|with_reducible exact H|(rw [hy147];exact H)|exact H);(have Ny147:=Aside0.mk hy147);(clear hy147);(by_cases c4 : (strOfNums y147).size + x5_1.size ≤ 9223372036854775807)
    ·(rw [if_pos c4] at H);(have c4b0:=eq_true c4);(have c4b1 : decide ((strOfNums y147).size + x5_1.size ≤ 9223372036854775807) = true:=decide_eq_true c4);(try have c4b2 : (9223372036854775807 < (strOfNums y147).size + x5_1.size) = False:=eq_false (Nat.not_lt.2 c4));(have H':=Aside0.mk H);(clear H);(go_wp2_with (first|((with_reducible refine gate_dst (N:=16) rfl ?_);refine Kd.R_lit (Kd.int .u8) _ 5 ?hg (N:=16) ?hd (xs:=([(wrap64 (48 + (Int.tmod x0_1 10))) % 256] : List Int)) (inner:=[.int .u8 ((wrap64 (48 + (Int.tmod x0_1 10))) % 256)]) (ok:=fun _ => True) (okp:=fun _ => True) ?hr ?hp (fun _ hk => hk) trivial (Below.refl _ _) (Nat.le_refl _) (by simp) ?_;(case hd => rfl);(case hg => rfl);(case hr => first|(go_simp;done)|(go_simp;rfl));(case hp => exact (Reps.one (show Kd.M (Kd.int .u8) _ _ _ ((wrap64 (48 + (Int.tmod x0_1 10))) % 256) [.int .u8 ((wrap64 (48 + (Int.tmod x0_1 10))) % 256)] from rfl) (Reps.none _ _)));intro v148 w5 ho6 hb hg_ hnew_;clear hg_ hnew_;(first|rw [← Ny147.out] at ho6|(simp only [Int.reduceToNat] at ho6;rw [← Ny147.out] at ho6));have n0_:=Aside0.mk (Kd.R_lower ho6 (below_size (by repeat (first|(with_reducible first|exact HB.out|apply below_alloc|apply pw_below_drewN|apply below_drew1)|exact HB.out))));have n1_:=Aside0.mk (below_step (by repeat (first|(with_reducible first|exact HB.out|apply below_alloc|apply pw_below_drewN|apply below_drew1)|exact HB.out)) hb);clear HB;have HO149:=n0_;have HB:=n1_;clear n0_ n1_;clear hb ho6;have hcv7:=own_string (P:=Tryd.prog) Tryd.underlying45 Tryd.underlying5 Tryd.underlying9 (Kd.own_of_R HO149.out))));(go_roundg k1)
     case measure => have:=HK1.out;omega
     case rel => exact ⟨(wrap64 (Int.tdiv x0_1 10)),((strOfNums y147) ++ x5_1),(false),(by first|rfl|(simp;done)|(simp [*];done)),(by first|rfl|(simp;done)|(simp [*];done)),(by first|rfl|(simp;done)|(simp [*];done)),H',⟨by have:=HK1.out;omega⟩,⟨by repeat (first|(with_reducible first|exact HB.out|apply below_alloc|apply pw_below_drewN|apply below_drew1)|exact HB.out)⟩⟩
    ·(rw [if_neg c4] at H);(exact absurd H (by simp))
   ·(replace c3:=Bool.eq_false_iff.mpr c3);(subst c3);(have H1 : (if x0_1 > 0 then ((some (([(wrap64 (48 + (Int.tmod x0_1 10))) % 256] : List Int) : List Int)).bind fun y150 => (if (strOfNums y150).size + x5_1.size ≤ 9223372036854775807 then (marlinspikeref05_Digits.l0 k1 (wrap64 (Int.tdiv x0_1 10)) a1 ((strOfNums y150) ++ x5_1) false) else (none))) else (marlinspikeref05_Digits.l1 k1 a1 x5_1)) = some r:=by rw [if_neg (show ¬ (false = true) by decide)] at H;exact H);(clear H);(have H:=H1);(clear H1);(by_cases c8 : x0_1 > 0)
    ·(rw [if_pos c8] at H);(have c8b0 : decide (0 < x0_1) = true:=decide_eq_true c8);(clear c8);(obtain ⟨y150,hy150⟩ : ∃ y_ : List Int,y_ = (([(wrap64 (48 + (Int.tmod x0_1 10))) % 256] : List Int)):=⟨_,rfl⟩);(replace H : (if (strOfNums y150).size + x5_1.size ≤ 9223372036854775807 then (marlinspikeref05_Digits.l0 k1 (wrap64 (Int.tdiv x0_1 10)) a1 ((strOfNums y150) ++ x5_1) false) else (none)) = some r:=by first|(rw [hy150];with_reducible exact H)|(have H2_:=(Option.bind_some _ _).symm.trans H;rw [hy150];with_reducible exact H2_)|(have H2_:=(Option.bind_some _ _).symm.trans H;with_reducible exact H2_)|with_reducible exact H|(rw [hy150];exact H)|exact H);(have Ny150:=Aside0.mk hy150);(clear hy150);(by_cases c9 : (strOfNums y150).size + x5_1.size ≤ 9223372036854775807)
     ·(rw [if_pos c9] at H);(have c9b0:=eq_true c9);(have c9b1 : decide ((strOfNums y150).size + x5_1.size ≤ 9223372036854775807) = true:=decide_eq_true c9);(try have c9b2 : (9223372036854775807 < (strOfNums y150).size + x5_1.size) = False:=eq_false (Nat.not_lt.2 c9));(have H':=Aside0.mk H);(clear H);(go_wp2_with (first|((with_reducible refine gate_dst (N:=16) rfl ?_);refine Kd.R_lit (Kd.int .u8) _ 5 ?hg (N:=16) ?hd (xs:=([(wrap64 (48 + (Int.tmod x0_1 10))) % 256] : List Int)) (inner:=[.int .u8 ((wrap64 (48 + (Int.tmod x0_1 10))) % 256)]) (ok:=fun _ => True) (okp:=fun _ => True) ?hr ?hp (fun _ hk => hk) trivial (Below.refl _ _) (Nat.le_refl _) (by simp) ?_;(case hd => rfl);(case hg => rfl);(case hr => first|(go_simp;done)|(go_simp;rfl));(case hp => exact (Reps.one (show Kd.M (Kd.int .u8) _ _ _ ((wrap64 (48 + (Int.tmod x0_1 10))) % 256) [.int .u8 ((wrap64 (48 + (Int.tmod x0_1 10))) % 256)] from rfl) (Reps.none _ _)));intro v151 w10 ho11 hb hg_ hnew_;clear hg_ hnew_;(first|rw [← Ny150.out] at ho11|(simp only [Int.reduceToNat] at ho11;rw [← Ny150.out] at ho11));have n0_:=Aside0.mk (Kd.R_lower ho11 (below_size (by repeat (first|(with_reducible first|exact HB.out|apply below_alloc|apply pw_below_drewN|apply below_drew1)|exact HB.out))));have n1_:=Aside0.mk (below_step (by repeat (first|(with_reducible first|exact HB.out|apply below_alloc|apply pw_below_drewN|apply below_drew1)|exact HB.out)) hb);clear HB;have HO152:=n0_;have HB:=n1_;clear n0_ n1_;clear hb ho11;have hcv12:=own_string (P:=Tryd.prog) Tryd.underlying45 Tryd.underlying5 Tryd.underlying9 (Kd.own_of_R HO152.out))));(go_roundg k1)
      case measure => have:=HK1.out;omega
      case rel => exact ⟨(wrap64 (Int.tdiv x0_1 10)),((strOfNums y150) ++ x5_1),(false),(by first|rfl|(simp;done)|(simp [*];done)),(by first|rfl|(simp;done)|(simp [*];done)),(by first|rfl|(simp;done)|(simp [*];done)),H',⟨by have:=HK1.out;omega⟩,⟨by repeat (first|(with_reducible first|exact HB.out|apply below_alloc|apply pw_below_drewN|apply below_drew1)|exact HB.out)⟩⟩
     ·(rw [if_neg c9] at H);(exact absurd H (by simp))
    ·(rw [if_neg c8] at H);(have c8b0 : decide (0 < x0_1) = false:=decide_eq_false c8);(clear c8);(have H':=Aside0.mk H);(clear H);(go_wp2);(go_loopg [5] k1 (fun kq v5 w' => ∃ (x5_2 : ByteArray),v5 = .string x5_2∧Aside0 (marlinspikeref05_Digits.l1 kq a1 x5_2 = some r)∧Aside0 (kq ≤ k1)∧Aside0 (Below w.heap.size w w')))
     case atStart => exact ⟨(x5_1),(by first|rfl|(simp;done)|(simp [*];done)),H',⟨Nat.le_refl _⟩,⟨by repeat (first|(with_reducible first|exact HB.out|apply below_alloc|apply pw_below_drewN|apply below_drew1)|exact HB.out)⟩⟩
     case round =>
      (clear H');(try clear hcv1);(try clear c2);(try clear p2);(try clear c3);(try clear c4);(try clear c4b0);(try clear c4b1);(try clear c4b2);(try clear p6);(try clear hcv7);(try clear c8);(try clear c8b0);(try clear c9);(try clear c9b0);(try clear c9b1);(try clear c9b2);(try clear hcv12);(try clear p2);(obtain ⟨x5_2,rfl,HA,HK2,HB⟩:=hrel)
      cases gk with
     |zero => exact absurd HA.out (by simp [marlinspikeref05_Digits.l1])
     |succ k2 =>
       (have H:=HA.out);(clear HA);(simp only [marlinspikeref05_Digits.l1] at H);(by_cases c13 : (x5_2.size : Int) < a1)
       ·(rw [if_pos c13] at H);(have c13b0 : decide ((x5_2.size : Int) < a1) = true:=decide_eq_true c13);(clear c13);(by_cases c14 : 1 + x5_2.size ≤ 9223372036854775807)
        ·(rw [if_pos c14] at H);(have c14b0:=eq_true c14);(have c14b1 : decide (1 + x5_2.size ≤ 9223372036854775807) = true:=decide_eq_true c14);(try have c14b2 : (9223372036854775807 < 1 + x5_2.size) = False:=eq_false (Nat.not_lt.2 c14));(have H':=Aside0.mk H);(clear H);(go_wp2);(go_roundg k2)
         case measure => have:=HK1.out;have:=HK2.out;omega
         case rel => exact ⟨((⟨#[48]⟩ : ByteArray) ++ x5_2),(by first|rfl|(simp;done)|(simp [*];done)),H',⟨by have:=HK1.out;have:=HK2.out;omega⟩,⟨by repeat (first|(with_reducible first|exact HB.out|apply below_alloc|apply pw_below_drewN|apply below_drew1)|exact HB.out)⟩⟩
        ·(rw [if_neg c14] at H);(exact absurd H (by simp))
       ·(rw [if_neg c13] at H);(have c13b0 : decide ((x5_2.size : Int) < a1) = false:=decide_eq_false c13);(clear c13);(obtain rfl:=Option.some.inj H);(go_wp2);(go_ret);(exact ⟨by first|rfl|(simp [errW_none,errW_some] <;> rfl)|(simp [*,errW_none,errW_some] <;> rfl),by repeat (first|(with_reducible first|exact HB.out|apply below_alloc|apply pw_below_drewN|apply below_drew1)|exact HB.out)⟩)
end Go.Proofs.YtnfpchpnephheaaDoor.PA
end
section
namespace Go.Proofs.YtnfpchpnephheaaDoor.PA
open Go.RowKit Go.Proofs.YtnfpchpnephheaaDoor.Lib Go.Proofs.YtnfpchpnephheaaDoorW.PrintWords Go.Proofs.YtnfpchpnephheaaDoorW.PrintLast Go.Proofs.YtnfpchpnephheaaDoorW.PrintMore
attribute [local go_sem] max2_int min2_int max_two min_two max_three min_three max_four min_four   
set_option linter.unusedVariables false
set_option linter.unusedSimpArgs false
mutual
def marlinspikeref08_Format.l0 : Nat → ByteArray → List Int → Int → List Int → Int → Option (ByteArray × Int)
 | 0, _, _, _, _, _ => none
 | k + 1, x4, x5, x6, x154000, x154001 => if x6 < (x5.length : Int) then (if (wrap64 (x6 + 1)) < (x5.length : Int) then (if 0 ≤ (wrap64 (x6 + 1)) then (if 0 ≤ x6 then (marlinspikeref08_Format.j1 k x4 x5 x6 (wrap64 (x6 + 1)) (wrap64 ((rd x5 (wrap64 (x6 + 1))) - (rd x5 x6))) x154000 x154001) else (none)) else (none)) else (marlinspikeref08_Format.j1 k x4 x5 x6 (wrap64 (x6 + 1)) 0 x154000 x154001)) else (if x154001 > 0 then ((marlinspikeref05_Digits.f k x154001 0).bind fun t155 => (if 1 + t155.size ≤ 9223372036854775807 then (if x4.size + ((⟨#[37]⟩ : ByteArray) ++ t155).size ≤ 9223372036854775807 then (some (x4 ++ ((⟨#[37]⟩ : ByteArray) ++ t155), 0)) else (none)) else (none))) else (some (x4, 0)))
def marlinspikeref08_Format.j1 : Nat → ByteArray → List Int → Int → Int → Int → List Int → Int → Option (ByteArray × Int)
 | 0, _, _, _, _, _, _, _ => none
 | k + 1, x4, x5, x6, x7, x8, x154000, x154001 => marlinspikeref08_Format.l1 k x4 x5 x6 x7 x8 x154000 x154001
def marlinspikeref08_Format.j3 : Nat → ByteArray → List Int → Int → Int → Int → List Int → Int → Option (ByteArray × Int)
 | 0, _, _, _, _, _, _, _ => none
 | k + 1, x4, x5, x6, x7, x8, x154000, x154001 => if x4.toList = ([] : List UInt8) then (marlinspikeref08_Format.j4 k x4 x5 x6 x7 x8 x154000 x154001) else (if x4.size + 1 ≤ 9223372036854775807 then (marlinspikeref08_Format.j4 k (x4 ++ (⟨#[44]⟩ : ByteArray)) x5 x6 x7 x8 x154000 x154001) else (none))
def marlinspikeref08_Format.j4 : Nat → ByteArray → List Int → Int → Int → Int → List Int → Int → Option (ByteArray × Int)
 | 0, _, _, _, _, _, _, _ => none
 | k + 1, x4, x5, x6, x7, x8, x154000, x154001 => if 0 ≤ x6 then (if x6 < (x5.length : Int) then ((marlinspikeref05_Digits.f k (rd x5 x6) 0).bind fun t161 => (if x4.size + t161.size ≤ 9223372036854775807 then (if (wrap64 (x7 - x6)) ≥ 3 then (marlinspikeref08_Format.j5 k (x4 ++ t161) x5 x6 x7 x8 true x154000 x154001) else (if (wrap64 (x7 - x6)) = 2 then (marlinspikeref08_Format.j5 k (x4 ++ t161) x5 x6 x7 x8 (x8 == 1) x154000 x154001) else (marlinspikeref08_Format.j5 k (x4 ++ t161) x5 x6 x7 x8 false x154000 x154001))) else (none))) else (none)) else (none)
def marlinspikeref08_Format.j5 : Nat → ByteArray → List Int → Int → Int → Int → Bool → List Int → Int → Option (ByteArray × Int)
 | 0, _, _, _, _, _, _, _, _ => none
 | k + 1, x4, x5, x6, x7, x8, x77, x154000, x154001 => if x77 = true then (if 0 ≤ (wrap64 (x7 - 1)) then (if (wrap64 (x7 - 1)) < (x5.length : Int) then ((marlinspikeref05_Digits.f k (rd x5 (wrap64 (x7 - 1))) 0).bind fun t163 => (if 1 + t163.size ≤ 9223372036854775807 then (if x4.size + ((⟨#[45]⟩ : ByteArray) ++ t163).size ≤ 9223372036854775807 then (if x8 = 1 then (marlinspikeref08_Format.l0 k (x4 ++ ((⟨#[45]⟩ : ByteArray) ++ t163)) x5 x7 x154000 x154001) else ((marlinspikeref05_Digits.f k x8 0).bind fun t164 => (if 1 + t164.size ≤ 9223372036854775807 then (if (x4 ++ ((⟨#[45]⟩ : ByteArray) ++ t163)).size + ((⟨#[58]⟩ : ByteArray) ++ t164).size ≤ 9223372036854775807 then (marlinspikeref08_Format.l0 k ((x4 ++ ((⟨#[45]⟩ : ByteArray) ++ t163)) ++ ((⟨#[58]⟩ : ByteArray) ++ t164)) x5 x7 x154000 x154001) else (none)) else (none)))) else (none)) else (none))) else (none)) else (none)) else (marlinspikeref08_Format.l0 k x4 x5 (wrap64 (x6 + 1)) x154000 x154001)
def marlinspikeref08_Format.l1 : Nat → ByteArray → List Int → Int → Int → Int → List Int → Int → Option (ByteArray × Int)
 | 0, _, _, _, _, _, _, _ => none
 | k + 1, x4, x5, x6, x7, x8, x154000, x154001 => if x7 < (x5.length : Int) then (if 0 ≤ x7 then (if 0 ≤ (wrap64 (x7 - 1)) then (if (wrap64 (x7 - 1)) < (x5.length : Int) then (if (wrap64 ((rd x5 x7) - (rd x5 (wrap64 (x7 - 1))))) = x8 then (marlinspikeref08_Format.l1 k x4 x5 x6 (wrap64 (x7 + 1)) x8 x154000 x154001) else (marlinspikeref08_Format.j3 k x4 x5 x6 x7 x8 x154000 x154001)) else (none)) else (none)) else (none)) else (marlinspikeref08_Format.j3 k x4 x5 x6 x7 x8 x154000 x154001)
end
def marlinspikeref08_Format.f (k : Nat) (l0_0 : List Int) (a0_1 : Int) : Option (ByteArray × Int) := (marlinspikeref08_Right.f k l0_0 a0_1).bind fun t154 => (if t154 = true then (marlinspikeref08_Format.l0 k (⟨#[]⟩ : ByteArray) l0_0 0 l0_0 a0_1) else (some ((⟨#[]⟩ : ByteArray), 3)))
theorem marlinspikeref08_Format.mono_l : ∀ k,(∀ y0 y1 y2 y3 y4,LeO (marlinspikeref08_Format.l0 k y0 y1 y2 y3 y4) (marlinspikeref08_Format.l0 (k + 1) y0 y1 y2 y3 y4))∧(∀ y0 y1 y2 y3 y4 y5 y6,LeO (marlinspikeref08_Format.j1 k y0 y1 y2 y3 y4 y5 y6) (marlinspikeref08_Format.j1 (k + 1) y0 y1 y2 y3 y4 y5 y6))∧(∀ y0 y1 y2 y3 y4 y5 y6,LeO (marlinspikeref08_Format.j3 k y0 y1 y2 y3 y4 y5 y6) (marlinspikeref08_Format.j3 (k + 1) y0 y1 y2 y3 y4 y5 y6))∧(∀ y0 y1 y2 y3 y4 y5 y6,LeO (marlinspikeref08_Format.j4 k y0 y1 y2 y3 y4 y5 y6) (marlinspikeref08_Format.j4 (k + 1) y0 y1 y2 y3 y4 y5 y6))∧(∀ y0 y1 y2 y3 y4 y5 y6 y7,LeO (marlinspikeref08_Format.j5 k y0 y1 y2 y3 y4 y5 y6 y7) (marlinspikeref08_Format.j5 (k + 1) y0 y1 y2 y3 y4 y5 y6 y7))∧(∀ y0 y1 y2 y3 y4 y5 y6,LeO (marlinspikeref08_Format.l1 k y0 y1 y2 y3 y4 y5 y6) (marlinspikeref08_Format.l1 (k + 1) y0 y1 y2 y3 y4 y5 y6))
|0 => ⟨fun _ _ _ _ _ r h => by simp [marlinspikeref08_Format.l0] at h,fun _ _ _ _ _ _ _ r h => by simp [marlinspikeref08_Format.j1] at h,fun _ _ _ _ _ _ _ r h => by simp [marlinspikeref08_Format.j3] at h,fun _ _ _ _ _ _ _ r h => by simp [marlinspikeref08_Format.j4] at h,fun _ _ _ _ _ _ _ _ r h => by simp [marlinspikeref08_Format.j5] at h,fun _ _ _ _ _ _ _ r h => by simp [marlinspikeref08_Format.l1] at h⟩
|k + 1 => by
  obtain ⟨ih0,ih1,ih2,ih3,ih4,ih5⟩:=marlinspikeref08_Format.mono_l k
  refine ⟨?_,?_,?_,?_,?_,?_⟩
  ·intro y0 y1 y2 y3 y4
   unfold marlinspikeref08_Format.l0
   repeat' first
  |(with_reducible exact ih0 _ _ _ _ _)
  |(with_reducible exact ih1 _ _ _ _ _ _ _)
  |(with_reducible exact ih2 _ _ _ _ _ _ _)
  |(with_reducible exact ih3 _ _ _ _ _ _ _)
  |(with_reducible exact ih4 _ _ _ _ _ _ _ _)
  |(with_reducible exact ih5 _ _ _ _ _ _ _)
  |(with_reducible exact marlinspikeref05_Digits.mono _ _ _)
  |(with_reducible exact marlinspikeref08_Right.mono _ _ _)
  |(with_reducible exact LeO.refl _)
  |(with_reducible exact LeO.none _)
  |(with_reducible refine LeO.ite ?_ ?_)
  |(with_reducible refine LeO.bind ?_ (fun _ => ?_))
  |exact ih0 _ _ _ _ _
  |exact ih1 _ _ _ _ _ _ _
  |exact ih2 _ _ _ _ _ _ _
  |exact ih3 _ _ _ _ _ _ _
  |exact ih4 _ _ _ _ _ _ _ _
  |exact ih5 _ _ _ _ _ _ _
  |exact marlinspikeref05_Digits.mono _ _ _
  |exact marlinspikeref08_Right.mono _ _ _
  |exact LeO.none _
  |refine LeO.ite ?_ ?_
  |refine LeO.bind ?_ (fun _ => ?_)
  ·intro y0 y1 y2 y3 y4 y5 y6
   unfold marlinspikeref08_Format.j1
   repeat' first
  |(with_reducible exact ih0 _ _ _ _ _)
  |(with_reducible exact ih1 _ _ _ _ _ _ _)
  |(with_reducible exact ih2 _ _ _ _ _ _ _)
  |(with_reducible exact ih3 _ _ _ _ _ _ _)
  |(with_reducible exact ih4 _ _ _ _ _ _ _ _)
  |(with_reducible exact ih5 _ _ _ _ _ _ _)
  |(with_reducible exact marlinspikeref05_Digits.mono _ _ _)
  |(with_reducible exact marlinspikeref08_Right.mono _ _ _)
  |(with_reducible exact LeO.refl _)
  |(with_reducible exact LeO.none _)
  |(with_reducible refine LeO.ite ?_ ?_)
  |(with_reducible refine LeO.bind ?_ (fun _ => ?_))
  |exact ih0 _ _ _ _ _
  |exact ih1 _ _ _ _ _ _ _
  |exact ih2 _ _ _ _ _ _ _
  |exact ih3 _ _ _ _ _ _ _
  |exact ih4 _ _ _ _ _ _ _ _
  |exact ih5 _ _ _ _ _ _ _
  |exact marlinspikeref05_Digits.mono _ _ _
  |exact marlinspikeref08_Right.mono _ _ _
  |exact LeO.none _
  |refine LeO.ite ?_ ?_
  |refine LeO.bind ?_ (fun _ => ?_)
  ·intro y0 y1 y2 y3 y4 y5 y6
   unfold marlinspikeref08_Format.j3
   repeat' first
  |(with_reducible exact ih0 _ _ _ _ _)
  |(with_reducible exact ih1 _ _ _ _ _ _ _)
  |(with_reducible exact ih2 _ _ _ _ _ _ _)
  |(with_reducible exact ih3 _ _ _ _ _ _ _)
  |(with_reducible exact ih4 _ _ _ _ _ _ _ _)
  |(with_reducible exact ih5 _ _ _ _ _ _ _)
  |(with_reducible exact marlinspikeref05_Digits.mono _ _ _)
  |(with_reducible exact marlinspikeref08_Right.mono _ _ _)
  |(with_reducible exact LeO.refl _)
  |(with_reducible exact LeO.none _)
  |(with_reducible refine LeO.ite ?_ ?_)
  |(with_reducible refine LeO.bind ?_ (fun _ => ?_))
  |exact ih0 _ _ _ _ _
  |exact ih1 _ _ _ _ _ _ _
  |exact ih2 _ _ _ _ _ _ _
  |exact ih3 _ _ _ _ _ _ _
  |exact ih4 _ _ _ _ _ _ _ _
  |exact ih5 _ _ _ _ _ _ _
  |exact marlinspikeref05_Digits.mono _ _ _
  |exact marlinspikeref08_Right.mono _ _ _
  |exact LeO.none _
  |refine LeO.ite ?_ ?_
  |refine LeO.bind ?_ (fun _ => ?_)
  ·intro y0 y1 y2 y3 y4 y5 y6
   unfold marlinspikeref08_Format.j4
   repeat' first
  |(with_reducible exact ih0 _ _ _ _ _)
  |(with_reducible exact ih1 _ _ _ _ _ _ _)
  |(with_reducible exact ih2 _ _ _ _ _ _ _)
  |(with_reducible exact ih3 _ _ _ _ _ _ _)
  |(with_reducible exact ih4 _ _ _ _ _ _ _ _)
  |(with_reducible exact ih5 _ _ _ _ _ _ _)
  |(with_reducible exact marlinspikeref05_Digits.mono _ _ _)
  |(with_reducible exact marlinspikeref08_Right.mono _ _ _)
  |(with_reducible exact LeO.refl _)
  |(with_reducible exact LeO.none _)
  |(with_reducible refine LeO.ite ?_ ?_)
  |(with_reducible refine LeO.bind ?_ (fun _ => ?_))
  |exact ih0 _ _ _ _ _
  |exact ih1 _ _ _ _ _ _ _
  |exact ih2 _ _ _ _ _ _ _
  |exact ih3 _ _ _ _ _ _ _
  |exact ih4 _ _ _ _ _ _ _ _
  |exact ih5 _ _ _ _ _ _ _
  |exact marlinspikeref05_Digits.mono _ _ _
  |exact marlinspikeref08_Right.mono _ _ _
  |exact LeO.none _
  |refine LeO.ite ?_ ?_
  |refine LeO.bind ?_ (fun _ => ?_)
  ·intro y0 y1 y2 y3 y4 y5 y6 y7
   unfold marlinspikeref08_Format.j5
   repeat' first
  |(with_reducible exact ih0 _ _ _ _ _)
  |(with_reducible exact ih1 _ _ _ _ _ _ _)
  |(with_reducible exact ih2 _ _ _ _ _ _ _)
  |(with_reducible exact ih3 _ _ _ _ _ _ _)
  |(with_reducible exact ih4 _ _ _ _ _ _ _ _)
  |(with_reducible exact ih5 _ _ _ _ _ _ _)
  |(with_reducible exact marlinspikeref05_Digits.mono _ _ _)
  |(with_reducible exact marlinspikeref08_Right.mono _ _ _)
  |(with_reducible exact LeO.refl _)
  |(with_reducible exact LeO.none _)
  |(with_reducible refine LeO.ite ?_ ?_)
  |(with_reducible refine LeO.bind ?_ (fun _ => ?_))
  |exact ih0 _ _ _ _ _
  |exact ih1 _ _ _ _ _ _ _
  |exact ih2 _ _ _ _ _ _ _
  |exact ih3 _ _ _ _ _ _ _
  |exact ih4 _ _ _ _ _ _ _ _
  |exact ih5 _ _ _ _ _ _ _
  |exact marlinspikeref05_Digits.mono _ _ _
  |exact marlinspikeref08_Right.mono _ _ _
  |exact LeO.none _
  |refine LeO.ite ?_ ?_
  |refine LeO.bind ?_ (fun _ => ?_)
  ·intro y0 y1 y2 y3 y4 y5 y6
   unfold marlinspikeref08_Format.l1
   repeat' first
  |(with_reducible exact ih0 _ _ _ _ _)
  |(with_reducible exact ih1 _ _ _ _ _ _ _)
  |(with_reducible exact ih2 _ _ _ _ _ _ _)
  |(with_reducible exact ih3 _ _ _ _ _ _ _)
  |(with_reducible exact ih4 _ _ _ _ _ _ _ _)
  |(with_reducible exact ih5 _ _ _ _ _ _ _)
  |(with_reducible exact marlinspikeref05_Digits.mono _ _ _)
  |(with_reducible exact marlinspikeref08_Right.mono _ _ _)
  |(with_reducible exact LeO.refl _)
  |(with_reducible exact LeO.none _)
  |(with_reducible refine LeO.ite ?_ ?_)
  |(with_reducible refine LeO.bind ?_ (fun _ => ?_))
  |exact ih0 _ _ _ _ _
  |exact ih1 _ _ _ _ _ _ _
  |exact ih2 _ _ _ _ _ _ _
  |exact ih3 _ _ _ _ _ _ _
  |exact ih4 _ _ _ _ _ _ _ _
  |exact ih5 _ _ _ _ _ _ _
  |exact marlinspikeref05_Digits.mono _ _ _
  |exact marlinspikeref08_Right.mono _ _ _
  |exact LeO.none _
  |refine LeO.ite ?_ ?_
  |refine LeO.bind ?_ (fun _ => ?_)
theorem marlinspikeref08_Format.mono : ∀ a0 a1 k,LeO (marlinspikeref08_Format.f k a0 a1) (marlinspikeref08_Format.f (k + 1) a0 a1):=by
 (intro a0 a1 k);(obtain ⟨ih0,ih1,ih2,ih3,ih4,ih5⟩:=marlinspikeref08_Format.mono_l k);(unfold marlinspikeref08_Format.f)
 repeat' first
  |(with_reducible exact ih0 _ _ _ _ _)
  |(with_reducible exact ih1 _ _ _ _ _ _ _)
  |(with_reducible exact ih2 _ _ _ _ _ _ _)
  |(with_reducible exact ih3 _ _ _ _ _ _ _)
  |(with_reducible exact ih4 _ _ _ _ _ _ _ _)
  |(with_reducible exact ih5 _ _ _ _ _ _ _)
  |(with_reducible exact marlinspikeref05_Digits.mono _ _ _)
  |(with_reducible exact marlinspikeref08_Right.mono _ _ _)
  |(with_reducible exact LeO.refl _)
  |(with_reducible exact LeO.none _)
  |(with_reducible refine LeO.ite ?_ ?_)
  |(with_reducible refine LeO.bind ?_ (fun _ => ?_))
  |exact ih0 _ _ _ _ _
  |exact ih1 _ _ _ _ _ _ _
  |exact ih2 _ _ _ _ _ _ _
  |exact ih3 _ _ _ _ _ _ _
  |exact ih4 _ _ _ _ _ _ _ _
  |exact ih5 _ _ _ _ _ _ _
  |exact marlinspikeref05_Digits.mono _ _ _
  |exact marlinspikeref08_Right.mono _ _ _
  |exact LeO.none _
  |refine LeO.ite ?_ ?_
  |refine LeO.bind ?_ (fun _ => ?_)
set_option maxHeartbeats 8000000 in
set_option maxRecDepth 100000 in
theorem marlinspikeref08_Format.calls (k : Nat) (A0_0 : Option Addr) (c0_0 : Nat) (l0_0 : List Int) (a0_1 : Int) (r1 : ByteArray) (r2 : Int) (w : World) (hr0_0 : Kd.C (Kd.int .i64) w A0_0 l0_0.length l0_0) (hc0_0 : l0_0.length ≤ c0_0) (h : marlinspikeref08_Format.f k l0_0 a0_1 = some (r1,r2)) :
  Calls Tryd.prog 10 #[.agg #[.slice A0_0 l0_0.length c0_0,.int .i64 a0_1]] w fun e w' => e = .returned (.tuple #[.string r1,.int .i64 r2])∧Below w.heap.size w w':=by
 (have hu24:=Tryd.underlying24);(have HR0_0:=Aside0.mk hr0_0);(have HC0_0:=Aside0.mk hc0_0);(clear hr0_0 hc0_0);(have HB:=Aside0.mk (Below.refl w.heap.size w));(have H : ((marlinspikeref08_Right.f k l0_0 a0_1).bind fun t154 => (if t154 = true then (marlinspikeref08_Format.l0 k (⟨#[]⟩ : ByteArray) l0_0 0 l0_0 a0_1) else (some ((⟨#[]⟩ : ByteArray),3)))) = some (r1,r2):=h);(clear h);(replace H:=Option.bind_eq_some_iff.mp H);(obtain ⟨t154,A20,H⟩:=H);(replace H : (if t154 = true then (marlinspikeref08_Format.l0 k (⟨#[]⟩ : ByteArray) l0_0 0 l0_0 a0_1) else (some ((⟨#[]⟩ : ByteArray),3))) = some (r1,r2):=H);(have A2:=Aside0.mk A20);(clear A20);(by_cases c3 : t154 = true)
 ·(subst c3);(have H1 : (marlinspikeref08_Format.l0 k (⟨#[]⟩ : ByteArray) l0_0 0 l0_0 a0_1) = some (r1,r2):=by rw [if_pos rfl] at H;exact H);(clear H);(have H:=H1);(clear H1);(have H':=Aside0.mk H);(clear H);(go_enter Tryd.func10,Tryd.ntmps10);(go_wp2_with (first|((with_reducible refine gate_dst (N:=1) rfl ?_);refine box_event ?hg (N:=1) ?hd (cs:=#[.slice A0_0 l0_0.length c0_0,.int .i64 a0_1]) (t:=24) ?hr ?_;(case hd => rfl);(case hg => rfl);(case hr => first|(go_simp;done)|(go_simp;rfl));intro gb153 hg w4 hbox hb;have n0_:=Aside0.mk (below_step (by repeat (first|(with_reducible first|exact HB.out|apply below_alloc|apply pw_below_drewN|apply below_drew1)|exact HB.out)) hb);have n1_:=Aside0.mk (hbox);have n2_:=Aside0.mk ((by rw [hg];exact (below_size (by repeat (first|(with_reducible first|exact HB.out|apply below_alloc|apply pw_below_drewN|apply below_drew1)|exact HB.out))) : w.heap.size ≤ gb153));have n3_:=Aside0.mk ((by rw [hg];exact (below_size (by repeat (first|(with_reducible first|exact HB.out|apply below_alloc|apply pw_below_drewN|apply below_drew1)|exact HB.out))) : w.heap.size ≤ gb153));clear HB;have HB:=n0_;have BK153:=n1_;have GW153:=n2_;have GE153:=n3_;clear n0_ n1_ n2_ n3_;clear hb hbox hg;have hcz5_0 : w4.cell? ⟨gb153,0,none⟩ = some (.slice A0_0 l0_0.length c0_0):=(blk_cell BK153.out 0).trans rfl;have hcz5_1 : w4.cell? ⟨gb153,1,none⟩ = some (.int .i64 a0_1):=(blk_cell BK153.out 1).trans rfl;have hfz5_0:=blk_frozen BK153.out 0;have hfz5_1:=blk_frozen BK153.out 1)|(go_at_call 12;(with_reducible refine (marlinspikeref08_Right.calls k _ _ l0_0 a0_1 true _ ?side1 ?side2 A2.out).mono ?_);(case side1 => repeat (first|exact (Kd.C_below HR0_0.out HB.out)|(with_reducible refine Kd.C_alloc ?_ _)|(with_reducible refine Kd.C_drewN ?_ _)|(with_reducible refine Kd.C_drew ?_)));(case side2 => exact HC0_0.out);rintro e w6 ⟨rfl,hb⟩;have n0_:=Aside0.mk (blk_below (g:=gb153) (o:=.cells #[.slice A0_0 l0_0.length c0_0,.int .i64 a0_1] 24 (0,0)) (by (with_reducible repeat (first|refine blk_drewN ?_ _|refine blk_drew ?_|refine blk_alloc ?_ _));exact BK153.out) hb);have n1_:=Aside0.mk (below_step (by repeat (first|(with_reducible first|exact HB.out|apply below_alloc|apply pw_below_drewN|apply below_drew1|refine below_set ?_ GE153.out)|exact HB.out)) hb);clear BK153;clear HB;have BK153:=n0_;have HB:=n1_;clear n0_ n1_;(try clear hb);(try clear hb2);(try clear hk);(try clear hi);have hcz7_0 : w6.cell? ⟨gb153,0,none⟩ = some (.slice A0_0 l0_0.length c0_0):=(blk_cell BK153.out 0).trans rfl;have hcz7_1 : w6.cell? ⟨gb153,1,none⟩ = some (.int .i64 a0_1):=(blk_cell BK153.out 1).trans rfl;have hfz7_0:=blk_frozen BK153.out 0;have hfz7_1:=blk_frozen BK153.out 1)))
  repeat (go_quiet (first|((with_reducible refine gate_dst (N:=1) rfl ?_);refine box_event ?hg (N:=1) ?hd (cs:=#[.slice A0_0 l0_0.length c0_0,.int .i64 a0_1]) (t:=24) ?hr ?_;(case hd => rfl);(case hg => rfl);(case hr => first|(go_simp;done)|(go_simp;rfl));intro gb153 hg w4 hbox hb;have n0_:=Aside0.mk (below_step (by repeat (first|(with_reducible first|exact HB.out|apply below_alloc|apply pw_below_drewN|apply below_drew1)|exact HB.out)) hb);have n1_:=Aside0.mk (hbox);have n2_:=Aside0.mk ((by rw [hg];exact (below_size (by repeat (first|(with_reducible first|exact HB.out|apply below_alloc|apply pw_below_drewN|apply below_drew1)|exact HB.out))) : w.heap.size ≤ gb153));have n3_:=Aside0.mk ((by rw [hg];exact (below_size (by repeat (first|(with_reducible first|exact HB.out|apply below_alloc|apply pw_below_drewN|apply below_drew1)|exact HB.out))) : w.heap.size ≤ gb153));clear HB;have HB:=n0_;have BK153:=n1_;have GW153:=n2_;have GE153:=n3_;clear n0_ n1_ n2_ n3_;clear hb hbox hg;have hcz5_0 : w4.cell? ⟨gb153,0,none⟩ = some (.slice A0_0 l0_0.length c0_0):=(blk_cell BK153.out 0).trans rfl;have hcz5_1 : w4.cell? ⟨gb153,1,none⟩ = some (.int .i64 a0_1):=(blk_cell BK153.out 1).trans rfl;have hfz5_0:=blk_frozen BK153.out 0;have hfz5_1:=blk_frozen BK153.out 1)|(go_at_call 12;(with_reducible refine (marlinspikeref08_Right.calls k _ _ l0_0 a0_1 true _ ?side1 ?side2 A2.out).mono ?_);(case side1 => repeat (first|exact (Kd.C_below HR0_0.out HB.out)|(with_reducible refine Kd.C_alloc ?_ _)|(with_reducible refine Kd.C_drewN ?_ _)|(with_reducible refine Kd.C_drew ?_)));(case side2 => exact HC0_0.out);rintro e w6 ⟨rfl,hb⟩;have n0_:=Aside0.mk (blk_below (g:=gb153) (o:=.cells #[.slice A0_0 l0_0.length c0_0,.int .i64 a0_1] 24 (0,0)) (by (with_reducible repeat (first|refine blk_drewN ?_ _|refine blk_drew ?_|refine blk_alloc ?_ _));exact BK153.out) hb);have n1_:=Aside0.mk (below_step (by repeat (first|(with_reducible first|exact HB.out|apply below_alloc|apply pw_below_drewN|apply below_drew1|refine below_set ?_ GE153.out)|exact HB.out)) hb);clear BK153;clear HB;have BK153:=n0_;have HB:=n1_;clear n0_ n1_;(try clear hb);(try clear hb2);(try clear hk);(try clear hi);have hcz7_0 : w6.cell? ⟨gb153,0,none⟩ = some (.slice A0_0 l0_0.length c0_0):=(blk_cell BK153.out 0).trans rfl;have hcz7_1 : w6.cell? ⟨gb153,1,none⟩ = some (.int .i64 a0_1):=(blk_cell BK153.out 1).trans rfl;have hfz7_0:=blk_frozen BK153.out 0;have hfz7_1:=blk_frozen BK153.out 1));try go_wp2_with (first|((with_reducible refine gate_dst (N:=1) rfl ?_);refine box_event ?hg (N:=1) ?hd (cs:=#[.slice A0_0 l0_0.length c0_0,.int .i64 a0_1]) (t:=24) ?hr ?_;(case hd => rfl);(case hg => rfl);(case hr => first|(go_simp;done)|(go_simp;rfl));intro gb153 hg w4 hbox hb;have n0_:=Aside0.mk (below_step (by repeat (first|(with_reducible first|exact HB.out|apply below_alloc|apply pw_below_drewN|apply below_drew1)|exact HB.out)) hb);have n1_:=Aside0.mk (hbox);have n2_:=Aside0.mk ((by rw [hg];exact (below_size (by repeat (first|(with_reducible first|exact HB.out|apply below_alloc|apply pw_below_drewN|apply below_drew1)|exact HB.out))) : w.heap.size ≤ gb153));have n3_:=Aside0.mk ((by rw [hg];exact (below_size (by repeat (first|(with_reducible first|exact HB.out|apply below_alloc|apply pw_below_drewN|apply below_drew1)|exact HB.out))) : w.heap.size ≤ gb153));clear HB;have HB:=n0_;have BK153:=n1_;have GW153:=n2_;have GE153:=n3_;clear n0_ n1_ n2_ n3_;clear hb hbox hg;have hcz5_0 : w4.cell? ⟨gb153,0,none⟩ = some (.slice A0_0 l0_0.length c0_0):=(blk_cell BK153.out 0).trans rfl;have hcz5_1 : w4.cell? ⟨gb153,1,none⟩ = some (.int .i64 a0_1):=(blk_cell BK153.out 1).trans rfl;have hfz5_0:=blk_frozen BK153.out 0;have hfz5_1:=blk_frozen BK153.out 1)|(go_at_call 12;(with_reducible refine (marlinspikeref08_Right.calls k _ _ l0_0 a0_1 true _ ?side1 ?side2 A2.out).mono ?_);(case side1 => repeat (first|exact (Kd.C_below HR0_0.out HB.out)|(with_reducible refine Kd.C_alloc ?_ _)|(with_reducible refine Kd.C_drewN ?_ _)|(with_reducible refine Kd.C_drew ?_)));(case side2 => exact HC0_0.out);rintro e w6 ⟨rfl,hb⟩;have n0_:=Aside0.mk (blk_below (g:=gb153) (o:=.cells #[.slice A0_0 l0_0.length c0_0,.int .i64 a0_1] 24 (0,0)) (by (with_reducible repeat (first|refine blk_drewN ?_ _|refine blk_drew ?_|refine blk_alloc ?_ _));exact BK153.out) hb);have n1_:=Aside0.mk (below_step (by repeat (first|(with_reducible first|exact HB.out|apply below_alloc|apply pw_below_drewN|apply below_drew1|refine below_set ?_ GE153.out)|exact HB.out)) hb);clear BK153;clear HB;have BK153:=n0_;have HB:=n1_;clear n0_ n1_;(try clear hb);(try clear hb2);(try clear hk);(try clear hi);have hcz7_0 : w6.cell? ⟨gb153,0,none⟩ = some (.slice A0_0 l0_0.length c0_0):=(blk_cell BK153.out 0).trans rfl;have hcz7_1 : w6.cell? ⟨gb153,1,none⟩ = some (.int .i64 a0_1):=(blk_cell BK153.out 1).trans rfl;have hfz7_0:=blk_frozen BK153.out 0;have hfz7_1:=blk_frozen BK153.out 1)))
  (go_loopg [4,6] k (fun kq v4 v6 w' => ∃ (x4_1 : ByteArray) (x6_1 : Int),v4 = .string x4_1∧v6 = .int .i64 x6_1∧Aside0 (marlinspikeref08_Format.l0 kq x4_1 l0_0 x6_1 l0_0 a0_1 = some (r1,r2))∧Aside0 (kq ≤ k)∧Aside0 (w'.heap[gb153]? = some (.cells #[(.slice A0_0 l0_0.length c0_0),.int .i64 a0_1] 24 (0,0)))∧Aside0 (Below w.heap.size w w')))
  case atStart => exact ⟨((⟨#[]⟩ : ByteArray)),(0),(by first|rfl|(simp;done)|(simp [*];done)),(by first|rfl|(simp;done)|(simp [*];done)),H',⟨Nat.le_refl _⟩,⟨by (with_reducible repeat (first|refine blk_drewN ?_ _|refine blk_drew ?_|refine blk_alloc ?_ _));exact BK153.out⟩,⟨by repeat (first|(with_reducible first|exact HB.out|apply below_alloc|apply pw_below_drewN|apply below_drew1|refine below_set ?_ GE153.out)|exact HB.out)⟩⟩
  case round =>
   (clear H');(try clear c1);(try clear p2);(try clear c3);(try clear hcz5_0);(try clear hcz5_1);(try clear hcz7_0);(try clear hcz7_1);(try clear hfz5_0);(try clear hfz5_1);(try clear hfz7_0);(try clear hfz7_1);(obtain ⟨x4_1,x6_1,rfl,rfl,HA,HK1,BK153,HB⟩:=hrel)
   cases gk with
  |zero => exact absurd HA.out (by simp [marlinspikeref08_Format.l0])
  |succ k1 =>
    (have H:=HA.out);(clear HA);(simp only [marlinspikeref08_Format.l0] at H);(by_cases c8 : x6_1 < (l0_0.length : Int))
    ·(rw [if_pos c8] at H);(have c8b0 : decide (x6_1 < (l0_0.length : Int)) = true:=decide_eq_true c8);(clear c8);(have HC9:=Aside0.mk H);(clear H);(go_upto_if 24 with (fail))
     repeat (go_quiet (fail);go_upto_if 24 with (fail))
     (go_cut [8] (fun v8 wc => ∃ (kq : Nat) (x8_8 : Int),v8 = .int .i64 x8_8∧Aside0 (marlinspikeref08_Format.j1 kq x4_1 l0_0 x6_1 (wrap64 (x6_1 + 1)) x8_8 l0_0 a0_1 = some (r1,r2))∧Aside0 (kq ≤ k1)∧Aside0 (wc.heap[gb153]? = some (.cells #[(.slice A0_0 l0_0.length c0_0),.int .i64 a0_1] 24 (0,0)))∧Aside0 (Below w.heap.size w wc)))
     case first =>
      (have H:=HC9.out);(clear HC9);(by_cases c10 : (wrap64 (x6_1 + 1)) < (l0_0.length : Int))
      ·(rw [if_pos c10] at H);(have c10b0 : decide ((wrap64 (x6_1 + 1)) < (l0_0.length : Int)) = true:=decide_eq_true c10);(clear c10);((first|rw [c10b0]|(simp only [i64_w,i32_w];rw [c10b0])|skip));(obtain ⟨ji11,hji11⟩ : ∃ j_ : Int,(wrap64 (x6_1 + 1)) = j_:=⟨_,rfl⟩);(replace H : (if 0 ≤ (ji11) then (if 0 ≤ x6_1 then (marlinspikeref08_Format.j1 k1 x4_1 l0_0 x6_1 ji11 (wrap64 ((rd l0_0 (ji11)) - (rd l0_0 x6_1))) l0_0 a0_1) else (none)) else (none)) = some (r1,r2):=by first|(rw [hji11] at H;exact H)|(simp only [hji11] at H ⊢;exact H));((try rw [hji11] at c10b0));(have hji11w : (IntKind.i64.wrap (x6_1 + 1)) = ji11:=(i64_w _).trans hji11);(by_cases c12 : 0 ≤ (ji11))
       ·(rw [if_pos c12] at H);(have c12b0 : decide (0 ≤ (ji11)) = true:=decide_eq_true c12);(clear c12);(by_cases c13 : 0 ≤ x6_1)
        ·(rw [if_pos c13] at H);(have c13b0 : decide (0 ≤ x6_1) = true:=decide_eq_true c13);(clear c13);(have H':=Aside0.mk H);(clear H);(have p156 : 0 ≤ ((ji11) : Int):=of_decide_eq_true (by first|(with_reducible assumption)|assumption));(have q156 : (ji11) < (l0_0.length : Int):=of_decide_eq_true (by first|(with_reducible assumption)|assumption));(obtain ⟨ad156,e156,hx156_0⟩:=Kd.at_int HR0_0.out (ji11) p156 q156)
         cases e156
         (replace hx156_0:=(HB.out.cell (World.block_lt_of_cell? w _ hx156_0)).trans hx156_0);(replace p156:=eq_true p156);(replace q156:=eq_true q156);(have p157 : 0 ≤ (x6_1 : Int):=of_decide_eq_true (by first|(with_reducible assumption)|assumption));(have q157 : x6_1 < (l0_0.length : Int):=of_decide_eq_true (by first|(with_reducible assumption)|assumption));(obtain ⟨ad157,e157,hx157_0⟩:=Kd.at_int HR0_0.out x6_1 p157 q157);(obtain rfl : ad156 = ad157:=(by injection e157));(replace hx157_0:=(HB.out.cell (World.block_lt_of_cell? w _ hx157_0)).trans hx157_0);(replace p157:=eq_true p157);(replace q157:=eq_true q157);(go_wp2)
         repeat (go_quiet (fail);try go_wp2)
         (subst hji11);(go_meet)
         case rel => exact ⟨_,(wrap64 ((rd l0_0 ((wrap64 (x6_1 + 1)))) - (rd l0_0 x6_1))),(by first|rfl|(simp;done)|rfl|(simp [*];done)),H',⟨by have:=HK1.out;first|omega|exact Nat.le_refl _⟩,⟨by (with_reducible repeat (first|refine blk_drewN ?_ _|refine blk_drew ?_|refine blk_alloc ?_ _));exact BK153.out⟩,⟨by repeat (first|(with_reducible first|exact HB.out|apply below_alloc|apply pw_below_drewN|apply below_drew1|refine below_set ?_ GE153.out)|exact HB.out)⟩⟩
        ·(rw [if_neg c13] at H);(exact absurd H (by simp))
       ·(rw [if_neg c12] at H);(exact absurd H (by simp))
      ·(rw [if_neg c10] at H);(have c10b0 : decide ((wrap64 (x6_1 + 1)) < (l0_0.length : Int)) = false:=decide_eq_false c10);(clear c10);((first|rw [c10b0]|(simp only [i64_w,i32_w];rw [c10b0])|skip));(have H':=Aside0.mk H);(clear H);(go_wp2)
       repeat (go_quiet (fail);try go_wp2)
       (go_meet)
       case rel => exact ⟨_,(0),(by first|rfl|(simp;done)|(simp [*];done)),H',⟨by have:=HK1.out;first|omega|exact Nat.le_refl _⟩,⟨by (with_reducible repeat (first|refine blk_drewN ?_ _|refine blk_drew ?_|refine blk_alloc ?_ _));exact BK153.out⟩,⟨by repeat (first|(with_reducible first|exact HB.out|apply below_alloc|apply pw_below_drewN|apply below_drew1|refine below_set ?_ GE153.out)|exact HB.out)⟩⟩
     case rest =>
      (clear HC9);(try clear c1);(try clear p1);(try clear q1);(try clear hx1);(try clear p2);(try clear c3);(try clear p6);(try clear c8);(try clear c8b0);(try clear c10);(try clear c10b0);(try clear c12);(try clear c12b0);(try clear c13);(try clear c13b0);(try clear hcz5_0);(try clear hcz5_1);(try clear hcz7_0);(try clear hcz7_1);(try clear hfz5_0);(try clear hfz5_1);(try clear hfz7_0);(try clear hfz7_1);(try clear hx156_0);(try clear hx157_0);(try clear p156);(try clear p157);(try clear p2);(try clear q156);(try clear q157);(obtain ⟨kq,x8_8,rfl,HA,HJ8,BK153,HB⟩:=hcut)
      cases kq with
     |zero => exact absurd HA.out (by simp [marlinspikeref08_Format.j1])
     |succ kj8 =>
       (have H:=HA.out);(clear HA);(simp only [marlinspikeref08_Format.j1] at H);(have HC14:=Aside0.mk H);(clear H);(go_upto_block 2 with (fail))
       repeat (go_quiet (fail);go_upto_block 2 with (fail))
       (go_cut [7] (fun v7 wc => ∃ (kq : Nat) (x7_13 : Int),v7 = .int .i64 x7_13∧Aside0 (marlinspikeref08_Format.j3 kq x4_1 l0_0 x6_1 x7_13 x8_8 l0_0 a0_1 = some (r1,r2))∧Aside0 (kq ≤ kj8)∧Aside0 (wc.heap[gb153]? = some (.cells #[(.slice A0_0 l0_0.length c0_0),.int .i64 a0_1] 24 (0,0)))∧Aside0 (Below w.heap.size w wc)))
       case first =>
        (have H:=HC14.out);(clear HC14);(have H':=Aside0.mk H);(clear H);(go_wp2)
        repeat (go_quiet (fail);try go_wp2)
        (go_loopg [7] kj8 (fun kq v7 w' => ∃ (x7_3 : Int),v7 = .int .i64 x7_3∧Aside0 (marlinspikeref08_Format.l1 kq x4_1 l0_0 x6_1 x7_3 x8_8 l0_0 a0_1 = some (r1,r2))∧Aside0 (kq ≤ kj8)∧Aside0 (w'.heap[gb153]? = some (.cells #[(.slice A0_0 l0_0.length c0_0),.int .i64 a0_1] 24 (0,0)))∧Aside0 (Below w.heap.size w w')))
        case atStart => exact ⟨((wrap64 (x6_1 + 1))),(by first|rfl|(simp;done)|(simp [*];done)),H',⟨Nat.le_refl _⟩,⟨by (with_reducible repeat (first|refine blk_drewN ?_ _|refine blk_drew ?_|refine blk_alloc ?_ _));exact BK153.out⟩,⟨by repeat (first|(with_reducible first|exact HB.out|apply below_alloc|apply pw_below_drewN|apply below_drew1|refine below_set ?_ GE153.out)|exact HB.out)⟩⟩
        case round =>
         (clear H');(try clear c1);(try clear p1);(try clear q1);(try clear hx1);(try clear p2);(try clear c3);(try clear p6);(try clear c8);(try clear c8b0);(try clear c10);(try clear c10b0);(try clear c12);(try clear c12b0);(try clear c13);(try clear c13b0);(try clear hcz5_0);(try clear hcz5_1);(try clear hcz7_0);(try clear hcz7_1);(try clear hfz5_0);(try clear hfz5_1);(try clear hfz7_0);(try clear hfz7_1);(try clear hx156_0);(try clear hx157_0);(try clear p1);(try clear p156);(try clear p157);(try clear p2);(try clear p6);(try clear q1);(try clear q156);(try clear q157);(obtain ⟨x7_3,rfl,HA,HK3,BK153,HB⟩:=hrel)
         cases gk with
        |zero => exact absurd HA.out (by simp [marlinspikeref08_Format.l1])
        |succ k3 =>
          (have H:=HA.out);(clear HA);(simp only [marlinspikeref08_Format.l1] at H);(by_cases c15 : x7_3 < (l0_0.length : Int))
          ·(rw [if_pos c15] at H);(have c15b0 : decide (x7_3 < (l0_0.length : Int)) = true:=decide_eq_true c15);(clear c15);((first|rw [c15b0]|(simp only [i64_w,i32_w];rw [c15b0])|skip));(by_cases c16 : 0 ≤ x7_3)
           ·(rw [if_pos c16] at H);(have c16b0 : decide (0 ≤ x7_3) = true:=decide_eq_true c16);(clear c16);(obtain ⟨ji17,hji17⟩ : ∃ j_ : Int,(wrap64 (x7_3 - 1)) = j_:=⟨_,rfl⟩);(replace H : (if 0 ≤ (ji17) then (if (ji17) < (l0_0.length : Int) then (if (wrap64 ((rd l0_0 x7_3) - (rd l0_0 (ji17)))) = x8_8 then (marlinspikeref08_Format.l1 k3 x4_1 l0_0 x6_1 (wrap64 (x7_3 + 1)) x8_8 l0_0 a0_1) else (marlinspikeref08_Format.j3 k3 x4_1 l0_0 x6_1 x7_3 x8_8 l0_0 a0_1)) else (none)) else (none)) = some (r1,r2):=by first|(rw [hji17] at H;exact H)|(simp only [hji17] at H ⊢;exact H));(have hji17w : (IntKind.i64.wrap (x7_3 - 1)) = ji17:=(i64_w _).trans hji17);(by_cases c18 : 0 ≤ (ji17))
            ·(rw [if_pos c18] at H);(have c18b0 : decide (0 ≤ (ji17)) = true:=decide_eq_true c18);(clear c18);(by_cases c19 : (ji17) < (l0_0.length : Int))
             ·(rw [if_pos c19] at H);(have c19b0 : decide ((ji17) < (l0_0.length : Int)) = true:=decide_eq_true c19);(clear c19);(by_cases c20 : (wrap64 ((rd l0_0 x7_3) - (rd l0_0 (ji17)))) = x8_8)
              ·(rw [if_pos c20] at H);(have c20b0 : ((wrap64 ((rd l0_0 x7_3) - (rd l0_0 (ji17)))) == x8_8) = true:=beq_iff_eq.mpr c20);(have c20b1 : ((wrap64 ((rd l0_0 x7_3) - (rd l0_0 (ji17)))) != x8_8) = false:=bne_eq_false_iff_eq.mpr c20);(clear c20);(have H':=Aside0.mk H);(clear H);(have p158 : 0 ≤ (x7_3 : Int):=of_decide_eq_true (by first|(with_reducible assumption)|assumption));(have q158 : x7_3 < (l0_0.length : Int):=of_decide_eq_true (by first|(with_reducible assumption)|assumption));(obtain ⟨ad158,e158,hx158_0⟩:=Kd.at_int HR0_0.out x7_3 p158 q158)
               cases e158
               (replace hx158_0:=(HB.out.cell (World.block_lt_of_cell? w _ hx158_0)).trans hx158_0);(replace p158:=eq_true p158);(replace q158:=eq_true q158);(have p159 : 0 ≤ ((ji17) : Int):=of_decide_eq_true (by first|(with_reducible assumption)|assumption));(have q159 : (ji17) < (l0_0.length : Int):=of_decide_eq_true (by first|(with_reducible assumption)|assumption));(obtain ⟨ad159,e159,hx159_0⟩:=Kd.at_int HR0_0.out (ji17) p159 q159);(obtain rfl : ad158 = ad159:=(by injection e159));(replace hx159_0:=(HB.out.cell (World.block_lt_of_cell? w _ hx159_0)).trans hx159_0);(replace p159:=eq_true p159);(replace q159:=eq_true q159);(go_wp2)
               repeat (go_quiet (fail);try go_wp2)
               (go_roundg k3)
               case measure => have:=HK1.out;have:=HJ8.out;have:=HK3.out;omega
               case rel => exact ⟨(wrap64 (x7_3 + 1)),(by first|rfl|(simp;done)|(simp [*];done)),H',⟨by have:=HK1.out;have:=HJ8.out;have:=HK3.out;omega⟩,⟨by (with_reducible repeat (first|refine blk_drewN ?_ _|refine blk_drew ?_|refine blk_alloc ?_ _));exact BK153.out⟩,⟨by repeat (first|(with_reducible first|exact HB.out|apply below_alloc|apply pw_below_drewN|apply below_drew1|refine below_set ?_ GE153.out)|exact HB.out)⟩⟩
              ·(rw [if_neg c20] at H);(have c20b0 : ((wrap64 ((rd l0_0 x7_3) - (rd l0_0 (ji17)))) == x8_8) = false:=beq_eq_false_iff_ne.mpr c20);(have c20b1 : ((wrap64 ((rd l0_0 x7_3) - (rd l0_0 (ji17)))) != x8_8) = true:=bne_iff_ne.mpr c20);(have H':=Aside0.mk H);(clear H);(have p158 : 0 ≤ (x7_3 : Int):=of_decide_eq_true (by first|(with_reducible assumption)|assumption));(have q158 : x7_3 < (l0_0.length : Int):=of_decide_eq_true (by first|(with_reducible assumption)|assumption));(obtain ⟨ad158,e158,hx158_0⟩:=Kd.at_int HR0_0.out x7_3 p158 q158)
               cases e158
               (replace hx158_0:=(HB.out.cell (World.block_lt_of_cell? w _ hx158_0)).trans hx158_0);(replace p158:=eq_true p158);(replace q158:=eq_true q158);(have p159 : 0 ≤ ((ji17) : Int):=of_decide_eq_true (by first|(with_reducible assumption)|assumption));(have q159 : (ji17) < (l0_0.length : Int):=of_decide_eq_true (by first|(with_reducible assumption)|assumption));(obtain ⟨ad159,e159,hx159_0⟩:=Kd.at_int HR0_0.out (ji17) p159 q159);(obtain rfl : ad158 = ad159:=(by injection e159));(replace hx159_0:=(HB.out.cell (World.block_lt_of_cell? w _ hx159_0)).trans hx159_0);(replace p159:=eq_true p159);(replace q159:=eq_true q159);(go_wp2)
               repeat (go_quiet (fail);try go_wp2)
               (go_meet)
               case rel => exact ⟨_,(x7_3),(by first|rfl|(simp;done)|(simp [*];done)),H',⟨by have:=HK1.out;have:=HJ8.out;have:=HK3.out;first|omega|exact Nat.le_refl _⟩,⟨by (with_reducible repeat (first|refine blk_drewN ?_ _|refine blk_drew ?_|refine blk_alloc ?_ _));exact BK153.out⟩,⟨by repeat (first|(with_reducible first|exact HB.out|apply below_alloc|apply pw_below_drewN|apply below_drew1|refine below_set ?_ GE153.out)|exact HB.out)⟩⟩
             ·(rw [if_neg c19] at H);(exact absurd H (by simp))
            ·(rw [if_neg c18] at H);(exact absurd H (by simp))
           ·(rw [if_neg c16] at H);(exact absurd H (by simp))
          ·(rw [if_neg c15] at H);(have c15b0 : decide (x7_3 < (l0_0.length : Int)) = false:=decide_eq_false c15);(clear c15);((first|rw [c15b0]|(simp only [i64_w,i32_w];rw [c15b0])|skip));(have H':=Aside0.mk H);(clear H);(go_wp2)
           repeat (go_quiet (fail);try go_wp2)
           (go_meet)
           case rel => exact ⟨_,(x7_3),(by first|rfl|(simp;done)|(simp [*];done)),H',⟨by have:=HK1.out;have:=HJ8.out;have:=HK3.out;first|omega|exact Nat.le_refl _⟩,⟨by (with_reducible repeat (first|refine blk_drewN ?_ _|refine blk_drew ?_|refine blk_alloc ?_ _));exact BK153.out⟩,⟨by repeat (first|(with_reducible first|exact HB.out|apply below_alloc|apply pw_below_drewN|apply below_drew1|refine below_set ?_ GE153.out)|exact HB.out)⟩⟩
       case rest =>
        (clear HC14);(try clear c1);(try clear p1);(try clear q1);(try clear hx1);(try clear c2);(try clear p2);(try clear c3);(try clear p6);(try clear c8);(try clear c8b0);(try clear c10);(try clear c10b0);(try clear c12);(try clear c12b0);(try clear c13);(try clear c13b0);(try clear c15);(try clear c15b0);(try clear p15);(try clear q15);(try clear hx15);(try clear c16);(try clear c16b0);(try clear c18);(try clear c18b0);(try clear c19);(try clear c19b0);(try clear c20);(try clear c20b0);(try clear c20b1);(try clear hcz5_0);(try clear hcz5_1);(try clear hcz7_0);(try clear hcz7_1);(try clear hfz5_0);(try clear hfz5_1);(try clear hfz7_0);(try clear hfz7_1);(try clear hx156_0);(try clear hx157_0);(try clear hx158_0);(try clear hx159_0);(try clear p1);(try clear p156);(try clear p157);(try clear p158);(try clear p159);(try clear p2);(try clear p6);(try clear q1);(try clear q156);(try clear q157);(try clear q158);(try clear q159);(obtain ⟨kq,x7_13,rfl,HA,HJ13,BK153,HB⟩:=hcut)
        cases kq with
       |zero => exact absurd HA.out (by simp [marlinspikeref08_Format.j3])
       |succ kj13 =>
         (have H:=HA.out);(clear HA);(simp only [marlinspikeref08_Format.j3] at H);(have HC21:=Aside0.mk H);(clear H);(go_upto_if 55 with (fail))
         repeat (go_quiet (fail);go_upto_if 55 with (fail))
         (go_cut [4] (fun v4 wc => ∃ (kq : Nat) (x4_20 : ByteArray),v4 = .string x4_20∧Aside0 (marlinspikeref08_Format.j4 kq x4_20 l0_0 x6_1 x7_13 x8_8 l0_0 a0_1 = some (r1,r2))∧Aside0 (kq ≤ kj13)∧Aside0 (wc.heap[gb153]? = some (.cells #[(.slice A0_0 l0_0.length c0_0),.int .i64 a0_1] 24 (0,0)))∧Aside0 (Below w.heap.size w wc)))
         case first =>
          (have H:=HC21.out);(clear HC21);(by_cases c22 : x4_1.toList = ([] : List UInt8))
          ·(rw [if_pos c22] at H);(have c22b0 : (x4_1.toList == ([] : List UInt8)) = true:=beq_iff_eq.mpr c22);(have c22b5 : (!x4_1.toList.isEmpty) = false:=by rw [c22];rfl);(rw [c22b5]);(have c22b1 : (x4_1.toList != ([] : List UInt8)) = false:=bne_eq_false_iff_eq.mpr c22);(clear c22);((first|rw [c22b0]|(simp only [i64_w,i32_w];rw [c22b0])|skip));(have H':=Aside0.mk H);(clear H);(go_wp2)
           repeat (go_quiet (fail);try go_wp2)
           (go_meet)
           case rel => exact ⟨_,(x4_1),(by first|rfl|(simp;done)|(simp [*];done)),H',⟨by have:=HK1.out;have:=HJ8.out;have:=HJ13.out;first|omega|exact Nat.le_refl _⟩,⟨by (with_reducible repeat (first|refine blk_drewN ?_ _|refine blk_drew ?_|refine blk_alloc ?_ _));exact BK153.out⟩,⟨by repeat (first|(with_reducible first|exact HB.out|apply below_alloc|apply pw_below_drewN|apply below_drew1|refine below_set ?_ GE153.out)|exact HB.out)⟩⟩
          ·(rw [if_neg c22] at H);(have c22b0 : (x4_1.toList == ([] : List UInt8)) = false:=beq_eq_false_iff_ne.mpr c22);(have c22b5 : (!x4_1.toList.isEmpty) = true:=by simpa using c22);(rw [c22b5]);(have c22b1 : (x4_1.toList != ([] : List UInt8)) = true:=bne_iff_ne.mpr c22);((first|rw [c22b0]|(simp only [i64_w,i32_w];rw [c22b0])|skip));(by_cases c23 : x4_1.size + 1 ≤ 9223372036854775807)
           ·(rw [if_pos c23] at H);(have c23b0:=eq_true c23);(have c23b1 : decide (x4_1.size + 1 ≤ 9223372036854775807) = true:=decide_eq_true c23);(try have c23b2 : (9223372036854775807 < x4_1.size + 1) = False:=eq_false (Nat.not_lt.2 c23));(have H':=Aside0.mk H);(clear H);(go_wp2)
            repeat (go_quiet (fail);try go_wp2)
            (go_meet)
            case rel => exact ⟨_,(x4_1 ++ (⟨#[44]⟩ : ByteArray)),(by first|rfl|(simp;done)|(simp [*];done)),H',⟨by have:=HK1.out;have:=HJ8.out;have:=HJ13.out;first|omega|exact Nat.le_refl _⟩,⟨by (with_reducible repeat (first|refine blk_drewN ?_ _|refine blk_drew ?_|refine blk_alloc ?_ _));exact BK153.out⟩,⟨by repeat (first|(with_reducible first|exact HB.out|apply below_alloc|apply pw_below_drewN|apply below_drew1|refine below_set ?_ GE153.out)|exact HB.out)⟩⟩
           ·(rw [if_neg c23] at H);(exact absurd H (by simp))
         case rest =>
          (clear HC21);(try clear c1);(try clear p1);(try clear q1);(try clear hx1);(try clear c2);(try clear p2);(try clear c3);(try clear p6);(try clear c8);(try clear c8b0);(try clear c10);(try clear c10b0);(try clear c12);(try clear c12b0);(try clear c13);(try clear c13b0);(try clear c15);(try clear c15b0);(try clear p15);(try clear q15);(try clear hx15);(try clear c16);(try clear c16b0);(try clear c18);(try clear c18b0);(try clear c19);(try clear c19b0);(try clear c20);(try clear c20b0);(try clear c20b1);(try clear c22);(try clear c22b0);(try clear c22b1);(try clear c23);(try clear c23b0);(try clear c23b1);(try clear c23b2);(try clear hcz5_0);(try clear hcz5_1);(try clear hcz7_0);(try clear hcz7_1);(try clear hfz5_0);(try clear hfz5_1);(try clear hfz7_0);(try clear hfz7_1);(try clear hx156_0);(try clear hx157_0);(try clear hx158_0);(try clear hx159_0);(try clear p1);(try clear p15);(try clear p156);(try clear p157);(try clear p158);(try clear p159);(try clear p2);(try clear p6);(try clear q1);(try clear q15);(try clear q156);(try clear q157);(try clear q158);(try clear q159);(obtain ⟨kq,x4_20,rfl,HA,HJ20,BK153,HB⟩:=hcut)
          cases kq with
         |zero => exact absurd HA.out (by simp [marlinspikeref08_Format.j4])
         |succ kj20 =>
           (have H:=HA.out);(clear HA);(simp only [marlinspikeref08_Format.j4] at H);(by_cases c24 : 0 ≤ x6_1)
           ·(rw [if_pos c24] at H);(have c24b0 : decide (0 ≤ x6_1) = true:=decide_eq_true c24);(clear c24);(by_cases c25 : x6_1 < (l0_0.length : Int))
            ·(rw [if_pos c25] at H);(have c25b0 : decide (x6_1 < (l0_0.length : Int)) = true:=decide_eq_true c25);(clear c25);(replace H:=Option.bind_eq_some_iff.mp H);(obtain ⟨t161,A260,H⟩:=H);(replace H : (if x4_20.size + t161.size ≤ 9223372036854775807 then (if (wrap64 (x7_13 - x6_1)) ≥ 3 then (marlinspikeref08_Format.j5 kj20 (x4_20 ++ t161) l0_0 x6_1 x7_13 x8_8 true l0_0 a0_1) else (if (wrap64 (x7_13 - x6_1)) = 2 then (marlinspikeref08_Format.j5 kj20 (x4_20 ++ t161) l0_0 x6_1 x7_13 x8_8 (x8_8 == 1) l0_0 a0_1) else (marlinspikeref08_Format.j5 kj20 (x4_20 ++ t161) l0_0 x6_1 x7_13 x8_8 false l0_0 a0_1))) else (none)) = some (r1,r2):=H);(have A26:=Aside0.mk A260);(clear A260);(by_cases c27 : x4_20.size + t161.size ≤ 9223372036854775807)
             ·(rw [if_pos c27] at H);(have c27b0:=eq_true c27);(have c27b1 : decide (x4_20.size + t161.size ≤ 9223372036854775807) = true:=decide_eq_true c27);(try have c27b2 : (9223372036854775807 < x4_20.size + t161.size) = False:=eq_false (Nat.not_lt.2 c27));(have HC28:=Aside0.mk H);(clear H);(have p160 : 0 ≤ (x6_1 : Int):=of_decide_eq_true (by first|(with_reducible assumption)|assumption));(have q160 : x6_1 < (l0_0.length : Int):=of_decide_eq_true (by first|(with_reducible assumption)|assumption));(obtain ⟨ad160,e160,hx160_0⟩:=Kd.at_int HR0_0.out x6_1 p160 q160)
              cases e160
              (replace hx160_0:=(HB.out.cell (World.block_lt_of_cell? w _ hx160_0)).trans hx160_0);(replace p160:=eq_true p160);(replace q160:=eq_true q160);(go_upto_region 17 with (first|(go_at_call 21;(with_reducible refine (marlinspikeref05_Digits.calls kj20 (rd l0_0 x6_1) 0 t161 _ A26.out).mono ?_);rintro e w29 ⟨rfl,hb⟩;have n0_:=Aside0.mk (blk_below (g:=gb153) (o:=.cells #[.slice (some ad160) l0_0.length c0_0,.int .i64 a0_1] 24 (0,0)) (by (with_reducible repeat (first|refine blk_drewN ?_ _|refine blk_drew ?_|refine blk_alloc ?_ _));exact BK153.out) hb);have n1_:=Aside0.mk (below_step (by repeat (first|(with_reducible first|exact HB.out|apply below_alloc|apply pw_below_drewN|apply below_drew1|refine below_set ?_ GE153.out)|exact HB.out)) hb);clear BK153;clear HB;have BK153:=n0_;have HB:=n1_;clear n0_ n1_;(try clear hb);(try clear hb2);(try clear hk);(try clear hi))))
              repeat (go_quiet (first|(go_at_call 21;(with_reducible refine (marlinspikeref05_Digits.calls kj20 (rd l0_0 x6_1) 0 t161 _ A26.out).mono ?_);rintro e w29 ⟨rfl,hb⟩;have n0_:=Aside0.mk (blk_below (g:=gb153) (o:=.cells #[.slice (some ad160) l0_0.length c0_0,.int .i64 a0_1] 24 (0,0)) (by (with_reducible repeat (first|refine blk_drewN ?_ _|refine blk_drew ?_|refine blk_alloc ?_ _));exact BK153.out) hb);have n1_:=Aside0.mk (below_step (by repeat (first|(with_reducible first|exact HB.out|apply below_alloc|apply pw_below_drewN|apply below_drew1|refine below_set ?_ GE153.out)|exact HB.out)) hb);clear BK153;clear HB;have BK153:=n0_;have HB:=n1_;clear n0_ n1_;(try clear hb);(try clear hb2);(try clear hk);(try clear hi)));go_upto_region 17 with (first|(go_at_call 21;(with_reducible refine (marlinspikeref05_Digits.calls kj20 (rd l0_0 x6_1) 0 t161 _ A26.out).mono ?_);rintro e w29 ⟨rfl,hb⟩;have n0_:=Aside0.mk (blk_below (g:=gb153) (o:=.cells #[.slice (some ad160) l0_0.length c0_0,.int .i64 a0_1] 24 (0,0)) (by (with_reducible repeat (first|refine blk_drewN ?_ _|refine blk_drew ?_|refine blk_alloc ?_ _));exact BK153.out) hb);have n1_:=Aside0.mk (below_step (by repeat (first|(with_reducible first|exact HB.out|apply below_alloc|apply pw_below_drewN|apply below_drew1|refine below_set ?_ GE153.out)|exact HB.out)) hb);clear BK153;clear HB;have BK153:=n0_;have HB:=n1_;clear n0_ n1_;(try clear hb);(try clear hb2);(try clear hk);(try clear hi))))
              ((try simp only [Act.put,List.setIfInBounds_toArray,List.set_cons_zero,List.set_cons_succ]));(go_cut [77] (fun v77 wc => ∃ (kq : Nat) (x77_27 : Bool),v77 = .bool x77_27∧Aside0 (marlinspikeref08_Format.j5 kq (x4_20 ++ t161) l0_0 x6_1 x7_13 x8_8 x77_27 l0_0 a0_1 = some (r1,r2))∧Aside0 (kq ≤ kj20)∧Aside0 (wc.heap[gb153]? = some (.cells #[(.slice (some ad160) l0_0.length c0_0),.int .i64 a0_1] 24 (0,0)))∧Aside0 (Below w.heap.size w wc)))
              case first =>
               (have H:=HC28.out);(clear HC28);(by_cases c30 : (wrap64 (x7_13 - x6_1)) ≥ 3)
               ·(rw [if_pos c30] at H);(have c30b0 : decide (3 ≤ (wrap64 (x7_13 - x6_1))) = true:=decide_eq_true c30);(clear c30);((first|rw [c30b0]|(simp only [i64_w,i32_w];rw [c30b0])|skip));(have H':=Aside0.mk H);(clear H);(go_wp2)
                repeat (go_quiet (fail);try go_wp2)
                (go_meet)
                case rel => exact ⟨_,(true),(by first|rfl|(simp;done)|(simp [*];done)),H',⟨by have:=HK1.out;have:=HJ8.out;have:=HJ13.out;have:=HJ20.out;first|omega|exact Nat.le_refl _⟩,⟨by (with_reducible repeat (first|refine blk_drewN ?_ _|refine blk_drew ?_|refine blk_alloc ?_ _));exact BK153.out⟩,⟨by repeat (first|(with_reducible first|exact HB.out|apply below_alloc|apply pw_below_drewN|apply below_drew1|refine below_set ?_ GE153.out)|exact HB.out)⟩⟩
               ·(rw [if_neg c30] at H);(have c30b0 : decide (3 ≤ (wrap64 (x7_13 - x6_1))) = false:=decide_eq_false c30);(clear c30);((first|rw [c30b0]|(simp only [i64_w,i32_w];rw [c30b0])|skip));(by_cases c31 : (wrap64 (x7_13 - x6_1)) = 2)
                ·(rw [if_pos c31] at H);(have c31b0 : ((wrap64 (x7_13 - x6_1)) == 2) = true:=beq_iff_eq.mpr c31);(have c31b1 : ((wrap64 (x7_13 - x6_1)) != 2) = false:=bne_eq_false_iff_eq.mpr c31);(clear c31);(have H':=Aside0.mk H);(clear H);(go_wp2)
                 repeat (go_quiet (fail);try go_wp2)
                 (go_meet)
                 case rel => exact ⟨_,((x8_8 == 1)),(by first|rfl|(simp;done)|(simp [*];done)),H',⟨by have:=HK1.out;have:=HJ8.out;have:=HJ13.out;have:=HJ20.out;first|omega|exact Nat.le_refl _⟩,⟨by (with_reducible repeat (first|refine blk_drewN ?_ _|refine blk_drew ?_|refine blk_alloc ?_ _));exact BK153.out⟩,⟨by repeat (first|(with_reducible first|exact HB.out|apply below_alloc|apply pw_below_drewN|apply below_drew1|refine below_set ?_ GE153.out)|exact HB.out)⟩⟩
                ·(rw [if_neg c31] at H);(have c31b0 : ((wrap64 (x7_13 - x6_1)) == 2) = false:=beq_eq_false_iff_ne.mpr c31);(have c31b1 : ((wrap64 (x7_13 - x6_1)) != 2) = true:=bne_iff_ne.mpr c31);(have H':=Aside0.mk H);(clear H);(go_wp2)
                 repeat (go_quiet (fail);try go_wp2)
                 (go_meet)
                 case rel => exact ⟨_,(false),(by first|rfl|(simp;done)|(simp [*];done)),H',⟨by have:=HK1.out;have:=HJ8.out;have:=HJ13.out;have:=HJ20.out;first|omega|exact Nat.le_refl _⟩,⟨by (with_reducible repeat (first|refine blk_drewN ?_ _|refine blk_drew ?_|refine blk_alloc ?_ _));exact BK153.out⟩,⟨by repeat (first|(with_reducible first|exact HB.out|apply below_alloc|apply pw_below_drewN|apply below_drew1|refine below_set ?_ GE153.out)|exact HB.out)⟩⟩
              case rest =>
               (clear HC28);(try clear c1);(try clear p1);(try clear q1);(try clear hx1);(try clear c2);(try clear p2);(try clear c3);(try clear p6);(try clear c8);(try clear c8b0);(try clear c10);(try clear c10b0);(try clear c12);(try clear c12b0);(try clear c13);(try clear c13b0);(try clear c15);(try clear c15b0);(try clear p15);(try clear q15);(try clear hx15);(try clear c16);(try clear c16b0);(try clear p16);(try clear q16);(try clear hx16);(try clear c18);(try clear c18b0);(try clear c19);(try clear c19b0);(try clear c20);(try clear c20b0);(try clear c20b1);(try clear c22);(try clear c22b0);(try clear c22b1);(try clear c23);(try clear c23b0);(try clear c23b1);(try clear c23b2);(try clear c24);(try clear c24b0);(try clear c25);(try clear c25b0);(try clear c27);(try clear c27b0);(try clear c27b1);(try clear c27b2);(try clear c30);(try clear c30b0);(try clear c31);(try clear c31b0);(try clear c31b1);(try clear hcz5_0);(try clear hcz5_1);(try clear hcz7_0);(try clear hcz7_1);(try clear hfz5_0);(try clear hfz5_1);(try clear hfz7_0);(try clear hfz7_1);(try clear hx156_0);(try clear hx157_0);(try clear hx158_0);(try clear hx159_0);(try clear hx160_0);(try clear p1);(try clear p15);(try clear p156);(try clear p157);(try clear p158);(try clear p159);(try clear p160);(try clear p2);(try clear p6);(try clear q1);(try clear q15);(try clear q156);(try clear q157);(try clear q158);(try clear q159);(try clear q160);(obtain ⟨kq,x77_27,rfl,HA,HJ27,BK153,HB⟩:=hcut)
               cases kq with
              |zero => exact absurd HA.out (by simp [marlinspikeref08_Format.j5])
              |succ kj27 =>
                (have H:=HA.out);(clear HA);(simp only [marlinspikeref08_Format.j5] at H);(by_cases c32 : x77_27 = true)
                ·(subst c32);(have H1 : (if 0 ≤ (wrap64 (x7_13 - 1)) then (if (wrap64 (x7_13 - 1)) < (l0_0.length : Int) then ((marlinspikeref05_Digits.f kj27 (rd l0_0 (wrap64 (x7_13 - 1))) 0).bind fun t163 => (if 1 + t163.size ≤ 9223372036854775807 then (if (x4_20 ++ t161).size + ((⟨#[45]⟩ : ByteArray) ++ t163).size ≤ 9223372036854775807 then (if x8_8 = 1 then (marlinspikeref08_Format.l0 kj27 ((x4_20 ++ t161) ++ ((⟨#[45]⟩ : ByteArray) ++ t163)) l0_0 x7_13 l0_0 a0_1) else ((marlinspikeref05_Digits.f kj27 x8_8 0).bind fun t164 => (if 1 + t164.size ≤ 9223372036854775807 then (if ((x4_20 ++ t161) ++ ((⟨#[45]⟩ : ByteArray) ++ t163)).size + ((⟨#[58]⟩ : ByteArray) ++ t164).size ≤ 9223372036854775807 then (marlinspikeref08_Format.l0 kj27 (((x4_20 ++ t161) ++ ((⟨#[45]⟩ : ByteArray) ++ t163)) ++ ((⟨#[58]⟩ : ByteArray) ++ t164)) l0_0 x7_13 l0_0 a0_1) else (none)) else (none)))) else (none)) else (none))) else (none)) else (none)) = some (r1,r2):=by rw [if_pos rfl] at H;exact H);(clear H);(have H:=H1);(clear H1);(obtain ⟨ji33,hji33⟩ : ∃ j_ : Int,(wrap64 (x7_13 - 1)) = j_:=⟨_,rfl⟩);(replace H : (if 0 ≤ (ji33) then (if (ji33) < (l0_0.length : Int) then ((marlinspikeref05_Digits.f kj27 (rd l0_0 (ji33)) 0).bind fun t163 => (if 1 + t163.size ≤ 9223372036854775807 then (if (x4_20 ++ t161).size + ((⟨#[45]⟩ : ByteArray) ++ t163).size ≤ 9223372036854775807 then (if x8_8 = 1 then (marlinspikeref08_Format.l0 kj27 ((x4_20 ++ t161) ++ ((⟨#[45]⟩ : ByteArray) ++ t163)) l0_0 x7_13 l0_0 a0_1) else ((marlinspikeref05_Digits.f kj27 x8_8 0).bind fun t164 => (if 1 + t164.size ≤ 9223372036854775807 then (if ((x4_20 ++ t161) ++ ((⟨#[45]⟩ : ByteArray) ++ t163)).size + ((⟨#[58]⟩ : ByteArray) ++ t164).size ≤ 9223372036854775807 then (marlinspikeref08_Format.l0 kj27 (((x4_20 ++ t161) ++ ((⟨#[45]⟩ : ByteArray) ++ t163)) ++ ((⟨#[58]⟩ : ByteArray) ++ t164)) l0_0 x7_13 l0_0 a0_1) else (none)) else (none)))) else (none)) else (none))) else (none)) else (none)) = some (r1,r2):=by first|(rw [hji33] at H;exact H)|(simp only [hji33] at H ⊢;exact H));(have hji33w : (IntKind.i64.wrap (x7_13 - 1)) = ji33:=(i64_w _).trans hji33);(by_cases c34 : 0 ≤ (ji33))
                 ·(rw [if_pos c34] at H);(have c34b0 : decide (0 ≤ (ji33)) = true:=decide_eq_true c34);(clear c34);(by_cases c35 : (ji33) < (l0_0.length : Int))
                  ·(rw [if_pos c35] at H);(have c35b0 : decide ((ji33) < (l0_0.length : Int)) = true:=decide_eq_true c35);(clear c35);(replace H:=Option.bind_eq_some_iff.mp H);(obtain ⟨t163,A360,H⟩:=H);(replace H : (if 1 + t163.size ≤ 9223372036854775807 then (if (x4_20 ++ t161).size + ((⟨#[45]⟩ : ByteArray) ++ t163).size ≤ 9223372036854775807 then (if x8_8 = 1 then (marlinspikeref08_Format.l0 kj27 ((x4_20 ++ t161) ++ ((⟨#[45]⟩ : ByteArray) ++ t163)) l0_0 x7_13 l0_0 a0_1) else ((marlinspikeref05_Digits.f kj27 x8_8 0).bind fun t164 => (if 1 + t164.size ≤ 9223372036854775807 then (if ((x4_20 ++ t161) ++ ((⟨#[45]⟩ : ByteArray) ++ t163)).size + ((⟨#[58]⟩ : ByteArray) ++ t164).size ≤ 9223372036854775807 then (marlinspikeref08_Format.l0 kj27 (((x4_20 ++ t161) ++ ((⟨#[45]⟩ : ByteArray) ++ t163)) ++ ((⟨#[58]⟩ : ByteArray) ++ t164)) l0_0 x7_13 l0_0 a0_1) else (none)) else (none)))) else (none)) else (none)) = some (r1,r2):=H);(have A36:=Aside0.mk A360);(clear A360);(by_cases c37 : 1 + t163.size ≤ 9223372036854775807)
                   ·(rw [if_pos c37] at H);(have c37b0:=eq_true c37);(have c37b1 : decide (1 + t163.size ≤ 9223372036854775807) = true:=decide_eq_true c37);(try have c37b2 : (9223372036854775807 < 1 + t163.size) = False:=eq_false (Nat.not_lt.2 c37));(by_cases c38 : (x4_20 ++ t161).size + ((⟨#[45]⟩ : ByteArray) ++ t163).size ≤ 9223372036854775807)
                    ·(rw [if_pos c38] at H);(have c38b0:=eq_true c38);(have c38b1 : decide ((x4_20 ++ t161).size + ((⟨#[45]⟩ : ByteArray) ++ t163).size ≤ 9223372036854775807) = true:=decide_eq_true c38);(try have c38b3 : (9223372036854775807 < x4_20.size + t161.size + 1 + t163.size) = False:=eq_false (by have z:=c38;rw [show (x4_20 ++ t161).size + ((⟨#[45]⟩ : ByteArray) ++ t163).size = x4_20.size + t161.size + 1 + t163.size from by rw [ByteArray.size_append];rw [ByteArray.size_append];rfl] at z;omega));(try have c38b2 : (9223372036854775807 < (x4_20 ++ t161).size + ((⟨#[45]⟩ : ByteArray) ++ t163).size) = False:=eq_false (Nat.not_lt.2 c38));(by_cases c39 : x8_8 = 1)
                     ·(rw [if_pos c39] at H);(have c39b0 : (x8_8 == 1) = true:=beq_iff_eq.mpr c39);(have c39b1 : (x8_8 != 1) = false:=bne_eq_false_iff_eq.mpr c39);(clear c39);(have H':=Aside0.mk H);(clear H);(have p162 : 0 ≤ ((ji33) : Int):=of_decide_eq_true (by first|(with_reducible assumption)|assumption));(have q162 : (ji33) < (l0_0.length : Int):=of_decide_eq_true (by first|(with_reducible assumption)|assumption));(obtain ⟨ad162,e162,hx162_0⟩:=Kd.at_int HR0_0.out (ji33) p162 q162);(obtain rfl : ad160 = ad162:=(by injection e162));(replace hx162_0:=(HB.out.cell (World.block_lt_of_cell? w _ hx162_0)).trans hx162_0);(replace p162:=eq_true p162);(replace q162:=eq_true q162);(go_wp2_with (first|(go_at_call 21;(with_reducible refine (marlinspikeref05_Digits.calls kj27 (rd l0_0 (ji33)) 0 t163 _ A36.out).mono ?_);rintro e w40 ⟨rfl,hb⟩;have n0_:=Aside0.mk (blk_below (g:=gb153) (o:=.cells #[.slice (some ad160) l0_0.length c0_0,.int .i64 a0_1] 24 (0,0)) (by (with_reducible repeat (first|refine blk_drewN ?_ _|refine blk_drew ?_|refine blk_alloc ?_ _));exact BK153.out) hb);have n1_:=Aside0.mk (below_step (by repeat (first|(with_reducible first|exact HB.out|apply below_alloc|apply pw_below_drewN|apply below_drew1|refine below_set ?_ GE153.out)|exact HB.out)) hb);clear BK153;clear HB;have BK153:=n0_;have HB:=n1_;clear n0_ n1_;(try clear hb);(try clear hb2);(try clear hk);(try clear hi))))
                      repeat (go_quiet (first|(go_at_call 21;(with_reducible refine (marlinspikeref05_Digits.calls kj27 (rd l0_0 (ji33)) 0 t163 _ A36.out).mono ?_);rintro e w40 ⟨rfl,hb⟩;have n0_:=Aside0.mk (blk_below (g:=gb153) (o:=.cells #[.slice (some ad160) l0_0.length c0_0,.int .i64 a0_1] 24 (0,0)) (by (with_reducible repeat (first|refine blk_drewN ?_ _|refine blk_drew ?_|refine blk_alloc ?_ _));exact BK153.out) hb);have n1_:=Aside0.mk (below_step (by repeat (first|(with_reducible first|exact HB.out|apply below_alloc|apply pw_below_drewN|apply below_drew1|refine below_set ?_ GE153.out)|exact HB.out)) hb);clear BK153;clear HB;have BK153:=n0_;have HB:=n1_;clear n0_ n1_;(try clear hb);(try clear hb2);(try clear hk);(try clear hi)));try go_wp2_with (first|(go_at_call 21;(with_reducible refine (marlinspikeref05_Digits.calls kj27 (rd l0_0 (ji33)) 0 t163 _ A36.out).mono ?_);rintro e w40 ⟨rfl,hb⟩;have n0_:=Aside0.mk (blk_below (g:=gb153) (o:=.cells #[.slice (some ad160) l0_0.length c0_0,.int .i64 a0_1] 24 (0,0)) (by (with_reducible repeat (first|refine blk_drewN ?_ _|refine blk_drew ?_|refine blk_alloc ?_ _));exact BK153.out) hb);have n1_:=Aside0.mk (below_step (by repeat (first|(with_reducible first|exact HB.out|apply below_alloc|apply pw_below_drewN|apply below_drew1|refine below_set ?_ GE153.out)|exact HB.out)) hb);clear BK153;clear HB;have BK153:=n0_;have HB:=n1_;clear n0_ n1_;(try clear hb);(try clear hb2);(try clear hk);(try clear hi))))
                      (go_roundg kj27)
                      case measure => have:=HK1.out;have:=HJ8.out;have:=HJ13.out;have:=HJ20.out;have:=HJ27.out;omega
                      case rel => exact ⟨((x4_20 ++ t161) ++ ((⟨#[45]⟩ : ByteArray) ++ t163)),(x7_13),(by first|rfl|(simp;done)|(simp [*];done)),(by first|rfl|(simp;done)|(simp [*];done)),H',⟨by have:=HK1.out;have:=HJ8.out;have:=HJ13.out;have:=HJ20.out;have:=HJ27.out;omega⟩,⟨by (with_reducible repeat (first|refine blk_drewN ?_ _|refine blk_drew ?_|refine blk_alloc ?_ _));exact BK153.out⟩,⟨by repeat (first|(with_reducible first|exact HB.out|apply below_alloc|apply pw_below_drewN|apply below_drew1|refine below_set ?_ GE153.out)|exact HB.out)⟩⟩
                     ·(rw [if_neg c39] at H);(have c39b0 : (x8_8 == 1) = false:=beq_eq_false_iff_ne.mpr c39);(have c39b1 : (x8_8 != 1) = true:=bne_iff_ne.mpr c39);(replace H:=Option.bind_eq_some_iff.mp H);(obtain ⟨t164,A410,H⟩:=H);(replace H : (if 1 + t164.size ≤ 9223372036854775807 then (if ((x4_20 ++ t161) ++ ((⟨#[45]⟩ : ByteArray) ++ t163)).size + ((⟨#[58]⟩ : ByteArray) ++ t164).size ≤ 9223372036854775807 then (marlinspikeref08_Format.l0 kj27 (((x4_20 ++ t161) ++ ((⟨#[45]⟩ : ByteArray) ++ t163)) ++ ((⟨#[58]⟩ : ByteArray) ++ t164)) l0_0 x7_13 l0_0 a0_1) else (none)) else (none)) = some (r1,r2):=H);(have A41:=Aside0.mk A410);(clear A410);(by_cases c42 : 1 + t164.size ≤ 9223372036854775807)
                      ·(rw [if_pos c42] at H);(have c42b0:=eq_true c42);(have c42b1 : decide (1 + t164.size ≤ 9223372036854775807) = true:=decide_eq_true c42);(try have c42b2 : (9223372036854775807 < 1 + t164.size) = False:=eq_false (Nat.not_lt.2 c42));(by_cases c43 : ((x4_20 ++ t161) ++ ((⟨#[45]⟩ : ByteArray) ++ t163)).size + ((⟨#[58]⟩ : ByteArray) ++ t164).size ≤ 9223372036854775807)
                       ·(rw [if_pos c43] at H);(have c43b0:=eq_true c43);(have c43b1 : decide (((x4_20 ++ t161) ++ ((⟨#[45]⟩ : ByteArray) ++ t163)).size + ((⟨#[58]⟩ : ByteArray) ++ t164).size ≤ 9223372036854775807) = true:=decide_eq_true c43);(try have c43b3 : (9223372036854775807 < x4_20.size + t161.size + 1 + t163.size + 1 + t164.size) = False:=eq_false (by have z:=c43;rw [show ((x4_20 ++ t161) ++ ((⟨#[45]⟩ : ByteArray) ++ t163)).size + ((⟨#[58]⟩ : ByteArray) ++ t164).size = x4_20.size + t161.size + 1 + t163.size + 1 + t164.size from by rw [ByteArray.size_append];rw [ByteArray.size_append];rw [ByteArray.size_append];rw [ByteArray.size_append];rfl] at z;omega));(try have c43b2 : (9223372036854775807 < ((x4_20 ++ t161) ++ ((⟨#[45]⟩ : ByteArray) ++ t163)).size + ((⟨#[58]⟩ : ByteArray) ++ t164).size) = False:=eq_false (Nat.not_lt.2 c43));(have H':=Aside0.mk H);(clear H);(have p162 : 0 ≤ ((ji33) : Int):=of_decide_eq_true (by first|(with_reducible assumption)|assumption));(have q162 : (ji33) < (l0_0.length : Int):=of_decide_eq_true (by first|(with_reducible assumption)|assumption));(obtain ⟨ad162,e162,hx162_0⟩:=Kd.at_int HR0_0.out (ji33) p162 q162);(obtain rfl : ad160 = ad162:=(by injection e162));(replace hx162_0:=(HB.out.cell (World.block_lt_of_cell? w _ hx162_0)).trans hx162_0);(replace p162:=eq_true p162);(replace q162:=eq_true q162);(go_wp2_with (first|(go_at_call 21;(with_reducible refine (marlinspikeref05_Digits.calls kj27 (rd l0_0 (ji33)) 0 t163 _ A36.out).mono ?_);rintro e w44 ⟨rfl,hb⟩;have n0_:=Aside0.mk (blk_below (g:=gb153) (o:=.cells #[.slice (some ad160) l0_0.length c0_0,.int .i64 a0_1] 24 (0,0)) (by (with_reducible repeat (first|refine blk_drewN ?_ _|refine blk_drew ?_|refine blk_alloc ?_ _));exact BK153.out) hb);have n1_:=Aside0.mk (below_step (by repeat (first|(with_reducible first|exact HB.out|apply below_alloc|apply pw_below_drewN|apply below_drew1|refine below_set ?_ GE153.out)|exact HB.out)) hb);clear BK153;clear HB;have BK153:=n0_;have HB:=n1_;clear n0_ n1_;(try clear hb);(try clear hb2);(try clear hk);(try clear hi))|(go_at_call 21;(with_reducible refine (marlinspikeref05_Digits.calls kj27 x8_8 0 t164 _ A41.out).mono ?_);rintro e w45 ⟨rfl,hb⟩;have n0_:=Aside0.mk (blk_below (g:=gb153) (o:=.cells #[.slice (some ad160) l0_0.length c0_0,.int .i64 a0_1] 24 (0,0)) (by (with_reducible repeat (first|refine blk_drewN ?_ _|refine blk_drew ?_|refine blk_alloc ?_ _));exact BK153.out) hb);have n1_:=Aside0.mk (below_step (by repeat (first|(with_reducible first|exact HB.out|apply below_alloc|apply pw_below_drewN|apply below_drew1|refine below_set ?_ GE153.out)|exact HB.out)) hb);clear BK153;clear HB;have BK153:=n0_;have HB:=n1_;clear n0_ n1_;(try clear hb);(try clear hb2);(try clear hk);(try clear hi))))
                        repeat (go_quiet (first|(go_at_call 21;(with_reducible refine (marlinspikeref05_Digits.calls kj27 (rd l0_0 (ji33)) 0 t163 _ A36.out).mono ?_);rintro e w44 ⟨rfl,hb⟩;have n0_:=Aside0.mk (blk_below (g:=gb153) (o:=.cells #[.slice (some ad160) l0_0.length c0_0,.int .i64 a0_1] 24 (0,0)) (by (with_reducible repeat (first|refine blk_drewN ?_ _|refine blk_drew ?_|refine blk_alloc ?_ _));exact BK153.out) hb);have n1_:=Aside0.mk (below_step (by repeat (first|(with_reducible first|exact HB.out|apply below_alloc|apply pw_below_drewN|apply below_drew1|refine below_set ?_ GE153.out)|exact HB.out)) hb);clear BK153;clear HB;have BK153:=n0_;have HB:=n1_;clear n0_ n1_;(try clear hb);(try clear hb2);(try clear hk);(try clear hi))|(go_at_call 21;(with_reducible refine (marlinspikeref05_Digits.calls kj27 x8_8 0 t164 _ A41.out).mono ?_);rintro e w45 ⟨rfl,hb⟩;have n0_:=Aside0.mk (blk_below (g:=gb153) (o:=.cells #[.slice (some ad160) l0_0.length c0_0,.int .i64 a0_1] 24 (0,0)) (by (with_reducible repeat (first|refine blk_drewN ?_ _|refine blk_drew ?_|refine blk_alloc ?_ _));exact BK153.out) hb);have n1_:=Aside0.mk (below_step (by repeat (first|(with_reducible first|exact HB.out|apply below_alloc|apply pw_below_drewN|apply below_drew1|refine below_set ?_ GE153.out)|exact HB.out)) hb);clear BK153;clear HB;have BK153:=n0_;have HB:=n1_;clear n0_ n1_;(try clear hb);(try clear hb2);(try clear hk);(try clear hi)));try go_wp2_with (first|(go_at_call 21;(with_reducible refine (marlinspikeref05_Digits.calls kj27 (rd l0_0 (ji33)) 0 t163 _ A36.out).mono ?_);rintro e w44 ⟨rfl,hb⟩;have n0_:=Aside0.mk (blk_below (g:=gb153) (o:=.cells #[.slice (some ad160) l0_0.length c0_0,.int .i64 a0_1] 24 (0,0)) (by (with_reducible repeat (first|refine blk_drewN ?_ _|refine blk_drew ?_|refine blk_alloc ?_ _));exact BK153.out) hb);have n1_:=Aside0.mk (below_step (by repeat (first|(with_reducible first|exact HB.out|apply below_alloc|apply pw_below_drewN|apply below_drew1|refine below_set ?_ GE153.out)|exact HB.out)) hb);clear BK153;clear HB;have BK153:=n0_;have HB:=n1_;clear n0_ n1_;(try clear hb);(try clear hb2);(try clear hk);(try clear hi))|(go_at_call 21;(with_reducible refine (marlinspikeref05_Digits.calls kj27 x8_8 0 t164 _ A41.out).mono ?_);rintro e w45 ⟨rfl,hb⟩;have n0_:=Aside0.mk (blk_below (g:=gb153) (o:=.cells #[.slice (some ad160) l0_0.length c0_0,.int .i64 a0_1] 24 (0,0)) (by (with_reducible repeat (first|refine blk_drewN ?_ _|refine blk_drew ?_|refine blk_alloc ?_ _));exact BK153.out) hb);have n1_:=Aside0.mk (below_step (by repeat (first|(with_reducible first|exact HB.out|apply below_alloc|apply pw_below_drewN|apply below_drew1|refine below_set ?_ GE153.out)|exact HB.out)) hb);clear BK153;clear HB;have BK153:=n0_;have HB:=n1_;clear n0_ n1_;(try clear hb);(try clear hb2);(try clear hk);(try clear hi))))
                        (go_roundg kj27)
                        case measure => have:=HK1.out;have:=HJ8.out;have:=HJ13.out;have:=HJ20.out;have:=HJ27.out;omega
                        case rel => exact ⟨(((x4_20 ++ t161) ++ ((⟨#[45]⟩ : ByteArray) ++ t163)) ++ ((⟨#[58]⟩ : ByteArray) ++ t164)),(x7_13),(by first|rfl|(simp;done)|(simp [*];done)),(by first|rfl|(simp;done)|(simp [*];done)),H',⟨by have:=HK1.out;have:=HJ8.out;have:=HJ13.out;have:=HJ20.out;have:=HJ27.out;omega⟩,⟨by (with_reducible repeat (first|refine blk_drewN ?_ _|refine blk_drew ?_|refine blk_alloc ?_ _));exact BK153.out⟩,⟨by repeat (first|(with_reducible first|exact HB.out|apply below_alloc|apply pw_below_drewN|apply below_drew1|refine below_set ?_ GE153.out)|exact HB.out)⟩⟩
                       ·(rw [if_neg c43] at H);(exact absurd H (by simp))
                      ·(rw [if_neg c42] at H);(exact absurd H (by simp))
                    ·(rw [if_neg c38] at H);(exact absurd H (by simp))
                   ·(rw [if_neg c37] at H);(exact absurd H (by simp))
                  ·(rw [if_neg c35] at H);(exact absurd H (by simp))
                 ·(rw [if_neg c34] at H);(exact absurd H (by simp))
                ·(replace c32:=Bool.eq_false_iff.mpr c32);(subst c32);(have H1 : (marlinspikeref08_Format.l0 kj27 (x4_20 ++ t161) l0_0 (wrap64 (x6_1 + 1)) l0_0 a0_1) = some (r1,r2):=by rw [if_neg (show ¬ (false = true) by decide)] at H;exact H);(clear H);(have H:=H1);(clear H1);(have H':=Aside0.mk H);(clear H);(go_wp2)
                 repeat (go_quiet (fail);try go_wp2)
                 (go_roundg kj27)
                 case measure => have:=HK1.out;have:=HJ8.out;have:=HJ13.out;have:=HJ20.out;have:=HJ27.out;omega
                 case rel => exact ⟨((x4_20 ++ t161)),(wrap64 (x6_1 + 1)),(by first|rfl|(simp;done)|(simp [*];done)),(by first|rfl|(simp;done)|(simp [*];done)),H',⟨by have:=HK1.out;have:=HJ8.out;have:=HJ13.out;have:=HJ20.out;have:=HJ27.out;omega⟩,⟨by (with_reducible repeat (first|refine blk_drewN ?_ _|refine blk_drew ?_|refine blk_alloc ?_ _));exact BK153.out⟩,⟨by repeat (first|(with_reducible first|exact HB.out|apply below_alloc|apply pw_below_drewN|apply below_drew1|refine below_set ?_ GE153.out)|exact HB.out)⟩⟩
             ·(rw [if_neg c27] at H);(exact absurd H (by simp))
            ·(rw [if_neg c25] at H);(exact absurd H (by simp))
           ·(rw [if_neg c24] at H);(exact absurd H (by simp))
    ·(rw [if_neg c8] at H);(have c8b0 : decide (x6_1 < (l0_0.length : Int)) = false:=decide_eq_false c8);(clear c8);(by_cases c46 : a0_1 > 0)
     ·(rw [if_pos c46] at H);(have c46b0 : decide (0 < a0_1) = true:=decide_eq_true c46);(clear c46);(replace H:=Option.bind_eq_some_iff.mp H);(obtain ⟨t155,A470,H⟩:=H);(replace H : (if 1 + t155.size ≤ 9223372036854775807 then (if x4_1.size + ((⟨#[37]⟩ : ByteArray) ++ t155).size ≤ 9223372036854775807 then (some (x4_1 ++ ((⟨#[37]⟩ : ByteArray) ++ t155),0)) else (none)) else (none)) = some (r1,r2):=H);(have A47:=Aside0.mk A470);(clear A470);(by_cases c48 : 1 + t155.size ≤ 9223372036854775807)
      ·(rw [if_pos c48] at H);(have c48b0:=eq_true c48);(have c48b1 : decide (1 + t155.size ≤ 9223372036854775807) = true:=decide_eq_true c48);(try have c48b2 : (9223372036854775807 < 1 + t155.size) = False:=eq_false (Nat.not_lt.2 c48));(by_cases c49 : x4_1.size + ((⟨#[37]⟩ : ByteArray) ++ t155).size ≤ 9223372036854775807)
       ·(rw [if_pos c49] at H);(have c49b0:=eq_true c49);(have c49b1 : decide (x4_1.size + ((⟨#[37]⟩ : ByteArray) ++ t155).size ≤ 9223372036854775807) = true:=decide_eq_true c49);(try have c49b3 : (9223372036854775807 < x4_1.size + 1 + t155.size) = False:=eq_false (by have z:=c49;rw [show x4_1.size + ((⟨#[37]⟩ : ByteArray) ++ t155).size = x4_1.size + 1 + t155.size from by rw [ByteArray.size_append];rfl] at z;omega));(try have c49b2 : (9223372036854775807 < x4_1.size + ((⟨#[37]⟩ : ByteArray) ++ t155).size) = False:=eq_false (Nat.not_lt.2 c49));(simp only [Option.some.injEq,Prod.mk.injEq] at H);(obtain ⟨rfl,rfl⟩:=H);(have hcz50_0 : wr.cell? ⟨gb153,0,none⟩ = some (.slice A0_0 l0_0.length c0_0):=(blk_cell BK153.out 0).trans rfl);(have hcz50_1 : wr.cell? ⟨gb153,1,none⟩ = some (.int .i64 a0_1):=(blk_cell BK153.out 1).trans rfl);(have hfz50_0:=blk_frozen BK153.out 0);(have hfz50_1:=blk_frozen BK153.out 1);(go_wp2_with (first|(go_at_call 21;(with_reducible refine (marlinspikeref05_Digits.calls k1 a0_1 0 t155 _ A47.out).mono ?_);rintro e w51 ⟨rfl,hb⟩;have n0_:=Aside0.mk (blk_below (g:=gb153) (o:=.cells #[.slice A0_0 l0_0.length c0_0,.int .i64 a0_1] 24 (0,0)) (by (with_reducible repeat (first|refine blk_drewN ?_ _|refine blk_drew ?_|refine blk_alloc ?_ _));exact BK153.out) hb);have n1_:=Aside0.mk (below_step (by repeat (first|(with_reducible first|exact HB.out|apply below_alloc|apply pw_below_drewN|apply below_drew1|refine below_set ?_ GE153.out)|exact HB.out)) hb);clear BK153;clear HB;have BK153:=n0_;have HB:=n1_;clear n0_ n1_;(try clear hb);(try clear hb2);(try clear hk);(try clear hi))))
        repeat (go_quiet (first|(go_at_call 21;(with_reducible refine (marlinspikeref05_Digits.calls k1 a0_1 0 t155 _ A47.out).mono ?_);rintro e w51 ⟨rfl,hb⟩;have n0_:=Aside0.mk (blk_below (g:=gb153) (o:=.cells #[.slice A0_0 l0_0.length c0_0,.int .i64 a0_1] 24 (0,0)) (by (with_reducible repeat (first|refine blk_drewN ?_ _|refine blk_drew ?_|refine blk_alloc ?_ _));exact BK153.out) hb);have n1_:=Aside0.mk (below_step (by repeat (first|(with_reducible first|exact HB.out|apply below_alloc|apply pw_below_drewN|apply below_drew1|refine below_set ?_ GE153.out)|exact HB.out)) hb);clear BK153;clear HB;have BK153:=n0_;have HB:=n1_;clear n0_ n1_;(try clear hb);(try clear hb2);(try clear hk);(try clear hi)));try go_wp2_with (first|(go_at_call 21;(with_reducible refine (marlinspikeref05_Digits.calls k1 a0_1 0 t155 _ A47.out).mono ?_);rintro e w51 ⟨rfl,hb⟩;have n0_:=Aside0.mk (blk_below (g:=gb153) (o:=.cells #[.slice A0_0 l0_0.length c0_0,.int .i64 a0_1] 24 (0,0)) (by (with_reducible repeat (first|refine blk_drewN ?_ _|refine blk_drew ?_|refine blk_alloc ?_ _));exact BK153.out) hb);have n1_:=Aside0.mk (below_step (by repeat (first|(with_reducible first|exact HB.out|apply below_alloc|apply pw_below_drewN|apply below_drew1|refine below_set ?_ GE153.out)|exact HB.out)) hb);clear BK153;clear HB;have BK153:=n0_;have HB:=n1_;clear n0_ n1_;(try clear hb);(try clear hb2);(try clear hk);(try clear hi))))
        (go_ret2);(exact ⟨by first|rfl|(simp [errW_none,errW_some] <;> rfl)|(simp [*,errW_none,errW_some] <;> rfl),by repeat (first|(with_reducible first|exact HB.out|apply below_alloc|apply pw_below_drewN|apply below_drew1|refine below_set ?_ GE153.out)|exact HB.out)⟩)
       ·(rw [if_neg c49] at H);(exact absurd H (by simp))
      ·(rw [if_neg c48] at H);(exact absurd H (by simp))
     ·(rw [if_neg c46] at H);(have c46b0 : decide (0 < a0_1) = false:=decide_eq_false c46);(clear c46);(simp only [Option.some.injEq,Prod.mk.injEq] at H);(obtain ⟨rfl,rfl⟩:=H);(have hcz52_0 : wr.cell? ⟨gb153,0,none⟩ = some (.slice A0_0 l0_0.length c0_0):=(blk_cell BK153.out 0).trans rfl);(have hcz52_1 : wr.cell? ⟨gb153,1,none⟩ = some (.int .i64 a0_1):=(blk_cell BK153.out 1).trans rfl);(have hfz52_0:=blk_frozen BK153.out 0);(have hfz52_1:=blk_frozen BK153.out 1);(go_wp2)
      repeat (go_quiet (fail);try go_wp2)
      (go_ret2);(exact ⟨by first|rfl|(simp [errW_none,errW_some] <;> rfl)|(simp [*,errW_none,errW_some] <;> rfl),by repeat (first|(with_reducible first|exact HB.out|apply below_alloc|apply pw_below_drewN|apply below_drew1|refine below_set ?_ GE153.out)|exact HB.out)⟩)
 ·(replace c3:=Bool.eq_false_iff.mpr c3);(subst c3);(have H1 : (some ((⟨#[]⟩ : ByteArray),3)) = some (r1,r2):=by rw [if_neg (show ¬ (false = true) by decide)] at H;exact H);(clear H);(have H:=H1);(clear H1);(simp only [Option.some.injEq,Prod.mk.injEq] at H);(obtain ⟨rfl,rfl⟩:=H);(go_enter Tryd.func10,Tryd.ntmps10);(go_wp2_with (first|((with_reducible refine gate_dst (N:=1) rfl ?_);refine box_event ?hg (N:=1) ?hd (cs:=#[.slice A0_0 l0_0.length c0_0,.int .i64 a0_1]) (t:=24) ?hr ?_;(case hd => rfl);(case hg => rfl);(case hr => first|(go_simp;done)|(go_simp;rfl));intro gb153 hg w53 hbox hb;have n0_:=Aside0.mk (below_step (by repeat (first|(with_reducible first|exact HB.out|apply below_alloc|apply pw_below_drewN|apply below_drew1)|exact HB.out)) hb);have n1_:=Aside0.mk (hbox);have n2_:=Aside0.mk ((by rw [hg];exact (below_size (by repeat (first|(with_reducible first|exact HB.out|apply below_alloc|apply pw_below_drewN|apply below_drew1)|exact HB.out))) : w.heap.size ≤ gb153));have n3_:=Aside0.mk ((by rw [hg];exact (below_size (by repeat (first|(with_reducible first|exact HB.out|apply below_alloc|apply pw_below_drewN|apply below_drew1)|exact HB.out))) : w.heap.size ≤ gb153));clear HB;have HB:=n0_;have BK153:=n1_;have GW153:=n2_;have GE153:=n3_;clear n0_ n1_ n2_ n3_;clear hb hbox hg;have hcz54_0 : w53.cell? ⟨gb153,0,none⟩ = some (.slice A0_0 l0_0.length c0_0):=(blk_cell BK153.out 0).trans rfl;have hcz54_1 : w53.cell? ⟨gb153,1,none⟩ = some (.int .i64 a0_1):=(blk_cell BK153.out 1).trans rfl;have hfz54_0:=blk_frozen BK153.out 0;have hfz54_1:=blk_frozen BK153.out 1)|(go_at_call 12;(with_reducible refine (marlinspikeref08_Right.calls k _ _ l0_0 a0_1 false _ ?side1 ?side2 A2.out).mono ?_);(case side1 => repeat (first|exact (Kd.C_below HR0_0.out HB.out)|(with_reducible refine Kd.C_alloc ?_ _)|(with_reducible refine Kd.C_drewN ?_ _)|(with_reducible refine Kd.C_drew ?_)));(case side2 => exact HC0_0.out);rintro e w55 ⟨rfl,hb⟩;have n0_:=Aside0.mk (blk_below (g:=gb153) (o:=.cells #[.slice A0_0 l0_0.length c0_0,.int .i64 a0_1] 24 (0,0)) (by (with_reducible repeat (first|refine blk_drewN ?_ _|refine blk_drew ?_|refine blk_alloc ?_ _));exact BK153.out) hb);have n1_:=Aside0.mk (below_step (by repeat (first|(with_reducible first|exact HB.out|apply below_alloc|apply pw_below_drewN|apply below_drew1|refine below_set ?_ GE153.out)|exact HB.out)) hb);clear BK153;clear HB;have BK153:=n0_;have HB:=n1_;clear n0_ n1_;(try clear hb);(try clear hb2);(try clear hk);(try clear hi))))
  repeat (go_quiet (first|((with_reducible refine gate_dst (N:=1) rfl ?_);refine box_event ?hg (N:=1) ?hd (cs:=#[.slice A0_0 l0_0.length c0_0,.int .i64 a0_1]) (t:=24) ?hr ?_;(case hd => rfl);(case hg => rfl);(case hr => first|(go_simp;done)|(go_simp;rfl));intro gb153 hg w53 hbox hb;have n0_:=Aside0.mk (below_step (by repeat (first|(with_reducible first|exact HB.out|apply below_alloc|apply pw_below_drewN|apply below_drew1)|exact HB.out)) hb);have n1_:=Aside0.mk (hbox);have n2_:=Aside0.mk ((by rw [hg];exact (below_size (by repeat (first|(with_reducible first|exact HB.out|apply below_alloc|apply pw_below_drewN|apply below_drew1)|exact HB.out))) : w.heap.size ≤ gb153));have n3_:=Aside0.mk ((by rw [hg];exact (below_size (by repeat (first|(with_reducible first|exact HB.out|apply below_alloc|apply pw_below_drewN|apply below_drew1)|exact HB.out))) : w.heap.size ≤ gb153));clear HB;have HB:=n0_;have BK153:=n1_;have GW153:=n2_;have GE153:=n3_;clear n0_ n1_ n2_ n3_;clear hb hbox hg;have hcz54_0 : w53.cell? ⟨gb153,0,none⟩ = some (.slice A0_0 l0_0.length c0_0):=(blk_cell BK153.out 0).trans rfl;have hcz54_1 : w53.cell? ⟨gb153,1,none⟩ = some (.int .i64 a0_1):=(blk_cell BK153.out 1).trans rfl;have hfz54_0:=blk_frozen BK153.out 0;have hfz54_1:=blk_frozen BK153.out 1)|(go_at_call 12;(with_reducible refine (marlinspikeref08_Right.calls k _ _ l0_0 a0_1 false _ ?side1 ?side2 A2.out).mono ?_);(case side1 => repeat (first|exact (Kd.C_below HR0_0.out HB.out)|(with_reducible refine Kd.C_alloc ?_ _)|(with_reducible refine Kd.C_drewN ?_ _)|(with_reducible refine Kd.C_drew ?_)));(case side2 => exact HC0_0.out);rintro e w55 ⟨rfl,hb⟩;have n0_:=Aside0.mk (blk_below (g:=gb153) (o:=.cells #[.slice A0_0 l0_0.length c0_0,.int .i64 a0_1] 24 (0,0)) (by (with_reducible repeat (first|refine blk_drewN ?_ _|refine blk_drew ?_|refine blk_alloc ?_ _));exact BK153.out) hb);have n1_:=Aside0.mk (below_step (by repeat (first|(with_reducible first|exact HB.out|apply below_alloc|apply pw_below_drewN|apply below_drew1|refine below_set ?_ GE153.out)|exact HB.out)) hb);clear BK153;clear HB;have BK153:=n0_;have HB:=n1_;clear n0_ n1_;(try clear hb);(try clear hb2);(try clear hk);(try clear hi)));try go_wp2_with (first|((with_reducible refine gate_dst (N:=1) rfl ?_);refine box_event ?hg (N:=1) ?hd (cs:=#[.slice A0_0 l0_0.length c0_0,.int .i64 a0_1]) (t:=24) ?hr ?_;(case hd => rfl);(case hg => rfl);(case hr => first|(go_simp;done)|(go_simp;rfl));intro gb153 hg w53 hbox hb;have n0_:=Aside0.mk (below_step (by repeat (first|(with_reducible first|exact HB.out|apply below_alloc|apply pw_below_drewN|apply below_drew1)|exact HB.out)) hb);have n1_:=Aside0.mk (hbox);have n2_:=Aside0.mk ((by rw [hg];exact (below_size (by repeat (first|(with_reducible first|exact HB.out|apply below_alloc|apply pw_below_drewN|apply below_drew1)|exact HB.out))) : w.heap.size ≤ gb153));have n3_:=Aside0.mk ((by rw [hg];exact (below_size (by repeat (first|(with_reducible first|exact HB.out|apply below_alloc|apply pw_below_drewN|apply below_drew1)|exact HB.out))) : w.heap.size ≤ gb153));clear HB;have HB:=n0_;have BK153:=n1_;have GW153:=n2_;have GE153:=n3_;clear n0_ n1_ n2_ n3_;clear hb hbox hg;have hcz54_0 : w53.cell? ⟨gb153,0,none⟩ = some (.slice A0_0 l0_0.length c0_0):=(blk_cell BK153.out 0).trans rfl;have hcz54_1 : w53.cell? ⟨gb153,1,none⟩ = some (.int .i64 a0_1):=(blk_cell BK153.out 1).trans rfl;have hfz54_0:=blk_frozen BK153.out 0;have hfz54_1:=blk_frozen BK153.out 1)|(go_at_call 12;(with_reducible refine (marlinspikeref08_Right.calls k _ _ l0_0 a0_1 false _ ?side1 ?side2 A2.out).mono ?_);(case side1 => repeat (first|exact (Kd.C_below HR0_0.out HB.out)|(with_reducible refine Kd.C_alloc ?_ _)|(with_reducible refine Kd.C_drewN ?_ _)|(with_reducible refine Kd.C_drew ?_)));(case side2 => exact HC0_0.out);rintro e w55 ⟨rfl,hb⟩;have n0_:=Aside0.mk (blk_below (g:=gb153) (o:=.cells #[.slice A0_0 l0_0.length c0_0,.int .i64 a0_1] 24 (0,0)) (by (with_reducible repeat (first|refine blk_drewN ?_ _|refine blk_drew ?_|refine blk_alloc ?_ _));exact BK153.out) hb);have n1_:=Aside0.mk (below_step (by repeat (first|(with_reducible first|exact HB.out|apply below_alloc|apply pw_below_drewN|apply below_drew1|refine below_set ?_ GE153.out)|exact HB.out)) hb);clear BK153;clear HB;have BK153:=n0_;have HB:=n1_;clear n0_ n1_;(try clear hb);(try clear hb2);(try clear hk);(try clear hi))))
  (go_ret2);(exact ⟨by first|rfl|(simp [errW_none,errW_some] <;> rfl)|(simp [*,errW_none,errW_some] <;> rfl),by repeat (first|(with_reducible first|exact HB.out|apply below_alloc|apply pw_below_drewN|apply below_drew1|refine below_set ?_ GE153.out)|exact HB.out)⟩)
end Go.Proofs.YtnfpchpnephheaaDoor.PA
end
section
set_option linter.unusedVariables false
set_option linter.unusedSimpArgs false
namespace Go.Proofs.YtnfpchpnephheaaDoor.Num
def isDig (c : UInt8) : Bool := decide (48 ≤ c.toNat) && decide (c.toNat ≤ 57)
theorem isDig_iff (c : UInt8) : isDig c = true ↔ 48 ≤ c.toNat ∧ c.toNat ≤ 57 := by simp [isDig]
end Go.Proofs.YtnfpchpnephheaaDoor.Num
end
section
namespace Go.Proofs.YtnfpchpnephheaaDoor.Hn
open Go.Proofs.YtnfpchpnephheaaDoor.Num
set_option linter.unusedVariables false
set_option linter.unusedSimpArgs false
def padL (w n : Nat) : List UInt8 := List.replicate (w - (Go.Lib.decDigits n).length) 48 ++ Go.Lib.decDigits n
theorem dec_len : ∀ (k n : Nat), n < 10 ^ (k + 1) → (Go.Lib.decDigits n).length ≤ k + 1
  | 0, n, h => by rw [Go.Lib.decDigits, dif_pos (by simpa using h)]; simp
  | k + 1, n, h => by
    by_cases h1 : n < 10
    · rw [Go.Lib.decDigits, dif_pos h1]; simp
    · have := dec_len k (n / 10) (by rw [Nat.pow_succ] at h; omega)
      rw [Go.Lib.decDigits, dif_neg h1, List.length_append]
      simp; omega
end Go.Proofs.YtnfpchpnephheaaDoor.Hn
end
section
set_option linter.unusedVariables false
set_option linter.unusedSimpArgs false
namespace Go.Proofs.YtnfpchpnephheaaDoor.Txt
open Go.RowKit Go.Proofs.YtnfpchpnephheaaDoorW.PrintWords
def L (s : ByteArray) : List UInt8 := s.data.toList
theorem L_length (s : ByteArray) : (L s).length = s.size := by show s.data.toList.length = s.data.size; exact Array.length_toList
theorem L_inj {s t : ByteArray} (h : L s = L t) : s = t := by
  cases s; cases t; congr 1; exact Array.toList_inj.1 h
theorem L_mk (l : List UInt8) : L ⟨l.toArray⟩ = l := by simp [L]
theorem L_append (s t : ByteArray) : L (s ++ t) = L s ++ L t := by simp [L]
theorem toList_L (s : ByteArray) : s.toList = L s := ByteArray.toList_eq s
theorem extract_L (s : ByteArray) (a b : Nat) : L (s.extract a b) = ((L s).drop a).take (b - a) := Go.Lib.extract_data s a b
theorem wrap_nat {p : Nat} (h : p + 1 ≤ 9223372036854775807) : wrap64 ((p : Int) + 1) = ((p + 1 : Nat) : Int) := by unfold wrap64; omega
def run (f : UInt8 → Bool) (l : List UInt8) (p : Nat) : Nat := p + ((l.drop p).takeWhile f).length
end Go.Proofs.YtnfpchpnephheaaDoor.Txt
end
section
namespace Go.Proofs.YtnfpchpnephheaaDoor.Ar
open Go.RowKit Go.Proofs.YtnfpchpnephheaaDoor.Lib Go.Proofs.YtnfpchpnephheaaDoor.PA Go.Proofs.YtnfpchpnephheaaDoor.Txt Go.Proofs.YtnfpchpnephheaaDoor.Num Go.Proofs.YtnfpchpnephheaaDoor.Hn Go.Proofs.YtnfpchpnephheaaDoorW.PrintWords Go.Proofs.YtnfpchpnephheaaDoorW.PrintLast Go.Proofs.YtnfpchpnephheaaDoorW.PrintMore
set_option linter.unusedVariables false
set_option linter.unusedSimpArgs false
theorem Ev.shift {α : Type} {g : Nat → Option α} {r : α} (h : Ev (fun k => g (k + 1)) r) : Ev g r := by
  obtain ⟨K, hK⟩ := h
  refine ⟨K + 1, fun k hk => ?_⟩
  obtain ⟨m, rfl⟩ : ∃ m, k = m + 1 := ⟨k - 1, by omega⟩
  exact hK m (by omega)
def mkB (l : List UInt8) : ByteArray := ⟨l.toArray⟩
theorem L_mkB (l : List UInt8) : L (mkB l) = l := L_mk l
theorem mkB_size (l : List UInt8) : (mkB l).size = l.length := by rw [← L_length, L_mkB]
theorem mkB_L (s : ByteArray) : mkB (L s) = s := L_inj (L_mkB _)
theorem one_sz (c : UInt8) : (⟨#[c]⟩ : ByteArray).size = 1 := rfl
theorem one_num (n : Nat) : strOfNums [wrap64 (48 + Int.tmod (n : Int) 10) % 256] = mkB [UInt8.ofNat (48 + n % 10)] := by
  have e : wrap64 (48 + Int.tmod (n : Int) 10) % 256 = ((48 + n % 10 : Nat) : Int) := by
    rw [Int.tmod_eq_emod_of_nonneg (by omega)]; unfold wrap64; omega
  rw [e]; rfl
theorem tdiv_ten (n : Nat) (h : n ≤ 9000000000) : wrap64 (Int.tdiv (n : Int) 10) = ((n / 10 : Nat) : Int) := by
  rw [Int.tdiv_eq_ediv_of_nonneg (by omega)]; unfold wrap64; omega
theorem digits_l1 (w : Nat) (hw : w ≤ 1000) : ∀ (d : Nat) (acc : ByteArray), w - acc.size = d → Ev (fun k => marlinspikeref05_Digits.l1 k (w : Int) acc) (mkB (List.replicate (w - acc.size) 48 ++ L acc)) := by
  intro d
  induction d with
  | zero =>
    intro acc hd
    refine Ev.shift ⟨0, fun k hk => ?_⟩
    simp only [marlinspikeref05_Digits.l1]
    rw [if_neg (by omega), hd, List.replicate_zero, List.nil_append, mkB_L]
  | succ d ih =>
    intro acc hd
    have hz : ((⟨#[48]⟩ : ByteArray) ++ acc).size = acc.size + 1 := by rw [ByteArray.size_append, one_sz]; omega
    obtain ⟨K, hK⟩ := ih ((⟨#[48]⟩ : ByteArray) ++ acc) (by rw [hz]; omega)
    dsimp only at hK
    refine Ev.shift ⟨K, fun k hk => ?_⟩
    simp only [marlinspikeref05_Digits.l1]
    rw [if_pos (by omega), if_pos (by omega)]
    have h2 := hK k hk
    rw [hz, L_append, show L (⟨#[48]⟩ : ByteArray) = [48] from rfl, ← List.append_assoc, show w - (acc.size + 1) = d by omega, ← List.replicate_succ'] at h2
    rw [hd]
    exact h2
theorem digits_l0 (w : Nat) (r : ByteArray) : ∀ (n : Nat) (first : Bool) (acc : ByteArray), n ≤ 9000000000 → acc.size + n ≤ 18000000000 → (first = false → 0 < n) →
    Ev (fun k => marlinspikeref05_Digits.l1 k (w : Int) (mkB (Go.Lib.decDigits n ++ L acc))) r → Ev (fun k => marlinspikeref05_Digits.l0 k (n : Int) (w : Int) acc first) r := by
  intro n
  induction n using Nat.strongRecOn with
  | _ n ih =>
    intro first acc hn ha hf hr
    have key : Ev (fun k => marlinspikeref05_Digits.l0 k ((n / 10 : Nat) : Int) (w : Int) (mkB [UInt8.ofNat (48 + n % 10)] ++ acc) false) r := by
      by_cases h : n < 10
      · rw [Go.Lib.decDigits, dif_pos h] at hr
        obtain ⟨K, hK⟩ := hr
        dsimp only at hK
        refine Ev.shift ⟨K, fun k hk => ?_⟩
        simp only [marlinspikeref05_Digits.l0]
        rw [if_neg (by decide), if_neg (by omega), show n % 10 = n by omega]
        have e : mkB [UInt8.ofNat (48 + n)] ++ acc = mkB ([UInt8.ofNat (48 + n)] ++ L acc) := L_inj (by rw [L_append, L_mkB, L_mkB])
        rw [e]
        exact hK k hk
      · rw [Go.Lib.decDigits, dif_neg h] at hr
        refine ih (n / 10) (by omega) false _ (by omega) (by rw [ByteArray.size_append, mkB_size]; simp; omega) (fun _ => by omega) ?_
        rw [L_append, L_mkB, ← List.append_assoc]
        exact hr
    obtain ⟨K, hK⟩ := key
    dsimp only at hK
    refine Ev.shift ⟨K, fun k hk => ?_⟩
    have hz : (mkB [UInt8.ofNat (48 + n % 10)]).size = 1 := mkB_size _
    simp only [marlinspikeref05_Digits.l0]
    rw [tdiv_ten n hn]
    simp only [Option.bind_some]
    cases first with
    | true => rw [if_pos (by first | rfl | trivial), one_num, hz, if_pos (by omega)]; exact hK k hk
    | false => rw [if_neg (by decide), if_pos (by have := hf rfl; omega), one_num, hz, if_pos (by omega)]; exact hK k hk
theorem digits_ev (n w : Nat) (hn : n ≤ 9000000000) (hw : w ≤ 1000) : Ev (fun k => marlinspikeref05_Digits.f k (n : Int) (w : Int)) (mkB (padL w n)) := by
  have h1 := digits_l1 w hw _ (mkB (Go.Lib.decDigits n)) rfl
  rw [mkB_size, L_mkB] at h1
  have h2 := digits_l0 w _ n true (⟨#[]⟩ : ByteArray) hn (by show 0 + n ≤ _; omega) (fun h => by cases h) (by rw [show L (⟨#[]⟩ : ByteArray) = [] from rfl, List.append_nil]; exact h1)
  exact h2
theorem dig0_ev (n : Nat) (hn : n ≤ 9000000000) : Ev (fun k => marlinspikeref05_Digits.f k (n : Int) 0) (mkB (Go.Lib.decDigits n)) := by
  have h := digits_ev n 0 hn (by omega)
  have e : padL 0 n = Go.Lib.decDigits n := by unfold padL; simp
  rw [e] at h
  exact h
theorem itoa_f (n : Nat) (hn : n ≤ 9000000000) : strconv_Itoa.f (n : Int) = some (mkB (Go.Lib.decDigits n)) := by
  unfold strconv_Itoa.f
  have hi : Go.Lib.itoa (n : Int) = Go.Lib.decDigits n := by unfold Go.Lib.itoa; rw [if_neg (by omega)]; rfl
  rw [if_pos (by omega), hi]; rfl
def incr : Int → List Int → Bool
  | _, [] => true
  | last, n :: l => decide (last < n) && decide (n ≤ 999999) && incr n l
def rightB (l : List Int) (lim : Int) : Bool := decide (1 ≤ l.length) && decide (l.length ≤ 256) && decide (0 ≤ lim) && decide (lim ≤ 999999) && incr (-1) l
theorem rd_get (l : List Int) (i : Nat) (h : i < l.length) : rd l (i : Int) = l[i] := by
  unfold rd
  rw [Int.toNat_natCast, List.getD_eq_getElem?_getD, List.getElem?_eq_getElem h]; rfl
theorem right_l0 (l : List Int) (hl : l.length ≤ 1000) : ∀ (d i : Nat) (last : Int), l.length - i = d → i ≤ l.length → Ev (fun k => array_Right.l0 k last l (l.length : Int) (i : Int)) (incr last (l.drop i)) := by
  intro d
  induction d with
  | zero =>
    intro i last hd hi
    refine Ev.shift ⟨0, fun k hk => ?_⟩
    simp only [array_Right.l0]
    rw [if_neg (by omega), List.drop_eq_nil_of_le (by omega)]; rfl
  | succ d ih =>
    intro i last hd hi
    have hlt : i < l.length := by omega
    rw [List.drop_eq_getElem_cons hlt]
    by_cases c1 : l[i] ≤ last
    · refine Ev.shift ⟨0, fun k hk => ?_⟩
      simp only [array_Right.l0]
      rw [if_pos (by omega), if_pos (by omega), if_pos (by omega), rd_get l i hlt, if_pos c1]
      simp only [incr]
      rw [decide_eq_false (show ¬ last < l[i] by omega)]; rfl
    · by_cases c2 : l[i] > 999999
      · refine Ev.shift ⟨0, fun k hk => ?_⟩
        simp only [array_Right.l0]
        rw [if_pos (by omega), if_pos (by omega), if_pos (by omega), rd_get l i hlt, if_neg c1, if_pos c2]
        simp only [incr]
        rw [decide_eq_false (show ¬ l[i] ≤ 999999 by omega)]; simp
      · obtain ⟨K, hK⟩ := ih (i + 1) l[i] (by omega) (by omega)
        dsimp only at hK
        refine Ev.shift ⟨K, fun k hk => ?_⟩
        simp only [array_Right.l0]
        rw [if_pos (by omega), if_pos (by omega), if_pos (by omega), rd_get l i hlt, if_neg c1, if_neg c2, wrap_nat (by omega)]
        simp only [incr]
        rw [decide_eq_true (show last < l[i] by omega), decide_eq_true (show l[i] ≤ 999999 by omega)]
        exact hK k hk
theorem right_ev (l : List Int) (lim : Int) : Ev (fun k => array_Right.f k l lim) (rightB l lim) := by
  have hj : ∀ b : Bool, (b = false → l.length ≤ 256) → Ev (fun k => array_Right.j0 k b l lim) (!b && incr (-1) l) := by
    intro b hb
    cases b with
    | true =>
      refine Ev.shift ⟨0, fun k hk => ?_⟩
      simp only [array_Right.j0]
      rw [if_pos (by first | rfl | trivial)]; rfl
    | false =>
      obtain ⟨K, hK⟩ := right_l0 l (by have := hb rfl; omega) _ 0 (-1) rfl (by omega)
      refine Ev.shift ⟨K, fun k hk => ?_⟩
      simp only [array_Right.j0]
      rw [if_neg (by decide)]
      exact hK k hk
  by_cases c1 : l.length = 0
  · obtain ⟨K, hK⟩ := hj true (fun h => by cases h)
    refine ⟨K, fun k hk => ?_⟩
    simp only [array_Right.f]
    rw [if_pos (by omega)]
    unfold rightB
    rw [decide_eq_false (show ¬ 1 ≤ l.length by omega)]
    exact hK k hk
  · by_cases c2 : l.length > 256
    · obtain ⟨K, hK⟩ := hj true (fun h => by cases h)
      refine ⟨K, fun k hk => ?_⟩
      simp only [array_Right.f]
      rw [if_neg (by omega), if_pos (by omega)]
      unfold rightB
      rw [decide_eq_false (show ¬ l.length ≤ 256 by omega)]
      have := hK k hk
      simpa using this
    · by_cases c3 : lim < 0
      · obtain ⟨K, hK⟩ := hj true (fun h => by cases h)
        refine ⟨K, fun k hk => ?_⟩
        simp only [array_Right.f]
        rw [if_neg (by omega), if_neg (by omega), if_pos c3]
        unfold rightB
        rw [decide_eq_false (show ¬ 0 ≤ lim by omega)]
        have := hK k hk
        simpa using this
      · obtain ⟨K, hK⟩ := hj (decide (lim > 999999)) (fun _ => by omega)
        refine ⟨K, fun k hk => ?_⟩
        simp only [array_Right.f]
        rw [if_neg (by omega), if_neg (by omega), if_neg c3]
        have e : rightB l lim = (!(decide (lim > 999999)) && incr (-1) l) := by
          unfold rightB
          rw [decide_eq_true (show 1 ≤ l.length by omega), decide_eq_true (show l.length ≤ 256 by omega), decide_eq_true (show 0 ≤ lim by omega)]
          by_cases c4 : lim > 999999
          · rw [decide_eq_true c4, decide_eq_false (show ¬ lim ≤ 999999 by omega)]; rfl
          · rw [decide_eq_false c4, decide_eq_true (show lim ≤ 999999 by omega)]; rfl
        rw [e]
        exact hK k hk
def lastOf (l : List Int) (i : Nat) : Int := if i = 0 then -1 else l.getD (i - 1) 0
theorem rright_l0 (l : List Int) (lim : Int) (hl : l.length ≤ 1000) : ∀ (d i : Nat), l.length - i = d → i ≤ l.length → (i ≠ 0 → 0 ≤ lastOf l i) → Ev (fun k => marlinspikeref08_Right.l0 k (l.length : Int) (i : Int) l lim) (incr (lastOf l i) (l.drop i)) := by
  intro d
  induction d with
  | zero =>
    intro i hd hi h0
    refine Ev.shift ⟨0, fun k hk => ?_⟩
    simp only [marlinspikeref08_Right.l0]
    rw [if_neg (by omega), List.drop_eq_nil_of_le (by omega)]; rfl
  | succ d ih =>
    intro i hd hi h0
    have hlt : i < l.length := by omega
    have hnext : lastOf l (i + 1) = l[i] := by
      unfold lastOf
      rw [if_neg (by omega), Nat.add_sub_cancel, List.getD_eq_getElem?_getD, List.getElem?_eq_getElem hlt]; rfl
    rw [List.drop_eq_getElem_cons hlt]
    simp only [incr]
    by_cases c1 : l[i] < 0
    · refine Ev.shift ⟨0, fun k hk => ?_⟩
      simp only [marlinspikeref08_Right.l0]
      rw [if_pos (by omega), if_pos (by omega), if_pos (by omega), rd_get l i hlt, if_pos c1]
      have : ¬ lastOf l i < l[i] := by
        by_cases hi0 : i = 0
        · unfold lastOf; rw [if_pos hi0]; omega
        · have := h0 hi0; omega
      rw [decide_eq_false this]; rfl
    · by_cases c2 : l[i] > 999999
      · refine Ev.shift ⟨0, fun k hk => ?_⟩
        simp only [marlinspikeref08_Right.l0]
        rw [if_pos (by omega), if_pos (by omega), if_pos (by omega), rd_get l i hlt, if_neg c1, if_pos c2, decide_eq_false (show ¬ l[i] ≤ 999999 by omega)]; simp
      · obtain ⟨K, hK⟩ := ih (i + 1) (by omega) (by omega) (fun _ => by rw [hnext]; omega)
        rw [hnext] at hK
        dsimp only at hK
        by_cases hi0 : i = 0
        · refine Ev.shift ⟨K, fun k hk => ?_⟩
          simp only [marlinspikeref08_Right.l0]
          rw [if_pos (by omega), if_pos (by omega), if_pos (by omega), rd_get l i hlt, if_neg c1, if_neg c2, if_neg (by omega), wrap_nat (by omega)]
          have e : lastOf l i = -1 := by unfold lastOf; rw [if_pos hi0]
          rw [e, decide_eq_true (show (-1 : Int) < l[i] by omega), decide_eq_true (show l[i] ≤ 999999 by omega)]
          exact hK k hk
        · have hw : wrap64 ((i : Int) - 1) = ((i - 1 : Nat) : Int) := by unfold wrap64; omega
          have e : lastOf l i = l[i - 1] := by
            unfold lastOf
            rw [if_neg hi0, List.getD_eq_getElem?_getD, List.getElem?_eq_getElem (by omega)]; rfl
          by_cases c3 : l[i] ≤ l[i - 1]
          · refine Ev.shift ⟨0, fun k hk => ?_⟩
            simp only [marlinspikeref08_Right.l0]
            rw [if_pos (by omega), if_pos (by omega), if_pos (by omega), rd_get l i hlt, if_neg c1, if_neg c2, if_pos (by omega), hw, if_pos (by omega), if_pos (by omega), rd_get l (i - 1) (by omega), if_pos c3, e, decide_eq_false (show ¬ l[i - 1] < l[i] by omega)]; rfl
          · refine Ev.shift ⟨K, fun k hk => ?_⟩
            simp only [marlinspikeref08_Right.l0]
            rw [if_pos (by omega), if_pos (by omega), if_pos (by omega), rd_get l i hlt, if_neg c1, if_neg c2, if_pos (by omega), hw, if_pos (by omega), if_pos (by omega), rd_get l (i - 1) (by omega), if_neg c3, wrap_nat (by omega), e, decide_eq_true (show l[i - 1] < l[i] by omega), decide_eq_true (show l[i] ≤ 999999 by omega)]
            exact hK k hk
theorem rright_ev (l : List Int) (lim : Int) : Ev (fun k => marlinspikeref08_Right.f k l lim) (rightB l lim) := by
  have hj : ∀ b : Bool, (b = false → l.length ≤ 256) → Ev (fun k => marlinspikeref08_Right.j0 k (l.length : Int) b l lim) (!b && incr (-1) l) := by
    intro b hb
    cases b with
    | true =>
      refine Ev.shift ⟨0, fun k hk => ?_⟩
      simp only [marlinspikeref08_Right.j0]
      rw [if_pos (by first | rfl | trivial)]; rfl
    | false =>
      obtain ⟨K, hK⟩ := rright_l0 l lim (by have := hb rfl; omega) _ 0 rfl (by omega) (fun h => absurd rfl h)
      refine Ev.shift ⟨K, fun k hk => ?_⟩
      simp only [marlinspikeref08_Right.j0]
      rw [if_neg (by decide)]
      exact hK k hk
  by_cases c1 : l.length = 0
  · obtain ⟨K, hK⟩ := hj true (fun h => by cases h)
    refine ⟨K, fun k hk => ?_⟩
    simp only [marlinspikeref08_Right.f]
    rw [if_pos (by omega)]
    unfold rightB
    rw [decide_eq_false (show ¬ 1 ≤ l.length by omega)]
    exact hK k hk
  · by_cases c2 : l.length > 256
    · obtain ⟨K, hK⟩ := hj true (fun h => by cases h)
      refine ⟨K, fun k hk => ?_⟩
      simp only [marlinspikeref08_Right.f]
      rw [if_neg (by omega), if_pos (by omega)]
      unfold rightB
      rw [decide_eq_false (show ¬ l.length ≤ 256 by omega)]
      have := hK k hk
      simpa using this
    · by_cases c3 : lim < 0
      · obtain ⟨K, hK⟩ := hj true (fun h => by cases h)
        refine ⟨K, fun k hk => ?_⟩
        simp only [marlinspikeref08_Right.f]
        rw [if_neg (by omega), if_neg (by omega), if_pos c3]
        unfold rightB
        rw [decide_eq_false (show ¬ 0 ≤ lim by omega)]
        have := hK k hk
        simpa using this
      · obtain ⟨K, hK⟩ := hj (decide (lim > 999999)) (fun _ => by omega)
        refine ⟨K, fun k hk => ?_⟩
        simp only [marlinspikeref08_Right.f]
        rw [if_neg (by omega), if_neg (by omega), if_neg c3]
        have e : rightB l lim = (!(decide (lim > 999999)) && incr (-1) l) := by
          unfold rightB
          rw [decide_eq_true (show 1 ≤ l.length by omega), decide_eq_true (show l.length ≤ 256 by omega), decide_eq_true (show 0 ≤ lim by omega)]
          by_cases c4 : lim > 999999
          · rw [decide_eq_true c4, decide_eq_false (show ¬ lim ≤ 999999 by omega)]; rfl
          · rw [decide_eq_false c4, decide_eq_true (show lim ≤ 999999 by omega)]; rfl
        rw [e]
        exact hK k hk
end Go.Proofs.YtnfpchpnephheaaDoor.Ar
end
section
namespace Go.Proofs.YtnfpchpnephheaaDoor.Ar
open Go.RowKit Go.Proofs.YtnfpchpnephheaaDoor.Lib Go.Proofs.YtnfpchpnephheaaDoor.PA Go.Proofs.YtnfpchpnephheaaDoor.Txt Go.Proofs.YtnfpchpnephheaaDoor.Num Go.Proofs.YtnfpchpnephheaaDoor.Hn Go.Proofs.YtnfpchpnephheaaDoorW.PrintWords Go.Proofs.YtnfpchpnephheaaDoorW.PrintLast Go.Proofs.YtnfpchpnephheaaDoorW.PrintMore
set_option linter.unusedVariables false
set_option linter.unusedSimpArgs false
abbrev dec (n : Int) : List UInt8 := Go.Lib.decDigits n.toNat
def ext (step : Int) : Int → List Int → Nat
  | _, [] => 0
  | p, z :: r => if z - p = step then 1 + ext step z r else 0
def stepOf : List Int → Int
  | x :: y :: _ => y - x
  | _ => 0
def runLen : List Int → Nat
  | [] => 0
  | x :: r => 1 + ext (stepOf (x :: r)) x r
theorem ext_le (st : Int) : ∀ (r : List Int) (p : Int), ext st p r ≤ r.length
  | [], _ => Nat.le_refl _
  | z :: r, p => by unfold ext; split; have := ext_le st r z; simp; omega; simp
theorem runLen_le (l : List Int) : runLen l ≤ l.length := by
  cases l with
  | nil => exact Nat.le_refl _
  | cons x r => unfold runLen; have := ext_le (stepOf (x :: r)) r x; simp; omega
def parts : Nat → List Int → List (List UInt8)
  | 0, _ => []
  | _ + 1, [] => []
  | n + 1, x :: r =>
    if stepOf (x :: r) = 1 then (dec x ++ 45 :: dec ((x :: r).getD (runLen (x :: r) - 1) 0)) :: parts n ((x :: r).drop (runLen (x :: r)))
    else if 2 < runLen (x :: r) then (dec x ++ 45 :: (dec ((x :: r).getD (runLen (x :: r) - 1) 0) ++ 58 :: dec (stepOf (x :: r)))) :: parts n ((x :: r).drop (runLen (x :: r)))
    else dec x :: parts n r
def limT (lim : Int) : List UInt8 := if 0 < lim then 37 :: dec lim else []
def textOf (l : List Int) (lim : Int) : List UInt8 := Go.Lib.join (parts l.length l) [44] ++ limT lim
def Good (l : List Int) : Prop := (∀ x ∈ l, 0 ≤ x ∧ x ≤ 999999) ∧ l.Pairwise (· < ·)
theorem incr_good : ∀ (l : List Int) (last : Int), -1 ≤ last → incr last l = true → Good l ∧ ∀ x ∈ l, last < x
  | [], last, _, _ => ⟨⟨by simp, List.Pairwise.nil⟩, by simp⟩
  | n :: l, last, h0, h => by
    simp only [incr, Bool.and_eq_true, decide_eq_true_eq] at h
    obtain ⟨⟨h1, h2⟩, h3⟩ := h
    obtain ⟨⟨g1, g2⟩, g3⟩ := incr_good l n (by omega) h3
    refine ⟨⟨fun x hx => ?_, List.Pairwise.cons g3 g2⟩, fun x hx => ?_⟩
    · rcases List.mem_cons.1 hx with rfl | hx
      · omega
      · exact g1 x hx
    · rcases List.mem_cons.1 hx with rfl | hx
      · exact h1
      · have := g3 x hx; omega
theorem Good.drop {l : List Int} (h : Good l) (n : Nat) : Good (l.drop n) := ⟨fun x hx => h.1 x (List.mem_of_mem_drop hx), h.2.sublist (List.drop_sublist n l)⟩
theorem dec_nat (n : Int) (h : 0 ≤ n) (h2 : n ≤ 9000000000) : strconv_Itoa.f n = some (mkB (dec n)) := by
  obtain ⟨m, rfl⟩ := Int.eq_ofNat_of_zero_le h
  exact itoa_f m (by omega)
theorem dig_nat (n : Int) (h : 0 ≤ n) (h2 : n ≤ 9000000000) : Ev (fun k => marlinspikeref05_Digits.f k n 0) (mkB (dec n)) := by
  obtain ⟨m, rfl⟩ := Int.eq_ofNat_of_zero_le h
  exact dig0_ev m (by omega)
theorem dec_le (n : Int) (h2 : n ≤ 999999) : (dec n).length ≤ 6 := dec_len 5 n.toNat (by omega)
theorem wsub {a b : Int} (ha : 0 ≤ a ∧ a ≤ 999999) (hb : 0 ≤ b ∧ b ≤ 999999) : wrap64 (a - b) = a - b := by unfold wrap64; omega
theorem run_l0 (l : List Int) (hg : Good l) (hl : l.length ≤ 1000) (st : Int) : ∀ (d j : Nat), l.length - j = d → 1 ≤ j → j ≤ l.length → Ev (fun k => array_run.l0 k l st (j : Int)) (((j + ext st (l.getD (j - 1) 0) (l.drop j) : Nat) : Int), st) := by
  intro d
  induction d with
  | zero =>
    intro j hd h1 hj
    refine Ev.shift ⟨0, fun k hk => ?_⟩
    simp only [array_run.l0]
    rw [if_neg (by omega), List.drop_eq_nil_of_le (by omega)]
    rfl
  | succ d ih =>
    intro j hd h1 hj
    have hlt : j < l.length := by omega
    have hw : wrap64 ((j : Int) - 1) = ((j - 1 : Nat) : Int) := by unfold wrap64; omega
    have hA := hg.1 l[j] (List.getElem_mem hlt)
    have hB := hg.1 l[j - 1] (List.getElem_mem (by omega))
    have hgd : l.getD (j - 1) 0 = l[j - 1] := by rw [List.getD_eq_getElem?_getD, List.getElem?_eq_getElem (by omega)]; rfl
    rw [List.drop_eq_getElem_cons hlt, hgd]
    by_cases c : l[j] - l[j - 1] = st
    · obtain ⟨K, hK⟩ := ih (j + 1) (by omega) (by omega) (by omega)
      dsimp only at hK
      refine Ev.shift ⟨K, fun k hk => ?_⟩
      simp only [array_run.l0]
      rw [if_pos (by omega), if_pos (by omega), hw, if_pos (by omega), if_pos (by omega), rd_get l j hlt, rd_get l (j - 1) (by omega), wsub hA hB, if_pos c, wrap_nat (by omega)]
      have h2 := hK k hk
      have hgd2 : l.getD (j + 1 - 1) 0 = l[j] := by rw [Nat.add_sub_cancel, List.getD_eq_getElem?_getD, List.getElem?_eq_getElem hlt]; rfl
      rw [hgd2] at h2
      rw [h2]
      simp only [ext]
      rw [if_pos c]
      congr 2
      omega
    · refine Ev.shift ⟨0, fun k hk => ?_⟩
      simp only [array_run.l0]
      rw [if_pos (by omega), if_pos (by omega), hw, if_pos (by omega), if_pos (by omega), rd_get l j hlt, rd_get l (j - 1) (by omega), wsub hA hB, if_neg c]
      simp only [ext]
      rw [if_neg c]
      rfl
theorem run_ev (x : Int) (r : List Int) (hg : Good (x :: r)) (hl : (x :: r).length ≤ 1000) : Ev (fun k => array_run.f k (x :: r)) ((runLen (x :: r) : Int), stepOf (x :: r)) := by
  cases r with
  | nil =>
    refine ⟨0, fun k hk => ?_⟩
    simp only [array_run.f]
    rw [if_pos (by simp)]
    rfl
  | cons y r =>
    obtain ⟨K, hK⟩ := run_l0 (x :: y :: r) hg hl (y - x) _ 2 rfl (by omega) (by simp)
    dsimp only at hK
    refine ⟨K, fun k hk => ?_⟩
    simp only [array_run.f]
    have hA := hg.1 x (by simp)
    have hB := hg.1 y (by simp)
    have e1 : rd (x :: y :: r) 1 = y := rfl
    have e0 : rd (x :: y :: r) 0 = x := rfl
    have hlen : (x :: y :: r).length = r.length + 2 := by simp
    rw [if_neg (by rw [hlen]; omega), if_pos (by rw [hlen]; omega), if_pos (by rw [hlen]; omega), e1, e0, wsub hB hA]
    have h2 := hK k hk
    rw [show ((2 : Nat) : Int) = 2 from rfl] at h2
    rw [h2]
    have e2 : runLen (x :: y :: r) = 2 + ext (y - x) y r := by
      show 1 + ext (y - x) x (y :: r) = _
      simp only [ext]
      rw [if_pos trivial]; omega
    rw [e2]
    rfl
theorem step_le (x : Int) (r : List Int) (hg : Good (x :: r)) : 0 ≤ stepOf (x :: r) ∧ stepOf (x :: r) ≤ 999999 ∧ (stepOf (x :: r) = 1 → 2 ≤ runLen (x :: r)) := by
  cases r with
  | nil => exact ⟨Int.le_refl _, (show (0 : Int) ≤ 999999 by decide), fun h => by cases h⟩
  | cons y r =>
    have hA := hg.1 x (by simp)
    have hB := hg.1 y (by simp)
    have hlt : x < y := (List.pairwise_cons.1 hg.2).1 y (by simp)
    refine ⟨by show 0 ≤ y - x; omega, by show y - x ≤ 999999; omega, fun _ => ?_⟩
    show 2 ≤ 1 + ext (y - x) x (y :: r)
    simp only [ext]
    rw [if_pos trivial]; omega
theorem join_snoc (out : List (List UInt8)) (t : List UInt8) (h : out ≠ []) : Go.Lib.join (out ++ [t]) [44] = Go.Lib.join out [44] ++ 44 :: t := by
  unfold Go.Lib.join
  induction out with
  | nil => exact absurd rfl h
  | cons x l ih =>
    cases l with
    | nil => simp [List.intercalate]
    | cons y l =>
      have e : ∀ (a b : List UInt8) (r : List (List UInt8)), ([44] : List UInt8).intercalate (a :: b :: r) = a ++ 44 :: ([44] : List UInt8).intercalate (b :: r) := by
        intro a b r; simp [List.intercalate]
      simp only [List.cons_append] at ih ⊢
      rw [e, e, ih (by simp)]
      simp
theorem join_len (l : List (List UInt8)) (h : ∀ x ∈ l, x.length ≤ 100) : (Go.Lib.join l [44]).length ≤ l.length * 101 := by
  unfold Go.Lib.join
  induction l with
  | nil => simp [List.intercalate]
  | cons x l ih =>
    have hx := h x (by simp)
    have ih2 := ih (fun y hy => h y (by simp [hy]))
    cases l with
    | nil => simp [List.intercalate]; omega
    | cons y l =>
      have e : ([44] : List UInt8).intercalate (x :: y :: l) = x ++ 44 :: ([44] : List UInt8).intercalate (y :: l) := by simp [List.intercalate]
      rw [e, List.length_append, List.length_cons]
      simp only [List.length_cons] at ih2 ⊢
      omega
theorem last_ok (x : Int) (r : List Int) (hg : Good (x :: r)) : ∃ h : runLen (x :: r) - 1 < (x :: r).length, (x :: r).getD (runLen (x :: r) - 1) 0 = (x :: r)[runLen (x :: r) - 1]'h ∧ 0 ≤ (x :: r).getD (runLen (x :: r) - 1) 0 ∧ (x :: r).getD (runLen (x :: r) - 1) 0 ≤ 999999 := by
  have h1 := runLen_le (x :: r)
  have h2 : runLen (x :: r) - 1 < (x :: r).length := by simp at h1 ⊢; omega
  have e : (x :: r).getD (runLen (x :: r) - 1) 0 = (x :: r)[runLen (x :: r) - 1]'h2 := by rw [List.getD_eq_getElem?_getD, List.getElem?_eq_getElem h2]; rfl
  refine ⟨h2, e, ?_⟩
  rw [e]
  exact hg.1 _ (List.getElem_mem h2)
theorem form_end (l0 : List Int) (lim : Int) (hlim : 0 ≤ lim ∧ lim ≤ 999999) (out : List (List UInt8)) (ho : out.length ≤ 1000) (hx : ∀ x ∈ out, x.length ≤ 100) :
    Ev (fun k => array_Format.l0 k (out.map mkB) [] l0 lim) (mkB (Go.Lib.join (out ++ []) [44] ++ limT lim), 0) := by
  refine Ev.shift ⟨0, fun k hk => ?_⟩
  have hj := join_len out hx
  have hmul : out.length * 101 ≤ 1000 * 101 := Nat.mul_le_mul_right _ ho
  have hd := dec_le lim hlim.2
  have e : ((out.map mkB).map fun s => s.data.toList) = out := by
    rw [List.map_map]
    conv => rhs; rw [← List.map_id out]
    apply List.map_congr_left
    intro t _
    exact L_mkB t
  simp only [array_Format.l0]
  rw [if_neg (by simp)]
  unfold strings_Join.f
  rw [e, show (⟨#[44]⟩ : ByteArray).data.toList = [44] from rfl, if_pos ⟨by rw [List.length_map]; omega, by omega⟩, Option.bind_some, List.append_nil]
  unfold limT
  by_cases c : 0 < lim
  · rw [if_pos c, if_pos c, dec_nat lim hlim.1 (by omega), Option.bind_some]
    have hm : ∀ a b : List UInt8, mkB a ++ mkB b = mkB (a ++ b) := fun a b => L_inj (by rw [L_append, L_mkB, L_mkB, L_mkB])
    have h37 : (⟨#[37]⟩ : ByteArray) = mkB [37] := rfl
    have hj2 : (⟨(Go.Lib.join out [44]).toArray⟩ : ByteArray) = mkB (Go.Lib.join out [44]) := rfl
    rw [h37, hj2, hm, hm]
    simp only [mkB_size]
    rw [if_pos (by omega), if_pos (by simp; omega)]
    rfl
  · rw [if_neg c, if_neg c, List.append_nil]
    rfl
theorem form_l0 (l0 : List Int) (lim : Int) (hlim : 0 ≤ lim ∧ lim ≤ 999999) : ∀ (n : Nat) (l : List Int) (out : List (List UInt8)), l.length ≤ n → Good l → out.length + l.length ≤ 1000 → (∀ x ∈ out, x.length ≤ 100) →
    Ev (fun k => array_Format.l0 k (out.map mkB) l l0 lim) (mkB (Go.Lib.join (out ++ parts n l) [44] ++ limT lim), 0) := by
  intro n
  induction n with
  | zero =>
    intro l out hl hg ho hx
    have : l = [] := List.length_eq_zero_iff.1 (by omega)
    subst this
    exact form_end l0 lim hlim out (by simpa using ho) hx
  | succ n ih =>
    intro l out hl hg ho hx
    cases l with
    | nil => exact form_end l0 lim hlim out (by simpa using ho) hx
    | cons x r =>
      obtain ⟨K1, h1⟩ := run_ev x r hg (by omega)
      dsimp only at h1
      obtain ⟨s1, s2, s3⟩ := step_le x r hg
      obtain ⟨hlt, hgd, b1, b2⟩ := last_ok x r hg
      have hxx := hg.1 x (by simp)
      have hrl := runLen_le (x :: r)
      have hr1 : 1 ≤ runLen (x :: r) := by
        show 1 ≤ 1 + ext (stepOf (x :: r)) x r
        omega
      have hlen0 : (0 : Int) < ((x :: r).length : Int) := by rw [List.length_cons]; omega
      have e0 : rd (x :: r) 0 = x := rfl
      have hd1 := dec_le x hxx.2
      have hd2 := dec_le _ b2
      have hd3 := dec_le _ s2
      have hw : wrap64 ((runLen (x :: r) : Int) - 1) = ((runLen (x :: r) - 1 : Nat) : Int) := by unfold wrap64; omega
      have hrd : rd (x :: r) ((runLen (x :: r) - 1 : Nat) : Int) = (x :: r).getD (runLen (x :: r) - 1) 0 := by rw [rd_get _ _ hlt, hgd]
      have hdl : ((x :: r).drop (runLen (x :: r))).length = (x :: r).length - runLen (x :: r) := List.length_drop
      have happ : ∀ t : List UInt8, (out ++ [t]).map mkB = out.map mkB ++ [mkB t] := by intro t; simp
      have hlo : (out.map mkB).length = out.length := List.length_map _
      have h45 : (⟨#[45]⟩ : ByteArray) = mkB [45] := rfl
      have h58 : (⟨#[58]⟩ : ByteArray) = mkB [58] := rfl
      have hm : ∀ a b : List UInt8, mkB a ++ mkB b = mkB (a ++ b) := fun a b => L_inj (by rw [L_append, L_mkB, L_mkB, L_mkB])
      simp only [parts]
      generalize hLast : (x :: r).getD (runLen (x :: r) - 1) 0 = last at *
      by_cases c1 : stepOf (x :: r) = 1
      · rw [if_pos c1]
        obtain ⟨K, hK⟩ := ih ((x :: r).drop (runLen (x :: r))) (out ++ [dec x ++ 45 :: dec last]) (by rw [hdl]; omega) (hg.drop _) (by rw [List.length_append, hdl]; simp at ho ⊢; omega) (by
          intro y hy
          rcases List.mem_append.1 hy with hy | hy
          · exact hx y hy
          · rw [List.mem_singleton.1 hy, List.length_append, List.length_cons]; omega)
        dsimp only at hK
        refine Ev.shift ⟨K + K1, fun k hk => ?_⟩
        have h2 := hK k (by omega)
        rw [happ, List.append_assoc] at h2
        simp only [array_Format.l0]
        rw [if_pos hlen0, if_pos hlen0, e0, dec_nat x hxx.1 (by omega), Option.bind_some, h1 k (by omega), Option.bind_some]
        dsimp only
        rw [if_pos c1, hw, if_pos (by omega), if_pos (by omega), hrd, dec_nat last b1 (by omega), Option.bind_some, h45, hm, hm]
        simp only [mkB_size]
        rw [if_pos (by omega), if_pos (by simp; omega), if_pos (by rw [hlo]; omega), if_pos (by omega), if_pos (by omega), Int.toNat_natCast]
        exact h2
      · rw [if_neg c1]
        by_cases c2 : 2 < runLen (x :: r)
        · rw [if_pos c2]
          obtain ⟨K, hK⟩ := ih ((x :: r).drop (runLen (x :: r))) (out ++ [dec x ++ 45 :: (dec last ++ 58 :: dec (stepOf (x :: r)))]) (by rw [hdl]; omega) (hg.drop _) (by rw [List.length_append, hdl]; simp at ho ⊢; omega) (by
            intro y hy
            rcases List.mem_append.1 hy with hy | hy
            · exact hx y hy
            · rw [List.mem_singleton.1 hy, List.length_append, List.length_cons, List.length_append, List.length_cons]; omega)
          dsimp only at hK
          refine Ev.shift ⟨K + K1, fun k hk => ?_⟩
          have h2 := hK k (by omega)
          rw [happ, List.append_assoc] at h2
          simp only [array_Format.l0]
          rw [if_pos hlen0, if_pos hlen0, e0, dec_nat x hxx.1 (by omega), Option.bind_some, h1 k (by omega), Option.bind_some]
          dsimp only
          rw [if_neg c1, if_pos (by omega), hw, if_pos (by omega), if_pos (by omega), hrd, dec_nat last b1 (by omega), Option.bind_some, h45, h58, hm, hm, dec_nat _ s1 (by omega), Option.bind_some, hm, hm]
          simp only [mkB_size]
          rw [if_pos (by omega), if_pos (by simp; omega), if_pos (by simp; omega), if_pos (by simp; omega), if_pos (by rw [hlo]; omega), if_pos (by omega), if_pos (by omega), Int.toNat_natCast]
          have et : dec x ++ (([45] ++ dec last ++ [58]) ++ dec (stepOf (x :: r))) = dec x ++ 45 :: (dec last ++ 58 :: dec (stepOf (x :: r))) := by simp
          rw [et]
          exact h2
        · rw [if_neg c2]
          obtain ⟨K, hK⟩ := ih r (out ++ [dec x]) (by simp at hl; omega) (hg.drop 1) (by simp at ho ⊢; omega) (by
            intro y hy
            rcases List.mem_append.1 hy with hy | hy
            · exact hx y hy
            · rw [List.mem_singleton.1 hy]; omega)
          dsimp only at hK
          refine Ev.shift ⟨K + K1, fun k hk => ?_⟩
          have h2 := hK k (by omega)
          rw [happ, List.append_assoc] at h2
          simp only [array_Format.l0]
          rw [if_pos hlen0, if_pos hlen0, e0, dec_nat x hxx.1 (by omega), Option.bind_some, h1 k (by omega), Option.bind_some]
          dsimp only
          rw [if_neg c1, if_neg (by omega), if_pos (by rw [hlo]; omega), if_pos (by omega)]
          exact h2
end Go.Proofs.YtnfpchpnephheaaDoor.Ar
end
section
namespace Go.Proofs.YtnfpchpnephheaaDoor.Ar
open Go.RowKit Go.Proofs.YtnfpchpnephheaaDoor.Lib Go.Proofs.YtnfpchpnephheaaDoor.PA Go.Proofs.YtnfpchpnephheaaDoor.Txt Go.Proofs.YtnfpchpnephheaaDoor.Num Go.Proofs.YtnfpchpnephheaaDoor.Hn Go.Proofs.YtnfpchpnephheaaDoorW.PrintWords Go.Proofs.YtnfpchpnephheaaDoorW.PrintLast Go.Proofs.YtnfpchpnephheaaDoorW.PrintMore
set_option linter.unusedVariables false
set_option linter.unusedSimpArgs false
theorem mkB_app (a b : List UInt8) : mkB a ++ mkB b = mkB (a ++ b) := L_inj (by rw [L_append, L_mkB, L_mkB, L_mkB])
theorem gd (l : List Int) (i : Nat) (h : i < l.length) : l.getD i 0 = l[i] := by rw [List.getD_eq_getElem?_getD, List.getElem?_eq_getElem h]; rfl
def tailT (a st : Int) : List UInt8 := 45 :: dec a ++ (if st = 1 then [] else 58 :: dec st)
theorem tailT_len (a st : Int) (ha : a ≤ 999999) (hs : st ≤ 999999) : (tailT a st).length ≤ 14 := by
  have h1 := dec_le a ha
  have h2 := dec_le st hs
  unfold tailT
  split
  · simp only [List.length_append, List.length_cons, List.length_nil]; omega
  · simp only [List.length_append, List.length_cons]; omega
theorem f8_j5t (l : List Int) (lim : Int) (hg : Good l) (hl : l.length ≤ 1000) (u : List UInt8) (hu : u.length ≤ 200000) (i kk : Nat) (h1 : 1 ≤ kk) (hk : kk ≤ l.length) (st : Int) (hs : 0 ≤ st ∧ st ≤ 999999) (r : ByteArray × Int)
    (h : Ev (fun k => marlinspikeref08_Format.l0 k (mkB (u ++ tailT (l.getD (kk - 1) 0) st)) l (kk : Int) l lim) r) : Ev (fun k => marlinspikeref08_Format.j5 k (mkB u) l (i : Int) (kk : Int) st true l lim) r := by
  have hlt : kk - 1 < l.length := by omega
  have hA := hg.1 l[kk - 1] (List.getElem_mem hlt)
  have hw : wrap64 ((kk : Int) - 1) = ((kk - 1 : Nat) : Int) := by unfold wrap64; omega
  rw [gd l _ hlt] at h
  obtain ⟨K, hK⟩ := h
  obtain ⟨K1, hK1⟩ := dig_nat l[kk - 1] hA.1 (by omega)
  obtain ⟨K2, hK2⟩ := dig_nat st hs.1 (by omega)
  dsimp only at hK hK1 hK2
  have hd1 := dec_le _ hA.2
  have hd2 := dec_le _ hs.2
  have h45 : (⟨#[45]⟩ : ByteArray) = mkB [45] := rfl
  have h58 : (⟨#[58]⟩ : ByteArray) = mkB [58] := rfl
  refine Ev.shift ⟨K + K1 + K2, fun k hk => ?_⟩
  have h2 := hK k (by omega)
  simp only [marlinspikeref08_Format.j5]
  rw [if_pos trivial, hw, if_pos (by omega), if_pos (by omega), rd_get l _ hlt, hK1 k (by omega), Option.bind_some, h45, h58]
  simp only [mkB_app, mkB_size]
  rw [if_pos (by omega), if_pos (by simp; omega)]
  unfold tailT at h2
  by_cases c : st = 1
  · rw [if_pos c] at h2 ⊢
    rw [List.append_nil] at h2
    exact h2
  · rw [if_neg c] at h2 ⊢
    rw [hK2 k (by omega), Option.bind_some]
    simp only [mkB_app, mkB_size]
    rw [if_pos (by omega), if_pos (by simp; omega)]
    have e : u ++ ([45] ++ dec l[kk - 1]) ++ ([58] ++ dec st) = u ++ (45 :: dec l[kk - 1] ++ 58 :: dec st) := by simp
    rw [e]
    exact h2
theorem f8_j5f (l : List Int) (lim : Int) (hl : l.length ≤ 1000) (u : List UInt8) (i kk : Nat) (hi : i < l.length) (st : Int) (r : ByteArray × Int)
    (h : Ev (fun k => marlinspikeref08_Format.l0 k (mkB u) l ((i + 1 : Nat) : Int) l lim) r) : Ev (fun k => marlinspikeref08_Format.j5 k (mkB u) l (i : Int) (kk : Int) st false l lim) r := by
  obtain ⟨K, hK⟩ := h
  dsimp only at hK
  refine Ev.shift ⟨K, fun k hk => ?_⟩
  simp only [marlinspikeref08_Format.j5]
  rw [if_neg (by decide), wrap_nat (by omega)]
  exact hK k hk
theorem f8_j4 (l : List Int) (lim : Int) (hg : Good l) (hl : l.length ≤ 1000) (u : List UInt8) (hu : u.length ≤ 150000) (i kk : Nat) (h1 : i + 1 ≤ kk) (hk : kk ≤ l.length) (st : Int) (hs : 0 ≤ st ∧ st ≤ 999999) (hs1 : st = 1 → i + 2 ≤ kk) (r : ByteArray × Int)
    (ht : st = 1 ∨ i + 2 < kk → Ev (fun k => marlinspikeref08_Format.l0 k (mkB (u ++ dec (l.getD i 0) ++ tailT (l.getD (kk - 1) 0) st)) l (kk : Int) l lim) r)
    (hf : ¬ st = 1 → ¬ i + 2 < kk → Ev (fun k => marlinspikeref08_Format.l0 k (mkB (u ++ dec (l.getD i 0))) l ((i + 1 : Nat) : Int) l lim) r) :
    Ev (fun k => marlinspikeref08_Format.j4 k (mkB u) l (i : Int) (kk : Int) st l lim) r := by
  have hlt : i < l.length := by omega
  have hA := hg.1 l[i] (List.getElem_mem hlt)
  have hw : wrap64 ((kk : Int) - (i : Int)) = ((kk - i : Nat) : Int) := by unfold wrap64; omega
  rw [gd l _ hlt] at ht hf
  obtain ⟨K1, hK1⟩ := dig_nat l[i] hA.1 (by omega)
  dsimp only at hK1
  have hd1 := dec_le _ hA.2
  have hul : (u ++ dec l[i]).length ≤ 200000 := by rw [List.length_append]; omega
  have key : Ev (fun k => if (((kk - i : Nat) : Int)) ≥ 3 then (marlinspikeref08_Format.j5 k (mkB (u ++ dec l[i])) l (i : Int) (kk : Int) st true l lim) else (if (((kk - i : Nat) : Int)) = 2 then (marlinspikeref08_Format.j5 k (mkB (u ++ dec l[i])) l (i : Int) (kk : Int) st (st == 1) l lim) else (marlinspikeref08_Format.j5 k (mkB (u ++ dec l[i])) l (i : Int) (kk : Int) st false l lim))) r := by
    by_cases c1 : i + 2 < kk
    · obtain ⟨K, hK⟩ := f8_j5t l lim hg hl (u ++ dec l[i]) hul i kk (by omega) hk st hs r (ht (Or.inr c1))
      refine ⟨K, fun k hk => ?_⟩
      dsimp only
      rw [if_pos (by omega)]
      exact hK k hk
    · by_cases c2 : st = 1
      · obtain ⟨K, hK⟩ := f8_j5t l lim hg hl (u ++ dec l[i]) hul i kk (by omega) hk st hs r (ht (Or.inl c2))
        have hkk := hs1 c2
        have eb : (st == 1) = true := by rw [c2]; rfl
        refine ⟨K, fun k hk => ?_⟩
        dsimp only
        rw [if_neg (by omega), if_pos (by omega), eb]
        exact hK k hk
      · obtain ⟨K, hK⟩ := f8_j5f l lim hl (u ++ dec l[i]) i kk hlt st r (hf c2 c1)
        have eb : (st == 1) = false := beq_eq_false_iff_ne.2 c2
        refine ⟨K, fun k hk => ?_⟩
        dsimp only
        rw [if_neg (by omega), eb, ite_self]
        exact hK k hk
  obtain ⟨K, hK⟩ := key
  dsimp only at hK
  refine Ev.shift ⟨K + K1, fun k hk => ?_⟩
  simp only [marlinspikeref08_Format.j4]
  rw [if_pos (by omega), if_pos (by omega), rd_get l _ hlt, hK1 k (by omega), Option.bind_some, mkB_app, hw]
  simp only [mkB_size]
  rw [if_pos (by omega)]
  exact hK k (by omega)
def preT (out : List (List UInt8)) : List UInt8 := if out = [] then [] else Go.Lib.join out [44] ++ [44]
theorem join_pre (out : List (List UInt8)) (t : List UInt8) : Go.Lib.join (out ++ [t]) [44] = preT out ++ t := by
  unfold preT
  by_cases h : out = []
  · subst h; rw [if_pos rfl]; simp [Go.Lib.join, List.intercalate]
  · rw [if_neg h, join_snoc out t h]; simp
theorem join_nil (out : List (List UInt8)) (h : ∀ t ∈ out, t ≠ []) : Go.Lib.join out [44] = [] ↔ out = [] := by
  constructor
  · intro e
    cases out with
    | nil => rfl
    | cons x r =>
      exfalso
      cases r with
      | nil => exact h x (by simp) (by simpa [Go.Lib.join, List.intercalate] using e)
      | cons y r => simp [Go.Lib.join, List.intercalate] at e
  · rintro rfl; simp [Go.Lib.join, List.intercalate]
theorem f8_j3 (l : List Int) (lim : Int) (out : List (List UInt8)) (ho : out.length ≤ 1000) (hx : ∀ t ∈ out, t ≠ [] ∧ t.length ≤ 100) (i kk st : Int) (r : ByteArray × Int)
    (h : Ev (fun k => marlinspikeref08_Format.j4 k (mkB (preT out)) l i kk st l lim) r) : Ev (fun k => marlinspikeref08_Format.j3 k (mkB (Go.Lib.join out [44])) l i kk st l lim) r := by
  have hj := join_len out (fun t ht => (hx t ht).2)
  have hn := join_nil out (fun t ht => (hx t ht).1)
  have hmul : out.length * 101 ≤ 1000 * 101 := Nat.mul_le_mul_right _ ho
  obtain ⟨K, hK⟩ := h
  dsimp only at hK
  refine Ev.shift ⟨K, fun k hk => ?_⟩
  have h2 := hK k hk
  simp only [marlinspikeref08_Format.j3]
  unfold preT at h2
  by_cases c : out = []
  · rw [if_pos c] at h2
    rw [if_pos (by rw [toList_L, L_mkB]; exact hn.2 c), hn.2 c]
    exact h2
  · rw [if_neg c] at h2
    rw [if_neg (by rw [toList_L, L_mkB]; exact fun e => c (hn.1 e)), show (⟨#[44]⟩ : ByteArray) = mkB [44] from rfl, mkB_app]
    simp only [mkB_size]
    rw [if_pos (by omega)]
    exact h2
theorem f8_l1 (l : List Int) (lim : Int) (hg : Good l) (hl : l.length ≤ 1000) (x4 : ByteArray) (i : Int) (st : Int) (r : ByteArray × Int) : ∀ (d j : Nat), l.length - j = d → 1 ≤ j → j ≤ l.length →
    Ev (fun k => marlinspikeref08_Format.j3 k x4 l i ((j + ext st (l.getD (j - 1) 0) (l.drop j) : Nat) : Int) st l lim) r → Ev (fun k => marlinspikeref08_Format.l1 k x4 l i (j : Int) st l lim) r := by
  intro d
  induction d with
  | zero =>
    intro j hd h1 hj h
    rw [List.drop_eq_nil_of_le (by omega)] at h
    simp only [ext, Nat.add_zero] at h
    obtain ⟨K, hK⟩ := h
    refine Ev.shift ⟨K, fun k hk => ?_⟩
    simp only [marlinspikeref08_Format.l1]
    rw [if_neg (by omega)]
    exact hK k hk
  | succ d ih =>
    intro j hd h1 hj h
    have hlt : j < l.length := by omega
    have hw : wrap64 ((j : Int) - 1) = ((j - 1 : Nat) : Int) := by unfold wrap64; omega
    have hA := hg.1 l[j] (List.getElem_mem hlt)
    have hB := hg.1 l[j - 1] (List.getElem_mem (by omega))
    rw [List.drop_eq_getElem_cons hlt, gd l (j - 1) (by omega)] at h
    simp only [ext] at h
    by_cases c : l[j] - l[j - 1] = st
    · rw [if_pos c] at h
      have h3 := ih (j + 1) (by omega) (by omega) (by omega) (by
        rw [Nat.add_sub_cancel, gd l j hlt, show j + 1 + ext st l[j] (l.drop (j + 1)) = j + (1 + ext st l[j] (l.drop (j + 1))) by omega]
        exact h)
      obtain ⟨K, hK⟩ := h3
      dsimp only at hK
      refine Ev.shift ⟨K, fun k hk => ?_⟩
      simp only [marlinspikeref08_Format.l1]
      rw [if_pos (by omega), if_pos (by omega), hw, if_pos (by omega), if_pos (by omega), rd_get l j hlt, rd_get l (j - 1) (by omega), wsub hA hB, if_pos c, wrap_nat (by omega)]
      exact hK k hk
    · rw [if_neg c] at h
      obtain ⟨K, hK⟩ := h
      refine Ev.shift ⟨K, fun k hk => ?_⟩
      simp only [marlinspikeref08_Format.l1]
      rw [if_pos (by omega), if_pos (by omega), hw, if_pos (by omega), if_pos (by omega), rd_get l j hlt, rd_get l (j - 1) (by omega), wsub hA hB, if_neg c]
      exact hK k hk
theorem f8_end (l : List Int) (lim : Int) (hlim : 0 ≤ lim ∧ lim ≤ 999999) (out : List (List UInt8)) (ho : out.length ≤ 1000) (hx : ∀ t ∈ out, t ≠ [] ∧ t.length ≤ 100) (i : Nat) (hi : l.length ≤ i) :
    Ev (fun k => marlinspikeref08_Format.l0 k (mkB (Go.Lib.join out [44])) l (i : Int) l lim) (mkB (Go.Lib.join (out ++ []) [44] ++ limT lim), 0) := by
  have hj := join_len out (fun t ht => (hx t ht).2)
  have hmul : out.length * 101 ≤ 1000 * 101 := Nat.mul_le_mul_right _ ho
  have hd := dec_le lim hlim.2
  obtain ⟨K, hK⟩ := dig_nat lim hlim.1 (by omega)
  dsimp only at hK
  refine Ev.shift ⟨K, fun k hk => ?_⟩
  simp only [marlinspikeref08_Format.l0]
  rw [if_neg (by omega), List.append_nil]
  unfold limT
  by_cases c : 0 < lim
  · rw [if_pos c, if_pos c, hK k hk, Option.bind_some, show (⟨#[37]⟩ : ByteArray) = mkB [37] from rfl, mkB_app, mkB_app]
    simp only [mkB_size]
    rw [if_pos (by omega), if_pos (by simp; omega)]
    rfl
  · rw [if_neg c, if_neg c, List.append_nil]
theorem dec_ne (n : Int) : dec n ≠ [] := by
  intro h
  unfold dec at h
  rw [Go.Lib.decDigits] at h
  split at h <;> simp at h
theorem f8_l0 (l : List Int) (lim : Int) (hlim : 0 ≤ lim ∧ lim ≤ 999999) (hg : Good l) (hl : l.length ≤ 1000) : ∀ (n i : Nat) (out : List (List UInt8)), l.length - i ≤ n → out.length + (l.length - i) ≤ 1000 → (∀ t ∈ out, t ≠ [] ∧ t.length ≤ 100) →
    Ev (fun k => marlinspikeref08_Format.l0 k (mkB (Go.Lib.join out [44])) l (i : Int) l lim) (mkB (Go.Lib.join (out ++ parts n (l.drop i)) [44] ++ limT lim), 0) := by
  intro n
  induction n with
  | zero => intro i out hn ho hx; exact f8_end l lim hlim out (by omega) hx i (by omega)
  | succ n ih =>
    intro i out hn ho hx
    by_cases hi : l.length ≤ i
    · rw [List.drop_eq_nil_of_le hi]
      exact f8_end l lim hlim out (by omega) hx i hi
    have hlt : i < l.length := by omega
    have hdr := List.drop_eq_getElem_cons hlt
    have hgd2 := hg.drop i
    rw [hdr] at hgd2
    obtain ⟨s1, s2, s3⟩ := step_le _ _ hgd2
    have hrl := runLen_le (l[i] :: l.drop (i + 1))
    have hlen : (l[i] :: l.drop (i + 1)).length = l.length - i := by rw [← hdr, List.length_drop]
    have hA := hg.1 l[i] (List.getElem_mem hlt)
    have hrun : runLen (l[i] :: l.drop (i + 1)) = 1 + ext (stepOf (l[i] :: l.drop (i + 1))) l[i] (l.drop (i + 1)) := rfl
    have hgdd : (l[i] :: l.drop (i + 1)).getD (runLen (l[i] :: l.drop (i + 1)) - 1) 0 = l.getD (i + runLen (l[i] :: l.drop (i + 1)) - 1) 0 := by
      rw [← hdr, List.getD_eq_getElem?_getD, List.getD_eq_getElem?_getD, List.getElem?_drop]
      congr 2
      rw [← hdr] at hrun
      omega
    have hdd : (l[i] :: l.drop (i + 1)).drop (runLen (l[i] :: l.drop (i + 1))) = l.drop (i + runLen (l[i] :: l.drop (i + 1))) := by rw [← hdr, List.drop_drop]
    rw [hdr]
    simp only [parts]
    rw [hgdd, hdd]
    have hst : Ev (fun k => marlinspikeref08_Format.l1 k (mkB (Go.Lib.join out [44])) l (i : Int) ((i + 1 : Nat) : Int) (stepOf (l[i] :: l.drop (i + 1))) l lim) (mkB (Go.Lib.join (out ++ (if stepOf (l[i] :: l.drop (i + 1)) = 1 then (dec l[i] ++ 45 :: dec (l.getD (i + runLen (l[i] :: l.drop (i + 1)) - 1) 0)) :: parts n (l.drop (i + runLen (l[i] :: l.drop (i + 1)))) else if 2 < runLen (l[i] :: l.drop (i + 1)) then (dec l[i] ++ 45 :: (dec (l.getD (i + runLen (l[i] :: l.drop (i + 1)) - 1) 0) ++ 58 :: dec (stepOf (l[i] :: l.drop (i + 1))))) :: parts n (l.drop (i + runLen (l[i] :: l.drop (i + 1)))) else dec l[i] :: parts n (l.drop (i + 1)))) [44] ++ limT lim), 0) := by
      generalize stepOf (l[i] :: l.drop (i + 1)) = st at *
      generalize hR : runLen (l[i] :: l.drop (i + 1)) = R at *
      refine f8_l1 l lim hg hl _ _ st _ _ (i + 1) rfl (by omega) (by omega) ?_
      rw [Nat.add_sub_cancel, gd l i hlt, show i + 1 + ext st l[i] (l.drop (i + 1)) = i + R by omega]
      have hlast := hg.1 l[i + R - 1] (List.getElem_mem (by omega))
      have hgl := gd l (i + R - 1) (by omega)
      have hp : (preT out).length ≤ 150000 := by
        have hj := join_len out (fun t ht => (hx t ht).2)
        have hmul : out.length * 101 ≤ 1000 * 101 := Nat.mul_le_mul_right _ (by omega)
        unfold preT
        split
        · simp
        · rw [List.length_append, List.length_singleton]; omega
      have hone : ∀ t : List UInt8, t ≠ [] → t.length ≤ 100 → ∀ y ∈ out ++ [t], y ≠ [] ∧ y.length ≤ 100 := by
        intro t h1 h2 y hy
        rcases List.mem_append.1 hy with hy | hy
        · exact hx y hy
        · rw [List.mem_singleton.1 hy]; exact ⟨h1, h2⟩
      have hd1 := dec_le _ hA.2
      have hne := dec_ne l[i]
      refine f8_j3 l lim out (by omega) hx _ _ st _ (f8_j4 l lim hg hl (preT out) hp i (i + R) (by omega) (by omega) st ⟨s1, s2⟩ (fun h => by have := s3 h; omega) _ (fun hc => ?_) (fun hc1 hc2 => ?_))
      · have htl := tailT_len (l.getD (i + R - 1) 0) st (by rw [hgl]; omega) s2
        have h := ih (i + R) (out ++ [dec l[i] ++ tailT (l.getD (i + R - 1) 0) st]) (by omega) (by rw [List.length_append, List.length_singleton]; omega) (hone _ (by simp [hne]) (by rw [List.length_append]; omega))
        rw [join_pre, List.append_assoc out] at h
        rw [gd l i hlt, List.append_assoc]
        have et : (if st = 1 then (dec l[i] ++ 45 :: dec (l.getD (i + R - 1) 0)) :: parts n (l.drop (i + R)) else if 2 < R then (dec l[i] ++ 45 :: (dec (l.getD (i + R - 1) 0) ++ 58 :: dec st)) :: parts n (l.drop (i + R)) else dec l[i] :: parts n (l.drop (i + 1))) = [dec l[i] ++ tailT (l.getD (i + R - 1) 0) st] ++ parts n (l.drop (i + R)) := by
          unfold tailT
          by_cases c : st = 1
          · rw [if_pos c, if_pos c]; simp
          · rw [if_neg c, if_neg c, if_pos (by rcases hc with hc | hc; exact absurd hc c; omega)]; simp
        rw [et]
        exact h
      · rw [if_neg hc1, if_neg (by omega)]
        have h := ih (i + 1) (out ++ [dec l[i]]) (by omega) (by rw [List.length_append, List.length_singleton]; omega) (hone _ hne (by omega))
        rw [join_pre, List.append_assoc out] at h
        rw [gd l i hlt]
        exact h
    have hj1 : Ev (fun k => marlinspikeref08_Format.j1 k (mkB (Go.Lib.join out [44])) l (i : Int) ((i + 1 : Nat) : Int) (stepOf (l[i] :: l.drop (i + 1))) l lim) _ := Ev.shift hst
    obtain ⟨K, hK⟩ := hj1
    dsimp only at hK
    refine Ev.shift ⟨K, fun k hk => ?_⟩
    have h2 := hK k hk
    simp only [marlinspikeref08_Format.l0]
    rw [if_pos (by omega), wrap_nat (by omega)]
    by_cases c : i + 1 < l.length
    · have hB := hg.1 l[i + 1] (List.getElem_mem c)
      have es : stepOf (l[i] :: l.drop (i + 1)) = l[i + 1] - l[i] := by rw [List.drop_eq_getElem_cons c]; rfl
      rw [if_pos (by omega), if_pos (by omega), if_pos (by omega), rd_get l _ c, rd_get l _ hlt, wsub hB hA, ← es]
      exact h2
    · have es : stepOf (l[i] :: l.drop (i + 1)) = 0 := by rw [List.drop_eq_nil_of_le (by omega)]; rfl
      rw [if_neg (by omega)]
      rw [es] at h2 ⊢
      exact h2
def fmtOf (l : List Int) (lim : Int) : ByteArray × Int := if rightB l lim = true then (mkB (textOf l lim), 0) else (⟨#[]⟩, 3)
theorem right_good {l : List Int} {lim : Int} (h : rightB l lim = true) : Good l ∧ l.length ≤ 256 ∧ 0 ≤ lim ∧ lim ≤ 999999 := by
  unfold rightB at h
  simp only [Bool.and_eq_true, decide_eq_true_eq] at h
  obtain ⟨⟨⟨⟨_, h1⟩, h2⟩, h3⟩, h4⟩ := h
  exact ⟨(incr_good l (-1) (by omega) h4).1, h1, h2, h3⟩
theorem format_ev (l : List Int) (lim : Int) : Ev (fun k => array_Format.f k l lim) (fmtOf l lim) := by
  obtain ⟨K1, hK1⟩ := right_ev l lim
  dsimp only at hK1
  unfold fmtOf
  cases hb : rightB l lim with
  | false =>
    refine ⟨K1, fun k hk => ?_⟩
    simp only [array_Format.f]
    rw [hK1 k hk, hb]
    rfl
  | true =>
    obtain ⟨hg, h1, h2, h3⟩ := right_good hb
    obtain ⟨K, hK⟩ := form_l0 l lim ⟨h2, h3⟩ l.length l [] (Nat.le_refl _) hg (by simp; omega) (by simp)
    dsimp only at hK
    refine ⟨K + K1, fun k hk => ?_⟩
    simp only [array_Format.f]
    rw [hK1 k (by omega), hb]
    exact hK k (by omega)
theorem rformat_ev (l : List Int) (lim : Int) : Ev (fun k => marlinspikeref08_Format.f k l lim) (fmtOf l lim) := by
  obtain ⟨K1, hK1⟩ := rright_ev l lim
  dsimp only at hK1
  unfold fmtOf
  cases hb : rightB l lim with
  | false =>
    refine ⟨K1, fun k hk => ?_⟩
    simp only [marlinspikeref08_Format.f]
    rw [hK1 k hk, hb]
    rfl
  | true =>
    obtain ⟨hg, h1, h2, h3⟩ := right_good hb
    obtain ⟨K, hK⟩ := f8_l0 l lim ⟨h2, h3⟩ hg (by omega) l.length 0 [] (by omega) (by simp; omega) (by simp)
    dsimp only at hK
    refine ⟨K + K1, fun k hk => ?_⟩
    simp only [marlinspikeref08_Format.f]
    rw [hK1 k (by omega), hb]
    exact hK k (by omega)
end Go.Proofs.YtnfpchpnephheaaDoor.Ar
end
section
namespace Go.Proofs.YtnfpchpnephheaaDoor.PA
open Go.RowKit Go.Proofs.YtnfpchpnephheaaDoor.Lib Go.Proofs.YtnfpchpnephheaaDoorW.PrintWords Go.Proofs.YtnfpchpnephheaaDoorW.PrintLast Go.Proofs.YtnfpchpnephheaaDoorW.PrintMore
attribute [local go_sem] max2_int min2_int max_two min_two max_three min_three max_four min_four   
set_option linter.unusedVariables false
set_option linter.unusedSimpArgs false
theorem eqA36 (d : Nat) (w : World) (x0 y0 : Int) (x1 y1 : Int) :
  (Op.equalIn (d + 2) 36 (.agg #[.int .i64 x0,.int .i64 x1]) (.agg #[.int .i64 y0,.int .i64 y1])).run Tryd.prog w = .ok (x0 == y0 && (x1 == y1)) w:=by
 (refine eqA_of Tryd.underlying36 (by kernel_rfl) ?_);(refine eqf_cons (by rfl) (by go_simp;rfl) (by go_simp;rfl) (by go_simp) ?_);(exact eqf_last (by rfl) (by go_simp;rfl) (by go_simp;rfl) (by go_simp))
end Go.Proofs.YtnfpchpnephheaaDoor.PA
end
