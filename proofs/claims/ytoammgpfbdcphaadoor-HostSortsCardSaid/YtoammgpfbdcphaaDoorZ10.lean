/- Part 10 of the proof of HostSortsCardSaid. -/
import Derived.Test.YtoammgpfbdcphaaDoorZ07
import Derived.Test.YtoammgpfbdcphaaDoorZ09
import Derived.Test.YtoammgpfbdcphaaDoorZ03
import Derived.Test.YtoammgpfbdcphaaDoorZ08
import Derived.Lib.MinMaxS
import Derived.Lib.Small
import Derived.Sort.LotA
import Derived.Shelf.SlSortCmp.Insertion
import Derived.Laws.Cover1
section
namespace Go.Proofs.YtoammgpfbdcphaaDoor.Hx
open Go.RowKit Go.Proofs.YtoammgpfbdcphaaDoor.Lib Go.Proofs.YtoammgpfbdcphaaDoor.PH Go.Proofs.YtoammgpfbdcphaaDoor.Txt Go.Proofs.YtoammgpfbdcphaaDoor.Num Go.Proofs.YtoammgpfbdcphaaDoor.Hn Go.Proofs.YtoammgpfbdcphaaDoorW.PrintWords Go.Proofs.YtoammgpfbdcphaaDoorW.PrintLast Go.Proofs.YtoammgpfbdcphaaDoorW.PrintMore
set_option linter.unusedVariables false
set_option linter.unusedSimpArgs false
theorem ext_tail (x : ByteArray) (i : Nat) : L (x.extract i x.size) = (L x).drop i := by
  rw [extract_L]
  exact List.take_of_length_le (by rw [List.length_drop, L_length]; exact Nat.le_refl _)
def numD (x : ByteArray) (i : Nat) : ByteArray × Int × Int × Bool := if i = 0 ∨ i = x.size then (x, 0, 0, false) else (x.extract 0 i, (valD ((L x).drop i) : Int), ((x.size - i : Nat) : Int), true)
theorem rdN (xs : List ByteArray) (i : Nat) (h : i < xs.length) : rdOf ByteArray.empty xs (i : Int) = xs[i] := by
  unfold rdOf
  rw [Int.toNat_natCast, List.getD_eq_getElem?_getD, List.getElem?_eq_getElem h]; rfl
end Go.Proofs.YtoammgpfbdcphaaDoor.Hx
end
section
namespace Go.Proofs.YtoammgpfbdcphaaDoor.PH
open Go.RowKit Go.Proofs.YtoammgpfbdcphaaDoor.Lib Go.Proofs.YtoammgpfbdcphaaDoorW.PrintWords Go.Proofs.YtoammgpfbdcphaaDoorW.PrintLast Go.Proofs.YtoammgpfbdcphaaDoorW.PrintMore
attribute [local go_sem] max2_int min2_int max_two min_two max_three min_three max_four min_four   
set_option linter.unusedVariables false
set_option linter.unusedSimpArgs false
def marlinspikeref05_digit.f (a0 : Int) : Option (Bool) := if a0 ≥ 48 then (some (decide (a0 ≤ 57))) else (some false)
set_option maxHeartbeats 8000000 in
set_option maxRecDepth 100000 in
theorem marlinspikeref05_digit.calls (a0 : Int) (r : Bool) (w : World) (h : marlinspikeref05_digit.f a0 = some r) :
  Calls Tryd.prog 32 #[.int .u8 a0] w fun e w' => e = .returned (.bool r)∧Drawn0 w w':=by
 (have H : (if a0 ≥ 48 then (some (decide (a0 ≤ 57))) else (some false)) = some r:=h);(clear h);(by_cases c2 : a0 ≥ 48);·(rw [if_pos c2] at H);(have c2b0 : decide (48 ≤ a0) = true:=decide_eq_true c2);(clear c2);(obtain rfl:=Option.some.inj H);(go_enter Tryd.func32,Tryd.ntmps32);(go_wp2);(go_ret);(exact ⟨by first|rfl|(simp;done)|(simp [*];done),by repeat (first|exact Drawn0.refl _|apply Drawn0.step)⟩)
 ·(rw [if_neg c2] at H);(have c2b0 : decide (48 ≤ a0) = false:=decide_eq_false c2);(clear c2);(obtain rfl:=Option.some.inj H);(go_enter Tryd.func32,Tryd.ntmps32);(go_wp2);(go_ret);(exact ⟨by first|rfl|(simp;done)|(simp [*];done),by repeat (first|exact Drawn0.refl _|apply Drawn0.step)⟩)
def IsS42 (w0 W : World) (g : Nat) (f0 : ByteArray) (f1 : Int) (f2 : Int) (f3 : Int) : Prop := W.heap[g]? = some (.cells #[.string f0, .int .i64 f1, .int .i64 f2, .int .i64 f3] 42 (0, 0)) ∧ w0.heap.size ≤ g
theorem IsS42.grown {w0 W : World} {g : Nat} {f0 : ByteArray} {f1 : Int} {f2 : Int} {f3 : Int} {W1 : World} {row : Option Nat} (h : IsS42 w0 W g f0 f1 f2 f3) (hw : W.grownBy W1 row) (hne : some g ≠ row) : IsS42 w0 W1 g f0 f1 f2 f3:=by
 (obtain ⟨hb,hg⟩:=h);(exact ⟨blk_grown hb hw hne,hg⟩)
theorem IsS42.kept {w0 W : World} {g : Nat} {f0 : ByteArray} {f1 : Int} {f2 : Int} {f3 : Int} {W1 : World} {S : Nat → Prop} (h : IsS42 w0 W g f0 f1 f2 f3) (hk : Kept W W1 S) (hne : ¬ S g) : IsS42 w0 W1 g f0 f1 f2 f3:=by
 (obtain ⟨hb,hg⟩:=h);(exact ⟨blk_kept hb hk hne,hg⟩)
theorem IsS42.below {w0 W : World} {g : Nat} {f0 : ByteArray} {f1 : Int} {f2 : Int} {f3 : Int} {W1 : World} (h : IsS42 w0 W g f0 f1 f2 f3) (hw : Below W.heap.size W W1) : IsS42 w0 W1 g f0 f1 f2 f3:=h.grown (grown_of_below hw none) (by simp)
theorem IsS42.alloc {w0 W : World} {g : Nat} {f0 : ByteArray} {f1 : Int} {f2 : Int} {f3 : Int} (h : IsS42 w0 W g f0 f1 f2 f3) (o : Obj) : IsS42 w0 (W.alloc o) g f0 f1 f2 f3:=h.below (below_alloc (Below.refl _ _) o)
theorem IsS42.drewN {w0 W : World} {g : Nat} {f0 : ByteArray} {f1 : Int} {f2 : Int} {f3 : Int} (h : IsS42 w0 W g f0 f1 f2 f3) (m : Nat) : IsS42 w0 (W.drewN m) g f0 f1 f2 f3:=h
theorem IsS42.drew {w0 W : World} {g : Nat} {f0 : ByteArray} {f1 : Int} {f2 : Int} {f3 : Int} (h : IsS42 w0 W g f0 f1 f2 f3) : IsS42 w0 W.drew g f0 f1 f2 f3:=h
theorem IsS42.at_ {w0 W : World} {g : Nat} {f0 : ByteArray} {f1 : Int} {f2 : Int} {f3 : Int} {w' : World} {m : Nat} (hq : W.drewN m = w') (h : IsS42 w0 W g f0 f1 f2 f3) : IsS42 w0 w' g f0 f1 f2 f3:=by subst hq;exact IsS42.drewN h m
theorem IsS42.apart {w0 W : World} {g : Nat} {f0 : ByteArray} {f1 : Int} {f2 : Int} {f3 : Int} {α : Type} {d : Kd α} {e : Nat} {base : Nat} {ok : Nat → Prop} {v : Value} {xs : List α} (h : IsS42 w0 W g f0 f1 f2 f3) (ho : d.R e W base ok v xs) (ht : ∀ q,q ∈ e :: d.E → q ≠ 42) : d.R e W base (fun k => ok k∧k ≠ g) v xs:=by
 (obtain ⟨hb,hg⟩:=h);(exact Kd.R_types ho hb ht)
theorem IsS42.own_ne {w0 W : World} {g : Nat} {f0 : ByteArray} {f1 : Int} {f2 : Int} {f3 : Int} {α : Type} {d : Kd α} {e : Nat} {base : Nat} {ok : Nat → Prop} {v : Value} {xs : List α} (h : IsS42 w0 W g f0 f1 f2 f3) (ho : d.R e W base ok v xs) (ht : e ≠ 42) : some g ≠ v.ownBlock:=by
 (obtain ⟨hb,hg⟩:=h);(exact Kd.R_ne ho hb ht)
theorem IsS42.lt {w0 W : World} {g : Nat} {f0 : ByteArray} {f1 : Int} {f2 : Int} {f3 : Int} (h : IsS42 w0 W g f0 f1 f2 f3) : g < W.heap.size:=by
 (obtain ⟨hb,hg⟩:=h);(exact blk_lt hb)
theorem IsS42.ge {w0 W : World} {g : Nat} {f0 : ByteArray} {f1 : Int} {f2 : Int} {f3 : Int} (h : IsS42 w0 W g f0 f1 f2 f3) : w0.heap.size ≤ g:=by
 (obtain ⟨hb,hg⟩:=h);(exact hg)
theorem IsS42.far {w0 W : World} {g : Nat} {f0 : ByteArray} {f1 : Int} {f2 : Int} {f3 : Int} {p : Addr} (h : IsS42 w0 W g f0 f1 f2 f3) (hne : g ≠ p.block) (u : Value) : IsS42 w0 (W.setCell p u) g f0 f1 f2 f3:=by
 (obtain ⟨hb,hg⟩:=h);(exact ⟨blk_far hb hne u,hg⟩)
theorem IsS42.set_0 {w0 W : World} {g : Nat} {f0 : ByteArray} {f1 : Int} {f2 : Int} {f3 : Int} (h : IsS42 w0 W g f0 f1 f2 f3) (x : ByteArray) : IsS42 w0 (W.setCell ⟨g,0,none⟩ (.string x)) g x f1 f2 f3:=by
 (obtain ⟨hb,hg⟩:=h);(exact ⟨by simpa using blk_set hb 0 (.string x),hg⟩)
theorem IsS42.set_1 {w0 W : World} {g : Nat} {f0 : ByteArray} {f1 : Int} {f2 : Int} {f3 : Int} (h : IsS42 w0 W g f0 f1 f2 f3) (x : Int) : IsS42 w0 (W.setCell ⟨g,1,none⟩ (.int .i64 x)) g f0 x f2 f3:=by
 (obtain ⟨hb,hg⟩:=h);(exact ⟨by simpa using blk_set hb 1 (.int .i64 x),hg⟩)
theorem IsS42.set_2 {w0 W : World} {g : Nat} {f0 : ByteArray} {f1 : Int} {f2 : Int} {f3 : Int} (h : IsS42 w0 W g f0 f1 f2 f3) (x : Int) : IsS42 w0 (W.setCell ⟨g,2,none⟩ (.int .i64 x)) g f0 f1 x f3:=by
 (obtain ⟨hb,hg⟩:=h);(exact ⟨by simpa using blk_set hb 2 (.int .i64 x),hg⟩)
theorem IsS42.set_3 {w0 W : World} {g : Nat} {f0 : ByteArray} {f1 : Int} {f2 : Int} {f3 : Int} (h : IsS42 w0 W g f0 f1 f2 f3) (x : Int) : IsS42 w0 (W.setCell ⟨g,3,none⟩ (.int .i64 x)) g f0 f1 f2 x:=by
 (obtain ⟨hb,hg⟩:=h);(exact ⟨by simpa using blk_set hb 3 (.int .i64 x),hg⟩)
def marlinspikeref05_value.l0 : Nat → ByteArray → Int → Int → Option (Int)
 | 0, _, _, _ => none
 | k + 1, x0, x3, x4 => if x4 < (x0.size : Int) then (if 0 ≤ x4 then (marlinspikeref05_value.l0 k x0 (wrap64 ((wrap64 (x3 * 10)) + (((bt x0 x4) - 48) % 256))) (wrap64 (x4 + 1))) else (none)) else (some x3)
def marlinspikeref05_value.f (k : Nat) (a0 : ByteArray) : Option (Int) := marlinspikeref05_value.l0 k a0 0 0
theorem marlinspikeref05_value.mono_l : ∀ k,(∀ y0 y1 y2,LeO (marlinspikeref05_value.l0 k y0 y1 y2) (marlinspikeref05_value.l0 (k + 1) y0 y1 y2))
|0 => fun _ _ _ r h => by simp [marlinspikeref05_value.l0] at h
|k + 1 => by
  have ih0:=marlinspikeref05_value.mono_l k
  ·intro y0 y1 y2
   unfold marlinspikeref05_value.l0
   repeat' first
  |(with_reducible exact ih0 _ _ _)
  |(with_reducible exact LeO.refl _)
  |(with_reducible exact LeO.none _)
  |(with_reducible refine LeO.ite ?_ ?_)
  |(with_reducible refine LeO.bind ?_ (fun _ => ?_))
  |exact ih0 _ _ _
  |exact LeO.none _
  |refine LeO.ite ?_ ?_
  |refine LeO.bind ?_ (fun _ => ?_)
theorem marlinspikeref05_value.mono : ∀ a0 k,LeO (marlinspikeref05_value.f k a0) (marlinspikeref05_value.f (k + 1) a0):=by
 (intro a0 k);(have ih0:=marlinspikeref05_value.mono_l k);(unfold marlinspikeref05_value.f)
 repeat' first
  |(with_reducible exact ih0 _ _ _)
  |(with_reducible exact LeO.refl _)
  |(with_reducible exact LeO.none _)
  |(with_reducible refine LeO.ite ?_ ?_)
  |(with_reducible refine LeO.bind ?_ (fun _ => ?_))
  |exact ih0 _ _ _
  |exact LeO.none _
  |refine LeO.ite ?_ ?_
  |refine LeO.bind ?_ (fun _ => ?_)
set_option maxHeartbeats 8000000 in
set_option maxRecDepth 100000 in
theorem marlinspikeref05_value.calls (k : Nat) (a0 : ByteArray) (r : Int) (w : World) (h : marlinspikeref05_value.f k a0 = some r) :
  Calls Tryd.prog 33 #[.string a0] w fun e w' => e = .returned (.int .i64 r)∧Drawn0 w w':=by
 (have H : (marlinspikeref05_value.l0 k a0 0 0) = some r:=h);(clear h);(have H':=Aside0.mk H);(clear H);(go_enter Tryd.func33,Tryd.ntmps33);(go_wp2);(go_loopg [3,4] k (fun kq v3 v4 w' => ∃ (x3_1 : Int) (x4_1 : Int),v3 = .int .i64 x3_1∧v4 = .int .i64 x4_1∧Aside0 (marlinspikeref05_value.l0 kq a0 x3_1 x4_1 = some r)∧Aside0 (kq ≤ k)∧Drawn0 w w'))
 case atStart => exact ⟨(0),(0),(by first|rfl|(simp;done)|(simp [*];done)),(by first|rfl|(simp;done)|(simp [*];done)),H',⟨Nat.le_refl _⟩,by repeat (first|exact Drawn0.refl _|apply Drawn0.step)⟩
 case round =>
  (clear H');(obtain ⟨x3_1,x4_1,rfl,rfl,HA,HK1,⟨m1,rfl⟩⟩:=hrel)
  cases gk with
 |zero => exact absurd HA.out (by simp [marlinspikeref05_value.l0])
 |succ k1 =>
   (have H:=HA.out);(clear HA);(simp only [marlinspikeref05_value.l0] at H);(by_cases c2 : x4_1 < (a0.size : Int))
   ·(rw [if_pos c2] at H);(have c2b0 : decide (x4_1 < (a0.size : Int)) = true:=decide_eq_true c2);(clear c2);(by_cases c3 : 0 ≤ x4_1)
    ·(rw [if_pos c3] at H);(have c3b0 : decide (0 ≤ x4_1) = true:=decide_eq_true c3);(clear c3);(have H':=Aside0.mk H);(clear H);(have p4 : 0 ≤ (x4_1 : Int):=of_decide_eq_true (by first|(with_reducible assumption)|assumption));(have q4 : x4_1 < (a0.size : Int):=of_decide_eq_true (by first|(with_reducible assumption)|assumption));(have hx4:=bt_at a0 x4_1);(replace p4:=eq_true p4);(replace q4:=eq_true q4);(go_wp2);(go_roundg k1)
     case measure => have:=HK1.out;omega
     case rel => exact ⟨(wrap64 ((wrap64 (x3_1 * 10)) + (((bt a0 x4_1) - 48) % 256))),(wrap64 (x4_1 + 1)),(by first|rfl|(simp;done)|(simp [*];done)),(by first|rfl|(simp;done)|(simp [*];done)),H',⟨by have:=HK1.out;omega⟩,by repeat (first|exact Drawn0.refl _|apply Drawn0.step)⟩
    ·(rw [if_neg c3] at H);(exact absurd H (by simp))
   ·(rw [if_neg c2] at H);(have c2b0 : decide (x4_1 < (a0.size : Int)) = false:=decide_eq_false c2);(clear c2);(obtain rfl:=Option.some.inj H);(go_wp2);(go_ret);(exact ⟨by first|rfl|(simp;done)|(simp [*];done),by repeat (first|exact Drawn0.refl _|apply Drawn0.step)⟩)
end Go.Proofs.YtoammgpfbdcphaaDoor.PH
end
section
namespace Go.Proofs.YtoammgpfbdcphaaDoor.PH
open Go.RowKit Go.Proofs.YtoammgpfbdcphaaDoor.Lib Go.Proofs.YtoammgpfbdcphaaDoorW.PrintWords Go.Proofs.YtoammgpfbdcphaaDoorW.PrintLast Go.Proofs.YtoammgpfbdcphaaDoorW.PrintMore
attribute [local go_sem] max2_int min2_int max_two min_two max_three min_three max_four min_four   
set_option linter.unusedVariables false
set_option linter.unusedSimpArgs false
attribute [local go_sem high] eqA27
def marlinspikeref05_Same.l0 : Nat → List ByteArray → List ByteArray → Int → Option (Bool)
 | 0, _, _, _ => none
 | k + 1, x0, x1, x5 => if x5 < (x0.length : Int) then (if 0 ≤ x5 then (if x5 < (x1.length : Int) then (if (rdOf ByteArray.empty x0 x5).toList = (rdOf ByteArray.empty x1 x5).toList then (marlinspikeref05_Same.l0 k x0 x1 (wrap64 (x5 + 1))) else (some false)) else (none)) else (none)) else (some true)
def marlinspikeref05_Same.f (k : Nat) (l0 : List ByteArray) (l1 : List ByteArray) : Option (Bool) := if (l0.length : Int) = (l1.length : Int) then (marlinspikeref05_Same.l0 k l0 l1 0) else (some false)
theorem marlinspikeref05_Same.mono_l : ∀ k,(∀ y0 y1 y2,LeO (marlinspikeref05_Same.l0 k y0 y1 y2) (marlinspikeref05_Same.l0 (k + 1) y0 y1 y2))
|0 => fun _ _ _ r h => by simp [marlinspikeref05_Same.l0] at h
|k + 1 => by
  have ih0:=marlinspikeref05_Same.mono_l k
  ·intro y0 y1 y2
   unfold marlinspikeref05_Same.l0
   repeat' first
  |(with_reducible exact ih0 _ _ _)
  |(with_reducible exact LeO.refl _)
  |(with_reducible exact LeO.none _)
  |(with_reducible refine LeO.ite ?_ ?_)
  |(with_reducible refine LeO.bind ?_ (fun _ => ?_))
  |exact ih0 _ _ _
  |exact LeO.none _
  |refine LeO.ite ?_ ?_
  |refine LeO.bind ?_ (fun _ => ?_)
theorem marlinspikeref05_Same.mono : ∀ a0 a1 k,LeO (marlinspikeref05_Same.f k a0 a1) (marlinspikeref05_Same.f (k + 1) a0 a1):=by
 (intro a0 a1 k);(have ih0:=marlinspikeref05_Same.mono_l k);(unfold marlinspikeref05_Same.f)
 repeat' first
  |(with_reducible exact ih0 _ _ _)
  |(with_reducible exact LeO.refl _)
  |(with_reducible exact LeO.none _)
  |(with_reducible refine LeO.ite ?_ ?_)
  |(with_reducible refine LeO.bind ?_ (fun _ => ?_))
  |exact ih0 _ _ _
  |exact LeO.none _
  |refine LeO.ite ?_ ?_
  |refine LeO.bind ?_ (fun _ => ?_)
set_option maxHeartbeats 8000000 in
set_option maxRecDepth 100000 in
theorem marlinspikeref05_Same.calls (k : Nat) (A0 : Option Addr) (c0 : Nat) (l0 : List ByteArray) (A1 : Option Addr) (c1 : Nat) (l1 : List ByteArray) (r : Bool) (w : World) (hr0 : Kd.C Kd.string w A0 l0.length l0) (hc0 : l0.length ≤ c0) (hr1 : Kd.C Kd.string w A1 l1.length l1) (hc1 : l1.length ≤ c1) (h : marlinspikeref05_Same.f k l0 l1 = some r) :
  Calls Tryd.prog 13 #[.slice A0 l0.length c0,.slice A1 l1.length c1] w fun e w' => e = .returned (.bool r)∧Drawn0 w w':=by
 (have HR0:=Aside0.mk hr0);(have HC0:=Aside0.mk hc0);(clear hr0 hc0);(have HR1:=Aside0.mk hr1);(have HC1:=Aside0.mk hc1);(clear hr1 hc1);(have H : (if (l0.length : Int) = (l1.length : Int) then (marlinspikeref05_Same.l0 k l0 l1 0) else (some false)) = some r:=h);(clear h);(by_cases c3 : (l0.length : Int) = (l1.length : Int))
 ·(rw [if_pos c3] at H);(have c3b0 : ((l0.length : Int) == (l1.length : Int)) = true:=beq_iff_eq.mpr c3);(have c3b1 : ((l0.length : Int) != (l1.length : Int)) = false:=bne_eq_false_iff_eq.mpr c3);(have c3b2 : (l0.length == l1.length) = true:=by first|simpa using c3|(simp at c3 ⊢;omega));(clear c3);(have H':=Aside0.mk H);(clear H);(go_enter Tryd.func13,Tryd.ntmps13);(go_wp2)
  repeat (go_quiet (fail);try go_wp2)
  (go_loopg [5] k (fun kq v5 w' => ∃ (x5_1 : Int),v5 = .int .i64 x5_1∧Aside0 (marlinspikeref05_Same.l0 kq l0 l1 x5_1 = some r)∧Aside0 (kq ≤ k)∧Drawn0 w w'))
  case atStart => exact ⟨(0),(by first|rfl|(simp;done)|(simp [*];done)),H',⟨Nat.le_refl _⟩,by repeat (first|exact Drawn0.refl _|apply Drawn0.step)⟩
  case round =>
   (clear H');(try clear c1);(try clear p2);(try clear c3);(try clear c3b0);(try clear c3b1);(try clear c3b2);(obtain ⟨x5_1,rfl,HA,HK1,⟨m1,rfl⟩⟩:=hrel)
   cases gk with
  |zero => exact absurd HA.out (by simp [marlinspikeref05_Same.l0])
  |succ k1 =>
    (have H:=HA.out);(clear HA);(simp only [marlinspikeref05_Same.l0] at H);(by_cases c4 : x5_1 < (l0.length : Int))
    ·(rw [if_pos c4] at H);(have c4b0 : decide (x5_1 < (l0.length : Int)) = true:=decide_eq_true c4);(clear c4);(by_cases c5 : 0 ≤ x5_1)
     ·(rw [if_pos c5] at H);(have c5b0 : decide (0 ≤ x5_1) = true:=decide_eq_true c5);(clear c5);(by_cases c6 : x5_1 < (l1.length : Int))
      ·(rw [if_pos c6] at H);(have c6b0 : decide (x5_1 < (l1.length : Int)) = true:=decide_eq_true c6);(clear c6);(by_cases c7 : (rdOf ByteArray.empty l0 x5_1).toList = (rdOf ByteArray.empty l1 x5_1).toList)
       ·(rw [if_pos c7] at H);(have c7b0 : ((rdOf ByteArray.empty l0 x5_1).toList == (rdOf ByteArray.empty l1 x5_1).toList) = true:=beq_iff_eq.mpr c7);(have c7b1 : ((rdOf ByteArray.empty l0 x5_1).toList != (rdOf ByteArray.empty l1 x5_1).toList) = false:=bne_eq_false_iff_eq.mpr c7);(clear c7);(have H':=Aside0.mk H);(clear H);(have p360 : 0 ≤ (x5_1 : Int):=of_decide_eq_true (by first|(with_reducible assumption)|assumption));(have q360 : x5_1 < (l0.length : Int):=of_decide_eq_true (by first|(with_reducible assumption)|assumption));(obtain ⟨ad360,e360,hx360_0⟩:=Kd.at_string HR0.out x5_1 p360 q360)
        cases e360
        (replace p360:=eq_true p360);(replace q360:=eq_true q360);(have p361 : 0 ≤ (x5_1 : Int):=of_decide_eq_true (by first|(with_reducible assumption)|assumption));(have q361 : x5_1 < (l1.length : Int):=of_decide_eq_true (by first|(with_reducible assumption)|assumption));(obtain ⟨ad361,e361,hx361_0⟩:=Kd.at_string HR1.out x5_1 p361 q361)
        cases e361
        (replace p361:=eq_true p361);(replace q361:=eq_true q361);(go_wp2)
        repeat (go_quiet (fail);try go_wp2)
        (go_roundg k1)
        case measure => have:=HK1.out;omega
        case rel => exact ⟨(wrap64 (x5_1 + 1)),(by first|rfl|(simp;done)|(simp [*];done)),H',⟨by have:=HK1.out;omega⟩,by repeat (first|exact Drawn0.refl _|apply Drawn0.step)⟩
       ·(rw [if_neg c7] at H);(have c7b0 : ((rdOf ByteArray.empty l0 x5_1).toList == (rdOf ByteArray.empty l1 x5_1).toList) = false:=beq_eq_false_iff_ne.mpr c7);(have c7b1 : ((rdOf ByteArray.empty l0 x5_1).toList != (rdOf ByteArray.empty l1 x5_1).toList) = true:=bne_iff_ne.mpr c7);(obtain rfl:=Option.some.inj H);(have p360 : 0 ≤ (x5_1 : Int):=of_decide_eq_true (by first|(with_reducible assumption)|assumption));(have q360 : x5_1 < (l0.length : Int):=of_decide_eq_true (by first|(with_reducible assumption)|assumption));(obtain ⟨ad360,e360,hx360_0⟩:=Kd.at_string HR0.out x5_1 p360 q360)
        cases e360
        (replace p360:=eq_true p360);(replace q360:=eq_true q360);(have p361 : 0 ≤ (x5_1 : Int):=of_decide_eq_true (by first|(with_reducible assumption)|assumption));(have q361 : x5_1 < (l1.length : Int):=of_decide_eq_true (by first|(with_reducible assumption)|assumption));(obtain ⟨ad361,e361,hx361_0⟩:=Kd.at_string HR1.out x5_1 p361 q361)
        cases e361
        (replace p361:=eq_true p361);(replace q361:=eq_true q361);(go_wp2)
        repeat (go_quiet (fail);try go_wp2)
        (go_ret);(exact ⟨by first|rfl|(simp;done)|(simp [*];done),by repeat (first|exact Drawn0.refl _|apply Drawn0.step)⟩)
      ·(rw [if_neg c6] at H);(exact absurd H (by simp))
     ·(rw [if_neg c5] at H);(exact absurd H (by simp))
    ·(rw [if_neg c4] at H);(have c4b0 : decide (x5_1 < (l0.length : Int)) = false:=decide_eq_false c4);(clear c4);(obtain rfl:=Option.some.inj H);(go_wp2)
     repeat (go_quiet (fail);try go_wp2)
     (go_ret);(exact ⟨by first|rfl|(simp;done)|(simp [*];done),by repeat (first|exact Drawn0.refl _|apply Drawn0.step)⟩)
 ·(rw [if_neg c3] at H);(have c3b0 : ((l0.length : Int) == (l1.length : Int)) = false:=beq_eq_false_iff_ne.mpr c3);(have c3b1 : ((l0.length : Int) != (l1.length : Int)) = true:=bne_iff_ne.mpr c3);(have c3b2 : (l0.length == l1.length) = false:=by first|simpa using c3|(simp at c3 ⊢;omega));(obtain rfl:=Option.some.inj H);(go_enter Tryd.func13,Tryd.ntmps13);(go_wp2)
  repeat (go_quiet (fail);try go_wp2)
  (go_ret);(exact ⟨by first|rfl|(simp;done)|(simp [*];done),by repeat (first|exact Drawn0.refl _|apply Drawn0.step)⟩)
def marlinspikeref05_Number.l0 : Nat → ByteArray → Int → Option (ByteArray × Int × Int × Bool)
 | 0, _, _ => none
 | k + 1, x0, x6 => if x6 < 6 then (if x6 < (x0.size : Int) then (if 0 ≤ (wrap64 ((wrap64 ((x0.size : Int) - 1)) - x6)) then (if (wrap64 ((wrap64 ((x0.size : Int) - 1)) - x6)) < (x0.size : Int) then ((marlinspikeref05_digit.f (bt x0 (wrap64 ((wrap64 ((x0.size : Int) - 1)) - x6)))).bind fun t362 => (if t362 = true then (marlinspikeref05_Number.l0 k x0 (wrap64 (x6 + 1))) else (if x6 = 0 then (some (x0, 0, 0, false)) else (if x6 = (x0.size : Int) then (some (x0, 0, 0, false)) else (if 0 ≤ (wrap64 ((x0.size : Int) - x6)) then (if (wrap64 ((x0.size : Int) - x6)) ≤ (x0.size : Int) then ((marlinspikeref05_value.f k (x0.extract ((wrap64 ((x0.size : Int) - x6)) : Int).toNat x0.size)).bind fun t363 => (some (x0.extract 0 ((wrap64 ((x0.size : Int) - x6)) : Int).toNat, t363, x6, true))) else (none)) else (none)))))) else (none)) else (none)) else (if x6 = 0 then (some (x0, 0, 0, false)) else (if x6 = (x0.size : Int) then (some (x0, 0, 0, false)) else (if 0 ≤ (wrap64 ((x0.size : Int) - x6)) then (if (wrap64 ((x0.size : Int) - x6)) ≤ (x0.size : Int) then ((marlinspikeref05_value.f k (x0.extract ((wrap64 ((x0.size : Int) - x6)) : Int).toNat x0.size)).bind fun t364 => (some (x0.extract 0 ((wrap64 ((x0.size : Int) - x6)) : Int).toNat, t364, x6, true))) else (none)) else (none))))) else (if x6 = 0 then (some (x0, 0, 0, false)) else (if x6 = (x0.size : Int) then (some (x0, 0, 0, false)) else (if 0 ≤ (wrap64 ((x0.size : Int) - x6)) then (if (wrap64 ((x0.size : Int) - x6)) ≤ (x0.size : Int) then ((marlinspikeref05_value.f k (x0.extract ((wrap64 ((x0.size : Int) - x6)) : Int).toNat x0.size)).bind fun t365 => (some (x0.extract 0 ((wrap64 ((x0.size : Int) - x6)) : Int).toNat, t365, x6, true))) else (none)) else (none))))
def marlinspikeref05_Number.f (k : Nat) (a0 : ByteArray) : Option (ByteArray × Int × Int × Bool) := marlinspikeref05_Number.l0 k a0 0
theorem marlinspikeref05_Number.mono_l : ∀ k,(∀ y0 y1,LeO (marlinspikeref05_Number.l0 k y0 y1) (marlinspikeref05_Number.l0 (k + 1) y0 y1))
|0 => fun _ _ r h => by simp [marlinspikeref05_Number.l0] at h
|k + 1 => by
  have ih0:=marlinspikeref05_Number.mono_l k
  ·intro y0 y1
   unfold marlinspikeref05_Number.l0
   repeat' first
  |(with_reducible exact ih0 _ _)
  |(with_reducible exact marlinspikeref05_value.mono _ _)
  |(with_reducible exact LeO.refl _)
  |(with_reducible exact LeO.none _)
  |(with_reducible refine LeO.ite ?_ ?_)
  |(with_reducible refine LeO.bind ?_ (fun _ => ?_))
  |exact ih0 _ _
  |exact marlinspikeref05_value.mono _ _
  |exact LeO.none _
  |refine LeO.ite ?_ ?_
  |refine LeO.bind ?_ (fun _ => ?_)
theorem marlinspikeref05_Number.mono : ∀ a0 k,LeO (marlinspikeref05_Number.f k a0) (marlinspikeref05_Number.f (k + 1) a0):=by
 (intro a0 k);(have ih0:=marlinspikeref05_Number.mono_l k);(unfold marlinspikeref05_Number.f)
 repeat' first
  |(with_reducible exact ih0 _ _)
  |(with_reducible exact marlinspikeref05_value.mono _ _)
  |(with_reducible exact LeO.refl _)
  |(with_reducible exact LeO.none _)
  |(with_reducible refine LeO.ite ?_ ?_)
  |(with_reducible refine LeO.bind ?_ (fun _ => ?_))
  |exact ih0 _ _
  |exact marlinspikeref05_value.mono _ _
  |exact LeO.none _
  |refine LeO.ite ?_ ?_
  |refine LeO.bind ?_ (fun _ => ?_)
set_option maxHeartbeats 8000000 in
set_option maxRecDepth 100000 in
theorem marlinspikeref05_Number.calls (k : Nat) (a0 : ByteArray) (r1 : ByteArray) (r2 : Int) (r3 : Int) (r4 : Bool) (w : World) (h : marlinspikeref05_Number.f k a0 = some (r1,r2,r3,r4)) :
  Calls Tryd.prog 16 #[.string a0] w fun e w' => e = .returned (.tuple #[.string r1,.int .i64 r2,.int .i64 r3,.bool r4])∧Drawn0 w w':=by
 (have H : (marlinspikeref05_Number.l0 k a0 0) = some (r1,r2,r3,r4):=h);(clear h);(have H':=Aside0.mk H);(clear H);(go_enter Tryd.func16,Tryd.ntmps16);(go_wp2)
 repeat (go_quiet (fail);try go_wp2)
 (go_loopg [6] k (fun kq v6 w' => ∃ (x6_1 : Int),v6 = .int .i64 x6_1∧Aside0 (marlinspikeref05_Number.l0 kq a0 x6_1 = some (r1,r2,r3,r4))∧Aside0 (kq ≤ k)∧Drawn0 w w'))
 case atStart => exact ⟨(0),(by first|rfl|(simp;done)|(simp [*];done)),H',⟨Nat.le_refl _⟩,by repeat (first|exact Drawn0.refl _|apply Drawn0.step)⟩
 case round =>
  (clear H');(try clear c1);(obtain ⟨x6_1,rfl,HA,HK1,⟨m1,rfl⟩⟩:=hrel)
  cases gk with
 |zero => exact absurd HA.out (by simp [marlinspikeref05_Number.l0])
 |succ k1 =>
   (have H:=HA.out);(clear HA);(simp only [marlinspikeref05_Number.l0] at H);(by_cases c2 : x6_1 < 6)
   ·(rw [if_pos c2] at H);(have c2b0 : decide (x6_1 < 6) = true:=decide_eq_true c2);(clear c2);(by_cases c3 : x6_1 < (a0.size : Int))
    ·(rw [if_pos c3] at H);(have c3b0 : decide (x6_1 < (a0.size : Int)) = true:=decide_eq_true c3);(clear c3);(obtain ⟨ji4,hji4⟩ : ∃ j_ : Int,(wrap64 ((wrap64 ((a0.size : Int) - 1)) - x6_1)) = j_:=⟨_,rfl⟩);(replace H : (if 0 ≤ (ji4) then (if (ji4) < (a0.size : Int) then ((marlinspikeref05_digit.f (bt a0 (ji4))).bind fun t362 => (if t362 = true then (marlinspikeref05_Number.l0 k1 a0 (wrap64 (x6_1 + 1))) else (if x6_1 = 0 then (some (a0,0,0,false)) else (if x6_1 = (a0.size : Int) then (some (a0,0,0,false)) else (if 0 ≤ (wrap64 ((a0.size : Int) - x6_1)) then (if (wrap64 ((a0.size : Int) - x6_1)) ≤ (a0.size : Int) then ((marlinspikeref05_value.f k1 (a0.extract ((wrap64 ((a0.size : Int) - x6_1)) : Int).toNat a0.size)).bind fun t363 => (some (a0.extract 0 ((wrap64 ((a0.size : Int) - x6_1)) : Int).toNat,t363,x6_1,true))) else (none)) else (none)))))) else (none)) else (none)) = some (r1,r2,r3,r4):=by first|(rw [hji4] at H;exact H)|(simp only [hji4] at H ⊢;exact H));(have hji4w : (IntKind.i64.wrap ((wrap64 ((a0.size : Int) - 1)) - x6_1)) = ji4:=(i64_w _).trans hji4);(by_cases c5 : 0 ≤ (ji4))
     ·(rw [if_pos c5] at H);(have c5b0 : decide (0 ≤ (ji4)) = true:=decide_eq_true c5);(clear c5);(by_cases c6 : (ji4) < (a0.size : Int))
      ·(rw [if_pos c6] at H);(have c6b0 : decide ((ji4) < (a0.size : Int)) = true:=decide_eq_true c6);(clear c6);(replace H:=Option.bind_eq_some_iff.mp H);(obtain ⟨t362,A80,H⟩:=H);(replace H : (if t362 = true then (marlinspikeref05_Number.l0 k1 a0 (wrap64 (x6_1 + 1))) else (if x6_1 = 0 then (some (a0,0,0,false)) else (if x6_1 = (a0.size : Int) then (some (a0,0,0,false)) else (if 0 ≤ (wrap64 ((a0.size : Int) - x6_1)) then (if (wrap64 ((a0.size : Int) - x6_1)) ≤ (a0.size : Int) then ((marlinspikeref05_value.f k1 (a0.extract ((wrap64 ((a0.size : Int) - x6_1)) : Int).toNat a0.size)).bind fun t363 => (some (a0.extract 0 ((wrap64 ((a0.size : Int) - x6_1)) : Int).toNat,t363,x6_1,true))) else (none)) else (none))))) = some (r1,r2,r3,r4):=H);(have A8:=Aside0.mk A80);(clear A80);(by_cases c9 : t362 = true)
       ·(subst c9);(have H1 : (marlinspikeref05_Number.l0 k1 a0 (wrap64 (x6_1 + 1))) = some (r1,r2,r3,r4):=by rw [if_pos rfl] at H;exact H);(clear H);(have H:=H1);(clear H1);(have H':=Aside0.mk H);(clear H);(have p7 : 0 ≤ ((ji4) : Int):=of_decide_eq_true (by first|(with_reducible assumption)|assumption));(have q7 : (ji4) < (a0.size : Int):=of_decide_eq_true (by first|(with_reducible assumption)|assumption));(have hx7:=bt_at a0 (ji4));(replace p7:=eq_true p7);(replace q7:=eq_true q7);(go_wp2_with (first|(go_at_call 32;(with_reducible refine (marlinspikeref05_digit.calls (bt a0 (ji4)) true _ A8.out).mono ?_);rintro e w' ⟨rfl,⟨nd,rfl⟩⟩;(try first|exact ⟨rfl,_,World.drewN_drewN _ _ _⟩|exact ⟨rfl,_,Eq.trans (World.drewN_drewN _ _ _) (congrArg (World.drewN _) (Nat.add_assoc _ _ _))⟩))))
        repeat (go_quiet (first|(go_at_call 32;(with_reducible refine (marlinspikeref05_digit.calls (bt a0 (ji4)) true _ A8.out).mono ?_);rintro e w' ⟨rfl,⟨nd,rfl⟩⟩;(try first|exact ⟨rfl,_,World.drewN_drewN _ _ _⟩|exact ⟨rfl,_,Eq.trans (World.drewN_drewN _ _ _) (congrArg (World.drewN _) (Nat.add_assoc _ _ _))⟩)));try go_wp2_with (first|(go_at_call 32;(with_reducible refine (marlinspikeref05_digit.calls (bt a0 (ji4)) true _ A8.out).mono ?_);rintro e w' ⟨rfl,⟨nd,rfl⟩⟩;(try first|exact ⟨rfl,_,World.drewN_drewN _ _ _⟩|exact ⟨rfl,_,Eq.trans (World.drewN_drewN _ _ _) (congrArg (World.drewN _) (Nat.add_assoc _ _ _))⟩))))
        (go_roundg k1)
        case measure => have:=HK1.out;omega
        case rel => exact ⟨(wrap64 (x6_1 + 1)),(by first|rfl|(simp;done)|(simp [*];done)),H',⟨by have:=HK1.out;omega⟩,by repeat (first|exact Drawn0.refl _|apply Drawn0.step)⟩
       ·(replace c9:=Bool.eq_false_iff.mpr c9);(subst c9);(have H1 : (if x6_1 = 0 then (some (a0,0,0,false)) else (if x6_1 = (a0.size : Int) then (some (a0,0,0,false)) else (if 0 ≤ (wrap64 ((a0.size : Int) - x6_1)) then (if (wrap64 ((a0.size : Int) - x6_1)) ≤ (a0.size : Int) then ((marlinspikeref05_value.f k1 (a0.extract ((wrap64 ((a0.size : Int) - x6_1)) : Int).toNat a0.size)).bind fun t363 => (some (a0.extract 0 ((wrap64 ((a0.size : Int) - x6_1)) : Int).toNat,t363,x6_1,true))) else (none)) else (none)))) = some (r1,r2,r3,r4):=by rw [if_neg (show ¬ (false = true) by decide)] at H;exact H);(clear H);(have H:=H1);(clear H1);(by_cases c10 : x6_1 = 0)
        ·(rw [if_pos c10] at H);(have c10b0 : (x6_1 == 0) = true:=beq_iff_eq.mpr c10);(have c10b1 : (x6_1 != 0) = false:=bne_eq_false_iff_eq.mpr c10);(clear c10);(simp only [Option.some.injEq,Prod.mk.injEq] at H);(obtain ⟨rfl,rfl,rfl,rfl⟩:=H);(have p7 : 0 ≤ ((ji4) : Int):=of_decide_eq_true (by first|(with_reducible assumption)|assumption));(have q7 : (ji4) < (a0.size : Int):=of_decide_eq_true (by first|(with_reducible assumption)|assumption));(have hx7:=bt_at a0 (ji4));(replace p7:=eq_true p7);(replace q7:=eq_true q7);(go_wp2_with (first|(go_at_call 32;(with_reducible refine (marlinspikeref05_digit.calls (bt a0 (ji4)) false _ A8.out).mono ?_);rintro e w' ⟨rfl,⟨nd,rfl⟩⟩;(try first|exact ⟨rfl,_,World.drewN_drewN _ _ _⟩|exact ⟨rfl,_,Eq.trans (World.drewN_drewN _ _ _) (congrArg (World.drewN _) (Nat.add_assoc _ _ _))⟩))))
         repeat (go_quiet (first|(go_at_call 32;(with_reducible refine (marlinspikeref05_digit.calls (bt a0 (ji4)) false _ A8.out).mono ?_);rintro e w' ⟨rfl,⟨nd,rfl⟩⟩;(try first|exact ⟨rfl,_,World.drewN_drewN _ _ _⟩|exact ⟨rfl,_,Eq.trans (World.drewN_drewN _ _ _) (congrArg (World.drewN _) (Nat.add_assoc _ _ _))⟩)));try go_wp2_with (first|(go_at_call 32;(with_reducible refine (marlinspikeref05_digit.calls (bt a0 (ji4)) false _ A8.out).mono ?_);rintro e w' ⟨rfl,⟨nd,rfl⟩⟩;(try first|exact ⟨rfl,_,World.drewN_drewN _ _ _⟩|exact ⟨rfl,_,Eq.trans (World.drewN_drewN _ _ _) (congrArg (World.drewN _) (Nat.add_assoc _ _ _))⟩))))
         (refine bodyPost_ret (results_list (rs:=[.tmp 2,.tmp 3,.tmp 4,.tmp 5]) rfl (by simp) (.tmp (.tmp (.tmp (.tmp .nil))))) rfl ?_);(exact ⟨by first|rfl|(simp;done)|(simp only [← hji4] <;> (first|rfl|simp))|(simp [*];done),by repeat (first|exact Drawn0.refl _|apply Drawn0.step)⟩)
        ·(rw [if_neg c10] at H);(have c10b0 : (x6_1 == 0) = false:=beq_eq_false_iff_ne.mpr c10);(have c10b1 : (x6_1 != 0) = true:=bne_iff_ne.mpr c10);(by_cases c11 : x6_1 = (a0.size : Int))
         ·(rw [if_pos c11] at H);(have c11b0 : (x6_1 == (a0.size : Int)) = true:=beq_iff_eq.mpr c11);(have c11b1 : (x6_1 != (a0.size : Int)) = false:=bne_eq_false_iff_eq.mpr c11);(clear c11);(simp only [Option.some.injEq,Prod.mk.injEq] at H);(obtain ⟨rfl,rfl,rfl,rfl⟩:=H);(have p7 : 0 ≤ ((ji4) : Int):=of_decide_eq_true (by first|(with_reducible assumption)|assumption));(have q7 : (ji4) < (a0.size : Int):=of_decide_eq_true (by first|(with_reducible assumption)|assumption));(have hx7:=bt_at a0 (ji4));(replace p7:=eq_true p7);(replace q7:=eq_true q7);(go_wp2_with (first|(go_at_call 32;(with_reducible refine (marlinspikeref05_digit.calls (bt a0 (ji4)) false _ A8.out).mono ?_);rintro e w' ⟨rfl,⟨nd,rfl⟩⟩;(try first|exact ⟨rfl,_,World.drewN_drewN _ _ _⟩|exact ⟨rfl,_,Eq.trans (World.drewN_drewN _ _ _) (congrArg (World.drewN _) (Nat.add_assoc _ _ _))⟩))))
          repeat (go_quiet (first|(go_at_call 32;(with_reducible refine (marlinspikeref05_digit.calls (bt a0 (ji4)) false _ A8.out).mono ?_);rintro e w' ⟨rfl,⟨nd,rfl⟩⟩;(try first|exact ⟨rfl,_,World.drewN_drewN _ _ _⟩|exact ⟨rfl,_,Eq.trans (World.drewN_drewN _ _ _) (congrArg (World.drewN _) (Nat.add_assoc _ _ _))⟩)));try go_wp2_with (first|(go_at_call 32;(with_reducible refine (marlinspikeref05_digit.calls (bt a0 (ji4)) false _ A8.out).mono ?_);rintro e w' ⟨rfl,⟨nd,rfl⟩⟩;(try first|exact ⟨rfl,_,World.drewN_drewN _ _ _⟩|exact ⟨rfl,_,Eq.trans (World.drewN_drewN _ _ _) (congrArg (World.drewN _) (Nat.add_assoc _ _ _))⟩))))
          (refine bodyPost_ret (results_list (rs:=[.tmp 2,.tmp 3,.tmp 4,.tmp 5]) rfl (by simp) (.tmp (.tmp (.tmp (.tmp .nil))))) rfl ?_);(exact ⟨by first|rfl|(simp;done)|(simp only [← hji4] <;> (first|rfl|simp))|(simp [*];done),by repeat (first|exact Drawn0.refl _|apply Drawn0.step)⟩)
         ·(rw [if_neg c11] at H);(have c11b0 : (x6_1 == (a0.size : Int)) = false:=beq_eq_false_iff_ne.mpr c11);(have c11b1 : (x6_1 != (a0.size : Int)) = true:=bne_iff_ne.mpr c11);(obtain ⟨ji12,hji12⟩ : ∃ j_ : Int,(wrap64 ((a0.size : Int) - x6_1)) = j_:=⟨_,rfl⟩);(replace H : (if 0 ≤ (ji12) then (if (ji12) ≤ (a0.size : Int) then ((marlinspikeref05_value.f k1 (a0.extract ((ji12) : Int).toNat a0.size)).bind fun t363 => (some (a0.extract 0 ((ji12) : Int).toNat,t363,x6_1,true))) else (none)) else (none)) = some (r1,r2,r3,r4):=by first|(rw [hji12] at H;exact H)|(simp only [hji12] at H ⊢;exact H));((try rw [hji12] at A8));(have hji12w : (IntKind.i64.wrap ((a0.size : Int) - x6_1)) = ji12:=(i64_w _).trans hji12);(by_cases c13 : 0 ≤ (ji12))
          ·(rw [if_pos c13] at H);(have c13b0:=eq_true c13);(have c13b1 : decide (0 ≤ (ji12)) = true:=decide_eq_true c13);(clear c13);(by_cases c14 : (ji12) ≤ (a0.size : Int))
           ·(rw [if_pos c14] at H);(have c14b0:=eq_true c14);(have c14b1 : decide ((ji12) ≤ (a0.size : Int)) = true:=decide_eq_true c14);(clear c14);(have c15b0:=eq_true (of_decide_eq_true (by first|(with_reducible assumption)|assumption) : 0 ≤ (ji12)));(have c16b0:=eq_true (of_decide_eq_true (by first|(with_reducible assumption)|assumption) : (ji12) ≤ (a0.size : Int)));(replace H:=Option.bind_eq_some_iff.mp H);(obtain ⟨t363,A170,H⟩:=H);(replace H : (some (a0.extract 0 ((ji12) : Int).toNat,t363,x6_1,true)) = some (r1,r2,r3,r4):=H);(have A17:=Aside0.mk A170);(clear A170);(simp only [Option.some.injEq,Prod.mk.injEq] at H);(obtain ⟨rfl,rfl,rfl,rfl⟩:=H);(have p7 : 0 ≤ ((ji4) : Int):=of_decide_eq_true (by first|(with_reducible assumption)|assumption));(have q7 : (ji4) < (a0.size : Int):=of_decide_eq_true (by first|(with_reducible assumption)|assumption));(have hx7:=bt_at a0 (ji4));(replace p7:=eq_true p7);(replace q7:=eq_true q7);(go_wp2_with (first|(go_at_call 32;(with_reducible refine (marlinspikeref05_digit.calls (bt a0 (ji4)) false _ A8.out).mono ?_);rintro e w' ⟨rfl,⟨nd,rfl⟩⟩;(try first|exact ⟨rfl,_,World.drewN_drewN _ _ _⟩|exact ⟨rfl,_,Eq.trans (World.drewN_drewN _ _ _) (congrArg (World.drewN _) (Nat.add_assoc _ _ _))⟩))|(go_at_call 33;(with_reducible refine (marlinspikeref05_value.calls k1 (a0.extract ((ji12) : Int).toNat a0.size) t363 _ A17.out).mono ?_);rintro e w' ⟨rfl,⟨nd,rfl⟩⟩;(try first|exact ⟨rfl,_,World.drewN_drewN _ _ _⟩|exact ⟨rfl,_,Eq.trans (World.drewN_drewN _ _ _) (congrArg (World.drewN _) (Nat.add_assoc _ _ _))⟩))))
            repeat (go_quiet (first|(go_at_call 32;(with_reducible refine (marlinspikeref05_digit.calls (bt a0 (ji4)) false _ A8.out).mono ?_);rintro e w' ⟨rfl,⟨nd,rfl⟩⟩;(try first|exact ⟨rfl,_,World.drewN_drewN _ _ _⟩|exact ⟨rfl,_,Eq.trans (World.drewN_drewN _ _ _) (congrArg (World.drewN _) (Nat.add_assoc _ _ _))⟩))|(go_at_call 33;(with_reducible refine (marlinspikeref05_value.calls k1 (a0.extract ((ji12) : Int).toNat a0.size) t363 _ A17.out).mono ?_);rintro e w' ⟨rfl,⟨nd,rfl⟩⟩;(try first|exact ⟨rfl,_,World.drewN_drewN _ _ _⟩|exact ⟨rfl,_,Eq.trans (World.drewN_drewN _ _ _) (congrArg (World.drewN _) (Nat.add_assoc _ _ _))⟩)));try go_wp2_with (first|(go_at_call 32;(with_reducible refine (marlinspikeref05_digit.calls (bt a0 (ji4)) false _ A8.out).mono ?_);rintro e w' ⟨rfl,⟨nd,rfl⟩⟩;(try first|exact ⟨rfl,_,World.drewN_drewN _ _ _⟩|exact ⟨rfl,_,Eq.trans (World.drewN_drewN _ _ _) (congrArg (World.drewN _) (Nat.add_assoc _ _ _))⟩))|(go_at_call 33;(with_reducible refine (marlinspikeref05_value.calls k1 (a0.extract ((ji12) : Int).toNat a0.size) t363 _ A17.out).mono ?_);rintro e w' ⟨rfl,⟨nd,rfl⟩⟩;(try first|exact ⟨rfl,_,World.drewN_drewN _ _ _⟩|exact ⟨rfl,_,Eq.trans (World.drewN_drewN _ _ _) (congrArg (World.drewN _) (Nat.add_assoc _ _ _))⟩))))
            (refine bodyPost_ret (results_list (rs:=[.tmp 2,.tmp 3,.tmp 4,.tmp 5]) rfl (by simp) (.tmp (.tmp (.tmp (.tmp .nil))))) rfl ?_);(exact ⟨by first|rfl|(simp;done)|(simp only [← hji4,← hji12] <;> (first|rfl|simp))|(simp [*];done),by repeat (first|exact Drawn0.refl _|apply Drawn0.step)⟩)
           ·(rw [if_neg c14] at H);(exact absurd H (by simp))
          ·(rw [if_neg c13] at H);(exact absurd H (by simp))
      ·(rw [if_neg c6] at H);(exact absurd H (by simp))
     ·(rw [if_neg c5] at H);(exact absurd H (by simp))
    ·(rw [if_neg c3] at H);(have c3b0 : decide (x6_1 < (a0.size : Int)) = false:=decide_eq_false c3);(clear c3);(by_cases c18 : x6_1 = 0)
     ·(rw [if_pos c18] at H);(have c18b0 : (x6_1 == 0) = true:=beq_iff_eq.mpr c18);(have c18b1 : (x6_1 != 0) = false:=bne_eq_false_iff_eq.mpr c18);(clear c18);(simp only [Option.some.injEq,Prod.mk.injEq] at H);(obtain ⟨rfl,rfl,rfl,rfl⟩:=H);(go_wp2)
      repeat (go_quiet (fail);try go_wp2)
      (refine bodyPost_ret (results_list (rs:=[.tmp 2,.tmp 3,.tmp 4,.tmp 5]) rfl (by simp) (.tmp (.tmp (.tmp (.tmp .nil))))) rfl ?_);(exact ⟨by first|rfl|(simp;done)|(simp [*];done),by repeat (first|exact Drawn0.refl _|apply Drawn0.step)⟩)
     ·(rw [if_neg c18] at H);(have c18b0 : (x6_1 == 0) = false:=beq_eq_false_iff_ne.mpr c18);(have c18b1 : (x6_1 != 0) = true:=bne_iff_ne.mpr c18);(by_cases c19 : x6_1 = (a0.size : Int))
      ·(rw [if_pos c19] at H);(have c19b0 : (x6_1 == (a0.size : Int)) = true:=beq_iff_eq.mpr c19);(have c19b1 : (x6_1 != (a0.size : Int)) = false:=bne_eq_false_iff_eq.mpr c19);(clear c19);(simp only [Option.some.injEq,Prod.mk.injEq] at H);(obtain ⟨rfl,rfl,rfl,rfl⟩:=H);(go_wp2)
       repeat (go_quiet (fail);try go_wp2)
       (refine bodyPost_ret (results_list (rs:=[.tmp 2,.tmp 3,.tmp 4,.tmp 5]) rfl (by simp) (.tmp (.tmp (.tmp (.tmp .nil))))) rfl ?_);(exact ⟨by first|rfl|(simp;done)|(simp [*];done),by repeat (first|exact Drawn0.refl _|apply Drawn0.step)⟩)
      ·(rw [if_neg c19] at H);(have c19b0 : (x6_1 == (a0.size : Int)) = false:=beq_eq_false_iff_ne.mpr c19);(have c19b1 : (x6_1 != (a0.size : Int)) = true:=bne_iff_ne.mpr c19);(obtain ⟨ji20,hji20⟩ : ∃ j_ : Int,(wrap64 ((a0.size : Int) - x6_1)) = j_:=⟨_,rfl⟩);(replace H : (if 0 ≤ (ji20) then (if (ji20) ≤ (a0.size : Int) then ((marlinspikeref05_value.f k1 (a0.extract ((ji20) : Int).toNat a0.size)).bind fun t364 => (some (a0.extract 0 ((ji20) : Int).toNat,t364,x6_1,true))) else (none)) else (none)) = some (r1,r2,r3,r4):=by first|(rw [hji20] at H;exact H)|(simp only [hji20] at H ⊢;exact H));(have hji20w : (IntKind.i64.wrap ((a0.size : Int) - x6_1)) = ji20:=(i64_w _).trans hji20);(by_cases c21 : 0 ≤ (ji20))
       ·(rw [if_pos c21] at H);(have c21b0:=eq_true c21);(have c21b1 : decide (0 ≤ (ji20)) = true:=decide_eq_true c21);(clear c21);(by_cases c22 : (ji20) ≤ (a0.size : Int))
        ·(rw [if_pos c22] at H);(have c22b0:=eq_true c22);(have c22b1 : decide ((ji20) ≤ (a0.size : Int)) = true:=decide_eq_true c22);(clear c22);(have c23b0:=eq_true (of_decide_eq_true (by first|(with_reducible assumption)|assumption) : 0 ≤ (ji20)));(have c24b0:=eq_true (of_decide_eq_true (by first|(with_reducible assumption)|assumption) : (ji20) ≤ (a0.size : Int)));(replace H:=Option.bind_eq_some_iff.mp H);(obtain ⟨t364,A250,H⟩:=H);(replace H : (some (a0.extract 0 ((ji20) : Int).toNat,t364,x6_1,true)) = some (r1,r2,r3,r4):=H);(have A25:=Aside0.mk A250);(clear A250);(simp only [Option.some.injEq,Prod.mk.injEq] at H);(obtain ⟨rfl,rfl,rfl,rfl⟩:=H);(go_wp2_with (first|(go_at_call 33;(with_reducible refine (marlinspikeref05_value.calls k1 (a0.extract ((ji20) : Int).toNat a0.size) t364 _ A25.out).mono ?_);rintro e w' ⟨rfl,⟨nd,rfl⟩⟩;(try first|exact ⟨rfl,_,World.drewN_drewN _ _ _⟩|exact ⟨rfl,_,Eq.trans (World.drewN_drewN _ _ _) (congrArg (World.drewN _) (Nat.add_assoc _ _ _))⟩))))
         repeat (go_quiet (first|(go_at_call 33;(with_reducible refine (marlinspikeref05_value.calls k1 (a0.extract ((ji20) : Int).toNat a0.size) t364 _ A25.out).mono ?_);rintro e w' ⟨rfl,⟨nd,rfl⟩⟩;(try first|exact ⟨rfl,_,World.drewN_drewN _ _ _⟩|exact ⟨rfl,_,Eq.trans (World.drewN_drewN _ _ _) (congrArg (World.drewN _) (Nat.add_assoc _ _ _))⟩)));try go_wp2_with (first|(go_at_call 33;(with_reducible refine (marlinspikeref05_value.calls k1 (a0.extract ((ji20) : Int).toNat a0.size) t364 _ A25.out).mono ?_);rintro e w' ⟨rfl,⟨nd,rfl⟩⟩;(try first|exact ⟨rfl,_,World.drewN_drewN _ _ _⟩|exact ⟨rfl,_,Eq.trans (World.drewN_drewN _ _ _) (congrArg (World.drewN _) (Nat.add_assoc _ _ _))⟩))))
         (refine bodyPost_ret (results_list (rs:=[.tmp 2,.tmp 3,.tmp 4,.tmp 5]) rfl (by simp) (.tmp (.tmp (.tmp (.tmp .nil))))) rfl ?_);(exact ⟨by first|rfl|(simp;done)|(simp only [← hji20] <;> (first|rfl|simp))|(simp [*];done),by repeat (first|exact Drawn0.refl _|apply Drawn0.step)⟩)
        ·(rw [if_neg c22] at H);(exact absurd H (by simp))
       ·(rw [if_neg c21] at H);(exact absurd H (by simp))
   ·(rw [if_neg c2] at H);(have c2b0 : decide (x6_1 < 6) = false:=decide_eq_false c2);(clear c2);(by_cases c26 : x6_1 = 0)
    ·(rw [if_pos c26] at H);(have c26b0 : (x6_1 == 0) = true:=beq_iff_eq.mpr c26);(have c26b1 : (x6_1 != 0) = false:=bne_eq_false_iff_eq.mpr c26);(clear c26);(simp only [Option.some.injEq,Prod.mk.injEq] at H);(obtain ⟨rfl,rfl,rfl,rfl⟩:=H);(go_wp2)
     repeat (go_quiet (fail);try go_wp2)
     (refine bodyPost_ret (results_list (rs:=[.tmp 2,.tmp 3,.tmp 4,.tmp 5]) rfl (by simp) (.tmp (.tmp (.tmp (.tmp .nil))))) rfl ?_);(exact ⟨by first|rfl|(simp;done)|(simp [*];done),by repeat (first|exact Drawn0.refl _|apply Drawn0.step)⟩)
    ·(rw [if_neg c26] at H);(have c26b0 : (x6_1 == 0) = false:=beq_eq_false_iff_ne.mpr c26);(have c26b1 : (x6_1 != 0) = true:=bne_iff_ne.mpr c26);(by_cases c27 : x6_1 = (a0.size : Int))
     ·(rw [if_pos c27] at H);(have c27b0 : (x6_1 == (a0.size : Int)) = true:=beq_iff_eq.mpr c27);(have c27b1 : (x6_1 != (a0.size : Int)) = false:=bne_eq_false_iff_eq.mpr c27);(clear c27);(simp only [Option.some.injEq,Prod.mk.injEq] at H);(obtain ⟨rfl,rfl,rfl,rfl⟩:=H);(go_wp2)
      repeat (go_quiet (fail);try go_wp2)
      (refine bodyPost_ret (results_list (rs:=[.tmp 2,.tmp 3,.tmp 4,.tmp 5]) rfl (by simp) (.tmp (.tmp (.tmp (.tmp .nil))))) rfl ?_);(exact ⟨by first|rfl|(simp;done)|(simp [*];done),by repeat (first|exact Drawn0.refl _|apply Drawn0.step)⟩)
     ·(rw [if_neg c27] at H);(have c27b0 : (x6_1 == (a0.size : Int)) = false:=beq_eq_false_iff_ne.mpr c27);(have c27b1 : (x6_1 != (a0.size : Int)) = true:=bne_iff_ne.mpr c27);(obtain ⟨ji28,hji28⟩ : ∃ j_ : Int,(wrap64 ((a0.size : Int) - x6_1)) = j_:=⟨_,rfl⟩);(replace H : (if 0 ≤ (ji28) then (if (ji28) ≤ (a0.size : Int) then ((marlinspikeref05_value.f k1 (a0.extract ((ji28) : Int).toNat a0.size)).bind fun t365 => (some (a0.extract 0 ((ji28) : Int).toNat,t365,x6_1,true))) else (none)) else (none)) = some (r1,r2,r3,r4):=by first|(rw [hji28] at H;exact H)|(simp only [hji28] at H ⊢;exact H));(have hji28w : (IntKind.i64.wrap ((a0.size : Int) - x6_1)) = ji28:=(i64_w _).trans hji28);(by_cases c29 : 0 ≤ (ji28))
      ·(rw [if_pos c29] at H);(have c29b0:=eq_true c29);(have c29b1 : decide (0 ≤ (ji28)) = true:=decide_eq_true c29);(clear c29);(by_cases c30 : (ji28) ≤ (a0.size : Int))
       ·(rw [if_pos c30] at H);(have c30b0:=eq_true c30);(have c30b1 : decide ((ji28) ≤ (a0.size : Int)) = true:=decide_eq_true c30);(clear c30);(have c31b0:=eq_true (of_decide_eq_true (by first|(with_reducible assumption)|assumption) : 0 ≤ (ji28)));(have c32b0:=eq_true (of_decide_eq_true (by first|(with_reducible assumption)|assumption) : (ji28) ≤ (a0.size : Int)));(replace H:=Option.bind_eq_some_iff.mp H);(obtain ⟨t365,A330,H⟩:=H);(replace H : (some (a0.extract 0 ((ji28) : Int).toNat,t365,x6_1,true)) = some (r1,r2,r3,r4):=H);(have A33:=Aside0.mk A330);(clear A330);(simp only [Option.some.injEq,Prod.mk.injEq] at H);(obtain ⟨rfl,rfl,rfl,rfl⟩:=H);(go_wp2_with (first|(go_at_call 33;(with_reducible refine (marlinspikeref05_value.calls k1 (a0.extract ((ji28) : Int).toNat a0.size) t365 _ A33.out).mono ?_);rintro e w' ⟨rfl,⟨nd,rfl⟩⟩;(try first|exact ⟨rfl,_,World.drewN_drewN _ _ _⟩|exact ⟨rfl,_,Eq.trans (World.drewN_drewN _ _ _) (congrArg (World.drewN _) (Nat.add_assoc _ _ _))⟩))))
        repeat (go_quiet (first|(go_at_call 33;(with_reducible refine (marlinspikeref05_value.calls k1 (a0.extract ((ji28) : Int).toNat a0.size) t365 _ A33.out).mono ?_);rintro e w' ⟨rfl,⟨nd,rfl⟩⟩;(try first|exact ⟨rfl,_,World.drewN_drewN _ _ _⟩|exact ⟨rfl,_,Eq.trans (World.drewN_drewN _ _ _) (congrArg (World.drewN _) (Nat.add_assoc _ _ _))⟩)));try go_wp2_with (first|(go_at_call 33;(with_reducible refine (marlinspikeref05_value.calls k1 (a0.extract ((ji28) : Int).toNat a0.size) t365 _ A33.out).mono ?_);rintro e w' ⟨rfl,⟨nd,rfl⟩⟩;(try first|exact ⟨rfl,_,World.drewN_drewN _ _ _⟩|exact ⟨rfl,_,Eq.trans (World.drewN_drewN _ _ _) (congrArg (World.drewN _) (Nat.add_assoc _ _ _))⟩))))
        (refine bodyPost_ret (results_list (rs:=[.tmp 2,.tmp 3,.tmp 4,.tmp 5]) rfl (by simp) (.tmp (.tmp (.tmp (.tmp .nil))))) rfl ?_);(exact ⟨by first|rfl|(simp;done)|(simp only [← hji28] <;> (first|rfl|simp))|(simp [*];done),by repeat (first|exact Drawn0.refl _|apply Drawn0.step)⟩)
       ·(rw [if_neg c30] at H);(exact absurd H (by simp))
      ·(rw [if_neg c29] at H);(exact absurd H (by simp))
def marlinspikelaw05_long.l0 : Nat → List ByteArray → List ByteArray → Int → Int → Option (Bool)
 | 0, _, _, _, _ => none
 | k + 1, x0, x5, x6, x7 => if x7 < x6 then (if 0 ≤ x7 then (if x7 < (x5.length : Int) then (if ((rdOf ByteArray.empty x5 x7).size : Int) > 300 then (some true) else (marlinspikelaw05_long.l0 k x0 x5 x6 (wrap64 (x7 + 1)))) else (none)) else (none)) else (some (decide ((x0.length : Int) > 300)))
def marlinspikelaw05_long.f (k : Nat) (l0 : List ByteArray) : Option (Bool) := marlinspikelaw05_long.l0 k l0 l0 (l0.length : Int) 0
theorem marlinspikelaw05_long.mono_l : ∀ k,(∀ y0 y1 y2 y3,LeO (marlinspikelaw05_long.l0 k y0 y1 y2 y3) (marlinspikelaw05_long.l0 (k + 1) y0 y1 y2 y3))
|0 => fun _ _ _ _ r h => by simp [marlinspikelaw05_long.l0] at h
|k + 1 => by
  have ih0:=marlinspikelaw05_long.mono_l k
  ·intro y0 y1 y2 y3
   unfold marlinspikelaw05_long.l0
   repeat' first
  |(with_reducible exact ih0 _ _ _ _)
  |(with_reducible exact LeO.refl _)
  |(with_reducible exact LeO.none _)
  |(with_reducible refine LeO.ite ?_ ?_)
  |(with_reducible refine LeO.bind ?_ (fun _ => ?_))
  |exact ih0 _ _ _ _
  |exact LeO.none _
  |refine LeO.ite ?_ ?_
  |refine LeO.bind ?_ (fun _ => ?_)
theorem marlinspikelaw05_long.mono : ∀ a0 k,LeO (marlinspikelaw05_long.f k a0) (marlinspikelaw05_long.f (k + 1) a0):=by
 (intro a0 k);(have ih0:=marlinspikelaw05_long.mono_l k);(unfold marlinspikelaw05_long.f)
 repeat' first
  |(with_reducible exact ih0 _ _ _ _)
  |(with_reducible exact LeO.refl _)
  |(with_reducible exact LeO.none _)
  |(with_reducible refine LeO.ite ?_ ?_)
  |(with_reducible refine LeO.bind ?_ (fun _ => ?_))
  |exact ih0 _ _ _ _
  |exact LeO.none _
  |refine LeO.ite ?_ ?_
  |refine LeO.bind ?_ (fun _ => ?_)
set_option maxHeartbeats 8000000 in
set_option maxRecDepth 100000 in
theorem marlinspikelaw05_long.calls (k : Nat) (A0 : Option Addr) (c0 : Nat) (l0 : List ByteArray) (r : Bool) (w : World) (hr0 : Kd.C Kd.string w A0 l0.length l0) (hc0 : l0.length ≤ c0) (h : marlinspikelaw05_long.f k l0 = some r) :
  Calls Tryd.prog 8 #[.slice A0 l0.length c0] w fun e w' => e = .returned (.bool r)∧Drawn0 w w':=by
 (have HR0:=Aside0.mk hr0);(have HC0:=Aside0.mk hc0);(clear hr0 hc0);(have H : (marlinspikelaw05_long.l0 k l0 l0 (l0.length : Int) 0) = some r:=h);(clear h);(have H':=Aside0.mk H);(clear H);(go_enter Tryd.func8,Tryd.ntmps8);(go_wp2);(go_loopg [7] k (fun kq v7 w' => ∃ (x7_1 : Int),v7 = .int .i64 x7_1∧Aside0 (marlinspikelaw05_long.l0 kq l0 l0 (l0.length : Int) x7_1 = some r)∧Aside0 (kq ≤ k)∧Drawn0 w w'))
 case atStart => exact ⟨(0),(by first|rfl|(simp;done)|(simp [*];done)),H',⟨Nat.le_refl _⟩,by repeat (first|exact Drawn0.refl _|apply Drawn0.step)⟩
 case round =>
  (clear H');(obtain ⟨x7_1,rfl,HA,HK1,⟨m1,rfl⟩⟩:=hrel)
  cases gk with
 |zero => exact absurd HA.out (by simp [marlinspikelaw05_long.l0])
 |succ k1 =>
   (have H:=HA.out);(clear HA);(simp only [marlinspikelaw05_long.l0] at H);(by_cases c2 : x7_1 < (l0.length : Int))
   ·(rw [if_pos c2] at H);(have c2b0 : decide (x7_1 < (l0.length : Int)) = true:=decide_eq_true c2);(clear c2);(by_cases c3 : 0 ≤ x7_1)
    ·(rw [if_pos c3] at H);(have c3b0 : decide (0 ≤ x7_1) = true:=decide_eq_true c3);(clear c3);(by_cases c4 : x7_1 < (l0.length : Int))
     ·(rw [if_pos c4] at H);(have c4b0 : decide (x7_1 < (l0.length : Int)) = true:=decide_eq_true c4);(clear c4);(by_cases c5 : ((rdOf ByteArray.empty l0 x7_1).size : Int) > 300)
      ·(rw [if_pos c5] at H);(have c5b0 : decide (300 < ((rdOf ByteArray.empty l0 x7_1).size : Int)) = true:=decide_eq_true c5);(have c5b1 : decide (300 < (rdOf ByteArray.empty l0 x7_1).size) = true:=decide_eq_true (by omega));(clear c5);(obtain rfl:=Option.some.inj H);(have p366 : 0 ≤ (x7_1 : Int):=of_decide_eq_true (by first|(with_reducible assumption)|assumption));(have q366 : x7_1 < (l0.length : Int):=of_decide_eq_true (by first|(with_reducible assumption)|assumption));(obtain ⟨ad366,e366,hx366_0⟩:=Kd.at_string HR0.out x7_1 p366 q366)
       cases e366
       (replace p366:=eq_true p366);(replace q366:=eq_true q366);(go_wp2);(go_ret);(exact ⟨by first|rfl|(simp;done)|(simp [*];done),by repeat (first|exact Drawn0.refl _|apply Drawn0.step)⟩)
      ·(rw [if_neg c5] at H);(have c5b0 : decide (300 < ((rdOf ByteArray.empty l0 x7_1).size : Int)) = false:=decide_eq_false c5);(have c5b1 : decide (300 < (rdOf ByteArray.empty l0 x7_1).size) = false:=decide_eq_false (by omega));(clear c5);(have H':=Aside0.mk H);(clear H);(have p366 : 0 ≤ (x7_1 : Int):=of_decide_eq_true (by first|(with_reducible assumption)|assumption));(have q366 : x7_1 < (l0.length : Int):=of_decide_eq_true (by first|(with_reducible assumption)|assumption));(obtain ⟨ad366,e366,hx366_0⟩:=Kd.at_string HR0.out x7_1 p366 q366)
       cases e366
       (replace p366:=eq_true p366);(replace q366:=eq_true q366);(go_wp2);(go_roundg k1)
       case measure => have:=HK1.out;omega
       case rel => exact ⟨(wrap64 (x7_1 + 1)),(by first|rfl|(simp;done)|(simp [*];done)),H',⟨by have:=HK1.out;omega⟩,by repeat (first|exact Drawn0.refl _|apply Drawn0.step)⟩
     ·(rw [if_neg c4] at H);(exact absurd H (by simp))
    ·(rw [if_neg c3] at H);(exact absurd H (by simp))
   ·(rw [if_neg c2] at H);(have c2b0 : decide (x7_1 < (l0.length : Int)) = false:=decide_eq_false c2);(clear c2);(obtain rfl:=Option.some.inj H);(go_wp2);(go_ret);(exact ⟨by first|rfl|(simp;done)|(simp [*];done),by repeat (first|exact Drawn0.refl _|apply Drawn0.step)⟩)
def marlinspikelaw05_alive.f (k : Nat)  : Option (Bool) := (host_Expand.f k (⟨#[110, 91, 49, 45, 51, 44, 48, 55, 45, 48, 56, 93, 44, 109]⟩ : ByteArray)).bind fun bt367 => (if (bt367.2.1 == 0 && (bt367.2.2 == 0)) = true then ((marlinspikeref05_Same.f k bt367.1 (([(⟨#[110, 49]⟩ : ByteArray), (⟨#[110, 50]⟩ : ByteArray), (⟨#[110, 51]⟩ : ByteArray), (⟨#[110, 48, 55]⟩ : ByteArray), (⟨#[110, 48, 56]⟩ : ByteArray), (⟨#[109]⟩ : ByteArray)] : List ByteArray))).bind fun t376 => (if t376 = true then ((host_Compress.f k bt367.1).bind fun t377 => (some (t377.toList == ([110, 91, 49, 45, 51, 93, 44, 110, 91, 48, 55, 45, 48, 56, 93, 44, 109] : List UInt8)))) else (some false))) else (some false))
theorem marlinspikelaw05_alive.mono : ∀ k,LeO (marlinspikelaw05_alive.f k ) (marlinspikelaw05_alive.f (k + 1) ):=by
 (intro  k);(unfold marlinspikelaw05_alive.f)
 repeat' first
  |(with_reducible exact host_Compress.mono _ _)
  |(with_reducible exact host_Expand.mono _ _)
  |(with_reducible exact marlinspikeref05_Same.mono _ _ _)
  |(with_reducible exact LeO.refl _)
  |(with_reducible exact LeO.none _)
  |(with_reducible refine LeO.ite ?_ ?_)
  |(with_reducible refine LeO.bind ?_ (fun _ => ?_))
  |exact host_Compress.mono _ _
  |exact host_Expand.mono _ _
  |exact marlinspikeref05_Same.mono _ _ _
  |exact LeO.none _
  |refine LeO.ite ?_ ?_
  |refine LeO.bind ?_ (fun _ => ?_)
set_option maxHeartbeats 8000000 in
set_option maxRecDepth 100000 in
theorem marlinspikelaw05_alive.calls (k : Nat)  (r : Bool) (w : World) (h : marlinspikelaw05_alive.f k  = some r) (hG_ : Glob w) :
  Calls Tryd.prog 9 #[] w fun e w' => e = .returned (.bool r)∧Below w.heap.size w w':=by
 (have HG_:=Aside0.mk hG_);(clear hG_);(have hu27:=Tryd.underlying27);(have HB:=Aside0.mk (Below.refl w.heap.size w));(have H : ((host_Expand.f k (⟨#[110,91,49,45,51,44,48,55,45,48,56,93,44,109]⟩ : ByteArray)).bind fun bt367 => (if (bt367.2.1 == 0 && (bt367.2.2 == 0)) = true then ((marlinspikeref05_Same.f k bt367.1 (([(⟨#[110,49]⟩ : ByteArray),(⟨#[110,50]⟩ : ByteArray),(⟨#[110,51]⟩ : ByteArray),(⟨#[110,48,55]⟩ : ByteArray),(⟨#[110,48,56]⟩ : ByteArray),(⟨#[109]⟩ : ByteArray)] : List ByteArray))).bind fun t376 => (if t376 = true then ((host_Compress.f k bt367.1).bind fun t377 => (some (t377.toList == ([110,91,49,45,51,93,44,110,91,48,55,45,48,56,93,44,109] : List UInt8)))) else (some false))) else (some false))) = some r:=h);(clear h);(replace H:=Option.bind_eq_some_iff.mp H);(obtain ⟨⟨t367,t370,t371⟩,A10,H⟩:=H);(replace H : (if (t370 == 0 && (t371 == 0)) = true then ((marlinspikeref05_Same.f k t367 (([(⟨#[110,49]⟩ : ByteArray),(⟨#[110,50]⟩ : ByteArray),(⟨#[110,51]⟩ : ByteArray),(⟨#[110,48,55]⟩ : ByteArray),(⟨#[110,48,56]⟩ : ByteArray),(⟨#[109]⟩ : ByteArray)] : List ByteArray))).bind fun t376 => (if t376 = true then ((host_Compress.f k t367).bind fun t377 => (some (t377.toList == ([110,91,49,45,51,93,44,110,91,48,55,45,48,56,93,44,109] : List UInt8)))) else (some false))) else (some false)) = some r:=H);(have A1:=Aside0.mk A10);(clear A10);(by_cases c2 : (t370 == 0 && (t371 == 0)) = true)
 ·(rw [if_pos c2] at H);(have c2b0 : (t370 == 0 && (t371 == 0)) = true:=c2);((try (have c2b1 : decide (t370 = 0 && (t371 == 0)) = true:=by simpa using c2)));((try (have c2b2 : (t370 == 0 && (t371 == 0)) = true:=by simpa using c2)));(clear c2);(obtain ⟨y373,hy373⟩ : ∃ y_ : List ByteArray,y_ = (([(⟨#[110,49]⟩ : ByteArray),(⟨#[110,50]⟩ : ByteArray),(⟨#[110,51]⟩ : ByteArray),(⟨#[110,48,55]⟩ : ByteArray),(⟨#[110,48,56]⟩ : ByteArray),(⟨#[109]⟩ : ByteArray)] : List ByteArray)):=⟨_,rfl⟩);(replace H : ((marlinspikeref05_Same.f k t367 y373).bind fun t376 => (if t376 = true then ((host_Compress.f k t367).bind fun t377 => (some (t377.toList == ([110,91,49,45,51,93,44,110,91,48,55,45,48,56,93,44,109] : List UInt8)))) else (some false))) = some r:=by first|(rw [hy373];with_reducible exact H)|(have H2_:=(Option.bind_some _ _).symm.trans H;rw [hy373];with_reducible exact H2_)|(have H2_:=(Option.bind_some _ _).symm.trans H;with_reducible exact H2_)|with_reducible exact H|(rw [hy373];exact H)|exact H);(have Ny373:=Aside0.mk hy373);(clear hy373);(replace H:=Option.bind_eq_some_iff.mp H);(obtain ⟨t376,A30,H⟩:=H);(replace H : (if t376 = true then ((host_Compress.f k t367).bind fun t377 => (some (t377.toList == ([110,91,49,45,51,93,44,110,91,48,55,45,48,56,93,44,109] : List UInt8)))) else (some false)) = some r:=H);(have A3:=Aside0.mk A30);(clear A30);(by_cases c4 : t376 = true)
  ·(subst c4);(have H1 : ((host_Compress.f k t367).bind fun t377 => (some (t377.toList == ([110,91,49,45,51,93,44,110,91,48,55,45,48,56,93,44,109] : List UInt8)))) = some r:=by rw [if_pos rfl] at H;exact H);(clear H);(have H:=H1);(clear H1);(replace H:=Option.bind_eq_some_iff.mp H);(obtain ⟨t377,A50,H⟩:=H);(replace H : (some (t377.toList == ([110,91,49,45,51,93,44,110,91,48,55,45,48,56,93,44,109] : List UInt8))) = some r:=H);(have A5:=Aside0.mk A50);(clear A50);(obtain rfl:=Option.some.inj H);(go_enter Tryd.func9,Tryd.ntmps9);(go_wp2_with (first|((with_reducible refine gate_callee (f:=11) rfl ?_);refine goesL_ (some 4) rfl rfl Tryd.func11 (by kernel_rfl) rfl #[.string (⟨#[110,91,49,45,51,44,48,55,45,48,56,93,44,109]⟩ : ByteArray)] rfl (by (try simp only [List.map_toArray,List.map_cons,List.map_nil]);first|done|rfl|(simp only [List.length_drop,List.length_take];rfl)) ?_;(with_reducible refine (host_Expand.calls k (⟨#[110,91,49,45,51,44,48,55,45,48,56,93,44,109]⟩ : ByteArray) t367 t370 t371 _ A1.out (HG_.out.below (by repeat (first|(with_reducible first|exact HB.out|apply below_alloc|apply pw_below_drewN|apply below_drew1)|exact HB.out)))).mono ?_);rintro e w6 ⟨v368,rfl,ho0,hb⟩;refine ⟨_,rfl,?_⟩;have n0_:=Aside0.mk (Kd.R_lower ho0 (below_size (by repeat (first|(with_reducible first|exact HB.out|apply below_alloc|apply pw_below_drewN|apply below_drew1)|exact HB.out))));have n1_:=Aside0.mk (below_step (by repeat (first|(with_reducible first|exact HB.out|apply below_alloc|apply pw_below_drewN|apply below_drew1)|exact HB.out)) hb);clear HB;have HO369:=n0_;have HB:=n1_;clear n0_ n1_;(try clear hb);(try clear hb2);(try clear hk);(try clear hi);(try clear ho0))|((with_reducible refine gate_dst (N:=2) rfl ?_);(try (refine gate_guard (by rfl) ?_;dsimp only));refine box_event ?hg (N:=2) ?hd (cs:=#[.int .i64 0,.int .i64 0]) (t:=27) ?hr ?_;(case hd => rfl);(case hg => rfl);(case hr => first|(go_simp;done)|(go_simp;rfl));intro gb372 hg w7 hbox hb;have n0_:=Aside0.mk (Kd.R_below (by (with_reducible repeat (first|apply Kd.R_alloc|apply Kd.R_drewN|apply Kd.R_drew));exact HO369.out) hb);have n1_:=Aside0.mk (below_step (by repeat (first|(with_reducible first|exact HB.out|apply below_alloc|apply pw_below_drewN|apply below_drew1)|exact HB.out)) hb);have n2_:=Aside0.mk (hbox);have n3_:=Aside0.mk ((by rw [hg];exact (below_size (by repeat (first|(with_reducible first|exact HB.out|apply below_alloc|apply pw_below_drewN|apply below_drew1)|exact HB.out))) : w.heap.size ≤ gb372));have n4_:=Aside0.mk ((by rw [hg];exact (below_size (by repeat (first|(with_reducible first|exact HB.out|apply below_alloc|apply pw_below_drewN|apply below_drew1)|exact HB.out))) : w.heap.size ≤ gb372));clear HO369;clear HB;have HO369:=n0_;have HB:=n1_;have BK372:=n2_;have GW372:=n3_;have GE372:=n4_;clear n0_ n1_ n2_ n3_ n4_;clear hb hbox hg;have hcz8_0 : w7.cell? ⟨gb372,0,none⟩ = some (.int .i64 0):=(blk_cell BK372.out 0).trans rfl;have hcz8_1 : w7.cell? ⟨gb372,1,none⟩ = some (.int .i64 0):=(blk_cell BK372.out 1).trans rfl;have hfz8_0:=blk_frozen BK372.out 0;have hfz8_1:=blk_frozen BK372.out 1)|((with_reducible refine gate_dst (N:=12) rfl ?_);(try (refine gate_guard (by rfl) ?_;dsimp only));refine Kd.R_lit Kd.string _ 9 ?hg (N:=12) ?hd (xs:=([(⟨#[110,49]⟩ : ByteArray),(⟨#[110,50]⟩ : ByteArray),(⟨#[110,51]⟩ : ByteArray),(⟨#[110,48,55]⟩ : ByteArray),(⟨#[110,48,56]⟩ : ByteArray),(⟨#[109]⟩ : ByteArray)] : List ByteArray)) (inner:=[.string (⟨#[110,49]⟩ : ByteArray),.string (⟨#[110,50]⟩ : ByteArray),.string (⟨#[110,51]⟩ : ByteArray),.string (⟨#[110,48,55]⟩ : ByteArray),.string (⟨#[110,48,56]⟩ : ByteArray),.string (⟨#[109]⟩ : ByteArray)]) (ok:=fun _ => True) (okp:=fun _ => True) ?hr ?hp (fun _ hk => hk) trivial (Below.refl _ _) (Nat.le_refl _) (by simp) ?_;(case hd => rfl);(case hg => rfl);(case hr => first|(go_simp;done)|(go_simp;rfl));(case hp => exact (Reps.one (show Kd.M Kd.string _ _ _ (⟨#[110,49]⟩ : ByteArray) [.string (⟨#[110,49]⟩ : ByteArray)] from rfl) (Reps.one (show Kd.M Kd.string _ _ _ (⟨#[110,50]⟩ : ByteArray) [.string (⟨#[110,50]⟩ : ByteArray)] from rfl) (Reps.one (show Kd.M Kd.string _ _ _ (⟨#[110,51]⟩ : ByteArray) [.string (⟨#[110,51]⟩ : ByteArray)] from rfl) (Reps.one (show Kd.M Kd.string _ _ _ (⟨#[110,48,55]⟩ : ByteArray) [.string (⟨#[110,48,55]⟩ : ByteArray)] from rfl) (Reps.one (show Kd.M Kd.string _ _ _ (⟨#[110,48,56]⟩ : ByteArray) [.string (⟨#[110,48,56]⟩ : ByteArray)] from rfl) (Reps.one (show Kd.M Kd.string _ _ _ (⟨#[109]⟩ : ByteArray) [.string (⟨#[109]⟩ : ByteArray)] from rfl) (Reps.none _ _))))))));intro v374 w9 ho10 hb hg_ hnew_;clear hg_ hnew_;(first|rw [← Ny373.out] at ho10|(simp only [Int.reduceToNat] at ho10;rw [← Ny373.out] at ho10));have n0_:=Aside0.mk (Kd.R_elder' (by (with_reducible repeat (first|apply Kd.R_alloc|apply Kd.R_drewN|apply Kd.R_drew));exact (Kd.R_mono (Kd.R_far (p:=⟨gb372,1,none⟩) (Kd.R_far (p:=⟨gb372,0,none⟩) (Kd.R_types HO369.out BK372.out (by decide)) (fun _ hk => hk.2) (.int .i64 t370)) (fun _ hk => hk.2) (.int .i64 t371)) (fun _ h_ => h_.1))) (Kd.R_base ho10) hb);have n1_:=Aside0.mk (Kd.R_lower (Kd.R_new' ho10 (Kd.R_lt (by (with_reducible repeat (first|apply Kd.R_alloc|apply Kd.R_drewN|apply Kd.R_drew));exact (Kd.R_mono (Kd.R_far (p:=⟨gb372,1,none⟩) (Kd.R_far (p:=⟨gb372,0,none⟩) (Kd.R_types HO369.out BK372.out (by decide)) (fun _ hk => hk.2) (.int .i64 t370)) (fun _ hk => hk.2) (.int .i64 t371)) (fun _ h_ => h_.1))))) (below_size (by repeat (first|(with_reducible first|exact HB.out|apply below_alloc|apply pw_below_drewN|apply below_drew1|refine below_set ?_ GE372.out)|exact HB.out))));have n2_:=Aside0.mk (blk_below (g:=gb372) (o:=.cells #[.int .i64 t370,.int .i64 t371] 27 (0,0)) (by (with_reducible repeat (first|refine blk_drewN ?_ _|refine blk_drew ?_|refine blk_alloc ?_ _));refine blk_put (cs:=#[.int .i64 t370,.int .i64 0]) ?_ 1 _ rfl;(with_reducible repeat (first|refine blk_drewN ?_ _|refine blk_drew ?_|refine blk_alloc ?_ _));refine blk_put (cs:=#[.int .i64 0,.int .i64 0]) ?_ 0 _ rfl;(with_reducible repeat (first|refine blk_drewN ?_ _|refine blk_drew ?_|refine blk_alloc ?_ _));exact BK372.out) hb);have n3_:=Aside0.mk (below_step (by repeat (first|(with_reducible first|exact HB.out|apply below_alloc|apply pw_below_drewN|apply below_drew1|refine below_set ?_ GE372.out)|exact HB.out)) hb);clear HO369;clear BK372;clear HB;have HO369:=n0_;have HO375:=n1_;have BK372:=n2_;have HB:=n3_;clear n0_ n1_ n2_ n3_;clear hb ho10;obtain ⟨Ao11,co11,eo11⟩:=Kd.R_slice HO369.out;subst eo11;obtain ⟨Ao12,co12,eo12⟩:=Kd.R_slice HO375.out;subst eo12)|(go_at_call 13;(with_reducible refine (marlinspikeref05_Same.calls k _ _ t367 _ _ y373 true _ ?side1 ?side2 ?side3 ?side4 A3.out).mono ?_);(case side1 => repeat (first|exact (Kd.R_reads' HO369.out).2.2|(with_reducible refine Kd.C_alloc ?_ _)|(with_reducible refine Kd.C_drewN ?_ _)|(with_reducible refine Kd.C_drew ?_)));(case side2 => exact (Kd.R_reads' HO369.out).2.1);(case side3 => repeat (first|exact (Kd.R_reads' HO375.out).2.2|(with_reducible refine Kd.C_alloc ?_ _)|(with_reducible refine Kd.C_drewN ?_ _)|(with_reducible refine Kd.C_drew ?_)));(case side4 => exact (Kd.R_reads' HO375.out).2.1);rintro e w' ⟨rfl,⟨nd,rfl⟩⟩)|(go_at_call 12;(with_reducible refine (host_Compress.calls k (fun k_ => some k_ = (.slice Ao11 t367.length co11 : Value).ownBlock) _ _ t367 t377 _ ?side1 A5.out (HG_.out.below (by repeat (first|(with_reducible first|exact HB.out|apply below_alloc|apply pw_below_drewN|apply below_drew1|refine below_set ?_ GE372.out)|exact HB.out)))).mono ?_);(case side1 => exact Kd.R_V (Kd.R_tight rfl (Kd.R_types (HO369.out) BK372.out (by decide))));rintro e w13 ⟨rfl,hb⟩;have n0_:=Aside0.mk (Kd.R_below (by (with_reducible repeat (first|apply Kd.R_alloc|apply Kd.R_drewN|apply Kd.R_drew));exact HO369.out) hb);have n1_:=Aside0.mk (Kd.R_below (by (with_reducible repeat (first|apply Kd.R_alloc|apply Kd.R_drewN|apply Kd.R_drew));exact HO375.out) hb);have n2_:=Aside0.mk (blk_below (g:=gb372) (o:=.cells #[.int .i64 t370,.int .i64 t371] 27 (0,0)) (by (with_reducible repeat (first|refine blk_drewN ?_ _|refine blk_drew ?_|refine blk_alloc ?_ _));exact BK372.out) hb);have n3_:=Aside0.mk (below_step (by repeat (first|(with_reducible first|exact HB.out|apply below_alloc|apply pw_below_drewN|apply below_drew1|refine below_set ?_ GE372.out)|exact HB.out)) hb);clear HO369;clear HO375;clear BK372;clear HB;have HO369:=n0_;have HO375:=n1_;have BK372:=n2_;have HB:=n3_;clear n0_ n1_ n2_ n3_;(try clear hb);(try clear hb2);(try clear hk);(try clear hi))));(go_ret);(exact ⟨by first|rfl|(simp [errW_none,errW_some] <;> rfl)|(simp [*,errW_none,errW_some] <;> rfl),by repeat (first|(with_reducible first|exact HB.out|apply below_alloc|apply pw_below_drewN|apply below_drew1|refine below_set ?_ GE372.out)|exact HB.out)⟩)
  ·(replace c4:=Bool.eq_false_iff.mpr c4);(subst c4);(have H1 : (some false) = some r:=by rw [if_neg (show ¬ (false = true) by decide)] at H;exact H);(clear H);(have H:=H1);(clear H1);(obtain rfl:=Option.some.inj H);(go_enter Tryd.func9,Tryd.ntmps9);(go_wp2_with (first|((with_reducible refine gate_callee (f:=11) rfl ?_);refine goesL_ (some 4) rfl rfl Tryd.func11 (by kernel_rfl) rfl #[.string (⟨#[110,91,49,45,51,44,48,55,45,48,56,93,44,109]⟩ : ByteArray)] rfl (by (try simp only [List.map_toArray,List.map_cons,List.map_nil]);first|done|rfl|(simp only [List.length_drop,List.length_take];rfl)) ?_;(with_reducible refine (host_Expand.calls k (⟨#[110,91,49,45,51,44,48,55,45,48,56,93,44,109]⟩ : ByteArray) t367 t370 t371 _ A1.out (HG_.out.below (by repeat (first|(with_reducible first|exact HB.out|apply below_alloc|apply pw_below_drewN|apply below_drew1)|exact HB.out)))).mono ?_);rintro e w14 ⟨v368,rfl,ho0,hb⟩;refine ⟨_,rfl,?_⟩;have n0_:=Aside0.mk (Kd.R_lower ho0 (below_size (by repeat (first|(with_reducible first|exact HB.out|apply below_alloc|apply pw_below_drewN|apply below_drew1)|exact HB.out))));have n1_:=Aside0.mk (below_step (by repeat (first|(with_reducible first|exact HB.out|apply below_alloc|apply pw_below_drewN|apply below_drew1)|exact HB.out)) hb);clear HB;have HO369:=n0_;have HB:=n1_;clear n0_ n1_;(try clear hb);(try clear hb2);(try clear hk);(try clear hi);(try clear ho0))|((with_reducible refine gate_dst (N:=2) rfl ?_);(try (refine gate_guard (by rfl) ?_;dsimp only));refine box_event ?hg (N:=2) ?hd (cs:=#[.int .i64 0,.int .i64 0]) (t:=27) ?hr ?_;(case hd => rfl);(case hg => rfl);(case hr => first|(go_simp;done)|(go_simp;rfl));intro gb372 hg w15 hbox hb;have n0_:=Aside0.mk (Kd.R_below (by (with_reducible repeat (first|apply Kd.R_alloc|apply Kd.R_drewN|apply Kd.R_drew));exact HO369.out) hb);have n1_:=Aside0.mk (below_step (by repeat (first|(with_reducible first|exact HB.out|apply below_alloc|apply pw_below_drewN|apply below_drew1)|exact HB.out)) hb);have n2_:=Aside0.mk (hbox);have n3_:=Aside0.mk ((by rw [hg];exact (below_size (by repeat (first|(with_reducible first|exact HB.out|apply below_alloc|apply pw_below_drewN|apply below_drew1)|exact HB.out))) : w.heap.size ≤ gb372));have n4_:=Aside0.mk ((by rw [hg];exact (below_size (by repeat (first|(with_reducible first|exact HB.out|apply below_alloc|apply pw_below_drewN|apply below_drew1)|exact HB.out))) : w.heap.size ≤ gb372));clear HO369;clear HB;have HO369:=n0_;have HB:=n1_;have BK372:=n2_;have GW372:=n3_;have GE372:=n4_;clear n0_ n1_ n2_ n3_ n4_;clear hb hbox hg;have hcz16_0 : w15.cell? ⟨gb372,0,none⟩ = some (.int .i64 0):=(blk_cell BK372.out 0).trans rfl;have hcz16_1 : w15.cell? ⟨gb372,1,none⟩ = some (.int .i64 0):=(blk_cell BK372.out 1).trans rfl;have hfz16_0:=blk_frozen BK372.out 0;have hfz16_1:=blk_frozen BK372.out 1)|((with_reducible refine gate_dst (N:=12) rfl ?_);(try (refine gate_guard (by rfl) ?_;dsimp only));refine Kd.R_lit Kd.string _ 9 ?hg (N:=12) ?hd (xs:=([(⟨#[110,49]⟩ : ByteArray),(⟨#[110,50]⟩ : ByteArray),(⟨#[110,51]⟩ : ByteArray),(⟨#[110,48,55]⟩ : ByteArray),(⟨#[110,48,56]⟩ : ByteArray),(⟨#[109]⟩ : ByteArray)] : List ByteArray)) (inner:=[.string (⟨#[110,49]⟩ : ByteArray),.string (⟨#[110,50]⟩ : ByteArray),.string (⟨#[110,51]⟩ : ByteArray),.string (⟨#[110,48,55]⟩ : ByteArray),.string (⟨#[110,48,56]⟩ : ByteArray),.string (⟨#[109]⟩ : ByteArray)]) (ok:=fun _ => True) (okp:=fun _ => True) ?hr ?hp (fun _ hk => hk) trivial (Below.refl _ _) (Nat.le_refl _) (by simp) ?_;(case hd => rfl);(case hg => rfl);(case hr => first|(go_simp;done)|(go_simp;rfl));(case hp => exact (Reps.one (show Kd.M Kd.string _ _ _ (⟨#[110,49]⟩ : ByteArray) [.string (⟨#[110,49]⟩ : ByteArray)] from rfl) (Reps.one (show Kd.M Kd.string _ _ _ (⟨#[110,50]⟩ : ByteArray) [.string (⟨#[110,50]⟩ : ByteArray)] from rfl) (Reps.one (show Kd.M Kd.string _ _ _ (⟨#[110,51]⟩ : ByteArray) [.string (⟨#[110,51]⟩ : ByteArray)] from rfl) (Reps.one (show Kd.M Kd.string _ _ _ (⟨#[110,48,55]⟩ : ByteArray) [.string (⟨#[110,48,55]⟩ : ByteArray)] from rfl) (Reps.one (show Kd.M Kd.string _ _ _ (⟨#[110,48,56]⟩ : ByteArray) [.string (⟨#[110,48,56]⟩ : ByteArray)] from rfl) (Reps.one (show Kd.M Kd.string _ _ _ (⟨#[109]⟩ : ByteArray) [.string (⟨#[109]⟩ : ByteArray)] from rfl) (Reps.none _ _))))))));intro v374 w17 ho18 hb hg_ hnew_;clear hg_ hnew_;(first|rw [← Ny373.out] at ho18|(simp only [Int.reduceToNat] at ho18;rw [← Ny373.out] at ho18));have n0_:=Aside0.mk (Kd.R_elder' (by (with_reducible repeat (first|apply Kd.R_alloc|apply Kd.R_drewN|apply Kd.R_drew));exact (Kd.R_mono (Kd.R_far (p:=⟨gb372,1,none⟩) (Kd.R_far (p:=⟨gb372,0,none⟩) (Kd.R_types HO369.out BK372.out (by decide)) (fun _ hk => hk.2) (.int .i64 t370)) (fun _ hk => hk.2) (.int .i64 t371)) (fun _ h_ => h_.1))) (Kd.R_base ho18) hb);have n1_:=Aside0.mk (Kd.R_lower (Kd.R_new' ho18 (Kd.R_lt (by (with_reducible repeat (first|apply Kd.R_alloc|apply Kd.R_drewN|apply Kd.R_drew));exact (Kd.R_mono (Kd.R_far (p:=⟨gb372,1,none⟩) (Kd.R_far (p:=⟨gb372,0,none⟩) (Kd.R_types HO369.out BK372.out (by decide)) (fun _ hk => hk.2) (.int .i64 t370)) (fun _ hk => hk.2) (.int .i64 t371)) (fun _ h_ => h_.1))))) (below_size (by repeat (first|(with_reducible first|exact HB.out|apply below_alloc|apply pw_below_drewN|apply below_drew1|refine below_set ?_ GE372.out)|exact HB.out))));have n2_:=Aside0.mk (blk_below (g:=gb372) (o:=.cells #[.int .i64 t370,.int .i64 t371] 27 (0,0)) (by (with_reducible repeat (first|refine blk_drewN ?_ _|refine blk_drew ?_|refine blk_alloc ?_ _));refine blk_put (cs:=#[.int .i64 t370,.int .i64 0]) ?_ 1 _ rfl;(with_reducible repeat (first|refine blk_drewN ?_ _|refine blk_drew ?_|refine blk_alloc ?_ _));refine blk_put (cs:=#[.int .i64 0,.int .i64 0]) ?_ 0 _ rfl;(with_reducible repeat (first|refine blk_drewN ?_ _|refine blk_drew ?_|refine blk_alloc ?_ _));exact BK372.out) hb);have n3_:=Aside0.mk (below_step (by repeat (first|(with_reducible first|exact HB.out|apply below_alloc|apply pw_below_drewN|apply below_drew1|refine below_set ?_ GE372.out)|exact HB.out)) hb);clear HO369;clear BK372;clear HB;have HO369:=n0_;have HO375:=n1_;have BK372:=n2_;have HB:=n3_;clear n0_ n1_ n2_ n3_;clear hb ho18;obtain ⟨Ao19,co19,eo19⟩:=Kd.R_slice HO369.out;subst eo19;obtain ⟨Ao20,co20,eo20⟩:=Kd.R_slice HO375.out;subst eo20)|(go_at_call 13;(with_reducible refine (marlinspikeref05_Same.calls k _ _ t367 _ _ y373 false _ ?side1 ?side2 ?side3 ?side4 A3.out).mono ?_);(case side1 => repeat (first|exact (Kd.R_reads' HO369.out).2.2|(with_reducible refine Kd.C_alloc ?_ _)|(with_reducible refine Kd.C_drewN ?_ _)|(with_reducible refine Kd.C_drew ?_)));(case side2 => exact (Kd.R_reads' HO369.out).2.1);(case side3 => repeat (first|exact (Kd.R_reads' HO375.out).2.2|(with_reducible refine Kd.C_alloc ?_ _)|(with_reducible refine Kd.C_drewN ?_ _)|(with_reducible refine Kd.C_drew ?_)));(case side4 => exact (Kd.R_reads' HO375.out).2.1);rintro e w' ⟨rfl,⟨nd,rfl⟩⟩)));(go_ret);(exact ⟨by first|rfl|(simp [errW_none,errW_some] <;> rfl)|(simp [*,errW_none,errW_some] <;> rfl),by repeat (first|(with_reducible first|exact HB.out|apply below_alloc|apply pw_below_drewN|apply below_drew1|refine below_set ?_ GE372.out)|exact HB.out)⟩)
 ·(rw [if_neg c2] at H);(have c2b0 : (t370 == 0 && (t371 == 0)) = false:=by simpa using c2);((try (have c2b1 : decide (t370 = 0 && (t371 == 0)) = false:=by simpa using c2)));((try (have c2b2 : (t370 == 0 && (t371 == 0)) = false:=by simpa using c2)));((try (have c2b3 : ¬ (t370 = 0 && (t371 == 0)):=by simpa using c2)));(clear c2);(obtain rfl:=Option.some.inj H);(go_enter Tryd.func9,Tryd.ntmps9);(go_wp2_with (first|((with_reducible refine gate_callee (f:=11) rfl ?_);refine goesL_ (some 4) rfl rfl Tryd.func11 (by kernel_rfl) rfl #[.string (⟨#[110,91,49,45,51,44,48,55,45,48,56,93,44,109]⟩ : ByteArray)] rfl (by (try simp only [List.map_toArray,List.map_cons,List.map_nil]);first|done|rfl|(simp only [List.length_drop,List.length_take];rfl)) ?_;(with_reducible refine (host_Expand.calls k (⟨#[110,91,49,45,51,44,48,55,45,48,56,93,44,109]⟩ : ByteArray) t367 t370 t371 _ A1.out (HG_.out.below (by repeat (first|(with_reducible first|exact HB.out|apply below_alloc|apply pw_below_drewN|apply below_drew1)|exact HB.out)))).mono ?_);rintro e w21 ⟨v368,rfl,ho0,hb⟩;refine ⟨_,rfl,?_⟩;have n0_:=Aside0.mk (Kd.R_lower ho0 (below_size (by repeat (first|(with_reducible first|exact HB.out|apply below_alloc|apply pw_below_drewN|apply below_drew1)|exact HB.out))));have n1_:=Aside0.mk (below_step (by repeat (first|(with_reducible first|exact HB.out|apply below_alloc|apply pw_below_drewN|apply below_drew1)|exact HB.out)) hb);clear HB;have HO369:=n0_;have HB:=n1_;clear n0_ n1_;(try clear hb);(try clear hb2);(try clear hk);(try clear hi);(try clear ho0))|((with_reducible refine gate_dst (N:=2) rfl ?_);(try (refine gate_guard (by rfl) ?_;dsimp only));refine box_event ?hg (N:=2) ?hd (cs:=#[.int .i64 0,.int .i64 0]) (t:=27) ?hr ?_;(case hd => rfl);(case hg => rfl);(case hr => first|(go_simp;done)|(go_simp;rfl));intro gb372 hg w22 hbox hb;have n0_:=Aside0.mk (Kd.R_below (by (with_reducible repeat (first|apply Kd.R_alloc|apply Kd.R_drewN|apply Kd.R_drew));exact HO369.out) hb);have n1_:=Aside0.mk (below_step (by repeat (first|(with_reducible first|exact HB.out|apply below_alloc|apply pw_below_drewN|apply below_drew1)|exact HB.out)) hb);have n2_:=Aside0.mk (hbox);have n3_:=Aside0.mk ((by rw [hg];exact (below_size (by repeat (first|(with_reducible first|exact HB.out|apply below_alloc|apply pw_below_drewN|apply below_drew1)|exact HB.out))) : w.heap.size ≤ gb372));have n4_:=Aside0.mk ((by rw [hg];exact (below_size (by repeat (first|(with_reducible first|exact HB.out|apply below_alloc|apply pw_below_drewN|apply below_drew1)|exact HB.out))) : w.heap.size ≤ gb372));clear HO369;clear HB;have HO369:=n0_;have HB:=n1_;have BK372:=n2_;have GW372:=n3_;have GE372:=n4_;clear n0_ n1_ n2_ n3_ n4_;clear hb hbox hg;have hcz23_0 : w22.cell? ⟨gb372,0,none⟩ = some (.int .i64 0):=(blk_cell BK372.out 0).trans rfl;have hcz23_1 : w22.cell? ⟨gb372,1,none⟩ = some (.int .i64 0):=(blk_cell BK372.out 1).trans rfl;have hfz23_0:=blk_frozen BK372.out 0;have hfz23_1:=blk_frozen BK372.out 1)));(go_ret);(exact ⟨by first|rfl|(simp [errW_none,errW_some] <;> rfl)|(simp [*,errW_none,errW_some] <;> rfl),by repeat (first|(with_reducible first|exact HB.out|apply below_alloc|apply pw_below_drewN|apply below_drew1|refine below_set ?_ GE372.out)|exact HB.out)⟩)
end Go.Proofs.YtoammgpfbdcphaaDoor.PH
end
section
namespace Go.Proofs.YtoammgpfbdcphaaDoor.PH
open Go.RowKit Go.Proofs.YtoammgpfbdcphaaDoor.Lib Go.Proofs.YtoammgpfbdcphaaDoorW.PrintWords Go.Proofs.YtoammgpfbdcphaaDoorW.PrintLast Go.Proofs.YtoammgpfbdcphaaDoorW.PrintMore
attribute [local go_sem] max2_int min2_int max_two min_two max_three min_three max_four min_four   
set_option linter.unusedVariables false
set_option linter.unusedSimpArgs false
attribute [local go_sem high] eqA27
end Go.Proofs.YtoammgpfbdcphaaDoor.PH
end
section
namespace Go.Proofs.YtoammgpfbdcphaaDoor.Hx
open Go.RowKit Go.Proofs.YtoammgpfbdcphaaDoor.Lib Go.Proofs.YtoammgpfbdcphaaDoor.PH Go.Proofs.YtoammgpfbdcphaaDoor.Txt Go.Proofs.YtoammgpfbdcphaaDoor.Num Go.Proofs.YtoammgpfbdcphaaDoor.Hn Go.Proofs.YtoammgpfbdcphaaDoorW.PrintWords Go.Proofs.YtoammgpfbdcphaaDoorW.PrintLast Go.Proofs.YtoammgpfbdcphaaDoorW.PrintMore
set_option linter.unusedVariables false
set_option linter.unusedSimpArgs false
theorem alive_ev : Ev (fun k => marlinspikelaw05_alive.f k) true := Ev.of (fun k => marlinspikelaw05_alive.mono k) (k := 60) (by kernel_rfl)
theorem same_l0 (l : List ByteArray) (hl : l.length ≤ 9000000000) : ∀ (d i : Nat), l.length - i = d → i ≤ l.length → Ev (fun k => marlinspikeref05_Same.l0 k l l (i : Int)) true := by
  intro d
  induction d with
  | zero =>
    intro i hd hi
    refine Ev.shift ⟨0, fun k hk => ?_⟩
    simp only [marlinspikeref05_Same.l0]
    rw [if_neg (by omega)]
  | succ d ih =>
    intro i hd hi
    obtain ⟨K, hK⟩ := ih (i + 1) (by omega) (by omega)
    dsimp only at hK
    refine Ev.shift ⟨K, fun k hk => ?_⟩
    simp only [marlinspikeref05_Same.l0]
    rw [if_pos (by omega), if_pos (by omega), if_pos (by omega), if_pos (by first | rfl | trivial), wrap_nat (by omega)]
    exact hK k hk
theorem same_ev (l : List ByteArray) (hl : l.length ≤ 9000000000) : Ev (fun k => marlinspikeref05_Same.f k l l) true := by
  obtain ⟨K, hK⟩ := same_l0 l hl _ 0 rfl (by omega)
  refine ⟨K, fun k hk => ?_⟩
  simp only [marlinspikeref05_Same.f]
  rw [if_pos (by first | rfl | trivial)]
  exact hK k hk
end Go.Proofs.YtoammgpfbdcphaaDoor.Hx
end
section
namespace Go.Proofs.YtoammgpfbdcphaaDoor.PH
open Go.RowKit Go.Proofs.YtoammgpfbdcphaaDoor.Lib Go.Proofs.YtoammgpfbdcphaaDoorW.PrintWords Go.Proofs.YtoammgpfbdcphaaDoorW.PrintLast Go.Proofs.YtoammgpfbdcphaaDoorW.PrintMore
attribute [local go_sem] max2_int min2_int max_two min_two max_three min_three max_four min_four   
set_option linter.unusedVariables false
set_option linter.unusedSimpArgs false
end Go.Proofs.YtoammgpfbdcphaaDoor.PH
end
section
namespace Go.Proofs.YtoammgpfbdcphaaDoor.PH
open Go.RowKit Go.Proofs.YtoammgpfbdcphaaDoor.Lib Go.Proofs.YtoammgpfbdcphaaDoorW.PrintWords Go.Proofs.YtoammgpfbdcphaaDoorW.PrintLast Go.Proofs.YtoammgpfbdcphaaDoorW.PrintMore
attribute [local go_sem] max2_int min2_int max_two min_two max_three min_three max_four min_four   
set_option linter.unusedVariables false
set_option linter.unusedSimpArgs false
end Go.Proofs.YtoammgpfbdcphaaDoor.PH
end
section
namespace Go.Proofs.YtoammgpfbdcphaaDoor.PH
open Go.RowKit Go.Proofs.YtoammgpfbdcphaaDoor.Lib Go.Proofs.YtoammgpfbdcphaaDoorW.PrintWords Go.Proofs.YtoammgpfbdcphaaDoorW.PrintLast Go.Proofs.YtoammgpfbdcphaaDoorW.PrintMore
attribute [local go_sem] max2_int min2_int max_two min_two max_three min_three max_four min_four   
set_option linter.unusedVariables false
set_option linter.unusedSimpArgs false
end Go.Proofs.YtoammgpfbdcphaaDoor.PH
end
section
namespace Go.Proofs.YtoammgpfbdcphaaDoor.Hx
open Go.RowKit Go.Proofs.YtoammgpfbdcphaaDoor.Lib Go.Proofs.YtoammgpfbdcphaaDoor.PH Go.Proofs.YtoammgpfbdcphaaDoor.Txt Go.Proofs.YtoammgpfbdcphaaDoor.Num Go.Proofs.YtoammgpfbdcphaaDoor.Hn Go.Proofs.YtoammgpfbdcphaaDoorW.PrintWords Go.Proofs.YtoammgpfbdcphaaDoorW.PrintLast Go.Proofs.YtoammgpfbdcphaaDoorW.PrintMore
set_option linter.unusedVariables false
set_option linter.unusedSimpArgs false
theorem rdig_f (c : UInt8) : marlinspikeref05_digit.f (c.toNat : Int) = some (isDig c) := digit_f c
theorem pow_six (i : Nat) (h : i ≤ 6) : 10 ^ i ≤ 1000000 := Nat.pow_le_pow_right (by decide) h
theorem rval_l0 (b : ByteArray) (hd : Digs (L b)) (h6 : b.size ≤ 6) : ∀ (d i acc : Nat), b.size - i = d → i ≤ b.size → acc < 10 ^ i → Ev (fun k => marlinspikeref05_value.l0 k b (acc : Int) (i : Int)) (valA acc ((L b).drop i) : Int) := by
  intro d
  induction d with
  | zero =>
    intro i acc hdd hi ha
    refine Ev.shift ⟨0, fun k hk => ?_⟩
    simp only [marlinspikeref05_value.l0]
    rw [if_neg (by omega), List.drop_eq_nil_of_le (by rw [L_length]; omega)]
    rfl
  | succ d ih =>
    intro i acc hdd hi ha
    have hlt : i < b.size := by omega
    have hl : i < (L b).length := by rw [L_length]; exact hlt
    have hc := (isDig_iff (L b)[i]).1 (hd _ (List.getElem_mem hl))
    have hp := pow_six i (by omega)
    obtain ⟨K, hK⟩ := ih (i + 1) (acc * 10 + ((L b)[i].toNat - 48)) (by omega) (by omega) (by
      rw [Nat.pow_succ]
      generalize 10 ^ i = P at *
      omega)
    refine Ev.shift ⟨K, fun k hk => ?_⟩
    have h2 := hK k hk
    dsimp only at h2
    simp only [marlinspikeref05_value.l0]
    rw [if_pos (by omega), if_pos (by omega), bt_L b i hlt, wrap_nat (by omega), List.drop_eq_getElem_cons hl]
    have e : wrap64 (wrap64 ((acc : Int) * 10) + (((L b)[i].toNat : Int) - 48) % 256) = ((acc * 10 + ((L b)[i].toNat - 48) : Nat) : Int) := by
      clear h2 hK ih
      generalize 10 ^ i = P at *
      generalize (L b)[i].toNat = q at *
      have e1 : ((q : Int) - 48) % 256 = ((q - 48 : Nat) : Int) := by omega
      rw [e1, show wrap64 ((acc : Int) * 10) = ((acc * 10 : Nat) : Int) by unfold wrap64; omega]
      generalize q - 48 = z at *
      unfold wrap64; omega
    rw [e]
    exact h2
theorem rval_ev (b : ByteArray) (hd : Digs (L b)) (h6 : (L b).length ≤ 6) : Ev (fun k => marlinspikeref05_value.f k b) (valD (L b) : Int) := by
  rw [L_length] at h6
  have := rval_l0 b hd h6 b.size 0 0 rfl (by omega) (by decide)
  rw [List.drop_zero] at this
  exact this
end Go.Proofs.YtoammgpfbdcphaaDoor.Hx
end
section
namespace Go.Proofs.YtoammgpfbdcphaaDoor.Sr
open Go.RowKit Go.Proofs.YtoammgpfbdcphaaDoor.Lib Go.Proofs.YtoammgpfbdcphaaDoor.PH Go.Proofs.YtoammgpfbdcphaaDoorW.PrintWords Go.Proofs.YtoammgpfbdcphaaDoorW.PrintLast Go.Proofs.YtoammgpfbdcphaaDoorW.PrintMore
set_option linter.unusedVariables false
set_option linter.unusedSimpArgs false
structure Gr (w w' : World) : Prop where mk ::
  below : Below w.heap.size w w'
  dr : w.drawn ≤ w'.drawn
theorem Gr.refl (w : World) : Gr w w := ⟨Below.refl _ _, Nat.le_refl _⟩
theorem gr_step {w a b : World} (h : Gr w a) (k : Gr a b) : Gr w b := ⟨below_then h.below h.below.size k.below, Nat.le_trans h.dr k.dr⟩
theorem gr_alloc {w a : World} (h : Gr w a) (o : Obj) : Gr w (a.alloc o) := ⟨below_alloc h.below o, by
  rw [Go.Sort.alloc_eq_grow]; exact h.dr⟩
theorem gr_drewN {w a : World} (h : Gr w a) (n : Nat) : Gr w (a.drewN n) := ⟨pw_below_drewN h.below n, Nat.le_trans h.dr (by show a.drawn ≤ a.drawn + n; omega)⟩
theorem gr_drew1 {w a : World} (h : Gr w a) : Gr w a.drew := gr_drewN h 1
theorem gr_set {w a : World} (h : Gr w a) {ad : Addr} (hb : w.heap.size ≤ ad.block) (v : Value) : Gr w (a.setCell ad v) := ⟨h.below.setCell hb v, by
  have : (a.setCell ad v).drawn = a.drawn := by unfold World.setCell; (repeat' split) <;> rfl
  rw [this]; exact h.dr⟩
theorem gr_bytes (w : World) (e : TypeId) (s : ByteArray) : Gr w (Go.Lib.bytesWorld w e s) := ⟨bytes_below (Below.refl _ _) (Nat.le_refl _) e s, by show w.drawn ≤ w.drawn + 1; omega⟩
theorem Gr.grow {w a : World} (h : Gr w a) : ∃ q os, a = Go.Sort.grow (w.drewN q) os := by
  obtain ⟨⟨h1, h2, h3, h4, h5⟩, h6⟩ := h
  obtain ⟨hp, tp, dn, osx, ou⟩ := a
  refine ⟨dn - w.drawn, hp.extract w.heap.size hp.size, ?_⟩
  dsimp only at h1 h2 h3 h4 h5 h6
  subst h1; subst h2; subst h3
  unfold Go.Sort.grow
  have e1 : dn = (w.drewN (dn - w.drawn)).drawn := by show dn = w.drawn + (dn - w.drawn); omega
  have e2 : hp = w.heap ++ hp.extract w.heap.size hp.size := by
    apply Array.ext_getElem?
    intro j
    rw [Array.getElem?_append]
    by_cases hj : j < w.heap.size
    · rw [if_pos hj]; exact h5 j hj
    · rw [if_neg hj, Array.getElem?_extract]
      by_cases hj2 : j < hp.size
      · rw [if_pos (by omega), show w.heap.size + (j - w.heap.size) = j by omega]
      · rw [if_neg (by omega), Array.getElem?_eq_none (by omega)]
  show World.mk hp w.tape dn w.os w.output = World.mk (w.heap ++ hp.extract w.heap.size hp.size) w.tape (w.drewN (dn - w.drawn)).drawn w.os w.output
  rw [← e1, ← e2]
def strconv_AtoiG.f (a0 : ByteArray) : Option (Int × Option Int) := if a0.size ≤ 281474976710656 then (match Go.Lib.atoiAll a0.data.toList with | .ok v => some (v, none) | _ => none) else none
theorem strconv_AtoiG.calls (a0 : ByteArray) (r1 : Int) (r2 : Option Int) (w : World) (h : strconv_AtoiG.f a0 = some (r1, r2)) :
    Calls Tryd.prog 31 #[.string a0] w fun e w' => ∃ ev, e = .returned (.tuple #[.int .i64 r1, ev]) ∧ Gr w w' := by
  unfold strconv_AtoiG.f at h
  split at h
  · rename_i hb
    split at h
    · rename_i v hv
      simp only [Option.some.injEq, Prod.mk.injEq] at h
      obtain ⟨rfl, _⟩ := h
      refine (Tryd.strconv_Atoi_ok a0 (by omega) v hv w).mono ?_
      rintro e w' ⟨rfl, hw⟩
      refine ⟨_, rfl, ?_⟩
      rcases hw with rfl | ⟨t, rfl⟩
      · exact Gr.refl _
      · exact gr_bytes _ _ _
    · cases h
  · cases h
def numG.l0 : Nat → ByteArray → Int → Option (ByteArray × Int × Int × Bool)
  | 0, _, _ => none
  | k + 1, x0, x6 => if x6 > 0 then (if (wrap64 ((x0.size : Int) - x6)) < 6 then (if 0 ≤ (wrap64 (x6 - 1)) then (if (wrap64 (x6 - 1)) < (x0.size : Int) then ((host_isDigit.f (bt x0 (wrap64 (x6 - 1)))).bind fun t212 => (if t212 = true then (numG.l0 k x0 (wrap64 (x6 - 1))) else (if x6 = 0 then (some (x0, 0, 0, false)) else (if x6 = (x0.size : Int) then (some (x0, 0, 0, false)) else (if 0 ≤ x6 then (if x6 ≤ (x0.size : Int) then ((strconv_AtoiG.f (x0.extract (x6 : Int).toNat x0.size)).bind fun bt213 => (some (x0.extract 0 (x6 : Int).toNat, bt213.1, wrap64 ((x0.size : Int) - x6), true))) else (none)) else (none)))))) else (none)) else (none)) else (if x6 = 0 then (some (x0, 0, 0, false)) else (if x6 = (x0.size : Int) then (some (x0, 0, 0, false)) else (if 0 ≤ x6 then (if x6 ≤ (x0.size : Int) then ((strconv_AtoiG.f (x0.extract (x6 : Int).toNat x0.size)).bind fun bt215 => (some (x0.extract 0 (x6 : Int).toNat, bt215.1, wrap64 ((x0.size : Int) - x6), true))) else (none)) else (none))))) else (if x6 = 0 then (some (x0, 0, 0, false)) else (if x6 = (x0.size : Int) then (some (x0, 0, 0, false)) else (if 0 ≤ x6 then (if x6 ≤ (x0.size : Int) then ((strconv_AtoiG.f (x0.extract (x6 : Int).toNat x0.size)).bind fun bt217 => (some (x0.extract 0 (x6 : Int).toNat, bt217.1, wrap64 ((x0.size : Int) - x6), true))) else (none)) else (none))))
def numG.f (k : Nat) (a0 : ByteArray) : Option (ByteArray × Int × Int × Bool) := numG.l0 k a0 (a0.size : Int)
set_option maxHeartbeats 8000000 in
set_option maxRecDepth 100000 in
theorem numG.calls (k : Nat) (a0 : ByteArray) (r1 : ByteArray) (r2 : Int) (r3 : Int) (r4 : Bool) (w : World) (h : numG.f k a0 = some (r1, r2, r3, r4)) :
    Calls Tryd.prog 15 #[.string a0] w fun e w' => e = .returned (.tuple #[.string r1, .int .i64 r2, .int .i64 r3, .bool r4]) ∧ Gr w w' := by
  have HB := Aside0.mk (Gr.refl w)
  have H : (numG.l0 k a0 (a0.size : Int)) = some (r1, r2, r3, r4) := h
  clear h
  have H' := Aside0.mk H
  clear H
  go_enter Tryd.func15, Tryd.ntmps15
  go_wp2
  go_loopg [6] k (fun kq v6 w' => ∃ (x6_1 : Int), v6 = .int .i64 x6_1 ∧ Aside0 (numG.l0 kq a0 x6_1 = some (r1, r2, r3, r4)) ∧ Aside0 (kq ≤ k) ∧ Aside0 (Gr w w'))
  case atStart => exact ⟨((a0.size : Int)), (by first | rfl | (simp; done) | (simp [*]; done)), H', ⟨Nat.le_refl _⟩, ⟨by repeat (first | (with_reducible first | exact HB.out | apply gr_alloc | apply gr_drewN | apply gr_drew1) | exact HB.out)⟩⟩
  case round =>
    clear H'
    try clear c1
    obtain ⟨x6_1, rfl, HA, HK1, HB⟩ := hrel
    cases gk with
    | zero => exact absurd HA.out (by simp [numG.l0])
    | succ k1 =>
      have H := HA.out
      clear HA
      simp only [numG.l0] at H
      by_cases c2 : x6_1 > 0
      · rw [if_pos c2] at H
        have c2b0 : decide (0 < x6_1) = true := decide_eq_true c2
        clear c2
        by_cases c3 : (wrap64 ((a0.size : Int) - x6_1)) < 6
        · rw [if_pos c3] at H
          have c3b0 : decide ((wrap64 ((a0.size : Int) - x6_1)) < 6) = true := decide_eq_true c3
          clear c3
          obtain ⟨ji4, hji4⟩ : ∃ j_ : Int, (wrap64 (x6_1 - 1)) = j_ := ⟨_, rfl⟩
          replace H : (if 0 ≤ (ji4) then (if (ji4) < (a0.size : Int) then ((host_isDigit.f (bt a0 (ji4))).bind fun t212 => (if t212 = true then (numG.l0 k1 a0 ji4) else (if x6_1 = 0 then (some (a0, 0, 0, false)) else (if x6_1 = (a0.size : Int) then (some (a0, 0, 0, false)) else (if 0 ≤ x6_1 then (if x6_1 ≤ (a0.size : Int) then ((strconv_AtoiG.f (a0.extract (x6_1 : Int).toNat a0.size)).bind fun bt213 => (some (a0.extract 0 (x6_1 : Int).toNat, bt213.1, wrap64 ((a0.size : Int) - x6_1), true))) else (none)) else (none)))))) else (none)) else (none)) = some (r1, r2, r3, r4) := by first | (rw [hji4] at H; exact H) | (simp only [hji4] at H ⊢; exact H)
          have hji4w : (IntKind.i64.wrap (x6_1 - 1)) = ji4 := (i64_w _).trans hji4
          by_cases c5 : 0 ≤ (ji4)
          · rw [if_pos c5] at H
            have c5b0 : decide (0 ≤ (ji4)) = true := decide_eq_true c5
            clear c5
            by_cases c6 : (ji4) < (a0.size : Int)
            · rw [if_pos c6] at H
              have c6b0 : decide ((ji4) < (a0.size : Int)) = true := decide_eq_true c6
              clear c6
              replace H := Option.bind_eq_some_iff.mp H
              obtain ⟨t212, A80, H⟩ := H
              replace H : (if t212 = true then (numG.l0 k1 a0 ji4) else (if x6_1 = 0 then (some (a0, 0, 0, false)) else (if x6_1 = (a0.size : Int) then (some (a0, 0, 0, false)) else (if 0 ≤ x6_1 then (if x6_1 ≤ (a0.size : Int) then ((strconv_AtoiG.f (a0.extract (x6_1 : Int).toNat a0.size)).bind fun bt213 => (some (a0.extract 0 (x6_1 : Int).toNat, bt213.1, wrap64 ((a0.size : Int) - x6_1), true))) else (none)) else (none))))) = some (r1, r2, r3, r4) := H
              have A8 := Aside0.mk A80
              clear A80
              by_cases c9 : t212 = true
              · subst c9
                have H1 : (numG.l0 k1 a0 ji4) = some (r1, r2, r3, r4) := by rw [if_pos rfl] at H; exact H
                clear H
                have H := H1
                clear H1
                have H' := Aside0.mk H
                clear H
                have p7 : 0 ≤ ((ji4) : Int) := of_decide_eq_true (by first | (with_reducible assumption) | assumption)
                have q7 : (ji4) < (a0.size : Int) := of_decide_eq_true (by first | (with_reducible assumption) | assumption)
                have hx7 := bt_at a0 (ji4)
                replace p7 := eq_true p7
                replace q7 := eq_true q7
                go_wp2_with (first | (go_at_call 30; (with_reducible refine (host_isDigit.calls (bt a0 (ji4)) true _ A8.out).mono ?_); rintro e w' ⟨rfl, ⟨nd, rfl⟩⟩))
                go_roundg k1
                case measure => have := HK1.out; omega
                case rel => exact ⟨(ji4), (by first | rfl | (simp; done) | (simp only [← hji4] <;> (first | rfl | simp)) | (simp [*]; done)), H', ⟨by have := HK1.out; omega⟩, ⟨by repeat (first | (with_reducible first | exact HB.out | apply gr_alloc | apply gr_drewN | apply gr_drew1) | exact HB.out)⟩⟩
              · replace c9 := Bool.eq_false_iff.mpr c9
                subst c9
                have H1 : (if x6_1 = 0 then (some (a0, 0, 0, false)) else (if x6_1 = (a0.size : Int) then (some (a0, 0, 0, false)) else (if 0 ≤ x6_1 then (if x6_1 ≤ (a0.size : Int) then ((strconv_AtoiG.f (a0.extract (x6_1 : Int).toNat a0.size)).bind fun bt213 => (some (a0.extract 0 (x6_1 : Int).toNat, bt213.1, wrap64 ((a0.size : Int) - x6_1), true))) else (none)) else (none)))) = some (r1, r2, r3, r4) := by rw [if_neg (show ¬ (false = true) by decide)] at H; exact H
                clear H
                have H := H1
                clear H1
                by_cases c10 : x6_1 = 0
                · rw [if_pos c10] at H
                  have c10b0 : (x6_1 == 0) = true := beq_iff_eq.mpr c10
                  have c10b1 : (x6_1 != 0) = false := bne_eq_false_iff_eq.mpr c10
                  clear c10
                  simp only [Option.some.injEq, Prod.mk.injEq] at H
                  obtain ⟨rfl, rfl, rfl, rfl⟩ := H
                  have p7 : 0 ≤ ((ji4) : Int) := of_decide_eq_true (by first | (with_reducible assumption) | assumption)
                  have q7 : (ji4) < (a0.size : Int) := of_decide_eq_true (by first | (with_reducible assumption) | assumption)
                  have hx7 := bt_at a0 (ji4)
                  replace p7 := eq_true p7
                  replace q7 := eq_true q7
                  go_wp2_with (first | (go_at_call 30; (with_reducible refine (host_isDigit.calls (bt a0 (ji4)) false _ A8.out).mono ?_); rintro e w' ⟨rfl, ⟨nd, rfl⟩⟩))
                  refine bodyPost_ret (results_list (rs := [.tmp 2, .tmp 3, .tmp 4, .tmp 5]) rfl (by simp) (.tmp (.tmp (.tmp (.tmp .nil))))) rfl ?_
                  exact ⟨by first | rfl | (simp [errW_none, errW_some] <;> rfl) | (simp only [← hji4]; first | rfl | (simp [errW_none, errW_some] <;> rfl)) | (simp [*, errW_none, errW_some] <;> rfl), by repeat (first | (with_reducible first | exact HB.out | apply gr_alloc | apply gr_drewN | apply gr_drew1) | exact HB.out)⟩
                · rw [if_neg c10] at H
                  have c10b0 : (x6_1 == 0) = false := beq_eq_false_iff_ne.mpr c10
                  have c10b1 : (x6_1 != 0) = true := bne_iff_ne.mpr c10
                  by_cases c11 : x6_1 = (a0.size : Int)
                  · rw [if_pos c11] at H
                    have c11b0 : (x6_1 == (a0.size : Int)) = true := beq_iff_eq.mpr c11
                    have c11b1 : (x6_1 != (a0.size : Int)) = false := bne_eq_false_iff_eq.mpr c11
                    clear c11
                    simp only [Option.some.injEq, Prod.mk.injEq] at H
                    obtain ⟨rfl, rfl, rfl, rfl⟩ := H
                    have p7 : 0 ≤ ((ji4) : Int) := of_decide_eq_true (by first | (with_reducible assumption) | assumption)
                    have q7 : (ji4) < (a0.size : Int) := of_decide_eq_true (by first | (with_reducible assumption) | assumption)
                    have hx7 := bt_at a0 (ji4)
                    replace p7 := eq_true p7
                    replace q7 := eq_true q7
                    go_wp2_with (first | (go_at_call 30; (with_reducible refine (host_isDigit.calls (bt a0 (ji4)) false _ A8.out).mono ?_); rintro e w' ⟨rfl, ⟨nd, rfl⟩⟩))
                    refine bodyPost_ret (results_list (rs := [.tmp 2, .tmp 3, .tmp 4, .tmp 5]) rfl (by simp) (.tmp (.tmp (.tmp (.tmp .nil))))) rfl ?_
                    exact ⟨by first | rfl | (simp [errW_none, errW_some] <;> rfl) | (simp only [← hji4]; first | rfl | (simp [errW_none, errW_some] <;> rfl)) | (simp [*, errW_none, errW_some] <;> rfl), by repeat (first | (with_reducible first | exact HB.out | apply gr_alloc | apply gr_drewN | apply gr_drew1) | exact HB.out)⟩
                  · rw [if_neg c11] at H
                    have c11b0 : (x6_1 == (a0.size : Int)) = false := beq_eq_false_iff_ne.mpr c11
                    have c11b1 : (x6_1 != (a0.size : Int)) = true := bne_iff_ne.mpr c11
                    by_cases c12 : 0 ≤ x6_1
                    · rw [if_pos c12] at H
                      have c12b0 := eq_true c12
                      have c12b1 : decide (0 ≤ x6_1) = true := decide_eq_true c12
                      clear c12
                      by_cases c13 : x6_1 ≤ (a0.size : Int)
                      · rw [if_pos c13] at H
                        have c13b0 := eq_true c13
                        have c13b1 : decide (x6_1 ≤ (a0.size : Int)) = true := decide_eq_true c13
                        clear c13
                        replace H := Option.bind_eq_some_iff.mp H
                        obtain ⟨⟨t213, t214⟩, A140, H⟩ := H
                        replace H : (some (a0.extract 0 (x6_1 : Int).toNat, t213, wrap64 ((a0.size : Int) - x6_1), true)) = some (r1, r2, r3, r4) := H
                        have A14 := Aside0.mk A140
                        clear A140
                        have c15b0 := eq_true (of_decide_eq_true (by first | (with_reducible assumption) | assumption) : 0 ≤ x6_1)
                        have c16b0 := eq_true (of_decide_eq_true (by first | (with_reducible assumption) | assumption) : x6_1 ≤ (a0.size : Int))
                        simp only [Option.some.injEq, Prod.mk.injEq] at H
                        obtain ⟨rfl, rfl, rfl, rfl⟩ := H
                        have p7 : 0 ≤ ((ji4) : Int) := of_decide_eq_true (by first | (with_reducible assumption) | assumption)
                        have q7 : (ji4) < (a0.size : Int) := of_decide_eq_true (by first | (with_reducible assumption) | assumption)
                        have hx7 := bt_at a0 (ji4)
                        replace p7 := eq_true p7
                        replace q7 := eq_true q7
                        go_wp2_with (first | (go_at_call 30; (with_reducible refine (host_isDigit.calls (bt a0 (ji4)) false _ A8.out).mono ?_); rintro e w' ⟨rfl, ⟨nd, rfl⟩⟩) | ((with_reducible refine gate_callee (f := 31) rfl ?_); refine goesL_ (some 42) rfl rfl Tryd.func31 (by kernel_rfl) rfl #[.string (a0.extract (x6_1 : Int).toNat a0.size)] rfl (by (try simp only [List.map_toArray, List.map_cons, List.map_nil]); first | done | rfl | (simp only [List.length_drop, List.length_take]; rfl)) ?_; (with_reducible refine (strconv_AtoiG.calls (a0.extract (x6_1 : Int).toNat a0.size) t213 t214 _ A14.out).mono ?_); rintro e w17 ⟨ev_, rfl, hb⟩; refine ⟨_, rfl, ?_⟩; have n0_ := Aside0.mk (gr_step (by repeat (first | (with_reducible first | exact HB.out | apply gr_alloc | apply gr_drewN | apply gr_drew1) | exact HB.out)) hb); clear HB; have HB := n0_; clear n0_; (try clear hb); (try clear hb2); (try clear hk); (try clear hi); (try simp only [errW_none, errW_some])))
                        refine bodyPost_ret (results_list (rs := [.tmp 2, .tmp 3, .tmp 4, .tmp 5]) rfl (by simp) (.tmp (.tmp (.tmp (.tmp .nil))))) rfl ?_
                        exact ⟨by first | rfl | (simp [errW_none, errW_some] <;> rfl) | (simp only [← hji4]; first | rfl | (simp [errW_none, errW_some] <;> rfl)) | (simp [*, errW_none, errW_some] <;> rfl), by repeat (first | (with_reducible first | exact HB.out | apply gr_alloc | apply gr_drewN | apply gr_drew1) | exact HB.out)⟩
                      · rw [if_neg c13] at H
                        exact absurd H (by simp)
                    · rw [if_neg c12] at H
                      exact absurd H (by simp)
            · rw [if_neg c6] at H
              exact absurd H (by simp)
          · rw [if_neg c5] at H
            exact absurd H (by simp)
        · rw [if_neg c3] at H
          have c3b0 : decide ((wrap64 ((a0.size : Int) - x6_1)) < 6) = false := decide_eq_false c3
          clear c3
          by_cases c18 : x6_1 = 0
          · rw [if_pos c18] at H
            have c18b0 : (x6_1 == 0) = true := beq_iff_eq.mpr c18
            have c18b1 : (x6_1 != 0) = false := bne_eq_false_iff_eq.mpr c18
            clear c18
            simp only [Option.some.injEq, Prod.mk.injEq] at H
            obtain ⟨rfl, rfl, rfl, rfl⟩ := H
            go_wp2
            refine bodyPost_ret (results_list (rs := [.tmp 2, .tmp 3, .tmp 4, .tmp 5]) rfl (by simp) (.tmp (.tmp (.tmp (.tmp .nil))))) rfl ?_
            exact ⟨by first | rfl | (simp [errW_none, errW_some] <;> rfl) | (simp [*, errW_none, errW_some] <;> rfl), by repeat (first | (with_reducible first | exact HB.out | apply gr_alloc | apply gr_drewN | apply gr_drew1) | exact HB.out)⟩
          · rw [if_neg c18] at H
            have c18b0 : (x6_1 == 0) = false := beq_eq_false_iff_ne.mpr c18
            have c18b1 : (x6_1 != 0) = true := bne_iff_ne.mpr c18
            by_cases c19 : x6_1 = (a0.size : Int)
            · rw [if_pos c19] at H
              have c19b0 : (x6_1 == (a0.size : Int)) = true := beq_iff_eq.mpr c19
              have c19b1 : (x6_1 != (a0.size : Int)) = false := bne_eq_false_iff_eq.mpr c19
              clear c19
              simp only [Option.some.injEq, Prod.mk.injEq] at H
              obtain ⟨rfl, rfl, rfl, rfl⟩ := H
              go_wp2
              refine bodyPost_ret (results_list (rs := [.tmp 2, .tmp 3, .tmp 4, .tmp 5]) rfl (by simp) (.tmp (.tmp (.tmp (.tmp .nil))))) rfl ?_
              exact ⟨by first | rfl | (simp [errW_none, errW_some] <;> rfl) | (simp [*, errW_none, errW_some] <;> rfl), by repeat (first | (with_reducible first | exact HB.out | apply gr_alloc | apply gr_drewN | apply gr_drew1) | exact HB.out)⟩
            · rw [if_neg c19] at H
              have c19b0 : (x6_1 == (a0.size : Int)) = false := beq_eq_false_iff_ne.mpr c19
              have c19b1 : (x6_1 != (a0.size : Int)) = true := bne_iff_ne.mpr c19
              by_cases c20 : 0 ≤ x6_1
              · rw [if_pos c20] at H
                have c20b0 := eq_true c20
                have c20b1 : decide (0 ≤ x6_1) = true := decide_eq_true c20
                clear c20
                by_cases c21 : x6_1 ≤ (a0.size : Int)
                · rw [if_pos c21] at H
                  have c21b0 := eq_true c21
                  have c21b1 : decide (x6_1 ≤ (a0.size : Int)) = true := decide_eq_true c21
                  clear c21
                  replace H := Option.bind_eq_some_iff.mp H
                  obtain ⟨⟨t215, t216⟩, A220, H⟩ := H
                  replace H : (some (a0.extract 0 (x6_1 : Int).toNat, t215, wrap64 ((a0.size : Int) - x6_1), true)) = some (r1, r2, r3, r4) := H
                  have A22 := Aside0.mk A220
                  clear A220
                  have c23b0 := eq_true (of_decide_eq_true (by first | (with_reducible assumption) | assumption) : 0 ≤ x6_1)
                  have c24b0 := eq_true (of_decide_eq_true (by first | (with_reducible assumption) | assumption) : x6_1 ≤ (a0.size : Int))
                  simp only [Option.some.injEq, Prod.mk.injEq] at H
                  obtain ⟨rfl, rfl, rfl, rfl⟩ := H
                  go_wp2_with (first | ((with_reducible refine gate_callee (f := 31) rfl ?_); refine goesL_ (some 42) rfl rfl Tryd.func31 (by kernel_rfl) rfl #[.string (a0.extract (x6_1 : Int).toNat a0.size)] rfl (by (try simp only [List.map_toArray, List.map_cons, List.map_nil]); first | done | rfl | (simp only [List.length_drop, List.length_take]; rfl)) ?_; (with_reducible refine (strconv_AtoiG.calls (a0.extract (x6_1 : Int).toNat a0.size) t215 t216 _ A22.out).mono ?_); rintro e w25 ⟨ev_, rfl, hb⟩; refine ⟨_, rfl, ?_⟩; have n0_ := Aside0.mk (gr_step (by repeat (first | (with_reducible first | exact HB.out | apply gr_alloc | apply gr_drewN | apply gr_drew1) | exact HB.out)) hb); clear HB; have HB := n0_; clear n0_; (try clear hb); (try clear hb2); (try clear hk); (try clear hi); (try simp only [errW_none, errW_some])))
                  refine bodyPost_ret (results_list (rs := [.tmp 2, .tmp 3, .tmp 4, .tmp 5]) rfl (by simp) (.tmp (.tmp (.tmp (.tmp .nil))))) rfl ?_
                  exact ⟨by first | rfl | (simp [errW_none, errW_some] <;> rfl) | (simp [*, errW_none, errW_some] <;> rfl), by repeat (first | (with_reducible first | exact HB.out | apply gr_alloc | apply gr_drewN | apply gr_drew1) | exact HB.out)⟩
                · rw [if_neg c21] at H
                  exact absurd H (by simp)
              · rw [if_neg c20] at H
                exact absurd H (by simp)
      · rw [if_neg c2] at H
        have c2b0 : decide (0 < x6_1) = false := decide_eq_false c2
        clear c2
        by_cases c26 : x6_1 = 0
        · rw [if_pos c26] at H
          have c26b0 : (x6_1 == 0) = true := beq_iff_eq.mpr c26
          have c26b1 : (x6_1 != 0) = false := bne_eq_false_iff_eq.mpr c26
          clear c26
          simp only [Option.some.injEq, Prod.mk.injEq] at H
          obtain ⟨rfl, rfl, rfl, rfl⟩ := H
          go_wp2
          refine bodyPost_ret (results_list (rs := [.tmp 2, .tmp 3, .tmp 4, .tmp 5]) rfl (by simp) (.tmp (.tmp (.tmp (.tmp .nil))))) rfl ?_
          exact ⟨by first | rfl | (simp [errW_none, errW_some] <;> rfl) | (simp [*, errW_none, errW_some] <;> rfl), by repeat (first | (with_reducible first | exact HB.out | apply gr_alloc | apply gr_drewN | apply gr_drew1) | exact HB.out)⟩
        · rw [if_neg c26] at H
          have c26b0 : (x6_1 == 0) = false := beq_eq_false_iff_ne.mpr c26
          have c26b1 : (x6_1 != 0) = true := bne_iff_ne.mpr c26
          by_cases c27 : x6_1 = (a0.size : Int)
          · rw [if_pos c27] at H
            have c27b0 : (x6_1 == (a0.size : Int)) = true := beq_iff_eq.mpr c27
            have c27b1 : (x6_1 != (a0.size : Int)) = false := bne_eq_false_iff_eq.mpr c27
            clear c27
            simp only [Option.some.injEq, Prod.mk.injEq] at H
            obtain ⟨rfl, rfl, rfl, rfl⟩ := H
            go_wp2
            refine bodyPost_ret (results_list (rs := [.tmp 2, .tmp 3, .tmp 4, .tmp 5]) rfl (by simp) (.tmp (.tmp (.tmp (.tmp .nil))))) rfl ?_
            exact ⟨by first | rfl | (simp [errW_none, errW_some] <;> rfl) | (simp [*, errW_none, errW_some] <;> rfl), by repeat (first | (with_reducible first | exact HB.out | apply gr_alloc | apply gr_drewN | apply gr_drew1) | exact HB.out)⟩
          · rw [if_neg c27] at H
            have c27b0 : (x6_1 == (a0.size : Int)) = false := beq_eq_false_iff_ne.mpr c27
            have c27b1 : (x6_1 != (a0.size : Int)) = true := bne_iff_ne.mpr c27
            by_cases c28 : 0 ≤ x6_1
            · rw [if_pos c28] at H
              have c28b0 := eq_true c28
              have c28b1 : decide (0 ≤ x6_1) = true := decide_eq_true c28
              clear c28
              by_cases c29 : x6_1 ≤ (a0.size : Int)
              · rw [if_pos c29] at H
                have c29b0 := eq_true c29
                have c29b1 : decide (x6_1 ≤ (a0.size : Int)) = true := decide_eq_true c29
                clear c29
                replace H := Option.bind_eq_some_iff.mp H
                obtain ⟨⟨t217, t218⟩, A300, H⟩ := H
                replace H : (some (a0.extract 0 (x6_1 : Int).toNat, t217, wrap64 ((a0.size : Int) - x6_1), true)) = some (r1, r2, r3, r4) := H
                have A30 := Aside0.mk A300
                clear A300
                have c31b0 := eq_true (of_decide_eq_true (by first | (with_reducible assumption) | assumption) : 0 ≤ x6_1)
                have c32b0 := eq_true (of_decide_eq_true (by first | (with_reducible assumption) | assumption) : x6_1 ≤ (a0.size : Int))
                simp only [Option.some.injEq, Prod.mk.injEq] at H
                obtain ⟨rfl, rfl, rfl, rfl⟩ := H
                go_wp2_with (first | ((with_reducible refine gate_callee (f := 31) rfl ?_); refine goesL_ (some 42) rfl rfl Tryd.func31 (by kernel_rfl) rfl #[.string (a0.extract (x6_1 : Int).toNat a0.size)] rfl (by (try simp only [List.map_toArray, List.map_cons, List.map_nil]); first | done | rfl | (simp only [List.length_drop, List.length_take]; rfl)) ?_; (with_reducible refine (strconv_AtoiG.calls (a0.extract (x6_1 : Int).toNat a0.size) t217 t218 _ A30.out).mono ?_); rintro e w33 ⟨ev_, rfl, hb⟩; refine ⟨_, rfl, ?_⟩; have n0_ := Aside0.mk (gr_step (by repeat (first | (with_reducible first | exact HB.out | apply gr_alloc | apply gr_drewN | apply gr_drew1) | exact HB.out)) hb); clear HB; have HB := n0_; clear n0_; (try clear hb); (try clear hb2); (try clear hk); (try clear hi); (try simp only [errW_none, errW_some])))
                refine bodyPost_ret (results_list (rs := [.tmp 2, .tmp 3, .tmp 4, .tmp 5]) rfl (by simp) (.tmp (.tmp (.tmp (.tmp .nil))))) rfl ?_
                exact ⟨by first | rfl | (simp [errW_none, errW_some] <;> rfl) | (simp [*, errW_none, errW_some] <;> rfl), by repeat (first | (with_reducible first | exact HB.out | apply gr_alloc | apply gr_drewN | apply gr_drew1) | exact HB.out)⟩
              · rw [if_neg c29] at H
                exact absurd H (by simp)
            · rw [if_neg c28] at H
              exact absurd H (by simp)
end Go.Proofs.YtoammgpfbdcphaaDoor.Sr
end
section
namespace Go.Proofs.YtoammgpfbdcphaaDoor.Hx
open Go.RowKit Go.Proofs.YtoammgpfbdcphaaDoor.Sr Go.Proofs.YtoammgpfbdcphaaDoor.Lib Go.Proofs.YtoammgpfbdcphaaDoor.PH Go.Proofs.YtoammgpfbdcphaaDoor.Txt Go.Proofs.YtoammgpfbdcphaaDoor.Num Go.Proofs.YtoammgpfbdcphaaDoor.Hn Go.Proofs.YtoammgpfbdcphaaDoorW.PrintWords Go.Proofs.YtoammgpfbdcphaaDoorW.PrintLast Go.Proofs.YtoammgpfbdcphaaDoorW.PrintMore
set_option linter.unusedVariables false
set_option linter.unusedSimpArgs false
def cntD (x : ByteArray) : Nat := min 6 (run isDig (L x).reverse 0)
theorem cnt_le (x : ByteArray) : cntD x ≤ x.size ∧ cntD x ≤ 6 := by
  have := run_le isDig (L x).reverse 0 (Nat.zero_le _)
  rw [List.length_reverse, L_length] at this
  unfold cntD; omega
theorem rev_at (x : ByteArray) (j : Nat) (hj : j < x.size) : (L x).reverse[j]'(by rw [List.length_reverse, L_length]; exact hj) = (L x)[x.size - 1 - j]'(by rw [L_length]; omega) := by
  rw [List.getElem_reverse]
  simp only [L_length]
theorem cnt_on (x : ByteArray) (j : Nat) (h : j < cntD x) (hj : x.size - 1 - j < (L x).length) : isDig ((L x)[x.size - 1 - j]) = true := by
  have hl := cnt_le x
  have e := rev_at x j (by omega)
  rw [← e]
  have h2 : j < ((L x).reverse.takeWhile isDig).length := by unfold cntD run at h; rw [List.drop_zero] at h; omega
  have h3 := List.getElem_mem h2
  have h4 : ((L x).reverse.takeWhile isDig)[j] = (L x).reverse[j]'(by rw [List.length_reverse, L_length]; omega) := (List.takeWhile_prefix isDig).getElem h2
  rw [← h4]
  exact List.all_eq_true.1 (List.all_takeWhile (p := isDig) (l := (L x).reverse)) _ h3
theorem cnt_off (x : ByteArray) (h6 : cntD x < 6) (hs : cntD x < x.size) (hj : x.size - 1 - cntD x < (L x).length) : isDig ((L x)[x.size - 1 - cntD x]) = false := by
  have e : cntD x = run isDig (L x).reverse 0 := by unfold cntD at h6 ⊢; omega
  have h1 := rev_at x (cntD x) hs
  rw [← h1]
  simp only [e]
  exact run_stop isDig (L x).reverse 0 (by rw [List.length_reverse, L_length]; omega) (Nat.zero_le _)
theorem cnt_digs (x : ByteArray) (j : Nat) (h : j ≤ cntD x) : Digs ((L x).drop (x.size - j)) := by
  have hl := cnt_le x
  intro c hc
  obtain ⟨i, hi, rfl⟩ := List.getElem_of_mem hc
  rw [List.length_drop, L_length] at hi
  rw [List.getElem_drop]
  have := cnt_on x (j - 1 - i) (by omega) (by rw [L_length]; omega)
  rwa [show (L x)[x.size - j + i]'(by rw [L_length]; omega) = (L x)[x.size - 1 - (j - 1 - i)]'(by rw [L_length]; omega) from by congr 1; omega]
def numOf (x : ByteArray) : ByteArray × Int × Int × Bool := numD x (x.size - cntD x)
theorem wrap_subB {a b : Nat} (h : b ≤ a) (ha : a ≤ 4611686018427387903) : wrap64 ((a : Int) - (b : Int)) = ((a - b : Nat) : Int) := by unfold wrap64; omega
theorem atoiG_f (b : ByteArray) (h : Digs (L b)) (hne : L b ≠ []) (hl : (L b).length ≤ 6) : strconv_AtoiG.f b = some ((valD (L b) : Int), none) := by
  unfold strconv_AtoiG.f
  have : b.size ≤ 6 := by rw [← L_length]; exact hl
  rw [if_pos (by omega)]
  have e := atoi_digits (L b) h hne (by omega)
  unfold L at e
  rw [e]; rfl
theorem host_Number_done (x : ByteArray) (hs : x.size ≤ 4611686018427387903) (i : Nat) (hi : i ≤ x.size) (h6 : x.size - i ≤ 6) (hd : Digs ((L x).drop i)) :
    (if (i : Int) = 0 then (some (x, (0 : Int), (0 : Int), false)) else (if (i : Int) = (x.size : Int) then (some (x, 0, 0, false)) else (if 0 ≤ (i : Int) then (if (i : Int) ≤ (x.size : Int) then ((strconv_Atoi.f (x.extract (i : Int).toNat x.size)).bind fun bt => (some (x.extract 0 (i : Int).toNat, bt.1, wrap64 ((x.size : Int) - (i : Int)), true))) else (none)) else (none)))) = some (numD x i) := by
  unfold numD
  by_cases h0 : i = 0
  · rw [if_pos (by omega), if_pos (.inl h0)]
  · by_cases h1 : i = x.size
    · rw [if_neg (by omega), if_pos (by omega), if_pos (.inr h1)]
    · have hl : ((L x).drop i).length = x.size - i := by rw [List.length_drop, L_length]
      rw [if_neg (by omega), if_neg (by omega), if_pos (by omega), if_pos (by omega), if_neg (by omega), Int.toNat_natCast, atoi_f _ (by rw [ext_tail]; exact hd) (by rw [ext_tail]; intro h; rw [h] at hl; simp at hl; omega) (by rw [ext_tail]; omega), ext_tail]
      simp only [Option.bind_some]
      rw [wrap_subB hi (by omega)]
theorem host_Number_l0 (x : ByteArray) (hs : x.size ≤ 4611686018427387903) : ∀ (d j : Nat), cntD x - j = d → j ≤ cntD x → Ev (fun k => host_Number.l0 k x ((x.size - j : Nat) : Int)) (numOf x) := by
  have hl := cnt_le x
  intro d
  induction d with
  | zero =>
    intro j hd hj
    obtain rfl : j = cntD x := by omega
    have hdone := host_Number_done x hs (x.size - cntD x) (by omega) (by omega) (cnt_digs x _ (Nat.le_refl _))
    rw [wrap_subB (by omega) hs, show x.size - (x.size - cntD x) = cntD x by omega] at hdone
    refine Ev.shift ⟨0, fun k hk => ?_⟩
    simp only [host_Number.l0]
    by_cases h0 : 0 < x.size - cntD x
    · rw [if_pos (by omega), wrap_subB (by omega) hs, show x.size - (x.size - cntD x) = cntD x by omega]
      by_cases h6 : cntD x < 6
      · have e : wrap64 (((x.size - cntD x : Nat) : Int) - 1) = ((x.size - 1 - cntD x : Nat) : Int) := by unfold wrap64; omega
        have hlt : x.size - 1 - cntD x < (L x).length := by rw [L_length]; omega
        rw [if_pos (by omega), e, if_pos (by omega), if_pos (by omega), bt_L x (x.size - 1 - cntD x) (by omega), digit_f, cnt_off x h6 (by omega) hlt, Option.bind_some, if_neg (by decide)]
        exact hdone
      · rw [if_neg (by omega)]
        exact hdone
    · rw [if_neg (by omega), wrap_subB (by omega) hs, show x.size - (x.size - cntD x) = cntD x by omega]
      exact hdone
  | succ d ih =>
    intro j hd hj
    obtain ⟨K, hK⟩ := ih (j + 1) (by omega) (by omega)
    dsimp only at hK
    have e : wrap64 (((x.size - j : Nat) : Int) - 1) = ((x.size - (j + 1) : Nat) : Int) := by unfold wrap64; omega
    have hlt : x.size - (j + 1) < (L x).length := by rw [L_length]; omega
    have hc := cnt_on x j (by omega) (by rw [L_length]; omega)
    refine Ev.shift ⟨K, fun k hk => ?_⟩
    simp only [host_Number.l0]
    rw [if_pos (by omega), wrap_subB (by omega) hs, if_pos (by omega), e, if_pos (by omega), if_pos (by omega), bt_L x (x.size - (j + 1)) (by omega), digit_f]
    rw [show (L x)[x.size - (j + 1)]'hlt = (L x)[x.size - 1 - j]'(by rw [L_length]; omega) from by congr 1; omega, hc, Option.bind_some, if_pos (by first | rfl | trivial)]
    exact hK k hk
theorem host_Number_ev (x : ByteArray) (hs : x.size ≤ 4611686018427387903) : Ev (fun k => host_Number.f k x) (numOf x) := by
  have h := host_Number_l0 x hs _ 0 rfl (Nat.zero_le _)
  rw [Nat.sub_zero] at h
  exact h
theorem numG_done (x : ByteArray) (hs : x.size ≤ 4611686018427387903) (i : Nat) (hi : i ≤ x.size) (h6 : x.size - i ≤ 6) (hd : Digs ((L x).drop i)) :
    (if (i : Int) = 0 then (some (x, (0 : Int), (0 : Int), false)) else (if (i : Int) = (x.size : Int) then (some (x, 0, 0, false)) else (if 0 ≤ (i : Int) then (if (i : Int) ≤ (x.size : Int) then ((strconv_AtoiG.f (x.extract (i : Int).toNat x.size)).bind fun bt => (some (x.extract 0 (i : Int).toNat, bt.1, wrap64 ((x.size : Int) - (i : Int)), true))) else (none)) else (none)))) = some (numD x i) := by
  unfold numD
  by_cases h0 : i = 0
  · rw [if_pos (by omega), if_pos (.inl h0)]
  · by_cases h1 : i = x.size
    · rw [if_neg (by omega), if_pos (by omega), if_pos (.inr h1)]
    · have hl : ((L x).drop i).length = x.size - i := by rw [List.length_drop, L_length]
      rw [if_neg (by omega), if_neg (by omega), if_pos (by omega), if_pos (by omega), if_neg (by omega), Int.toNat_natCast, atoiG_f _ (by rw [ext_tail]; exact hd) (by rw [ext_tail]; intro h; rw [h] at hl; simp at hl; omega) (by rw [ext_tail]; omega), ext_tail]
      simp only [Option.bind_some]
      rw [wrap_subB hi (by omega)]
theorem numG_l0 (x : ByteArray) (hs : x.size ≤ 4611686018427387903) : ∀ (d j : Nat), cntD x - j = d → j ≤ cntD x → Ev (fun k => numG.l0 k x ((x.size - j : Nat) : Int)) (numOf x) := by
  have hl := cnt_le x
  intro d
  induction d with
  | zero =>
    intro j hd hj
    obtain rfl : j = cntD x := by omega
    have hdone := numG_done x hs (x.size - cntD x) (by omega) (by omega) (cnt_digs x _ (Nat.le_refl _))
    rw [wrap_subB (by omega) hs, show x.size - (x.size - cntD x) = cntD x by omega] at hdone
    refine Ev.shift ⟨0, fun k hk => ?_⟩
    simp only [numG.l0]
    by_cases h0 : 0 < x.size - cntD x
    · rw [if_pos (by omega), wrap_subB (by omega) hs, show x.size - (x.size - cntD x) = cntD x by omega]
      by_cases h6 : cntD x < 6
      · have e : wrap64 (((x.size - cntD x : Nat) : Int) - 1) = ((x.size - 1 - cntD x : Nat) : Int) := by unfold wrap64; omega
        have hlt : x.size - 1 - cntD x < (L x).length := by rw [L_length]; omega
        rw [if_pos (by omega), e, if_pos (by omega), if_pos (by omega), bt_L x (x.size - 1 - cntD x) (by omega), digit_f, cnt_off x h6 (by omega) hlt, Option.bind_some, if_neg (by decide)]
        exact hdone
      · rw [if_neg (by omega)]
        exact hdone
    · rw [if_neg (by omega), wrap_subB (by omega) hs, show x.size - (x.size - cntD x) = cntD x by omega]
      exact hdone
  | succ d ih =>
    intro j hd hj
    obtain ⟨K, hK⟩ := ih (j + 1) (by omega) (by omega)
    dsimp only at hK
    have e : wrap64 (((x.size - j : Nat) : Int) - 1) = ((x.size - (j + 1) : Nat) : Int) := by unfold wrap64; omega
    have hlt : x.size - (j + 1) < (L x).length := by rw [L_length]; omega
    have hc := cnt_on x j (by omega) (by rw [L_length]; omega)
    refine Ev.shift ⟨K, fun k hk => ?_⟩
    simp only [numG.l0]
    rw [if_pos (by omega), wrap_subB (by omega) hs, if_pos (by omega), e, if_pos (by omega), if_pos (by omega), bt_L x (x.size - (j + 1)) (by omega), digit_f]
    rw [show (L x)[x.size - (j + 1)]'hlt = (L x)[x.size - 1 - j]'(by rw [L_length]; omega) from by congr 1; omega, hc, Option.bind_some, if_pos (by first | rfl | trivial)]
    exact hK k hk
theorem numG_ev (x : ByteArray) (hs : x.size ≤ 4611686018427387903) : Ev (fun k => numG.f k x) (numOf x) := by
  have h := numG_l0 x hs _ 0 rfl (Nat.zero_le _)
  rw [Nat.sub_zero] at h
  exact h
theorem rnumN_fin (x : ByteArray) (hs : x.size ≤ 4611686018427387903) : ∃ K, ∀ k, K ≤ k →
    (if (cntD x : Int) = 0 then (some (x, (0 : Int), (0 : Int), false)) else (if (cntD x : Int) = (x.size : Int) then (some (x, 0, 0, false)) else (if 0 ≤ (wrap64 ((x.size : Int) - (cntD x : Int))) then (if (wrap64 ((x.size : Int) - (cntD x : Int))) ≤ (x.size : Int) then ((marlinspikeref05_value.f k (x.extract ((wrap64 ((x.size : Int) - (cntD x : Int))) : Int).toNat x.size)).bind fun t365 => (some (x.extract 0 ((wrap64 ((x.size : Int) - (cntD x : Int))) : Int).toNat, t365, (cntD x : Int), true))) else (none)) else (none)))) = some (numOf x) := by
  have hl := cnt_le x
  unfold numOf numD
  by_cases h0 : cntD x = 0
  · exact ⟨0, fun k _ => by rw [if_pos (by omega), if_pos (.inr (by omega))]⟩
  · by_cases h1 : cntD x = x.size
    · exact ⟨0, fun k _ => by rw [if_neg (by omega), if_pos (by omega), if_pos (.inl (by omega))]⟩
    · have hdg := cnt_digs x _ (Nat.le_refl _)
      have hlen : ((L x).drop (x.size - cntD x)).length = cntD x := by rw [List.length_drop, L_length]; omega
      obtain ⟨K, hK⟩ := rval_ev (x.extract (x.size - cntD x) x.size) (by rw [ext_tail]; exact hdg) (by rw [ext_tail]; omega)
      dsimp only at hK
      rw [ext_tail] at hK
      refine ⟨K, fun k hk => ?_⟩
      rw [if_neg (by omega), if_neg (by omega), wrap_subB (by omega) hs, if_pos (by omega), if_pos (by omega), if_neg (by omega), Int.toNat_natCast, hK k hk, Option.bind_some, show x.size - (x.size - cntD x) = cntD x by omega]
theorem rnumN_l0 (x : ByteArray) (hs : x.size ≤ 4611686018427387903) : ∀ (d j : Nat), cntD x - j = d → j ≤ cntD x → Ev (fun k => marlinspikeref05_Number.l0 k x (j : Int)) (numOf x) := by
  have hl := cnt_le x
  intro d
  induction d with
  | zero =>
    intro j hd hj
    obtain rfl : j = cntD x := by omega
    obtain ⟨K, hK⟩ := rnumN_fin x hs
    refine Ev.shift ⟨K, fun k hk => ?_⟩
    have hdone := hK k hk
    simp only [marlinspikeref05_Number.l0]
    by_cases h6 : cntD x < 6
    · rw [if_pos (by omega)]
      by_cases h1 : cntD x < x.size
      · have e : wrap64 (wrap64 ((x.size : Int) - 1) - (cntD x : Int)) = ((x.size - 1 - cntD x : Nat) : Int) := by unfold wrap64; omega
        have hlt : x.size - 1 - cntD x < (L x).length := by rw [L_length]; omega
        rw [if_pos (by omega), e, if_pos (by omega), if_pos (by omega), bt_L x (x.size - 1 - cntD x) (by omega), rdig_f, cnt_off x h6 (by omega) hlt, Option.bind_some, if_neg (by decide)]
        exact hdone
      · rw [if_neg (by omega)]
        exact hdone
    · rw [if_neg (by omega)]
      exact hdone
  | succ d ih =>
    intro j hd hj
    obtain ⟨K, hK⟩ := ih (j + 1) (by omega) (by omega)
    dsimp only at hK
    have e : wrap64 (wrap64 ((x.size : Int) - 1) - (j : Int)) = ((x.size - 1 - j : Nat) : Int) := by unfold wrap64; omega
    have hlt : x.size - 1 - j < (L x).length := by rw [L_length]; omega
    have hc := cnt_on x j (by omega) hlt
    refine Ev.shift ⟨K, fun k hk => ?_⟩
    simp only [marlinspikeref05_Number.l0]
    rw [if_pos (by omega), if_pos (by omega), e, if_pos (by omega), if_pos (by omega), bt_L x (x.size - 1 - j) (by omega), rdig_f, hc, Option.bind_some, if_pos (by first | rfl | trivial), wrap_nat (by omega)]
    exact hK k hk
theorem rnumber_ev (x : ByteArray) (hs : x.size ≤ 4611686018427387903) : Ev (fun k => marlinspikeref05_Number.f k x) (numOf x) := rnumN_l0 x hs _ 0 rfl (Nat.zero_le _)
end Go.Proofs.YtoammgpfbdcphaaDoor.Hx
end
section
set_option linter.unusedVariables false
set_option linter.unusedSimpArgs false
namespace Go.Proofs.YtoammgpfbdcphaaDoor.Ord
open Go.Sort
structure IsCmp {α : Type} (c : α → α → Int) : Prop where mk ::
  refl : ∀ x, c x x = 0
  anti : ∀ x y, c x y < 0 ↔ 0 < c y x
  trans : ∀ x y z, c x y ≤ 0 → c y z ≤ 0 → c x z ≤ 0
theorem IsCmp.pull {α β : Type} {c : α → α → Int} (h : IsCmp c) (f : β → α) : IsCmp (fun x y => c (f x) (f y)) :=
  ⟨fun x => h.refl _, fun x y => h.anti _ _, fun x y z => h.trans _ _ _⟩
def or2 (u v : Int) : Int := if u ≠ 0 then u else v
theorem or2_cases (u v : Int) : (u ≠ 0 ∧ or2 u v = u) ∨ (u = 0 ∧ or2 u v = v) := by
  unfold or2
  by_cases h : u = 0
  · exact .inr ⟨h, by rw [if_neg (by omega)]⟩
  · exact .inl ⟨h, by rw [if_pos h]⟩
theorem IsCmp.lex {α : Type} {c d : α → α → Int} (hc : IsCmp c) (hd : IsCmp d) : IsCmp (fun x y => or2 (c x y) (d x y)) := by
  refine ⟨fun x => ?_, fun x y => ?_, fun x y z h1 h2 => ?_⟩
  · rcases or2_cases (c x x) (d x x) with ⟨a, b⟩ | ⟨a, b⟩
    · exact absurd (hc.refl x) a
    · rw [b]; exact hd.refl x
  · have a1 := hc.anti x y; have a2 := hc.anti y x; have a3 := hd.anti x y; have a4 := hd.anti y x
    rcases or2_cases (c x y) (d x y) with ⟨a, b⟩ | ⟨a, b⟩ <;> rcases or2_cases (c y x) (d y x) with ⟨a', b'⟩ | ⟨a', b'⟩ <;> rw [b, b'] <;> omega
  · have a1 := hc.anti x y; have a2 := hc.anti y x; have a3 := hc.anti y z; have a4 := hc.anti z y; have a5 := hc.anti x z; have a6 := hc.anti z x
    have t1 := hc.trans x y z; have t2 := hc.trans z x y; have t3 := hc.trans y z x
    have t4 := hd.trans x y z
    rcases or2_cases (c x y) (d x y) with ⟨a, b⟩ | ⟨a, b⟩ <;> rcases or2_cases (c y z) (d y z) with ⟨a', b'⟩ | ⟨a', b'⟩ <;> rcases or2_cases (c x z) (d x z) with ⟨a'', b''⟩ | ⟨a'', b''⟩ <;> rw [b] at h1 <;> rw [b'] at h2 <;> rw [b''] <;> omega
theorem int_cmp : IsCmp Go.Lib.compareInt := by
  refine ⟨fun x => ?_, fun x y => ?_, fun x y z h1 h2 => ?_⟩
  · unfold Go.Lib.compareInt; simp
  · unfold Go.Lib.compareInt; repeat' split
    all_goals omega
  · unfold Go.Lib.compareInt at *; revert h1 h2; repeat' split
    all_goals (intros; omega)
def strC (x y : ByteArray) : Int := if x.data.toList < y.data.toList then -1 else if x.data.toList = y.data.toList then 0 else 1
theorem strC_lt (x y : ByteArray) : strC x y < 0 ↔ x.data.toList < y.data.toList := by
  unfold strC; repeat' split
  all_goals simp_all
theorem strC_eq (x y : ByteArray) : strC x y = 0 ↔ x = y := by
  unfold strC
  constructor
  · intro h
    split at h
    · cases h
    · split at h
      · rename_i e
        have : x.data = y.data := Array.toList_inj.1 e
        cases x; cases y; simp_all
      · cases h
  · rintro rfl
    rw [if_neg (List.lt_irrefl _), if_pos rfl]
theorem str_cmp : IsCmp strC := by
  refine ⟨fun x => (strC_eq x x).2 rfl, fun x y => ?_, fun x y z h1 h2 => ?_⟩
  · rw [strC_lt]
    unfold strC
    constructor
    · intro h
      rw [if_neg (fun h2 => absurd (List.lt_trans h h2) (List.lt_irrefl _)), if_neg (fun e => by rw [e] at h; exact absurd h (List.lt_irrefl _))]
      decide
    · intro h
      split at h
      · exact absurd h (by decide)
      · rename_i h1
        split at h
        · exact absurd h (by decide)
        · rename_i h2
          rcases Decidable.em (x.data.toList < y.data.toList) with h3 | h3
          · exact h3
          · exact absurd (List.le_antisymm (List.not_lt.1 h3) (List.not_lt.1 h1)) h2
  · have key : ∀ a b : ByteArray, strC a b ≤ 0 ↔ a.data.toList ≤ b.data.toList := by
      intro a b
      unfold strC
      by_cases h : a.data.toList < b.data.toList
      · rw [if_pos h]; exact ⟨fun _ => List.le_of_lt h, fun _ => by decide⟩
      · rw [if_neg h]
        by_cases e : a.data.toList = b.data.toList
        · rw [if_pos e, e]; exact ⟨fun _ => List.le_refl _, fun _ => by decide⟩
        · rw [if_neg e]; exact ⟨fun h => absurd h (by decide), fun h2 => absurd (List.le_antisymm h2 (List.not_lt.1 h)) e⟩
    rw [key] at *
    exact List.le_trans h1 h2
theorem IsCmp.swo {α : Type} [Inhabited α] {c : α → α → Int} (h : IsCmp c) : SWO (Go.Proofs.ltOf c) where
  irrefl x := by unfold Go.Proofs.ltOf; rw [h.refl]; rfl
  trans x y z h1 h2 := by
    unfold Go.Proofs.ltOf at *
    have a1 := h.anti x y; have a2 := h.anti y x; have a3 := h.anti y z; have a4 := h.anti z y; have a5 := h.anti x z; have a6 := h.anti z x
    have t1 := h.trans x y z; have t2 := h.trans z x y
    simp only [decide_eq_true_eq] at *
    omega
  ntrans x y z h1 h2 := by
    unfold Go.Proofs.ltOf at *
    have a2 := h.anti y x; have a4 := h.anti z y; have a6 := h.anti z x
    have a1 := h.anti x y; have a3 := h.anti y z; have a5 := h.anti x z
    have t1 := h.trans z y x
    simp only [decide_eq_false_iff_not] at *
    omega
def Up {α : Type} (c : α → α → Int) (l : List α) : Prop := l.Pairwise (fun x y => c x y ≤ 0)
def insL {α : Type} (l : List α) (k : Nat) (x : α) : List α := l.take k ++ x :: l.drop k
theorem insL_perm {α : Type} (l : List α) (k : Nat) (x : α) : (insL l k x).Perm (x :: l) := by
  unfold insL
  exact (List.perm_middle).trans (by rw [List.take_append_drop])
theorem insL_up {α : Type} {c : α → α → Int} (h : IsCmp c) (l : List α) (k : Nat) (x : α) (hk : k ≤ l.length) (hl : Up c l) (h1 : ∀ j (hj : j < l.length), k ≤ j → c x l[j] < 0) (h2 : ∀ (hk0 : k - 1 < l.length), 0 < k → ¬ c x l[k - 1] < 0) : Up c (insL l k x) := by
  unfold insL Up
  rw [List.pairwise_append]
  refine ⟨hl.sublist (List.take_sublist _ _), ?_, ?_⟩
  · rw [List.pairwise_cons]
    refine ⟨fun y hy => ?_, hl.sublist (List.drop_sublist _ _)⟩
    obtain ⟨j, hj, rfl⟩ := List.getElem_of_mem hy
    rw [List.length_drop] at hj
    rw [List.getElem_drop]
    exact Int.le_of_lt (h1 _ (by omega) (by omega))
  · intro a ha b hb
    obtain ⟨j, hj, rfl⟩ := List.getElem_of_mem ha
    rw [List.length_take] at hj
    rw [List.getElem_take]
    have hax : c l[j] x ≤ 0 := by
      have h3 := h2 (by omega) (by omega)
      have a1 := h.anti l[k - 1] x
      have a2 := h.anti x l[k - 1]
      by_cases e : j = k - 1
      · subst e; omega
      · have h4 := List.pairwise_iff_getElem.1 hl j (k - 1) (by omega) (by omega) (by omega)
        exact h.trans _ _ _ h4 (by omega)
    rcases List.mem_cons.1 hb with rfl | hb
    · exact hax
    · obtain ⟨i, hi, rfl⟩ := List.getElem_of_mem hb
      rw [List.length_drop] at hi
      rw [List.getElem_drop]
      exact h.trans _ _ _ hax (Int.le_of_lt (h1 _ (by omega) (by omega)))
theorem up_unique {α : Type} {c : α → α → Int} (h : IsCmp c) (h0 : ∀ x y, c x y = 0 → x = y) {l l' : List α} (hp : l.Perm l') (hl : Up c l) (hl' : Up c l') : l = l' :=
  List.Perm.eq_of_pairwise (le := fun x y => c x y ≤ 0) (fun a b _ _ h1 h2 => h0 a b (by have := h.anti a b; have := h.anti b a; omega)) hl hl' hp
def srt {α : Type} (c : α → α → Int) (l : List α) : List α := l.mergeSort (fun x y => decide (c x y ≤ 0))
theorem srt_perm {α : Type} (c : α → α → Int) (l : List α) : (srt c l).Perm l := List.mergeSort_perm _ _
theorem srt_up {α : Type} {c : α → α → Int} (h : IsCmp c) (l : List α) : Up c (srt c l) := by
  have := List.pairwise_mergeSort (le := fun x y => decide (c x y ≤ 0)) (fun a b c' h1 h2 => by simp only [decide_eq_true_eq] at *; exact h.trans _ _ _ h1 h2) (fun a b => by
    have a1 := h.anti a b; have a2 := h.anti b a
    simp only [Bool.or_eq_true, decide_eq_true_eq]; omega) l
  exact this.imp (fun h => by simpa using h)
theorem srt_lt {α : Type} [Inhabited α] {c : α → α → Int} (h : IsCmp c) (l : List α) : l.mergeSort (fun x y => !(Go.Proofs.ltOf c) y x) = srt c l := by
  unfold srt
  congr 1
  funext x y
  unfold Go.Proofs.ltOf
  have a1 := h.anti x y; have a2 := h.anti y x
  by_cases e : c x y ≤ 0
  · rw [decide_eq_true e, decide_eq_false (show ¬ c y x < 0 by omega)]; rfl
  · rw [decide_eq_false e, decide_eq_true (show c y x < 0 by omega)]; rfl
end Go.Proofs.YtoammgpfbdcphaaDoor.Ord
end
section
namespace Go.Proofs.YtoammgpfbdcphaaDoor.Sr
open Go.RowKit Go.Proofs.YtoammgpfbdcphaaDoor.Lib Go.Proofs.YtoammgpfbdcphaaDoor.PH Go.Proofs.YtoammgpfbdcphaaDoor.Txt Go.Proofs.YtoammgpfbdcphaaDoor.Hx Go.Proofs.YtoammgpfbdcphaaDoor.Ord Go.Proofs.YtoammgpfbdcphaaDoorW.PrintWords Go.Proofs.YtoammgpfbdcphaaDoorW.PrintLast Go.Proofs.YtoammgpfbdcphaaDoorW.PrintMore
set_option linter.unusedVariables false
set_option linter.unusedSimpArgs false
theorem isNaN_s (x : ByteArray) (w : World) : Calls Tryd.prog 54 #[.string x] w fun e w' => e = .returned (.bool false) ∧ w' = w := by
  go_enter Tryd.func54, Tryd.ntmps54
  go_wp2
  go_ret
  exact ⟨by simp, rfl⟩
theorem str_lt (x y : ByteArray) : Go.Op.bytesLess x.toList y.toList = decide (x.data.toList < y.data.toList) := by rw [Go.Proofs.bytesLess_eq, Go.Lib.toList_data, Go.Lib.toList_data]
set_option maxHeartbeats 1000000 in
theorem Compare_s (x y : ByteArray) (w : World) : Calls Tryd.prog 39 #[.string x, .string y] w fun e w' => e = .returned (.int .i64 (strC x y)) ∧ w' = w := by
  unfold strC
  by_cases h : x.data.toList < y.data.toList
  · rw [if_pos h]
    have h1 : Go.Op.bytesLess x.toList y.toList = true := by rw [str_lt]; exact decide_eq_true h
    clear h
    go_enter Tryd.func39, Tryd.ntmps39
    go_wp2_with (go_at_call 54; refine (isNaN_s _ _).mono ?_; rintro e w' ⟨rfl, rfl⟩)
    go_ret
    exact ⟨rfl, rfl⟩
  · rw [if_neg h]
    have h1 : Go.Op.bytesLess x.toList y.toList = false := by rw [str_lt]; exact decide_eq_false h
    by_cases h2 : x.data.toList = y.data.toList
    · rw [if_pos h2]
      have h3 : (x.toList == y.toList) = true := by rw [Go.Lib.toList_data, Go.Lib.toList_data, h2]; exact beq_self_eq_true _
      clear h h2
      go_enter Tryd.func39, Tryd.ntmps39
      go_wp2_with (go_at_call 54; refine (isNaN_s _ _).mono ?_; rintro e w' ⟨rfl, rfl⟩)
      go_ret
      exact ⟨rfl, rfl⟩
    · rw [if_neg h2]
      have h3 : (x.toList == y.toList) = false := by rw [Go.Lib.toList_data, Go.Lib.toList_data]; exact beq_eq_false_iff_ne.mpr h2
      clear h h2
      go_enter Tryd.func39, Tryd.ntmps39
      go_wp2_with (go_at_call 54; refine (isNaN_s _ _).mono ?_; rintro e w' ⟨rfl, rfl⟩)
      go_ret
      exact ⟨rfl, rfl⟩
theorem cell4 {w : World} {b t : Nat} {u v s z : Value} (h : w.heap[b]? = some (.cells #[u, v, s, z] t (0, 0))) : w.cell? ⟨b, 0, none⟩ = some u ∧ w.cell? ⟨b, 1, none⟩ = some v ∧ w.cell? ⟨b, 2, none⟩ = some s ∧ w.cell? ⟨b, 3, none⟩ = some z :=
  ⟨(blk_cell h 0).trans rfl, (blk_cell h 1).trans rfl, (blk_cell h 2).trans rfl, (blk_cell h 3).trans rfl⟩
set_option maxHeartbeats 2000000 in
set_option maxRecDepth 100000 in
theorem Or_calls (u v s z : Int) (b : Nat) (w : World) (h : w.heap[b]? = some (.cells #[.int .i64 u, .int .i64 v, .int .i64 s, .int .i64 z] 3 (0, 0))) :
    Calls Tryd.prog 38 #[.slice (some ⟨b, 0, none⟩) 4 4] w fun e w' => e = .returned (.int .i64 (or2 u (or2 v (or2 s z)))) ∧ w' = w := by
  obtain ⟨c0, c1, c2, c3⟩ := cell4 h
  clear h
  unfold or2
  by_cases hu : u = 0
  · subst hu
    rw [if_neg (by decide)]
    by_cases hv : v = 0
    · subst hv
      rw [if_neg (by decide)]
      by_cases hs : s = 0
      · subst hs
        rw [if_neg (by decide)]
        by_cases hz : z = 0
        · subst hz
          go_enter Tryd.func38, Tryd.ntmps38
          go_wp2
          refine wp_loop_rounds 5 ?_
          repeat any_goals (rw [rounds_succ]; go_wp2)
          go_ret
          exact ⟨rfl, rfl⟩
        · have dz : (z != 0) = true := by simp [hz]
          clear hz
          go_enter Tryd.func38, Tryd.ntmps38
          go_wp2
          refine wp_loop_rounds 5 ?_
          repeat any_goals (rw [rounds_succ]; go_wp2)
          go_ret
          exact ⟨by first | rfl | simp, rfl⟩
      · have ds : (s != 0) = true := by simp [hs]
        rw [if_pos hs]
        clear hs
        go_enter Tryd.func38, Tryd.ntmps38
        go_wp2
        refine wp_loop_rounds 5 ?_
        repeat any_goals (rw [rounds_succ]; go_wp2)
        go_ret
        exact ⟨by first | rfl | simp, rfl⟩
    · have dv : (v != 0) = true := by simp [hv]
      rw [if_pos hv]
      clear hv
      go_enter Tryd.func38, Tryd.ntmps38
      go_wp2
      refine wp_loop_rounds 5 ?_
      repeat any_goals (rw [rounds_succ]; go_wp2)
      go_ret
      exact ⟨by first | rfl | simp, rfl⟩
  · have du : (u != 0) = true := by simp [hu]
    rw [if_pos hu]
    clear hu
    go_enter Tryd.func38, Tryd.ntmps38
    go_wp2
    refine wp_loop_rounds 5 ?_
    repeat any_goals (rw [rounds_succ]; go_wp2)
    go_ret
    exact ⟨by first | rfl | simp, rfl⟩
def keyN (x : ByteArray) : Int := if (numOf x).2.2.2 then (numOf x).2.1 else -1
def keyV (x : ByteArray) : Value := .agg #[.string (numOf x).1, .int .i64 (keyN x), .int .i64 (numOf x).2.2.1, .string x]
set_option maxHeartbeats 2000000 in
set_option maxRecDepth 100000 in
theorem of_calls (x : ByteArray) (hx : x.size ≤ 100000) (w : World) : Calls Tryd.prog 37 #[.string x] w fun e w' => e = .returned (keyV x) ∧ Gr w w' := by
  obtain ⟨k, hk⟩ := (numG_ev x (by omega)).rounds
  unfold keyV keyN
  generalize numOf x = r at hk ⊢
  obtain ⟨p, n, d, ok⟩ := r
  have hu65 := Tryd.underlying65
  cases ok
  · go_enter Tryd.func37, Tryd.ntmps37
    go_wp2_with (go_at_call 15; refine (numG.calls k x p n d false _ hk).mono ?_; rintro e w1 ⟨rfl, hb⟩; have HB := Aside0.mk (gr_step (gr_alloc (Gr.refl w) _) hb); have BK := Aside0.mk (blk_below (blk_new w _) hb.below); obtain ⟨c0, c1, c2, c3⟩ := cell4 BK.out; have f0 := blk_frozen BK.out 0; have f1 := blk_frozen BK.out 1; have f2 := blk_frozen BK.out 2; have f3 := blk_frozen BK.out 3; clear hb)
    refine bodyPost_ret (results_cell_row rfl _ _ w.heap.size 65 #[.string p, .int .i64 (-1), .int .i64 d, .string x] (0, 0) _ rfl (blk_set (blk_set (blk_set (blk_set BK.out 0 _) 1 _) 2 _) 3 _) hu65 rfl (by kernel_rfl)) rfl ?_
    exact ⟨rfl, gr_set (gr_set (gr_set (gr_set HB.out (Nat.le_refl _) _) (Nat.le_refl _) _) (Nat.le_refl _) _) (Nat.le_refl _) _⟩
  · go_enter Tryd.func37, Tryd.ntmps37
    go_wp2_with (go_at_call 15; refine (numG.calls k x p n d true _ hk).mono ?_; rintro e w1 ⟨rfl, hb⟩; have HB := Aside0.mk (gr_step (gr_alloc (Gr.refl w) _) hb); have BK := Aside0.mk (blk_below (blk_new w _) hb.below); obtain ⟨c0, c1, c2, c3⟩ := cell4 BK.out; have f0 := blk_frozen BK.out 0; have f1 := blk_frozen BK.out 1; have f2 := blk_frozen BK.out 2; have f3 := blk_frozen BK.out 3; clear hb)
    refine bodyPost_ret (results_cell_row rfl _ _ w.heap.size 65 #[.string p, .int .i64 (n), .int .i64 d, .string x] (0, 0) _ rfl (blk_set (blk_set (blk_set (blk_set BK.out 0 _) 1 _) 2 _) 3 _) hu65 rfl (by kernel_rfl)) rfl ?_
    exact ⟨rfl, gr_set (gr_set (gr_set (gr_set HB.out (Nat.le_refl _) _) (Nat.le_refl _) _) (Nat.le_refl _) _) (Nat.le_refl _) _⟩
end Go.Proofs.YtoammgpfbdcphaaDoor.Sr
end
