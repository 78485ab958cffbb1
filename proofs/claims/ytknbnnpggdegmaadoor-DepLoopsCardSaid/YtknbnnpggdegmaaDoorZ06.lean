/- Part 6 of the proof. -/
import Derived.Test.YtknbnnpggdegmaaDoorProg
import Derived.Below
import Derived.Deep.Draws
import Derived.Deep.AppendLies
import Derived.Maps.AppendAt
import Derived.OwnWalk
import Derived.Laws.BytesArg
import Derived.Laws.MakeOwn
import Derived.Laws.OwnMore
import Derived.Deep.OwnRows
import Derived.Tactics
import Derived.Lib.ConvBytes
import Derived.Laws.Slices
import Derived.WalkKit
import Derived.KernelRfl
import Derived.RowKit3
import Derived.Deep.LoopGhost
import Derived.Deep.QuietTactic
import Derived.BigQuiet
import Derived.WideLaws
import Derived.Deep.DeepCutAuto
import Derived.Deep.CutBlock
import Derived.Deep.RegionHeld3
import Derived.Laws.Rows
import Derived.Lib.AppendStr
import Derived.ArgAppend
import Derived.Laws.IdiomCopy
import Derived.OrdersHeld
import Derived.Laws.BitsLemmas
import Derived.RowKit
import Derived.Test.YtknbnnpggdegmaaDoorZ04
import Derived.Test.YtknbnnpggdegmaaDoorZ01
import Derived.Test.YtknbnnpggdegmaaDoorZ02
import Derived.Test.YtknbnnpggdegmaaDoorZ05
section
namespace Go.Proofs.YtknbnnpggdegmaaDoor.PL
open Go.RowKit Go.Proofs.YtknbnnpggdegmaaDoor.PD Go.Proofs.YtknbnnpggdegmaaDoor.Lib Go.Proofs.YtknbnnpggdegmaaDoorW.PrintWords Go.Proofs.YtknbnnpggdegmaaDoorW.PrintLast Go.Proofs.YtknbnnpggdegmaaDoorW.PrintMore
attribute [local go_sem] max2_int min2_int max_two min_two max_three min_three max_four min_four   
set_option linter.unusedVariables false
set_option linter.unusedSimpArgs false
def errW : Option Int → Value
 | none => .nilIface
 | some c => .iface 0 (.int .i64 c)
theorem errW_none : errW none = .nilIface:=rfl
theorem errW_some (c : Int) : errW (some c) = .iface 0 (.int .i64 c):=rfl
theorem info3 : (Tryd.prog.info? 3).map (fun i => (i.zero,i.size,i.bytes)) = some (some (.int .i64 0),1,8):=by kernel_rfl
structure S24 where
 f0 : Bool
 f1 : (List S46)
def z24 : S24 := ⟨false, ([] : List S46)⟩
def k24 : Kd S24 := Kd.iso (Kd.pair Kd.bool (Kd.slice 46 k46)) (fun x : S24 => (x.f0, x.f1))
theorem k24_open {w : World} {x : S24} {cs : List Value} (h : k24.K w x cs) : ∃ A1 c1,cs = [.bool x.f0,.slice A1 x.f1.length c1]∧x.f1.length ≤ c1∧k46.C w A1 x.f1.length x.f1:=by
 (obtain ⟨_,_,rfl,rfl,⟨A1,c1,rfl,l1,g1⟩⟩:=h);(exact ⟨A1,c1,rfl,l1,g1⟩)
theorem k24_mk (w : World) (x : S24) {A1 : Option Addr} {c1 : Nat} (l1 : x.f1.length ≤ c1) (g1 : k46.C w A1 x.f1.length x.f1) : k24.K w x [.bool x.f0,.slice A1 x.f1.length c1]:=⟨[.bool x.f0],[.slice A1 x.f1.length c1],rfl,rfl,⟨A1,c1,rfl,l1,g1⟩⟩
structure S62 where
 f0 : Int
 f1 : S24
def z62 : S62 := ⟨(0 : Int), z24⟩
def k62 : Kd S62 := Kd.iso (Kd.pair (Kd.int .i64) k24) (fun x : S62 => (x.f0, x.f1))
theorem k62_open {w : World} {x : S62} {cs : List Value} (h : k62.K w x cs) : ∃ A2 c2,cs = [.int .i64 x.f0,.bool x.f1.f0,.slice A2 x.f1.f1.length c2]∧x.f1.f1.length ≤ c2∧k46.C w A2 x.f1.f1.length x.f1.f1:=by
 (obtain ⟨_,_,rfl,rfl,s1⟩:=h);(obtain ⟨A2,c2,rfl,l2,g2⟩:=k24_open s1);(exact ⟨A2,c2,rfl,l2,g2⟩)
theorem k62_mk (w : World) (x : S62) {A2 : Option Addr} {c2 : Nat} (l2 : x.f1.f1.length ≤ c2) (g2 : k46.C w A2 x.f1.f1.length x.f1.f1) : k62.K w x [.int .i64 x.f0,.bool x.f1.f0,.slice A2 x.f1.f1.length c2]:=⟨[.int .i64 x.f0],[.bool x.f1.f0,.slice A2 x.f1.f1.length c2],rfl,rfl,(k24_mk w x.f1 l2 g2)⟩
def rd_T62 (xs : List S62) (i : Int) : S62 := xs.getD i.toNat z62
theorem at_T62 {w : World} {A : Option Addr} {n : Nat} {xs : List S62} (h : Kd.C k62 w A n xs) (i : Int) (h0 : 0 ≤ i) (h1 : i < n) : ∃ ad A2 c2,A = some ad∧w.cell? (ad.add (i.toNat * 3)) = some (.int .i64 (rd_T62 xs i).f0)∧w.cell? ⟨(ad.add (i.toNat * 3)).block,(ad.add (i.toNat * 3)).off + 1,none⟩ = some (.bool (rd_T62 xs i).f1.f0)∧w.cell? ⟨(ad.add (i.toNat * 3)).block,(ad.add (i.toNat * 3)).off + 2,none⟩ = some (.slice A2 (rd_T62 xs i).f1.f1.length c2)∧(rd_T62 xs i).f1.f1.length ≤ c2∧k46.C w A2 (rd_T62 xs i).f1.f1.length (rd_T62 xs i).f1.f1:=by
 (obtain ⟨ad,c,e,_,hK,hc0⟩:=Kd.C_get h z62 i h0 h1);(have hc : ∀ j u,c[j]? = some u → w.cell? (ad.add (i.toNat * 3 + j)) = some u:=hc0);(obtain ⟨A2,c2,rfl,l2,g2⟩:=k62_open hK);(exact ⟨ad,A2,c2,e,hc 0 _ rfl,by rw [← add_field _ _ 1 (by omega)];exact hc 1 _ rfl,by rw [← add_field _ _ 2 (by omega)];exact hc 2 _ rfl,l2,g2⟩)
theorem marlinspikeref07_Jobs.calls (k : Nat) (a0_0 : Bool) (A0_1 : Option Addr) (c0_1 : Nat) (l0_1 : List (S46)) (r : List Int) (w : World) (hr0_1 : Kd.C k46 w A0_1 l0_1.length l0_1) (hc0_1 : l0_1.length ≤ c0_1) (h : PD.marlinspikeref07_Jobs.f k a0_0 l0_1 = some r) :
  Calls Tryd.prog 22 #[.agg #[.bool a0_0,.slice A0_1 l0_1.length c0_1]] w fun e w' => ∃ v0_ : Value,e = .returned (v0_)∧Kd.R (Kd.int .i64) 3 w' w.heap.size (fun _ => True) v0_ r∧Below w.heap.size w w':=PD.marlinspikeref07_Jobs.walk k a0_0 A0_1 c0_1 l0_1 r w hr0_1 hc0_1 h
end Go.Proofs.YtknbnnpggdegmaaDoor.PL
end
section
namespace Go.Proofs.YtknbnnpggdegmaaDoor.PL
open Go.RowKit Go.Proofs.YtknbnnpggdegmaaDoor.PD Go.Proofs.YtknbnnpggdegmaaDoor.Lib Go.Proofs.YtknbnnpggdegmaaDoorW.PrintWords Go.Proofs.YtknbnnpggdegmaaDoorW.PrintLast Go.Proofs.YtknbnnpggdegmaaDoorW.PrintMore
attribute [local go_sem] max2_int min2_int max_two min_two max_three min_three max_four min_four   
set_option linter.unusedVariables false
set_option linter.unusedSimpArgs false
mutual
def marlinspikeref07_Loop.l0 : Nat → List (S62) → Int → List Int → Int → Option (Bool)
 | 0, _, _, _, _ => none
 | k + 1, x0, x1, x5, x6 => if x6 < (x5.length : Int) then (marlinspikeref07_Loop.l1 k x0 x1 x5 x6 0) else (some false)
def marlinspikeref07_Loop.l1 : Nat → List (S62) → Int → List Int → Int → Int → Option (Bool)
 | 0, _, _, _, _, _ => none
 | k + 1, x0, x1, x5, x6, x7 => if x7 < (x0.length : Int) then (if 0 ≤ x7 then (if 0 ≤ x6 then (if x6 < (x5.length : Int) then (if ((rd_T62 x0 x7).f0) = (rd x5 x6) then ((marlinspikeref07_Jobs.f k ((rd_T62 x0 x7).f1.f0) ((rd_T62 x0 x7).f1.f1)).bind fun t107 => (marlinspikeref07_Loop.l2 k x0 x1 x5 x6 x7 t107 0)) else (marlinspikeref07_Loop.l1 k x0 x1 x5 x6 (wrap64 (x7 + 1)))) else (none)) else (none)) else (none)) else (marlinspikeref07_Loop.l0 k x0 x1 x5 (wrap64 (x6 + 1)))
def marlinspikeref07_Loop.l2 : Nat → List (S62) → Int → List Int → Int → Int → List Int → Int → Option (Bool)
 | 0, _, _, _, _, _, _, _ => none
 | k + 1, x0, x1, x5, x6, x7, x8, x9 => if x9 < (x8.length : Int) then (if 0 ≤ x9 then (if (rd x8 x9) = x1 then (some true) else (marlinspikeref07_Loop.l3 k x0 x1 x5 x6 x7 x8 x9 false 0)) else (none)) else (marlinspikeref07_Loop.l1 k x0 x1 x5 x6 (wrap64 (x7 + 1)))
def marlinspikeref07_Loop.l3 : Nat → List (S62) → Int → List Int → Int → Int → List Int → Int → Bool → Int → Option (Bool)
 | 0, _, _, _, _, _, _, _, _, _ => none
 | k + 1, x0, x1, x5, x6, x7, x8, x9, x10, x11 => if x11 < (x5.length : Int) then (if x10 = true then (marlinspikeref07_Loop.l3 k x0 x1 x5 x6 x7 x8 x9 true (wrap64 (x11 + 1))) else (if 0 ≤ x11 then (if 0 ≤ x9 then (if x9 < (x8.length : Int) then (marlinspikeref07_Loop.l3 k x0 x1 x5 x6 x7 x8 x9 ((rd x5 x11) == (rd x8 x9)) (wrap64 (x11 + 1))) else (none)) else (none)) else (none))) else (if x10 = true then (marlinspikeref07_Loop.l2 k x0 x1 x5 x6 x7 x8 (wrap64 (x9 + 1))) else (if 0 ≤ x9 then (if x9 < (x8.length : Int) then (if x5.length < 17592186044416 then (marlinspikeref07_Loop.l2 k x0 x1 (x5 ++ [rd x8 x9]) x6 x7 x8 (wrap64 (x9 + 1))) else (none)) else (none)) else (none)))
end
def marlinspikeref07_Loop.f (k : Nat) (l0 : List (S62)) (a1 : Int) : Option (Bool) := marlinspikeref07_Loop.l0 k l0 a1 (([a1] : List Int)) 0
set_option maxHeartbeats 8000000 in
set_option maxRecDepth 100000 in
theorem marlinspikeref07_Loop.calls (k : Nat) (A0 : Option Addr) (c0 : Nat) (l0 : List (S62)) (a1 : Int) (r : Bool) (w : World) (hr0 : Kd.C k62 w A0 l0.length l0) (hc0 : l0.length ≤ c0) (h : marlinspikeref07_Loop.f k l0 a1 = some r) :
  Calls Tryd.prog 27 #[.slice A0 l0.length c0,.int .i64 a1] w fun e w' => e = .returned (.bool r)∧Below w.heap.size w w':=by
 (have hu24:=Tryd.underlying24);(have HR0:=Aside0.mk hr0);(have HC0:=Aside0.mk hc0);(clear hr0 hc0);(have HB:=Aside0.mk (Below.refl w.heap.size w));(have H : (marlinspikeref07_Loop.l0 k l0 a1 (([a1] : List Int)) 0) = some r:=h);(clear h);(obtain ⟨y101,hy101⟩ : ∃ y_ : List Int,y_ = (([a1] : List Int)):=⟨_,rfl⟩);(replace H : (marlinspikeref07_Loop.l0 k l0 a1 y101 0) = some r:=by first|(rw [hy101];with_reducible exact H)|(have H2_:=(Option.bind_some _ _).symm.trans H;rw [hy101];with_reducible exact H2_)|(have H2_:=(Option.bind_some _ _).symm.trans H;with_reducible exact H2_)|with_reducible exact H|(rw [hy101];exact H)|exact H);(have Ny101:=Aside0.mk hy101);(clear hy101);(have H':=Aside0.mk H);(clear H);(go_enter Tryd.func27,Tryd.ntmps27);(go_wp2_with (first|((with_reducible refine gate_dst (N:=13) rfl ?_);refine Kd.R_lit (Kd.int .i64) _ 3 ?hg (N:=13) ?hd (xs:=([a1] : List Int)) (inner:=[.int .i64 a1]) (ok:=fun _ => True) (okp:=fun _ => True) ?hr ?hp (fun _ hk => hk) trivial (Below.refl _ _) (Nat.le_refl _) (by simp) ?_;(case hd => rfl);(case hg => rfl);(case hr => first|(go_simp;done)|(go_simp;rfl));(case hp => exact (Reps.one (show Kd.M (Kd.int .i64) _ _ _ a1 [.int .i64 a1] from rfl) (Reps.none _ _)));intro v102 w3 ho4 hb hg_ hnew_;clear hg_ hnew_;(first|rw [← Ny101.out] at ho4|(simp only [Int.reduceToNat] at ho4;rw [← Ny101.out] at ho4));have n0_:=Aside0.mk (Kd.R_lower ho4 (below_size (by repeat (first|(with_reducible first|exact HB.out|apply below_alloc|apply pw_below_drewN|apply below_drew1)|exact HB.out))));have n1_:=Aside0.mk (below_step (by repeat (first|(with_reducible first|exact HB.out|apply below_alloc|apply pw_below_drewN|apply below_drew1)|exact HB.out)) hb);clear HB;have HO103:=n0_;have HB:=n1_;clear n0_ n1_;clear hb ho4)))
 repeat (go_quiet (first|((with_reducible refine gate_dst (N:=13) rfl ?_);refine Kd.R_lit (Kd.int .i64) _ 3 ?hg (N:=13) ?hd (xs:=([a1] : List Int)) (inner:=[.int .i64 a1]) (ok:=fun _ => True) (okp:=fun _ => True) ?hr ?hp (fun _ hk => hk) trivial (Below.refl _ _) (Nat.le_refl _) (by simp) ?_;(case hd => rfl);(case hg => rfl);(case hr => first|(go_simp;done)|(go_simp;rfl));(case hp => exact (Reps.one (show Kd.M (Kd.int .i64) _ _ _ a1 [.int .i64 a1] from rfl) (Reps.none _ _)));intro v102 w3 ho4 hb hg_ hnew_;clear hg_ hnew_;(first|rw [← Ny101.out] at ho4|(simp only [Int.reduceToNat] at ho4;rw [← Ny101.out] at ho4));have n0_:=Aside0.mk (Kd.R_lower ho4 (below_size (by repeat (first|(with_reducible first|exact HB.out|apply below_alloc|apply pw_below_drewN|apply below_drew1)|exact HB.out))));have n1_:=Aside0.mk (below_step (by repeat (first|(with_reducible first|exact HB.out|apply below_alloc|apply pw_below_drewN|apply below_drew1)|exact HB.out)) hb);clear HB;have HO103:=n0_;have HB:=n1_;clear n0_ n1_;clear hb ho4));try go_wp2_with (first|((with_reducible refine gate_dst (N:=13) rfl ?_);refine Kd.R_lit (Kd.int .i64) _ 3 ?hg (N:=13) ?hd (xs:=([a1] : List Int)) (inner:=[.int .i64 a1]) (ok:=fun _ => True) (okp:=fun _ => True) ?hr ?hp (fun _ hk => hk) trivial (Below.refl _ _) (Nat.le_refl _) (by simp) ?_;(case hd => rfl);(case hg => rfl);(case hr => first|(go_simp;done)|(go_simp;rfl));(case hp => exact (Reps.one (show Kd.M (Kd.int .i64) _ _ _ a1 [.int .i64 a1] from rfl) (Reps.none _ _)));intro v102 w3 ho4 hb hg_ hnew_;clear hg_ hnew_;(first|rw [← Ny101.out] at ho4|(simp only [Int.reduceToNat] at ho4;rw [← Ny101.out] at ho4));have n0_:=Aside0.mk (Kd.R_lower ho4 (below_size (by repeat (first|(with_reducible first|exact HB.out|apply below_alloc|apply pw_below_drewN|apply below_drew1)|exact HB.out))));have n1_:=Aside0.mk (below_step (by repeat (first|(with_reducible first|exact HB.out|apply below_alloc|apply pw_below_drewN|apply below_drew1)|exact HB.out)) hb);clear HB;have HO103:=n0_;have HB:=n1_;clear n0_ n1_;clear hb ho4)))
 (go_loopg [5,6] k (fun kq v5 v6 w' => ∃ (x5_1 : List Int) (x6_1 : Int),v6 = .int .i64 x6_1∧Aside0 (marlinspikeref07_Loop.l0 kq l0 a1 x5_1 x6_1 = some r)∧Aside0 (kq ≤ k)∧Aside0 (Kd.R (Kd.int .i64) 3 w' w.heap.size (fun _ => True) v5 x5_1)∧Aside0 (Below w.heap.size w w')))
 case atStart => exact ⟨(y101),(0),(by first|rfl|(simp;done)|(simp [*];done)),H',⟨Nat.le_refl _⟩,⟨by (with_reducible repeat (first|apply Kd.R_alloc|apply Kd.R_drewN|apply Kd.R_drew));exact HO103.out⟩,⟨by repeat (first|(with_reducible first|exact HB.out|apply below_alloc|apply pw_below_drewN|apply below_drew1)|exact HB.out)⟩⟩
 case round =>
  (clear H');(try clear c2);(try clear p2);(obtain ⟨x5_1,x6_1,rfl,HA,HK1,HO_5,HB⟩:=hrel)
  cases gk with
 |zero => exact absurd HA.out (by simp [marlinspikeref07_Loop.l0])
 |succ k1 =>
   (have H:=HA.out);(clear HA);(simp only [marlinspikeref07_Loop.l0] at H);(by_cases c5 : x6_1 < (x5_1.length : Int))
   ·(rw [if_pos c5] at H);(have c5b0 : decide (x6_1 < (x5_1.length : Int)) = true:=decide_eq_true c5);(clear c5);(have H':=Aside0.mk H);(clear H);(obtain ⟨Ao6,co6,eo6⟩:=Kd.R_slice HO_5.out);(subst eo6);(go_wp2)
    repeat (go_quiet (fail);try go_wp2)
    (go_loopg [5,7] k1 (fun kq v5 v7 w' => ∃ (x5_2 : List Int) (x7_2 : Int),v7 = .int .i64 x7_2∧Aside0 (marlinspikeref07_Loop.l1 kq l0 a1 x5_2 x6_1 x7_2 = some r)∧Aside0 (kq ≤ k1)∧Aside0 (Kd.R (Kd.int .i64) 3 w' w.heap.size (fun _ => True) v5 x5_2)∧Aside0 (Below w.heap.size w w')))
    case atStart => exact ⟨(x5_1),(0),(by first|rfl|(simp;done)|(simp [*];done)),H',⟨Nat.le_refl _⟩,⟨by (with_reducible repeat (first|apply Kd.R_alloc|apply Kd.R_drewN|apply Kd.R_drew));exact HO_5.out⟩,⟨by repeat (first|(with_reducible first|exact HB.out|apply below_alloc|apply pw_below_drewN|apply below_drew1)|exact HB.out)⟩⟩
    case round =>
     (clear H');(try clear c2);(try clear p2);(try clear c5);(try clear c5b0);(try clear p2);(obtain ⟨x5_2,x7_2,rfl,HA,HK2,HO_5,HB⟩:=hrel)
     cases gk with
    |zero => exact absurd HA.out (by simp [marlinspikeref07_Loop.l1])
    |succ k2 =>
      (have H:=HA.out);(clear HA);(simp only [marlinspikeref07_Loop.l1] at H);(by_cases c7 : x7_2 < (l0.length : Int))
      ·(rw [if_pos c7] at H);(have c7b0 : decide (x7_2 < (l0.length : Int)) = true:=decide_eq_true c7);(clear c7);(by_cases c8 : 0 ≤ x7_2)
       ·(rw [if_pos c8] at H);(have c8b0 : decide (0 ≤ x7_2) = true:=decide_eq_true c8);(clear c8);(by_cases c9 : 0 ≤ x6_1)
        ·(rw [if_pos c9] at H);(have c9b0 : decide (0 ≤ x6_1) = true:=decide_eq_true c9);(clear c9);(by_cases c10 : x6_1 < (x5_2.length : Int))
         ·(rw [if_pos c10] at H);(have c10b0 : decide (x6_1 < (x5_2.length : Int)) = true:=decide_eq_true c10);(clear c10);(by_cases c11 : ((rd_T62 l0 x7_2).f0) = (rd x5_2 x6_1))
          ·(rw [if_pos c11] at H);(have c11b0 : (((rd_T62 l0 x7_2).f0) == (rd x5_2 x6_1)) = true:=beq_iff_eq.mpr c11);(have c11b1 : (((rd_T62 l0 x7_2).f0) != (rd x5_2 x6_1)) = false:=bne_eq_false_iff_eq.mpr c11);(clear c11);(replace H:=Option.bind_eq_some_iff.mp H);(obtain ⟨t107,A120,H⟩:=H);(replace H : (marlinspikeref07_Loop.l2 k2 l0 a1 x5_2 x6_1 x7_2 t107 0) = some r:=H);(have A12:=Aside0.mk A120);(clear A120);(have H':=Aside0.mk H);(clear H);(have p104 : 0 ≤ (x7_2 : Int):=of_decide_eq_true (by first|(with_reducible assumption)|assumption));(have q104 : x7_2 < (l0.length : Int):=of_decide_eq_true (by first|(with_reducible assumption)|assumption));(obtain ⟨ad104,A104_2,c104_2,e104,hx104_0,hx104_1,hx104_2,hl104_2,hi104_2⟩:=at_T62 HR0.out x7_2 p104 q104)
           cases e104
           (replace hx104_0:=(HB.out.cell (World.block_lt_of_cell? w _ hx104_0)).trans hx104_0);(replace hx104_1:=(HB.out.cell (World.block_lt_of_cell? w _ hx104_1)).trans hx104_1);(replace hx104_2:=(HB.out.cell (World.block_lt_of_cell? w _ hx104_2)).trans hx104_2);(have HR104_2:=Aside0.mk hi104_2);(have HC104_2:=Aside0.mk hl104_2);(clear hi104_2 hl104_2);(replace p104:=eq_true p104);(replace q104:=eq_true q104);(obtain ⟨Ao13,co13,eo13⟩:=Kd.R_slice HO_5.out);(subst eo13);(have p105 : 0 ≤ (x6_1 : Int):=of_decide_eq_true (by first|(with_reducible assumption)|assumption));(have q105 : x6_1 < (x5_2.length : Int):=of_decide_eq_true (by first|(with_reducible assumption)|assumption));(obtain ⟨ad105,e105,hx105_0⟩:=Kd.at_int (Kd.R_reads' HO_5.out).2.2 x6_1 p105 q105)
           cases e105
           (replace p105:=eq_true p105);(replace q105:=eq_true q105);(have p106 : 0 ≤ (x7_2 : Int):=of_decide_eq_true (by first|(with_reducible assumption)|assumption));(have q106 : x7_2 < (l0.length : Int):=of_decide_eq_true (by first|(with_reducible assumption)|assumption));(obtain ⟨ad106,A106_2,c106_2,e106,hx106_0,hx106_1,hx106_2,hl106_2,hi106_2⟩:=at_T62 HR0.out x7_2 p106 q106);(obtain rfl : ad104 = ad106:=(by injection e106));(replace hx106_0:=(HB.out.cell (World.block_lt_of_cell? w _ hx106_0)).trans hx106_0);(replace hx106_1:=(HB.out.cell (World.block_lt_of_cell? w _ hx106_1)).trans hx106_1);(replace hx106_2:=(HB.out.cell (World.block_lt_of_cell? w _ hx106_2)).trans hx106_2);(have HR106_2:=Aside0.mk hi106_2);(have HC106_2:=Aside0.mk hl106_2);(clear hi106_2 hl106_2);(replace p106:=eq_true p106);(replace q106:=eq_true q106);(have ea_:=Option.some.inj (hx104_2.symm.trans hx106_2));(injection ea_ with ea_ en_ ec_);(subst ea_);(subst ec_);(clear en_);(go_wp2_with (first|(go_at_call 22;(with_reducible refine (marlinspikeref07_Jobs.calls k2 ((rd_T62 l0 x7_2).f1.f0) _ _ ((rd_T62 l0 x7_2).f1.f1) t107 _ ?side1 ?side2 A12.out).mono ?_);(case side1 => repeat (first|exact (Kd.C_below HR106_2.out HB.out)|(with_reducible refine Kd.C_alloc ?_ _)|(with_reducible refine Kd.C_drewN ?_ _)|(with_reducible refine Kd.C_drew ?_)));(case side2 => exact HC106_2.out);rintro e w14 ⟨v108,rfl,ho0,hb⟩;have n0_:=Aside0.mk (Kd.R_elder' (by (with_reducible repeat (first|apply Kd.R_alloc|apply Kd.R_drewN|apply Kd.R_drew));exact HO_5.out) (Kd.R_base ho0) hb);have n1_:=Aside0.mk (Kd.R_lower (Kd.R_new' ho0 (Kd.R_lt (by (with_reducible repeat (first|apply Kd.R_alloc|apply Kd.R_drewN|apply Kd.R_drew));exact HO_5.out))) (below_size (by repeat (first|(with_reducible first|exact HB.out|apply below_alloc|apply pw_below_drewN|apply below_drew1)|exact HB.out))));have n2_:=Aside0.mk (below_step (by repeat (first|(with_reducible first|exact HB.out|apply below_alloc|apply pw_below_drewN|apply below_drew1)|exact HB.out)) hb);clear HO_5;clear HB;have HO_5:=n0_;have HO109:=n1_;have HB:=n2_;clear n0_ n1_ n2_;(try clear hb);(try clear hb2);(try clear hk);(try clear hi);(try clear ho0))))
           repeat (go_quiet (first|(go_at_call 22;(with_reducible refine (marlinspikeref07_Jobs.calls k2 ((rd_T62 l0 x7_2).f1.f0) _ _ ((rd_T62 l0 x7_2).f1.f1) t107 _ ?side1 ?side2 A12.out).mono ?_);(case side1 => repeat (first|exact (Kd.C_below HR106_2.out HB.out)|(with_reducible refine Kd.C_alloc ?_ _)|(with_reducible refine Kd.C_drewN ?_ _)|(with_reducible refine Kd.C_drew ?_)));(case side2 => exact HC106_2.out);rintro e w14 ⟨v108,rfl,ho0,hb⟩;have n0_:=Aside0.mk (Kd.R_elder' (by (with_reducible repeat (first|apply Kd.R_alloc|apply Kd.R_drewN|apply Kd.R_drew));exact HO_5.out) (Kd.R_base ho0) hb);have n1_:=Aside0.mk (Kd.R_lower (Kd.R_new' ho0 (Kd.R_lt (by (with_reducible repeat (first|apply Kd.R_alloc|apply Kd.R_drewN|apply Kd.R_drew));exact HO_5.out))) (below_size (by repeat (first|(with_reducible first|exact HB.out|apply below_alloc|apply pw_below_drewN|apply below_drew1)|exact HB.out))));have n2_:=Aside0.mk (below_step (by repeat (first|(with_reducible first|exact HB.out|apply below_alloc|apply pw_below_drewN|apply below_drew1)|exact HB.out)) hb);clear HO_5;clear HB;have HO_5:=n0_;have HO109:=n1_;have HB:=n2_;clear n0_ n1_ n2_;(try clear hb);(try clear hb2);(try clear hk);(try clear hi);(try clear ho0)));try go_wp2_with (first|(go_at_call 22;(with_reducible refine (marlinspikeref07_Jobs.calls k2 ((rd_T62 l0 x7_2).f1.f0) _ _ ((rd_T62 l0 x7_2).f1.f1) t107 _ ?side1 ?side2 A12.out).mono ?_);(case side1 => repeat (first|exact (Kd.C_below HR106_2.out HB.out)|(with_reducible refine Kd.C_alloc ?_ _)|(with_reducible refine Kd.C_drewN ?_ _)|(with_reducible refine Kd.C_drew ?_)));(case side2 => exact HC106_2.out);rintro e w14 ⟨v108,rfl,ho0,hb⟩;have n0_:=Aside0.mk (Kd.R_elder' (by (with_reducible repeat (first|apply Kd.R_alloc|apply Kd.R_drewN|apply Kd.R_drew));exact HO_5.out) (Kd.R_base ho0) hb);have n1_:=Aside0.mk (Kd.R_lower (Kd.R_new' ho0 (Kd.R_lt (by (with_reducible repeat (first|apply Kd.R_alloc|apply Kd.R_drewN|apply Kd.R_drew));exact HO_5.out))) (below_size (by repeat (first|(with_reducible first|exact HB.out|apply below_alloc|apply pw_below_drewN|apply below_drew1)|exact HB.out))));have n2_:=Aside0.mk (below_step (by repeat (first|(with_reducible first|exact HB.out|apply below_alloc|apply pw_below_drewN|apply below_drew1)|exact HB.out)) hb);clear HO_5;clear HB;have HO_5:=n0_;have HO109:=n1_;have HB:=n2_;clear n0_ n1_ n2_;(try clear hb);(try clear hb2);(try clear hk);(try clear hi);(try clear ho0))))
           (go_loopg [5,9] k2 (fun kq v5 v9 w' => ∃ (x5_3 : List Int) (x9_3 : Int),v9 = .int .i64 x9_3∧Aside0 (marlinspikeref07_Loop.l2 kq l0 a1 x5_3 x6_1 x7_2 t107 x9_3 = some r)∧Aside0 (kq ≤ k2)∧Aside0 (Kd.R (Kd.int .i64) 3 w' w.heap.size (fun k_ => some k_ ≠ (v108 : Value).ownBlock) v5 x5_3)∧Aside0 (Kd.R (Kd.int .i64) 3 w' w.heap.size (fun k_ => some k_ ≠ (v5 : Value).ownBlock) v108 t107)∧Aside0 (Below w.heap.size w w')))
           case atStart => exact ⟨(x5_2),(0),(by first|rfl|(simp;done)|(simp [*];done)),H',⟨Nat.le_refl _⟩,⟨by (with_reducible repeat (first|apply Kd.R_alloc|apply Kd.R_drewN|apply Kd.R_drew));exact Kd.R_mono HO_5.out (fun _ hk => hk.2)⟩,⟨by (with_reducible repeat (first|apply Kd.R_alloc|apply Kd.R_drewN|apply Kd.R_drew));exact Kd.R_mono HO109.out (fun _ hk => hk.2)⟩,⟨by repeat (first|(with_reducible first|exact HB.out|apply below_alloc|apply pw_below_drewN|apply below_drew1)|exact HB.out)⟩⟩
           case round =>
            (clear H');(try clear c1);(try clear p1);(try clear q1);(try clear hx1);(try clear c2);(try clear p2);(try clear c5);(try clear c5b0);(try clear c7);(try clear c7b0);(try clear c8);(try clear c8b0);(try clear c9);(try clear c9b0);(try clear c10);(try clear c10b0);(try clear p10);(try clear q10);(try clear hx10);(try clear c11);(try clear c11b0);(try clear c11b1);(try clear hx104_0);(try clear hx104_1);(try clear hx104_2);(try clear hx105_0);(try clear hx106_0);(try clear hx106_1);(try clear hx106_2);(try clear p104);(try clear p105);(try clear p106);(try clear p2);(try clear q104);(try clear q105);(try clear q106);(obtain ⟨x5_3,x9_3,rfl,HA,HK3,HO_5,HO_8,HB⟩:=hrel)
            cases gk with
           |zero => exact absurd HA.out (by simp [marlinspikeref07_Loop.l2])
           |succ k3 =>
             (have H:=HA.out);(clear HA);(simp only [marlinspikeref07_Loop.l2] at H);(by_cases c15 : x9_3 < (t107.length : Int))
             ·(rw [if_pos c15] at H);(have c15b0 : decide (x9_3 < (t107.length : Int)) = true:=decide_eq_true c15);(clear c15);(by_cases c16 : 0 ≤ x9_3)
              ·(rw [if_pos c16] at H);(have c16b0 : decide (0 ≤ x9_3) = true:=decide_eq_true c16);(clear c16);(by_cases c17 : (rd t107 x9_3) = a1)
               ·(rw [if_pos c17] at H);(have c17b0 : ((rd t107 x9_3) == a1) = true:=beq_iff_eq.mpr c17);(have c17b1 : ((rd t107 x9_3) != a1) = false:=bne_eq_false_iff_eq.mpr c17);(clear c17);(obtain rfl:=Option.some.inj H);(obtain ⟨Ao18,co18,eo18⟩:=Kd.R_slice HO_8.out);(subst eo18);(have p110 : 0 ≤ (x9_3 : Int):=of_decide_eq_true (by first|(with_reducible assumption)|assumption));(have q110 : x9_3 < (t107.length : Int):=of_decide_eq_true (by first|(with_reducible assumption)|assumption));(obtain ⟨ad110,e110,hx110_0⟩:=Kd.at_int (Kd.R_reads' HO_8.out).2.2 x9_3 p110 q110)
                cases e110
                (replace p110:=eq_true p110);(replace q110:=eq_true q110);(go_wp2)
                repeat (go_quiet (fail);try go_wp2)
                (go_ret);(exact ⟨by first|rfl|(simp [errW_none,errW_some] <;> rfl)|(simp [*,errW_none,errW_some] <;> rfl),by repeat (first|(with_reducible first|exact HB.out|apply below_alloc|apply pw_below_drewN|apply below_drew1)|exact HB.out)⟩)
               ·(rw [if_neg c17] at H);(have c17b0 : ((rd t107 x9_3) == a1) = false:=beq_eq_false_iff_ne.mpr c17);(have c17b1 : ((rd t107 x9_3) != a1) = true:=bne_iff_ne.mpr c17);(have H':=Aside0.mk H);(clear H);(obtain ⟨Ao19,co19,eo19⟩:=Kd.R_slice HO_8.out);(subst eo19);(have p110 : 0 ≤ (x9_3 : Int):=of_decide_eq_true (by first|(with_reducible assumption)|assumption));(have q110 : x9_3 < (t107.length : Int):=of_decide_eq_true (by first|(with_reducible assumption)|assumption));(obtain ⟨ad110,e110,hx110_0⟩:=Kd.at_int (Kd.R_reads' HO_8.out).2.2 x9_3 p110 q110)
                cases e110
                (replace p110:=eq_true p110);(replace q110:=eq_true q110);(go_wp2)
                repeat (go_quiet (fail);try go_wp2)
                (go_loopg [10,11] k3 (fun kq v10 v11 w' => ∃ (x10_4 : Bool) (x11_4 : Int),v10 = .bool x10_4∧v11 = .int .i64 x11_4∧Aside0 (marlinspikeref07_Loop.l3 kq l0 a1 x5_3 x6_1 x7_2 t107 x9_3 x10_4 x11_4 = some r)∧Aside0 (kq ≤ k3)∧Aside0 (Kd.R (Kd.int .i64) 3 w' w.heap.size (fun k_ => some k_ ≠ ((.slice (some ad110) t107.length co19) : Value).ownBlock) u5 x5_3)∧Aside0 (Kd.R (Kd.int .i64) 3 w' w.heap.size (fun k_ => some k_ ≠ (u5 : Value).ownBlock) (.slice (some ad110) t107.length co19) t107)∧Aside0 (Below w.heap.size w w')))
                case atStart => exact ⟨(false),(0),(by first|rfl|(simp;done)|(simp [*];done)),(by first|rfl|(simp;done)|(simp [*];done)),H',⟨Nat.le_refl _⟩,⟨by (with_reducible repeat (first|apply Kd.R_alloc|apply Kd.R_drewN|apply Kd.R_drew));exact HO_5.out⟩,⟨by (with_reducible repeat (first|apply Kd.R_alloc|apply Kd.R_drewN|apply Kd.R_drew));exact HO_8.out⟩,⟨by repeat (first|(with_reducible first|exact HB.out|apply below_alloc|apply pw_below_drewN|apply below_drew1)|exact HB.out)⟩⟩
                case round =>
                 (clear H');(try clear c1);(try clear p1);(try clear q1);(try clear hx1);(try clear c2);(try clear p2);(try clear c5);(try clear c5b0);(try clear c7);(try clear c7b0);(try clear c8);(try clear c8b0);(try clear c9);(try clear c9b0);(try clear c10);(try clear c10b0);(try clear p10);(try clear q10);(try clear hx10);(try clear c11);(try clear c11b0);(try clear c11b1);(try clear p11);(try clear q11);(try clear hx11);(try clear c15);(try clear c15b0);(try clear c16);(try clear c16b0);(try clear c17);(try clear c17b0);(try clear c17b1);(try clear hx104_0);(try clear hx104_1);(try clear hx104_2);(try clear hx105_0);(try clear hx106_0);(try clear hx106_1);(try clear hx106_2);(try clear hx110_0);(try clear p1);(try clear p10);(try clear p104);(try clear p105);(try clear p106);(try clear p110);(try clear p2);(try clear q1);(try clear q10);(try clear q104);(try clear q105);(try clear q106);(try clear q110);(obtain ⟨x10_4,x11_4,rfl,rfl,HA,HK4,HO_5,HO_8,HB⟩:=hrel)
                 cases gk with
                |zero => exact absurd HA.out (by simp [marlinspikeref07_Loop.l3])
                |succ k4 =>
                  (have H:=HA.out);(clear HA);(simp only [marlinspikeref07_Loop.l3] at H);(by_cases c20 : x11_4 < (x5_3.length : Int))
                  ·(rw [if_pos c20] at H);(have c20b0 : decide (x11_4 < (x5_3.length : Int)) = true:=decide_eq_true c20);(clear c20);(by_cases c21 : x10_4 = true)
                   ·(subst c21);(have H1 : (marlinspikeref07_Loop.l3 k4 l0 a1 x5_3 x6_1 x7_2 t107 x9_3 true (wrap64 (x11_4 + 1))) = some r:=by rw [if_pos rfl] at H;exact H);(clear H);(have H:=H1);(clear H1);(have H':=Aside0.mk H);(clear H);(obtain ⟨Ao22,co22,eo22⟩:=Kd.R_slice HO_5.out);(subst eo22);(go_wp2)
                    repeat (go_quiet (fail);try go_wp2)
                    (go_roundg k4)
                    case measure => have:=HK1.out;have:=HK2.out;have:=HK3.out;have:=HK4.out;omega
                    case rel => exact ⟨(true),(wrap64 (x11_4 + 1)),(by first|rfl|(simp;done)|(simp [*];done)),(by first|rfl|(simp;done)|(simp [*];done)),H',⟨by have:=HK1.out;have:=HK2.out;have:=HK3.out;have:=HK4.out;omega⟩,⟨by (with_reducible repeat (first|apply Kd.R_alloc|apply Kd.R_drewN|apply Kd.R_drew));exact HO_5.out⟩,⟨by (with_reducible repeat (first|apply Kd.R_alloc|apply Kd.R_drewN|apply Kd.R_drew));exact HO_8.out⟩,⟨by repeat (first|(with_reducible first|exact HB.out|apply below_alloc|apply pw_below_drewN|apply below_drew1)|exact HB.out)⟩⟩
                   ·(replace c21:=Bool.eq_false_iff.mpr c21);(subst c21);(have H1 : (if 0 ≤ x11_4 then (if 0 ≤ x9_3 then (if x9_3 < (t107.length : Int) then (marlinspikeref07_Loop.l3 k4 l0 a1 x5_3 x6_1 x7_2 t107 x9_3 ((rd x5_3 x11_4) == (rd t107 x9_3)) (wrap64 (x11_4 + 1))) else (none)) else (none)) else (none)) = some r:=by rw [if_neg (show ¬ (false = true) by decide)] at H;exact H);(clear H);(have H:=H1);(clear H1);(by_cases c23 : 0 ≤ x11_4)
                    ·(rw [if_pos c23] at H);(have c23b0 : decide (0 ≤ x11_4) = true:=decide_eq_true c23);(clear c23);(by_cases c24 : 0 ≤ x9_3)
                     ·(rw [if_pos c24] at H);(have c24b0 : decide (0 ≤ x9_3) = true:=decide_eq_true c24);(clear c24);(by_cases c25 : x9_3 < (t107.length : Int))
                      ·(rw [if_pos c25] at H);(have c25b0 : decide (x9_3 < (t107.length : Int)) = true:=decide_eq_true c25);(clear c25);(have H':=Aside0.mk H);(clear H);(obtain ⟨Ao26,co26,eo26⟩:=Kd.R_slice HO_5.out);(subst eo26);(have p111 : 0 ≤ (x11_4 : Int):=of_decide_eq_true (by first|(with_reducible assumption)|assumption));(have q111 : x11_4 < (x5_3.length : Int):=of_decide_eq_true (by first|(with_reducible assumption)|assumption));(obtain ⟨ad111,e111,hx111_0⟩:=Kd.at_int (Kd.R_reads' HO_5.out).2.2 x11_4 p111 q111)
                       cases e111
                       (replace p111:=eq_true p111);(replace q111:=eq_true q111);(have p112 : 0 ≤ (x9_3 : Int):=of_decide_eq_true (by first|(with_reducible assumption)|assumption));(have q112 : x9_3 < (t107.length : Int):=of_decide_eq_true (by first|(with_reducible assumption)|assumption));(obtain ⟨ad112,e112,hx112_0⟩:=Kd.at_int (Kd.R_reads' HO_8.out).2.2 x9_3 p112 q112);(obtain rfl : ad110 = ad112:=(by injection e112));(replace p112:=eq_true p112);(replace q112:=eq_true q112);(go_wp2)
                       repeat (go_quiet (fail);try go_wp2)
                       (go_roundg k4)
                       case measure => have:=HK1.out;have:=HK2.out;have:=HK3.out;have:=HK4.out;omega
                       case rel => exact ⟨(((rd x5_3 x11_4) == (rd t107 x9_3))),(wrap64 (x11_4 + 1)),(by first|rfl|(simp;done)|(simp [*];done)),(by first|rfl|(simp;done)|(simp [*];done)),H',⟨by have:=HK1.out;have:=HK2.out;have:=HK3.out;have:=HK4.out;omega⟩,⟨by (with_reducible repeat (first|apply Kd.R_alloc|apply Kd.R_drewN|apply Kd.R_drew));exact HO_5.out⟩,⟨by (with_reducible repeat (first|apply Kd.R_alloc|apply Kd.R_drewN|apply Kd.R_drew));exact HO_8.out⟩,⟨by repeat (first|(with_reducible first|exact HB.out|apply below_alloc|apply pw_below_drewN|apply below_drew1)|exact HB.out)⟩⟩
                      ·(rw [if_neg c25] at H);(exact absurd H (by simp))
                     ·(rw [if_neg c24] at H);(exact absurd H (by simp))
                    ·(rw [if_neg c23] at H);(exact absurd H (by simp))
                  ·(rw [if_neg c20] at H);(have c20b0 : decide (x11_4 < (x5_3.length : Int)) = false:=decide_eq_false c20);(clear c20);(by_cases c27 : x10_4 = true)
                   ·(subst c27);(have H1 : (marlinspikeref07_Loop.l2 k4 l0 a1 x5_3 x6_1 x7_2 t107 (wrap64 (x9_3 + 1))) = some r:=by rw [if_pos rfl] at H;exact H);(clear H);(have H:=H1);(clear H1);(have H':=Aside0.mk H);(clear H);(obtain ⟨Ao28,co28,eo28⟩:=Kd.R_slice HO_5.out);(subst eo28);(go_wp2)
                    repeat (go_quiet (fail);try go_wp2)
                    (go_roundg k4)
                    case measure => have:=HK1.out;have:=HK2.out;have:=HK3.out;have:=HK4.out;omega
                    case rel => exact ⟨(x5_3),(wrap64 (x9_3 + 1)),(by first|rfl|(simp;done)|(simp [*];done)),H',⟨by have:=HK1.out;have:=HK2.out;have:=HK3.out;have:=HK4.out;omega⟩,⟨by (with_reducible repeat (first|apply Kd.R_alloc|apply Kd.R_drewN|apply Kd.R_drew));exact HO_5.out⟩,⟨by (with_reducible repeat (first|apply Kd.R_alloc|apply Kd.R_drewN|apply Kd.R_drew));exact HO_8.out⟩,⟨by repeat (first|(with_reducible first|exact HB.out|apply below_alloc|apply pw_below_drewN|apply below_drew1)|exact HB.out)⟩⟩
                   ·(replace c27:=Bool.eq_false_iff.mpr c27);(subst c27);(have H1 : (if 0 ≤ x9_3 then (if x9_3 < (t107.length : Int) then (if x5_3.length < 17592186044416 then (marlinspikeref07_Loop.l2 k4 l0 a1 (x5_3 ++ [rd t107 x9_3]) x6_1 x7_2 t107 (wrap64 (x9_3 + 1))) else (none)) else (none)) else (none)) = some r:=by rw [if_neg (show ¬ (false = true) by decide)] at H;exact H);(clear H);(have H:=H1);(clear H1);(by_cases c29 : 0 ≤ x9_3)
                    ·(rw [if_pos c29] at H);(have c29b0 : decide (0 ≤ x9_3) = true:=decide_eq_true c29);(clear c29);(by_cases c30 : x9_3 < (t107.length : Int))
                     ·(rw [if_pos c30] at H);(have c30b0 : decide (x9_3 < (t107.length : Int)) = true:=decide_eq_true c30);(clear c30);(by_cases c31 : x5_3.length < 17592186044416)
                      ·(rw [if_pos c31] at H);(have LMc31:=Aside0.mk c31);(clear c31);(obtain ⟨y114,hy114⟩ : ∃ y_ : List Int,y_ = (x5_3 ++ [rd t107 x9_3]):=⟨_,rfl⟩);(replace H : (marlinspikeref07_Loop.l2 k4 l0 a1 y114 x6_1 x7_2 t107 (wrap64 (x9_3 + 1))) = some r:=by first|(rw [hy114];with_reducible exact H)|(have H2_:=(Option.bind_some _ _).symm.trans H;rw [hy114];with_reducible exact H2_)|(have H2_:=(Option.bind_some _ _).symm.trans H;with_reducible exact H2_)|with_reducible exact H|(rw [hy114];exact H)|exact H);(have Ny114:=Aside0.mk hy114);(clear hy114);(have H':=Aside0.mk H);(clear H);(obtain ⟨Ao32,co32,eo32⟩:=Kd.R_slice HO_5.out);(subst eo32);(have p113 : 0 ≤ (x9_3 : Int):=of_decide_eq_true (by first|(with_reducible assumption)|assumption));(have q113 : x9_3 < (t107.length : Int):=of_decide_eq_true (by first|(with_reducible assumption)|assumption));(obtain ⟨ad113,e113,hx113_0⟩:=Kd.at_int (Kd.R_reads' HO_8.out).2.2 x9_3 p113 q113);(obtain rfl : ad110 = ad113:=(by injection e113));(replace p113:=eq_true p113);(replace q113:=eq_true q113);(go_wp2_with (first|((with_reducible refine gate_builtin (b:=.append) (xs:=#[.tmp 74,.tmp 79]) rfl ?_);at_builtin;refine Kd.R_append (Kd.int .i64) (w0:=w) w.heap.size rfl (.tmp 74) (.tmp 79) 44 3 (.int .i64 0) 8 rfl Tryd.underlying44 info3 rfl (by decide) (by omega) (.slice Ao32 x5_3.length co32) x5_3 (rd t107 x9_3) [.int .i64 (rd t107 x9_3)] (fun k_ => some k_ ≠ (.slice (some ad110) t107.length co19 : Value).ownBlock) (fun _ => False) rfl rfl ?aP (fun _ hk => hk.elim) ?aF ?aO ?aB ?aS ?aL ?_;(case aP => exact rfl);(case aB => exact (by repeat (first|(with_reducible first|exact HB.out|apply below_alloc|apply pw_below_drewN|apply below_drew1)|exact HB.out)));(case aF => exact (fun k_ hk => Kd.fresh' (Kd.R_lt (by (with_reducible repeat (first|apply Kd.R_alloc|apply Kd.R_drewN|apply Kd.R_drew));exact HO_8.out)) k_ hk));(case aO => exact (by (with_reducible repeat (first|apply Kd.R_alloc|apply Kd.R_drewN|apply Kd.R_drew));exact HO_5.out));(case aS => exact (below_size (by repeat (first|(with_reducible first|exact HB.out|apply below_alloc|apply pw_below_drewN|apply below_drew1)|exact HB.out))));(case aL => have:=LMc31.out;omega);intro v115 w33 ho hb hg hat;rw [← Ny114.out] at ho;have n0_:=Aside0.mk (Kd.R_after (ok:=(fun _ => True)) (by (with_reducible repeat (first|apply Kd.R_alloc|apply Kd.R_drewN|apply Kd.R_drew));exact Kd.R_mono HO_8.out (fun _ hk => ⟨trivial,hk⟩)) hg hat);have n1_:=Aside0.mk (hb);have n2_:=Aside0.mk (ho);clear HO_8;clear HB;clear HO_5;have HO_8:=n0_;have HB:=n1_;have HO116:=n2_;clear n0_ n1_ n2_;clear ho hb hg hat)))
                       repeat (go_quiet (first|((with_reducible refine gate_builtin (b:=.append) (xs:=#[.tmp 74,.tmp 79]) rfl ?_);at_builtin;refine Kd.R_append (Kd.int .i64) (w0:=w) w.heap.size rfl (.tmp 74) (.tmp 79) 44 3 (.int .i64 0) 8 rfl Tryd.underlying44 info3 rfl (by decide) (by omega) (.slice Ao32 x5_3.length co32) x5_3 (rd t107 x9_3) [.int .i64 (rd t107 x9_3)] (fun k_ => some k_ ≠ (.slice (some ad110) t107.length co19 : Value).ownBlock) (fun _ => False) rfl rfl ?aP (fun _ hk => hk.elim) ?aF ?aO ?aB ?aS ?aL ?_;(case aP => exact rfl);(case aB => exact (by repeat (first|(with_reducible first|exact HB.out|apply below_alloc|apply pw_below_drewN|apply below_drew1)|exact HB.out)));(case aF => exact (fun k_ hk => Kd.fresh' (Kd.R_lt (by (with_reducible repeat (first|apply Kd.R_alloc|apply Kd.R_drewN|apply Kd.R_drew));exact HO_8.out)) k_ hk));(case aO => exact (by (with_reducible repeat (first|apply Kd.R_alloc|apply Kd.R_drewN|apply Kd.R_drew));exact HO_5.out));(case aS => exact (below_size (by repeat (first|(with_reducible first|exact HB.out|apply below_alloc|apply pw_below_drewN|apply below_drew1)|exact HB.out))));(case aL => have:=LMc31.out;omega);intro v115 w33 ho hb hg hat;rw [← Ny114.out] at ho;have n0_:=Aside0.mk (Kd.R_after (ok:=(fun _ => True)) (by (with_reducible repeat (first|apply Kd.R_alloc|apply Kd.R_drewN|apply Kd.R_drew));exact Kd.R_mono HO_8.out (fun _ hk => ⟨trivial,hk⟩)) hg hat);have n1_:=Aside0.mk (hb);have n2_:=Aside0.mk (ho);clear HO_8;clear HB;clear HO_5;have HO_8:=n0_;have HB:=n1_;have HO116:=n2_;clear n0_ n1_ n2_;clear ho hb hg hat));try go_wp2_with (first|((with_reducible refine gate_builtin (b:=.append) (xs:=#[.tmp 74,.tmp 79]) rfl ?_);at_builtin;refine Kd.R_append (Kd.int .i64) (w0:=w) w.heap.size rfl (.tmp 74) (.tmp 79) 44 3 (.int .i64 0) 8 rfl Tryd.underlying44 info3 rfl (by decide) (by omega) (.slice Ao32 x5_3.length co32) x5_3 (rd t107 x9_3) [.int .i64 (rd t107 x9_3)] (fun k_ => some k_ ≠ (.slice (some ad110) t107.length co19 : Value).ownBlock) (fun _ => False) rfl rfl ?aP (fun _ hk => hk.elim) ?aF ?aO ?aB ?aS ?aL ?_;(case aP => exact rfl);(case aB => exact (by repeat (first|(with_reducible first|exact HB.out|apply below_alloc|apply pw_below_drewN|apply below_drew1)|exact HB.out)));(case aF => exact (fun k_ hk => Kd.fresh' (Kd.R_lt (by (with_reducible repeat (first|apply Kd.R_alloc|apply Kd.R_drewN|apply Kd.R_drew));exact HO_8.out)) k_ hk));(case aO => exact (by (with_reducible repeat (first|apply Kd.R_alloc|apply Kd.R_drewN|apply Kd.R_drew));exact HO_5.out));(case aS => exact (below_size (by repeat (first|(with_reducible first|exact HB.out|apply below_alloc|apply pw_below_drewN|apply below_drew1)|exact HB.out))));(case aL => have:=LMc31.out;omega);intro v115 w33 ho hb hg hat;rw [← Ny114.out] at ho;have n0_:=Aside0.mk (Kd.R_after (ok:=(fun _ => True)) (by (with_reducible repeat (first|apply Kd.R_alloc|apply Kd.R_drewN|apply Kd.R_drew));exact Kd.R_mono HO_8.out (fun _ hk => ⟨trivial,hk⟩)) hg hat);have n1_:=Aside0.mk (hb);have n2_:=Aside0.mk (ho);clear HO_8;clear HB;clear HO_5;have HO_8:=n0_;have HB:=n1_;have HO116:=n2_;clear n0_ n1_ n2_;clear ho hb hg hat)))
                       (go_roundg k4)
                       case measure => have:=HK1.out;have:=HK2.out;have:=HK3.out;have:=HK4.out;omega
                       case rel => exact ⟨(y114),(wrap64 (x9_3 + 1)),(by first|rfl|(simp;done)|(simp [*];done)),H',⟨by have:=HK1.out;have:=HK2.out;have:=HK3.out;have:=HK4.out;omega⟩,⟨by (with_reducible repeat (first|apply Kd.R_alloc|apply Kd.R_drewN|apply Kd.R_drew));exact HO116.out⟩,⟨by (with_reducible repeat (first|apply Kd.R_alloc|apply Kd.R_drewN|apply Kd.R_drew));exact Kd.R_mono HO_8.out (fun _ hk => hk.2)⟩,⟨by repeat (first|(with_reducible first|exact HB.out|apply below_alloc|apply pw_below_drewN|apply below_drew1)|exact HB.out)⟩⟩
                      ·(rw [if_neg c31] at H);(exact absurd H (by simp))
                     ·(rw [if_neg c30] at H);(exact absurd H (by simp))
                    ·(rw [if_neg c29] at H);(exact absurd H (by simp))
              ·(rw [if_neg c16] at H);(exact absurd H (by simp))
             ·(rw [if_neg c15] at H);(have c15b0 : decide (x9_3 < (t107.length : Int)) = false:=decide_eq_false c15);(clear c15);(have H':=Aside0.mk H);(clear H);(obtain ⟨Ao34,co34,eo34⟩:=Kd.R_slice HO_8.out);(subst eo34);(go_wp2)
              repeat (go_quiet (fail);try go_wp2)
              (go_roundg k3)
              case measure => have:=HK1.out;have:=HK2.out;have:=HK3.out;omega
              case rel => exact ⟨(x5_3),(wrap64 (x7_2 + 1)),(by first|rfl|(simp;done)|(simp [*];done)),H',⟨by have:=HK1.out;have:=HK2.out;have:=HK3.out;omega⟩,⟨by (with_reducible repeat (first|apply Kd.R_alloc|apply Kd.R_drewN|apply Kd.R_drew));exact Kd.R_mono HO_5.out (fun _ hk => trivial)⟩,⟨by repeat (first|(with_reducible first|exact HB.out|apply below_alloc|apply pw_below_drewN|apply below_drew1)|exact HB.out)⟩⟩
          ·(rw [if_neg c11] at H);(have c11b0 : (((rd_T62 l0 x7_2).f0) == (rd x5_2 x6_1)) = false:=beq_eq_false_iff_ne.mpr c11);(have c11b1 : (((rd_T62 l0 x7_2).f0) != (rd x5_2 x6_1)) = true:=bne_iff_ne.mpr c11);(have H':=Aside0.mk H);(clear H);(have p104 : 0 ≤ (x7_2 : Int):=of_decide_eq_true (by first|(with_reducible assumption)|assumption));(have q104 : x7_2 < (l0.length : Int):=of_decide_eq_true (by first|(with_reducible assumption)|assumption));(obtain ⟨ad104,A104_2,c104_2,e104,hx104_0,hx104_1,hx104_2,hl104_2,hi104_2⟩:=at_T62 HR0.out x7_2 p104 q104)
           cases e104
           (replace hx104_0:=(HB.out.cell (World.block_lt_of_cell? w _ hx104_0)).trans hx104_0);(replace hx104_1:=(HB.out.cell (World.block_lt_of_cell? w _ hx104_1)).trans hx104_1);(replace hx104_2:=(HB.out.cell (World.block_lt_of_cell? w _ hx104_2)).trans hx104_2);(have HR104_2:=Aside0.mk hi104_2);(have HC104_2:=Aside0.mk hl104_2);(clear hi104_2 hl104_2);(replace p104:=eq_true p104);(replace q104:=eq_true q104);(obtain ⟨Ao35,co35,eo35⟩:=Kd.R_slice HO_5.out);(subst eo35);(have p105 : 0 ≤ (x6_1 : Int):=of_decide_eq_true (by first|(with_reducible assumption)|assumption));(have q105 : x6_1 < (x5_2.length : Int):=of_decide_eq_true (by first|(with_reducible assumption)|assumption));(obtain ⟨ad105,e105,hx105_0⟩:=Kd.at_int (Kd.R_reads' HO_5.out).2.2 x6_1 p105 q105)
           cases e105
           (replace p105:=eq_true p105);(replace q105:=eq_true q105);(go_wp2)
           repeat (go_quiet (fail);try go_wp2)
           (go_roundg k2)
           case measure => have:=HK1.out;have:=HK2.out;omega
           case rel => exact ⟨(x5_2),(wrap64 (x7_2 + 1)),(by first|rfl|(simp;done)|(simp [*];done)),H',⟨by have:=HK1.out;have:=HK2.out;omega⟩,⟨by (with_reducible repeat (first|apply Kd.R_alloc|apply Kd.R_drewN|apply Kd.R_drew));exact HO_5.out⟩,⟨by repeat (first|(with_reducible first|exact HB.out|apply below_alloc|apply pw_below_drewN|apply below_drew1)|exact HB.out)⟩⟩
         ·(rw [if_neg c10] at H);(exact absurd H (by simp))
        ·(rw [if_neg c9] at H);(exact absurd H (by simp))
       ·(rw [if_neg c8] at H);(exact absurd H (by simp))
      ·(rw [if_neg c7] at H);(have c7b0 : decide (x7_2 < (l0.length : Int)) = false:=decide_eq_false c7);(clear c7);(have H':=Aside0.mk H);(clear H);(go_wp2)
       repeat (go_quiet (fail);try go_wp2)
       (go_roundg k2)
       case measure => have:=HK1.out;have:=HK2.out;omega
       case rel => exact ⟨(x5_2),(wrap64 (x6_1 + 1)),(by first|rfl|(simp;done)|(simp [*];done)),H',⟨by have:=HK1.out;have:=HK2.out;omega⟩,⟨by (with_reducible repeat (first|apply Kd.R_alloc|apply Kd.R_drewN|apply Kd.R_drew));exact HO_5.out⟩,⟨by repeat (first|(with_reducible first|exact HB.out|apply below_alloc|apply pw_below_drewN|apply below_drew1)|exact HB.out)⟩⟩
   ·(rw [if_neg c5] at H);(have c5b0 : decide (x6_1 < (x5_1.length : Int)) = false:=decide_eq_false c5);(clear c5);(obtain rfl:=Option.some.inj H);(obtain ⟨Ao36,co36,eo36⟩:=Kd.R_slice HO_5.out);(subst eo36);(go_wp2)
    repeat (go_quiet (fail);try go_wp2)
    (go_ret);(exact ⟨by first|rfl|(simp [errW_none,errW_some] <;> rfl)|(simp [*,errW_none,errW_some] <;> rfl),by repeat (first|(with_reducible first|exact HB.out|apply below_alloc|apply pw_below_drewN|apply below_drew1)|exact HB.out)⟩)
end Go.Proofs.YtknbnnpggdegmaaDoor.PL
end
section
namespace Go.Proofs.YtknbnnpggdegmaaDoor.Lp
open Go.RowKit Go.Proofs.YtknbnnpggdegmaaDoor.Lib Go.Proofs.YtknbnnpggdegmaaDoorW.PrintWords Go.Proofs.YtknbnnpggdegmaaDoorW.PrintLast Go.Proofs.YtknbnnpggdegmaaDoorW.PrintMore Go.Proofs.YtknbnnpggdegmaaDoor.PD Go.Proofs.YtknbnnpggdegmaaDoor.Mp Go.Proofs.YtknbnnpggdegmaaDoor.Reach
set_option linter.unusedVariables false
set_option linter.unusedSimpArgs false
theorem Ev.shift {α : Type} {g : Nat → Option α} {r : α} (h : Ev (fun k => g (k + 1)) r) : Ev g r := by
  obtain ⟨K, hK⟩ := h
  refine ⟨K + 1, fun k hk => ?_⟩
  obtain ⟨m, rfl⟩ : ∃ m, k = m + 1 := ⟨k - 1, by omega⟩
  exact hK m (by omega)
theorem wrapN1 {p : Nat} (h : p ≤ 4611686018427387904) : wrap64 ((p : Int) + 1) = ((p + 1 : Nat) : Int) := by unfold wrap64; omega
theorem ref_jobs_ev (any : Bool) (l : List S46) (hl : l.length ≤ 60) (hjs : ∀ x ∈ l, x.f1.length ≤ 300) : ∃ K, ∀ k, K ≤ k → marlinspikeref07_Jobs.f k any l = some (sorted (Jb.allJobs l)) := by
  obtain ⟨m, hm⟩ := Jb.ref_l0 any l hl hjs l.length 0 [] (by omega) (by simp)
  refine ⟨m, fun k hk => ?_⟩
  unfold marlinspikeref07_Jobs.f
  have := hm (k - m)
  rw [show ((0 : Nat) : Int) = 0 from rfl, show k - m + m = k by omega] at this
  rw [this, List.drop_zero, Jb.fold_sorted]
def jobsE (e : PL.S62) : List Int := sorted (Jb.allJobs e.f1.f1)
def nbE (ks : List PL.S62) (n : Int) : List Int := (ks.filter (fun e => decide (e.f0 = n))).flatMap jobsE
def FewE (ks : List PL.S62) : Prop := ks.length ≤ 60 ∧ ∀ e ∈ ks, e.f1.f1.length ≤ 60 ∧ ∀ x ∈ e.f1.f1, x.f1.length ≤ 300
theorem rd62 (ks : List PL.S62) (i : Nat) (h : i < ks.length) : PL.rd_T62 ks (i : Int) = ks[i] := by simp [PL.rd_T62, h]
theorem l3_end (ks : List PL.S62) (src : Int) (T ys : List Int) (i kk j : Nat) (hj : j < ys.length) (hy : ys.length ≤ 1000000) (hT : T.length ≤ 4000000) (hnext : List Int) (met : Bool) (r : Bool)
    (h : Ev (fun k => PL.marlinspikeref07_Loop.l2 k ks src (if met = true then T else T ++ [ys[j]]) (i : Int) (kk : Int) ys ((j + 1 : Nat) : Int)) r) : Ev (fun k => PL.marlinspikeref07_Loop.l3 k ks src T (i : Int) (kk : Int) ys (j : Int) met (T.length : Int)) r := by
  obtain ⟨K, hK⟩ := h
  dsimp only at hK
  refine Ev.shift ⟨K, fun k hk => ?_⟩
  have h2 := hK k hk
  simp only [PL.marlinspikeref07_Loop.l3]
  rw [if_neg (by omega)]
  cases met with
  | true => rw [if_pos (by first | rfl | trivial), wrapN1 (by omega)]; rw [if_pos rfl] at h2; exact h2
  | false => rw [if_neg (by decide), if_pos (by omega), if_pos (by omega), if_pos (by omega), wrapN1 (by omega), Jb.rdI ys j hj]; rw [if_neg (by decide)] at h2; exact h2
theorem l3_ev (ks : List PL.S62) (src : Int) (T ys : List Int) (i kk j : Nat) (hj : j < ys.length) (hy : ys.length ≤ 1000000) (hT : T.length ≤ 4000000) (r : Bool) :
    ∀ (d t : Nat) (met : Bool), T.length - t = d → t ≤ T.length → Ev (fun k => PL.marlinspikeref07_Loop.l3 k ks src T (i : Int) (kk : Int) ys (j : Int) (met || decide (ys[j] ∈ T.drop t)) (T.length : Int)) r → Ev (fun k => PL.marlinspikeref07_Loop.l3 k ks src T (i : Int) (kk : Int) ys (j : Int) met (t : Int)) r := by
  intro d
  induction d with
  | zero =>
    intro t met hdt ht h
    obtain rfl : t = T.length := by omega
    rw [List.drop_length] at h
    simpa using h
  | succ d ih =>
    intro t met hdt ht h
    have hlt : t < T.length := by omega
    rw [List.drop_eq_getElem_cons hlt] at h
    generalize hq : T.drop (t + 1) = q at h
    have hnext : Ev (fun k => PL.marlinspikeref07_Loop.l3 k ks src T (i : Int) (kk : Int) ys (j : Int) (met || (T[t] == ys[j])) ((t + 1 : Nat) : Int)) r := by
      refine ih (t + 1) _ (by omega) (by omega) ?_
      have e : ∀ u v : Int, (met || (u == v) || decide (v ∈ q)) = (met || decide (v ∈ u :: q)) := by
        intro u v
        rw [Bool.or_assoc]
        congr 1
        by_cases h2 : u = v
        · simp [h2]
        · have h3 : ¬ v = u := fun h => h2 h.symm
          simp [h2, h3]
      rw [hq, e]; exact h
    obtain ⟨K, hK⟩ := hnext
    dsimp only at hK
    refine Ev.shift ⟨K, fun k hk => ?_⟩
    have h4 := hK k hk
    simp only [PL.marlinspikeref07_Loop.l3]
    rw [if_pos (by omega)]
    cases met with
    | true => rw [if_pos (by first | rfl | trivial), wrapN1 (by omega)]; exact h4
    | false => rw [if_neg (by decide), if_pos (by omega), if_pos (by omega), if_pos (by omega), wrapN1 (by omega), Jb.rdI T t hlt, Jb.rdI ys j hj]; exact h4
theorem l2_ev (ks : List PL.S62) (src : Int) (ys : List Int) (i kk : Nat) (hk60 : kk ≤ 60) (hy : ys.length ≤ 1000000) : ∀ (d j : Nat) (T : List Int), ys.length - j = d → j ≤ ys.length → T.length + d ≤ 4000000 →
    (addAll src (ys.drop j) T = none → Ev (fun k => PL.marlinspikeref07_Loop.l2 k ks src T (i : Int) (kk : Int) ys (j : Int)) true) ∧
    (∀ T', addAll src (ys.drop j) T = some T' → ∀ r, Ev (fun k => PL.marlinspikeref07_Loop.l1 k ks src T' (i : Int) ((kk + 1 : Nat) : Int)) r → Ev (fun k => PL.marlinspikeref07_Loop.l2 k ks src T (i : Int) (kk : Int) ys (j : Int)) r) := by
  intro d
  induction d with
  | zero =>
    intro j T hd hj hT
    obtain rfl : j = ys.length := by omega
    rw [List.drop_length]
    refine ⟨fun h => by simp [addAll] at h, fun T' h r hr => ?_⟩
    simp only [addAll, Option.some.injEq] at h
    subst h
    obtain ⟨K, hK⟩ := hr
    dsimp only at hK
    refine Ev.shift ⟨K, fun k hk => ?_⟩
    simp only [PL.marlinspikeref07_Loop.l2]
    rw [if_neg (by omega), wrapN1 (by omega)]
    exact hK k hk
  | succ d ih =>
    intro j T hd hj hT
    have hlt : j < ys.length := by omega
    rw [List.drop_eq_getElem_cons hlt]
    by_cases hs : ys[j] = src
    · refine ⟨fun _ => Ev.shift ⟨0, fun k hk => ?_⟩, fun T' h => by unfold addAll at h; rw [if_pos hs] at h; cases h⟩
      simp only [PL.marlinspikeref07_Loop.l2]
      rw [if_pos (by omega), if_pos (by omega), Jb.rdI ys j hlt, if_pos hs]
    · have hstep : ∀ r, Ev (fun k => PL.marlinspikeref07_Loop.l2 k ks src (if ys[j] ∈ T then T else T ++ [ys[j]]) (i : Int) (kk : Int) ys ((j + 1 : Nat) : Int)) r → Ev (fun k => PL.marlinspikeref07_Loop.l2 k ks src T (i : Int) (kk : Int) ys (j : Int)) r := by
        intro r hr
        have h1 := l3_ev ks src T ys i kk j hlt hy (by omega) r _ 0 false rfl (Nat.zero_le _) (by
          rw [List.drop_zero, Bool.false_or]
          refine l3_end ks src T ys i kk j hlt hy (by omega) [] _ r ?_
          have e : (if decide (ys[j] ∈ T) = true then T else T ++ [ys[j]]) = (if ys[j] ∈ T then T else T ++ [ys[j]]) := by
            by_cases hm : ys[j] ∈ T <;> simp [hm]
          rw [e]; exact hr)
        obtain ⟨K, hK⟩ := h1
        dsimp only at hK
        refine Ev.shift ⟨K, fun k hk => ?_⟩
        simp only [PL.marlinspikeref07_Loop.l2]
        rw [if_pos (by omega), if_pos (by omega), Jb.rdI ys j hlt, if_neg hs]
        exact hK k hk
      have hlen : (if ys[j] ∈ T then T else T ++ [ys[j]]).length ≤ T.length + 1 := by split <;> simp
      obtain ⟨i1, i2⟩ := ih (j + 1) (if ys[j] ∈ T then T else T ++ [ys[j]]) (by omega) (by omega) (by omega)
      refine ⟨fun h => hstep _ (i1 ?_), fun T' h r hr => hstep _ (i2 T' ?_ r hr)⟩
      · unfold addAll at h; rw [if_neg hs] at h; exact h
      · unfold addAll at h; rw [if_neg hs] at h; exact h
theorem addAll_app (src : Int) : ∀ (a b T : List Int), addAll src (a ++ b) T = (addAll src a T).bind (addAll src b)
  | [], b, T => by simp [addAll]
  | y :: a, b, T => by
    rw [List.cons_append]
    unfold addAll
    by_cases hs : y = src
    · rw [if_pos hs, if_pos hs]; rfl
    · rw [if_neg hs, if_neg hs]; exact addAll_app src a b _
theorem addAll_len (src : Int) : ∀ (ys T T' : List Int), addAll src ys T = some T' → T'.length ≤ T.length + ys.length
  | [], T, T', h => by simp only [addAll, Option.some.injEq] at h; subst h; simp
  | y :: ys, T, T', h => by
    unfold addAll at h
    by_cases hs : y = src
    · rw [if_pos hs] at h; cases h
    · rw [if_neg hs] at h
      have h2 := addAll_len src ys _ T' h
      have hlen : (if y ∈ T then T else T ++ [y]).length ≤ T.length + 1 := by split <;> simp
      simp only [List.length_cons]
      omega
theorem addAll_nodup (src : Int) : ∀ (ys T T' : List Int), addAll src ys T = some T' → T.Nodup → T'.Nodup
  | [], T, T', h, hn => by simp only [addAll, Option.some.injEq] at h; subst h; exact hn
  | y :: ys, T, T', h, hn => by
    unfold addAll at h
    by_cases hs : y = src
    · rw [if_pos hs] at h; cases h
    · rw [if_neg hs] at h
      refine addAll_nodup src ys _ T' h ?_
      split
      · exact hn
      · rename_i hm
        rw [List.nodup_append]
        exact ⟨hn, by simp, fun a ha b hb e => by rw [List.mem_singleton.1 hb] at e; exact hm (e ▸ ha)⟩
theorem all_le (l : List S46) (h : ∀ x ∈ l, x.f1.length ≤ 300) : (Jb.allJobs l).length ≤ l.length * 300 := by
  induction l with
  | nil => simp [Jb.allJobs]
  | cons a l ih =>
    have h1 := ih (fun x hx => h x (List.mem_cons_of_mem _ hx))
    have h2 := h a (by simp)
    unfold Jb.allJobs at h1 ⊢
    rw [List.flatMap_cons, List.length_append, List.length_cons]
    omega
theorem sorted_le (l : List Int) : (sorted l).length ≤ l.length := by
  unfold sorted
  have h1 := Go.Lib.compact_length_le (sortL l)
  have h2 : (sortL l).length = l.length := by simp [sortL]
  omega
theorem jobsE_le (e : PL.S62) (h : e.f1.f1.length ≤ 60 ∧ ∀ x ∈ e.f1.f1, x.f1.length ≤ 300) : (jobsE e).length ≤ 18000 := by
  have h1 := sorted_le (Jb.allJobs e.f1.f1)
  have h2 := all_le e.f1.f1 h.2
  unfold jobsE
  omega
set_option maxRecDepth 100000 in
theorem l1_ev (ks : List PL.S62) (hf : FewE ks) (src n : Int) (i : Nat) : ∀ (d kk : Nat) (T : List Int), ks.length - kk = d → kk ≤ ks.length → T.length + d * 18000 ≤ 4000000 → i < T.length → T[i]? = some n →
    (addAll src (nbE (ks.drop kk) n) T = none → Ev (fun k => PL.marlinspikeref07_Loop.l1 k ks src T (i : Int) (kk : Int)) true) ∧
    (∀ T', addAll src (nbE (ks.drop kk) n) T = some T' → ∀ r, Ev (fun k => PL.marlinspikeref07_Loop.l0 k ks src T' ((i + 1 : Nat) : Int)) r → Ev (fun k => PL.marlinspikeref07_Loop.l1 k ks src T (i : Int) (kk : Int)) r) := by
  have hk60 := hf.1
  intro d
  induction d with
  | zero =>
    intro kk T hd hk hT hi hn
    obtain rfl : kk = ks.length := by omega
    rw [List.drop_length]
    refine ⟨fun h => by simp [nbE, addAll] at h, fun T' h r hr => ?_⟩
    simp only [nbE, List.filter_nil, List.flatMap_nil, addAll, Option.some.injEq] at h
    subst h
    obtain ⟨K, hK⟩ := hr
    dsimp only at hK
    refine Ev.shift ⟨K, fun k hk => ?_⟩
    simp only [PL.marlinspikeref07_Loop.l1]
    rw [if_neg (by omega), wrapN1 (by omega)]
    exact hK k hk
  | succ d ih =>
    intro kk T hd hk hT hi hn
    have hlt : kk < ks.length := by omega
    have hti : T[i] = n := by rw [List.getElem?_eq_getElem hi] at hn; injection hn
    have hfe := hf.2 ks[kk] (List.getElem_mem hlt)
    rw [List.drop_eq_getElem_cons hlt]
    by_cases he : ks[kk].f0 = n
    · have hnb : nbE (ks[kk] :: ks.drop (kk + 1)) n = jobsE ks[kk] ++ nbE (ks.drop (kk + 1)) n := by
        unfold nbE
        rw [List.filter_cons, if_pos (decide_eq_true he), List.flatMap_cons]
      have hjl := jobsE_le ks[kk] hfe
      obtain ⟨kj, hkj⟩ := ref_jobs_ev ks[kk].f1.f0 ks[kk].f1.f1 hfe.1 hfe.2
      have hgo : ∀ r, Ev (fun k => PL.marlinspikeref07_Loop.l2 k ks src T (i : Int) (kk : Int) (jobsE ks[kk]) ((0 : Nat) : Int)) r → Ev (fun k => PL.marlinspikeref07_Loop.l1 k ks src T (i : Int) (kk : Int)) r := by
        intro r hr
        obtain ⟨K, hK⟩ := hr
        dsimp only at hK
        refine Ev.shift ⟨K + kj, fun k hk => ?_⟩
        simp only [PL.marlinspikeref07_Loop.l1]
        rw [if_pos (by omega), if_pos (by omega), if_pos (by omega), if_pos (by omega), rd62 ks kk hlt, Jb.rdI T i hi, hti, if_pos he, hkj k (by omega), Option.bind_some]
        exact hK k (by omega)
      obtain ⟨j1, j2⟩ := l2_ev ks src (jobsE ks[kk]) i kk (by omega) (by omega) _ 0 T rfl (Nat.zero_le _) (by omega)
      rw [List.drop_zero] at j1 j2
      rw [hnb, addAll_app]
      cases ha : addAll src (jobsE ks[kk]) T with
      | none =>
        refine ⟨fun _ => hgo _ (j1 ha), fun T' h => by simp at h⟩
      | some T1 =>
        have hl1 := addAll_len src _ _ _ ha
        obtain ⟨⟨S, hS, _⟩, _⟩ := addAll_some src _ _ _ ha
        obtain ⟨i1, i2⟩ := ih (kk + 1) T1 (by omega) (by omega) (by omega) (by rw [hS, List.length_append]; omega) (by rw [hS, List.getElem?_append_left hi]; exact hn)
        rw [Option.bind_some]
        exact ⟨fun h => hgo _ (j2 T1 ha _ (i1 h)), fun T' h r hr => hgo _ (j2 T1 ha _ (i2 T' h r hr))⟩
    · have hnb : nbE (ks[kk] :: ks.drop (kk + 1)) n = nbE (ks.drop (kk + 1)) n := by
        unfold nbE
        rw [List.filter_cons, if_neg (by simpa using he)]
      obtain ⟨i1, i2⟩ := ih (kk + 1) T (by omega) (by omega) (by omega) hi hn
      rw [hnb]
      have hgo : ∀ r, Ev (fun k => PL.marlinspikeref07_Loop.l1 k ks src T (i : Int) ((kk + 1 : Nat) : Int)) r → Ev (fun k => PL.marlinspikeref07_Loop.l1 k ks src T (i : Int) (kk : Int)) r := by
        intro r hr
        obtain ⟨K, hK⟩ := hr
        dsimp only at hK
        refine Ev.shift ⟨K, fun k hk => ?_⟩
        simp only [PL.marlinspikeref07_Loop.l1]
        rw [if_pos (by omega), if_pos (by omega), if_pos (by omega), if_pos (by omega), rd62 ks kk hlt, Jb.rdI T i hi, hti, if_neg he, wrapN1 (by omega)]
        exact hK k hk
      exact ⟨fun h => hgo _ (i1 h), fun T' h r hr => hgo _ (i2 T' h r hr)⟩
set_option maxRecDepth 100000 in
theorem broad_ev (ks : List PL.S62) (hf : FewE ks) (src : Int) (U : List Int) (hU : ∀ n, ∀ y ∈ nbE ks n, y ∈ U) (hUl : U.length ≤ 2000000) : ∀ (d i : Nat) (T : List Int), U.length + 2 - i = d → i ≤ T.length → T.Nodup → (∀ x ∈ T, x ∈ src :: U) →
    ∃ g q, broad (nbE ks) src g T i = some q ∧ Ev (fun k => PL.marlinspikeref07_Loop.l0 k ks src T (i : Int)) q := by
  intro d
  induction d with
  | zero =>
    intro i T hd hi hn hs
    have := nodup_len T (src :: U) hn hs
    simp only [List.length_cons] at this
    omega
  | succ d ih =>
    intro i T hd hi hn hs
    have htl := nodup_len T (src :: U) hn hs
    simp only [List.length_cons] at htl
    by_cases hlt : i < T.length
    · have hf60 := hf.1
      obtain ⟨j1, j2⟩ := l1_ev ks hf src T[i] i _ 0 T rfl (Nat.zero_le _) (by omega) hlt (List.getElem?_eq_getElem hlt)
      rw [List.drop_zero] at j1 j2
      have hgo : ∀ q, Ev (fun k => PL.marlinspikeref07_Loop.l1 k ks src T (i : Int) ((0 : Nat) : Int)) q → Ev (fun k => PL.marlinspikeref07_Loop.l0 k ks src T (i : Int)) q := by
        intro q hq
        obtain ⟨K, hK⟩ := hq
        dsimp only at hK
        refine Ev.shift ⟨K, fun k hk => ?_⟩
        simp only [PL.marlinspikeref07_Loop.l0]
        rw [if_pos (by omega)]
        exact hK k hk
      cases ha : addAll src (nbE ks T[i]) T with
      | none =>
        refine ⟨1, true, ?_, hgo _ (j1 ha)⟩
        unfold broad
        rw [dif_pos hlt, ha]
      | some T' =>
        obtain ⟨⟨S, hS, hSm⟩, _⟩ := addAll_some src _ _ _ ha
        obtain ⟨g, q, hb, he⟩ := ih (i + 1) T' (by omega) (by rw [hS, List.length_append]; omega) (addAll_nodup src _ _ _ ha hn) (by
          intro x hx
          rw [hS] at hx
          rcases List.mem_append.1 hx with hx | hx
          · exact hs x hx
          · exact List.mem_cons_of_mem src (hU T[i] x (hSm x hx)))
        refine ⟨g + 1, q, ?_, hgo _ (j2 T' ha q he)⟩
        unfold broad
        rw [dif_pos hlt, ha]
        exact hb
    · refine ⟨1, false, ?_, Ev.shift ⟨0, fun k hk => ?_⟩⟩
      · unfold broad
        rw [dif_neg hlt]
      · simp only [PL.marlinspikeref07_Loop.l0]
        rw [if_neg (by omega)]
def allE (ks : List PL.S62) : List Int := ks.flatMap jobsE
theorem nbE_all (ks : List PL.S62) (n : Int) : ∀ y ∈ nbE ks n, y ∈ allE ks := by
  intro y hy
  obtain ⟨e, he, hye⟩ := List.mem_flatMap.1 hy
  exact List.mem_flatMap.2 ⟨e, (List.mem_filter.1 he).1, hye⟩
theorem allE_le (ks : List PL.S62) (hf : FewE ks) : (allE ks).length ≤ 2000000 := by
  have key : ∀ (m : List PL.S62), (∀ e ∈ m, e.f1.f1.length ≤ 60 ∧ ∀ x ∈ e.f1.f1, x.f1.length ≤ 300) → (allE m).length ≤ m.length * 18000 := by
    intro m
    induction m with
    | nil => intro _; simp [allE]
    | cons a m ih =>
      intro hh
      have h1 := ih (fun x hx => hh x (List.mem_cons_of_mem _ hx))
      have h2 := jobsE_le a (hh a (by simp))
      unfold allE at h1 ⊢
      rw [List.flatMap_cons, List.length_append, List.length_cons]
      omega
  have := key ks hf.2
  have := hf.1
  omega
def dsE (cv : S46 → S52) (ks : List PL.S62) (n : Int) : List S52 := ((ks.filter (fun e => decide (e.f0 = n))).flatMap (fun e => e.f1.f1)).map cv
theorem filter_one (ks : List PL.S62) (hn : (ks.map (·.f0)).Nodup) (n : Int) : (ks.filter (fun e => decide (e.f0 = n))).length ≤ 1 := by
  induction ks with
  | nil => simp
  | cons e ks ih =>
    rw [List.map_cons] at hn
    obtain ⟨h1, h2⟩ := List.nodup_cons.1 hn
    rw [List.filter_cons]
    by_cases he : e.f0 = n
    · rw [if_pos (decide_eq_true he)]
      have : ks.filter (fun e => decide (e.f0 = n)) = [] := by
        rw [List.filter_eq_nil_iff]
        intro x hx hc
        have hc2 : x.f0 = n := of_decide_eq_true hc
        exact h1 (by rw [he, ← hc2]; exact List.mem_map_of_mem hx)
      rw [this]; simp
    · rw [if_neg (by simpa using he)]; exact ih h2
theorem nb_same (cv : S46 → S52) (hcv : ∀ x, (cv x).f1 = x.f1) (ks : List PL.S62) (hn : (ks.map (·.f0)).Nodup) : nbOf (dsE cv ks) = nbE ks := by
  funext n
  have h1 := filter_one ks hn n
  unfold nbOf dsE nbE
  generalize ks.filter (fun e => decide (e.f0 = n)) = fs at h1
  have key : ∀ l : List S46, (l.map cv).flatMap (·.f1) = Jb.allJobs l := by
    intro l
    unfold Jb.allJobs
    rw [List.flatMap_map]
    congr 1
    funext x
    exact hcv x
  rw [key]
  cases fs with
  | nil =>
    simp only [List.flatMap_nil]
    unfold sorted sortL Jb.allJobs
    rw [List.flatMap_nil, List.mergeSort_nil]
    rfl
  | cons e fs =>
    cases fs with
    | nil => simp only [List.flatMap_cons, List.flatMap_nil, List.append_nil]; rfl
    | cons e2 fs => simp at h1
theorem loops_same (cv : S46 → S52) (hcv : ∀ x, (cv x).f1 = x.f1) (ks : List PL.S62) (hf : FewE ks) (hn : (ks.map (·.f0)).Nodup) (src : Int) :
    ∃ f r M', deep (nbOf (dsE cv ks)) src f (nbOf (dsE cv ks) src) [] = some (r, M') ∧ Ev (fun k => PL.marlinspikeref07_Loop.f k ks src) r := by
  rw [nb_same cv hcv ks hn]
  obtain ⟨g, q, hb, he⟩ := broad_ev ks hf src (allE ks) (nbE_all ks) (allE_le ks hf) _ 0 [src] rfl (Nat.zero_le _) (by simp) (fun x hx => by rw [List.mem_singleton.1 hx]; simp)
  obtain ⟨⟨r, M'⟩, hd⟩ := deep_start (nbE ks) src (ks.map (·.f0)) (by
    intro x hx
    have : ks.filter (fun e => decide (e.f0 = x)) ≠ [] := fun h => hx (by unfold nbE; rw [h]; rfl)
    obtain ⟨e, he⟩ := List.exists_mem_of_ne_nil _ this
    obtain ⟨h1, h2⟩ := List.mem_filter.1 he
    rw [← of_decide_eq_true h2]
    exact List.mem_map_of_mem h1)
  have := same (nbE ks) src hd hb
  subst this
  exact ⟨_, r, M', hd, he⟩
end Go.Proofs.YtknbnnpggdegmaaDoor.Lp
end
section
namespace Go.Proofs.YtknbnnpggdegmaaDoor.PD
open Go.RowKit Go.Proofs.YtknbnnpggdegmaaDoor.Lib Go.Proofs.YtknbnnpggdegmaaDoorW.PrintWords Go.Proofs.YtknbnnpggdegmaaDoorW.PrintLast Go.Proofs.YtknbnnpggdegmaaDoorW.PrintMore
attribute [local go_sem] max2_int min2_int max_two min_two max_three min_three max_four min_four   
set_option linter.unusedVariables false
set_option linter.unusedSimpArgs false
theorem eqA39 (d : Nat) (w : World) (x0 y0 : Int) (x1 y1 : Int) :
  (Op.equalIn (d + 2) 39 (.agg #[.int .i64 x0,.int .i64 x1]) (.agg #[.int .i64 y0,.int .i64 y1])).run Tryd.prog w = .ok (x0 == y0 && (x1 == y1)) w:=by
 (refine eqA_of Tryd.underlying39 (by kernel_rfl) ?_);(refine eqf_cons (by rfl) (by go_simp;rfl) (by go_simp;rfl) (by go_simp) ?_);(exact eqf_last (by rfl) (by go_simp;rfl) (by go_simp;rfl) (by go_simp))
end Go.Proofs.YtknbnnpggdegmaaDoor.PD
end
section
namespace Go.Proofs.YtknbnnpggdegmaaDoor.PD
open Go.RowKit Go.Proofs.YtknbnnpggdegmaaDoor.Lib Go.Proofs.YtknbnnpggdegmaaDoorW.PrintWords Go.Proofs.YtknbnnpggdegmaaDoorW.PrintLast Go.Proofs.YtknbnnpggdegmaaDoorW.PrintMore
attribute [local go_sem] max2_int min2_int max_two min_two max_three min_three max_four min_four   
set_option linter.unusedVariables false
set_option linter.unusedSimpArgs false
attribute [local go_sem high] eqA39
def dep_word.f (a0 : Int) : Option (ByteArray) := if a0 = 1 then (some (⟨#[97, 102, 116, 101, 114]⟩ : ByteArray)) else (if a0 = 2 then (some (⟨#[97, 102, 116, 101, 114, 111, 107]⟩ : ByteArray)) else (if a0 = 3 then (some (⟨#[97, 102, 116, 101, 114, 110, 111, 116, 111, 107]⟩ : ByteArray)) else (if a0 = 4 then (some (⟨#[97, 102, 116, 101, 114, 97, 110, 121]⟩ : ByteArray)) else (if a0 = 5 then (some (⟨#[115, 105, 110, 103, 108, 101, 116, 111, 110]⟩ : ByteArray)) else (some (⟨#[63]⟩ : ByteArray))))))
set_option maxHeartbeats 8000000 in
set_option maxRecDepth 100000 in
theorem dep_word.calls (a0 : Int) (r : ByteArray) (w : World) (h : dep_word.f a0 = some r) :
  Calls Tryd.prog 34 #[.int .i64 a0] w fun e w' => e = .returned (.string r)∧Drawn0 w w':=by
 (have H : (if a0 = 1 then (some (⟨#[97,102,116,101,114]⟩ : ByteArray)) else (if a0 = 2 then (some (⟨#[97,102,116,101,114,111,107]⟩ : ByteArray)) else (if a0 = 3 then (some (⟨#[97,102,116,101,114,110,111,116,111,107]⟩ : ByteArray)) else (if a0 = 4 then (some (⟨#[97,102,116,101,114,97,110,121]⟩ : ByteArray)) else (if a0 = 5 then (some (⟨#[115,105,110,103,108,101,116,111,110]⟩ : ByteArray)) else (some (⟨#[63]⟩ : ByteArray))))))) = some r:=h);(clear h);(by_cases c2 : a0 = 1);·(rw [if_pos c2] at H);(have c2b0 : (a0 == 1) = true:=beq_iff_eq.mpr c2);(have c2b1 : (a0 != 1) = false:=bne_eq_false_iff_eq.mpr c2);(clear c2);(obtain rfl:=Option.some.inj H);(go_enter Tryd.func34,Tryd.ntmps34);(go_wp2);(go_ret);(exact ⟨by first|rfl|(simp;done)|(simp [*];done),by repeat (first|exact Drawn0.refl _|apply Drawn0.step)⟩)
 ·(rw [if_neg c2] at H);(have c2b0 : (a0 == 1) = false:=beq_eq_false_iff_ne.mpr c2);(have c2b1 : (a0 != 1) = true:=bne_iff_ne.mpr c2);(by_cases c3 : a0 = 2)
  ·(rw [if_pos c3] at H);(have c3b0 : (a0 == 2) = true:=beq_iff_eq.mpr c3);(have c3b1 : (a0 != 2) = false:=bne_eq_false_iff_eq.mpr c3);(clear c3);(obtain rfl:=Option.some.inj H);(go_enter Tryd.func34,Tryd.ntmps34);(go_wp2);(go_ret);(exact ⟨by first|rfl|(simp;done)|(simp [*];done),by repeat (first|exact Drawn0.refl _|apply Drawn0.step)⟩)
  ·(rw [if_neg c3] at H);(have c3b0 : (a0 == 2) = false:=beq_eq_false_iff_ne.mpr c3);(have c3b1 : (a0 != 2) = true:=bne_iff_ne.mpr c3);(by_cases c4 : a0 = 3)
   ·(rw [if_pos c4] at H);(have c4b0 : (a0 == 3) = true:=beq_iff_eq.mpr c4);(have c4b1 : (a0 != 3) = false:=bne_eq_false_iff_eq.mpr c4);(clear c4);(obtain rfl:=Option.some.inj H);(go_enter Tryd.func34,Tryd.ntmps34);(go_wp2);(go_ret);(exact ⟨by first|rfl|(simp;done)|(simp [*];done),by repeat (first|exact Drawn0.refl _|apply Drawn0.step)⟩)
   ·(rw [if_neg c4] at H);(have c4b0 : (a0 == 3) = false:=beq_eq_false_iff_ne.mpr c4);(have c4b1 : (a0 != 3) = true:=bne_iff_ne.mpr c4);(by_cases c5 : a0 = 4)
    ·(rw [if_pos c5] at H);(have c5b0 : (a0 == 4) = true:=beq_iff_eq.mpr c5);(have c5b1 : (a0 != 4) = false:=bne_eq_false_iff_eq.mpr c5);(clear c5);(obtain rfl:=Option.some.inj H);(go_enter Tryd.func34,Tryd.ntmps34);(go_wp2);(go_ret);(exact ⟨by first|rfl|(simp;done)|(simp [*];done),by repeat (first|exact Drawn0.refl _|apply Drawn0.step)⟩)
    ·(rw [if_neg c5] at H);(have c5b0 : (a0 == 4) = false:=beq_eq_false_iff_ne.mpr c5);(have c5b1 : (a0 != 4) = true:=bne_iff_ne.mpr c5);(by_cases c6 : a0 = 5)
     ·(rw [if_pos c6] at H);(have c6b0 : (a0 == 5) = true:=beq_iff_eq.mpr c6);(have c6b1 : (a0 != 5) = false:=bne_eq_false_iff_eq.mpr c6);(clear c6);(obtain rfl:=Option.some.inj H);(go_enter Tryd.func34,Tryd.ntmps34);(go_wp2);(go_ret);(exact ⟨by first|rfl|(simp;done)|(simp [*];done),by repeat (first|exact Drawn0.refl _|apply Drawn0.step)⟩)
     ·(rw [if_neg c6] at H);(have c6b0 : (a0 == 5) = false:=beq_eq_false_iff_ne.mpr c6);(have c6b1 : (a0 != 5) = true:=bne_iff_ne.mpr c6);(obtain rfl:=Option.some.inj H);(go_enter Tryd.func34,Tryd.ntmps34);(go_wp2);(go_ret);(exact ⟨by first|rfl|(simp;done)|(simp [*];done),by repeat (first|exact Drawn0.refl _|apply Drawn0.step)⟩)
mutual
def dep_Format.l0 : Nat → List ByteArray → List (S52) → Int → Int → Bool → List (S52) → Option (ByteArray)
 | 0, _, _, _, _, _, _ => none
 | k + 1, x3, x10, x11, x12, x102000, x102001 => if x12 < x11 then (if 0 ≤ x12 then (if x12 < (x10.length : Int) then ((dep_word.f ((rd_T52 x10 x12).f0)).bind fun t104 => (if ((rd_T52 x10 x12).f0) ≥ 1 then (dep_Format.j1 k x3 t104 x10 x11 x12 (decide (((rd_T52 x10 x12).f0) < 5)) x102000 x102001 ((rd_T52 x10 x12).f0) ((rd_T52 x10 x12).f1)) else (dep_Format.j1 k x3 t104 x10 x11 x12 false x102000 x102001 ((rd_T52 x10 x12).f0) ((rd_T52 x10 x12).f1)))) else (none)) else (none)) else (if x102000 = true then ((strings_Join.f x3 (⟨#[63]⟩ : ByteArray)).bind fun t113 => (some t113)) else ((strings_Join.f x3 (⟨#[44]⟩ : ByteArray)).bind fun t114 => (some t114)))
def dep_Format.j1 : Nat → List ByteArray → ByteArray → List (S52) → Int → Int → Bool → Bool → List (S52) → Int → List Int → Option (ByteArray)
 | 0, _, _, _, _, _, _, _, _, _, _ => none
 | k + 1, x3, x6, x10, x11, x12, x26, x102000, x102001, x104000, x104001 => if x26 = true then (dep_Format.l1 k x3 x6 x10 x11 x12 x104001 (x104001.length : Int) 0 x102000 x102001) else (if x3.length < 8796093022208 then (dep_Format.l0 k (x3 ++ [x6]) x10 x11 (wrap64 (x12 + 1)) x102000 x102001) else (none))
def dep_Format.l1 : Nat → List ByteArray → ByteArray → List (S52) → Int → Int → List Int → Int → Int → Bool → List (S52) → Option (ByteArray)
 | 0, _, _, _, _, _, _, _, _, _, _ => none
 | k + 1, x3, x6, x10, x11, x12, x28, x29, x30, x102000, x102001 => if x30 < x29 then (if 0 ≤ x30 then (if x30 < (x28.length : Int) then (if (rd x28 x30) < 0 then (if x6.size + 3 ≤ 9223372036854775807 then (dep_Format.l1 k x3 (x6 ++ (⟨#[58, 45, 48]⟩ : ByteArray)) x10 x11 x12 x28 x29 (wrap64 (x30 + 1)) x102000 x102001) else (none)) else ((strconv_Itoa.f (rd x28 x30)).bind fun t106 => (if 1 + t106.size ≤ 9223372036854775807 then (if x6.size + ((⟨#[58]⟩ : ByteArray) ++ t106).size ≤ 9223372036854775807 then (dep_Format.l1 k x3 (x6 ++ ((⟨#[58]⟩ : ByteArray) ++ t106)) x10 x11 x12 x28 x29 (wrap64 (x30 + 1)) x102000 x102001) else (none)) else (none)))) else (none)) else (none)) else (if x3.length < 8796093022208 then (dep_Format.l0 k (x3 ++ [x6]) x10 x11 (wrap64 (x12 + 1)) x102000 x102001) else (none))
end
def dep_Format.f (k : Nat) (a0_0 : Bool) (l0_1 : List (S52)) : Option (ByteArray) := dep_Format.l0 k ([] : List ByteArray) l0_1 (l0_1.length : Int) 0 a0_0 l0_1
theorem dep_Format.mono_l : ∀ k,(∀ y0 y1 y2 y3 y4 y5,LeO (dep_Format.l0 k y0 y1 y2 y3 y4 y5) (dep_Format.l0 (k + 1) y0 y1 y2 y3 y4 y5))∧(∀ y0 y1 y2 y3 y4 y5 y6 y7 y8 y9,LeO (dep_Format.j1 k y0 y1 y2 y3 y4 y5 y6 y7 y8 y9) (dep_Format.j1 (k + 1) y0 y1 y2 y3 y4 y5 y6 y7 y8 y9))∧(∀ y0 y1 y2 y3 y4 y5 y6 y7 y8 y9,LeO (dep_Format.l1 k y0 y1 y2 y3 y4 y5 y6 y7 y8 y9) (dep_Format.l1 (k + 1) y0 y1 y2 y3 y4 y5 y6 y7 y8 y9))
|0 => ⟨fun _ _ _ _ _ _ r h => by simp [dep_Format.l0] at h,fun _ _ _ _ _ _ _ _ _ _ r h => by simp [dep_Format.j1] at h,fun _ _ _ _ _ _ _ _ _ _ r h => by simp [dep_Format.l1] at h⟩
|k + 1 => by
  obtain ⟨ih0,ih1,ih2⟩:=dep_Format.mono_l k
  refine ⟨?_,?_,?_⟩
  ·intro y0 y1 y2 y3 y4 y5
   unfold dep_Format.l0
   repeat' first
  |(with_reducible exact ih0 _ _ _ _ _ _)
  |(with_reducible exact ih1 _ _ _ _ _ _ _ _ _ _)
  |(with_reducible exact ih2 _ _ _ _ _ _ _ _ _ _)
  |(with_reducible exact LeO.refl _)
  |(with_reducible exact LeO.none _)
  |(with_reducible refine LeO.ite ?_ ?_)
  |(with_reducible refine LeO.bind ?_ (fun _ => ?_))
  |exact ih0 _ _ _ _ _ _
  |exact ih1 _ _ _ _ _ _ _ _ _ _
  |exact ih2 _ _ _ _ _ _ _ _ _ _
  |exact LeO.none _
  |refine LeO.ite ?_ ?_
  |refine LeO.bind ?_ (fun _ => ?_)
  ·intro y0 y1 y2 y3 y4 y5 y6 y7 y8 y9
   unfold dep_Format.j1
   repeat' first
  |(with_reducible exact ih0 _ _ _ _ _ _)
  |(with_reducible exact ih1 _ _ _ _ _ _ _ _ _ _)
  |(with_reducible exact ih2 _ _ _ _ _ _ _ _ _ _)
  |(with_reducible exact LeO.refl _)
  |(with_reducible exact LeO.none _)
  |(with_reducible refine LeO.ite ?_ ?_)
  |(with_reducible refine LeO.bind ?_ (fun _ => ?_))
  |exact ih0 _ _ _ _ _ _
  |exact ih1 _ _ _ _ _ _ _ _ _ _
  |exact ih2 _ _ _ _ _ _ _ _ _ _
  |exact LeO.none _
  |refine LeO.ite ?_ ?_
  |refine LeO.bind ?_ (fun _ => ?_)
  ·intro y0 y1 y2 y3 y4 y5 y6 y7 y8 y9
   unfold dep_Format.l1
   repeat' first
  |(with_reducible exact ih0 _ _ _ _ _ _)
  |(with_reducible exact ih1 _ _ _ _ _ _ _ _ _ _)
  |(with_reducible exact ih2 _ _ _ _ _ _ _ _ _ _)
  |(with_reducible exact LeO.refl _)
  |(with_reducible exact LeO.none _)
  |(with_reducible refine LeO.ite ?_ ?_)
  |(with_reducible refine LeO.bind ?_ (fun _ => ?_))
  |exact ih0 _ _ _ _ _ _
  |exact ih1 _ _ _ _ _ _ _ _ _ _
  |exact ih2 _ _ _ _ _ _ _ _ _ _
  |exact LeO.none _
  |refine LeO.ite ?_ ?_
  |refine LeO.bind ?_ (fun _ => ?_)
theorem dep_Format.mono : ∀ a0 a1 k,LeO (dep_Format.f k a0 a1) (dep_Format.f (k + 1) a0 a1):=by
 (intro a0 a1 k);(obtain ⟨ih0,ih1,ih2⟩:=dep_Format.mono_l k);(unfold dep_Format.f)
 repeat' first
  |(with_reducible exact ih0 _ _ _ _ _ _)
  |(with_reducible exact ih1 _ _ _ _ _ _ _ _ _ _)
  |(with_reducible exact ih2 _ _ _ _ _ _ _ _ _ _)
  |(with_reducible exact LeO.refl _)
  |(with_reducible exact LeO.none _)
  |(with_reducible refine LeO.ite ?_ ?_)
  |(with_reducible refine LeO.bind ?_ (fun _ => ?_))
  |exact ih0 _ _ _ _ _ _
  |exact ih1 _ _ _ _ _ _ _ _ _ _
  |exact ih2 _ _ _ _ _ _ _ _ _ _
  |exact LeO.none _
  |refine LeO.ite ?_ ?_
  |refine LeO.bind ?_ (fun _ => ?_)
set_option maxHeartbeats 8000000 in
set_option maxRecDepth 100000 in
theorem dep_Format.calls (k : Nat) (a0_0 : Bool) (A0_1 : Option Addr) (c0_1 : Nat) (l0_1 : List (S52)) (r : ByteArray) (w : World) (hr0_1 : Kd.C k52 w A0_1 l0_1.length l0_1) (hc0_1 : l0_1.length ≤ c0_1) (h : dep_Format.f k a0_0 l0_1 = some r) (hG_ : Glob w) :
  Calls Tryd.prog 17 #[.agg #[.bool a0_0,.slice A0_1 l0_1.length c0_1]] w fun e w' => e = .returned (.string r)∧Below w.heap.size w w':=by
 (have HG_:=Aside0.mk hG_);(clear hG_);(have hu31:=Tryd.underlying31);(have hu52:=Tryd.underlying52);(have HR0_1:=Aside0.mk hr0_1);(have HC0_1:=Aside0.mk hc0_1);(clear hr0_1 hc0_1);(have HB:=Aside0.mk (Below.refl w.heap.size w));(have H : (dep_Format.l0 k ([] : List ByteArray) l0_1 (l0_1.length : Int) 0 a0_0 l0_1) = some r:=h);(clear h);(have H':=Aside0.mk H);(clear H);(go_enter Tryd.func17,Tryd.ntmps17);(go_wp2_with (first|((with_reducible refine gate_dst (N:=1) rfl ?_);refine box_event ?hg (N:=1) ?hd (cs:=#[.bool a0_0,.slice A0_1 l0_1.length c0_1]) (t:=31) ?hr ?_;(case hd => rfl);(case hg => rfl);(case hr => first|(go_simp;done)|(go_simp;rfl));intro gb101 hg w2 hbox hb;have n0_:=Aside0.mk (below_step (by repeat (first|(with_reducible first|exact HB.out|apply below_alloc|apply pw_below_drewN|apply below_drew1)|exact HB.out)) hb);have n1_:=Aside0.mk (hbox);have n2_:=Aside0.mk ((by rw [hg];exact (below_size (by repeat (first|(with_reducible first|exact HB.out|apply below_alloc|apply pw_below_drewN|apply below_drew1)|exact HB.out))) : w.heap.size ≤ gb101));have n3_:=Aside0.mk ((by rw [hg];exact (below_size (by repeat (first|(with_reducible first|exact HB.out|apply below_alloc|apply pw_below_drewN|apply below_drew1)|exact HB.out))) : w.heap.size ≤ gb101));clear HB;have HB:=n0_;have BK101:=n1_;have GW101:=n2_;have GE101:=n3_;clear n0_ n1_ n2_ n3_;clear hb hbox hg;have hcz3_0 : w2.cell? ⟨gb101,0,none⟩ = some (.bool a0_0):=(blk_cell BK101.out 0).trans rfl;have hcz3_1 : w2.cell? ⟨gb101,1,none⟩ = some (.slice A0_1 l0_1.length c0_1):=(blk_cell BK101.out 1).trans rfl;have hfz3_0:=blk_frozen BK101.out 0;have hfz3_1:=blk_frozen BK101.out 1)));(go_loopg [3,12] k (fun kq v3 v12 w' => ∃ (x3_1 : List ByteArray) (x12_1 : Int),v12 = .int .i64 x12_1∧Aside0 (dep_Format.l0 kq x3_1 l0_1 (l0_1.length : Int) x12_1 a0_0 l0_1 = some r)∧Aside0 (kq ≤ k)∧Aside0 (Kd.R Kd.string 9 w' w.heap.size (fun _ => True) v3 x3_1)∧Aside0 (w'.heap[gb101]? = some (.cells #[.bool a0_0,(.slice A0_1 l0_1.length c0_1)] 31 (0,0)))∧Aside0 (Below w.heap.size w w')))
 case atStart => exact ⟨(([] : List ByteArray)),(0),(by first|rfl|(simp;done)|(simp [*];done)),H',⟨Nat.le_refl _⟩,⟨by first|exact Kd.R_nil _ _ _ _ _|exact Kd.N_nil _ _ _ _ _|exact Kd.V_nil _ _ _ _ _|exact Kd.Q_nil _ _ _ _ _|exact Kd.S_nil _ _ _ _ _⟩,⟨by (with_reducible repeat (first|refine blk_drewN ?_ _|refine blk_drew ?_|refine blk_alloc ?_ _));exact BK101.out⟩,⟨by repeat (first|(with_reducible first|exact HB.out|apply below_alloc|apply pw_below_drewN|apply below_drew1|refine below_set ?_ GE101.out)|exact HB.out)⟩⟩
 case round =>
  (clear H');(try clear c1);(try clear p2);(try clear hcz3_0);(try clear hcz3_1);(try clear hfz3_0);(try clear hfz3_1);(obtain ⟨x3_1,x12_1,rfl,HA,HK1,HO_3,BK101,HB⟩:=hrel)
  cases gk with
 |zero => exact absurd HA.out (by simp [dep_Format.l0])
 |succ k1 =>
   (have H:=HA.out);(clear HA);(simp only [dep_Format.l0] at H);(by_cases c4 : x12_1 < (l0_1.length : Int))
   ·(rw [if_pos c4] at H);(have c4b0 : decide (x12_1 < (l0_1.length : Int)) = true:=decide_eq_true c4);(clear c4);(by_cases c5 : 0 ≤ x12_1)
    ·(rw [if_pos c5] at H);(have c5b0 : decide (0 ≤ x12_1) = true:=decide_eq_true c5);(clear c5);(by_cases c6 : x12_1 < (l0_1.length : Int))
     ·(rw [if_pos c6] at H);(have c6b0 : decide (x12_1 < (l0_1.length : Int)) = true:=decide_eq_true c6);(clear c6);(replace H:=Option.bind_eq_some_iff.mp H);(obtain ⟨t104,A70,H⟩:=H);(replace H : (if ((rd_T52 l0_1 x12_1).f0) ≥ 1 then (dep_Format.j1 k1 x3_1 t104 l0_1 (l0_1.length : Int) x12_1 (decide (((rd_T52 l0_1 x12_1).f0) < 5)) a0_0 l0_1 ((rd_T52 l0_1 x12_1).f0) ((rd_T52 l0_1 x12_1).f1)) else (dep_Format.j1 k1 x3_1 t104 l0_1 (l0_1.length : Int) x12_1 false a0_0 l0_1 ((rd_T52 l0_1 x12_1).f0) ((rd_T52 l0_1 x12_1).f1))) = some r:=H);(have A7:=Aside0.mk A70);(clear A70);(have HC8:=Aside0.mk H);(clear H);(have p102 : 0 ≤ (x12_1 : Int):=of_decide_eq_true (by first|(with_reducible assumption)|assumption));(have q102 : x12_1 < (l0_1.length : Int):=of_decide_eq_true (by first|(with_reducible assumption)|assumption));(obtain ⟨ad102,A102_1,c102_1,e102,hx102_0,hx102_1,hl102_1,hi102_1⟩:=at_T52 HR0_1.out x12_1 p102 q102)
      cases e102
      (replace hx102_0:=(HB.out.cell (World.block_lt_of_cell? w _ hx102_0)).trans hx102_0);(replace hx102_1:=(HB.out.cell (World.block_lt_of_cell? w _ hx102_1)).trans hx102_1);(have HR102_1:=Aside0.mk hi102_1);(have HC102_1:=Aside0.mk hl102_1);(clear hi102_1 hl102_1);(replace p102:=eq_true p102);(replace q102:=eq_true q102);(go_upto_region 6 with (first|((with_reducible refine gate_dst (N:=5) rfl ?_);refine box_event ?hg (N:=5) ?hd (cs:=#[.int .i64 0,.slice none 0 0]) (t:=52) ?hr ?_;(case hd => rfl);(case hg => rfl);(case hr => first|(go_simp;done)|(go_simp;rfl));intro gb103 hg w9 hbox hb;have n0_:=Aside0.mk (Kd.R_below (by (with_reducible repeat (first|apply Kd.R_alloc|apply Kd.R_drewN|apply Kd.R_drew));exact HO_3.out) hb);have n1_:=Aside0.mk (blk_below (g:=gb101) (o:=.cells #[.bool a0_0,.slice (some ad102) l0_1.length c0_1] 31 (0,0)) (by (with_reducible repeat (first|refine blk_drewN ?_ _|refine blk_drew ?_|refine blk_alloc ?_ _));exact BK101.out) hb);have n2_:=Aside0.mk (below_step (by repeat (first|(with_reducible first|exact HB.out|apply below_alloc|apply pw_below_drewN|apply below_drew1|refine below_set ?_ GE101.out)|exact HB.out)) hb);have n3_:=Aside0.mk (hbox);have n4_:=Aside0.mk ((by rw [hg];exact (below_size (by repeat (first|(with_reducible first|exact HB.out|apply below_alloc|apply pw_below_drewN|apply below_drew1|refine below_set ?_ GE101.out)|exact HB.out))) : w.heap.size ≤ gb103));have n5_:=Aside0.mk ((by rw [hg];exact (below_size (by repeat (first|(with_reducible first|exact HB.out|apply below_alloc|apply pw_below_drewN|apply below_drew1|refine below_set ?_ GE101.out)|exact HB.out))) : w.heap.size ≤ gb103));have n6_:=Aside0.mk ((by rw [hg];exact Nat.ne_of_lt (blk_lt (g:=gb101) (o:=.cells #[.bool a0_0,.slice (some ad102) l0_1.length c0_1] 31 (0,0)) (by (with_reducible repeat (first|refine blk_drewN ?_ _|refine blk_drew ?_|refine blk_alloc ?_ _));exact BK101.out)) : gb101 ≠ gb103));have n7_:=Aside0.mk ((by rw [hg];exact Nat.ne_of_gt (blk_lt (g:=gb101) (o:=.cells #[.bool a0_0,.slice (some ad102) l0_1.length c0_1] 31 (0,0)) (by (with_reducible repeat (first|refine blk_drewN ?_ _|refine blk_drew ?_|refine blk_alloc ?_ _));exact BK101.out)) : gb103 ≠ gb101));clear HO_3;clear BK101;clear HB;have HO_3:=n0_;have BK101:=n1_;have HB:=n2_;have BK103:=n3_;have GW103:=n4_;have GE103:=n5_;have NB101_103:=n6_;have NB103_101:=n7_;clear n0_ n1_ n2_ n3_ n4_ n5_ n6_ n7_;clear hb hbox hg;have hnb10:=NB103_101.out;have hnc10:=NB101_103.out;have hcz11_0 : w9.cell? ⟨gb103,0,none⟩ = some (.int .i64 0):=(blk_cell BK103.out 0).trans rfl;have hcz11_1 : w9.cell? ⟨gb103,1,none⟩ = some (.slice none 0 0):=(blk_cell BK103.out 1).trans rfl;have hfz11_0:=blk_frozen BK103.out 0;have hfz11_1:=blk_frozen BK103.out 1)|((with_reducible refine gate_callee (f:=34) rfl ?_);refine goesL_ (some 18) rfl rfl Tryd.func34 (by kernel_rfl) rfl #[.int .i64 ((rd_T52 l0_1 x12_1).f0)] rfl (by (try simp only [List.map_toArray,List.map_cons,List.map_nil]);first|done|rfl|(simp only [List.length_drop,List.length_take];rfl)) ?_;(with_reducible refine (dep_word.calls ((rd_T52 l0_1 x12_1).f0) t104 _ A7.out).mono ?_);rintro e w' ⟨rfl,⟨nd,rfl⟩⟩;refine ⟨_,rfl,?_⟩)));((try simp only [Act.put,List.setIfInBounds_toArray,List.set_cons_zero,List.set_cons_succ]));(go_cut [26] (fun v26 wc => ∃ (kq : Nat) (x26_7 : Bool),v26 = .bool x26_7∧Aside0 (dep_Format.j1 kq x3_1 t104 l0_1 (l0_1.length : Int) x12_1 x26_7 a0_0 l0_1 ((rd_T52 l0_1 x12_1).f0) ((rd_T52 l0_1 x12_1).f1) = some r)∧Aside0 (kq ≤ k1)∧Aside0 (Kd.R Kd.string 9 wc w.heap.size (fun _ => True) u3 x3_1)∧Aside0 (wc.heap[gb101]? = some (.cells #[.bool a0_0,(.slice (some ad102) l0_1.length c0_1)] 31 (0,0)))∧Aside0 (wc.heap[gb103]? = some (.cells #[.int .i64 ((rd_T52 l0_1 x12_1).f0),(.slice A102_1 ((rd_T52 l0_1 x12_1).f1).length c102_1)] 52 (0,0)))∧Aside0 (Below w.heap.size w wc)))
      case first =>
       (have H:=HC8.out);(clear HC8);(by_cases c12 : ((rd_T52 l0_1 x12_1).f0) ≥ 1)
       ·(rw [if_pos c12] at H);(have c12b0 : decide (1 ≤ ((rd_T52 l0_1 x12_1).f0)) = true:=decide_eq_true c12);(clear c12);((first|rw [c12b0]|(simp only [i64_w,i32_w];rw [c12b0])|skip));(have H':=Aside0.mk H);(clear H);(have hnb13:=NB103_101.out);(have hnc13:=NB101_103.out);(have hcz14_0 : w9.cell? ⟨gb103,0,none⟩ = some (.int .i64 0):=(blk_cell BK103.out 0).trans rfl);(have hcz14_1 : w9.cell? ⟨gb103,1,none⟩ = some (.slice none 0 0):=(blk_cell BK103.out 1).trans rfl);(have hfz14_0:=blk_frozen BK103.out 0);(have hfz14_1:=blk_frozen BK103.out 1);(go_wp2);(go_meet)
        case rel => exact ⟨_,(decide (((rd_T52 l0_1 x12_1).f0) < 5)),(by first|rfl|(simp;done)|(simp [*];done)),H',⟨by have:=HK1.out;first|omega|exact Nat.le_refl _⟩,⟨by (with_reducible repeat (first|apply Kd.R_alloc|apply Kd.R_drewN|apply Kd.R_drew));exact Kd.R_mono (Kd.R_far (p:=⟨gb103,1,none⟩) (Kd.R_far (p:=⟨gb103,0,none⟩) (Kd.R_types HO_3.out BK103.out (by decide)) (fun _ hk => hk.2) (.int .i64 ((rd_T52 l0_1 x12_1).f0))) (fun _ hk => hk.2) (.slice A102_1 ((rd_T52 l0_1 x12_1).f1).length c102_1)) (fun _ hk => trivial)⟩,⟨by (with_reducible repeat (first|refine blk_drewN ?_ _|refine blk_drew ?_|refine blk_alloc ?_ _));refine blk_far ?_ NB101_103.out _;(with_reducible repeat (first|refine blk_drewN ?_ _|refine blk_drew ?_|refine blk_alloc ?_ _));refine blk_far ?_ NB101_103.out _;(with_reducible repeat (first|refine blk_drewN ?_ _|refine blk_drew ?_|refine blk_alloc ?_ _));exact BK101.out⟩,⟨by (with_reducible repeat (first|refine blk_drewN ?_ _|refine blk_drew ?_|refine blk_alloc ?_ _));refine blk_put (cs:=#[.int .i64 ((rd_T52 l0_1 x12_1).f0),.slice none 0 0]) ?_ 1 _ rfl;(with_reducible repeat (first|refine blk_drewN ?_ _|refine blk_drew ?_|refine blk_alloc ?_ _));refine blk_put (cs:=#[.int .i64 0,.slice none 0 0]) ?_ 0 _ rfl;(with_reducible repeat (first|refine blk_drewN ?_ _|refine blk_drew ?_|refine blk_alloc ?_ _));exact BK103.out⟩,⟨by repeat (first|(with_reducible first|exact HB.out|apply below_alloc|apply pw_below_drewN|apply below_drew1|refine below_set ?_ GE101.out|refine below_set ?_ GE103.out)|exact HB.out)⟩⟩
       ·(rw [if_neg c12] at H);(have c12b0 : decide (1 ≤ ((rd_T52 l0_1 x12_1).f0)) = false:=decide_eq_false c12);(clear c12);((first|rw [c12b0]|(simp only [i64_w,i32_w];rw [c12b0])|skip));(have H':=Aside0.mk H);(clear H);(have hnb15:=NB103_101.out);(have hnc15:=NB101_103.out);(have hcz16_0 : w9.cell? ⟨gb103,0,none⟩ = some (.int .i64 0):=(blk_cell BK103.out 0).trans rfl);(have hcz16_1 : w9.cell? ⟨gb103,1,none⟩ = some (.slice none 0 0):=(blk_cell BK103.out 1).trans rfl);(have hfz16_0:=blk_frozen BK103.out 0);(have hfz16_1:=blk_frozen BK103.out 1);(go_wp2);(go_meet)
        case rel => exact ⟨_,(false),(by first|rfl|(simp;done)|(simp [*];done)),H',⟨by have:=HK1.out;first|omega|exact Nat.le_refl _⟩,⟨by (with_reducible repeat (first|apply Kd.R_alloc|apply Kd.R_drewN|apply Kd.R_drew));exact Kd.R_mono (Kd.R_far (p:=⟨gb103,1,none⟩) (Kd.R_far (p:=⟨gb103,0,none⟩) (Kd.R_types HO_3.out BK103.out (by decide)) (fun _ hk => hk.2) (.int .i64 ((rd_T52 l0_1 x12_1).f0))) (fun _ hk => hk.2) (.slice A102_1 ((rd_T52 l0_1 x12_1).f1).length c102_1)) (fun _ hk => trivial)⟩,⟨by (with_reducible repeat (first|refine blk_drewN ?_ _|refine blk_drew ?_|refine blk_alloc ?_ _));refine blk_far ?_ NB101_103.out _;(with_reducible repeat (first|refine blk_drewN ?_ _|refine blk_drew ?_|refine blk_alloc ?_ _));refine blk_far ?_ NB101_103.out _;(with_reducible repeat (first|refine blk_drewN ?_ _|refine blk_drew ?_|refine blk_alloc ?_ _));exact BK101.out⟩,⟨by (with_reducible repeat (first|refine blk_drewN ?_ _|refine blk_drew ?_|refine blk_alloc ?_ _));refine blk_put (cs:=#[.int .i64 ((rd_T52 l0_1 x12_1).f0),.slice none 0 0]) ?_ 1 _ rfl;(with_reducible repeat (first|refine blk_drewN ?_ _|refine blk_drew ?_|refine blk_alloc ?_ _));refine blk_put (cs:=#[.int .i64 0,.slice none 0 0]) ?_ 0 _ rfl;(with_reducible repeat (first|refine blk_drewN ?_ _|refine blk_drew ?_|refine blk_alloc ?_ _));exact BK103.out⟩,⟨by repeat (first|(with_reducible first|exact HB.out|apply below_alloc|apply pw_below_drewN|apply below_drew1|refine below_set ?_ GE101.out|refine below_set ?_ GE103.out)|exact HB.out)⟩⟩
      case rest =>
       (clear HC8);(try clear c1);(try clear p1);(try clear q1);(try clear hx1);(try clear p2);(try clear c3);(try clear c4);(try clear c4b0);(try clear c5);(try clear c5b0);(try clear c6);(try clear c6b0);(try clear c10);(try clear p10);(try clear q10);(try clear hx10);(try clear c12);(try clear c12b0);(try clear c13);(try clear c15);(try clear hcz11_0);(try clear hcz11_1);(try clear hcz14_0);(try clear hcz14_1);(try clear hcz16_0);(try clear hcz16_1);(try clear hcz3_0);(try clear hcz3_1);(try clear hfz11_0);(try clear hfz11_1);(try clear hfz14_0);(try clear hfz14_1);(try clear hfz16_0);(try clear hfz16_1);(try clear hfz3_0);(try clear hfz3_1);(try clear hx102_0);(try clear hx102_1);(try clear p102);(try clear p2);(try clear q102);(obtain ⟨kq,x26_7,rfl,HA,HJ7,HO_3,BK101,BK103,HB⟩:=hcut)
       cases kq with
      |zero => exact absurd HA.out (by simp [dep_Format.j1])
      |succ kj7 =>
        (have H:=HA.out);(clear HA);(simp only [dep_Format.j1] at H);(by_cases c17 : x26_7 = true)
        ·(subst c17);(have H1 : (dep_Format.l1 kj7 x3_1 t104 l0_1 (l0_1.length : Int) x12_1 ((rd_T52 l0_1 x12_1).f1) (((rd_T52 l0_1 x12_1).f1).length : Int) 0 a0_0 l0_1) = some r:=by rw [if_pos rfl] at H;exact H);(clear H);(have H:=H1);(clear H1);(have H':=Aside0.mk H);(clear H);(have hnb18:=NB103_101.out);(have hnc18:=NB101_103.out);(have hcz19_0 : wc.cell? ⟨gb103,0,none⟩ = some (.int .i64 ((rd_T52 l0_1 x12_1).f0)):=(blk_cell BK103.out 0).trans rfl);(have hcz19_1 : wc.cell? ⟨gb103,1,none⟩ = some (.slice A102_1 ((rd_T52 l0_1 x12_1).f1).length c102_1):=(blk_cell BK103.out 1).trans rfl);(have hfz19_0:=blk_frozen BK103.out 0);(have hfz19_1:=blk_frozen BK103.out 1);(go_wp2);(go_loopg [6,30] kj7 (fun kq v6 v30 w' => ∃ (x6_3 : ByteArray) (x30_3 : Int),v6 = .string x6_3∧v30 = .int .i64 x30_3∧Aside0 (dep_Format.l1 kq x3_1 x6_3 l0_1 (l0_1.length : Int) x12_1 ((rd_T52 l0_1 x12_1).f1) (((rd_T52 l0_1 x12_1).f1).length : Int) x30_3 a0_0 l0_1 = some r)∧Aside0 (kq ≤ kj7)∧Aside0 (Kd.R Kd.string 9 w' w.heap.size (fun _ => True) u3 x3_1)∧Aside0 (w'.heap[gb101]? = some (.cells #[.bool a0_0,(.slice (some ad102) l0_1.length c0_1)] 31 (0,0)))∧Aside0 (w'.heap[gb103]? = some (.cells #[.int .i64 ((rd_T52 l0_1 x12_1).f0),(.slice A102_1 ((rd_T52 l0_1 x12_1).f1).length c102_1)] 52 (0,0)))∧Aside0 (Below w.heap.size w w')))
         case atStart => exact ⟨(t104),(0),(by first|rfl|(simp;done)|(simp [*];done)),(by first|rfl|(simp;done)|(simp [*];done)),H',⟨Nat.le_refl _⟩,⟨by (with_reducible repeat (first|apply Kd.R_alloc|apply Kd.R_drewN|apply Kd.R_drew));exact HO_3.out⟩,⟨by (with_reducible repeat (first|refine blk_drewN ?_ _|refine blk_drew ?_|refine blk_alloc ?_ _));exact BK101.out⟩,⟨by (with_reducible repeat (first|refine blk_drewN ?_ _|refine blk_drew ?_|refine blk_alloc ?_ _));exact BK103.out⟩,⟨by repeat (first|(with_reducible first|exact HB.out|apply below_alloc|apply pw_below_drewN|apply below_drew1|refine below_set ?_ GE101.out|refine below_set ?_ GE103.out)|exact HB.out)⟩⟩
         case round =>
          (clear H');(try clear c1);(try clear p1);(try clear q1);(try clear hx1);(try clear p2);(try clear c3);(try clear c4);(try clear c4b0);(try clear c5);(try clear c5b0);(try clear c6);(try clear c6b0);(try clear c10);(try clear p10);(try clear q10);(try clear hx10);(try clear c12);(try clear c12b0);(try clear c13);(try clear c15);(try clear c17);(try clear c18);(try clear hcz11_0);(try clear hcz11_1);(try clear hcz14_0);(try clear hcz14_1);(try clear hcz16_0);(try clear hcz16_1);(try clear hcz19_0);(try clear hcz19_1);(try clear hcz3_0);(try clear hcz3_1);(try clear hfz11_0);(try clear hfz11_1);(try clear hfz14_0);(try clear hfz14_1);(try clear hfz16_0);(try clear hfz16_1);(try clear hfz19_0);(try clear hfz19_1);(try clear hfz3_0);(try clear hfz3_1);(try clear hx102_0);(try clear hx102_1);(try clear p1);(try clear p10);(try clear p102);(try clear p2);(try clear q1);(try clear q10);(try clear q102);(obtain ⟨x6_3,x30_3,rfl,rfl,HA,HK3,HO_3,BK101,BK103,HB⟩:=hrel)
          cases gk with
         |zero => exact absurd HA.out (by simp [dep_Format.l1])
         |succ k3 =>
           (have H:=HA.out);(clear HA);(simp only [dep_Format.l1] at H);(by_cases c20 : x30_3 < (((rd_T52 l0_1 x12_1).f1).length : Int))
           ·(rw [if_pos c20] at H);(have c20b0 : decide (x30_3 < (((rd_T52 l0_1 x12_1).f1).length : Int)) = true:=decide_eq_true c20);(clear c20);(by_cases c21 : 0 ≤ x30_3)
            ·(rw [if_pos c21] at H);(have c21b0 : decide (0 ≤ x30_3) = true:=decide_eq_true c21);(clear c21);(by_cases c22 : x30_3 < (((rd_T52 l0_1 x12_1).f1).length : Int))
             ·(rw [if_pos c22] at H);(have c22b0 : decide (x30_3 < (((rd_T52 l0_1 x12_1).f1).length : Int)) = true:=decide_eq_true c22);(clear c22);(by_cases c23 : (rd ((rd_T52 l0_1 x12_1).f1) x30_3) < 0)
              ·(rw [if_pos c23] at H);(have c23b0 : decide ((rd ((rd_T52 l0_1 x12_1).f1) x30_3) < 0) = true:=decide_eq_true c23);(clear c23);(by_cases c24 : x6_3.size + 3 ≤ 9223372036854775807)
               ·(rw [if_pos c24] at H);(have c24b0:=eq_true c24);(have c24b1 : decide (x6_3.size + 3 ≤ 9223372036854775807) = true:=decide_eq_true c24);(try have c24b2 : (9223372036854775807 < x6_3.size + 3) = False:=eq_false (Nat.not_lt.2 c24));(have H':=Aside0.mk H);(clear H);(have p105 : 0 ≤ (x30_3 : Int):=of_decide_eq_true (by first|(with_reducible assumption)|assumption));(have q105 : x30_3 < (((rd_T52 l0_1 x12_1).f1).length : Int):=of_decide_eq_true (by first|(with_reducible assumption)|assumption));(obtain ⟨ad105,e105,hx105_0⟩:=Kd.at_int HR102_1.out x30_3 p105 q105)
                cases e105
                (replace hx105_0:=(HB.out.cell (World.block_lt_of_cell? w _ hx105_0)).trans hx105_0);(replace p105:=eq_true p105);(replace q105:=eq_true q105);(go_wp2);(go_roundg k3)
                case measure => have:=HK1.out;have:=HJ7.out;have:=HK3.out;omega
                case rel => exact ⟨(x6_3 ++ (⟨#[58,45,48]⟩ : ByteArray)),(wrap64 (x30_3 + 1)),(by first|rfl|(simp;done)|(simp [*];done)),(by first|rfl|(simp;done)|(simp [*];done)),H',⟨by have:=HK1.out;have:=HJ7.out;have:=HK3.out;omega⟩,⟨by (with_reducible repeat (first|apply Kd.R_alloc|apply Kd.R_drewN|apply Kd.R_drew));exact HO_3.out⟩,⟨by (with_reducible repeat (first|refine blk_drewN ?_ _|refine blk_drew ?_|refine blk_alloc ?_ _));exact BK101.out⟩,⟨by (with_reducible repeat (first|refine blk_drewN ?_ _|refine blk_drew ?_|refine blk_alloc ?_ _));exact BK103.out⟩,⟨by repeat (first|(with_reducible first|exact HB.out|apply below_alloc|apply pw_below_drewN|apply below_drew1|refine below_set ?_ GE101.out|refine below_set ?_ GE103.out)|exact HB.out)⟩⟩
               ·(rw [if_neg c24] at H);(exact absurd H (by simp))
              ·(rw [if_neg c23] at H);(have c23b0 : decide ((rd ((rd_T52 l0_1 x12_1).f1) x30_3) < 0) = false:=decide_eq_false c23);(clear c23);(replace H:=Option.bind_eq_some_iff.mp H);(obtain ⟨t106,A250,H⟩:=H);(replace H : (if 1 + t106.size ≤ 9223372036854775807 then (if x6_3.size + ((⟨#[58]⟩ : ByteArray) ++ t106).size ≤ 9223372036854775807 then (dep_Format.l1 k3 x3_1 (x6_3 ++ ((⟨#[58]⟩ : ByteArray) ++ t106)) l0_1 (l0_1.length : Int) x12_1 ((rd_T52 l0_1 x12_1).f1) (((rd_T52 l0_1 x12_1).f1).length : Int) (wrap64 (x30_3 + 1)) a0_0 l0_1) else (none)) else (none)) = some r:=H);(have A25:=Aside0.mk A250);(clear A250);(by_cases c26 : 1 + t106.size ≤ 9223372036854775807)
               ·(rw [if_pos c26] at H);(have c26b0:=eq_true c26);(have c26b1 : decide (1 + t106.size ≤ 9223372036854775807) = true:=decide_eq_true c26);(try have c26b2 : (9223372036854775807 < 1 + t106.size) = False:=eq_false (Nat.not_lt.2 c26));(by_cases c27 : x6_3.size + ((⟨#[58]⟩ : ByteArray) ++ t106).size ≤ 9223372036854775807)
                ·(rw [if_pos c27] at H);(have c27b0:=eq_true c27);(have c27b1 : decide (x6_3.size + ((⟨#[58]⟩ : ByteArray) ++ t106).size ≤ 9223372036854775807) = true:=decide_eq_true c27);(try have c27b3 : (9223372036854775807 < x6_3.size + 1 + t106.size) = False:=eq_false (by have z:=c27;rw [show x6_3.size + ((⟨#[58]⟩ : ByteArray) ++ t106).size = x6_3.size + 1 + t106.size from by rw [ByteArray.size_append];rfl] at z;omega));(try have c27b2 : (9223372036854775807 < x6_3.size + ((⟨#[58]⟩ : ByteArray) ++ t106).size) = False:=eq_false (Nat.not_lt.2 c27));(have H':=Aside0.mk H);(clear H);(have p105 : 0 ≤ (x30_3 : Int):=of_decide_eq_true (by first|(with_reducible assumption)|assumption));(have q105 : x30_3 < (((rd_T52 l0_1 x12_1).f1).length : Int):=of_decide_eq_true (by first|(with_reducible assumption)|assumption));(obtain ⟨ad105,e105,hx105_0⟩:=Kd.at_int HR102_1.out x30_3 p105 q105)
                 cases e105
                 (replace hx105_0:=(HB.out.cell (World.block_lt_of_cell? w _ hx105_0)).trans hx105_0);(replace p105:=eq_true p105);(replace q105:=eq_true q105);(go_wp2_with (first|((with_reducible refine gate_callee (f:=35) rfl ?_);refine goesL_ (some 40) rfl rfl Tryd.func35 (by kernel_rfl) rfl #[.int .i64 (rd ((rd_T52 l0_1 x12_1).f1) x30_3)] rfl (by (try simp only [List.map_toArray,List.map_cons,List.map_nil]);first|done|rfl|(simp only [List.length_drop,List.length_take];rfl)) ?_;(with_reducible refine (strconv_Itoa.calls (rd ((rd_T52 l0_1 x12_1).f1) x30_3) t106 _ A25.out (HG_.out.below (by repeat (first|(with_reducible first|exact HB.out|apply below_alloc|apply pw_below_drewN|apply below_drew1|refine below_set ?_ GE101.out|refine below_set ?_ GE103.out)|exact HB.out)))).mono ?_);rintro e w28 ⟨rfl,hb⟩;refine ⟨_,rfl,?_⟩;have n0_:=Aside0.mk (Kd.R_below (by (with_reducible repeat (first|apply Kd.R_alloc|apply Kd.R_drewN|apply Kd.R_drew));exact HO_3.out) hb);have n1_:=Aside0.mk (blk_below (g:=gb101) (o:=.cells #[.bool a0_0,.slice (some ad102) l0_1.length c0_1] 31 (0,0)) (by (with_reducible repeat (first|refine blk_drewN ?_ _|refine blk_drew ?_|refine blk_alloc ?_ _));exact BK101.out) hb);have n2_:=Aside0.mk (blk_below (g:=gb103) (o:=.cells #[.int .i64 ((rd_T52 l0_1 x12_1).f0),.slice (some ad105) ((rd_T52 l0_1 x12_1).f1).length c102_1] 52 (0,0)) (by (with_reducible repeat (first|refine blk_drewN ?_ _|refine blk_drew ?_|refine blk_alloc ?_ _));exact BK103.out) hb);have n3_:=Aside0.mk (below_step (by repeat (first|(with_reducible first|exact HB.out|apply below_alloc|apply pw_below_drewN|apply below_drew1|refine below_set ?_ GE101.out|refine below_set ?_ GE103.out)|exact HB.out)) hb);clear HO_3;clear BK101;clear BK103;clear HB;have HO_3:=n0_;have BK101:=n1_;have BK103:=n2_;have HB:=n3_;clear n0_ n1_ n2_ n3_;(try clear hb);(try clear hb2);(try clear hk);(try clear hi))));(go_roundg k3)
                 case measure => have:=HK1.out;have:=HJ7.out;have:=HK3.out;omega
                 case rel => exact ⟨(x6_3 ++ ((⟨#[58]⟩ : ByteArray) ++ t106)),(wrap64 (x30_3 + 1)),(by first|rfl|(simp;done)|(simp [*];done)),(by first|rfl|(simp;done)|(simp [*];done)),H',⟨by have:=HK1.out;have:=HJ7.out;have:=HK3.out;omega⟩,⟨by (with_reducible repeat (first|apply Kd.R_alloc|apply Kd.R_drewN|apply Kd.R_drew));exact HO_3.out⟩,⟨by (with_reducible repeat (first|refine blk_drewN ?_ _|refine blk_drew ?_|refine blk_alloc ?_ _));exact BK101.out⟩,⟨by (with_reducible repeat (first|refine blk_drewN ?_ _|refine blk_drew ?_|refine blk_alloc ?_ _));exact BK103.out⟩,⟨by repeat (first|(with_reducible first|exact HB.out|apply below_alloc|apply pw_below_drewN|apply below_drew1|refine below_set ?_ GE101.out|refine below_set ?_ GE103.out)|exact HB.out)⟩⟩
                ·(rw [if_neg c27] at H);(exact absurd H (by simp))
               ·(rw [if_neg c26] at H);(exact absurd H (by simp))
             ·(rw [if_neg c22] at H);(exact absurd H (by simp))
            ·(rw [if_neg c21] at H);(exact absurd H (by simp))
           ·(rw [if_neg c20] at H);(have c20b0 : decide (x30_3 < (((rd_T52 l0_1 x12_1).f1).length : Int)) = false:=decide_eq_false c20);(clear c20);(by_cases c29 : x3_1.length < 8796093022208)
            ·(rw [if_pos c29] at H);(have LMc29:=Aside0.mk c29);(clear c29);(obtain ⟨y107,hy107⟩ : ∃ y_ : List ByteArray,y_ = (x3_1 ++ [x6_3]):=⟨_,rfl⟩);(replace H : (dep_Format.l0 k3 y107 l0_1 (l0_1.length : Int) (wrap64 (x12_1 + 1)) a0_0 l0_1) = some r:=by first|(rw [hy107];with_reducible exact H)|(have H2_:=(Option.bind_some _ _).symm.trans H;rw [hy107];with_reducible exact H2_)|(have H2_:=(Option.bind_some _ _).symm.trans H;with_reducible exact H2_)|with_reducible exact H|(rw [hy107];exact H)|exact H);(have Ny107:=Aside0.mk hy107);(clear hy107);(have H':=Aside0.mk H);(clear H);(go_wp2_with (first|((with_reducible refine gate_builtin (b:=.append) (xs:=#[.tmp 44,.tmp 46]) rfl ?_);at_builtin;refine Kd.R_append Kd.string (w0:=w) w.heap.size rfl (.tmp 44) (.tmp 46) 75 9 (.string ⟨#[]⟩) 16 rfl Tryd.underlying75 info9 rfl (by decide) (by omega) u3 x3_1 x6_3 [.string x6_3] (fun _ => True) (fun _ => False) rfl rfl ?aP (fun _ hk => hk.elim) ?aF ?aO ?aB ?aS ?aL ?_;(case aP => exact rfl);(case aB => exact (by repeat (first|(with_reducible first|exact HB.out|apply below_alloc|apply pw_below_drewN|apply below_drew1|refine below_set ?_ GE101.out|refine below_set ?_ GE103.out)|exact HB.out)));(case aF => exact (fun _ _ => trivial));(case aO => exact (by (with_reducible repeat (first|apply Kd.R_alloc|apply Kd.R_drewN|apply Kd.R_drew));exact HO_3.out));(case aS => exact (below_size (by repeat (first|(with_reducible first|exact HB.out|apply below_alloc|apply pw_below_drewN|apply below_drew1|refine below_set ?_ GE101.out|refine below_set ?_ GE103.out)|exact HB.out))));(case aL => have:=LMc29.out;omega);intro v108 w30 ho hb hg hat;rw [← Ny107.out] at ho;have n0_:=Aside0.mk (blk_grown (g:=gb101) (o:=.cells #[.bool a0_0,.slice (some ad102) l0_1.length c0_1] 31 (0,0)) (by (with_reducible repeat (first|refine blk_drewN ?_ _|refine blk_drew ?_|refine blk_alloc ?_ _));exact BK101.out) hg (Kd.R_ne HO_3.out BK101.out (by decide)));have n1_:=Aside0.mk (blk_grown (g:=gb103) (o:=.cells #[.int .i64 ((rd_T52 l0_1 x12_1).f0),.slice A102_1 ((rd_T52 l0_1 x12_1).f1).length c102_1] 52 (0,0)) (by (with_reducible repeat (first|refine blk_drewN ?_ _|refine blk_drew ?_|refine blk_alloc ?_ _));exact BK103.out) hg (Kd.R_ne HO_3.out BK103.out (by decide)));have n2_:=Aside0.mk (hb);have n3_:=Aside0.mk (ho);clear BK101;clear BK103;clear HB;clear HO_3;have BK101:=n0_;have BK103:=n1_;have HB:=n2_;have HO109:=n3_;clear n0_ n1_ n2_ n3_;clear ho hb hg hat)));(go_roundg k3)
             case measure => have:=HK1.out;have:=HJ7.out;have:=HK3.out;omega
             case rel => exact ⟨(y107),(wrap64 (x12_1 + 1)),(by first|rfl|(simp;done)|(simp [*];done)),H',⟨by have:=HK1.out;have:=HJ7.out;have:=HK3.out;omega⟩,⟨by (with_reducible repeat (first|apply Kd.R_alloc|apply Kd.R_drewN|apply Kd.R_drew));exact HO109.out⟩,⟨by (with_reducible repeat (first|refine blk_drewN ?_ _|refine blk_drew ?_|refine blk_alloc ?_ _));exact BK101.out⟩,⟨by repeat (first|(with_reducible first|exact HB.out|apply below_alloc|apply pw_below_drewN|apply below_drew1|refine below_set ?_ GE101.out|refine below_set ?_ GE103.out)|exact HB.out)⟩⟩
            ·(rw [if_neg c29] at H);(exact absurd H (by simp))
        ·(replace c17:=Bool.eq_false_iff.mpr c17);(subst c17);(have H1 : (if x3_1.length < 8796093022208 then (dep_Format.l0 kj7 (x3_1 ++ [t104]) l0_1 (l0_1.length : Int) (wrap64 (x12_1 + 1)) a0_0 l0_1) else (none)) = some r:=by rw [if_neg (show ¬ (false = true) by decide)] at H;exact H);(clear H);(have H:=H1);(clear H1);(by_cases c31 : x3_1.length < 8796093022208)
         ·(rw [if_pos c31] at H);(have LMc31:=Aside0.mk c31);(clear c31);(obtain ⟨y110,hy110⟩ : ∃ y_ : List ByteArray,y_ = (x3_1 ++ [t104]):=⟨_,rfl⟩);(replace H : (dep_Format.l0 kj7 y110 l0_1 (l0_1.length : Int) (wrap64 (x12_1 + 1)) a0_0 l0_1) = some r:=by first|(rw [hy110];with_reducible exact H)|(have H2_:=(Option.bind_some _ _).symm.trans H;rw [hy110];with_reducible exact H2_)|(have H2_:=(Option.bind_some _ _).symm.trans H;with_reducible exact H2_)|with_reducible exact H|(rw [hy110];exact H)|exact H);(have Ny110:=Aside0.mk hy110);(clear hy110);(have H':=Aside0.mk H);(clear H);(go_wp2_with (first|((with_reducible refine gate_builtin (b:=.append) (xs:=#[.tmp 44,.tmp 46]) rfl ?_);at_builtin;refine Kd.R_append Kd.string (w0:=w) w.heap.size rfl (.tmp 44) (.tmp 46) 75 9 (.string ⟨#[]⟩) 16 rfl Tryd.underlying75 info9 rfl (by decide) (by omega) u3 x3_1 t104 [.string t104] (fun _ => True) (fun _ => False) rfl rfl ?aP (fun _ hk => hk.elim) ?aF ?aO ?aB ?aS ?aL ?_;(case aP => exact rfl);(case aB => exact (by repeat (first|(with_reducible first|exact HB.out|apply below_alloc|apply pw_below_drewN|apply below_drew1|refine below_set ?_ GE101.out|refine below_set ?_ GE103.out)|exact HB.out)));(case aF => exact (fun _ _ => trivial));(case aO => exact (by (with_reducible repeat (first|apply Kd.R_alloc|apply Kd.R_drewN|apply Kd.R_drew));exact HO_3.out));(case aS => exact (below_size (by repeat (first|(with_reducible first|exact HB.out|apply below_alloc|apply pw_below_drewN|apply below_drew1|refine below_set ?_ GE101.out|refine below_set ?_ GE103.out)|exact HB.out))));(case aL => have:=LMc31.out;omega);intro v111 w32 ho hb hg hat;rw [← Ny110.out] at ho;have n0_:=Aside0.mk (blk_grown (g:=gb101) (o:=.cells #[.bool a0_0,.slice (some ad102) l0_1.length c0_1] 31 (0,0)) (by (with_reducible repeat (first|refine blk_drewN ?_ _|refine blk_drew ?_|refine blk_alloc ?_ _));exact BK101.out) hg (Kd.R_ne HO_3.out BK101.out (by decide)));have n1_:=Aside0.mk (blk_grown (g:=gb103) (o:=.cells #[.int .i64 ((rd_T52 l0_1 x12_1).f0),.slice A102_1 ((rd_T52 l0_1 x12_1).f1).length c102_1] 52 (0,0)) (by (with_reducible repeat (first|refine blk_drewN ?_ _|refine blk_drew ?_|refine blk_alloc ?_ _));exact BK103.out) hg (Kd.R_ne HO_3.out BK103.out (by decide)));have n2_:=Aside0.mk (hb);have n3_:=Aside0.mk (ho);clear BK101;clear BK103;clear HB;clear HO_3;have BK101:=n0_;have BK103:=n1_;have HB:=n2_;have HO112:=n3_;clear n0_ n1_ n2_ n3_;clear ho hb hg hat)));(go_roundg kj7)
          case measure => have:=HK1.out;have:=HJ7.out;omega
          case rel => exact ⟨(y110),(wrap64 (x12_1 + 1)),(by first|rfl|(simp;done)|(simp [*];done)),H',⟨by have:=HK1.out;have:=HJ7.out;omega⟩,⟨by (with_reducible repeat (first|apply Kd.R_alloc|apply Kd.R_drewN|apply Kd.R_drew));exact HO112.out⟩,⟨by (with_reducible repeat (first|refine blk_drewN ?_ _|refine blk_drew ?_|refine blk_alloc ?_ _));exact BK101.out⟩,⟨by repeat (first|(with_reducible first|exact HB.out|apply below_alloc|apply pw_below_drewN|apply below_drew1|refine below_set ?_ GE101.out|refine below_set ?_ GE103.out)|exact HB.out)⟩⟩
         ·(rw [if_neg c31] at H);(exact absurd H (by simp))
     ·(rw [if_neg c6] at H);(exact absurd H (by simp))
    ·(rw [if_neg c5] at H);(exact absurd H (by simp))
   ·(rw [if_neg c4] at H);(have c4b0 : decide (x12_1 < (l0_1.length : Int)) = false:=decide_eq_false c4);(clear c4);(by_cases c33 : a0_0 = true)
    ·(subst c33);(have H1 : ((strings_Join.f x3_1 (⟨#[63]⟩ : ByteArray)).bind fun t113 => (some t113)) = some r:=by rw [if_pos rfl] at H;exact H);(clear H);(have H:=H1);(clear H1);(replace H:=Option.bind_eq_some_iff.mp H);(obtain ⟨t113,A340,H⟩:=H);(replace H : (some t113) = some r:=H);(have A34:=Aside0.mk A340);(clear A340);(obtain rfl:=Option.some.inj H);(have hcz35_0 : wr.cell? ⟨gb101,0,none⟩ = some (.bool true):=(blk_cell BK101.out 0).trans rfl);(have hcz35_1 : wr.cell? ⟨gb101,1,none⟩ = some (.slice A0_1 l0_1.length c0_1):=(blk_cell BK101.out 1).trans rfl);(have hfz35_0:=blk_frozen BK101.out 0);(have hfz35_1:=blk_frozen BK101.out 1);(obtain ⟨Ao36,co36,eo36⟩:=Kd.R_slice HO_3.out);(subst eo36);(go_wp2_with (first|((with_reducible refine gate_callee (f:=36) rfl ?_);refine goesL_ (some 52) rfl rfl Tryd.func36 (by kernel_rfl) rfl #[.slice Ao36 x3_1.length co36,.string (⟨#[63]⟩ : ByteArray)] rfl (by (try simp only [List.map_toArray,List.map_cons,List.map_nil]);first|done|rfl|(simp only [List.length_drop,List.length_take];rfl)) ?_;(with_reducible refine (strings_Join.calls _ _ x3_1 (⟨#[63]⟩ : ByteArray) t113 _ ?side1 ?side2 A34.out).mono ?_);(case side1 => repeat (first|exact (Kd.R_reads' HO_3.out).2.2|(with_reducible refine Kd.C_alloc ?_ _)|(with_reducible refine Kd.C_drewN ?_ _)|(with_reducible refine Kd.C_drew ?_)));(case side2 => exact (Kd.R_reads' HO_3.out).2.1);rintro e w37 ⟨rfl,hb⟩;refine ⟨_,rfl,?_⟩;have n0_:=Aside0.mk (Kd.R_below (by (with_reducible repeat (first|apply Kd.R_alloc|apply Kd.R_drewN|apply Kd.R_drew));exact HO_3.out) hb);have n1_:=Aside0.mk (blk_below (g:=gb101) (o:=.cells #[.bool true,.slice A0_1 l0_1.length c0_1] 31 (0,0)) (by (with_reducible repeat (first|refine blk_drewN ?_ _|refine blk_drew ?_|refine blk_alloc ?_ _));exact BK101.out) hb);have n2_:=Aside0.mk (below_step (by repeat (first|(with_reducible first|exact HB.out|apply below_alloc|apply pw_below_drewN|apply below_drew1|refine below_set ?_ GE101.out)|exact HB.out)) hb);clear HO_3;clear BK101;clear HB;have HO_3:=n0_;have BK101:=n1_;have HB:=n2_;clear n0_ n1_ n2_;(try clear hb);(try clear hb2);(try clear hk);(try clear hi))));(go_ret);(exact ⟨by first|rfl|(simp [errW_none,errW_some] <;> rfl)|(simp [*,errW_none,errW_some] <;> rfl),by repeat (first|(with_reducible first|exact HB.out|apply below_alloc|apply pw_below_drewN|apply below_drew1|refine below_set ?_ GE101.out)|exact HB.out)⟩)
    ·(replace c33:=Bool.eq_false_iff.mpr c33);(subst c33);(have H1 : ((strings_Join.f x3_1 (⟨#[44]⟩ : ByteArray)).bind fun t114 => (some t114)) = some r:=by rw [if_neg (show ¬ (false = true) by decide)] at H;exact H);(clear H);(have H:=H1);(clear H1);(replace H:=Option.bind_eq_some_iff.mp H);(obtain ⟨t114,A380,H⟩:=H);(replace H : (some t114) = some r:=H);(have A38:=Aside0.mk A380);(clear A380);(obtain rfl:=Option.some.inj H);(have hcz39_0 : wr.cell? ⟨gb101,0,none⟩ = some (.bool false):=(blk_cell BK101.out 0).trans rfl);(have hcz39_1 : wr.cell? ⟨gb101,1,none⟩ = some (.slice A0_1 l0_1.length c0_1):=(blk_cell BK101.out 1).trans rfl);(have hfz39_0:=blk_frozen BK101.out 0);(have hfz39_1:=blk_frozen BK101.out 1);(obtain ⟨Ao40,co40,eo40⟩:=Kd.R_slice HO_3.out);(subst eo40);(go_wp2_with (first|((with_reducible refine gate_callee (f:=36) rfl ?_);refine goesL_ (some 54) rfl rfl Tryd.func36 (by kernel_rfl) rfl #[.slice Ao40 x3_1.length co40,.string (⟨#[44]⟩ : ByteArray)] rfl (by (try simp only [List.map_toArray,List.map_cons,List.map_nil]);first|done|rfl|(simp only [List.length_drop,List.length_take];rfl)) ?_;(with_reducible refine (strings_Join.calls _ _ x3_1 (⟨#[44]⟩ : ByteArray) t114 _ ?side1 ?side2 A38.out).mono ?_);(case side1 => repeat (first|exact (Kd.R_reads' HO_3.out).2.2|(with_reducible refine Kd.C_alloc ?_ _)|(with_reducible refine Kd.C_drewN ?_ _)|(with_reducible refine Kd.C_drew ?_)));(case side2 => exact (Kd.R_reads' HO_3.out).2.1);rintro e w41 ⟨rfl,hb⟩;refine ⟨_,rfl,?_⟩;have n0_:=Aside0.mk (Kd.R_below (by (with_reducible repeat (first|apply Kd.R_alloc|apply Kd.R_drewN|apply Kd.R_drew));exact HO_3.out) hb);have n1_:=Aside0.mk (blk_below (g:=gb101) (o:=.cells #[.bool false,.slice A0_1 l0_1.length c0_1] 31 (0,0)) (by (with_reducible repeat (first|refine blk_drewN ?_ _|refine blk_drew ?_|refine blk_alloc ?_ _));exact BK101.out) hb);have n2_:=Aside0.mk (below_step (by repeat (first|(with_reducible first|exact HB.out|apply below_alloc|apply pw_below_drewN|apply below_drew1|refine below_set ?_ GE101.out)|exact HB.out)) hb);clear HO_3;clear BK101;clear HB;have HO_3:=n0_;have BK101:=n1_;have HB:=n2_;clear n0_ n1_ n2_;(try clear hb);(try clear hb2);(try clear hk);(try clear hi))));(go_ret);(exact ⟨by first|rfl|(simp [errW_none,errW_some] <;> rfl)|(simp [*,errW_none,errW_some] <;> rfl),by repeat (first|(with_reducible first|exact HB.out|apply below_alloc|apply pw_below_drewN|apply below_drew1|refine below_set ?_ GE101.out)|exact HB.out)⟩)
def IsS71 (w0 W : World) (g : Nat) (f0 : ByteArray) (f1 : Int) (f2 : Int) (f3 : Int) : Prop := W.heap[g]? = some (.cells #[.string f0, .int .i64 f1, .int .i64 f2, .int .i64 f3] 71 (0, 0)) ∧ w0.heap.size ≤ g
theorem IsS71.grown {w0 W : World} {g : Nat} {f0 : ByteArray} {f1 : Int} {f2 : Int} {f3 : Int} {W1 : World} {row : Option Nat} (h : IsS71 w0 W g f0 f1 f2 f3) (hw : W.grownBy W1 row) (hne : some g ≠ row) : IsS71 w0 W1 g f0 f1 f2 f3:=by
 (obtain ⟨hb,hg⟩:=h);(exact ⟨blk_grown hb hw hne,hg⟩)
theorem IsS71.fresh {w0 W : World} {g : Nat} {f0 : ByteArray} {f1 : Int} {f2 : Int} {f3 : Int} (h : IsS71 w0 W g f0 f1 f2 f3) : ∀ k,W.heap.size ≤ k → k ≠ g:=by
 (obtain ⟨hb,hg⟩:=h);(exact Kd.freshB hb)
theorem IsS71.kept {w0 W : World} {g : Nat} {f0 : ByteArray} {f1 : Int} {f2 : Int} {f3 : Int} {W1 : World} {S : Nat → Prop} (h : IsS71 w0 W g f0 f1 f2 f3) (hk : Kept W W1 S) (hne : ¬ S g) : IsS71 w0 W1 g f0 f1 f2 f3:=by
 (obtain ⟨hb,hg⟩:=h);(exact ⟨blk_kept hb hk hne,hg⟩)
theorem IsS71.below {w0 W : World} {g : Nat} {f0 : ByteArray} {f1 : Int} {f2 : Int} {f3 : Int} {W1 : World} (h : IsS71 w0 W g f0 f1 f2 f3) (hw : Below W.heap.size W W1) : IsS71 w0 W1 g f0 f1 f2 f3:=h.grown (grown_of_below hw none) (by simp)
theorem IsS71.alloc {w0 W : World} {g : Nat} {f0 : ByteArray} {f1 : Int} {f2 : Int} {f3 : Int} (h : IsS71 w0 W g f0 f1 f2 f3) (o : Obj) : IsS71 w0 (W.alloc o) g f0 f1 f2 f3:=h.below (below_alloc (Below.refl _ _) o)
theorem IsS71.drewN {w0 W : World} {g : Nat} {f0 : ByteArray} {f1 : Int} {f2 : Int} {f3 : Int} (h : IsS71 w0 W g f0 f1 f2 f3) (m : Nat) : IsS71 w0 (W.drewN m) g f0 f1 f2 f3:=h
theorem IsS71.drew {w0 W : World} {g : Nat} {f0 : ByteArray} {f1 : Int} {f2 : Int} {f3 : Int} (h : IsS71 w0 W g f0 f1 f2 f3) : IsS71 w0 W.drew g f0 f1 f2 f3:=h
theorem IsS71.at_ {w0 W : World} {g : Nat} {f0 : ByteArray} {f1 : Int} {f2 : Int} {f3 : Int} {w' : World} {m : Nat} (hq : W.drewN m = w') (h : IsS71 w0 W g f0 f1 f2 f3) : IsS71 w0 w' g f0 f1 f2 f3:=by subst hq;exact IsS71.drewN h m
theorem IsS71.apart {w0 W : World} {g : Nat} {f0 : ByteArray} {f1 : Int} {f2 : Int} {f3 : Int} {α : Type} {d : Kd α} {e : Nat} {base : Nat} {ok : Nat → Prop} {v : Value} {xs : List α} (h : IsS71 w0 W g f0 f1 f2 f3) (ho : d.R e W base ok v xs) (ht : ∀ q,q ∈ e :: d.E → q ≠ 71) : d.R e W base (fun k => ok k∧k ≠ g) v xs:=by
 (obtain ⟨hb,hg⟩:=h);(exact Kd.R_types ho hb ht)
theorem IsS71.own_ne {w0 W : World} {g : Nat} {f0 : ByteArray} {f1 : Int} {f2 : Int} {f3 : Int} {α : Type} {d : Kd α} {e : Nat} {base : Nat} {ok : Nat → Prop} {v : Value} {xs : List α} (h : IsS71 w0 W g f0 f1 f2 f3) (ho : d.R e W base ok v xs) (ht : e ≠ 71) : some g ≠ v.ownBlock:=by
 (obtain ⟨hb,hg⟩:=h);(exact Kd.R_ne ho hb ht)
theorem IsS71.apartS {w0 W : World} {g : Nat} {f0 : ByteArray} {f1 : Int} {f2 : Int} {f3 : Int} {α : Type} {d : Kd α} {e : Nat} {base : Nat} {ok : Nat → Prop} {v : Value} {xs : List α} (h : IsS71 w0 W g f0 f1 f2 f3) (ho : d.S e W base ok v xs) (ht : ∀ q,q ∈ e :: d.E → q ≠ 71) : d.S e W base (fun k => ok k∧k ≠ g) v xs:=by
 (obtain ⟨hb,hg⟩:=h);(exact Kd.S_types ho hb ht)
theorem IsS71.own_neS {w0 W : World} {g : Nat} {f0 : ByteArray} {f1 : Int} {f2 : Int} {f3 : Int} {α : Type} {d : Kd α} {e : Nat} {base : Nat} {ok : Nat → Prop} {v : Value} {xs : List α} (h : IsS71 w0 W g f0 f1 f2 f3) (ho : d.S e W base ok v xs) (ht : e ≠ 71) : some g ≠ v.ownBlock:=by
 (obtain ⟨hb,hg⟩:=h);(exact Kd.S_ne ho hb ht)
theorem IsS71.lt {w0 W : World} {g : Nat} {f0 : ByteArray} {f1 : Int} {f2 : Int} {f3 : Int} (h : IsS71 w0 W g f0 f1 f2 f3) : g < W.heap.size:=by
 (obtain ⟨hb,hg⟩:=h);(exact blk_lt hb)
theorem IsS71.ge {w0 W : World} {g : Nat} {f0 : ByteArray} {f1 : Int} {f2 : Int} {f3 : Int} (h : IsS71 w0 W g f0 f1 f2 f3) : w0.heap.size ≤ g:=by
 (obtain ⟨hb,hg⟩:=h);(exact hg)
theorem IsS71.far {w0 W : World} {g : Nat} {f0 : ByteArray} {f1 : Int} {f2 : Int} {f3 : Int} {p : Addr} (h : IsS71 w0 W g f0 f1 f2 f3) (hne : g ≠ p.block) (u : Value) : IsS71 w0 (W.setCell p u) g f0 f1 f2 f3:=by
 (obtain ⟨hb,hg⟩:=h);(exact ⟨blk_far hb hne u,hg⟩)
theorem cellS71_0 {W : World} {g : Nat} {f0 : ByteArray} {f1 : Int} {f2 : Int} {f3 : Int} (h : W.heap[g]? = some (.cells #[.string f0,.int .i64 f1,.int .i64 f2,.int .i64 f3] 71 (0,0))) : W.cell? ⟨g,0,none⟩ = some (.string f0):=(blk_cell h 0).trans rfl
theorem IsS71.set_0 {w0 W : World} {g : Nat} {f0 : ByteArray} {f1 : Int} {f2 : Int} {f3 : Int} (h : IsS71 w0 W g f0 f1 f2 f3) (x : ByteArray) : IsS71 w0 (W.setCell ⟨g,0,none⟩ (.string x)) g x f1 f2 f3:=by
 (obtain ⟨hb,hg⟩:=h);(exact ⟨by simpa using blk_set hb 0 (.string x),hg⟩)
theorem cellS71_1 {W : World} {g : Nat} {f0 : ByteArray} {f1 : Int} {f2 : Int} {f3 : Int} (h : W.heap[g]? = some (.cells #[.string f0,.int .i64 f1,.int .i64 f2,.int .i64 f3] 71 (0,0))) : W.cell? ⟨g,1,none⟩ = some (.int .i64 f1):=(blk_cell h 1).trans rfl
theorem IsS71.set_1 {w0 W : World} {g : Nat} {f0 : ByteArray} {f1 : Int} {f2 : Int} {f3 : Int} (h : IsS71 w0 W g f0 f1 f2 f3) (x : Int) : IsS71 w0 (W.setCell ⟨g,1,none⟩ (.int .i64 x)) g f0 x f2 f3:=by
 (obtain ⟨hb,hg⟩:=h);(exact ⟨by simpa using blk_set hb 1 (.int .i64 x),hg⟩)
theorem cellS71_2 {W : World} {g : Nat} {f0 : ByteArray} {f1 : Int} {f2 : Int} {f3 : Int} (h : W.heap[g]? = some (.cells #[.string f0,.int .i64 f1,.int .i64 f2,.int .i64 f3] 71 (0,0))) : W.cell? ⟨g,2,none⟩ = some (.int .i64 f2):=(blk_cell h 2).trans rfl
theorem IsS71.set_2 {w0 W : World} {g : Nat} {f0 : ByteArray} {f1 : Int} {f2 : Int} {f3 : Int} (h : IsS71 w0 W g f0 f1 f2 f3) (x : Int) : IsS71 w0 (W.setCell ⟨g,2,none⟩ (.int .i64 x)) g f0 f1 x f3:=by
 (obtain ⟨hb,hg⟩:=h);(exact ⟨by simpa using blk_set hb 2 (.int .i64 x),hg⟩)
theorem cellS71_3 {W : World} {g : Nat} {f0 : ByteArray} {f1 : Int} {f2 : Int} {f3 : Int} (h : W.heap[g]? = some (.cells #[.string f0,.int .i64 f1,.int .i64 f2,.int .i64 f3] 71 (0,0))) : W.cell? ⟨g,3,none⟩ = some (.int .i64 f3):=(blk_cell h 3).trans rfl
theorem IsS71.set_3 {w0 W : World} {g : Nat} {f0 : ByteArray} {f1 : Int} {f2 : Int} {f3 : Int} (h : IsS71 w0 W g f0 f1 f2 f3) (x : Int) : IsS71 w0 (W.setCell ⟨g,3,none⟩ (.int .i64 x)) g f0 f1 f2 x:=by
 (obtain ⟨hb,hg⟩:=h);(exact ⟨by simpa using blk_set hb 3 (.int .i64 x),hg⟩)
def dep_reader_well.f (s0_0 : ByteArray) (s0_1 : Int) (s0_2 : Int) (s0_3 : Int) : Option (Bool × ByteArray × Int × Int × Int) := some ((s0_2 == 0 && (s0_3 == 0)), s0_0, s0_1, s0_2, s0_3)
set_option maxHeartbeats 8000000 in
set_option maxRecDepth 100000 in
theorem dep_reader_well.calls (g : Nat) (s0_0 : ByteArray) (s0_1 : Int) (s0_2 : Int) (s0_3 : Int) (r1 : Bool) (r2 : ByteArray) (r3 : Int) (r4 : Int) (r5 : Int) (w0 w : World) (hI : IsS71 w0 w g s0_0 s0_1 s0_2 s0_3) (hB : Below w0.heap.size w0 w) (h : dep_reader_well.f s0_0 s0_1 s0_2 s0_3 = some (r1,r2,r3,r4,r5)) :
  Calls Tryd.prog 31 #[.pointer (some ⟨g,0,none⟩)] w fun e w' => e = .returned (.bool r1)∧IsS71 w0 w' g r2 r3 r4 r5∧Below w0.heap.size w0 w'∧KeepBut w w' g none:=by
 (have hu39:=Tryd.underlying39);(have HI0:=Aside0.mk hI);(have HK:=Aside0.mk (KeepBut.refl w g none));(have HL:=Aside0.mk hB.size);(clear hI);(have HW0:=Aside0.mk hB.size);(have HB:=Aside0.mk hB);(clear hB);(have H : (some ((s0_2 == 0 && (s0_3 == 0)),s0_0,s0_1,s0_2,s0_3)) = some (r1,r2,r3,r4,r5):=h);(clear h);(simp only [Option.some.injEq,Prod.mk.injEq] at H);(obtain ⟨rfl,rfl,rfl,rfl,rfl⟩:=H);(obtain ⟨HGz2,hgz2⟩:=HI0.out);(have hcz2_0:=cellS71_0 HGz2);(have hcz2_1:=cellS71_1 HGz2);(have hcz2_2:=cellS71_2 HGz2);(have hcz2_3:=cellS71_3 HGz2);(have hfz2_0:=blk_frozen HGz2 0);(have hfz2_1:=blk_frozen HGz2 1);(have hfz2_2:=blk_frozen HGz2 2);(have hfz2_3:=blk_frozen HGz2 3);(clear HGz2 hgz2);(go_enter Tryd.func31,Tryd.ntmps31);(go_wp2);(go_ret);(exact ⟨by first|rfl|(simp [errW_none,errW_some] <;> rfl)|(simp [*,errW_none,errW_some] <;> rfl),by repeat (first|(with_reducible first|exact HI0.out|apply IsS71.alloc|apply IsS71.drewN|apply IsS71.drew|apply IsS71.set_0|apply IsS71.set_1|apply IsS71.set_2|apply IsS71.set_3)|exact HI0.out),by repeat (first|(with_reducible first|exact HB.out|apply below_alloc|apply pw_below_drewN|apply below_drew1|refine below_set ?_ (IsS71.ge HI0.out))|exact HB.out),by repeat (first|(with_reducible first|exact HK.out|apply KeepBut.set_|apply keep_drewN|apply keep_drew|apply keep_alloc)|exact HK.out)⟩)
def dep_reader_next.f (s0_0 : ByteArray) (s0_1 : Int) (s0_2 : Int) (s0_3 : Int) : Option (Int × ByteArray × Int × Int × Int) := if s0_1 = (s0_0.size : Int) then (some (0, s0_0, s0_1, s0_2, s0_3)) else (if 0 ≤ s0_1 then (if s0_1 < (s0_0.size : Int) then (some (bt s0_0 s0_1, s0_0, s0_1, s0_2, s0_3)) else (none)) else (none))
set_option maxHeartbeats 8000000 in
set_option maxRecDepth 100000 in
theorem dep_reader_next.calls (g : Nat) (s0_0 : ByteArray) (s0_1 : Int) (s0_2 : Int) (s0_3 : Int) (r1 : Int) (r2 : ByteArray) (r3 : Int) (r4 : Int) (r5 : Int) (w0 w : World) (hI : IsS71 w0 w g s0_0 s0_1 s0_2 s0_3) (hB : Below w0.heap.size w0 w) (h : dep_reader_next.f s0_0 s0_1 s0_2 s0_3 = some (r1,r2,r3,r4,r5)) :
  Calls Tryd.prog 32 #[.pointer (some ⟨g,0,none⟩)] w fun e w' => e = .returned (.int .u8 r1)∧IsS71 w0 w' g r2 r3 r4 r5∧Below w0.heap.size w0 w'∧KeepBut w w' g none:=by
 (have HI0:=Aside0.mk hI);(have HK:=Aside0.mk (KeepBut.refl w g none));(have HL:=Aside0.mk hB.size);(clear hI);(have HW0:=Aside0.mk hB.size);(have HB:=Aside0.mk hB);(clear hB);(have H : (if s0_1 = (s0_0.size : Int) then (some (0,s0_0,s0_1,s0_2,s0_3)) else (if 0 ≤ s0_1 then (if s0_1 < (s0_0.size : Int) then (some (bt s0_0 s0_1,s0_0,s0_1,s0_2,s0_3)) else (none)) else (none))) = some (r1,r2,r3,r4,r5):=h);(clear h);(by_cases c2 : s0_1 = (s0_0.size : Int))
 ·(rw [if_pos c2] at H);(have c2b0 : (s0_1 == (s0_0.size : Int)) = true:=beq_iff_eq.mpr c2);(have c2b1 : (s0_1 != (s0_0.size : Int)) = false:=bne_eq_false_iff_eq.mpr c2);(clear c2);(simp only [Option.some.injEq,Prod.mk.injEq] at H);(obtain ⟨rfl,rfl,rfl,rfl,rfl⟩:=H);(obtain ⟨HGz3,hgz3⟩:=HI0.out);(have hcz3_0:=cellS71_0 HGz3);(have hcz3_1:=cellS71_1 HGz3);(have hcz3_2:=cellS71_2 HGz3);(have hcz3_3:=cellS71_3 HGz3);(have hfz3_0:=blk_frozen HGz3 0);(have hfz3_1:=blk_frozen HGz3 1);(have hfz3_2:=blk_frozen HGz3 2);(have hfz3_3:=blk_frozen HGz3 3);(clear HGz3 hgz3);(go_enter Tryd.func32,Tryd.ntmps32);(go_wp2)
  repeat (go_quiet (fail);try go_wp2)
  (go_ret);(exact ⟨by first|rfl|(simp [errW_none,errW_some] <;> rfl)|(simp [*,errW_none,errW_some] <;> rfl),by repeat (first|(with_reducible first|exact HI0.out|apply IsS71.alloc|apply IsS71.drewN|apply IsS71.drew|apply IsS71.set_0|apply IsS71.set_1|apply IsS71.set_2|apply IsS71.set_3)|exact HI0.out),by repeat (first|(with_reducible first|exact HB.out|apply below_alloc|apply pw_below_drewN|apply below_drew1|refine below_set ?_ (IsS71.ge HI0.out))|exact HB.out),by repeat (first|(with_reducible first|exact HK.out|apply KeepBut.set_|apply keep_drewN|apply keep_drew|apply keep_alloc)|exact HK.out)⟩)
 ·(rw [if_neg c2] at H);(have c2b0 : (s0_1 == (s0_0.size : Int)) = false:=beq_eq_false_iff_ne.mpr c2);(have c2b1 : (s0_1 != (s0_0.size : Int)) = true:=bne_iff_ne.mpr c2);(by_cases c4 : 0 ≤ s0_1)
  ·(rw [if_pos c4] at H);(have c4b0 : decide (0 ≤ s0_1) = true:=decide_eq_true c4);(clear c4);(by_cases c5 : s0_1 < (s0_0.size : Int))
   ·(rw [if_pos c5] at H);(have c5b0 : decide (s0_1 < (s0_0.size : Int)) = true:=decide_eq_true c5);(clear c5);(simp only [Option.some.injEq,Prod.mk.injEq] at H);(obtain ⟨rfl,rfl,rfl,rfl,rfl⟩:=H);(obtain ⟨HGz7,hgz7⟩:=HI0.out);(have hcz7_0:=cellS71_0 HGz7);(have hcz7_1:=cellS71_1 HGz7);(have hcz7_2:=cellS71_2 HGz7);(have hcz7_3:=cellS71_3 HGz7);(have hfz7_0:=blk_frozen HGz7 0);(have hfz7_1:=blk_frozen HGz7 1);(have hfz7_2:=blk_frozen HGz7 2);(have hfz7_3:=blk_frozen HGz7 3);(clear HGz7 hgz7);(have p6 : 0 ≤ (s0_1 : Int):=of_decide_eq_true (by first|(with_reducible assumption)|assumption));(have q6 : s0_1 < (s0_0.size : Int):=of_decide_eq_true (by first|(with_reducible assumption)|assumption));(have hx6:=bt_at s0_0 s0_1);(replace p6:=eq_true p6);(replace q6:=eq_true q6);(go_enter Tryd.func32,Tryd.ntmps32);(go_wp2)
    repeat (go_quiet (fail);try go_wp2)
    (go_ret);(exact ⟨by first|rfl|(simp [errW_none,errW_some] <;> rfl)|(simp [*,errW_none,errW_some] <;> rfl),by repeat (first|(with_reducible first|exact HI0.out|apply IsS71.alloc|apply IsS71.drewN|apply IsS71.drew|apply IsS71.set_0|apply IsS71.set_1|apply IsS71.set_2|apply IsS71.set_3)|exact HI0.out),by repeat (first|(with_reducible first|exact HB.out|apply below_alloc|apply pw_below_drewN|apply below_drew1|refine below_set ?_ (IsS71.ge HI0.out))|exact HB.out),by repeat (first|(with_reducible first|exact HK.out|apply KeepBut.set_|apply keep_drewN|apply keep_drew|apply keep_alloc)|exact HK.out)⟩)
   ·(rw [if_neg c5] at H);(exact absurd H (by simp))
  ·(rw [if_neg c4] at H);(exact absurd H (by simp))
def dep_reader_wrong.f (s0_0 : ByteArray) (s0_1 : Int) (s0_2 : Int) (s0_3 : Int) (a1 : Int) : Option (ByteArray × Int × Int × Int) := if (s0_2 == 0 && (s0_3 == 0)) = true then (if a1 = (s0_0.size : Int) then (some (s0_0, s0_1, 4, a1)) else (some (s0_0, s0_1, 3, a1))) else (some (s0_0, s0_1, s0_2, s0_3))
set_option maxHeartbeats 8000000 in
set_option maxRecDepth 100000 in
theorem dep_reader_wrong.calls (g : Nat) (s0_0 : ByteArray) (s0_1 : Int) (s0_2 : Int) (s0_3 : Int) (a1 : Int) (r1 : ByteArray) (r2 : Int) (r3 : Int) (r4 : Int) (w0 w : World) (hI : IsS71 w0 w g s0_0 s0_1 s0_2 s0_3) (hB : Below w0.heap.size w0 w) (h : dep_reader_wrong.f s0_0 s0_1 s0_2 s0_3 a1 = some (r1,r2,r3,r4)) :
  Calls Tryd.prog 33 #[.pointer (some ⟨g,0,none⟩),.int .i64 a1] w fun e w' => e = .returned (.tuple #[])∧IsS71 w0 w' g r1 r2 r3 r4∧Below w0.heap.size w0 w'∧KeepBut w w' g none:=by
 (have hu39:=Tryd.underlying39);(have HI0:=Aside0.mk hI);(have HK:=Aside0.mk (KeepBut.refl w g none));(have HL:=Aside0.mk hB.size);(clear hI);(have HW0:=Aside0.mk hB.size);(have HB:=Aside0.mk hB);(clear hB);(have H : (if (s0_2 == 0 && (s0_3 == 0)) = true then (if a1 = (s0_0.size : Int) then (some (s0_0,s0_1,4,a1)) else (some (s0_0,s0_1,3,a1))) else (some (s0_0,s0_1,s0_2,s0_3))) = some (r1,r2,r3,r4):=h);(clear h);(by_cases c3 : (s0_2 == 0 && (s0_3 == 0)) = true)
 ·(rw [if_pos c3] at H);(have c3b0 : (s0_2 == 0 && (s0_3 == 0)) = true:=c3);((try (have c3b1 : decide (s0_2 = 0 && (s0_3 == 0)) = true:=by simpa using c3)));((try (have c3b2 : (s0_2 == 0 && (s0_3 == 0)) = true:=by simpa using c3)));(clear c3);(by_cases c4 : a1 = (s0_0.size : Int))
  ·(rw [if_pos c4] at H);(have c4b0 : (a1 == (s0_0.size : Int)) = true:=beq_iff_eq.mpr c4);(have c4b1 : (a1 != (s0_0.size : Int)) = false:=bne_eq_false_iff_eq.mpr c4);(clear c4);(simp only [Option.some.injEq,Prod.mk.injEq] at H);(obtain ⟨rfl,rfl,rfl,rfl⟩:=H);(obtain ⟨HGz5,hgz5⟩:=HI0.out);(have hcz5_0:=cellS71_0 HGz5);(have hcz5_1:=cellS71_1 HGz5);(have hcz5_2:=cellS71_2 HGz5);(have hcz5_3:=cellS71_3 HGz5);(have hfz5_0:=blk_frozen HGz5 0);(have hfz5_1:=blk_frozen HGz5 1);(have hfz5_2:=blk_frozen HGz5 2);(have hfz5_3:=blk_frozen HGz5 3);(clear HGz5 hgz5);(go_enter Tryd.func33,Tryd.ntmps33);(go_wp2)
   first|go_end0|((try simp only [Exit.inBlock,Exit.then]);refine bodyPost_ret (results_none rfl _ _ _) rfl ?_)
   (exact ⟨by first|rfl|(simp [errW_none,errW_some] <;> rfl)|(simp [*,errW_none,errW_some] <;> rfl),by repeat (first|(with_reducible first|exact HI0.out|apply IsS71.alloc|apply IsS71.drewN|apply IsS71.drew|apply IsS71.set_0|apply IsS71.set_1|apply IsS71.set_2|apply IsS71.set_3)|exact HI0.out),by repeat (first|(with_reducible first|exact HB.out|apply below_alloc|apply pw_below_drewN|apply below_drew1|refine below_set ?_ (IsS71.ge HI0.out))|exact HB.out),by repeat (first|(with_reducible first|exact HK.out|apply KeepBut.set_|apply keep_drewN|apply keep_drew|apply keep_alloc)|exact HK.out)⟩)
  ·(rw [if_neg c4] at H);(have c4b0 : (a1 == (s0_0.size : Int)) = false:=beq_eq_false_iff_ne.mpr c4);(have c4b1 : (a1 != (s0_0.size : Int)) = true:=bne_iff_ne.mpr c4);(simp only [Option.some.injEq,Prod.mk.injEq] at H);(obtain ⟨rfl,rfl,rfl,rfl⟩:=H);(obtain ⟨HGz6,hgz6⟩:=HI0.out);(have hcz6_0:=cellS71_0 HGz6);(have hcz6_1:=cellS71_1 HGz6);(have hcz6_2:=cellS71_2 HGz6);(have hcz6_3:=cellS71_3 HGz6);(have hfz6_0:=blk_frozen HGz6 0);(have hfz6_1:=blk_frozen HGz6 1);(have hfz6_2:=blk_frozen HGz6 2);(have hfz6_3:=blk_frozen HGz6 3);(clear HGz6 hgz6);(go_enter Tryd.func33,Tryd.ntmps33);(go_wp2)
   first|go_end0|((try simp only [Exit.inBlock,Exit.then]);refine bodyPost_ret (results_none rfl _ _ _) rfl ?_)
   (exact ⟨by first|rfl|(simp [errW_none,errW_some] <;> rfl)|(simp [*,errW_none,errW_some] <;> rfl),by repeat (first|(with_reducible first|exact HI0.out|apply IsS71.alloc|apply IsS71.drewN|apply IsS71.drew|apply IsS71.set_0|apply IsS71.set_1|apply IsS71.set_2|apply IsS71.set_3)|exact HI0.out),by repeat (first|(with_reducible first|exact HB.out|apply below_alloc|apply pw_below_drewN|apply below_drew1|refine below_set ?_ (IsS71.ge HI0.out))|exact HB.out),by repeat (first|(with_reducible first|exact HK.out|apply KeepBut.set_|apply keep_drewN|apply keep_drew|apply keep_alloc)|exact HK.out)⟩)
 ·(rw [if_neg c3] at H);(have c3b0 : (s0_2 == 0 && (s0_3 == 0)) = false:=by simpa using c3);((try (have c3b1 : decide (s0_2 = 0 && (s0_3 == 0)) = false:=by simpa using c3)));((try (have c3b2 : (s0_2 == 0 && (s0_3 == 0)) = false:=by simpa using c3)));((try (have c3b3 : ¬ (s0_2 = 0 && (s0_3 == 0)):=by simpa using c3)));(clear c3);(simp only [Option.some.injEq,Prod.mk.injEq] at H);(obtain ⟨rfl,rfl,rfl,rfl⟩:=H);(obtain ⟨HGz7,hgz7⟩:=HI0.out);(have hcz7_0:=cellS71_0 HGz7);(have hcz7_1:=cellS71_1 HGz7);(have hcz7_2:=cellS71_2 HGz7);(have hcz7_3:=cellS71_3 HGz7);(have hfz7_0:=blk_frozen HGz7 0);(have hfz7_1:=blk_frozen HGz7 1);(have hfz7_2:=blk_frozen HGz7 2);(have hfz7_3:=blk_frozen HGz7 3);(clear HGz7 hgz7);(go_enter Tryd.func33,Tryd.ntmps33);(go_wp2)
  first|go_end0|((try simp only [Exit.inBlock,Exit.then]);refine bodyPost_ret (results_none rfl _ _ _) rfl ?_)
  (exact ⟨by first|rfl|(simp [errW_none,errW_some] <;> rfl)|(simp [*,errW_none,errW_some] <;> rfl),by repeat (first|(with_reducible first|exact HI0.out|apply IsS71.alloc|apply IsS71.drewN|apply IsS71.drew|apply IsS71.set_0|apply IsS71.set_1|apply IsS71.set_2|apply IsS71.set_3)|exact HI0.out),by repeat (first|(with_reducible first|exact HB.out|apply below_alloc|apply pw_below_drewN|apply below_drew1|refine below_set ?_ (IsS71.ge HI0.out))|exact HB.out),by repeat (first|(with_reducible first|exact HK.out|apply KeepBut.set_|apply keep_drewN|apply keep_drew|apply keep_alloc)|exact HK.out)⟩)
end Go.Proofs.YtknbnnpggdegmaaDoor.PD
end
section
namespace Go.Proofs.YtknbnnpggdegmaaDoor.PD
open Go.RowKit Go.Proofs.YtknbnnpggdegmaaDoor.Lib Go.Proofs.YtknbnnpggdegmaaDoorW.PrintWords Go.Proofs.YtknbnnpggdegmaaDoorW.PrintLast Go.Proofs.YtknbnnpggdegmaaDoorW.PrintMore
attribute [local go_sem] max2_int min2_int max_two min_two max_three min_three max_four min_four   
set_option linter.unusedVariables false
set_option linter.unusedSimpArgs false
def dep_reader_take.l0 : Nat → Int → Int → Int → ByteArray → Int → Int → Int → Option (ByteArray × ByteArray × Int × Int × Int)
 | 0, _, _, _, _, _, _, _ => none
 | k + 1, x1, x2, x7, x1000, x1001, x1002, x1003 => if x1001 < (x1000.size : Int) then (if 0 ≤ x1001 then (if (bt x1000 x1001) ≥ x1 then (if (bt x1000 x1001) ≤ x2 then (dep_reader_take.l0 k x1 x2 x7 x1000 (wrap64 (x1001 + 1)) x1002 x1003) else (if 0 ≤ x7 then (if x7 ≤ x1001 then (if x1001 ≤ (x1000.size : Int) then (some (x1000.extract (x7 : Int).toNat (x1001 : Int).toNat, x1000, x1001, x1002, x1003)) else (none)) else (none)) else (none))) else (if 0 ≤ x7 then (if x7 ≤ x1001 then (if x1001 ≤ (x1000.size : Int) then (some (x1000.extract (x7 : Int).toNat (x1001 : Int).toNat, x1000, x1001, x1002, x1003)) else (none)) else (none)) else (none))) else (none)) else (if 0 ≤ x7 then (if x7 ≤ x1001 then (if x1001 ≤ (x1000.size : Int) then (some (x1000.extract (x7 : Int).toNat (x1001 : Int).toNat, x1000, x1001, x1002, x1003)) else (none)) else (none)) else (none))
def dep_reader_take.f (k : Nat) (s0_0 : ByteArray) (s0_1 : Int) (s0_2 : Int) (s0_3 : Int) (a1 : Int) (a2 : Int) : Option (ByteArray × ByteArray × Int × Int × Int) := dep_reader_take.l0 k a1 a2 s0_1 s0_0 s0_1 s0_2 s0_3
theorem dep_reader_take.mono_l : ∀ k,(∀ y0 y1 y2 y3 y4 y5 y6,LeO (dep_reader_take.l0 k y0 y1 y2 y3 y4 y5 y6) (dep_reader_take.l0 (k + 1) y0 y1 y2 y3 y4 y5 y6))
|0 => fun _ _ _ _ _ _ _ r h => by simp [dep_reader_take.l0] at h
|k + 1 => by
  have ih0:=dep_reader_take.mono_l k
  ·intro y0 y1 y2 y3 y4 y5 y6
   unfold dep_reader_take.l0
   repeat' first
  |(with_reducible exact ih0 _ _ _ _ _ _ _)
  |(with_reducible exact LeO.refl _)
  |(with_reducible exact LeO.none _)
  |(with_reducible refine LeO.ite ?_ ?_)
  |(with_reducible refine LeO.bind ?_ (fun _ => ?_))
  |exact ih0 _ _ _ _ _ _ _
  |exact LeO.none _
  |refine LeO.ite ?_ ?_
  |refine LeO.bind ?_ (fun _ => ?_)
theorem dep_reader_take.mono : ∀ a0 a1 a2 a3 a4 a5 k,LeO (dep_reader_take.f k a0 a1 a2 a3 a4 a5) (dep_reader_take.f (k + 1) a0 a1 a2 a3 a4 a5):=by
 (intro a0 a1 a2 a3 a4 a5 k);(have ih0:=dep_reader_take.mono_l k);(unfold dep_reader_take.f)
 repeat' first
  |(with_reducible exact ih0 _ _ _ _ _ _ _)
  |(with_reducible exact LeO.refl _)
  |(with_reducible exact LeO.none _)
  |(with_reducible refine LeO.ite ?_ ?_)
  |(with_reducible refine LeO.bind ?_ (fun _ => ?_))
  |exact ih0 _ _ _ _ _ _ _
  |exact LeO.none _
  |refine LeO.ite ?_ ?_
  |refine LeO.bind ?_ (fun _ => ?_)
set_option maxHeartbeats 8000000 in
set_option maxRecDepth 100000 in
theorem dep_reader_take.calls (k : Nat) (g : Nat) (s0_0 : ByteArray) (s0_1 : Int) (s0_2 : Int) (s0_3 : Int) (a1 : Int) (a2 : Int) (r1 : ByteArray) (r2 : ByteArray) (r3 : Int) (r4 : Int) (r5 : Int) (w0 w : World) (hI : IsS71 w0 w g s0_0 s0_1 s0_2 s0_3) (hB : Below w0.heap.size w0 w) (h : dep_reader_take.f k s0_0 s0_1 s0_2 s0_3 a1 a2 = some (r1,r2,r3,r4,r5)) :
  Calls Tryd.prog 43 #[.pointer (some ⟨g,0,none⟩),.int .u8 a1,.int .u8 a2] w fun e w' => e = .returned (.string r1)∧IsS71 w0 w' g r2 r3 r4 r5∧Below w0.heap.size w0 w'∧KeepBut w w' g none:=by
 (have HI0:=Aside0.mk hI);(have HK:=Aside0.mk (KeepBut.refl w g none));(have HL:=Aside0.mk hB.size);(clear hI);(have HW0:=Aside0.mk hB.size);(have HB:=Aside0.mk hB);(clear hB);(have H : (dep_reader_take.l0 k a1 a2 s0_1 s0_0 s0_1 s0_2 s0_3) = some (r1,r2,r3,r4,r5):=h);(clear h);(have H':=Aside0.mk H);(clear H);(obtain ⟨HGz4,hgz4⟩:=HI0.out);(have hcz4_0:=cellS71_0 HGz4);(have hcz4_1:=cellS71_1 HGz4);(have hcz4_2:=cellS71_2 HGz4);(have hcz4_3:=cellS71_3 HGz4);(have hfz4_0:=blk_frozen HGz4 0);(have hfz4_1:=blk_frozen HGz4 1);(have hfz4_2:=blk_frozen HGz4 2);(have hfz4_3:=blk_frozen HGz4 3);(clear HGz4 hgz4);(go_enter Tryd.func43,Tryd.ntmps43);(go_wp2)
 repeat (go_quiet (fail);try go_wp2)
 (go_loopg [] k (fun kq w' => ∃ (x1001_1 : Int),Aside0 (dep_reader_take.l0 kq a1 a2 s0_1 s0_0 x1001_1 s0_2 s0_3 = some (r1,r2,r3,r4,r5))∧Aside0 (kq ≤ k)∧Aside0 (IsS71 w0 w' g s0_0 x1001_1 s0_2 s0_3)∧Aside0 (KeepBut w w' g none)∧Aside0 (Below w0.heap.size w0 w')))
 case atStart => exact ⟨(s0_1),H',⟨Nat.le_refl _⟩,⟨by repeat (first|(with_reducible first|exact HI0.out|apply IsS71.alloc|apply IsS71.drewN|apply IsS71.drew|apply IsS71.set_0|apply IsS71.set_1|apply IsS71.set_2|apply IsS71.set_3)|exact HI0.out)⟩,⟨by repeat (first|(with_reducible first|exact HK.out|apply KeepBut.set_|apply keep_drewN|apply keep_drew|apply keep_alloc)|exact HK.out)⟩,⟨by repeat (first|(with_reducible first|exact HB.out|apply below_alloc|apply pw_below_drewN|apply below_drew1|refine below_set ?_ (IsS71.ge HI0.out))|exact HB.out)⟩⟩
 case round =>
  (clear H');(try clear p2);(try clear c4);(try clear hcz4_0);(try clear hcz4_1);(try clear hcz4_2);(try clear hcz4_3);(try clear hfz4_0);(try clear hfz4_1);(try clear hfz4_2);(try clear hfz4_3);(obtain ⟨x1001_1,HA,HK1,HI0,HK,HB⟩:=hrel)
  cases gk with
 |zero => exact absurd HA.out (by simp [dep_reader_take.l0])
 |succ k1 =>
   (have H:=HA.out);(clear HA);(simp only [dep_reader_take.l0] at H);(by_cases c5 : x1001_1 < (s0_0.size : Int))
   ·(rw [if_pos c5] at H);(have c5b0 : decide (x1001_1 < (s0_0.size : Int)) = true:=decide_eq_true c5);(clear c5);(by_cases c6 : 0 ≤ x1001_1)
    ·(rw [if_pos c6] at H);(have c6b0 : decide (0 ≤ x1001_1) = true:=decide_eq_true c6);(clear c6);(by_cases c8 : (bt s0_0 x1001_1) ≥ a1)
     ·(rw [if_pos c8] at H);(have c8b0 : decide (a1 ≤ (bt s0_0 x1001_1)) = true:=decide_eq_true c8);(clear c8);(by_cases c10 : (bt s0_0 x1001_1) ≤ a2)
      ·(rw [if_pos c10] at H);(have c10b0 : decide ((bt s0_0 x1001_1) ≤ a2) = true:=decide_eq_true c10);(clear c10);(have H':=Aside0.mk H);(clear H);(obtain ⟨HGz11,hgz11⟩:=HI0.out);(have hcz11_0:=cellS71_0 HGz11);(have hcz11_1:=cellS71_1 HGz11);(have hcz11_2:=cellS71_2 HGz11);(have hcz11_3:=cellS71_3 HGz11);(have hfz11_0:=blk_frozen HGz11 0);(have hfz11_1:=blk_frozen HGz11 1);(have hfz11_2:=blk_frozen HGz11 2);(have hfz11_3:=blk_frozen HGz11 3);(clear HGz11 hgz11);(have p7 : 0 ≤ (x1001_1 : Int):=of_decide_eq_true (by first|(with_reducible assumption)|assumption));(have q7 : x1001_1 < (s0_0.size : Int):=of_decide_eq_true (by first|(with_reducible assumption)|assumption));(have hx7:=bt_at s0_0 x1001_1);(replace p7:=eq_true p7);(replace q7:=eq_true q7);(have p9 : 0 ≤ (x1001_1 : Int):=of_decide_eq_true (by first|(with_reducible assumption)|assumption));(have q9 : x1001_1 < (s0_0.size : Int):=of_decide_eq_true (by first|(with_reducible assumption)|assumption));(have hx9:=bt_at s0_0 x1001_1);(replace p9:=eq_true p9);(replace q9:=eq_true q9);(go_wp2)
       repeat (go_quiet (fail);try go_wp2)
       (go_roundg k1)
       case measure => have:=HK1.out;omega
       case rel => exact ⟨(wrap64 (x1001_1 + 1)),H',⟨by have:=HK1.out;omega⟩,⟨by repeat (first|(with_reducible first|exact HI0.out|apply IsS71.alloc|apply IsS71.drewN|apply IsS71.drew|apply IsS71.set_0|apply IsS71.set_1|apply IsS71.set_2|apply IsS71.set_3)|exact HI0.out)⟩,⟨by repeat (first|(with_reducible first|exact HK.out|apply KeepBut.set_|apply keep_drewN|apply keep_drew|apply keep_alloc)|exact HK.out)⟩,⟨by repeat (first|(with_reducible first|exact HB.out|apply below_alloc|apply pw_below_drewN|apply below_drew1|refine below_set ?_ (IsS71.ge HI0.out))|exact HB.out)⟩⟩
      ·(rw [if_neg c10] at H);(have c10b0 : decide ((bt s0_0 x1001_1) ≤ a2) = false:=decide_eq_false c10);(clear c10);(by_cases c12 : 0 ≤ s0_1)
       ·(rw [if_pos c12] at H);(have c12b0:=eq_true c12);(have c12b1 : decide (0 ≤ s0_1) = true:=decide_eq_true c12);(clear c12);(by_cases c13 : s0_1 ≤ x1001_1)
        ·(rw [if_pos c13] at H);(have c13b0:=eq_true c13);(have c13b1 : decide (s0_1 ≤ x1001_1) = true:=decide_eq_true c13);(clear c13);(by_cases c14 : x1001_1 ≤ (s0_0.size : Int))
         ·(rw [if_pos c14] at H);(have c14b0:=eq_true c14);(have c14b1 : decide (x1001_1 ≤ (s0_0.size : Int)) = true:=decide_eq_true c14);(clear c14);(simp only [Option.some.injEq,Prod.mk.injEq] at H);(obtain ⟨rfl,rfl,rfl,rfl,rfl⟩:=H);(obtain ⟨HGz15,hgz15⟩:=HI0.out);(have hcz15_0:=cellS71_0 HGz15);(have hcz15_1:=cellS71_1 HGz15);(have hcz15_2:=cellS71_2 HGz15);(have hcz15_3:=cellS71_3 HGz15);(have hfz15_0:=blk_frozen HGz15 0);(have hfz15_1:=blk_frozen HGz15 1);(have hfz15_2:=blk_frozen HGz15 2);(have hfz15_3:=blk_frozen HGz15 3);(clear HGz15 hgz15);(have p7 : 0 ≤ (x1001_1 : Int):=of_decide_eq_true (by first|(with_reducible assumption)|assumption));(have q7 : x1001_1 < (s0_0.size : Int):=of_decide_eq_true (by first|(with_reducible assumption)|assumption));(have hx7:=bt_at s0_0 x1001_1);(replace p7:=eq_true p7);(replace q7:=eq_true q7);(have p9 : 0 ≤ (x1001_1 : Int):=of_decide_eq_true (by first|(with_reducible assumption)|assumption));(have q9 : x1001_1 < (s0_0.size : Int):=of_decide_eq_true (by first|(with_reducible assumption)|assumption));(have hx9:=bt_at s0_0 x1001_1);(replace p9:=eq_true p9);(replace q9:=eq_true q9);(go_wp2)
          repeat (go_quiet (fail);try go_wp2)
          (go_ret);(exact ⟨by first|rfl|(simp [errW_none,errW_some] <;> rfl)|(simp [*,errW_none,errW_some] <;> rfl),by repeat (first|(with_reducible first|exact HI0.out|apply IsS71.alloc|apply IsS71.drewN|apply IsS71.drew|apply IsS71.set_0|apply IsS71.set_1|apply IsS71.set_2|apply IsS71.set_3)|exact HI0.out),by repeat (first|(with_reducible first|exact HB.out|apply below_alloc|apply pw_below_drewN|apply below_drew1|refine below_set ?_ (IsS71.ge HI0.out))|exact HB.out),by repeat (first|(with_reducible first|exact HK.out|apply KeepBut.set_|apply keep_drewN|apply keep_drew|apply keep_alloc)|exact HK.out)⟩)
         ·(rw [if_neg c14] at H);(exact absurd H (by simp))
        ·(rw [if_neg c13] at H);(exact absurd H (by simp))
       ·(rw [if_neg c12] at H);(exact absurd H (by simp))
     ·(rw [if_neg c8] at H);(have c8b0 : decide (a1 ≤ (bt s0_0 x1001_1)) = false:=decide_eq_false c8);(clear c8);(by_cases c16 : 0 ≤ s0_1)
      ·(rw [if_pos c16] at H);(have c16b0:=eq_true c16);(have c16b1 : decide (0 ≤ s0_1) = true:=decide_eq_true c16);(clear c16);(by_cases c17 : s0_1 ≤ x1001_1)
       ·(rw [if_pos c17] at H);(have c17b0:=eq_true c17);(have c17b1 : decide (s0_1 ≤ x1001_1) = true:=decide_eq_true c17);(clear c17);(by_cases c18 : x1001_1 ≤ (s0_0.size : Int))
        ·(rw [if_pos c18] at H);(have c18b0:=eq_true c18);(have c18b1 : decide (x1001_1 ≤ (s0_0.size : Int)) = true:=decide_eq_true c18);(clear c18);(simp only [Option.some.injEq,Prod.mk.injEq] at H);(obtain ⟨rfl,rfl,rfl,rfl,rfl⟩:=H);(obtain ⟨HGz19,hgz19⟩:=HI0.out);(have hcz19_0:=cellS71_0 HGz19);(have hcz19_1:=cellS71_1 HGz19);(have hcz19_2:=cellS71_2 HGz19);(have hcz19_3:=cellS71_3 HGz19);(have hfz19_0:=blk_frozen HGz19 0);(have hfz19_1:=blk_frozen HGz19 1);(have hfz19_2:=blk_frozen HGz19 2);(have hfz19_3:=blk_frozen HGz19 3);(clear HGz19 hgz19);(have p7 : 0 ≤ (x1001_1 : Int):=of_decide_eq_true (by first|(with_reducible assumption)|assumption));(have q7 : x1001_1 < (s0_0.size : Int):=of_decide_eq_true (by first|(with_reducible assumption)|assumption));(have hx7:=bt_at s0_0 x1001_1);(replace p7:=eq_true p7);(replace q7:=eq_true q7);(go_wp2)
         repeat (go_quiet (fail);try go_wp2)
         (go_ret);(exact ⟨by first|rfl|(simp [errW_none,errW_some] <;> rfl)|(simp [*,errW_none,errW_some] <;> rfl),by repeat (first|(with_reducible first|exact HI0.out|apply IsS71.alloc|apply IsS71.drewN|apply IsS71.drew|apply IsS71.set_0|apply IsS71.set_1|apply IsS71.set_2|apply IsS71.set_3)|exact HI0.out),by repeat (first|(with_reducible first|exact HB.out|apply below_alloc|apply pw_below_drewN|apply below_drew1|refine below_set ?_ (IsS71.ge HI0.out))|exact HB.out),by repeat (first|(with_reducible first|exact HK.out|apply KeepBut.set_|apply keep_drewN|apply keep_drew|apply keep_alloc)|exact HK.out)⟩)
        ·(rw [if_neg c18] at H);(exact absurd H (by simp))
       ·(rw [if_neg c17] at H);(exact absurd H (by simp))
      ·(rw [if_neg c16] at H);(exact absurd H (by simp))
    ·(rw [if_neg c6] at H);(exact absurd H (by simp))
   ·(rw [if_neg c5] at H);(have c5b0 : decide (x1001_1 < (s0_0.size : Int)) = false:=decide_eq_false c5);(clear c5);(by_cases c20 : 0 ≤ s0_1)
    ·(rw [if_pos c20] at H);(have c20b0:=eq_true c20);(have c20b1 : decide (0 ≤ s0_1) = true:=decide_eq_true c20);(clear c20);(by_cases c21 : s0_1 ≤ x1001_1)
     ·(rw [if_pos c21] at H);(have c21b0:=eq_true c21);(have c21b1 : decide (s0_1 ≤ x1001_1) = true:=decide_eq_true c21);(clear c21);(by_cases c22 : x1001_1 ≤ (s0_0.size : Int))
      ·(rw [if_pos c22] at H);(have c22b0:=eq_true c22);(have c22b1 : decide (x1001_1 ≤ (s0_0.size : Int)) = true:=decide_eq_true c22);(clear c22);(simp only [Option.some.injEq,Prod.mk.injEq] at H);(obtain ⟨rfl,rfl,rfl,rfl,rfl⟩:=H);(obtain ⟨HGz23,hgz23⟩:=HI0.out);(have hcz23_0:=cellS71_0 HGz23);(have hcz23_1:=cellS71_1 HGz23);(have hcz23_2:=cellS71_2 HGz23);(have hcz23_3:=cellS71_3 HGz23);(have hfz23_0:=blk_frozen HGz23 0);(have hfz23_1:=blk_frozen HGz23 1);(have hfz23_2:=blk_frozen HGz23 2);(have hfz23_3:=blk_frozen HGz23 3);(clear HGz23 hgz23);(go_wp2)
       repeat (go_quiet (fail);try go_wp2)
       (go_ret);(exact ⟨by first|rfl|(simp [errW_none,errW_some] <;> rfl)|(simp [*,errW_none,errW_some] <;> rfl),by repeat (first|(with_reducible first|exact HI0.out|apply IsS71.alloc|apply IsS71.drewN|apply IsS71.drew|apply IsS71.set_0|apply IsS71.set_1|apply IsS71.set_2|apply IsS71.set_3)|exact HI0.out),by repeat (first|(with_reducible first|exact HB.out|apply below_alloc|apply pw_below_drewN|apply below_drew1|refine below_set ?_ (IsS71.ge HI0.out))|exact HB.out),by repeat (first|(with_reducible first|exact HK.out|apply KeepBut.set_|apply keep_drewN|apply keep_drew|apply keep_alloc)|exact HK.out)⟩)
      ·(rw [if_neg c22] at H);(exact absurd H (by simp))
     ·(rw [if_neg c21] at H);(exact absurd H (by simp))
    ·(rw [if_neg c20] at H);(exact absurd H (by simp))
end Go.Proofs.YtknbnnpggdegmaaDoor.PD
end
