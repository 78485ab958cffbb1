/- Part 3 of the proof. -/
import Derived.Test.YtcpikafmclfcfaaDoorProg
import Derived.Test.YtcpikafmclfcfaaDoorZ02
import Derived.Test.YtcpikafmclfcfaaDoorZ01
import Derived.WalkSmall
import Derived.Lib.LaidTab
import Derived.Lib.ItoaNum
import Derived.Lib.AtoiAll
import Derived.Lib.Join
import Derived.DataReads
import Derived.DataElems
import Derived.ChangeOld
import Derived.Below
import Derived.Deep.Draws
import Derived.Deep.AppendLies
import Derived.Maps.AppendAt
import Derived.OwnWalk
import Derived.Laws.BytesArg
import Derived.Laws.MakeOwn
import Derived.Laws.OwnMore
import Derived.Deep.OwnRows
import Derived.Tactics
import Derived.Lib.ConvBytes
import Derived.Laws.Slices
import Derived.WalkKit
import Derived.KernelRfl
import Derived.RowKit3
import Derived.Deep.LoopGhost
import Derived.Deep.QuietTactic
import Derived.BigQuiet
import Derived.WideLaws
import Derived.Deep.DeepCutAuto
import Derived.Deep.CutBlock
import Derived.Deep.RegionHeld3
import Derived.Laws.Rows
import Derived.Lib.AppendStr
import Derived.ArgAppend
import Derived.Laws.IdiomCopy
import Derived.OrdersHeld
import Derived.Laws.BitsLemmas
import Derived.RowKit
import Derived.Lib.Bytealg
import Derived.LoopN
import Derived.RegionTactic
import Derived.RegionCalls
import Derived.Maps.OwnSet
import Derived.Maps.OwnOps
import Derived.DeepKeys4
import Derived.WideKeyEntry
import Derived.IntWalk
import Derived.Lib.Strings
import Derived.Shelf.SlSortCmp.WholeK
import Derived.RangeFuncGives
import Derived.RangeFuncSeq
import Derived.Sort.MapsRangeIn
import Derived.OwnWalkIn
import Derived.TacticsInMore
import Derived.RegionIn
import Derived.LoopNIn
import Derived.LoopIn
import Derived.Shelf.Abstract
import Derived.RangeFuncOwn
import Derived.RangeFuncBound
import Derived.RangeFuncCalls
import Derived.RangeFuncLeaves
import Derived.RangeFuncFrom
import Derived.Ground.SlsfProg
import Derived.Shelf.GgSortFunc.RowK
import Derived.Lib.OwnBridge
import Derived.Shelf.SlSortCmp.NoneTotal
section
namespace Go.Proofs.YtcpikafmclfcfaaDoor.Lib
open Go.RowKit Go.Proofs.YtcpikafmclfcfaaDoorW.PrintWords
set_option linter.unusedVariables false
set_option linter.unusedSimpArgs false
structure Glob (w : World) : Prop where mk ::
  tab : Go.Lib.TabIs Tryd.prog w "internal/strconv.uint64pow10" .u64 Go.Lib.pow10Tab
  syn : ∃ tp p, w.var? Tryd.prog "strconv.ErrSyntax" = some #[.iface tp p]
  ran : ∃ tp p, w.var? Tryd.prog "strconv.ErrRange" = some #[.iface tp p]
theorem g_tab : Tryd.prog.globalNamed "internal/strconv.uint64pow10" = some 5 := by kernel_rfl
theorem g_syn : Tryd.prog.globalNamed "strconv.ErrSyntax" = some 1 := by kernel_rfl
theorem g_ran : Tryd.prog.globalNamed "strconv.ErrRange" = some 2 := by kernel_rfl
theorem var_lt {w : World} {n : String} {g : Nat} {cs : Array Value} (hg : Tryd.prog.globalNamed n = some g) (hv : w.var? Tryd.prog n = some cs) : g < w.heap.size := by
  unfold World.var? at hv
  simp only [hg, Option.bind_some] at hv
  cases h : w.heap[g]? with
  | none => rw [h] at hv; cases hv
  | some o => exact (Array.getElem?_eq_some_iff.1 h).1
theorem Glob.below {w w' : World} (h : Glob w) (hb : Below w.heap.size w w') : Glob w' := by
  obtain ⟨h1, ⟨t2, p2, h2⟩, ⟨t3, p3, h3⟩⟩ := h
  exact ⟨var?_below hb g_tab (var_lt g_tab h1) h1, ⟨t2, p2, var?_below hb g_syn (var_lt g_syn h2) h2⟩, ⟨t3, p3, var?_below hb g_ran (var_lt g_ran h3) h3⟩⟩
theorem below_grow (w : World) (k : Nat) (os : Array Obj) : Below w.heap.size w (Go.Sort.grow (w.drewN k) os) :=
  ⟨rfl, rfl, rfl, by show w.heap.size ≤ (w.heap ++ os).size; rw [Array.size_append]; omega, fun j hj => by show (w.heap ++ os)[j]? = _; rw [Array.getElem?_append, if_pos hj]⟩
def strconv_Itoa.f (a0 : Int) : Option ByteArray := if -9223372036854775808 ≤ a0 ∧ a0 ≤ 9223372036854775807 then some ⟨(Go.Lib.itoa a0).toArray⟩ else none
theorem strconv_Itoa.calls (a0 : Int) (r : ByteArray) (w : World) (h : strconv_Itoa.f a0 = some r) (hG : Glob w) :
    Calls Tryd.prog 38 #[.int .i64 a0] w fun e w' => e = .returned (.string r) ∧ Below w.heap.size w w' := by
  unfold strconv_Itoa.f at h
  split at h
  · rename_i hb
    cases h
    refine (Tryd.strconv_Itoa a0 hb.1 hb.2 w hG.tab).mono ?_
    rintro e w' ⟨rfl, k, os, rfl⟩
    exact ⟨rfl, below_grow w k os⟩
  · cases h
def atoiVal (l : List UInt8) : Int := match Go.Lib.atoiAll l with | .ok v => v | .range => Go.Lib.atoiSat l | _ => 0
def atoiOk (l : List UInt8) : Bool := match Go.Lib.atoiAll l with | .ok _ => true | _ => false
theorem strconv_Atoi_any (s : ByteArray) (hs : s.size ≤ 281474976710656) (w : World) (hG : Glob w) :
    Calls Tryd.prog 35 #[.string s] w fun e w' => ∃ ev, e = .returned (.tuple #[.int .i64 (atoiVal s.data.toList), ev]) ∧ (atoiOk s.data.toList = true → ev = .nilIface) ∧ (atoiOk s.data.toList = false → ∃ t p, ev = .iface t (.pointer (some p))) ∧ Below w.heap.size w w' := by
  obtain ⟨_, ⟨t2, p2, h2⟩, ⟨t3, p3, h3⟩⟩ := hG
  unfold atoiVal atoiOk
  cases h : Go.Lib.atoiAll s.data.toList with
  | ok v =>
    refine (Tryd.strconv_Atoi_ok s (by omega) v h w).mono ?_
    rintro e w' ⟨rfl, hw⟩
    refine ⟨_, rfl, fun _ => rfl, fun h => by simp at h, ?_⟩
    rcases hw with rfl | ⟨t, rfl⟩
    · exact Below.refl _ _
    · exact bytes_below (Below.refl _ _) (Nat.le_refl _) _ _
  | range =>
    refine (Tryd.strconv_Atoi_range_var s hs h t3 p3 w h3).mono ?_
    rintro e w' ⟨N, rfl, _, _, hb⟩
    exact ⟨_, rfl, fun h => by simp at h, fun _ => ⟨_, _, rfl⟩, hb⟩
  | _ =>
    refine (Tryd.strconv_Atoi_syntax_var s hs h t2 p2 w h2).mono ?_
    rintro e w' ⟨N, rfl, _, _, hb⟩
    exact ⟨_, rfl, fun h => by simp at h, fun _ => ⟨_, _, rfl⟩, hb⟩
def strings_Join.f (l : List ByteArray) (s : ByteArray) : Option ByteArray :=
  if l.length ≤ 140737488355328 ∧ (Go.Lib.join (l.map (·.data.toList)) s.data.toList).length ≤ 140737488355328 then some ⟨(Go.Lib.join (l.map (·.data.toList)) s.data.toList).toArray⟩ else none
theorem strings_Join.calls (A0 : Option Addr) (c0 : Nat) (l0 : List ByteArray) (a1 : ByteArray) (r : ByteArray) (w : World) (hr0 : Kd.C Kd.string w A0 l0.length l0) (hc0 : l0.length ≤ c0) (h : strings_Join.f l0 a1 = some r) :
    Calls Tryd.prog 39 #[.slice A0 l0.length c0, .string a1] w fun e w' => e = .returned (.string r) ∧ Below w.heap.size w w' := by
  unfold strings_Join.f at h
  split at h
  · rename_i hb
    cases h
    cases l0 with
    | nil =>
      refine (Tryd.strings_Join_none A0 c0 a1 w).mono ?_
      rintro e w' ⟨rfl, rfl⟩
      exact ⟨rfl, Below.refl _ _⟩
    | cons x l =>
      obtain ⟨_, _, hc1⟩ := hr0
      obtain ⟨ad, rfl, hc⟩ := hc1 (by simp)
      clear hc1
      have hcell : ∀ (j : Nat) y, (x :: l)[j]? = some y → w.cell? (ad.add j) = some (.string y) := fun j y hj => by
        obtain ⟨c, hl, rfl, hcc⟩ := hc j y hj
        have := hcc 0 _ rfl
        rwa [show j * Kd.string.sz + 0 = j from by simp [Kd.string, Kd.scalar]] at this
      obtain ⟨bk, o, sp⟩ := ad
      have h0 := hcell 0 x rfl
      have hsp : sp = none := by
        cases sp with
        | none => rfl
        | some z => simp [Addr.add, World.cell?] at h0; split at h0 <;> simp at h0
      subst hsp
      have hbk : bk < w.heap.size := by have := World.block_lt_of_cell? w _ h0; simpa [Addr.add] using this
      exact Tryd.strings_Join bk o c0 (x :: l) a1 w (fun j y hj => by have := hcell j y hj; unfold Addr.add at this; split at this <;> simp_all) hbk hb.1 hc0 hb.2
  · cases h
end Go.Proofs.YtcpikafmclfcfaaDoor.Lib
end
section
namespace Go.Proofs.YtcpikafmclfcfaaDoor.Op
open Go.RowKit Go.Proofs.YtcpikafmclfcfaaDoorW.PrintWords Go.Proofs.YtcpikafmclfcfaaDoorW.PrintLast Go.Proofs.YtcpikafmclfcfaaDoorW.PrintMore
set_option linter.unusedVariables false
set_option linter.unusedSimpArgs false
def Opens {α : Type} (P : Program) (t : TypeId) (K : World → α → List Value → Prop) (G : α → Prop) : Prop :=
  ∀ (H : Type) (enc : TypeId × Value → H) (w : World) (fuel : Nat) (cs : List Value) (d : DataW H) (ps : List MemPlace), DataW.trod enc P w 0 (fun _ => true) true fuel t cs = some (d, ps) → ∃ x, K w x cs ∧ G x
theorem opens_int {P : Program} {t : TypeId} {k : IntKind} (hu : P.underlying t = some (.int k)) : Opens P t (Kd.int k).K (fun n => (Lit.int k n).wf = true) := by
  intro H enc w fuel cs d ps h
  cases fuel with
  | zero => simp [DataW.trod] at h
  | succ m =>
    unfold DataW.trod at h
    simp only [hu] at h
    split at h <;> first | cases h; done | skip
    all_goals first
      | (rename_i k' n h1; injection h1 with h1; injection h1 with h1; subst h1; by_cases hc : k' = k ∧ (Lit.int k n).wf = true
         · obtain ⟨rfl, hw⟩ := hc
           exact ⟨_, rfl, hw⟩
         · rw [if_neg hc] at h
           cases h)
      | (rename_i k' n; by_cases hc : k' = k ∧ (Lit.int k n).wf = true
         · obtain ⟨rfl, hw⟩ := hc
           exact ⟨_, rfl, hw⟩
         · rw [if_neg hc] at h
           cases h)
      | (rename_i h1; cases h1)
      | (rename_i h1 h2; cases h1)
      | cases h
theorem choose_list {α : Type} (Pr : Nat → α → Prop) : ∀ (n : Nat), (∀ i, i < n → ∃ x, Pr i x) → ∃ xs : List α, xs.length = n ∧ ∀ j x, xs[j]? = some x → Pr j x
  | 0, _ => ⟨[], rfl, fun j x h => by simp at h⟩
  | n + 1, h => by
    obtain ⟨xs, hl, hx⟩ := choose_list Pr n (fun i hi => h i (by omega))
    obtain ⟨y, hy⟩ := h n (by omega)
    refine ⟨xs ++ [y], by simp [hl], fun j x hj => ?_⟩
    rcases Nat.lt_or_ge j n with hlt | hge
    · rw [List.getElem?_append_left (by omega)] at hj
      exact hx j x hj
    · rw [List.getElem?_append_right (by omega)] at hj
      obtain rfl : j = n := by
        have : j - xs.length < 1 := by
          have := (List.getElem?_eq_some_iff.1 hj).1
          simpa using this
        omega
      rw [hl, Nat.sub_self] at hj
      simp only [List.getElem?_cons_zero, Option.some.injEq] at hj
      subst hj
      exact hy
theorem opens_slice {α : Type} {P : Program} {t e : TypeId} {d : Kd α} {G : α → Prop} (q : Nat) (hu : P.underlying t = some (.slice e)) (hz : P.cellsOf e = d.sz) (hd : Opens P e d.K G) :
    Opens P t (Kd.slice q d).K (fun l => l.length ≤ maxLen ∧ ∀ x ∈ l, G x) := by
  intro H enc w fuel cs dd ps h
  cases fuel with
  | zero => simp [DataW.trod] at h
  | succ m =>
    unfold DataW.trod at h
    simp only [hu] at h
    split at h
    case h_7 => exact ⟨[], ⟨none, 0, rfl, Nat.le_refl _, ⟨rfl, Nat.zero_le _, fun h => absurd h (Nat.lt_irrefl _)⟩⟩, Nat.zero_le _, fun x hx => absurd hx List.not_mem_nil⟩
    case h_8 _ e' a len cap h1 =>
      injection h1 with h1
      injection h1 with h1
      subst h1
      split at h
      case isFalse => cases h
      case isTrue hc =>
        obtain ⟨hb, hlc, hcm⟩ := hc
        obtain ⟨elems, hm, h⟩ := Option.bind_eq_some_iff.1 h
        have hel : ∀ i, i < len → ∃ x, (G x ∧ ∃ c, c.length = d.sz ∧ d.K w x c ∧ ∀ i' u, c[i']? = some u → w.cell? (a.add (i * d.sz + i')) = some u) := by
          intro i hi
          have hg := mapM_some_get hm i i (by simp [hi])
          have hln : elems.length = (List.range len).length := mapM_some_length hm
          simp only [List.length_range] at hln
          rw [List.getElem?_eq_getElem (by omega)] at hg
          obtain ⟨c, hc1, hc2⟩ := Option.bind_eq_some_iff.1 hg
          obtain ⟨x, hx, hGx⟩ := hd H enc w m c _ _ hc2
          rw [hz] at hc1
          unfold World.cells? at hc1
          split at hc1
          case isFalse => cases hc1
          case isTrue =>
            have hcl : c.length = (List.range d.sz).length := mapM_some_length hc1
            simp only [List.length_range] at hcl
            refine ⟨x, hGx, c, hcl, hx, fun i' u hu' => ?_⟩
            have hlt := (List.getElem?_eq_some_iff.1 hu').1
            have hg' := mapM_some_get hc1 i' i' (show (List.range d.sz)[i']? = some i' from List.getElem?_range (by omega))
            rw [hu'] at hg'
            rw [← hg', show (a.add (i * d.sz)).add i' = a.add (i * d.sz + i') from Addr.add_add _ _ _]
        obtain ⟨xs, hxl, hxs⟩ := choose_list _ len hel
        subst hxl
        refine ⟨xs, ⟨some a, cap, rfl, hlc, ⟨rfl, Nat.le_trans hlc (Nat.le_trans hcm (by decide)), fun _ => ⟨a, rfl, fun j p hj => ?_⟩⟩⟩, Nat.le_trans hlc hcm, fun x hx => ?_⟩
        · obtain ⟨_, c, h1, h2, h3⟩ := hxs j p hj
          exact ⟨c, h1, h2, h3⟩
        · obtain ⟨j, hj⟩ := List.getElem?_of_mem hx
          exact (hxs j x hj).1
    all_goals first | cases h; done | (rename_i h1 h2; cases h1; done) | (rename_i h1; cases h1; done) | skip
def OpensF {α : Type} (P : Program) (off sz : Nat) (fs : List Field) (K : World → α → List Value → Prop) (G : α → Prop) : Prop :=
  ∀ (H : Type) (enc : TypeId × Value → H) (w : World) (fuel : Nat) (cs : List Value) (xs : List (DataW H × List MemPlace)), cs.length = off + sz →
    fs.mapM (fun f => DataW.trod enc P w 0 (fun _ => true) true fuel f.type ((cs.drop f.offset).take (P.cellsOf f.type))) = some xs → ∃ x, K w x (cs.drop off) ∧ G x
theorem opensF_one {α : Type} {P : Program} {off sz : Nat} {f : Field} {K : World → α → List Value → Prop} {G : α → Prop} (t : TypeId) (ht : f.type = t) (ho : f.offset = off) (hz : P.cellsOf t = sz) (hd : Opens P t K G) : OpensF P off sz [f] K G := by
  intro H enc w fuel cs xs hl h
  subst ht
  rw [List.mapM_cons] at h
  obtain ⟨x, hx, h⟩ := Option.bind_eq_some_iff.1 h
  rw [ho, hz, List.take_of_length_le (by simp; omega)] at hx
  exact hd H enc w fuel _ x.1 x.2 hx
theorem opensF_cons {α β : Type} {P : Program} {off : Nat} {f : Field} {fs : List Field} {a : Kd α} {b : Kd β} {Ga : α → Prop} {Gb : β → Prop} (t : TypeId) (ht : f.type = t) (ho : f.offset = off) (hz : P.cellsOf t = a.sz) (hd : Opens P t a.K Ga)
    (hr : OpensF P (off + a.sz) b.sz fs b.K Gb) : OpensF P off (a.sz + b.sz) (f :: fs) (Kd.pair a b).K (fun x => Ga x.1 ∧ Gb x.2) := by
  intro H enc w fuel cs xs hl h
  subst ht
  rw [List.mapM_cons] at h
  obtain ⟨x, hx, h⟩ := Option.bind_eq_some_iff.1 h
  obtain ⟨ys, hy, _⟩ := Option.bind_eq_some_iff.1 h
  rw [ho, hz] at hx
  obtain ⟨u, hu, gu⟩ := hd H enc w fuel _ x.1 x.2 hx
  obtain ⟨v, hv, gv⟩ := hr H enc w fuel cs ys (by omega) hy
  refine ⟨(u, v), ⟨_, _, ?_, hu, hv⟩, gu, gv⟩
  rw [← List.drop_drop, List.take_append_drop]
theorem opens_struct {α : Type} {P : Program} {t : TypeId} {fs : Array Field} {sz : Nat} {K : World → α → List Value → Prop} {G : α → Prop} (hu : P.underlying t = some (.struct fs)) (hz : P.cellsOf t = sz) (hf : OpensF P 0 sz fs.toList K G) : Opens P t K G := by
  intro H enc w fuel cs d ps h
  cases fuel with
  | zero => simp [DataW.trod] at h
  | succ m =>
    unfold DataW.trod at h
    simp only [hu] at h
    split at h
    case isFalse => cases h
    case isTrue hl =>
      obtain ⟨xs, hx, _⟩ := Option.map_eq_some_iff.1 h
      obtain ⟨x, hk, hg⟩ := hf H enc w m cs xs (by omega) hx
      exact ⟨x, by simpa using hk, hg⟩
theorem opens_iso {α β : Type} {P : Program} {t : TypeId} {d : Kd α} {G : α → Prop} (f : β → α) (g : α → β) (hfg : ∀ x, f (g x) = x) (h : Opens P t d.K G) : Opens P t (Kd.iso d f).K (fun y => G (f y)) := by
  intro H enc w fuel cs dd ps hh
  obtain ⟨x, hx, gx⟩ := h H enc w fuel cs dd ps hh
  exact ⟨g x, by show d.K w (f (g x)) cs; rw [hfg]; exact hx, by show G (f (g x)); rw [hfg]; exact gx⟩
theorem opens_arg {α : Type} {P : Program} {t : TypeId} {K : World → α → List Value → Prop} {G : α → Prop} (h : Opens P t K G) {H : Type} {enc : TypeId × Value → H} {w : World} {v : Value} {d : DataW H} {ps : List MemPlace} (ht : DataW.Trod enc P w 0 (fun _ => true) true t v d ps) :
    ∃ x, K w x v.cells.toList ∧ G x := by
  obtain ⟨fuel, hf⟩ := ht
  exact h H enc w fuel _ d ps hf
theorem trod_lt {H : Type} {enc : TypeId × Value → H} {P : Program} {w : World} {t : TypeId} {v : Value} {d : DataW H} {ps : List MemPlace} (ht : DataW.Trod enc P w 0 (fun _ => true) true t v d ps) : ∀ x ∈ ps, x.block < w.heap.size := by
  obtain ⟨m, hm⟩ := ht
  exact DataW.trod_lt m _ _ _ hm
end Go.Proofs.YtcpikafmclfcfaaDoor.Op
end
section
namespace Go.Proofs.YtcpikafmclfcfaaDoor.PV
open Go.RowKit Go.Proofs.YtcpikafmclfcfaaDoorW.PrintWords Go.Proofs.YtcpikafmclfcfaaDoorW.PrintLast Go.Proofs.YtcpikafmclfcfaaDoorW.PrintMore
attribute [local go_sem] max2_int min2_int max_two min_two max_three min_three max_four min_four   
set_option linter.unusedVariables false
set_option linter.unusedSimpArgs false
theorem info9 : (Tryd.prog.info? 9).map (fun i => (i.zero,i.size,i.bytes)) = some (some (.string ⟨#[]⟩),1,16):=by kernel_rfl
structure S23 where
 f0 : Int
 f1 : Int
 f2 : Int
def z23 : S23 := ⟨(0 : Int), (0 : Int), (0 : Int)⟩
def k23 : Kd S23 := Kd.iso (Kd.pair (Kd.int .i64) (Kd.pair (Kd.int .i64) (Kd.int .i64))) (fun x : S23 => (x.f0, x.f1, x.f2))
theorem k23_open {w : World} {x : S23} {cs : List Value} (h : k23.K w x cs) : cs = [.int .i64 x.f0,.int .i64 x.f1,.int .i64 x.f2]:=by
 (obtain ⟨_,_,rfl,rfl,⟨_,_,rfl,rfl,rfl⟩⟩:=h);(exact rfl)
theorem k23_mkM (w : World) (base : Nat) (ok : Nat → Prop) (x : S23)  : k23.M w base ok x [.int .i64 x.f0,.int .i64 x.f1,.int .i64 x.f2]:=⟨[.int .i64 x.f0],[.int .i64 x.f1,.int .i64 x.f2],rfl,rfl,⟨[.int .i64 x.f1],[.int .i64 x.f2],rfl,rfl,rfl⟩⟩
def rd_T23 (xs : List S23) (i : Int) : S23 := xs.getD i.toNat z23
theorem at_T23 {w : World} {A : Option Addr} {n : Nat} {xs : List S23} (h : Kd.C k23 w A n xs) (i : Int) (h0 : 0 ≤ i) (h1 : i < n) : ∃ ad ,A = some ad∧w.cell? (ad.add (i.toNat * 3)) = some (.int .i64 (rd_T23 xs i).f0)∧w.cell? ⟨(ad.add (i.toNat * 3)).block,(ad.add (i.toNat * 3)).off + 1,none⟩ = some (.int .i64 (rd_T23 xs i).f1)∧w.cell? ⟨(ad.add (i.toNat * 3)).block,(ad.add (i.toNat * 3)).off + 2,none⟩ = some (.int .i64 (rd_T23 xs i).f2):=by
 (obtain ⟨ad,c,e,_,hK,hc0⟩:=Kd.C_get h z23 i h0 h1);(have hc : ∀ j u,c[j]? = some u → w.cell? (ad.add (i.toNat * 3 + j)) = some u:=hc0);(obtain rfl:=k23_open hK);(exact ⟨ad,e,hc 0 _ rfl,by rw [← add_field _ _ 1 (by omega)];exact hc 1 _ rfl,by rw [← add_field _ _ 2 (by omega)];exact hc 2 _ rfl⟩)
end Go.Proofs.YtcpikafmclfcfaaDoor.PV
end
section
set_option linter.unusedVariables false
set_option linter.unusedSimpArgs false
namespace Go.Proofs.YtcpikafmclfcfaaDoor.Num
def isDig (c : UInt8) : Bool := decide (48 ≤ c.toNat) && decide (c.toNat ≤ 57)
theorem isDig_iff (c : UInt8) : isDig c = true ↔ 48 ≤ c.toNat ∧ c.toNat ≤ 57 := by simp [isDig]
def valA (a : Nat) : List UInt8 → Nat
  | [] => a
  | c :: l => valA (a * 10 + (c.toNat - 48)) l
def valD (l : List UInt8) : Nat := valA 0 l
theorem valA_append (a : Nat) (l : List UInt8) (c : UInt8) : valA a (l ++ [c]) = valA a l * 10 + (c.toNat - 48) := by
  induction l generalizing a with
  | nil => rfl
  | cons d l ih => exact ih _
theorem valD_snoc (l : List UInt8) (c : UInt8) : valD (l ++ [c]) = valD l * 10 + (c.toNat - 48) := valA_append 0 l c
theorem pow_ge (a d n : Nat) : a * 10 ^ (n + 1) ≤ (a * 10 + d) * 10 ^ n := by
  rw [Nat.pow_succ]
  generalize 10 ^ n = p
  have h2 := Nat.mul_le_mul_right p (Nat.le_add_right (a * 10) d)
  rw [Nat.mul_comm p 10, ← Nat.mul_assoc]
  exact h2
theorem valA_ge : ∀ (l : List UInt8) (a : Nat), a * 10 ^ l.length ≤ valA a l
  | [], a => by show a * 1 ≤ a; omega
  | c :: l, a => Nat.le_trans (pow_ge a (c.toNat - 48) l.length) (valA_ge l (a * 10 + (c.toNat - 48)))
theorem parse_digits (l : List UInt8) (h : ∀ c ∈ l, isDig c = true) : ∀ a, valA a l < 18446744073709551616 → Go.Lib.parseUint10 a l = .ok (valA a l) := by
  induction l with
  | nil => intro a ha; rfl
  | cons c l ih =>
    intro a ha
    have hc := (isDig_iff c).1 (h c (by simp))
    have hm := valA_ge l (a * 10 + (c.toNat - 48))
    have h1 : 1 ≤ 10 ^ l.length := Nat.one_le_pow _ _ (by decide)
    have h3 : valA a (c :: l) = valA (a * 10 + (c.toNat - 48)) l := rfl
    rw [h3] at ha ⊢
    have h2 : a * 10 + (c.toNat - 48) < 18446744073709551616 := by
      have : (a * 10 + (c.toNat - 48)) * 1 ≤ (a * 10 + (c.toNat - 48)) * 10 ^ l.length := Nat.mul_le_mul_left _ h1
      omega
    unfold Go.Lib.parseUint10
    rw [if_pos hc, if_neg (by omega), if_neg (by omega)]
    exact ih (fun d hd => h d (by simp [hd])) _ ha
theorem dec_digits (u : Nat) : (∀ c ∈ Go.Lib.decDigits u, isDig c = true) ∧ valD (Go.Lib.decDigits u) = u ∧ Go.Lib.decDigits u ≠ [] ∧ ((Go.Lib.decDigits u).length = 1 ∨ ∀ c, (Go.Lib.decDigits u).head? = some c → c.toNat ≠ 48) := by
  induction u using Nat.strongRecOn with
  | _ u ih =>
    by_cases h : u < 10
    · rw [Go.Lib.decDigits, dif_pos h]
      have e : (UInt8.ofNat (48 + u)).toNat = 48 + u := by simp; omega
      refine ⟨fun c hc => ?_, ?_, by simp, .inl rfl⟩
      · rw [List.mem_singleton.1 hc, isDig_iff, e]; omega
      · show 0 * 10 + ((UInt8.ofNat (48 + u)).toNat - 48) = u
        rw [e]; omega
    · obtain ⟨h1, h2, h3, h4⟩ := ih (u / 10) (by omega)
      rw [Go.Lib.decDigits, dif_neg h]
      have e : (UInt8.ofNat (48 + u % 10)).toNat = 48 + u % 10 := by simp; omega
      refine ⟨fun c hc => ?_, ?_, by simp, .inr fun c hc => ?_⟩
      · rcases List.mem_append.1 hc with hc | hc
        · exact h1 c hc
        · rw [List.mem_singleton.1 hc, isDig_iff, e]; omega
      · rw [valD_snoc, h2, e]; omega
      · rw [List.head?_append, Option.or_of_isSome (by cases hq : Go.Lib.decDigits (u / 10) with | nil => exact absurd hq h3 | cons x y => rfl)] at hc
        rcases h4 with h4 | h4
        · obtain ⟨d, hd⟩ := List.length_eq_one_iff.1 h4
          rw [hd] at hc h2 h1
          simp at hc
          subst hc
          have := (isDig_iff d).1 (h1 d (by simp))
          have h2' : 0 * 10 + (d.toNat - 48) = u / 10 := h2
          omega
        · exact h4 c hc
end Go.Proofs.YtcpikafmclfcfaaDoor.Num
end
section
set_option linter.unusedVariables false
set_option linter.unusedSimpArgs false
namespace Go.Proofs.YtcpikafmclfcfaaDoor.Vl
open Go.Proofs.YtcpikafmclfcfaaDoor.Num
def spl : List UInt8 → List (List UInt8)
  | [] => [[]]
  | x :: xs => if x = 44 then [] :: spl xs else match spl xs with
    | [] => [[x]]
    | h :: t => (x :: h) :: t
theorem spl_cons (x : UInt8) (xs h : List UInt8) (t : List (List UInt8)) (hx : x ≠ 44) (e : spl xs = h :: t) : spl (x :: xs) = (x :: h) :: t := by
  rw [spl, if_neg hx, e]
theorem spl_idx (r : List UInt8) : (Go.Lib.indexByte r 44 = -1 ∧ spl r = [r]) ∨
    ∃ i : Nat, Go.Lib.indexByte r 44 = i ∧ i < r.length ∧ spl r = r.take i :: spl (r.drop (i + 1)) := by
  induction r with
  | nil => exact .inl ⟨rfl, rfl⟩
  | cons x xs ih =>
    by_cases hx : x = 44
    · subst hx
      exact .inr ⟨0, rfl, by simp, by rw [spl, if_pos rfl]; simp⟩
    · have hb : (x == (44 : UInt8)) = false := by simpa using hx
      rcases ih with ⟨h1, h2⟩ | ⟨i, h1, h2, h3⟩
      · exact .inl ⟨by simp [Go.Lib.indexByte, hb, h1], spl_cons x xs _ _ hx h2⟩
      · refine .inr ⟨i + 1, ?_, by simp; omega, ?_⟩
        · have hn : ((i : Int) == -1) = false := by simp
          simp only [Go.Lib.indexByte, hb, h1, hn, Bool.false_eq_true, ↓reduceIte]; rfl
        · rw [spl_cons x xs _ _ hx h3]; simp
theorem spl_plain (l : List UInt8) (h : ∀ c ∈ l, c ≠ 44) : spl l = [l] := by
  induction l with
  | nil => rfl
  | cons x xs ih =>
    exact spl_cons x xs _ _ (h x (by simp)) (ih (fun c hc => h c (by simp [hc])))
theorem spl_append (a r : List UInt8) (h : ∀ c ∈ a, c ≠ 44) : spl (a ++ 44 :: r) = a :: spl r := by
  induction a with
  | nil => simp [spl]
  | cons x xs ih =>
    rw [List.cons_append]
    exact spl_cons x _ _ _ (h x (by simp)) (ih (fun c hc => h c (by simp [hc])))
theorem spl_join : ∀ (t : List (List UInt8)) (a : List UInt8), (∀ p ∈ a :: t, ∀ c ∈ p, c ≠ 44) → spl (Go.Lib.join (a :: t) [44]) = a :: t
  | [], a, h => by
    have : Go.Lib.join [a] [44] = a := by unfold Go.Lib.join; simp [List.intercalate]
    rw [this]; exact spl_plain a (h a (by simp))
  | b :: t, a, h => by
    have e : Go.Lib.join (a :: b :: t) [44] = a ++ 44 :: Go.Lib.join (b :: t) [44] := by unfold Go.Lib.join; simp [List.intercalate]
    rw [e, spl_append a _ (h a (by simp)), spl_join t b (fun p hp => h p (List.mem_cons_of_mem _ hp))]
def cutL (p : List UInt8) : List UInt8 × List UInt8 := if Go.Lib.indexByte p 61 < 0 then (p, []) else (p.take (Go.Lib.indexByte p 61).toNat, p.drop ((Go.Lib.indexByte p 61).toNat + 1))
def nm : Nat → List UInt8
  | 0 => [99, 112, 117]
  | 1 => [109, 101, 109]
  | _ => [103, 112, 117]
def idx (l : List UInt8) : Int := if l = nm 0 then 0 else if l = nm 1 then 1 else if l = nm 2 then 2 else -1
def atoiVal (l : List UInt8) : Int := match Go.Lib.atoiAll l with | .ok v => v | .range => Go.Lib.atoiSat l | _ => 0
def atoiOk (l : List UInt8) : Bool := match Go.Lib.atoiAll l with | .ok _ => true | _ => false
def put (v : Int × Int × Int) (i : Int) (n : Int) : Int × Int × Int := if i = 0 then (n, v.2.1, v.2.2) else if i = 1 then (v.1, n, v.2.2) else (v.1, v.2.1, n)
def stepP (v : Int × Int × Int) (p : List UInt8) : Option (Int × Int × Int) := if idx (cutL p).1 < 0 ∨ atoiOk (cutL p).2 = false then none else some (put v (idx (cutL p).1) (atoiVal (cutL p).2))
def foldP (v : Int × Int × Int) : List (List UInt8) → Option (Int × Int × Int)
  | [] => some v
  | p :: l => (stepP v p).bind fun u => foldP u l
def okN (a : Int) : Bool := decide (0 ≤ a) && decide (a ≤ 1073741824)
def rightB (a b c : Int) : Bool := okN a && okN b && okN c
def partL (k : Nat) (n : Int) : List UInt8 := nm k ++ 61 :: Go.Lib.itoa n
def oneP (k : Nat) (n : Int) : List (List UInt8) := if n = 0 then [] else [partL k n]
def partsL (a b c : Int) : List (List UInt8) := oneP 0 a ++ oneP 1 b ++ oneP 2 c
def noneL : List UInt8 := [110, 111, 110, 101]
def fmtL (a b c : Int) : List UInt8 := if a = 0 ∧ b = 0 ∧ c = 0 then noneL else Go.Lib.join (partsL a b c) [44]
def parseL (s : List UInt8) : Option (Int × Int × Int) := if s = noneL then some (0, 0, 0) else (foldP (0, 0, 0) (spl s)).bind fun v => if rightB v.1 v.2.1 v.2.2 = true ∧ fmtL v.1 v.2.1 v.2.2 = s then some v else none
theorem itoa_chars (n : Int) : ∀ c ∈ Go.Lib.itoa n, c = 45 ∨ isDig c = true := by
  intro c hc
  unfold Go.Lib.itoa at hc
  split at hc
  · rcases List.mem_cons.1 hc with h | h
    · exact .inl h
    · exact .inr ((dec_digits _).1 c h)
  · exact .inr ((dec_digits _).1 c hc)
theorem itoa_no (n : Int) (x : UInt8) (hx : x ≠ 45) (hd : isDig x = false) : ∀ c ∈ Go.Lib.itoa n, c ≠ x := by
  intro c hc h
  rcases itoa_chars n c hc with h1 | h1
  · exact hx (h ▸ h1)
  · rw [h, hd] at h1; cases h1
theorem part_no (k : Nat) (n : Int) : ∀ c ∈ partL k n, c ≠ 44 := by
  intro c hc
  unfold partL at hc
  rcases List.mem_append.1 hc with h | h
  · match k, h with
    | 0, h => simp [nm] at h; rcases h with rfl | rfl | rfl <;> decide
    | 1, h => simp [nm] at h; rcases h with rfl | rfl | rfl <;> decide
    | (k + 2), h => simp [nm] at h; rcases h with rfl | rfl | rfl <;> decide
  · rcases List.mem_cons.1 h with rfl | h
    · decide
    · exact itoa_no n 44 (by decide) (by decide) c h
theorem cut_part (k : Nat) (n : Int) : cutL (partL k n) = (nm k, Go.Lib.itoa n) := by
  have : Go.Lib.indexByte (partL k n) 61 = 3 := by
    match k with
    | 0 => simp [partL, nm, Go.Lib.indexByte]
    | 1 => simp [partL, nm, Go.Lib.indexByte]
    | (k + 2) => simp [partL, nm, Go.Lib.indexByte]
  unfold cutL
  rw [this, if_neg (by omega)]
  match k with
  | 0 => simp [partL, nm]
  | 1 => simp [partL, nm]
  | (k + 2) => simp [partL, nm]
theorem idx_nm (k : Nat) (h : k < 3) : idx (nm k) = k := by
  have : k = 0 ∨ k = 1 ∨ k = 2 := by omega
  rcases this with rfl | rfl | rfl <;> rfl
theorem atoi_itoa (n : Int) (h1 : -9223372036854775808 ≤ n) (h2 : n ≤ 9223372036854775807) : Go.Lib.atoiAll (Go.Lib.itoa n) = .ok n := by
  have mag : ∀ u : Nat, u < 18446744073709551616 → Go.Lib.parseMag (Go.Lib.decDigits u) = .ok u := by
    intro u hu
    obtain ⟨d1, d2, d3, _⟩ := dec_digits u
    unfold Go.Lib.parseMag
    have d2' : valA 0 (Go.Lib.decDigits u) = u := d2
    rw [if_neg d3, parse_digits _ d1 0 (by rw [d2']; exact hu), d2']
  unfold Go.Lib.itoa
  by_cases hn : n < 0
  · rw [if_pos hn]
    unfold Go.Lib.atoiAll
    simp only
    rw [if_pos (by decide), mag _ (by omega)]
    simp only
    rw [if_neg (fun h => h.1 (by decide)), if_neg (by omega), if_pos (by decide)]
    congr 1; omega
  · rw [if_neg hn]
    obtain ⟨d1, d2, d3, _⟩ := dec_digits n.toNat
    have hm := mag n.toNat (by omega)
    cases hd : Go.Lib.decDigits n.toNat with
    | nil => exact absurd hd d3
    | cons c r =>
      rw [hd] at hm d1
      have hc := (isDig_iff c).1 (d1 c (by simp))
      unfold Go.Lib.atoiAll
      simp only
      rw [if_neg (by omega), hm]
      simp only
      rw [if_neg (by omega), if_neg (by omega), if_neg (by omega)]
      congr 1; omega
theorem step_part (v : Int × Int × Int) (k : Nat) (hk : k < 3) (n : Int) (h1 : -9223372036854775808 ≤ n) (h2 : n ≤ 9223372036854775807) : stepP v (partL k n) = some (put v k n) := by
  unfold stepP
  rw [cut_part]
  simp only
  have ha : atoiOk (Go.Lib.itoa n) = true := by unfold atoiOk; rw [atoi_itoa n h1 h2]
  have hv : atoiVal (Go.Lib.itoa n) = n := by unfold atoiVal; rw [atoi_itoa n h1 h2]
  rw [idx_nm k hk, ha, hv, if_neg (by simp)]
abbrev I64 (n : Int) : Prop := -9223372036854775808 ≤ n ∧ n ≤ 9223372036854775807
theorem fold_parts (a b c : Int) (ha : I64 a) (hb : I64 b) (hc : I64 c) : foldP (0, 0, 0) (partsL a b c) = some (a, b, c) := by
  unfold partsL oneP
  by_cases h0 : a = 0 <;> by_cases h1 : b = 0 <;> by_cases h2 : c = 0 <;>
    simp [h0, h1, h2, foldP, step_part _ 0 (by omega) a ha.1 ha.2, step_part _ 1 (by omega) b hb.1 hb.2, step_part _ 2 (by omega) c hc.1 hc.2, put]
theorem parts_ne (a b c : Int) (h : ¬ (a = 0 ∧ b = 0 ∧ c = 0)) : partsL a b c ≠ [] := by
  unfold partsL oneP
  by_cases h0 : a = 0 <;> by_cases h1 : b = 0 <;> by_cases h2 : c = 0 <;> simp [h0, h1, h2] at h ⊢
theorem parts_no (a b c : Int) : ∀ p ∈ partsL a b c, ∀ x ∈ p, x ≠ 44 := by
  intro p hp
  unfold partsL oneP at hp
  simp only [List.mem_append] at hp
  rcases hp with (hp | hp) | hp
  all_goals
    split at hp
    · cases hp
    · rw [List.mem_singleton.1 hp]; exact part_no _ _
theorem spl_fmt (a b c : Int) (h : ¬ (a = 0 ∧ b = 0 ∧ c = 0)) : spl (fmtL a b c) = partsL a b c := by
  unfold fmtL
  rw [if_neg h]
  have h1 := parts_ne a b c h
  have h2 := parts_no a b c
  cases hp : partsL a b c with
  | nil => exact absurd hp h1
  | cons x t => rw [hp] at h2; exact spl_join t x h2
theorem fmt_fold (a b c : Int) (h : ¬ (a = 0 ∧ b = 0 ∧ c = 0)) (ha : I64 a) (hb : I64 b) (hc : I64 c) : foldP (0, 0, 0) (spl (fmtL a b c)) = some (a, b, c) := by
  rw [spl_fmt a b c h, fold_parts a b c ha hb hc]
theorem fmt_ne_none (a b c : Int) (h : ¬ (a = 0 ∧ b = 0 ∧ c = 0)) (ha : I64 a) (hb : I64 b) (hc : I64 c) : fmtL a b c ≠ noneL := by
  intro e
  have h1 := fmt_fold a b c h ha hb hc
  rw [e] at h1
  have h2 : foldP (0, 0, 0) (spl noneL) = none := by decide
  rw [h2] at h1; cases h1
theorem parse_fmt (a b c : Int) (ha : I64 a) (hb : I64 b) (hc : I64 c) : parseL (fmtL a b c) = if rightB a b c = true then some (a, b, c) else none := by
  unfold parseL
  by_cases h : a = 0 ∧ b = 0 ∧ c = 0
  · obtain ⟨rfl, rfl, rfl⟩ := h
    rfl
  · rw [if_neg (fmt_ne_none a b c h ha hb hc), fmt_fold a b c h ha hb hc]
    simp
theorem parse_sound {s : List UInt8} {v : Int × Int × Int} (h : parseL s = some v) : rightB v.1 v.2.1 v.2.2 = true ∧ fmtL v.1 v.2.1 v.2.2 = s := by
  unfold parseL at h
  split at h
  · rename_i hs; cases h; exact ⟨rfl, hs.symm⟩
  · obtain ⟨u, hu, h⟩ := Option.bind_eq_some_iff.1 h
    split at h
    · rename_i hr; cases h; exact hr
    · cases h
theorem right_i64 {a b c : Int} (h : rightB a b c = true) : I64 a ∧ I64 b ∧ I64 c := by
  simp only [rightB, okN, Bool.and_eq_true, decide_eq_true_eq] at h
  unfold I64; omega
theorem parse_iff (s : List UInt8) (a b c : Int) : parseL s = some (a, b, c) ↔ rightB a b c = true ∧ fmtL a b c = s := by
  constructor
  · intro h; exact parse_sound h
  · rintro ⟨hr, rfl⟩
    obtain ⟨ha, hb, hc⟩ := right_i64 hr
    rw [parse_fmt a b c ha hb hc, if_pos hr]
end Go.Proofs.YtcpikafmclfcfaaDoor.Vl
end
section
namespace Go.Proofs.YtcpikafmclfcfaaDoor.Vc
open Go.RowKit Go.Proofs.YtcpikafmclfcfaaDoorW.PrintWords Go.Proofs.YtcpikafmclfcfaaDoorW.PrintLast Go.Proofs.YtcpikafmclfcfaaDoorW.PrintMore Go.Proofs.YtcpikafmclfcfaaDoor.PV Go.Proofs.YtcpikafmclfcfaaDoor.Vl
set_option linter.unusedVariables false
set_option linter.unusedSimpArgs false
abbrev vecV (a b c : Int) : Value := .agg #[.int .i64 a, .int .i64 b, .int .i64 c]
theorem parts_calls (a b c : Int) (w : World) : Calls Tryd.prog 37 #[vecV a b c] w fun e w' => e = .returned (vecV a b c) ∧ Below w.heap.size w w' := by
  have hu23 := Tryd.underlying23
  have hu51 := Tryd.underlying51
  go_enter Tryd.func37, Tryd.ntmps37
  go_wp2
  refine bodyPost_ret (v := vecV a b c) (by simp [results, Tryd.results37, go_sem, hu51]) rfl ⟨rfl, ?_⟩
  exact below_alloc (below_alloc (Below.refl _ _) _) _
theorem whole_calls (a b c : Int) (w : World) : Calls Tryd.prog 36 #[vecV a b c] w fun e w' => e = .returned (vecV a b c) ∧ Below w.heap.size w w' := by
  have hu23 := Tryd.underlying23
  have hu51 := Tryd.underlying51
  go_enter Tryd.func36, Tryd.ntmps36
  go_wp2
  refine bodyPost_ret (v := vecV a b c) (by simp [results, Tryd.results36, go_sem, hu23]) rfl ⟨rfl, ?_⟩
  exact below_alloc (below_alloc (Below.refl _ _) _) _
abbrev namesV : Value := .agg #[.string ⟨#[99, 112, 117]⟩, .string ⟨#[109, 101, 109]⟩, .string ⟨#[103, 112, 117]⟩]
theorem names_calls (w : World) : Calls Tryd.prog 33 #[] w fun e w' => e = .returned namesV ∧ Below w.heap.size w w' := by
  have hu57 := Tryd.underlying57
  go_enter Tryd.func33, Tryd.ntmps33
  go_wp2
  refine bodyPost_ret (v := namesV) (by simp [results, Tryd.results33, go_sem, hu57]) rfl ⟨rfl, ?_⟩
  exact below_alloc (Below.refl _ _) _
theorem ix0 (x y z : Value) (w : World) : (Instr.index 51 (.agg #[x, y, z]) (.int .i64 0)).run Tryd.prog w = .ok x w := by kernel_rfl
theorem ix1 (x y z : Value) (w : World) : (Instr.index 51 (.agg #[x, y, z]) (.int .i64 1)).run Tryd.prog w = .ok y w := by kernel_rfl
theorem ix2 (x y z : Value) (w : World) : (Instr.index 51 (.agg #[x, y, z]) (.int .i64 2)).run Tryd.prog w = .ok z w := by kernel_rfl
set_option maxRecDepth 100000 in
theorem Right_calls (a b c : Int) (w : World) : Calls Tryd.prog 15 #[vecV a b c] w fun e w' => e = .returned (.bool (rightB a b c)) ∧ Below w.heap.size w w' := by
  have hu23 := Tryd.underlying23
  have i0 := fun w => ix0 (.int .i64 a) (.int .i64 b) (.int .i64 c) w
  have i1 := fun w => ix1 (.int .i64 a) (.int .i64 b) (.int .i64 c) w
  have i2 := fun w => ix2 (.int .i64 a) (.int .i64 b) (.int .i64 c) w
  go_enter Tryd.func15, Tryd.ntmps15
  go_wp2_with (refine (parts_calls a b c _).mono ?_; rintro e w1 ⟨rfl, hb⟩)
  have HB := Aside0.mk (below_then (below_alloc (Below.refl w.heap.size w) _) (below_alloc (Below.refl w.heap.size w) _).size hb)
  clear hb
  refine wp_loop_rounds 4 ?_
  repeat any_goals (rw [rounds_succ]; go_wp2)
  all_goals
    go_ret
    refine ⟨?_, HB.out⟩
    have e : ∀ u v : Bool, u = v → Ending.returned (Value.bool u) = .returned (Value.bool v) := fun _ _ h => by rw [h]
    refine e _ _ ?_
    rw [Bool.eq_iff_iff]
    simp only [rightB, okN, Bool.and_eq_true, decide_eq_true_eq]
    simp
    try omega
end Go.Proofs.YtcpikafmclfcfaaDoor.Vc
end
section
set_option linter.unusedVariables false
set_option linter.unusedSimpArgs false
namespace Go.Proofs.YtcpikafmclfcfaaDoor.Mp
open Go.RowKit Go.WideShapes
structure KeyEnc (P : Program) (kt : TypeId) (κ : Type) where
  val : κ → Value
  lit : κ → Lit
  ok : κ → Prop
  law : Maps.Keyed P kt
  key : ∀ k, ok k → keyOf P kt (val k) = some (lit k)
  inj : ∀ k k', lit k = lit k' → k = k'
  isLit : ∀ k, WideAt.IsKeyLit (lit k)
structure ElEnc (P : Program) (et : TypeId) (ε : Type) where
  val : ε → Value
  lit : ε → Lit
  zero : ε
  ok : ε → Prop
  hz : ∀ w, (zeroValue et).run P w = .ok (val zero) w
  read : ∀ x, ok x → plainElem (H := Unit) P et (val x) = some (.lit (lit x), [])
  zok : ok zero
  inv : ∀ v z, plainElem (H := Unit) P et v = some z → ∃ x, v = val x ∧ z = (.lit (lit x), [])
  inj : ∀ x x', lit x = lit x' → x = x'
def intEl {P : Program} {et : TypeId} (h : P.underlying et = some (.int .i64)) (hz : ∀ w, (zeroValue et).run P w = .ok (.int .i64 0) w) : ElEnc P et Int where
  val := Value.int .i64
  lit := Lit.int .i64
  zero := 0
  ok := fun k => (Lit.int .i64 k).wf = true
  hz := hz
  read := fun x hx => plainElem_int h hx
  zok := by decide
  inv := fun v z hv => by
    obtain ⟨x, h1, h2, _⟩ := plainElem_int_inv h hv
    exact ⟨x, h1, h2⟩
  inj := fun k k' e => by injection e
section
variable {P : Program} {kt et t : TypeId} {κ ε : Type} (K : KeyEnc P kt κ) (V : ElEnc P et ε)
structure MapOf (w : World) (b n : Nat) (f : κ → Option ε) : Prop where mk ::
  out : ∃ D : DataW Unit, w.ownsMap P kt (plainElem P et) b n D ∧ Maps.IsMap D ∧ ∀ k, Maps.has D (K.lit k) = (f k).isSome ∧ ∀ z, D.atKey (K.lit k) (.lit (V.lit z)) = .lit (V.lit ((f k).getD z))
variable {K V}
variable {w w' : World} {b n : Nat} {f : κ → Option ε}
theorem MapOf.made (w : World) : MapOf K V (w.alloc (.map #[] 0)) w.heap.size 0 (fun _ => none) :=
  ⟨.map [], World.ownsMap_made w P kt _, ⟨[], rfl⟩, fun k => ⟨rfl, fun z => rfl⟩⟩
theorem MapOf.mono (h : MapOf K V w b n f) {n' : Nat} (hn : n ≤ n') : MapOf K V w b n' f := by
  obtain ⟨D, h1, h2⟩ := h.out; exact ⟨D, h1.mono hn, h2⟩
theorem MapOf.lt (h : MapOf K V w b n f) : b < w.heap.size := by obtain ⟨D, h1, _⟩ := h.out; exact h1.lt
theorem MapOf.grown (h : MapOf K V w b n f) {row : Option Nat} (hg : w.grownBy w' row) (hne : some b ≠ row) : MapOf K V w' b n f := by
  obtain ⟨D, h1, h2⟩ := h.out; exact ⟨D, h1.kept hg hne, h2⟩
theorem MapOf.below (h : MapOf K V w b n f) (hb : Below w.heap.size w w') : MapOf K V w' b n f :=
  h.grown (row := none) ⟨hb.os, hb.tape, hb.output, hb.size, fun i hi _ => hb.block i hi⟩ (by simp)
theorem MapOf.alloc (h : MapOf K V w b n f) (o : Obj) : MapOf K V (w.alloc o) b n f := by
  obtain ⟨D, h1, h2⟩ := h.out; exact ⟨D, h1.alloc o, h2⟩
theorem MapOf.drew (h : MapOf K V w b n f) : MapOf K V w.drew b n f := by
  obtain ⟨D, h1, h2⟩ := h.out; exact ⟨D, h1.drew, h2⟩
theorem MapOf.drewN (h : MapOf K V w b n f) (m : Nat) : MapOf K V (w.drewN m) b n f := by
  obtain ⟨D, h1, h2⟩ := h.out; exact ⟨D, h1, h2⟩
theorem MapOf.setCell (h : MapOf K V w b n f) {a : Addr} (ha : b ≠ a.block) (u : Value) : MapOf K V (w.setCell a u) b n f := by
  obtain ⟨D, h1, h2⟩ := h.out; exact ⟨D, h1.setCell ha u, h2⟩
theorem MapOf.run_plain (h : MapOf K V w b n f) (ht : P.underlying t = some (.map kt et)) {k : κ} (hk : K.ok k) :
    (Instr.lookup t (.map (some b)) (K.val k) false).run P w = .ok (V.val ((f k).getD V.zero)) w := by
  obtain ⟨D, h1, h2, h3⟩ := h.out
  obtain ⟨v, ps, hrun, hv⟩ := h1.lookup K.law ht (V.hz w) (V.read _ V.zok) (K.key k hk)
  rw [(h3 k).2] at hv
  obtain ⟨x, rfl, hx⟩ := V.inv _ _ hv
  simp only [Prod.mk.injEq, DataW.lit.injEq] at hx
  rw [hrun, ← V.inj _ _ hx.1]
theorem MapOf.put [DecidableEq κ] {D : DataW Unit} (h2 : Maps.IsMap D) (h3 : ∀ k, Maps.has D (K.lit k) = (f k).isSome ∧ ∀ z, D.atKey (K.lit k) (.lit (V.lit z)) = .lit (V.lit ((f k).getD z))) (k : κ) (x : ε) :
    Maps.IsMap (D.put (K.lit k) (.lit (V.lit x))) ∧ ∀ k', Maps.has (D.put (K.lit k) (.lit (V.lit x))) (K.lit k') = (if k' = k then some x else f k').isSome ∧ ∀ z, (D.put (K.lit k) (.lit (V.lit x))).atKey (K.lit k') (.lit (V.lit z)) = .lit (V.lit ((if k' = k then some x else f k').getD z)) := by
  refine ⟨h2.put _ _, fun k' => ?_⟩
  by_cases e : k' = k
  · subst e
    rw [if_pos rfl]
    exact ⟨Maps.has_put_same h2 (K.isLit _) _, fun z => Maps.atKey_put_same h2 (K.isLit _) _ _⟩
  · rw [if_neg e]
    have hne : K.lit k' ≠ K.lit k := fun h => e (K.inj _ _ h)
    exact ⟨by rw [Maps.has_put_other hne]; exact (h3 k').1, fun z => by rw [Maps.atKey_put_other hne]; exact (h3 k').2 z⟩
theorem MapOf.update [DecidableEq κ] (h : MapOf K V w b n f) (ht : P.underlying t = some (.map kt et)) (hn : n < maxLen) {k : κ} (hk : K.ok k) {x : ε} (hx : V.ok x) :
    ∃ w', (Instr.mapUpdate t (.map (some b)) (K.val k) (V.val x)).run P w = .ok () w' ∧ MapOf K V w' b (n + 1) (fun k' => if k' = k then some x else f k') ∧ w.grownBy w' (some b) := by
  obtain ⟨D, h1, h2, h3⟩ := h.out
  obtain ⟨w', hrun, h4, h5⟩ := h1.update K.law ht hn (K.key k hk) (V.read x hx)
  exact ⟨w', hrun, ⟨_, h4, MapOf.put h2 h3 k x⟩, h5⟩
variable {ops : Array Oper} {rest : List Oper} {o : Oper} {a : Act} {Q : Exit → Act → World → Prop}
end
end Go.Proofs.YtcpikafmclfcfaaDoor.Mp
end
section
set_option linter.unusedVariables false
set_option linter.unusedSimpArgs false
namespace Go.Proofs.YtcpikafmclfcfaaDoor.Mp
open Go.RowKit Go.WideShapes
theorem keyOf_three {P : Program} {k e : TypeId} {q : IntKind} {f0 f1 f2 : Field} (hu : P.underlying k = some (.struct #[f0, f1, f2])) (h0 : f0.type = e ∧ f0.offset = 0 ∧ (f0.name != "_") = true) (h1 : f1.type = e ∧ f1.offset = 1 ∧ (f1.name != "_") = true) (h2 : f2.type = e ∧ f2.offset = 2 ∧ (f2.name != "_") = true)
    (he : P.underlying e = some (.int q)) (hkt : P.keyType k = true) (hc : P.cellsOf k = 3) (hce : P.cellsOf e = 1) (hsz : ∃ m, P.types.size = m + 1) {a b c : Int} (wa : (Lit.int q a).wf = true) (wb : (Lit.int q b).wf = true) (wc : (Lit.int q c).wf = true) :
    keyOf P k (.agg #[.int q a, .int q b, .int q c]) = some (.string (keyBytes [.int q a, .int q b, .int q c])) := by
  obtain ⟨m, hm⟩ := hsz
  unfold keyOf
  simp only [hu]
  rw [if_pos (by simp [hkt, Value.formed, hu, hc]), hm]
  unfold Program.keyLits
  simp only [hu, Value.cells]
  rw [if_pos ⟨by rw [hc]; rfl, by simp [h0.2.2, h1.2.2, h2.2.2]⟩]
  rw [List.mapM_cons, List.mapM_cons, List.mapM_cons, List.mapM_nil, h0.1, h0.2.1, h1.1, h1.2.1, h2.1, h2.2.1, hce]
  simp [Program.keyLits, he, wa, wb, wc]
theorem keyLits_int {P : Program} {e : TypeId} {q : IntKind} (he : P.underlying e = some (.int q)) {d : Nat} {v : Value} {L : List Lit} (h : P.keyLits (d + 1) e [v] = some L) : ∃ n, v = .int q n ∧ (Lit.int q n).wf = true := by
  unfold Program.keyLits at h
  rw [he] at h
  cases v <;> simp at h
  obtain ⟨⟨rfl, hw⟩, _⟩ := h
  exact ⟨_, rfl, hw⟩
abbrev K3 (q : IntKind) : Type := {p : Int × Int × Int // (Lit.int q p.1).wf = true ∧ (Lit.int q p.2.1).wf = true ∧ (Lit.int q p.2.2).wf = true}
def key3 {P : Program} {k e : TypeId} {q : IntKind} {f0 f1 f2 : Field} (hu : P.underlying k = some (.struct #[f0, f1, f2])) (h0 : f0.type = e ∧ f0.offset = 0 ∧ (f0.name != "_") = true) (h1 : f1.type = e ∧ f1.offset = 1 ∧ (f1.name != "_") = true) (h2 : f2.type = e ∧ f2.offset = 2 ∧ (f2.name != "_") = true)
    (he : P.underlying e = some (.int q)) (hkt : P.keyType k = true) (hc : P.cellsOf k = 3) (hce : P.cellsOf e = 1) (hsz : ∃ m, P.types.size = m + 1) (L : WideMaps.KeyLaw P k) : KeyEnc P k (K3 q) where
  val := fun x => .agg #[.int q x.1.1, .int q x.1.2.1, .int q x.1.2.2]
  lit := fun x => .string (keyBytes [.int q x.1.1, .int q x.1.2.1, .int q x.1.2.2])
  ok := fun _ => True
  law := Maps.Keyed.of_law L
  key := fun x _ => keyOf_three hu h0 h1 h2 he hkt hc hce hsz x.2.1 x.2.2.1 x.2.2.2
  inj := fun x y h => by
    have hx := keyOf_three hu h0 h1 h2 he hkt hc hce hsz x.2.1 x.2.2.1 x.2.2.2
    have hy := keyOf_three hu h0 h1 h2 he hkt hc hce hsz y.2.1 y.2.2.1 y.2.2.2
    rw [← h] at hy
    have := L.inj hx hy
    injection this with this
    injection this with this
    simp only [List.cons.injEq, Value.int.injEq, true_and, and_true] at this
    obtain ⟨e0, e1, e2⟩ := this
    exact Subtype.ext (Prod.ext e0 (Prod.ext e1 e2))
  isLit := fun x => by simp [WideAt.IsKeyLit]
theorem key3_inv {P : Program} {k e : TypeId} {q : IntKind} {f0 f1 f2 : Field} (hu : P.underlying k = some (.struct #[f0, f1, f2])) (h0 : f0.type = e ∧ f0.offset = 0 ∧ (f0.name != "_") = true) (h1 : f1.type = e ∧ f1.offset = 1 ∧ (f1.name != "_") = true) (h2 : f2.type = e ∧ f2.offset = 2 ∧ (f2.name != "_") = true)
    (he : P.underlying e = some (.int q)) (hc : P.cellsOf k = 3) (hce : P.cellsOf e = 1) (hsz : ∃ m, P.types.size = m + 1) {v : Value} {kl : Lit} (h : keyOf P k v = some kl) : ∃ x : K3 q, v = .agg #[.int q x.1.1, .int q x.1.2.1, .int q x.1.2.2] := by
  obtain ⟨xs, L, rfl, g, _⟩ := keyOf_top (by rw [hu]) h
  obtain ⟨m, hm⟩ := hsz
  rw [hm] at g
  unfold Program.keyLits at g
  simp only [hu] at g
  split at g
  · rename_i hl
    rw [hc] at hl
    obtain ⟨a, b, c, hx⟩ : ∃ a b c, xs.toList = [a, b, c] := by
      match hxs : xs.toList, hl.1 with
      | [a, b, c], _ => exact ⟨a, b, c, rfl⟩
    rw [hx, List.mapM_cons, List.mapM_cons, List.mapM_cons, List.mapM_nil, h0.1, h0.2.1, h1.1, h1.2.1, h2.1, h2.2.1, hce] at g
    simp only [List.drop_zero, List.drop_succ_cons, List.take_succ_cons, List.take_zero] at g
    cases ga : P.keyLits (m + 1) e [a] with
    | none => rw [ga] at g; simp at g
    | some la =>
      cases gb : P.keyLits (m + 1) e [b] with
      | none => rw [ga, gb] at g; simp at g
      | some lb =>
        cases gc : P.keyLits (m + 1) e [c] with
        | none => rw [ga, gb, gc] at g; simp at g
        | some lc =>
          obtain ⟨na, rfl, wa⟩ := keyLits_int he ga
          obtain ⟨nb, rfl, wb⟩ := keyLits_int he gb
          obtain ⟨nc, rfl, wc⟩ := keyLits_int he gc
          refine ⟨⟨(na, nb, nc), wa, wb, wc⟩, ?_⟩
          congr 1
          exact Array.ext' hx
  · cases g
end Go.Proofs.YtcpikafmclfcfaaDoor.Mp
end
section
namespace Go.Proofs.YtcpikafmclfcfaaDoor.Vn
open Go.RowKit Go.Proofs.YtcpikafmclfcfaaDoorW.PrintWords Go.Proofs.YtcpikafmclfcfaaDoorW.PrintLast Go.Proofs.YtcpikafmclfcfaaDoorW.PrintMore Go.Proofs.YtcpikafmclfcfaaDoor.PV Go.Proofs.YtcpikafmclfcfaaDoor.Vl Go.Proofs.YtcpikafmclfcfaaDoor.Mp
set_option linter.unusedVariables false
set_option linter.unusedSimpArgs false
theorem laidOut : laidOutB Tryd.prog = true := by kernel_rfl
theorem law23 : WideMaps.KeyLaw Tryd.prog 23 := Go.deep_law_laid laidOut (m := 3) (by decide) (of_decide_eq_true (by kernel_rfl)) (by kernel_rfl) (by kernel_rfl)
abbrev V3 := K3 .i64
noncomputable def KV : KeyEnc Tryd.prog 23 V3 := key3 Tryd.underlying23 ⟨rfl, rfl, by decide⟩ ⟨rfl, rfl, by decide⟩ ⟨rfl, rfl, by decide⟩ Tryd.underlying3 (by kernel_rfl) (by kernel_rfl) (by kernel_rfl) ⟨Tryd.prog.types.size - 1, by kernel_rfl⟩ law23
theorem KV_val (x : V3) : KV.val x = .agg #[.int .i64 x.1.1, .int .i64 x.1.2.1, .int .i64 x.1.2.2] := rfl
theorem KV_inv {v : Value} {kl : Lit} (h : keyOf Tryd.prog 23 v = some kl) : ∃ x : V3, v = KV.val x :=
  key3_inv Tryd.underlying23 ⟨rfl, rfl, by decide⟩ ⟨rfl, rfl, by decide⟩ ⟨rfl, rfl, by decide⟩ Tryd.underlying3 (by kernel_rfl) (by kernel_rfl) ⟨Tryd.prog.types.size - 1, by kernel_rfl⟩ h
noncomputable def EI : ElEnc Tryd.prog 3 Int := intEl Tryd.underlying3 (fun w => by kernel_rfl)
end Go.Proofs.YtcpikafmclfcfaaDoor.Vn
end
section
set_option linter.unusedVariables false
set_option linter.unusedSimpArgs false
namespace Go.Proofs.YtcpikafmclfcfaaDoor.Mp
open Go.RowKit Go.ChangeShapes Go.WideShapes Go.MapKept Go.ChangeMaps Go.WideElems
open Go.WideMaps (KeyLaw)
section
variable {H : Type} {P : Program} {w : World} {t k e : TypeId} {R : Value → Option (DataW H × List MemPlace)} {b : Nat} {es : Array MapEntry} {clock : Nat}
theorem entry_steps (K : KeyLaw P k) (ht : P.underlying t = some (.map k e)) {z : Value} (hz : ∀ u : World, (zeroValue e).run P u = .ok z u) (hb : w.heap[b]? = some (.map es clock)) (F : Fit P k R es clock)
    {key : Value} {kl : Lit} (hkey : keyOf P k key = some kl) :
    ∃ (v0 : Value) (st : Nat) (W1 : World), (Instr.mapEntry t (.map (some b)) key).run P w = .ok (.tuple #[v0, goInt st]) W1 ∧ (Instr.lookup t (.map (some b)) key false).run P w = .ok v0 w ∧ (Instr.mapUpdate t (.map (some b)) key v0).run P w = .ok () W1 ∧
      ∀ val : Value, ∃ W3, (Instr.entryStore t (.map (some b)) (goInt st) val).run P W1 = .ok () W3 ∧ (Instr.mapUpdate t (.map (some b)) key val).run P w = .ok () W3 := by
  have hlt : b < w.heap.size := (Array.getElem?_eq_some_iff.1 hb).1
  have hset : ∀ (o1 o2 : Obj), setBlock (setBlock w b o1) b o2 = setBlock w b o2 := fun o1 o2 => by simp [setBlock]
  have hget : ∀ o : Obj, (setBlock w b o).heap[b]? = some o := fun o => by simp [setBlock, hlt]
  obtain ⟨v0, st, es1, clock1, h1, h2, h3⟩ := entry_then_store K ht hz hb F hkey
  refine ⟨v0, st, setBlock w b (.map es1 clock1), h1, ?_, ?_, fun val => ?_⟩
  · rcases K.find w hkey es.toList F.keys with ⟨g1, g2⟩ | ⟨j, e0, g1, g2, g3⟩
    · rcases h2 with ⟨e1, he1, hk1, _⟩ | ⟨_, rfl⟩
      · exact absurd hk1 (g2 e1 he1)
      · simp [Instr.lookup, run_underlying ht, MapKept.run_getObj_map hb, K.check w es.isEmpty hkey, g1, hz, Result.andThen]
    · have hv : v0 = e0.val := by
        have hj : es[j]? = some e0 := by simpa using g2
        simp [Instr.mapEntry, run_underlying ht, MapKept.run_getObj_map hb, K.check w false hkey, g1, hj, g3, K.stays w hkey, MapKept.run_setObj_map _ hb, Result.andThen] at h1
        exact h1.1.1.symm
      subst hv
      simp [Instr.lookup, run_underlying ht, MapKept.run_getObj_map hb, K.check w es.isEmpty hkey, g1, hz, Result.andThen]
  · rcases K.find w hkey es.toList F.keys with ⟨g1, g2⟩ | ⟨j, e0, g1, g2, g3⟩
    · rcases h2 with ⟨e1, he1, hk1, _⟩ | ⟨_, rfl⟩
      · exact absurd hk1 (g2 e1 he1)
      · simp [Instr.mapEntry, run_underlying ht, MapKept.run_getObj_map hb, K.check w false hkey, g1, hz, MapKept.run_setObj_map _ hb, Result.andThen, setBlock] at h1
        simp [Instr.mapUpdate, run_underlying ht, MapKept.run_getObj_map hb, K.check w false hkey, g1, MapKept.run_setObj_map _ hb, Result.andThen, setBlock]
        exact h1.2
    · have hj : es[j]? = some e0 := by simpa using g2
      simp [Instr.mapEntry, run_underlying ht, MapKept.run_getObj_map hb, K.check w false hkey, g1, hj, g3, K.stays w hkey, MapKept.run_setObj_map _ hb, Result.andThen, setBlock] at h1
      simp [Instr.mapUpdate, run_underlying ht, MapKept.run_getObj_map hb, K.check w false hkey, g1, hj, g3, K.stays w hkey, MapKept.run_setObj_map _ hb, Result.andThen, setBlock]
      rw [← h1.2]
      have hm : es.modify j (fun e => { key := key, val := v0, born := e.born : MapEntry }) = es.modify j (fun e => { key := key, val := e.val, born := e.born : MapEntry }) := by
        apply Array.ext'
        rw [Array.toList_modify, Array.toList_modify, modify_eq_set _ _ _ _ g2, modify_eq_set _ _ _ _ g2, h1.1.1]
      rw [hm]
  · obtain ⟨es', clock', g1, g2⟩ := h3 (setBlock w b (.map es1 clock1)) val (hget _)
    rw [hset] at g1
    exact ⟨_, g1, g2⟩
end
section
variable {P : Program} {kt et t : TypeId} {κ ε : Type} {K : KeyEnc P kt κ} {V : ElEnc P et ε} {w : World} {b n : Nat} {f : κ → Option ε}
theorem MapOf.entry [DecidableEq κ] (h : MapOf K V w b n f) (L : KeyLaw P kt) (ht : P.underlying t = some (.map kt et)) (hn : n < maxLen) {k : κ} (hk : K.ok k) (h0 : V.ok ((f k).getD V.zero)) {y : ε} (hy : V.ok y) :
    ∃ (st : Nat) (W1 W3 : World), (Instr.mapEntry t (.map (some b)) (K.val k)).run P w = .ok (.tuple #[V.val ((f k).getD V.zero), goInt st]) W1 ∧
      (Instr.lookup t (.map (some b)) (K.val k) false).run P w = .ok (V.val ((f k).getD V.zero)) w ∧ (Instr.lookup t (.map (some b)) (K.val k) false).run P W1 = .ok (V.val ((f k).getD V.zero)) W1 ∧
      (Instr.entryStore t (.map (some b)) (goInt st) (V.val y)).run P W1 = .ok () W3 ∧ MapOf K V W3 b (n + 1) (fun k' => if k' = k then some y else f k') ∧ w.grownBy W1 (some b) ∧ w.grownBy W3 (some b) := by
  have hl := h.run_plain ht hk
  obtain ⟨W3, u3, m3, g3⟩ := h.update ht hn hk hy
  obtain ⟨W1, u1, m1, g1⟩ := h.update ht hn hk h0
  have hl1 := m1.run_plain ht hk
  rw [if_pos rfl] at hl1
  obtain ⟨D, ⟨es, clock, hb, F, _, _⟩, _⟩ := h.out
  obtain ⟨v0, st, W1', e1, e2, e3, e4⟩ := entry_steps L ht V.hz hb F (K.key k hk)
  rw [hl] at e2
  obtain rfl : V.val ((f k).getD V.zero) = v0 := by injection e2
  rw [u1] at e3
  obtain rfl : W1 = W1' := by injection e3
  obtain ⟨W3', e5, e6⟩ := e4 (V.val y)
  rw [u3] at e6
  obtain rfl : W3 = W3' := by injection e6
  exact ⟨st, W1, W3, e1, hl, hl1, e5, m3, g1, g3⟩
end
end Go.Proofs.YtcpikafmclfcfaaDoor.Mp
end
section
namespace Go.Proofs.YtcpikafmclfcfaaDoor.Vn
open Go.RowKit Go.Proofs.YtcpikafmclfcfaaDoorW.PrintWords Go.Proofs.YtcpikafmclfcfaaDoorW.PrintLast Go.Proofs.YtcpikafmclfcfaaDoorW.PrintMore Go.Proofs.YtcpikafmclfcfaaDoor.PV Go.Proofs.YtcpikafmclfcfaaDoor.Vl Go.Proofs.YtcpikafmclfcfaaDoor.Mp
set_option linter.unusedVariables false
set_option linter.unusedSimpArgs false
theorem rdn23 (l : List S23) (k : Nat) (h : k < l.length) : rd_T23 l k = l[k] := by simp [rd_T23, h]
theorem wfN {p : Nat} (h : p ≤ 1000) : (Lit.int .i64 (p : Int)).wf = true := by
  have h1 : IntKind.i64.min = -9223372036854775808 := by decide
  have h2 : IntKind.i64.max = 9223372036854775807 := by decide
  simp [Lit.wf, h1, h2]; omega
def isK (k : V3) (x : S23) : Bool := decide (x.f0 = k.1.1) && decide (x.f1 = k.1.2.1) && decide (x.f2 = k.1.2.2)
def cntF (l : List S23) : V3 → Option Int := fun k => if l.countP (isK k) = 0 then none else some (l.countP (isK k) : Int)
theorem cntF_get (l : List S23) (k : V3) : (cntF l k).getD 0 = (l.countP (isK k) : Int) := by
  unfold cntF
  by_cases h : l.countP (isK k) = 0
  · rw [if_pos h, h]; rfl
  · rw [if_neg h]; rfl
theorem cntF_snoc (l : List S23) (x : S23) (k : V3) (hk : (x.f0, x.f1, x.f2) = k.1) : cntF (l ++ [x]) = fun k' => if k' = k then some ((l.countP (isK k) : Int) + 1) else cntF l k' := by
  funext k'
  unfold cntF
  rw [List.countP_append]
  have h1 : ([x] : List S23).countP (isK k') = if k' = k then 1 else 0 := by
    have e : isK k' x = decide (k' = k) := by
      unfold isK
      by_cases h : k' = k
      · subst h; rw [← hk]; simp
      · rw [decide_eq_false h]
        by_cases a : x.f0 = k'.1.1
        · by_cases b : x.f1 = k'.1.2.1
          · by_cases c : x.f2 = k'.1.2.2
            · exact absurd (Subtype.ext (by rw [← hk]; exact Prod.ext a.symm (Prod.ext b.symm c.symm))) h
            · simp [c]
          · simp [b]
        · simp [a]
    rw [List.countP_cons, List.countP_nil, e]
    by_cases h : k' = k <;> simp [h]
  rw [h1]
  by_cases h : k' = k
  · subst h
    simp
  · simp [h]
end Go.Proofs.YtcpikafmclfcfaaDoor.Vn
end
section
set_option linter.unusedVariables false
set_option linter.unusedSimpArgs false
namespace Go.Proofs.YtcpikafmclfcfaaDoor.Txt
open Go.RowKit Go.Proofs.YtcpikafmclfcfaaDoorW.PrintWords
def L (s : ByteArray) : List UInt8 := s.data.toList
theorem L_length (s : ByteArray) : (L s).length = s.size := by show s.data.toList.length = s.data.size; exact Array.length_toList
theorem L_inj {s t : ByteArray} (h : L s = L t) : s = t := by
  cases s; cases t; congr 1; exact Array.toList_inj.1 h
theorem L_mk (l : List UInt8) : L ⟨l.toArray⟩ = l := by simp [L]
theorem toList_L (s : ByteArray) : s.toList = L s := ByteArray.toList_eq s
theorem extract_L (s : ByteArray) (a b : Nat) : L (s.extract a b) = ((L s).drop a).take (b - a) := Go.Lib.extract_data s a b
def run (f : UInt8 → Bool) (l : List UInt8) (p : Nat) : Nat := p + ((l.drop p).takeWhile f).length
end Go.Proofs.YtcpikafmclfcfaaDoor.Txt
end
section
namespace Go.Proofs.YtcpikafmclfcfaaDoor.Vc
open Go.RowKit Go.Proofs.YtcpikafmclfcfaaDoor.Lib Go.Proofs.YtcpikafmclfcfaaDoorW.PrintWords Go.Proofs.YtcpikafmclfcfaaDoorW.PrintLast Go.Proofs.YtcpikafmclfcfaaDoorW.PrintMore Go.Proofs.YtcpikafmclfcfaaDoor.PV Go.Proofs.YtcpikafmclfcfaaDoor.Vl
set_option linter.unusedVariables false
set_option linter.unusedSimpArgs false
def mkB (l : List UInt8) : ByteArray := ⟨l.toArray⟩
def pt (a b c : Int) : Nat → Int
  | 0 => a
  | 1 => b
  | _ => c
def itB (n : Int) : ByteArray := ⟨(Go.Lib.itoa n).toArray⟩
theorem itB_f (n : Int) (h : I64 n) : strconv_Itoa.f n = some (itB n) := by unfold strconv_Itoa.f; rw [if_pos h]; rfl
def nmB (k : Nat) : ByteArray := ⟨(nm k).toArray⟩
def partB (k : Nat) (n : Int) : ByteArray := nmB k ++ ⟨#[61]⟩ ++ itB n
def preB (a b c : Int) : Nat → List ByteArray
  | 0 => []
  | k + 1 => preB a b c k ++ if pt a b c k = 0 then [] else [partB k (pt a b c k)]
theorem preB_len (a b c : Int) : ∀ k, (preB a b c k).length ≤ k
  | 0 => Nat.le_refl 0
  | k + 1 => by
    have := preB_len a b c k
    unfold preB
    rw [List.length_append]
    split <;> simp <;> omega
theorem nm_len (k : Nat) : (nm k).length = 3 := by
  match k with
  | 0 => rfl
  | 1 => rfl
  | _ + 2 => rfl
theorem nmB_size (k : Nat) : (nmB k).size = 3 := nm_len k
theorem itB_size (n : Int) (h : I64 n) : (itB n).size ≤ 30 := by
  show (Go.Lib.itoa n).toArray.size ≤ 30
  rw [List.size_toArray]
  have hd : ∀ u : Nat, u < 10 ^ 20 → (Go.Lib.decDigits u).length ≤ 25 := by
    intro u hu
    rw [Go.Lib.decDigits_length]
    have : ∀ (k n : Nat), n < 10 ^ (k + 1) → Go.Lib.nDigits n ≤ k + 1 := by
      intro k
      induction k with
      | zero => intro n h; rw [Go.Lib.nDigits_small (by simpa using h)]; omega
      | succ k ih =>
        intro n h
        by_cases hn : n < 10
        · rw [Go.Lib.nDigits_small hn]; omega
        · rw [Go.Lib.nDigits_big hn]
          have := ih (n / 10) (by rw [Nat.pow_succ] at h; omega)
          omega
    have := this 19 u hu
    omega
  unfold Go.Lib.itoa
  split
  · have := hd n.natAbs (by unfold I64 at h; omega)
    simp only [List.length_cons]; omega
  · have := hd n.toNat (by unfold I64 at h; omega)
    omega
theorem L_partB (k : Nat) (n : Int) : (partB k n).data.toList = partL k n := by
  unfold partB partL nmB itB
  simp
theorem preB_all (a b c : Int) : (preB a b c 3).map (·.data.toList) = partsL a b c := by
  simp only [preB, pt, partsL, oneP, List.nil_append, List.map_append]
  congr 1
  · congr 1
    · split <;> simp [L_partB]
    · split <;> simp [L_partB]
  · split <;> simp [L_partB]
theorem pix (a b c : Int) (k : Nat) (h : k < 3) (w : World) : (Instr.index 51 (vecV a b c) (.int .i64 k)).run Tryd.prog w = .ok (.int .i64 (pt a b c k)) w := by
  have : k = 0 ∨ k = 1 ∨ k = 2 := by omega
  rcases this with rfl | rfl | rfl
  · exact ix0 _ _ _ w
  · exact ix1 _ _ _ w
  · exact ix2 _ _ _ w
theorem nix0 (w : World) : (Instr.index 57 namesV (.int .i64 0)).run Tryd.prog w = .ok (.string ⟨#[99, 112, 117]⟩) w := by kernel_rfl
theorem nix1 (w : World) : (Instr.index 57 namesV (.int .i64 1)).run Tryd.prog w = .ok (.string ⟨#[109, 101, 109]⟩) w := by kernel_rfl
theorem nix2 (w : World) : (Instr.index 57 namesV (.int .i64 2)).run Tryd.prog w = .ok (.string ⟨#[103, 112, 117]⟩) w := by kernel_rfl
theorem nix (k : Nat) (h : k < 3) (w : World) : (Instr.index 57 namesV (.int .i64 k)).run Tryd.prog w = .ok (.string (nmB k)) w := by
  have : k = 0 ∨ k = 1 ∨ k = 2 := by omega
  rcases this with rfl | rfl | rfl
  · exact nix0 w
  · exact nix1 w
  · exact nix2 w
theorem struct_eq (a b c x y z : Int) (w : World) : (binOp .eql 23 (.agg #[.int .i64 a, .int .i64 b, .int .i64 c]) (.agg #[.int .i64 x, .int .i64 y, .int .i64 z])).run Tryd.prog w = .ok (.bool (decide (a = x) && decide (b = y) && decide (c = z))) w := by
  have hu23 := Tryd.underlying23
  have hu3 := Tryd.underlying3
  rw [run_eql_struct]
  go_simp
  by_cases h1 : a = x <;> by_cases h2 : b = y <;> by_cases h3 : c = z <;> simp [h1, h2, h3, Result.andThen]
theorem struct_ne (a b c : Int) (h : ¬ (a = 0 ∧ b = 0 ∧ c = 0)) (w : World) : (binOp .eql 23 (.agg #[.int .i64 a, .int .i64 b, .int .i64 c]) (.agg #[.int .i64 0, .int .i64 0, .int .i64 0])).run Tryd.prog w = .ok (.bool false) w := by
  rw [struct_eq]
  congr 2
  by_cases h1 : a = 0 <;> by_cases h2 : b = 0 <;> by_cases h3 : c = 0 <;> simp [h1, h2, h3] at h ⊢
theorem join_f (a b c : Int) (h : ¬ (a = 0 ∧ b = 0 ∧ c = 0)) (ha : I64 a) (hb : I64 b) (hc : I64 c) : strings_Join.f (preB a b c 3) ⟨#[44]⟩ = some (mkB (fmtL a b c)) := by
  unfold strings_Join.f fmtL mkB
  rw [if_neg h, preB_all, if_pos]
  have hl := preB_len a b c 3
  refine ⟨by omega, ?_⟩
  have h1 : ∀ k n, I64 n → (partL k n).length ≤ 40 := by
    intro k n hn
    have := itB_size n hn
    have h3 : (itB n).size = (Go.Lib.itoa n).length := by show (Go.Lib.itoa n).toArray.size = _; rw [List.size_toArray]
    unfold partL
    rw [List.length_append, nm_len, List.length_cons]
    omega
  have h2 : ∀ p ∈ partsL a b c, p.length ≤ 40 := by
    intro p hp
    unfold partsL oneP at hp
    simp only [List.mem_append] at hp
    rcases hp with (hp | hp) | hp
    all_goals
      split at hp
      · cases hp
      · rw [List.mem_singleton.1 hp]; exact h1 _ _ (by assumption)
  have h3 : (partsL a b c).length ≤ 3 := by rw [← preB_all, List.length_map]; exact hl
  generalize partsL a b c = l at h2 h3
  unfold Go.Lib.join
  match l, h2, h3 with
  | [], _, _ => simp [List.intercalate]
  | [x], h2, _ => have := h2 x (by simp); simp [List.intercalate]; omega
  | [x, y], h2, _ => have := h2 x (by simp); have := h2 y (by simp); simp [List.intercalate]; omega
  | [x, y, z], h2, _ => have := h2 x (by simp); have := h2 y (by simp); have := h2 z (by simp); simp [List.intercalate]; omega
set_option maxHeartbeats 2000000 in
set_option maxRecDepth 100000 in
theorem Format_calls (a b c : Int) (w : World) (ha : I64 a) (hb : I64 b) (hc : I64 c) (hG : Glob w) : Calls Tryd.prog 12 #[vecV a b c] w fun e w' => e = .returned (.string (mkB (fmtL a b c))) ∧ Below w.heap.size w w' := by
  have hu23 := Tryd.underlying23
  have hu51 := Tryd.underlying51
  by_cases h0 : a = 0 ∧ b = 0 ∧ c = 0
  · obtain ⟨rfl, rfl, rfl⟩ := h0
    go_enter Tryd.func12, Tryd.ntmps12
    go_wp2
    go_ret
    exact ⟨rfl, below_alloc (Below.refl _ _) _⟩
  · have HJ := Aside0.mk (join_f a b c h0 ha hb hc)
    have HPI := Aside0.mk (show ∀ k, I64 (pt a b c k) from fun k => by match k with | 0 => exact ha | 1 => exact hb | _ + 2 => exact hc)
    have heq := struct_ne a b c h0
    clear ha hb hc
    go_enter Tryd.func12, Tryd.ntmps12
    go_wp2_with fail
    refine (parts_calls a b c _).mono ?_
    rintro e w1 ⟨rfl, hb⟩
    have HB := Aside0.mk (below_then (below_alloc (Below.refl w.heap.size w) _) (below_alloc (Below.refl w.heap.size w) _).size hb)
    clear hb h0
    go_wp2
    go_loopw [3, 11] (fun v3 v11 wr => ∃ k : Nat, k ≤ 3 ∧ v11 = .int .i64 k ∧ Aside0 (Kd.R Kd.string 9 wr w.heap.size (fun _ => True) v3 (preB a b c k)) ∧ Aside0 (Below w.heap.size w wr)) (fun _ v11 _ => 3 - (intOf v11).toNat)
    case atStart => exact ⟨0, by omega, rfl, ⟨Kd.R_nil _ _ _ _ _⟩, HB⟩
    case round =>
      clear HB
      obtain ⟨k, hk, rfl, HR, HB⟩ := hrel
      by_cases hlt : k < 3
      · have hix := pix a b c k hlt
        have hnx := nix k hlt
        have HI := Aside0.mk (HPI.out k)
        have hstep : intOf (.int .i64 (k + 1 : Nat)) = ((k + 1 : Nat) : Int) := rfl
        by_cases hz : pt a b c k = 0
        · have dz : (pt a b c k != 0) = false := by simp [hz]
          have HZ := Aside0.mk (show preB a b c (k + 1) = preB a b c k by rw [preB, if_pos hz, List.append_nil])
          go_wp2
          go_roundw
          case rel => exact ⟨k + 1, by omega, by simp, ⟨by rw [HZ.out]; exact HR.out⟩, HB⟩
          case measure => simp [intOf]; omega
        · have dz : (pt a b c k != 0) = true := by simp [hz]
          have HZ := Aside0.mk (show preB a b c (k + 1) = preB a b c k ++ [partB k (pt a b c k)] by rw [preB, if_neg hz])
          have hs1 : (9223372036854775807 < (nmB k).size + 1) = False := eq_false (by rw [nmB_size]; omega)
          have hs2 : (9223372036854775807 < (nmB k).size + 1 + (itB (pt a b c k)).size) = False := eq_false (by have := itB_size _ HI.out; rw [nmB_size]; omega)
          clear hz
          go_wp2_with fail
          refine start_ (n := 11) (S := fun _ => True) (ds := []) #[false, false, false, false, false, false, false, false, false, false, false] (by kernel_rfl) rfl rfl trivial (fun hHeld => ?_)
          refine pure_ (i := 0) (N := some 17) (v := ?_) (a' := ?_) #[true, false, false, false, false, false, false, false, false, false, false] rfl rfl (by kernel_rfl) (fun _ _ _ h => h) (Or.inl ⟨by rfl, ?_⟩) ?_ ?_
          rotate_left
          · intro w'
            go_simp
            with_reducible rfl
          rotate_left
          · simp only [Act.put, List.setIfInBounds_toArray, List.set_cons_zero, List.set_cons_succ, i64_w, i32_w]
            rfl
          refine pure_ (i := 2) (N := some 19) (v := ?_) (a' := ?_) #[true, false, true, false, false, false, false, false, false, false, false] rfl rfl (by kernel_rfl) (fun _ _ _ h => h) (Or.inl ⟨by rfl, ?_⟩) ?_ ?_
          rotate_left
          · intro w'
            go_simp
            with_reducible rfl
          rotate_left
          · simp only [Act.put, List.setIfInBounds_toArray, List.set_cons_zero, List.set_cons_succ, i64_w, i32_w]
            rfl
          refine pure_ (i := 5) (N := some 22) (v := ?_) (a' := ?_) #[true, false, true, false, false, true, false, false, false, false, false] rfl rfl (by kernel_rfl) (fun _ _ _ h => h) (Or.inl ⟨by rfl, ?_⟩) ?_ ?_
          rotate_left
          · intro w'
            go_simp
            with_reducible rfl
          rotate_left
          · simp only [Act.put, List.setIfInBounds_toArray, List.set_cons_zero, List.set_cons_succ, i64_w, i32_w]
            rfl
          refine one_ (i := 1) (N := some 18) #[true, true, true, false, false, true, false, false, false, false, false] rfl rfl (by kernel_rfl) (by decide) (fun K hK => ?_)
          refine goes_ Tryd.func33 (by kernel_rfl) rfl #[] (by rfl) rfl rfl (by (try simp only [List.map_toArray, List.map_cons, List.map_nil]); first | done | rfl) ?_
          refine (names_calls _).mono ?_
          rintro e w2 ⟨rfl, hb⟩
          have HR2 := Aside0.mk (Kd.R_below (Kd.R_drew HR.out) hb)
          have HB2 := Aside0.mk (below_then (below_drew HB.out) (below_drew HB.out).size hb)
          clear hb
          refine ⟨_, rfl, ?_⟩
          refine hK.out _ _ trivial (fun hHeld => ?_)
          clear hK K
          refine norm_ (a' := ?_) ?_ ?_
          rotate_left
          · show Act.put _ (some 18) _ = _
            simp only [Act.put, List.setIfInBounds_toArray, List.set_cons_zero, List.set_cons_succ, i64_w, i32_w]
            rfl
          refine pure_ (i := 3) (N := some 20) (v := ?_) (a' := ?_) #[true, true, true, true, false, true, false, false, false, false, false] rfl rfl (by kernel_rfl) (fun _ _ _ h => h) (Or.inl ⟨by rfl, ?_⟩) ?_ ?_
          rotate_left
          · intro w'
            go_simp
            with_reducible rfl
          rotate_left
          · simp only [Act.put, List.setIfInBounds_toArray, List.set_cons_zero, List.set_cons_succ, i64_w, i32_w]
            rfl
          refine pure_ (i := 4) (N := some 21) (v := ?_) (a' := ?_) #[true, true, true, true, true, true, false, false, false, false, false] rfl rfl (by kernel_rfl) (fun _ _ _ h => h) (Or.inl ⟨by rfl, ?_⟩) ?_ ?_
          rotate_left
          · intro w'
            go_simp
            with_reducible rfl
          rotate_left
          · simp only [Act.put, List.setIfInBounds_toArray, List.set_cons_zero, List.set_cons_succ, i64_w, i32_w]
            rfl
          refine one_ (i := 6) (N := some 23) #[true, true, true, true, true, true, true, false, false, false, false] rfl rfl (by kernel_rfl) (by decide) (fun K hK => ?_)
          refine goes_ Tryd.func38 (by kernel_rfl) rfl #[.int .i64 (pt a b c k)] (by rfl) rfl rfl (by (try simp only [List.map_toArray, List.map_cons, List.map_nil]); first | done | rfl) ?_
          refine (strconv_Itoa.calls (pt a b c k) (itB (pt a b c k)) _ (itB_f _ HI.out) (hG.below HB2.out)).mono ?_
          rintro e w3 ⟨rfl, hb⟩
          have HR3 := Aside0.mk (Kd.R_below HR2.out hb)
          have HB3 := Aside0.mk (below_then HB2.out HB2.out.size hb)
          clear hb
          refine ⟨_, rfl, ?_⟩
          refine hK.out _ _ trivial (fun hHeld => ?_)
          clear hK K
          refine norm_ (a' := ?_) ?_ ?_
          rotate_left
          · show Act.put _ (some 23) _ = _
            simp only [Act.put, List.setIfInBounds_toArray, List.set_cons_zero, List.set_cons_succ, i64_w, i32_w]
            rfl
          refine pure_ (i := 7) (N := some 24) (v := ?_) (a' := ?_) #[true, true, true, true, true, true, true, true, false, false, false] rfl rfl (by kernel_rfl) (fun _ _ _ h => h) (Or.inl ⟨by rfl, ?_⟩) ?_ ?_
          rotate_left
          · intro w'
            go_simp
            with_reducible rfl
          rotate_left
          · simp only [Act.put, List.setIfInBounds_toArray, List.set_cons_zero, List.set_cons_succ, i64_w, i32_w]
            rfl
          refine one_ (i := 8) (N := some 25) #[true, true, true, true, true, true, true, true, true, false, false] rfl rfl (by kernel_rfl) (by decide) (fun K hK => ?_)
          refine value_ (w1 := ?_) (v := ?_) (by rfl) rfl ?_ ?_
          rotate_left 2
          · go_simp
            constructor
            · rfl
            · rfl
          refine hK.out _ _ trivial (fun hHeld => ?_)
          clear hK K
          refine norm_ (a' := ?_) ?_ ?_
          rotate_left
          · show Act.put _ (some 25) _ = _
            simp only [Act.put, List.setIfInBounds_toArray, List.set_cons_zero, List.set_cons_succ, i64_w, i32_w]
            rfl
          refine one_ (i := 9) (N := some 26) #[true, true, true, true, true, true, true, true, true, true, false] rfl rfl (by kernel_rfl) (by decide) (fun K hK => ?_)
          refine Kd.R_append_step Kd.string w.heap.size (by rfl) (.tmp 17) (.tmp 25) 60 9 (.string ⟨#[]⟩) 16 rfl Tryd.underlying60 info9 rfl (by decide) (by omega) u3 (preB a b c k) (partB k (pt a b c k)) [.string (partB k (pt a b c k))] (fun _ => True) (fun _ => False) rfl rfl ?aP (fun _ hk => hk.elim) ?aF ?aO (Below.refl _ _) ?aS ?aL ?_
          (case aP => exact rfl)
          (case aF => exact (fun _ _ => trivial))
          (case aO => exact HR3.out)
          (case aS => exact HB3.out.size)
          (case aL => have := preB_len a b c k; omega)
          intro v4 w4 ho hb hg hat
          have HR4 := Aside0.mk ho
          have HB4 := Aside0.mk (below_weaken HB3.out (Nat.le_refl _) hb)
          clear ho hb hg hat
          refine hK.out _ _ trivial (fun hHeld => ?_)
          clear hK K
          refine norm_ (a' := ?_) ?_ ?_
          rotate_left
          · show Act.put _ (some 26) _ = _
            simp only [Act.put, List.setIfInBounds_toArray, List.set_cons_zero, List.set_cons_succ, i64_w, i32_w]
            rfl
          refine pure_ (i := 10) (N := some 3) (v := ?_) (a' := ?_) #[true, true, true, true, true, true, true, true, true, true, true] rfl rfl (by kernel_rfl) (fun _ _ _ h => h) (Or.inl ⟨by rfl, ?_⟩) ?_ ?_
          rotate_left
          · intro w'
            go_simp
            with_reducible rfl
          rotate_left
          · simp only [Act.put, List.setIfInBounds_toArray, List.set_cons_zero, List.set_cons_succ, i64_w, i32_w]
            rfl
          refine done_ (by kernel_rfl) ?_
          go_wp2
          go_roundw
          case rel => exact ⟨k + 1, by omega, by simp, ⟨by rw [HZ.out]; exact HR4.out⟩, HB4⟩
          case measure => simp [intOf]; omega
      · obtain rfl : k = 3 := by omega
        obtain ⟨A, cap, rfl, hcap, hA⟩ := Kd.R_reads HR.out
        go_wp2_with fail
        refine (strings_Join.calls A cap (preB a b c 3) ⟨#[44]⟩ _ _ hA hcap HJ.out).mono ?_
        rintro e w5 ⟨rfl, hb⟩
        have HB5 := Aside0.mk (below_then HB.out HB.out.size hb)
        clear hb
        go_wp2
        go_ret
        exact ⟨rfl, HB5.out⟩
end Go.Proofs.YtcpikafmclfcfaaDoor.Vc
end
section
namespace Go.Proofs.YtcpikafmclfcfaaDoor.Vc
open Go.RowKit Go.Proofs.YtcpikafmclfcfaaDoorW.PrintWords Go.Proofs.YtcpikafmclfcfaaDoorW.PrintLast Go.Proofs.YtcpikafmclfcfaaDoorW.PrintMore Go.Proofs.YtcpikafmclfcfaaDoor.PV Go.Proofs.YtcpikafmclfcfaaDoor.Vl
attribute [local go_sem] max2_int min2_int max_two min_two max_three min_three max_four min_four
set_option linter.unusedVariables false
set_option linter.unusedSimpArgs false
def stepI (n u p : Int) : Int := if u > 0 then mn n (wrap64 (Int.tdiv p u)) else n
def accI (a b c x y z : Int) : Nat → Int
  | 0 => 1073741824
  | k + 1 => stepI (accI a b c x y z k) (pt a b c k) (pt x y z k)
def intoF (a b c x y z : Int) : Int := if rightB a b c = true ∧ rightB x y z = true then accI a b c x y z 3 else 0
theorem cell3 {W : World} {b : Nat} {x y z : Value} {t : TypeId} (h : W.heap[b]? = some (.cells #[x, y, z] t (0, 0))) : W.cell? ⟨b, 0, none⟩ = some x ∧ W.cell? ⟨b, 1, none⟩ = some y ∧ W.cell? ⟨b, 2, none⟩ = some z :=
  ⟨(blk_cell h 0).trans rfl, (blk_cell h 1).trans rfl, (blk_cell h 2).trans rfl⟩
theorem cellk {W : World} {b : Nat} {x y z : Int} {t : TypeId} (h : W.heap[b]? = some (.cells #[.int .i64 x, .int .i64 y, .int .i64 z] t (0, 0))) (k : Nat) (hk : k < 3) : W.cell? ⟨b, k, none⟩ = some (.int .i64 (pt x y z k)) := by
  have : k = 0 ∨ k = 1 ∨ k = 2 := by omega
  rcases this with rfl | rfl | rfl
  · exact (cell3 h).1
  · exact (cell3 h).2.1
  · exact (cell3 h).2.2
set_option maxHeartbeats 2000000 in
set_option maxRecDepth 100000 in
theorem Into_calls (a b c x y z : Int) (w : World) : Calls Tryd.prog 19 #[vecV a b c, vecV x y z] w fun e w' => e = .returned (.int .i64 (intoF a b c x y z)) ∧ Below w.heap.size w w' := by
  have hu23 := Tryd.underlying23
  have hu51 := Tryd.underlying51
  cases h1 : rightB a b c with
  | false =>
    have hI : intoF a b c x y z = 0 := by unfold intoF; rw [if_neg (by simp [h1])]
    rw [hI]
    clear hI
    go_enter Tryd.func19, Tryd.ntmps19
    go_wp2_with fail
    refine (Right_calls a b c _).mono ?_
    rintro e w1 ⟨rfl, hb⟩
    rw [h1]
    have HB := Aside0.mk (below_then (below_alloc (below_alloc (Below.refl w.heap.size w) _) _) (below_alloc (below_alloc (Below.refl w.heap.size w) _) _).size hb)
    clear hb
    go_wp2_with fail
    go_ret
    exact ⟨rfl, HB.out⟩
  | true =>
    go_enter Tryd.func19, Tryd.ntmps19
    go_wp2_with fail
    obtain ⟨w0, hw0⟩ : ∃ w0, (w.alloc (.cells #[.int .i64 a, .int .i64 b, .int .i64 c] 23)).alloc (.cells #[.int .i64 x, .int .i64 y, .int .i64 z] 23) = w0 := ⟨_, rfl⟩
    have HB0 := Aside0.mk (below_alloc (below_alloc (Below.refl w.heap.size w) (.cells #[.int .i64 a, .int .i64 b, .int .i64 c] 23)) (.cells #[.int .i64 x, .int .i64 y, .int .i64 z] 23))
    have BV0 := Aside0.mk (blk_alloc (blk_new w (.cells #[.int .i64 a, .int .i64 b, .int .i64 c] 23)) (.cells #[.int .i64 x, .int .i64 y, .int .i64 z] 23))
    have BW0 := Aside0.mk (blk_new (w.alloc (.cells #[.int .i64 a, .int .i64 b, .int .i64 c] 23)) (.cells #[.int .i64 x, .int .i64 y, .int .i64 z] 23))
    rw [World.size_alloc] at BW0
    rw [hw0] at HB0 BV0 BW0 ⊢
    clear hw0
    refine (Right_calls a b c _).mono ?_
    rintro e w1 ⟨rfl, hb⟩
    rw [h1]
    have HB1 := Aside0.mk (below_then HB0.out HB0.out.size hb)
    have BV1 := Aside0.mk (blk_below BV0.out hb)
    have BW1 := Aside0.mk (blk_below BW0.out hb)
    clear hb HB0 BV0 BW0
    obtain ⟨c0, c1, c2⟩ := cell3 BW1.out
    go_wp2_with fail
    refine (Right_calls x y z _).mono ?_
    rintro e w2 ⟨rfl, hb⟩
    have HB2 := Aside0.mk (below_then HB1.out HB1.out.size hb)
    have BV2 := Aside0.mk (blk_below BV1.out hb)
    have BW2 := Aside0.mk (blk_below BW1.out hb)
    clear hb HB1 BV1 BW1 c0 c1 c2
    cases h2 : rightB x y z with
    | false =>
      have hI : intoF a b c x y z = 0 := by unfold intoF; rw [if_neg (by simp [h2])]
      go_wp2_with fail
      go_ret
      exact ⟨by rw [hI]; rfl, HB2.out⟩
    | true =>
      have hI := Aside0.mk (show intoF a b c x y z = accI a b c x y z 3 from by unfold intoF; rw [if_pos ⟨h1, h2⟩])
      obtain ⟨c0, c1, c2⟩ := cell3 BW2.out
      go_wp2_with fail
      refine (parts_calls x y z _).mono ?_
      rintro e w3 ⟨rfl, hb⟩
      have HB3 := Aside0.mk (below_then HB2.out HB2.out.size hb)
      have BV3 := Aside0.mk (blk_below BV2.out hb)
      clear hb HB2 BV2 BW2 c0 c1 c2
      have BV4 := Aside0.mk (blk_alloc BV3.out (.cells #[.int .i64 x, .int .i64 y, .int .i64 z] 51))
      have BP4 := Aside0.mk (blk_new w3 (.cells #[.int .i64 x, .int .i64 y, .int .i64 z] 51))
      have HB4 := Aside0.mk (below_alloc HB3.out (.cells #[.int .i64 x, .int .i64 y, .int .i64 z] 51))
      have HP := Aside0.mk (HB3.out.size)
      obtain ⟨d0, d1, d2⟩ := cell3 BV4.out
      clear HB3 BV3
      go_wp2_with fail
      obtain ⟨w4, hw4⟩ : ∃ w4, w3.alloc (.cells #[.int .i64 x, .int .i64 y, .int .i64 z] 51) = w4 := ⟨_, rfl⟩
      obtain ⟨b6, hb6⟩ : ∃ b6, w3.heap.size = b6 := ⟨_, rfl⟩
      rw [hw4] at BV4 BP4 HB4 ⊢
      rw [hb6] at BP4 HP ⊢
      clear hw4 hb6 d0 d1 d2
      refine (parts_calls a b c _).mono ?_
      rintro e w5 ⟨rfl, hb⟩
      have HB5 := Aside0.mk (below_then HB4.out HB4.out.size hb)
      have BP5 := Aside0.mk (blk_below BP4.out hb)
      clear hb HB4 BP4 BV4
      go_wp2
      go_loopw [5, 21] (fun v5 v21 wr => ∃ k : Nat, k ≤ 3 ∧ v21 = .int .i64 k ∧ v5 = .int .i64 (accI a b c x y z k) ∧ wr = w5) (fun _ v21 _ => 3 - (intOf v21).toNat)
      case atStart => exact ⟨0, by omega, rfl, rfl, rfl⟩
      case round =>
        obtain ⟨k, hk, rfl, rfl, rfl⟩ := hrel
        by_cases hlt : k < 3
        · have hix := pix a b c k hlt
          have hck := cellk BP5.out k hlt
          by_cases hz : pt a b c k > 0
          · have HZ := Aside0.mk (show accI a b c x y z (k + 1) = mn (accI a b c x y z k) (wrap64 (Int.tdiv (pt x y z k) (pt a b c k))) by rw [accI, stepI, if_pos hz])
            have hne : (pt a b c k = 0) = False := eq_false (by omega)
            go_wp2
            exact ⟨⟨k + 1, by omega, by simp, by rw [HZ.out]; rfl, trivial⟩, by simp [intOf]; omega⟩
          · have HZ := Aside0.mk (show accI a b c x y z (k + 1) = accI a b c x y z k by rw [accI, stepI, if_neg hz])
            go_wp2
            exact ⟨⟨k + 1, by omega, by simp, by rw [HZ.out], trivial⟩, by simp [intOf]; omega⟩
        · obtain rfl : k = 3 := by omega
          go_wp2
          go_ret
          exact ⟨by rw [hI.out]; rfl, HB5.out⟩
end Go.Proofs.YtcpikafmclfcfaaDoor.Vc
end
section
namespace Go.Proofs.YtcpikafmclfcfaaDoor.Vc
open Go.RowKit Go.Proofs.YtcpikafmclfcfaaDoorW.PrintWords Go.Proofs.YtcpikafmclfcfaaDoorW.PrintLast Go.Proofs.YtcpikafmclfcfaaDoorW.PrintMore Go.Proofs.YtcpikafmclfcfaaDoor.PV Go.Proofs.YtcpikafmclfcfaaDoor.Vl
set_option linter.unusedVariables false
set_option linter.unusedSimpArgs false
def or3 (u v s : Int) : Int := if u ≠ 0 then u else if v ≠ 0 then v else s
def orderV (a b c x y z : Int) : Int := or3 (Go.Lib.compareInt a x) (Go.Lib.compareInt b y) (Go.Lib.compareInt c z)
def lessB (a b c x y z : Int) : Bool := decide (orderV a b c x y z < 0)
theorem less_law (a b c x y z : Int) : lessB a b c x y z = if a = x then (if b = y then decide (c < z) else decide (b < y)) else decide (a < x) := by
  unfold lessB orderV or3 Go.Lib.compareInt
  by_cases h0 : a = x
  · subst h0
    by_cases h1 : b = y
    · subst h1
      by_cases h2 : c < z
      · simp [h2]
      · by_cases h3 : c > z
        · simp [h2, h3]
        · simp [h2, h3]
    · by_cases h2 : b < y
      · simp [h1, h2]
      · have h3 : b > y := by omega
        simp [h1, h2, h3]
  · by_cases h2 : a < x
    · simp [h0, h2]
    · have h3 : a > x := by omega
      simp [h0, h2, h3]
end Go.Proofs.YtcpikafmclfcfaaDoor.Vc
end
section
namespace Go.Proofs.YtcpikafmclfcfaaDoor.Sr
open Go.RowKit Go.Proofs.YtcpikafmclfcfaaDoorW.PrintWords Go.Proofs.YtcpikafmclfcfaaDoorW.PrintLast Go.Proofs.YtcpikafmclfcfaaDoorW.PrintMore
set_option linter.unusedVariables false
set_option linter.unusedSimpArgs false
structure Gr (w w' : World) : Prop where mk ::
  below : Below w.heap.size w w'
  dr : w.drawn ≤ w'.drawn
theorem Gr.refl (w : World) : Gr w w := ⟨Below.refl _ _, Nat.le_refl _⟩
theorem gr_step {w a b : World} (h : Gr w a) (k : Gr a b) : Gr w b := ⟨below_then h.below h.below.size k.below, Nat.le_trans h.dr k.dr⟩
theorem gr_alloc {w a : World} (h : Gr w a) (o : Obj) : Gr w (a.alloc o) := ⟨below_alloc h.below o, by
  rw [Go.Sort.alloc_eq_grow]; exact h.dr⟩
theorem gr_drewN {w a : World} (h : Gr w a) (n : Nat) : Gr w (a.drewN n) := ⟨pw_below_drewN h.below n, Nat.le_trans h.dr (by show a.drawn ≤ a.drawn + n; omega)⟩
theorem gr_drew1 {w a : World} (h : Gr w a) : Gr w a.drew := gr_drewN h 1
theorem Gr.grow {w a : World} (h : Gr w a) : ∃ q os, a = Go.Sort.grow (w.drewN q) os := by
  obtain ⟨⟨h1, h2, h3, h4, h5⟩, h6⟩ := h
  obtain ⟨hp, tp, dn, osx, ou⟩ := a
  refine ⟨dn - w.drawn, hp.extract w.heap.size hp.size, ?_⟩
  dsimp only at h1 h2 h3 h4 h5 h6
  subst h1; subst h2; subst h3
  unfold Go.Sort.grow
  have e1 : dn = (w.drewN (dn - w.drawn)).drawn := by show dn = w.drawn + (dn - w.drawn); omega
  have e2 : hp = w.heap ++ hp.extract w.heap.size hp.size := by
    apply Array.ext_getElem?
    intro j
    rw [Array.getElem?_append]
    by_cases hj : j < w.heap.size
    · rw [if_pos hj]; exact h5 j hj
    · rw [if_neg hj, Array.getElem?_extract]
      by_cases hj2 : j < hp.size
      · rw [if_pos (by omega), show w.heap.size + (j - w.heap.size) = j by omega]
      · rw [if_neg (by omega), Array.getElem?_eq_none (by omega)]
  show World.mk hp w.tape dn w.os w.output = World.mk (w.heap ++ hp.extract w.heap.size hp.size) w.tape (w.drewN (dn - w.drawn)).drawn w.os w.output
  rw [← e1, ← e2]
end Go.Proofs.YtcpikafmclfcfaaDoor.Sr
end
section
namespace Go.Proofs.YtcpikafmclfcfaaDoor.Vc
open Go.RowKit Go.Proofs.YtcpikafmclfcfaaDoorW.PrintWords Go.Proofs.YtcpikafmclfcfaaDoorW.PrintLast Go.Proofs.YtcpikafmclfcfaaDoorW.PrintMore Go.Proofs.YtcpikafmclfcfaaDoor.PV Go.Proofs.YtcpikafmclfcfaaDoor.Vl Go.Proofs.YtcpikafmclfcfaaDoor.Sr
set_option linter.unusedVariables false
set_option linter.unusedSimpArgs false
set_option maxHeartbeats 2000000 in
set_option maxRecDepth 100000 in
theorem Or_gr (u v s : Int) (b : Nat) (w : World) (h : w.heap[b]? = some (.cells #[.int .i64 u, .int .i64 v, .int .i64 s] 3 (0, 0))) :
    Calls Tryd.prog 62 #[.slice (some ⟨b, 0, none⟩) 3 3] w fun e w' => e = .returned (.int .i64 (or3 u v s)) ∧ Gr w w' := by
  obtain ⟨c0, c1, c2⟩ := cell3 h
  clear h
  unfold or3
  by_cases hu : u = 0
  · subst hu
    by_cases hv : v = 0
    · subst hv
      by_cases hs : s = 0
      · subst hs
        go_enter Tryd.func62, Tryd.ntmps62
        go_wp2
        refine wp_loop_rounds 4 ?_
        repeat any_goals (rw [rounds_succ]; go_wp2)
        go_ret
        exact ⟨rfl, Gr.refl _⟩
      · have ds : (s != 0) = true := by simp [hs]
        clear hs
        go_enter Tryd.func62, Tryd.ntmps62
        go_wp2
        refine wp_loop_rounds 4 ?_
        repeat any_goals (rw [rounds_succ]; go_wp2)
        go_ret
        exact ⟨by simp, Gr.refl _⟩
    · have dv : (v != 0) = true := by simp [hv]
      rw [if_neg (by simp), if_pos hv]
      clear hv
      go_enter Tryd.func62, Tryd.ntmps62
      go_wp2
      refine wp_loop_rounds 4 ?_
      repeat any_goals (rw [rounds_succ]; go_wp2)
      go_ret
      exact ⟨rfl, Gr.refl _⟩
  · have du : (u != 0) = true := by simp [hu]
    rw [if_pos hu]
    clear hu
    go_enter Tryd.func62, Tryd.ntmps62
    go_wp2
    refine wp_loop_rounds 4 ?_
    repeat any_goals (rw [rounds_succ]; go_wp2)
    go_ret
    exact ⟨rfl, Gr.refl _⟩
set_option maxHeartbeats 4000000 in
set_option maxRecDepth 100000 in
theorem order_gr (a b c x y z : Int) (w : World) : Calls Tryd.prog 42 #[vecV a b c, vecV x y z] w fun e w' => e = .returned (.int .i64 (orderV a b c x y z)) ∧ Gr w w' := by
  have hu23 := Tryd.underlying23
  have hu66 := Tryd.underlying66
  go_enter Tryd.func42, Tryd.ntmps42
  go_wp2_with fail
  obtain ⟨w0, hw0⟩ : ∃ w0, (w.alloc (.cells #[.int .i64 a, .int .i64 b, .int .i64 c] 23)).alloc (.cells #[.int .i64 x, .int .i64 y, .int .i64 z] 23) = w0 := ⟨_, rfl⟩
  have HBa := Aside0.mk (gr_alloc (gr_alloc (Gr.refl w) (.cells #[.int .i64 a, .int .i64 b, .int .i64 c] 23)) (.cells #[.int .i64 x, .int .i64 y, .int .i64 z] 23))
  have BVa := Aside0.mk (blk_alloc (blk_new w (.cells #[.int .i64 a, .int .i64 b, .int .i64 c] 23)) (.cells #[.int .i64 x, .int .i64 y, .int .i64 z] 23))
  have BWa := Aside0.mk (blk_new (w.alloc (.cells #[.int .i64 a, .int .i64 b, .int .i64 c] 23)) (.cells #[.int .i64 x, .int .i64 y, .int .i64 z] 23))
  rw [World.size_alloc] at BWa
  rw [hw0] at HBa BVa BWa ⊢
  clear hw0
  have HB := Aside0.mk (gr_drew1 HBa.out)
  have BV := Aside0.mk (blk_drew BVa.out)
  have BW := Aside0.mk (blk_drew BWa.out)
  clear HBa BVa BWa
  refine start_ (n := 18) (S := fun w' => (w'.cell? ⟨w.heap.size, 0, none⟩ = some (.int .i64 a) ∧ w'.cell? ⟨w.heap.size, 1, none⟩ = some (.int .i64 b) ∧ w'.cell? ⟨w.heap.size, 2, none⟩ = some (.int .i64 c)) ∧ (w'.cell? ⟨w.heap.size + 1, 0, none⟩ = some (.int .i64 x) ∧ w'.cell? ⟨w.heap.size + 1, 1, none⟩ = some (.int .i64 y) ∧ w'.cell? ⟨w.heap.size + 1, 2, none⟩ = some (.int .i64 z))) (ds := []) #[false, false, false, false, false, false, false, false, false, false, false, false, false, false, false, false, false, false] (by kernel_rfl) rfl rfl ⟨cell3 BV.out, cell3 BW.out⟩ (fun hHeld => ?_)
  refine pure_ (i := 0) (N := some 5) (v := ?_) (a' := ?_) #[true, false, false, false, false, false, false, false, false, false, false, false, false, false, false, false, false, false] rfl rfl (by kernel_rfl) (fun _ _ _ h => h) (Or.inl ⟨by rfl, ?_⟩) ?_ ?_
  rotate_left
  · intro w'
    go_simp
    with_reducible rfl
  rotate_left
  · simp only [Act.put, List.setIfInBounds_toArray, List.set_cons_zero, List.set_cons_succ, i64_w, i32_w]
    rfl
  refine pure_ (i := 2) (N := some 7) (v := ?_) (a' := ?_) #[true, false, true, false, false, false, false, false, false, false, false, false, false, false, false, false, false, false] rfl rfl (by kernel_rfl) (fun _ _ _ h => h) (Or.inl ⟨by rfl, ?_⟩) ?_ ?_
  rotate_left
  · intro w'
    go_simp
    with_reducible rfl
  rotate_left
  · simp only [Act.put, List.setIfInBounds_toArray, List.set_cons_zero, List.set_cons_succ, i64_w, i32_w]
    rfl
  refine pure_ (i := 5) (N := some 10) (v := ?_) (a' := ?_) #[true, false, true, false, false, true, false, false, false, false, false, false, false, false, false, false, false, false] rfl rfl (by kernel_rfl) (fun _ _ _ h => h) (Or.inl ⟨by rfl, ?_⟩) ?_ ?_
  rotate_left
  · intro w'
    go_simp
    with_reducible rfl
  rotate_left
  · simp only [Act.put, List.setIfInBounds_toArray, List.set_cons_zero, List.set_cons_succ, i64_w, i32_w]
    rfl
  refine pure_ (i := 7) (N := some 12) (v := ?_) (a' := ?_) #[true, false, true, false, false, true, false, true, false, false, false, false, false, false, false, false, false, false] rfl rfl (by kernel_rfl) (fun _ _ _ h => h) (Or.inl ⟨by rfl, ?_⟩) ?_ ?_
  rotate_left
  · intro w'
    go_simp
    with_reducible rfl
  rotate_left
  · simp only [Act.put, List.setIfInBounds_toArray, List.set_cons_zero, List.set_cons_succ, i64_w, i32_w]
    rfl
  refine pure_ (i := 10) (N := some 15) (v := ?_) (a' := ?_) #[true, false, true, false, false, true, false, true, false, false, true, false, false, false, false, false, false, false] rfl rfl (by kernel_rfl) (fun _ _ _ h => h) (Or.inl ⟨by rfl, ?_⟩) ?_ ?_
  rotate_left
  · intro w'
    go_simp
    with_reducible rfl
  rotate_left
  · simp only [Act.put, List.setIfInBounds_toArray, List.set_cons_zero, List.set_cons_succ, i64_w, i32_w]
    rfl
  refine pure_ (i := 12) (N := some 17) (v := ?_) (a' := ?_) #[true, false, true, false, false, true, false, true, false, false, true, false, true, false, false, false, false, false] rfl rfl (by kernel_rfl) (fun _ _ _ h => h) (Or.inl ⟨by rfl, ?_⟩) ?_ ?_
  rotate_left
  · intro w'
    go_simp
    with_reducible rfl
  rotate_left
  · simp only [Act.put, List.setIfInBounds_toArray, List.set_cons_zero, List.set_cons_succ, i64_w, i32_w]
    rfl
  refine take_ (i := 1) (N := some 6) (v := ?_) (a' := ?_) #[true, true, true, false, false, true, false, true, false, false, true, false, true, false, false, false, false, false] rfl rfl (by kernel_rfl) (fun _ _ _ h => h) (Or.inl ⟨by rfl, ?_⟩) hHeld ?_ ?_
  rotate_left
  · rintro w' ⟨⟨s0, s1, s2⟩, ⟨s3, s4, s5⟩⟩
    go_simp
    with_reducible rfl
  rotate_left
  · simp only [Act.put, List.setIfInBounds_toArray, List.set_cons_zero, List.set_cons_succ, i64_w, i32_w]
    rfl
  refine take_ (i := 3) (N := some 8) (v := ?_) (a' := ?_) #[true, true, true, true, false, true, false, true, false, false, true, false, true, false, false, false, false, false] rfl rfl (by kernel_rfl) (fun _ _ _ h => h) (Or.inl ⟨by rfl, ?_⟩) hHeld ?_ ?_
  rotate_left
  · rintro w' ⟨⟨s0, s1, s2⟩, ⟨s3, s4, s5⟩⟩
    go_simp
    with_reducible rfl
  rotate_left
  · simp only [Act.put, List.setIfInBounds_toArray, List.set_cons_zero, List.set_cons_succ, i64_w, i32_w]
    rfl
  refine take_ (i := 6) (N := some 11) (v := ?_) (a' := ?_) #[true, true, true, true, false, true, true, true, false, false, true, false, true, false, false, false, false, false] rfl rfl (by kernel_rfl) (fun _ _ _ h => h) (Or.inl ⟨by rfl, ?_⟩) hHeld ?_ ?_
  rotate_left
  · rintro w' ⟨⟨s0, s1, s2⟩, ⟨s3, s4, s5⟩⟩
    go_simp
    with_reducible rfl
  rotate_left
  · simp only [Act.put, List.setIfInBounds_toArray, List.set_cons_zero, List.set_cons_succ, i64_w, i32_w]
    rfl
  refine take_ (i := 8) (N := some 13) (v := ?_) (a' := ?_) #[true, true, true, true, false, true, true, true, true, false, true, false, true, false, false, false, false, false] rfl rfl (by kernel_rfl) (fun _ _ _ h => h) (Or.inl ⟨by rfl, ?_⟩) hHeld ?_ ?_
  rotate_left
  · rintro w' ⟨⟨s0, s1, s2⟩, ⟨s3, s4, s5⟩⟩
    go_simp
    with_reducible rfl
  rotate_left
  · simp only [Act.put, List.setIfInBounds_toArray, List.set_cons_zero, List.set_cons_succ, i64_w, i32_w]
    rfl
  refine take_ (i := 11) (N := some 16) (v := ?_) (a' := ?_) #[true, true, true, true, false, true, true, true, true, false, true, true, true, false, false, false, false, false] rfl rfl (by kernel_rfl) (fun _ _ _ h => h) (Or.inl ⟨by rfl, ?_⟩) hHeld ?_ ?_
  rotate_left
  · rintro w' ⟨⟨s0, s1, s2⟩, ⟨s3, s4, s5⟩⟩
    go_simp
    with_reducible rfl
  rotate_left
  · simp only [Act.put, List.setIfInBounds_toArray, List.set_cons_zero, List.set_cons_succ, i64_w, i32_w]
    rfl
  refine take_ (i := 13) (N := some 18) (v := ?_) (a' := ?_) #[true, true, true, true, false, true, true, true, true, false, true, true, true, true, false, false, false, false] rfl rfl (by kernel_rfl) (fun _ _ _ h => h) (Or.inl ⟨by rfl, ?_⟩) hHeld ?_ ?_
  rotate_left
  · rintro w' ⟨⟨s0, s1, s2⟩, ⟨s3, s4, s5⟩⟩
    go_simp
    with_reducible rfl
  rotate_left
  · simp only [Act.put, List.setIfInBounds_toArray, List.set_cons_zero, List.set_cons_succ, i64_w, i32_w]
    rfl
  obtain ⟨wd, hwd⟩ : ∃ wd, w0.drew = wd := ⟨_, rfl⟩
  rw [hwd] at HB BV BW ⊢
  clear hwd
  refine one_ (i := 4) (N := some 9) #[true, true, true, true, true, true, true, true, true, false, true, true, true, true, false, false, false, false] rfl rfl (by kernel_rfl) (by decide) (fun K hK => ?_)
  refine goes_ Tryd.func63 (by kernel_rfl) rfl #[.int .i64 a, .int .i64 x] (by rfl) rfl rfl (by (try simp only [List.map_toArray, List.map_cons, List.map_nil]); first | done | rfl) ?_
  refine (Tryd.cmp_Compare_int a x _).mono ?_
  rintro e w4 ⟨rfl, h4⟩
  rw [h4]
  clear h4 w4
  refine ⟨_, rfl, ?_⟩
  refine hK.out _ _ ⟨cell3 BV.out, cell3 BW.out⟩ (fun hHeld => ?_)
  clear hK K
  refine norm_ (a' := ?_) ?_ ?_
  rotate_left
  · show Act.put _ (some 9) _ = _
    simp only [Act.put, List.setIfInBounds_toArray, List.set_cons_zero, List.set_cons_succ, i64_w, i32_w]
    rfl
  refine one_ (i := 9) (N := some 14) #[true, true, true, true, true, true, true, true, true, true, true, true, true, true, false, false, false, false] rfl rfl (by kernel_rfl) (by decide) (fun K hK => ?_)
  refine goes_ Tryd.func63 (by kernel_rfl) rfl #[.int .i64 b, .int .i64 y] (by rfl) rfl rfl (by (try simp only [List.map_toArray, List.map_cons, List.map_nil]); first | done | rfl) ?_
  refine (Tryd.cmp_Compare_int b y _).mono ?_
  rintro e w9 ⟨rfl, h9⟩
  rw [h9]
  clear h9 w9
  refine ⟨_, rfl, ?_⟩
  refine hK.out _ _ ⟨cell3 BV.out, cell3 BW.out⟩ (fun hHeld => ?_)
  clear hK K
  refine norm_ (a' := ?_) ?_ ?_
  rotate_left
  · show Act.put _ (some 14) _ = _
    simp only [Act.put, List.setIfInBounds_toArray, List.set_cons_zero, List.set_cons_succ, i64_w, i32_w]
    rfl
  refine one_ (i := 14) (N := some 19) #[true, true, true, true, true, true, true, true, true, true, true, true, true, true, true, false, false, false] rfl rfl (by kernel_rfl) (by decide) (fun K hK => ?_)
  refine goes_ Tryd.func63 (by kernel_rfl) rfl #[.int .i64 c, .int .i64 z] (by rfl) rfl rfl (by (try simp only [List.map_toArray, List.map_cons, List.map_nil]); first | done | rfl) ?_
  refine (Tryd.cmp_Compare_int c z _).mono ?_
  rintro e w14 ⟨rfl, h14⟩
  rw [h14]
  clear h14 w14
  refine ⟨_, rfl, ?_⟩
  refine hK.out _ _ ⟨cell3 BV.out, cell3 BW.out⟩ (fun hHeld => ?_)
  clear hK K
  refine norm_ (a' := ?_) ?_ ?_
  rotate_left
  · show Act.put _ (some 19) _ = _
    simp only [Act.put, List.setIfInBounds_toArray, List.set_cons_zero, List.set_cons_succ, i64_w, i32_w]
    rfl
  refine one_ (i := 15) (N := some 20) #[true, true, true, true, true, true, true, true, true, true, true, true, true, true, true, true, false, false] rfl rfl (by kernel_rfl) (by decide) (fun K hK => ?_)
  refine value_ (w1 := ?_) (v := ?_) (by rfl) rfl ?_ ?_
  rotate_left 2
  · go_simp
    constructor
    · rfl
    · rfl
  have HB2 := Aside0.mk (gr_alloc HB.out (.cells #[.int .i64 (Go.Lib.compareInt a x), .int .i64 (Go.Lib.compareInt b y), .int .i64 (Go.Lib.compareInt c z)] 3))
  have BV2 := Aside0.mk (blk_alloc BV.out (.cells #[.int .i64 (Go.Lib.compareInt a x), .int .i64 (Go.Lib.compareInt b y), .int .i64 (Go.Lib.compareInt c z)] 3))
  have BW2 := Aside0.mk (blk_alloc BW.out (.cells #[.int .i64 (Go.Lib.compareInt a x), .int .i64 (Go.Lib.compareInt b y), .int .i64 (Go.Lib.compareInt c z)] 3))
  have BS2 := Aside0.mk (blk_new wd (.cells #[.int .i64 (Go.Lib.compareInt a x), .int .i64 (Go.Lib.compareInt b y), .int .i64 (Go.Lib.compareInt c z)] 3))
  refine hK.out _ _ ⟨cell3 BV2.out, cell3 BW2.out⟩ (fun hHeld => ?_)
  clear hK K
  refine norm_ (a' := ?_) ?_ ?_
  rotate_left
  · show Act.put _ (some 20) _ = _
    simp only [Act.put, List.setIfInBounds_toArray, List.set_cons_zero, List.set_cons_succ, i64_w, i32_w]
    rfl
  refine one_ (i := 16) (N := some 21) #[true, true, true, true, true, true, true, true, true, true, true, true, true, true, true, true, true, false] rfl rfl (by kernel_rfl) (by decide) (fun K hK => ?_)
  refine goes_ Tryd.func62 (by kernel_rfl) rfl #[.slice (some ⟨wd.heap.size, 0, none⟩) 3 3] (by rfl) rfl rfl (by (try simp only [List.map_toArray, List.map_cons, List.map_nil]); first | done | rfl) ?_
  refine (Or_gr _ _ _ _ _ BS2.out).mono ?_
  rintro e w3 ⟨rfl, hb⟩
  have HB3 := Aside0.mk (gr_step HB2.out hb)
  have BV3 := Aside0.mk (blk_below BV2.out hb.below)
  have BW3 := Aside0.mk (blk_below BW2.out hb.below)
  clear hb
  refine ⟨_, rfl, ?_⟩
  refine hK.out _ _ ⟨cell3 BV3.out, cell3 BW3.out⟩ (fun hHeld => ?_)
  clear hK K
  refine norm_ (a' := ?_) ?_ ?_
  rotate_left
  · show Act.put _ (some 21) _ = _
    simp only [Act.put, List.setIfInBounds_toArray, List.set_cons_zero, List.set_cons_succ, i64_w, i32_w]
    rfl
  refine pure_ (i := 17) (N := some 4) (v := ?_) (a' := ?_) #[true, true, true, true, true, true, true, true, true, true, true, true, true, true, true, true, true, true] rfl rfl (by kernel_rfl) (fun _ _ _ h => h) (Or.inl ⟨by rfl, ?_⟩) ?_ ?_
  rotate_left
  · intro w'
    go_simp
    with_reducible rfl
  rotate_left
  · simp only [Act.put, List.setIfInBounds_toArray, List.set_cons_zero, List.set_cons_succ, i64_w, i32_w]
    rfl
  refine done_ (by kernel_rfl) ?_
  go_wp2
  go_ret
  exact ⟨rfl, HB3.out⟩
end Go.Proofs.YtcpikafmclfcfaaDoor.Vc
end
section
namespace Go.Proofs.YtcpikafmclfcfaaDoor.Vn
open Go.RowKit Go.Maps Go.WideShapes Go.ChangeShapes Go.Proofs.YtcpikafmclfcfaaDoor.Mp
set_option linter.unusedVariables false
set_option linter.unusedSimpArgs false
def Coll {H : Type} (D0 : DataW H) (left : Lit → Bool) (ss : List V3) : Prop := ss.Nodup ∧ ∀ x, x ∈ ss ↔ (has D0 (KV.lit x) = true ∧ left (KV.lit x) = false)
theorem Coll.start {H : Type} (D0 : DataW H) : Coll D0 (has D0) [] := ⟨List.nodup_nil, fun x => by cases has D0 (KV.lit x) <;> simp⟩
theorem Coll.step {H : Type} {D0 : DataW H} {left : Lit → Bool} {ss : List V3} (h : Coll D0 left ss) {x : V3} {y : DataW H} (hlk : left (KV.lit x) = true) (hat : ∀ zd, D0.atKey (KV.lit x) zd = y) : Coll D0 (fun z => left z && !z.sameKey (KV.lit x)) (ss ++ [x]) := by
  have hhas : has D0 (KV.lit x) = true := has_true_of_atKey hat
  have hnew : x ∉ ss := fun hx => by have := ((h.2 x).1 hx).2; rw [hlk] at this; cases this
  refine ⟨List.nodup_append.2 ⟨h.1, by simp, fun a ha b hb => by simp at hb; subst hb; exact fun e => hnew (e ▸ ha)⟩, fun y => ?_⟩
  by_cases hy : y = x
  · subst hy; simp [hhas, WideAt.sameKey_self (KV.isLit y)]
  · have hs : (KV.lit y).sameKey (KV.lit x) = false := by
      cases hb : (KV.lit y).sameKey (KV.lit x)
      · rfl
      · exact absurd (KV.inj _ _ (WideAt.sameKey_eq hb)) hy
    simp [h.2 y, hy, hs]
set_option maxRecDepth 100000 in
set_option maxHeartbeats 1000000 in
theorem keys1_in {H : Type} (F : Fence) (n : Nat) (h70 : F.fn 70) (hro : F.round = none) (hn : 1 ≤ n) (l Bm b nn : Nat) (D0 : DataW H) (J : List V3 → World → Prop)
    (R : Value → Option (DataW H × List MemPlace)) (invV : ∀ v y, R v = some y → ∃ c, v = Value.int .i64 c)
    (hY : ∀ pre x W, J pre W → pre.length < Maps.size D0 → YieldAt F (n - 1) Tryd.prog l #[KV.val x] W fun e W' => e = .returned (.bool true) ∧ J (pre ++ [x]) W' ∧ KeepsWalks W W')
    (W : World) (hJ : AbidesFrom W.heap.size J) (hm : W.cell? ⟨Bm, 0, none⟩ = some (.map (some b))) (hown : W.ownsMap Tryd.prog 23 R b nn D0) (h0 : J [] W) :
    CallsIn F n Tryd.prog 70 #[.func (.yield l) #[] #[], .pointer (some ⟨Bm, 0, none⟩)] W fun e W' => (∃ v, e = .returned v) ∧ ∃ ss : List V3, (ss.Nodup ∧ ∀ x, x ∈ ss ↔ has D0 (KV.lit x) = true) ∧ J ss W' := by
  have hu23 := Tryd.underlying23
  refine callsIn_of_wp Tryd.func70 rfl h70 ?_ hro
  simp only [Tryd.ntmps70, List.size_toArray, List.length_cons, List.length_nil, Nat.reduceAdd, Nat.reduceSub, Array.replicate_succ, Array.replicate_zero, List.push_toArray, List.append_toArray, List.nil_append, List.cons_append]
  gi_wp2_with (first
    | (gi_at_range; refine wpListIn_range_own _ rfl _ 77 rfl 23 3 (Maps.Keyed.of_law law23) Tryd.underlying77 _ b nn _ rfl hown ?_; intro w0 hrg0 hg0 hs0)
    | gi_in)
  go_frame
  gi_loopw [3] (fun _ wr => ∃ (left : Lit → Bool) (cnt : Nat) (ss : List V3), wr.ranges Tryd.prog 23 R b W.heap.size nn D0 left cnt ∧ ss.length + cnt ≤ Maps.size D0 ∧ Coll D0 left ss ∧ J ss wr)
    (fun _ wr => wr.rangeLeft b W.heap.size)
  case atStart =>
    exact ⟨_, _, [], hrg0, by simp, Coll.start D0, hJ [] W w0 none h0 hg0 (fun r e => by cases e)⟩
  case round =>
    obtain ⟨left, cnt, ss, hrg, hcs, hC, hJs⟩ := hrel
    gi_wp2_with (first
      | (gi_at_next; refine wpListIn_next_ranges _ rfl _ rfl 23 (Maps.Keyed.of_law law23) R KV.val (Value.int .i64) (fun key kl hk => KV_inv hk) invV b W.heap.size nn _ _ _ rfl hrg ?_ ?_)
      | gi_in)
    · intro hc0 hl0
      gi_wp2
      go_end0
      exact ⟨⟨_, rfl⟩, ss, ⟨hC.1, fun x => by rw [hC.2 x, hl0]; simp⟩, hJs⟩
    · intro a1 a2 a3 hw c kl yd yp w2 cnt2 hkey hlk hv hat hrg2 hlt hg2 hs2 hen
      obtain ⟨x, hx⟩ : ∃ x : V3, x = ⟨(a1, a2, a3), hw⟩ := ⟨_, rfl⟩
      rw [← hx] at hkey hen ⊢
      have hkl : kl = KV.lit x := by
        have := KV.key x trivial
        rw [hkey] at this
        exact Option.some.inj this
      subst hkl
      have hJ2 : J ss w2 := hJ ss wr w2 (some W.heap.size) hJs hg2 (fun r e => by cases e; exact ⟨Nat.le_refl _, hrg.iter_walk⟩)
      have hkv : KV.val x = .agg #[.int .i64 a1, .int .i64 a2, .int .i64 a3] := by rw [hx]; rfl
      have hg4 : w2.grownBy (w2.alloc (.cells #[.int .i64 a1, .int .i64 a2, .int .i64 a3] 23)) none := World.grownBy_alloc _ _ _
      have hJ4 := hJ ss w2 _ none hJ2 hg4 (fun r e => by cases e)
      have hrg4 := hrg2.of_walks (KeepsWalks.alloc w2 (.cells #[.int .i64 a1, .int .i64 a2, .int .i64 a3] 23))
      obtain ⟨fn, tmps, assign, body, hy, hR⟩ := hY ss x _ hJ4 (by omega)
      rw [hkv] at hen hy
      clear hs2 hg4
      gi_wp2
      refine hR.mono ?_
      rintro e W3 ⟨rfl, hJ3, hk3⟩
      gi_wp2
      have hrg3 := hrg4.of_walks hk3
      go_roundw
      case rel => exact ⟨_, cnt2, ss ++ [x], hrg3, by simp; omega, hC.step hlk hat, hJ3⟩
      case measure => rw [hrg3.left_eq, hrg.left_eq]; exact hlt
theorem keys_gives {H : Type} (F : Fence) (n : Nat) (h70 : F.fn 70) (hro : F.round = none) (hn : 1 ≤ n) (Bm b nn : Nat) (D0 : DataW H) (R : Value → Option (DataW H × List MemPlace)) (invV : ∀ v y, R v = some y → ∃ c, v = Value.int .i64 c) (w : World) (hBm : Bm < w.heap.size)
    (hm : w.cell? ⟨Bm, 0, none⟩ = some (.map (some b))) (hown : w.ownsMap Tryd.prog 23 R b nn D0) :
    SeqGives F n Tryd.prog 70 #[.pointer (some ⟨Bm, 0, none⟩)] KV.val (fun ss => ss.Nodup ∧ ∀ x, x ∈ ss ↔ has D0 (KV.lit x) = true) (Maps.size D0) w := fun l J W hW hJ hY h0 => by
  have hown' : W.ownsMap Tryd.prog 23 R b nn D0 := by
    have hbl := hown.lt
    obtain ⟨es, clock, hb, Ft, hs, hD⟩ := hown
    exact ⟨es, clock, (hW.block b hbl).trans hb, Ft, hs, hD⟩
  exact keys1_in F n h70 hro hn l Bm b nn D0 J R invV hY W hJ ((hW.cell (p := ⟨Bm, 0, none⟩) hBm).trans hm) hown' h0
end Go.Proofs.YtcpikafmclfcfaaDoor.Vn
end
section
namespace Go.Proofs.YtcpikafmclfcfaaDoor.Vn
open Go Go.RowKit
set_option linter.unusedVariables false
set_option linter.unusedSimpArgs false
variable {F : Fence} {n : Nat} {P : Program}
theorem wpIn_rangeFunc_box {α : Type} {g : Operand} {ps : Array Tmp} {assign body : Code} {Q : Exit → Act → World → Prop} {a : Act} {w : World}
    (hro : F.round = none) (h1 : 1 ≤ n) {gf : Nat} {lb : Array Value} (hg : a.eval g = .func (.func gf) #[] lb) (hFg : F.fn gf) (eg : ∀ args w, (callFunc gf args).run P w = .ok (.enter gf args) w)
    {enc : α → Value} {S : List α → Prop} {N : Nat} {w0 : World} (hseq : SeqGives F (n - 1) P gf lb enc S N w0) (hb0 : Below w0.heap.size w0 w) (hps : ps.size = 1)
    (I : List α → World → Prop) (hI : OwnFrom w.heap.size I) (h0 : I [] w) (bx : α → Obj) (a₁ : α → Nat → Act)
    (hassign : ∀ (l : Nat) (x : α) (W : World) (K : Act → World → Prop), K (a₁ x W.heap.size) (W.alloc (bx x)) →
      assign.wpIn (F.inRound l) (n - 1 - 1) P (Exit.then K (fun _ _ _ => False)) { tmps := (ps.zip #[enc x]).foldl (fun t (p, v) => t.setIfInBounds p v) a.tmps, defers := [] } W)
    (hbody : ∀ (l : Nat) (pre : List α) (x : α) (Bx : Nat) (W : World), I pre W → pre.length < N → W.heap[Bx]? = some (bx x) → w.heap.size ≤ Bx → body.wpIn (F.inRound l) (n - 1 - 1) P (fun e _ W3 => e = .normal ∧ KeepsOthers W W3 ∧ I (pre ++ [x]) W3) (a₁ x Bx) W)
    (hdone : ∀ (D : Nat) (xs : List α) (W : World), w.heap.size ≤ D → S xs → I xs W → W.heap[D]? = some (.deferred (some [])) → Q .normal { a with defers := { target := .collected D, args := #[] } :: a.defers } W) :
    (Code.rangeFunc g ps assign body).wpIn F n P Q a w := by
  refine wpIn_rangeFunc ?_
  intro fn hfn
  rw [hro]
  obtain ⟨rec, hrec⟩ : ∃ rec : LoopState → Option Code → Loop, rec = fun st pe => { state := st, pending := pe, fn, tmps := a.tmps, params := ps, assign, body, defers := w.heap.size } := ⟨_, rfl⟩
  obtain ⟨W1, hW1⟩ : ∃ W1, (w.alloc (.deferred (some []))).alloc (.loop (rec .ready none)) = W1 := ⟨_, rfl⟩
  have hL1 : W1.heap[w.heap.size + 1]? = some (.loop (rec .ready none)) := by
    rw [← hW1]; have := World.alloc_heap_new (w.alloc (.deferred (some []))) (.loop (rec .ready none)); rwa [World.size_alloc] at this
  have hK1 : W1.heap[w.heap.size]? = some (.deferred (some [])) := by
    rw [← hW1]; exact (Below.heap_alloc _ _ _ (by simp)).trans (World.alloc_heap_new w _)
  have hI1 : I [] W1 := by rw [← hW1]; exact hI.alloc _ (hI.alloc _ h0)
  have hb1 : Below w0.heap.size w0 W1 := by
    rw [← hW1]; exact hb0.trans ((((Below.refl _ w).alloc (Nat.le_refl _) _).alloc (by simp) _).mono hb0.size)
  refine ⟨w.heap.size + 1, [{ target := .collected w.heap.size, args := #[] }], W1, { target := .fn (.func gf) lb, args := #[.func (.yield (w.heap.size + 1)) #[] #[]] }, W1, gf,
    #[.func (.yield (w.heap.size + 1)) #[] #[]] ++ lb, W1, ?_, ?_, ?_, ?_, fun _ => h1, ?_⟩
  · rw [← hW1, hrec]; exact run_enterLoop_outer _ _ _ _ _
  · simp only [resolve, hg]
    simp [go_sem]
  · intro f' hf'; simp [Target.leads] at hf'; subst hf'; exact hFg
  · simp [invoke, go_sem, eg]
  · have hnw : ∀ {A B : World} {row : Option Nat}, (∀ r, row = some r → W1.heap.size ≤ r ∧ ∃ o : Obj, A.heap[r]? = some o ∧ o.isWalk = true) → (∀ r, row = some r → w.heap.size ≤ r ∧ ∃ o : Obj, A.heap[r]? = some o ∧ o.isCells = false) :=
      fun hr r e => by obtain ⟨hB, o, ho, hw⟩ := hr r e; exact ⟨by rw [← hW1] at hB; simp at hB; omega, o, ho, Obj.not_cells_of_walk hw⟩
    refine (hseq (w.heap.size + 1)
      (fun pre W => I pre W ∧ W.heap[w.heap.size + 1]? = some (.loop (rec .ready none)) ∧ W.heap[w.heap.size]? = some (.deferred (some [])))
      W1 hb1
      (fun s A B row hs hg' hr => ⟨hI s A B row hs.1 hg' (hnw (B := B) hr), (grownBy_keeps hg' (fun r e => (hr r e).2) hs.2.1 rfl).trans hs.2.1, (grownBy_keeps hg' (fun r e => (hr r e).2) hs.2.2 rfl).trans hs.2.2⟩)
      ?_ ⟨hI1, hL1, hK1⟩).mono ?_
    · rintro pre x W0 ⟨hi0, hl0, hk0⟩ hlen
      have hlt0 : w.heap.size + 1 < W0.heap.size := (Array.getElem?_eq_some_iff.1 hl0).1
      have hy := run_yield (P := P) (args := #[enc x]) hl0 (by rw [hrec]; simp [hps])
      rw [hrec] at hy
      obtain ⟨W, hWe⟩ : ∃ W, W0.alloc (bx x) = W := ⟨_, rfl⟩
      have hi : I pre W := by rw [← hWe]; exact hI.alloc _ hi0
      have hl : W.heap[w.heap.size + 1]? = some (.loop (rec .ready none)) := by rw [← hWe]; exact (Below.heap_alloc _ _ _ (by omega)).trans hl0
      have hk : W.heap[w.heap.size]? = some (.deferred (some [])) := by rw [← hWe]; exact (Below.heap_alloc _ _ _ (by omega)).trans hk0
      have hx : W.heap[W0.heap.size]? = some (bx x) := by rw [← hWe]; exact World.alloc_heap_new W0 _
      have hw0 : KeepsWalks W0 W := by rw [← hWe]; exact KeepsWalks.alloc _ _
      have hlt : w.heap.size + 1 < W.heap.size := (Array.getElem?_eq_some_iff.1 hl).1
      refine ⟨fn, _, assign, body, hy, roundIn_of_wpIn hfn (hassign _ x W0 _ ?_)⟩
      rw [hWe]
      refine ⟨_, run_beginRound hl (by rw [hrec]), ?_⟩
      have hl2 : (W.putObj (w.heap.size + 1) (.loop { rec .ready none with state := .busy })).heap[w.heap.size + 1]? = some (.loop { rec .ready none with state := .busy }) := World.putObj_heap_same hlt
      have hk2 : (W.putObj (w.heap.size + 1) (.loop { rec .ready none with state := .busy })).heap[w.heap.size]? = some (.deferred (some [])) := (World.putObj_heap_other (by omega)).trans hk
      have hx2 : (W.putObj (w.heap.size + 1) (.loop { rec .ready none with state := .busy })).heap[W0.heap.size]? = some (bx x) := (World.putObj_heap_other (by omega)).trans hx
      have hw2 : KeepsWalks W (W.putObj (w.heap.size + 1) (.loop { rec .ready none with state := .busy })) := KeepsWalks.putObj _ hl rfl
      refine wpIn_mono (hbody _ pre x W0.heap.size _ (hI.putObj _ hi (by omega) hl rfl) hlen hx2 (by omega)) ?_
      rintro e a3 W3 ⟨rfl, hk3, hi3⟩
      have hl3 := hk3.same _ _ hl2 rfl
      have hr := run_endRound (P := P) none hl3
      rw [hrec] at hr hl3
      refine ⟨_, _, hr, rfl, ⟨hI.putObj _ hi3 (by omega) hl3 rfl, ?_, ?_⟩, ((hw0.trans hw2).trans hk3.walks).trans (KeepsWalks.putObj _ hl3 rfl)⟩
      · rw [hrec]
        exact World.putObj_heap_same (Array.getElem?_eq_some_iff.1 hl3).1
      · exact (World.putObj_heap_other (by omega)).trans (hk3.same _ _ hk2 rfl)
    · rintro e W2 ⟨⟨v, rfl⟩, xs, hS, hi, hl, hk⟩
      exact ⟨none, _, by have := run_endLoop (P := P) hl (by rw [hrec]; simp); rw [hrec] at this; exact this, hdone _ xs _ (Nat.le_refl _) hS (hI.putObj _ hi (by omega) hl rfl) ((World.putObj_heap_other (by omega)).trans hk)⟩
end Go.Proofs.YtcpikafmclfcfaaDoor.Vn
end
section
namespace Go.Proofs.YtcpikafmclfcfaaDoor.Vn
open Go.RowKit Go.Maps Go.WideShapes Go.ChangeShapes Go.Proofs.YtcpikafmclfcfaaDoor.Mp Go.Proofs.YtcpikafmclfcfaaDoorW.PrintWords
set_option linter.unusedVariables false
set_option linter.unusedSimpArgs false
def cellsV (x : V3) : List Value := [.int .i64 x.1.1, .int .i64 x.1.2.1, .int .i64 x.1.2.2]
def Iap (w : World) (pre : List V3) (W : World) : Prop := ∃ v, W.heap[w.heap.size]? = some (.cells #[v] 38 (0, 0)) ∧ W.ownsRow w.heap.size 23 3 v pre.length (pre.flatMap cellsV) ∧ Below w.heap.size w W
theorem iap_own (w : World) : OwnFrom (w.heap.size + 1) (Iap w) := fun s A B row h hg hr => by
  obtain ⟨v, h1, h2, h3⟩ := h
  refine ⟨v, blk_grown h1 hg (fun e => by have := (hr _ e.symm).1; omega), h2.kept hg ?_, h3.grown hg h3.size (fun k e => by have := (hr k e).1; omega)⟩
  rcases h2.2 with ⟨rfl, _⟩ | ⟨g, cap, cur, rfl, _, hgb, _⟩
  · exact .inl rfl
  · refine .inr fun e' => ?_
    obtain ⟨_, o, ho, hw⟩ := hr g (by simpa [Value.ownBlock] using e'.symm)
    rw [hgb] at ho; cases ho; cases hw
theorem info23 : (Tryd.prog.info? 23).map (fun i => (i.zero, i.size, i.bytes)) = some (some (.agg #[.int .i64 0, .int .i64 0, .int .i64 0]), 3, 24) := by kernel_rfl
set_option maxRecDepth 100000 in
set_option maxHeartbeats 2000000 in
theorem appendSeq_in (F : Fence) (n : Nat) (h84 : F.fn 84) (hro : F.round = none) (hn : 2 ≤ n) (g : Nat) (lb : Array Value) (hFg : F.fn g) (eg : ∀ args w, (callFunc g args).run Tryd.prog w = .ok (.enter g args) w)
    (S : List V3 → Prop) (N : Nat) (hN : N ≤ 1000) (w : World) (hseq : SeqGives F (n - 1) Tryd.prog g lb KV.val S N w) :
    CallsIn F n Tryd.prog 84 #[.slice none 0 0, .func (.func g) #[] lb] w fun e w' => ∃ (v : Value) (ss : List V3), e = .returned v ∧ S ss ∧ w'.ownsRow w.heap.size 23 3 v ss.length (ss.flatMap cellsV) ∧ Below w.heap.size w w' := by
  have h1 : 1 ≤ n := by omega
  refine callsIn_of_wp_marks Tryd.func84 rfl h84 ?_ hro
  simp only [Tryd.ntmps84, List.size_toArray, List.length_cons, List.length_nil, Nat.reduceAdd, Nat.reduceSub, Array.replicate_succ, Array.replicate_zero, List.push_toArray, List.append_toArray, List.nil_append, List.cons_append]
  gi_wp2
  refine wpIn_rangeFunc_box hro h1 rfl hFg eg hseq (below_alloc (Below.refl _ _) _) rfl (Iap w) (by rw [World.size_alloc]; exact iap_own w) ?h0 (fun x => .cells (cellsV x).toArray 23) (fun x B => { tmps := #[.slice none 0 0, .func (.func g) #[] lb, .pointer (some ⟨w.heap.size, 0, none⟩), undef, .slice none 0 0, .pointer (some ⟨B, 0, none⟩), .func (.func g) #[] lb, KV.val x, undef, undef, undef, undef, undef], defers := [] }) ?ha ?hb ?hd
  case h0 => exact ⟨.slice none 0 0, blk_new w _, ⟨rfl, .inl ⟨rfl, rfl⟩⟩, below_alloc (Below.refl _ _) _⟩
  case ha =>
    intro l x W K hK
    simp only [KV_val] at hK ⊢
    have hu23 := Tryd.underlying23
    gi_wp2_with (rw [Oper.semAt_eq _ _ _ (fun c h => by cases h)]; go_simp; try go_bits)
    simpa only [cellsV] using hK
  case hb =>
    rintro l pre x Bx W ⟨v, hv, hrow, hbel⟩ hlen hx hB
    rw [World.size_alloc] at hB
    obtain ⟨i0, hi, hzz⟩ := Option.map_eq_some_iff.1 info23
    simp only [Prod.mk.injEq] at hzz
    obtain ⟨hz0, hz1, hz2⟩ := hzz
    have hu23 := Tryd.underlying23
    have c0 : W.cell? ⟨w.heap.size, 0, none⟩ = some v := (blk_cell hv 0).trans rfl
    have d0 : W.cell? ⟨Bx, 0, none⟩ = some (.int .i64 x.1.1) := (blk_cell hx 0).trans rfl
    have d1 : W.cell? ⟨Bx, 1, none⟩ = some (.int .i64 x.1.2.1) := (blk_cell hx 1).trans rfl
    have d2 : W.cell? ⟨Bx, 2, none⟩ = some (.int .i64 x.1.2.2) := (blk_cell hx 2).trans rfl
    have hnv : some w.heap.size ≠ v.ownBlock := by
      rcases hrow.2 with ⟨rfl, _⟩ | ⟨g, cap, cur, rfl, _, hgb, _⟩
      · simp [Value.ownBlock]
      · intro e'
        have : w.heap.size = g := by simpa [Value.ownBlock] using e'
        subst this; rw [hgb] at hv; cases hv
    gi_wp2_with (first
      | (gi_at_builtin; refine wpListIn_append_own _ rfl _ _ 38 rfl w.heap.size 23 i0 (.agg #[.int .i64 0, .int .i64 0, .int .i64 0]) 3 24 Tryd.underlying38 hi hz0 hz1 hz2 rfl (by decide) _ _ _ rfl (hrow.alloc _) ⟨W.heap.size, 0, none⟩ 1 1 (cellsV x) rfl rfl (fun j u hj => World.news_of_block (cs := (cellsV x).toArray) (t := 23) (fr := (0, 0)) (heap_alloc_new W (.cells (cellsV x).toArray 23)) j u (by simpa using hj)) (by intro u hu; simp [cellsV] at hu; rcases hu with rfl | rfl | rfl <;> rfl) (by simp only [maxLen]; omega) (by omega) (by have := hbel.size; simp; omega) ?_; intro v' w3 hown' hg3 hnil3; (obtain ⟨g', cap', rfl⟩ : ∃ g' cap', v' = .slice (some ⟨g', 0, none⟩) (pre.length + 1) cap' := by (rcases hown'.2 with ⟨_, h0⟩ | ⟨g', cap', cur', h0, _⟩); (exact absurd h0 (by omega)); (exact ⟨g', cap', h0⟩)); have hv3 : w3.heap[w.heap.size]? = some (.cells #[v] 38 (0, 0)) := blk_grown (blk_alloc hv _) hg3 hnv; have c3 : w3.cell? ⟨w.heap.size, 0, none⟩ = some v := (blk_cell hv3 0).trans rfl; have f3 : w3.frozen? ⟨w.heap.size, 0, none⟩ = false := blk_frozen hv3 0)
      | (rw [Oper.semAt_eq _ _ _ (fun c h => by cases h)]; go_simp; try go_bits))
    have hBlt : w.heap.size < W.heap.size := blk_lt hv
    have hrow3 : w3.ownsRow w.heap.size 23 3 (.slice (some ⟨g', 0, none⟩) (pre.length + 1) cap') (pre.length + 1) (pre.flatMap cellsV ++ cellsV x) := hown'
    have hg4 : w3.grownBy (w3.setCell ⟨w.heap.size, 0, none⟩ (.slice (some ⟨g', 0, none⟩) (pre.length + 1) cap')) (some w.heap.size) := ⟨rfl, rfl, rfl, (KeepsWalks.setCell w3 _ _).size, fun k _ hk => Below.heap_setCell _ _ _ k (fun e => hk (by rw [e]))⟩
    have hne3 : (Value.slice (some ⟨g', 0, none⟩) (pre.length + 1) cap').ownBlock = none ∨ (Value.slice (some ⟨g', 0, none⟩) (pre.length + 1) cap').ownBlock ≠ some w.heap.size := by
      rcases hrow3.2 with ⟨e0, _⟩ | ⟨g2, cap2, cur2, e0, _, hgb, _⟩
      · exact absurd e0 (by simp)
      · refine .inr fun e' => ?_
        have e1 : g' = w.heap.size := by simpa [Value.ownBlock] using e'
        injection e0 with e0
        injection e0 with e0
        injection e0 with e0
        rw [← e0, e1, hv3] at hgb
        cases hgb
    have hb3 : Below w.heap.size w w3 := (below_alloc hbel _).grown hg3 (below_alloc hbel _).size (fun k e => by rcases hrow.lt k e with ⟨h1, _⟩; exact h1)
    refine ⟨⟨?_, fun k o hk ho => ?_⟩, _, blk_put (cs := #[v]) hv3 0 _ rfl, ?_, hb3.grown hg4 hb3.size (fun k e => by cases e; exact Nat.le_refl _)⟩
    · exact Nat.le_trans (Nat.le_trans (by simp) hg3.size) hg4.size
    · have klt : k < W.heap.size := blk_lt hk
      have k1 : k ≠ w.heap.size := fun e => by rw [e, hv] at hk; cases hk; cases ho
      have k2 : some k ≠ v.ownBlock := by
        rcases hrow.2 with ⟨rfl, _⟩ | ⟨g, cap, cur, rfl, _, hgb, _⟩
        · simp [Value.ownBlock]
        · intro e'
          have : k = g := by simpa [Value.ownBlock] using e'
          subst this; rw [hgb] at hk; cases hk; cases ho
      exact blk_grown (blk_grown (blk_alloc hk _) hg3 k2) hg4 (fun e => k1 (Option.some.inj e))
    · have := hrow3.kept hg4 hne3
      simpa using this
  case hd =>
    rintro D xs W hDs hS ⟨v, hv, hrow, hb⟩ hD
    rw [World.size_alloc] at hDs
    have c0 : W.cell? ⟨w.heap.size, 0, none⟩ = some v := (blk_cell hv 0).trans rfl
    gi_wp2
    refine ⟨by simp, .inl ⟨_, _, rfl, run_takeDeferred hD, ?_⟩⟩
    refine ⟨_, results_tmp rfl _ _ _, v, xs, rfl, hS, hrow.kept (grownBy_putObj' W D _) ?_, hb.grown (grownBy_putObj' W D _) hb.size (fun k e => by cases e; omega)⟩
    rcases hrow.2 with ⟨rfl, _⟩ | ⟨g, cap, cur, rfl, _, hgb, _⟩
    · exact .inl rfl
    · refine .inr fun e' => ?_
      have : g = D := by simpa [Value.ownBlock] using e'
      subst this; rw [hgb] at hD; cases hD
end Go.Proofs.YtcpikafmclfcfaaDoor.Vn
end
section
namespace Go.Proofs.YtcpikafmclfcfaaDoor.Vn
open Go.RowKit Go.Maps Go.WideShapes Go.ChangeShapes Go.Proofs.YtcpikafmclfcfaaDoor.Mp Go.Proofs.YtcpikafmclfcfaaDoorW.PrintWords
set_option linter.unusedVariables false
set_option linter.unusedSimpArgs false
set_option maxHeartbeats 1000000 in
theorem collect_in (F : Fence) (n : Nat) (h68 : F.fn 68) (h84 : F.fn 84) (hro : F.round = none) (hn : 3 ≤ n) (g : Nat) (lb : Array Value) (hFg : F.fn g) (eg : ∀ args w, (callFunc g args).run Tryd.prog w = .ok (.enter g args) w)
    (S : List V3 → Prop) (N : Nat) (hN : N ≤ 1000) (w : World) (hseq : SeqGives F (n - 1 - 1) Tryd.prog g lb KV.val S N w) :
    CallsIn F n Tryd.prog 68 #[.func (.func g) #[] lb] w fun e w' => ∃ (v : Value) (ss : List V3), e = .returned v ∧ S ss ∧ w'.ownsRow w.heap.size 23 3 v ss.length (ss.flatMap cellsV) ∧ Below w.heap.size w w' := by
  have h1 : 1 ≤ n := by omega
  refine callsIn_of_wp Tryd.func68 rfl h68 ?_ hro
  simp only [Tryd.ntmps68, List.size_toArray, List.length_cons, List.length_nil, Nat.reduceAdd, Nat.reduceSub, Array.replicate_succ, Array.replicate_zero, List.push_toArray, List.append_toArray, List.nil_append, List.cons_append]
  gi_wp2_with (gi_at_call 84; refine (appendSeq_in F (n - 1) h84 hro (by omega) g lb hFg eg S N hN _ hseq).mono ?_; rintro e w' ⟨v, ss, rfl, hS, hrow, hb⟩)
  go_ret
  exact ⟨v, ss, rfl, hS, hrow, hb⟩
set_option maxHeartbeats 1000000 in
theorem keys_in (F : Fence) (n : Nat) (h52 : F.fn 52) (hro : F.round = none) (b : Nat) (w : World) :
    CallsIn F n Tryd.prog 52 #[.map (some b)] w fun e w' => e = .returned (.func (.func 70) #[] #[.pointer (some ⟨w.heap.size, 0, none⟩)]) ∧ w' = w.alloc (.cells #[.map (some b)] 77) := by
  refine callsIn_of_wp Tryd.func52 rfl h52 ?_ hro
  simp only [Tryd.ntmps52, List.size_toArray, List.length_cons, List.length_nil, Nat.reduceAdd, Nat.reduceSub, Array.replicate_succ, Array.replicate_zero, List.push_toArray, List.append_toArray, List.nil_append, List.cons_append]
  gi_wp2
  go_ret
  exact ⟨rfl, rfl⟩
end Go.Proofs.YtcpikafmclfcfaaDoor.Vn
end
section
namespace Go.Proofs
open Go.Shelf
def Tryd.sortV_ren : Go.Shelf.Ren := ⟨fun | 6 => 69 | 15 => 86 | 14 => 85 | 28 => 109 | 29 => 110 | 20 => 101 | 21 => 102 | 22 => 103 | 23 => 104 | 24 => 105 | 25 => 106 | 26 => 107 | 27 => 108 | 46 => 119 | 47 => 120 | 48 => 121 | 49 => 122 | 50 => 123 | 57 => 126 | n => n, fun | 22 => 38 | 24 => 23 | 25 => 34 | 3 => 3 | 39 => 113 | 0 => 0 | 53 => 141 | 55 => 95 | 4 => 4 | 46 => 135 | 45 => 134 | 50 => 75 | 5 => 5 | 9 => 9 | 66 => 155 | 70 => 159 | 76 => 161 | 77 => 162 | n => n, fun | n => n⟩
theorem Tryd.sortV : Go.Proofs.SlLaysF0.n6 Tryd.prog Tryd.sortV_ren := {
  mixed := by kernel_rfl
  f6 := ⟨Tryd.f69.name, by decide, Tryd.func69.trans (congrArg some (by kernel_rfl))⟩
  f14 := ⟨Tryd.f85.name, by decide, Tryd.func85.trans (congrArg some (by kernel_rfl))⟩
  f15 := Tryd.func86.trans (congrArg some (by kernel_rfl))
  f20 := ⟨Tryd.f101.name, by decide, Tryd.func101.trans (congrArg some (by kernel_rfl))⟩
  f21 := ⟨Tryd.f102.name, by decide, Tryd.func102.trans (congrArg some (by kernel_rfl))⟩
  f22 := ⟨Tryd.f103.name, by decide, Tryd.func103.trans (congrArg some (by kernel_rfl))⟩
  f23 := ⟨Tryd.f104.name, by decide, Tryd.func104.trans (congrArg some (by kernel_rfl))⟩
  f24 := ⟨Tryd.f105.name, by decide, Tryd.func105.trans (congrArg some (by kernel_rfl))⟩
  f25 := ⟨Tryd.f106.name, by decide, Tryd.func106.trans (congrArg some (by kernel_rfl))⟩
  f26 := ⟨Tryd.f107.name, by decide, Tryd.func107.trans (congrArg some (by kernel_rfl))⟩
  f27 := ⟨Tryd.f108.name, by decide, Tryd.func108.trans (congrArg some (by kernel_rfl))⟩
  f28 := Tryd.func109.trans (congrArg some (by kernel_rfl))
  f29 := Tryd.func110.trans (congrArg some (by kernel_rfl))
  f46 := ⟨Tryd.f119.name, by decide, Tryd.func119.trans (congrArg some (by kernel_rfl))⟩
  f47 := Tryd.func120.trans (congrArg some (by kernel_rfl))
  f48 := Tryd.func121.trans (congrArg some (by kernel_rfl))
  f49 := ⟨Tryd.f122.name, by decide, Tryd.func122.trans (congrArg some (by kernel_rfl))⟩
  f50 := ⟨Tryd.f123.name, by decide, Tryd.func123.trans (congrArg some (by kernel_rfl))⟩
  f57 := ⟨Tryd.f126.name, by decide, Tryd.func126.trans (congrArg some (by kernel_rfl))⟩
  t0 := Tryd.underlying0
  a0 := Tryd.isAgg0
  z0 := Tryd.sizeOf0
  v0 := Tryd.zeroValue0
  t3 := Tryd.underlying3
  a3 := Tryd.isAgg3
  z3 := Tryd.sizeOf3
  v3 := Tryd.zeroValue3
  t4 := Tryd.underlying4
  a4 := Tryd.isAgg4
  z4 := Tryd.sizeOf4
  v4 := Tryd.zeroValue4
  t5 := Tryd.underlying5
  a5 := Tryd.isAgg5
  z5 := Tryd.sizeOf5
  v5 := Tryd.zeroValue5
  t9 := Tryd.underlying9
  a9 := Tryd.isAgg9
  z9 := Tryd.sizeOf9
  v9 := Tryd.zeroValue9
  t22 := Tryd.underlying38
  a22 := Tryd.isAgg38
  z22 := Tryd.sizeOf38
  v22 := Tryd.zeroValue38
  t25 := Tryd.underlying34
  a25 := Tryd.isAgg34
  z25 := Tryd.sizeOf34
  v25 := Tryd.zeroValue34
  t39 := Tryd.underlying113
  a39 := Tryd.isAgg113
  z39 := Tryd.sizeOf113
  v39 := Tryd.zeroValue113
  t45 := Tryd.underlying134
  a45 := Tryd.isAgg134
  z45 := Tryd.sizeOf134
  v45 := Tryd.zeroValue134
  t46 := Tryd.underlying135
  a46 := Tryd.isAgg135
  z46 := Tryd.sizeOf135
  v46 := Tryd.zeroValue135
  t50 := Tryd.underlying75
  a50 := Tryd.isAgg75
  z50 := Tryd.sizeOf75
  v50 := Tryd.zeroValue75
  t53 := Tryd.underlying141
  a53 := Tryd.isAgg141
  z53 := Tryd.sizeOf141
  v53 := Tryd.zeroValue141
  t55 := Tryd.underlying95
  a55 := Tryd.isAgg95
  z55 := Tryd.sizeOf95
  v55 := Tryd.zeroValue95
  t66 := Tryd.underlying155
  a66 := Tryd.isAgg155
  z66 := Tryd.sizeOf155
  v66 := Tryd.zeroValue155
  t70 := Tryd.underlying159
  a70 := Tryd.isAgg159
  z70 := Tryd.sizeOf159
  v70 := Tryd.zeroValue159
  t76 := Tryd.underlying161
  a76 := Tryd.isAgg161
  z76 := Tryd.sizeOf161
  v76 := Tryd.zeroValue161
  t77 := Tryd.underlying162
  a77 := Tryd.isAgg162
  z77 := Tryd.sizeOf162
  v77 := Tryd.zeroValue162 }
end Go.Proofs
end
section
namespace Go.Proofs.YtcpikafmclfcfaaDoor.Vn
open Go.Shelf Go.RowKit Go.Sort Go.Proofs.YtcpikafmclfcfaaDoor.Vc Go.Proofs.YtcpikafmclfcfaaDoor.Vl Go.Proofs.YtcpikafmclfcfaaDoor.Sr
set_option linter.unusedVariables false
set_option linter.unusedSimpArgs false
instance : Inhabited V3 := ⟨⟨(0, 0, 0), by decide, by decide, by decide⟩⟩
def ordV (x y : V3) : Int := orderV x.1.1 x.1.2.1 x.1.2.2 y.1.1 y.1.2.1 y.1.2.2
theorem cmp_lays (blk off size : Nat) (w : World) : CmpLays Tryd.prog 42 #[] cellsV 3 ordV blk off size w := fun _ _ _ _ x y =>
  (order_gr x.1.1 x.1.2.1 x.1.2.2 y.1.1 y.1.2.1 y.1.2.2 _).mono fun e w' h => ⟨h.1, h.2.grow⟩
theorem ltV (x y : V3) : ltOf ordV x y = if x.1.1 = y.1.1 then (if x.1.2.1 = y.1.2.1 then decide (x.1.2.2 < y.1.2.2) else decide (x.1.2.1 < y.1.2.1)) else decide (x.1.1 < y.1.1) := less_law x.1.1 x.1.2.1 x.1.2.2 y.1.1 y.1.2.1 y.1.2.2
theorem ltV_iff (x y : V3) : ltOf ordV x y = true ↔ (x.1.1 < y.1.1 ∨ (x.1.1 = y.1.1 ∧ (x.1.2.1 < y.1.2.1 ∨ (x.1.2.1 = y.1.2.1 ∧ x.1.2.2 < y.1.2.2)))) := by
  rw [ltV]
  split
  · split
    · simp; omega
    · simp; omega
  · simp; omega
theorem swoV : SWO (ltOf ordV) where
  irrefl x := by
    cases h : ltOf ordV x x
    · rfl
    · have := (ltV_iff x x).1 h; omega
  trans x y z h1 h2 := by
    have a := (ltV_iff x y).1 h1
    have b := (ltV_iff y z).1 h2
    exact (ltV_iff x z).2 (by omega)
  ntrans x y z h1 h2 := by
    cases h : ltOf ordV x z
    · rfl
    · have c := (ltV_iff x z).1 h
      have a : ¬ _ := fun k => by rw [(ltV_iff x y).2 k] at h1; cases h1
      have b : ¬ _ := fun k => by rw [(ltV_iff y z).2 k] at h2; cases h2
      omega
end Go.Proofs.YtcpikafmclfcfaaDoor.Vn
end
section
set_option linter.unusedVariables false
set_option linter.unusedSimpArgs false
namespace Go.Proofs.YtcpikafmclfcfaaDoor.Sr
open Go.RowKit Go.Sort Go.Lib
theorem flatMap_get {α : Type} [Inhabited α] (enc : α → List Value) (k : Nat) (hk : ∀ x, (enc x).length = k) : ∀ (l : List α) (t : Nat), t < l.length * k → (l.flatMap enc)[t]? = some ((enc l[t / k]!)[t % k]!)
  | [], t, h => by simp at h
  | x :: l, t, h => by
    have hk0 : 0 < k := by
      rcases Nat.eq_zero_or_pos k with e | e
      · subst e; simp at h
      · exact e
    rw [List.flatMap_cons, List.getElem?_append, hk]
    by_cases h1 : t < k
    · rw [if_pos h1, Nat.div_eq_of_lt h1, Nat.mod_eq_of_lt h1]
      rw [List.getElem?_eq_getElem (by rw [hk]; exact h1)]
      simp [getElem!_pos, hk, h1]
    · rw [if_neg h1, flatMap_get enc k hk l (t - k) (by rw [List.length_cons, Nat.add_mul] at h; omega)]
      obtain ⟨u, rfl⟩ : ∃ u, t = u + k := ⟨t - k, by omega⟩
      rw [Nat.add_sub_cancel, Nat.add_div_right _ hk0, Nat.add_mod_right]
      simp
theorem flatMap_len {α : Type} (enc : α → List Value) (k : Nat) (hk : ∀ x, (enc x).length = k) (l : List α) : (l.flatMap enc).length = l.length * k := by
  induction l with
  | nil => simp
  | cons x l ih => rw [List.flatMap_cons, List.length_append, hk, ih, List.length_cons, Nat.add_mul]; omega
theorem flatK_eq {α : Type} [Inhabited α] (enc : α → List Value) (k : Nat) (hk : ∀ x, (enc x).length = k) (l : List α) : flatK enc k l.toArray = (l.flatMap enc).toArray := by
  refine ext_get! (by rw [size_flatK, List.size_toArray, List.size_toArray, flatMap_len enc k hk]) fun t ht => ?_
  rw [size_flatK, List.size_toArray] at ht
  rw [get_flatK _ _ _ t (by simpa using ht)]
  have := flatMap_get enc k hk l t ht
  simp [getElem!_def, this]
theorem holdsK_of_own {α : Type} [Inhabited α] {enc : α → List Value} {k : Nat} (hk : ∀ x, (enc x).length = k) {w : World} {base : Nat} {e : TypeId} {v : Value} {n : Nat} {zs : List α} (hz : zs.length = n) (h : w.ownsRow base e k v n (zs.flatMap enc)) (hn : n ≠ 0) :
    ∃ g cap, v = .slice (some ⟨g, 0, none⟩) n cap ∧ base ≤ g ∧ g < w.heap.size ∧ HoldsK enc k w g 0 zs.toArray := by
  rcases h.2 with ⟨_, e0⟩ | ⟨g, cap, cur, rfl, hb, hg, hn', hm, hs, ht⟩
  · exact absurd e0 hn
  · have hlt : g < w.heap.size := by
      rcases Nat.lt_or_ge g w.heap.size with h' | h'
      · exact h'
      · rw [Array.getElem?_eq_none h'] at hg; cases hg
    refine ⟨g, cap, rfl, hb, hlt, ?_⟩
    unfold HoldsK
    rw [flatK_eq enc k hk]
    intro j hj
    rw [List.size_toArray, flatMap_len enc k hk, hz] at hj
    refine ⟨?_, by simp [World.frozen?, hg]⟩
    have hc : n * k ≤ cap * k := Nat.mul_le_mul_right k hn'
    have e1 : (cur.toList.take (n * k))[j]? = (zs.flatMap enc)[j]? := by rw [ht]
    rw [List.getElem?_take, if_pos hj, Array.getElem?_toList] at e1
    simp only [World.cell?, hg, Nat.zero_add]
    simp only [Option.isSome_none, Bool.false_eq_true, if_false]
    rw [e1, List.getElem?_eq_getElem (by rw [flatMap_len enc k hk, hz]; exact hj)]
    simp [getElem!_pos, flatMap_len enc k hk, hz, hj]
theorem own_putRowK {α : Type} [Inhabited α] {enc : α → List Value} {k : Nat} (hk : ∀ x, (enc x).length = k) {w : World} {base : Nat} {e : TypeId} {g n cap q : Nat} {xs : List Value} {ys : List α} (h : w.ownsRow base e k (.slice (some ⟨g, 0, none⟩) n cap) n xs) (hy : ys.length = n) :
    (putRowK enc k (Sort.ahead w q) g 0 ys.toArray).ownsRow base e k (.slice (some ⟨g, 0, none⟩) n cap) n (ys.flatMap enc) := by
  rcases h.2 with ⟨e0, _⟩ | ⟨g', cap', cur, e0, hb, hg, hn, hm, hs, ht⟩
  · cases e0
  · injection e0 with e1 _ e3
    injection e1 with e1
    injection e1 with e1
    subst e1; subst e3
    unfold putRowK
    rw [flatK_eq enc k hk]
    have hc : n * k ≤ cap * k := Nat.mul_le_mul_right k hn
    refine ⟨by rw [flatMap_len enc k hk, hy], .inr ⟨g, cap, putCells id 0 (ys.flatMap enc).toArray cur, rfl, hb, ?_, hn, hm, by simpa [putCells] using hs, ?_⟩⟩
    · simp [putRow, mapBlock, Sort.ahead, Array.getElem?_modify, hg, onCells]
    · apply List.ext_getElem?
      intro j
      rw [List.getElem?_take, Array.getElem?_toList]
      by_cases hj : j < n * k
      · have hjc : j < cur.size := by omega
        have hjl : j < (ys.flatMap enc).length := by rw [flatMap_len enc k hk, hy]; exact hj
        simp only [if_pos hj, putCells, Array.getElem?_mapIdx, Array.getElem?_eq_getElem hjc, Option.map_some]
        rw [if_pos ⟨Nat.zero_le _, by rw [List.size_toArray]; omega⟩, List.getElem?_eq_getElem hjl]
        simp [getElem!_pos, hjl]
        rw [List.getElem?_eq_getElem hjl]
        rfl
      · rw [if_neg hj, List.getElem?_eq_none (by rw [flatMap_len enc k hk, hy]; omega)]
theorem own_growK {w : World} {base : Nat} {e : TypeId} {k : Nat} {u : Value} {n : Nat} {xs : List Value} (h : w.ownsRow base e k u n xs) (os : Array Obj) : (grow w os).ownsRow base e k u n xs := by
  rcases h with ⟨h1, h2⟩
  refine ⟨h1, ?_⟩
  rcases h2 with h2 | ⟨g, cap, cur, e, hb, hg, hr⟩
  · exact .inl h2
  · refine .inr ⟨g, cap, cur, e, hb, ?_, hr⟩
    have hlt : g < w.heap.size := (Array.getElem?_eq_some_iff.1 hg).1
    show (w.heap ++ os)[g]? = _
    rw [Array.getElem?_append, if_pos hlt, hg]
theorem below_growK {B : Nat} {w0 w : World} (h : Below B w0 w) (hB : B ≤ w.heap.size) (os : Array Obj) : Below B w0 (grow w os) :=
  ⟨h.os, h.tape, h.output, by show w0.heap.size ≤ (w.heap ++ os).size; rw [Array.size_append]; have := h.size; omega, fun k hk => by
    rw [← h.block k hk]
    show (w.heap ++ os)[k]? = _
    rw [Array.getElem?_append, if_pos (by omega)]⟩
theorem below_putRowK {α : Type} [Inhabited α] {enc : α → List Value} {k B : Nat} {w0 w : World} {g q : Nat} {d : Array α} (h : Below B w0 w) (hg : B ≤ g) : Below B w0 (putRowK enc k (Sort.ahead w q) g 0 d) := Go.Lib.below_putRow h hg
end Go.Proofs.YtcpikafmclfcfaaDoor.Sr
end
section
namespace Go.Proofs.YtcpikafmclfcfaaDoor.Vn
open Go.Shelf Go.RowKit Go.Sort Go.Maps Go.WideShapes Go.ChangeShapes Go.Proofs.YtcpikafmclfcfaaDoor.Vc Go.Proofs.YtcpikafmclfcfaaDoor.Vl Go.Proofs.YtcpikafmclfcfaaDoor.Sr Go.Proofs.YtcpikafmclfcfaaDoor.Mp Go.Proofs.YtcpikafmclfcfaaDoorW.PrintWords
set_option linter.unusedVariables false
set_option linter.unusedSimpArgs false
theorem cellsV_len (x : V3) : (cellsV x).length = 3 := rfl
theorem cellsV_one (x : V3) : ∀ v ∈ cellsV x, v.oneCell' = true := by
  intro v hv
  simp [cellsV] at hv
  rcases hv with rfl | rfl | rfl <;> rfl
theorem totV (x y : V3) (h1 : ltOf ordV x y = false) (h2 : ltOf ordV y x = false) : x = y := by
  have a : ¬ _ := fun k => by rw [(ltV_iff x y).2 k] at h1; cases h1
  have b : ¬ _ := fun k => by rw [(ltV_iff y x).2 k] at h2; cases h2
  exact Subtype.ext (Prod.ext (by omega) (Prod.ext (by omega) (by omega)))
def srtV (l : List V3) : List V3 := l.mergeSort fun x y => !(ltOf ordV) y x
theorem srtV_perm (l : List V3) : (srtV l).Perm l := List.mergeSort_perm _ _
theorem srtV_up (l : List V3) (h : l.Nodup) : (srtV l).Pairwise (fun a b => ltOf ordV a b = true) := by
  have h1 : (srtV l).Pairwise (fun a b => (!(ltOf ordV) b a) = true) := by
    refine List.pairwise_mergeSort (fun a b c h1 h2 => ?_) (fun a b => ?_) l
    · simp only [Bool.not_eq_true'] at h1 h2 ⊢
      exact swoV.ntrans c b a h2 h1
    · cases hb : ltOf ordV b a
      · simp
      · cases ha : ltOf ordV a b
        · simp
        · have := swoV.trans a b a ha hb
          rw [swoV.irrefl] at this
          cases this
  have h2 : (srtV l).Nodup := (srtV_perm l).nodup_iff.2 h
  refine (h1.and h2).imp (fun {a b} hab => ?_)
  obtain ⟨ha, hb⟩ := hab
  cases hc : ltOf ordV a b
  · exact absurd (totV a b hc (by simpa using ha)) hb
  · rfl
theorem sort_v {w0 w : World} {u : Value} {l : List V3} (HO : w.ownsRow w0.heap.size 23 3 u l.length (l.flatMap cellsV)) (HB : Below w0.heap.size w0 w) (hl : l.length ≤ 1000) :
    Calls Tryd.prog 69 #[u, .func (.func 42) #[] #[]] w fun e w' => e = .returned (.tuple #[]) ∧ w'.ownsRow w0.heap.size 23 3 u l.length ((srtV l).flatMap cellsV) ∧ Below w0.heap.size w0 w' := by
  by_cases hn : l = []
  · subst hn
    obtain ⟨A, c, rfl⟩ : ∃ A c, u = .slice A 0 c := by
      rcases HO.2 with ⟨rfl, _⟩ | ⟨g, cap, cur, rfl, _⟩
      · exact ⟨_, _, rfl⟩
      · exact ⟨_, _, rfl⟩
    refine (AnyF.slices_SortFunc_none (P := Tryd.prog) (ρ := Tryd.sortV_ren) Tryd.sortV A c _ w).mono ?_
    rintro e w' ⟨rfl, rfl⟩
    exact ⟨rfl, by simpa [srtV] using HO, HB⟩
  · have hn0 : l.length ≠ 0 := fun h => hn (List.length_eq_zero_iff.1 h)
    obtain ⟨g, cap, rfl, hb, hlt, hH⟩ := holdsK_of_own cellsV_len rfl HO hn0
    refine (AnyQ.slices_SortFunc_total Tryd.sortV 3 Tryd.isAgg23 Tryd.sizeOf23 cellsV cellsV_len cellsV_one ordV swoV 42 #[] g 0 cap l.toArray w (enters_of Tryd.func42 (by kernel_rfl) rfl) (cmp_lays g 0 _ w) hH hlt (by simp; omega) totV).mono ?_
    rintro e w' ⟨rfl, n, os, rfl⟩
    have hlen : (srtV l).length = l.length := (srtV_perm l).length_eq
    have h1 := own_putRowK (q := n) (ys := srtV l) cellsV_len HO hlen
    have h2 := below_putRowK (enc := cellsV) (k := 3) (q := n) (d := (srtV l).toArray) HB hb
    exact ⟨rfl, own_growK h1 os, below_growK h2 h2.size os⟩
def KeysUp {H : Type} (D0 : DataW H) (ss : List V3) : Prop := ss.Pairwise (fun a b => ltOf ordV a b = true) ∧ ∀ x, x ∈ ss ↔ has D0 (KV.lit x) = true
theorem collect_calls {H : Type} (B b nn : Nat) (D0 : DataW H) (R : Value → Option (DataW H × List MemPlace)) (invV : ∀ v y, R v = some y → ∃ c, v = Value.int .i64 c) (w : World) (hB : B < w.heap.size)
    (hm : w.cell? ⟨B, 0, none⟩ = some (.map (some b))) (hown : w.ownsMap Tryd.prog 23 R b nn D0) (hN : Maps.size D0 ≤ 1000) :
    Calls Tryd.prog 68 #[.func (.func 70) #[] #[.pointer (some ⟨B, 0, none⟩)]] w fun e w' => ∃ (v : Value) (ss : List V3), e = .returned v ∧ (ss.Nodup ∧ ∀ x, x ∈ ss ↔ has D0 (KV.lit x) = true) ∧ w'.ownsRow w.heap.size 23 3 v ss.length (ss.flatMap cellsV) ∧ Below w.heap.size w w' :=
  callsIn_wide.1 (collect_in Fence.wide 3 trivial trivial rfl (Nat.le_refl _) 70 _ trivial (enters_of Tryd.func70 (by kernel_rfl) rfl) _ (Maps.size D0) hN w (keys_gives Fence.wide 1 trivial rfl (Nat.le_refl _) B b nn D0 R invV w hB hm hown))
set_option maxHeartbeats 2000000 in
theorem sorted_calls {H : Type} (B b nn : Nat) (D0 : DataW H) (R : Value → Option (DataW H × List MemPlace)) (invV : ∀ v y, R v = some y → ∃ c, v = Value.int .i64 c) (w : World) (hB : B < w.heap.size)
    (hm : w.cell? ⟨B, 0, none⟩ = some (.map (some b))) (hown : w.ownsMap Tryd.prog 23 R b nn D0) (hN : Maps.size D0 ≤ 1000) (hK : ∀ ss : List V3, ss.Nodup → (∀ x, x ∈ ss ↔ has D0 (KV.lit x) = true) → ss.length ≤ 1000) :
    Calls Tryd.prog 51 #[.func (.func 70) #[] #[.pointer (some ⟨B, 0, none⟩)], .func (.func 42) #[] #[]] w fun e w' => ∃ (v : Value) (ss : List V3), e = .returned v ∧ KeysUp D0 ss ∧ w'.ownsRow w.heap.size 23 3 v ss.length (ss.flatMap cellsV) ∧ Below w.heap.size w w' := by
  have HC := Aside0.mk (collect_calls B b nn D0 R invV w hB hm hown hN)
  have HK := Aside0.mk hK
  clear hm hown hN hK
  go_enter Tryd.func51, Tryd.ntmps51
  go_wp2_with fail
  refine HC.out.mono ?_
  rintro e w1 ⟨v, ss, rfl, hS, ho, hb⟩
  have HS := Aside0.mk (HK.out ss hS.1 hS.2)
  have HSS := Aside0.mk hS
  have HO := Aside0.mk ho
  have HB := Aside0.mk hb
  clear ho hb hS
  go_wp2_with fail
  refine (sort_v HO.out HB.out HS.out).mono ?_
  rintro e w2 ⟨rfl, ho, hb⟩
  have HO2 := Aside0.mk ho
  have HB2 := Aside0.mk hb
  clear ho hb
  go_wp2
  go_ret
  refine ⟨_, srtV ss, rfl, ⟨srtV_up ss HSS.out.1, fun x => (srtV_perm ss).mem_iff.trans (HSS.out.2 x)⟩, ?_, HB2.out⟩
  rw [(srtV_perm ss).length_eq]
  exact HO2.out
end Go.Proofs.YtcpikafmclfcfaaDoor.Vn
end
section
namespace Go.Proofs.YtcpikafmclfcfaaDoor.Vn
open Go.RowKit Go.Maps Go.Proofs.YtcpikafmclfcfaaDoor.Vl Go.Proofs.YtcpikafmclfcfaaDoor.Mp Go.Proofs.YtcpikafmclfcfaaDoor.PV Go.Proofs.YtcpikafmclfcfaaDoorW.PrintWords
set_option linter.unusedVariables false
set_option linter.unusedSimpArgs false
structure Ta where
  a : Int
  b : Int
  c : Int
  n : Int
def kT : Kd Ta := Kd.iso (Kd.pair (Kd.int .i64) (Kd.pair (Kd.int .i64) (Kd.pair (Kd.int .i64) (Kd.int .i64)))) (fun x : Ta => (x.a, x.b, x.c, x.n))
def cellsT (x : Ta) : List Value := [.int .i64 x.a, .int .i64 x.b, .int .i64 x.c, .int .i64 x.n]
theorem kT_open {w : World} {x : Ta} {cs : List Value} (h : kT.K w x cs) : cs = cellsT x := by
  obtain ⟨_, _, rfl, rfl, ⟨_, _, rfl, rfl, ⟨_, _, rfl, rfl, rfl⟩⟩⟩ := h
  rfl
theorem kT_mkM (w : World) (base : Nat) (ok : Nat → Prop) (x : Ta) : kT.M w base ok x (cellsT x) := ⟨[.int .i64 x.a], [.int .i64 x.b, .int .i64 x.c, .int .i64 x.n], rfl, rfl, ⟨[.int .i64 x.b], [.int .i64 x.c, .int .i64 x.n], rfl, rfl, ⟨[.int .i64 x.c], [.int .i64 x.n], rfl, rfl, rfl⟩⟩⟩
theorem one_T {w : World} {g : Nat} {x : Ta} {t : TypeId} (h : w.heap[g]? = some (.cells (cellsT x).toArray t (0, 0))) : ReadsRow (fun y cs => cs = cellsT y) 4 w (some ⟨g, 0, none⟩) 1 [x] := by
  refine ⟨rfl, by decide, fun _ => ⟨_, rfl, fun j p hj => ?_⟩⟩
  rcases j with _ | j
  · obtain rfl : x = p := by simpa using hj
    refine ⟨_, rfl, rfl, fun i u hi => ?_⟩
    have h1 := blk_cell h i
    have e : (⟨g, 0, none⟩ : Addr).add (0 * 4 + i) = ⟨g, i, none⟩ := by
      unfold Addr.add
      by_cases hi0 : i = 0
      · subst hi0; rfl
      · rw [if_neg (by omega)]
        simp
    rw [e, h1]
    simpa using hi
  · simp at hj
def s23 (x : V3) : S23 := ⟨x.1.1, x.1.2.1, x.1.2.2⟩
theorem keysR {w : World} {base : Nat} {v : Value} {ss : List V3} (h : w.ownsRow base 23 3 v ss.length (ss.flatMap cellsV)) : k23.R 23 w base (fun _ => True) v (ss.map s23) := by
  refine ⟨fun _ _ => trivial, ss.flatMap cellsV, by rw [List.length_map]; exact h, by rw [Go.Proofs.YtcpikafmclfcfaaDoor.Sr.flatMap_len cellsV 3 cellsV_len, List.length_map]; rfl, fun j p hj => ?_⟩
  rw [List.getElem?_map] at hj
  obtain ⟨x, hx, rfl⟩ := Option.map_eq_some_iff.1 hj
  have e : ∀ (l : List V3) (j : Nat), l[j]? = some x → ((l.flatMap cellsV).drop (j * 3)).take 3 = cellsV x := by
    intro l
    induction l with
    | nil => intro j h; simp at h
    | cons y l ih =>
      intro j h
      rw [List.flatMap_cons]
      rcases j with _ | j
      · obtain rfl : y = x := by simpa using h
        simp [cellsV]
      · rw [show (j + 1) * 3 = 3 + j * 3 by omega, ← List.drop_drop, show (cellsV y ++ l.flatMap cellsV).drop 3 = l.flatMap cellsV by simp [cellsV]]
        exact ih j (by simpa using h)
  show k23.M w base _ (s23 x) (((ss.flatMap cellsV).drop (j * 3)).take 3)
  rw [e ss j hx]
  exact k23_mkM w base _ (s23 x)
theorem nodup_len {α : Type} [BEq α] [LawfulBEq α] : ∀ (l L : List α), l.Nodup → (∀ x ∈ l, x ∈ L) → l.length ≤ L.length
  | [], _, _, _ => Nat.zero_le _
  | x :: l, L, hn, hs => by
    rw [List.nodup_cons] at hn
    have hx := hs x (by simp)
    have h1 := nodup_len l (L.erase x) hn.2 (fun y hy => (List.mem_erase_of_ne (fun (e : y = x) => hn.1 (by rw [← e]; exact hy))).2 (hs y (List.mem_cons_of_mem _ hy)))
    rw [List.length_erase_of_mem hx] at h1
    have : 0 < L.length := List.length_pos_of_mem hx
    rw [List.length_cons]; omega
def taK (l : List S23) (x : V3) : Ta := ⟨x.1.1, x.1.2.1, x.1.2.2, (l.countP (isK x) : Int)⟩
theorem isK_mem {l : List S23} {x : V3} : l.countP (isK x) ≠ 0 ↔ ∃ y ∈ l, (y.f0, y.f1, y.f2) = x.1 := by
  rw [← Nat.pos_iff_ne_zero, List.countP_pos_iff]
  refine exists_congr fun y => and_congr Iff.rfl ?_
  unfold isK
  simp only [Bool.and_eq_true, decide_eq_true_eq]
  constructor
  · rintro ⟨⟨a, b⟩, c⟩
    exact Prod.ext a (Prod.ext b c)
  · intro h
    rw [← h]
    exact ⟨⟨rfl, rfl⟩, rfl⟩
def Keys (l : List S23) (ss : List V3) : Prop := ss.Pairwise (fun a b => Go.Proofs.ltOf ordV a b = true) ∧ ∀ x : V3, x ∈ ss ↔ ∃ y ∈ l, (y.f0, y.f1, y.f2) = x.1
end Go.Proofs.YtcpikafmclfcfaaDoor.Vn
end
section
set_option linter.unusedVariables false
set_option linter.unusedSectionVars false
namespace Go.Proofs.YtcpikafmclfcfaaDoor.Tl
variable {T : Type} [DecidableEq T] (lt : T → T → Bool)
structure Strict : Prop where mk ::
  irrefl : ∀ a, lt a a = false
  trans : ∀ a b c, lt a b = true → lt b c = true → lt a c = true
  total : ∀ a b, lt a b = false → lt b a = false → a = b
def tins (v : T) : List (T × Nat) → List (T × Nat)
  | [] => [(v, 1)]
  | x :: out => if lt x.1 v = true then x :: tins v out else if x.1 = v then (v, x.2 + 1) :: out else (v, 1) :: x :: out
def tally (l : List T) : List (T × Nat) := l.foldl (fun o v => tins lt v o) []
def Sor (o : List (T × Nat)) : Prop := o.Pairwise (fun x y => lt x.1 y.1 = true)
variable {lt}
theorem tins_keys (v : T) : ∀ (o : List (T × Nat)), ∀ x ∈ tins lt v o, x.1 = v ∨ x ∈ o := by
  intro o
  induction o with
  | nil =>
    intro x hx
    rw [tins, List.mem_singleton] at hx
    exact .inl (by rw [hx])
  | cons y o ih =>
    intro x hx
    unfold tins at hx
    split at hx
    · rcases List.mem_cons.1 hx with rfl | hx
      · exact .inr (by simp)
      · rcases ih x hx with h | h
        · exact .inl h
        · exact .inr (List.mem_cons_of_mem _ h)
    · split at hx
      · rcases List.mem_cons.1 hx with rfl | hx
        · exact .inl rfl
        · exact .inr (List.mem_cons_of_mem _ hx)
      · rcases List.mem_cons.1 hx with rfl | hx
        · exact .inl rfl
        · exact .inr hx
theorem tins_sor (S : Strict lt) (v : T) : ∀ (o : List (T × Nat)), Sor lt o → Sor lt (tins lt v o) := by
  intro o
  induction o with
  | nil =>
    intro _
    simp [tins, Sor]
  | cons y o ih =>
    intro h
    obtain ⟨h1, h2⟩ := List.pairwise_cons.1 h
    unfold tins
    split
    · rename_i hy
      refine List.pairwise_cons.2 ⟨fun x hx => ?_, ih h2⟩
      rcases tins_keys v o x hx with e | hx
      · rw [e]; exact hy
      · exact h1 x hx
    · rename_i hy
      split
      · rename_i e
        refine List.pairwise_cons.2 ⟨fun x hx => ?_, h2⟩
        have := h1 x hx
        rw [e] at this
        exact this
      · rename_i e
        have hvy : lt v y.1 = true := by
          cases hb : lt v y.1
          · exact absurd (S.total y.1 v (by simpa using hy) hb) e
          · rfl
        refine List.pairwise_cons.2 ⟨fun x hx => ?_, h⟩
        rcases List.mem_cons.1 hx with rfl | hx
        · exact hvy
        · exact S.trans _ _ _ hvy (h1 x hx)
def told (o : List (T × Nat)) (u : T) : Nat := ((o.filter (fun x => decide (x.1 = u))).map (·.2)).sum
theorem told_zero (o : List (T × Nat)) (u : T) (h : ∀ x ∈ o, x.1 ≠ u) : told o u = 0 := by
  unfold told
  have : o.filter (fun x => decide (x.1 = u)) = [] := by
    rw [List.filter_eq_nil_iff]
    intro x hx hc
    exact h x hx (of_decide_eq_true hc)
  rw [this]; rfl
theorem told_cons (x : T × Nat) (o : List (T × Nat)) (u : T) : told (x :: o) u = (if x.1 = u then x.2 else 0) + told o u := by
  unfold told
  rw [List.filter_cons]
  by_cases h : x.1 = u
  · rw [if_pos (decide_eq_true h), if_pos h]; simp
  · rw [if_neg (by simpa using h), if_neg h]; simp
theorem told_tins (v u : T) : ∀ (o : List (T × Nat)), told (tins lt v o) u = told o u + if v = u then 1 else 0 := by
  intro o
  induction o with
  | nil =>
    rw [tins, told_cons]
    simp [told]
  | cons y o ih =>
    unfold tins
    split
    · rw [told_cons, told_cons, ih]; omega
    · split
      · rename_i e
        rw [told_cons, told_cons, e]
        by_cases h : v = u
        · simp only [h, if_true]; omega
        · simp only [h, if_false]; omega
      · rw [told_cons]
        by_cases h : v = u
        · simp only [h, if_true]; omega
        · simp only [h, if_false]; omega
theorem tins_pos (v : T) : ∀ (o : List (T × Nat)), (∀ x ∈ o, 0 < x.2) → ∀ x ∈ tins lt v o, 0 < x.2 := by
  intro o
  induction o with
  | nil =>
    intro _ x hx
    rw [tins, List.mem_singleton] at hx
    rw [hx]; exact Nat.one_pos
  | cons y o ih =>
    intro h x hx
    unfold tins at hx
    split at hx
    · rcases List.mem_cons.1 hx with rfl | hx
      · exact h _ (by simp)
      · exact ih (fun z hz => h z (List.mem_cons_of_mem _ hz)) x hx
    · split at hx
      · rcases List.mem_cons.1 hx with rfl | hx
        · exact Nat.succ_pos _
        · exact h x (List.mem_cons_of_mem _ hx)
      · rcases List.mem_cons.1 hx with rfl | hx
        · exact Nat.one_pos
        · exact h x hx
theorem fold_all (S : Strict lt) (l : List T) : ∀ (o : List (T × Nat)), Sor lt o → (∀ x ∈ o, 0 < x.2) →
    Sor lt (l.foldl (fun o v => tins lt v o) o) ∧ (∀ x ∈ l.foldl (fun o v => tins lt v o) o, 0 < x.2) ∧ ∀ u, told (l.foldl (fun o v => tins lt v o) o) u = told o u + l.count u := by
  induction l with
  | nil => exact fun o h1 h2 => ⟨h1, h2, fun u => by simp⟩
  | cons v l ih =>
    intro o h1 h2
    obtain ⟨a, b, c⟩ := ih (tins lt v o) (tins_sor S v o h1) (tins_pos v o h2)
    refine ⟨a, b, fun u => ?_⟩
    rw [List.foldl_cons, c u, told_tins, List.count_cons]
    by_cases h : v = u
    · subst h; simp; omega
    · simp [h]
theorem sor_told (S : Strict lt) : ∀ (o : List (T × Nat)), Sor lt o → ∀ x ∈ o, told o x.1 = x.2 := by
  intro o
  induction o with
  | nil => intro _ x hx; cases hx
  | cons y o ih =>
    intro h x hx
    obtain ⟨h1, h2⟩ := List.pairwise_cons.1 h
    rw [told_cons]
    rcases List.mem_cons.1 hx with rfl | hx
    · rw [if_pos rfl, told_zero o x.1 (fun z hz e => by
        have := h1 z hz
        rw [e, S.irrefl] at this
        cases this)]
      rfl
    · rw [if_neg (fun e => by
        have := h1 x hx
        rw [e, S.irrefl] at this
        cases this), ih h2 x hx, Nat.zero_add]
theorem told_mem {o : List (T × Nat)} {u : T} (h : 0 < told o u) : ∃ x ∈ o, x.1 = u := by
  induction o with
  | nil => simp [told] at h
  | cons y o ih =>
    rw [told_cons] at h
    by_cases e : y.1 = u
    · exact ⟨y, by simp, e⟩
    · rw [if_neg e, Nat.zero_add] at h
      obtain ⟨x, hx, hu⟩ := ih h
      exact ⟨x, List.mem_cons_of_mem _ hx, hu⟩
theorem sor_eq (S : Strict lt) : ∀ (a b : List (T × Nat)), Sor lt a → Sor lt b → (∀ x, x ∈ a ↔ x ∈ b) → a = b := by
  intro a
  induction a with
  | nil =>
    intro b _ _ h
    cases b with
    | nil => rfl
    | cons y b => exact absurd ((h y).2 (by simp)) List.not_mem_nil
  | cons x a ih =>
    intro b ha hb h
    cases b with
    | nil => exact absurd ((h x).1 (by simp)) List.not_mem_nil
    | cons y b =>
      obtain ⟨a1, a2⟩ := List.pairwise_cons.1 ha
      obtain ⟨b1, b2⟩ := List.pairwise_cons.1 hb
      have hxy : x = y := by
        rcases List.mem_cons.1 ((h x).1 (by simp)) with e | hx
        · exact e
        · rcases List.mem_cons.1 ((h y).2 (by simp)) with e | hy
          · exact e.symm
          · have := S.trans _ _ _ (a1 y hy) (b1 x hx)
            rw [S.irrefl] at this
            cases this
      subst hxy
      rw [ih b a2 b2 (fun z => ?_)]
      have := h z
      simp only [List.mem_cons] at this
      constructor
      · intro hz
        rcases this.1 (.inr hz) with e | hz2
        · have h3 := a1 z hz
          rw [e, S.irrefl] at h3
          cases h3
        · exact hz2
      · intro hz
        rcases this.2 (.inr hz) with e | hz2
        · have h3 := b1 z hz
          rw [e, S.irrefl] at h3
          cases h3
        · exact hz2
theorem keys_tally (S : Strict lt) (l ks : List T) (hs : ks.Pairwise (fun a b => lt a b = true)) (hk : ∀ v, v ∈ ks ↔ v ∈ l) : ks.map (fun v => (v, l.count v)) = tally lt l := by
  obtain ⟨h1, h2, h3⟩ := fold_all S l [] List.Pairwise.nil (fun x hx => by cases hx)
  refine sor_eq S _ _ ?_ h1 (fun x => ?_)
  · unfold Sor
    rw [List.pairwise_map]
    exact hs
  · constructor
    · intro hx
      obtain ⟨v, hv, rfl⟩ := List.mem_map.1 hx
      have hc : 0 < l.count v := List.count_pos_iff.2 ((hk v).1 hv)
      have h4 := h3 v
      have h0 : told ([] : List (T × Nat)) v = 0 := rfl
      rw [h0, Nat.zero_add] at h4
      obtain ⟨x, hx2, hxv⟩ := told_mem (o := l.foldl (fun o v => tins lt v o) []) (u := v) (by omega)
      have h5 := sor_told S _ h1 x hx2
      rw [hxv, h4] at h5
      have : x = (v, l.count v) := Prod.ext hxv h5.symm
      rw [← this]; exact hx2
    · intro hx
      have h4 := h3 x.1
      have h0 : told ([] : List (T × Nat)) x.1 = 0 := rfl
      rw [h0, Nat.zero_add, sor_told S _ h1 x hx] at h4
      have hp := h2 x hx
      have hm : x.1 ∈ l := List.count_pos_iff.1 (by omega)
      exact List.mem_map.2 ⟨x.1, (hk x.1).2 hm, Prod.ext rfl h4.symm⟩
end Go.Proofs.YtcpikafmclfcfaaDoor.Tl
end
