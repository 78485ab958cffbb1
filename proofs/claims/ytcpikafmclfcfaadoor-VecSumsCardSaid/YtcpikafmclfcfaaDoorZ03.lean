/- Part 3 of the proof of VecSumsCardSaid. -/
import Derived.Test.YtcpikafmclfcfaaDoorProg
import Derived.Test.YtcpikafmclfcfaaDoorZ02
import Derived.Test.YtcpikafmclfcfaaDoorZ01
import Derived.WalkSmall
import Derived.Lib.LaidTab
import Derived.Lib.ItoaNum
import Derived.Lib.AtoiAll
import Derived.Lib.Join
import Derived.DataReads
import Derived.DataElems
import Derived.ChangeOld
import Derived.Below
import Derived.Deep.Draws
import Derived.Deep.AppendLies
import Derived.Maps.AppendAt
import Derived.OwnWalk
import Derived.Laws.BytesArg
import Derived.Laws.MakeOwn
import Derived.Laws.OwnMore
import Derived.Deep.OwnRows
import Derived.Tactics
import Derived.Lib.ConvBytes
import Derived.Laws.Slices
import Derived.WalkKit
import Derived.KernelRfl
import Derived.RowKit3
import Derived.Deep.LoopGhost
import Derived.Deep.QuietTactic
import Derived.BigQuiet
import Derived.WideLaws
import Derived.Deep.DeepCutAuto
import Derived.Deep.CutBlock
import Derived.Deep.RegionHeld3
import Derived.Laws.Rows
import Derived.Lib.AppendStr
import Derived.ArgAppend
import Derived.Laws.IdiomCopy
import Derived.OrdersHeld
import Derived.Laws.BitsLemmas
import Derived.RowKit
import Derived.Lib.Bytealg
import Derived.LoopN
import Derived.RegionTactic
import Derived.RegionCalls
import Derived.Lib.Strings
import Derived.RangeFuncNested
import Derived.RangeFuncBound
import Derived.RangeFuncCalls
import Derived.RangeFuncLeaves
import Derived.RangeFuncFrom
import Derived.Shelf.Abstract
import Derived.OwnWalkIn
import Derived.TacticsInMore
import Derived.LoopNIn
import Derived.LoopIn
import Derived.Shelf.RegionOpen
section
namespace Go.Proofs.YtcpikafmclfcfaaDoor.Lib
open Go.RowKit Go.Proofs.YtcpikafmclfcfaaDoorW.PrintWords
set_option linter.unusedVariables false
set_option linter.unusedSimpArgs false
structure Glob (w : World) : Prop where mk ::
  tab : Go.Lib.TabIs Tryd.prog w "internal/strconv.uint64pow10" .u64 Go.Lib.pow10Tab
  syn : ∃ tp p, w.var? Tryd.prog "strconv.ErrSyntax" = some #[.iface tp p]
  ran : ∃ tp p, w.var? Tryd.prog "strconv.ErrRange" = some #[.iface tp p]
theorem g_tab : Tryd.prog.globalNamed "internal/strconv.uint64pow10" = some 5 := by kernel_rfl
theorem g_syn : Tryd.prog.globalNamed "strconv.ErrSyntax" = some 1 := by kernel_rfl
theorem g_ran : Tryd.prog.globalNamed "strconv.ErrRange" = some 2 := by kernel_rfl
theorem var_lt {w : World} {n : String} {g : Nat} {cs : Array Value} (hg : Tryd.prog.globalNamed n = some g) (hv : w.var? Tryd.prog n = some cs) : g < w.heap.size := by
  unfold World.var? at hv
  simp only [hg, Option.bind_some] at hv
  cases h : w.heap[g]? with
  | none => rw [h] at hv; cases hv
  | some o => exact (Array.getElem?_eq_some_iff.1 h).1
theorem Glob.below {w w' : World} (h : Glob w) (hb : Below w.heap.size w w') : Glob w' := by
  obtain ⟨h1, ⟨t2, p2, h2⟩, ⟨t3, p3, h3⟩⟩ := h
  exact ⟨var?_below hb g_tab (var_lt g_tab h1) h1, ⟨t2, p2, var?_below hb g_syn (var_lt g_syn h2) h2⟩, ⟨t3, p3, var?_below hb g_ran (var_lt g_ran h3) h3⟩⟩
theorem below_grow (w : World) (k : Nat) (os : Array Obj) : Below w.heap.size w (Go.Sort.grow (w.drewN k) os) :=
  ⟨rfl, rfl, rfl, by show w.heap.size ≤ (w.heap ++ os).size; rw [Array.size_append]; omega, fun j hj => by show (w.heap ++ os)[j]? = _; rw [Array.getElem?_append, if_pos hj]⟩
def strconv_Itoa.f (a0 : Int) : Option ByteArray := if -9223372036854775808 ≤ a0 ∧ a0 ≤ 9223372036854775807 then some ⟨(Go.Lib.itoa a0).toArray⟩ else none
theorem strconv_Itoa.calls (a0 : Int) (r : ByteArray) (w : World) (h : strconv_Itoa.f a0 = some r) (hG : Glob w) :
    Calls Tryd.prog 38 #[.int .i64 a0] w fun e w' => e = .returned (.string r) ∧ Below w.heap.size w w' := by
  unfold strconv_Itoa.f at h
  split at h
  · rename_i hb
    cases h
    refine (Tryd.strconv_Itoa a0 hb.1 hb.2 w hG.tab).mono ?_
    rintro e w' ⟨rfl, k, os, rfl⟩
    exact ⟨rfl, below_grow w k os⟩
  · cases h
def atoiVal (l : List UInt8) : Int := match Go.Lib.atoiAll l with | .ok v => v | .range => Go.Lib.atoiSat l | _ => 0
def atoiOk (l : List UInt8) : Bool := match Go.Lib.atoiAll l with | .ok _ => true | _ => false
theorem strconv_Atoi_any (s : ByteArray) (hs : s.size ≤ 281474976710656) (w : World) (hG : Glob w) :
    Calls Tryd.prog 35 #[.string s] w fun e w' => ∃ ev, e = .returned (.tuple #[.int .i64 (atoiVal s.data.toList), ev]) ∧ (atoiOk s.data.toList = true → ev = .nilIface) ∧ (atoiOk s.data.toList = false → ∃ t p, ev = .iface t (.pointer (some p))) ∧ Below w.heap.size w w' := by
  obtain ⟨_, ⟨t2, p2, h2⟩, ⟨t3, p3, h3⟩⟩ := hG
  unfold atoiVal atoiOk
  cases h : Go.Lib.atoiAll s.data.toList with
  | ok v =>
    refine (Tryd.strconv_Atoi_ok s (by omega) v h w).mono ?_
    rintro e w' ⟨rfl, hw⟩
    refine ⟨_, rfl, fun _ => rfl, fun h => by simp at h, ?_⟩
    rcases hw with rfl | ⟨t, rfl⟩
    · exact Below.refl _ _
    · exact bytes_below (Below.refl _ _) (Nat.le_refl _) _ _
  | range =>
    refine (Tryd.strconv_Atoi_range_var s hs h t3 p3 w h3).mono ?_
    rintro e w' ⟨N, rfl, _, _, hb⟩
    exact ⟨_, rfl, fun h => by simp at h, fun _ => ⟨_, _, rfl⟩, hb⟩
  | _ =>
    refine (Tryd.strconv_Atoi_syntax_var s hs h t2 p2 w h2).mono ?_
    rintro e w' ⟨N, rfl, _, _, hb⟩
    exact ⟨_, rfl, fun h => by simp at h, fun _ => ⟨_, _, rfl⟩, hb⟩
def strings_Join.f (l : List ByteArray) (s : ByteArray) : Option ByteArray :=
  if l.length ≤ 140737488355328 ∧ (Go.Lib.join (l.map (·.data.toList)) s.data.toList).length ≤ 140737488355328 then some ⟨(Go.Lib.join (l.map (·.data.toList)) s.data.toList).toArray⟩ else none
theorem strings_Join.calls (A0 : Option Addr) (c0 : Nat) (l0 : List ByteArray) (a1 : ByteArray) (r : ByteArray) (w : World) (hr0 : Kd.C Kd.string w A0 l0.length l0) (hc0 : l0.length ≤ c0) (h : strings_Join.f l0 a1 = some r) :
    Calls Tryd.prog 39 #[.slice A0 l0.length c0, .string a1] w fun e w' => e = .returned (.string r) ∧ Below w.heap.size w w' := by
  unfold strings_Join.f at h
  split at h
  · rename_i hb
    cases h
    cases l0 with
    | nil =>
      refine (Tryd.strings_Join_none A0 c0 a1 w).mono ?_
      rintro e w' ⟨rfl, rfl⟩
      exact ⟨rfl, Below.refl _ _⟩
    | cons x l =>
      obtain ⟨_, _, hc1⟩ := hr0
      obtain ⟨ad, rfl, hc⟩ := hc1 (by simp)
      clear hc1
      have hcell : ∀ (j : Nat) y, (x :: l)[j]? = some y → w.cell? (ad.add j) = some (.string y) := fun j y hj => by
        obtain ⟨c, hl, rfl, hcc⟩ := hc j y hj
        have := hcc 0 _ rfl
        rwa [show j * Kd.string.sz + 0 = j from by simp [Kd.string, Kd.scalar]] at this
      obtain ⟨bk, o, sp⟩ := ad
      have h0 := hcell 0 x rfl
      have hsp : sp = none := by
        cases sp with
        | none => rfl
        | some z => simp [Addr.add, World.cell?] at h0; split at h0 <;> simp at h0
      subst hsp
      have hbk : bk < w.heap.size := by have := World.block_lt_of_cell? w _ h0; simpa [Addr.add] using this
      exact Tryd.strings_Join bk o c0 (x :: l) a1 w (fun j y hj => by have := hcell j y hj; unfold Addr.add at this; split at this <;> simp_all) hbk hb.1 hc0 hb.2
  · cases h
end Go.Proofs.YtcpikafmclfcfaaDoor.Lib
end
section
namespace Go.Proofs.YtcpikafmclfcfaaDoor.Op
open Go.RowKit Go.Proofs.YtcpikafmclfcfaaDoorW.PrintWords Go.Proofs.YtcpikafmclfcfaaDoorW.PrintLast Go.Proofs.YtcpikafmclfcfaaDoorW.PrintMore
set_option linter.unusedVariables false
set_option linter.unusedSimpArgs false
def Opens {α : Type} (P : Program) (t : TypeId) (K : World → α → List Value → Prop) (G : α → Prop) : Prop :=
  ∀ (H : Type) (enc : TypeId × Value → H) (w : World) (fuel : Nat) (cs : List Value) (d : DataW H) (ps : List MemPlace), DataW.trod enc P w 0 (fun _ => true) true fuel t cs = some (d, ps) → ∃ x, K w x cs ∧ G x
theorem opens_int {P : Program} {t : TypeId} {k : IntKind} (hu : P.underlying t = some (.int k)) : Opens P t (Kd.int k).K (fun n => (Lit.int k n).wf = true) := by
  intro H enc w fuel cs d ps h
  cases fuel with
  | zero => simp [DataW.trod] at h
  | succ m =>
    unfold DataW.trod at h
    simp only [hu] at h
    split at h <;> first | cases h; done | skip
    all_goals first
      | (rename_i k' n h1; injection h1 with h1; injection h1 with h1; subst h1; by_cases hc : k' = k ∧ (Lit.int k n).wf = true
         · obtain ⟨rfl, hw⟩ := hc
           exact ⟨_, rfl, hw⟩
         · rw [if_neg hc] at h
           cases h)
      | (rename_i k' n; by_cases hc : k' = k ∧ (Lit.int k n).wf = true
         · obtain ⟨rfl, hw⟩ := hc
           exact ⟨_, rfl, hw⟩
         · rw [if_neg hc] at h
           cases h)
      | (rename_i h1; cases h1)
      | (rename_i h1 h2; cases h1)
      | cases h
theorem choose_list {α : Type} (Pr : Nat → α → Prop) : ∀ (n : Nat), (∀ i, i < n → ∃ x, Pr i x) → ∃ xs : List α, xs.length = n ∧ ∀ j x, xs[j]? = some x → Pr j x
  | 0, _ => ⟨[], rfl, fun j x h => by simp at h⟩
  | n + 1, h => by
    obtain ⟨xs, hl, hx⟩ := choose_list Pr n (fun i hi => h i (by omega))
    obtain ⟨y, hy⟩ := h n (by omega)
    refine ⟨xs ++ [y], by simp [hl], fun j x hj => ?_⟩
    rcases Nat.lt_or_ge j n with hlt | hge
    · rw [List.getElem?_append_left (by omega)] at hj
      exact hx j x hj
    · rw [List.getElem?_append_right (by omega)] at hj
      obtain rfl : j = n := by
        have : j - xs.length < 1 := by
          have := (List.getElem?_eq_some_iff.1 hj).1
          simpa using this
        omega
      rw [hl, Nat.sub_self] at hj
      simp only [List.getElem?_cons_zero, Option.some.injEq] at hj
      subst hj
      exact hy
theorem opens_slice {α : Type} {P : Program} {t e : TypeId} {d : Kd α} {G : α → Prop} (q : Nat) (hu : P.underlying t = some (.slice e)) (hz : P.cellsOf e = d.sz) (hd : Opens P e d.K G) :
    Opens P t (Kd.slice q d).K (fun l => l.length ≤ maxLen ∧ ∀ x ∈ l, G x) := by
  intro H enc w fuel cs dd ps h
  cases fuel with
  | zero => simp [DataW.trod] at h
  | succ m =>
    unfold DataW.trod at h
    simp only [hu] at h
    split at h
    case h_7 => exact ⟨[], ⟨none, 0, rfl, Nat.le_refl _, ⟨rfl, Nat.zero_le _, fun h => absurd h (Nat.lt_irrefl _)⟩⟩, Nat.zero_le _, fun x hx => absurd hx List.not_mem_nil⟩
    case h_8 _ e' a len cap h1 =>
      injection h1 with h1
      injection h1 with h1
      subst h1
      split at h
      case isFalse => cases h
      case isTrue hc =>
        obtain ⟨hb, hlc, hcm⟩ := hc
        obtain ⟨elems, hm, h⟩ := Option.bind_eq_some_iff.1 h
        have hel : ∀ i, i < len → ∃ x, (G x ∧ ∃ c, c.length = d.sz ∧ d.K w x c ∧ ∀ i' u, c[i']? = some u → w.cell? (a.add (i * d.sz + i')) = some u) := by
          intro i hi
          have hg := mapM_some_get hm i i (by simp [hi])
          have hln : elems.length = (List.range len).length := mapM_some_length hm
          simp only [List.length_range] at hln
          rw [List.getElem?_eq_getElem (by omega)] at hg
          obtain ⟨c, hc1, hc2⟩ := Option.bind_eq_some_iff.1 hg
          obtain ⟨x, hx, hGx⟩ := hd H enc w m c _ _ hc2
          rw [hz] at hc1
          unfold World.cells? at hc1
          split at hc1
          case isFalse => cases hc1
          case isTrue =>
            have hcl : c.length = (List.range d.sz).length := mapM_some_length hc1
            simp only [List.length_range] at hcl
            refine ⟨x, hGx, c, hcl, hx, fun i' u hu' => ?_⟩
            have hlt := (List.getElem?_eq_some_iff.1 hu').1
            have hg' := mapM_some_get hc1 i' i' (show (List.range d.sz)[i']? = some i' from List.getElem?_range (by omega))
            rw [hu'] at hg'
            rw [← hg', show (a.add (i * d.sz)).add i' = a.add (i * d.sz + i') from Addr.add_add _ _ _]
        obtain ⟨xs, hxl, hxs⟩ := choose_list _ len hel
        subst hxl
        refine ⟨xs, ⟨some a, cap, rfl, hlc, ⟨rfl, Nat.le_trans hlc (Nat.le_trans hcm (by decide)), fun _ => ⟨a, rfl, fun j p hj => ?_⟩⟩⟩, Nat.le_trans hlc hcm, fun x hx => ?_⟩
        · obtain ⟨_, c, h1, h2, h3⟩ := hxs j p hj
          exact ⟨c, h1, h2, h3⟩
        · obtain ⟨j, hj⟩ := List.getElem?_of_mem hx
          exact (hxs j x hj).1
    all_goals first | cases h; done | (rename_i h1 h2; cases h1; done) | (rename_i h1; cases h1; done) | skip
def OpensF {α : Type} (P : Program) (off sz : Nat) (fs : List Field) (K : World → α → List Value → Prop) (G : α → Prop) : Prop :=
  ∀ (H : Type) (enc : TypeId × Value → H) (w : World) (fuel : Nat) (cs : List Value) (xs : List (DataW H × List MemPlace)), cs.length = off + sz →
    fs.mapM (fun f => DataW.trod enc P w 0 (fun _ => true) true fuel f.type ((cs.drop f.offset).take (P.cellsOf f.type))) = some xs → ∃ x, K w x (cs.drop off) ∧ G x
theorem opensF_one {α : Type} {P : Program} {off sz : Nat} {f : Field} {K : World → α → List Value → Prop} {G : α → Prop} (t : TypeId) (ht : f.type = t) (ho : f.offset = off) (hz : P.cellsOf t = sz) (hd : Opens P t K G) : OpensF P off sz [f] K G := by
  intro H enc w fuel cs xs hl h
  subst ht
  rw [List.mapM_cons] at h
  obtain ⟨x, hx, h⟩ := Option.bind_eq_some_iff.1 h
  rw [ho, hz, List.take_of_length_le (by simp; omega)] at hx
  exact hd H enc w fuel _ x.1 x.2 hx
theorem opensF_cons {α β : Type} {P : Program} {off : Nat} {f : Field} {fs : List Field} {a : Kd α} {b : Kd β} {Ga : α → Prop} {Gb : β → Prop} (t : TypeId) (ht : f.type = t) (ho : f.offset = off) (hz : P.cellsOf t = a.sz) (hd : Opens P t a.K Ga)
    (hr : OpensF P (off + a.sz) b.sz fs b.K Gb) : OpensF P off (a.sz + b.sz) (f :: fs) (Kd.pair a b).K (fun x => Ga x.1 ∧ Gb x.2) := by
  intro H enc w fuel cs xs hl h
  subst ht
  rw [List.mapM_cons] at h
  obtain ⟨x, hx, h⟩ := Option.bind_eq_some_iff.1 h
  obtain ⟨ys, hy, _⟩ := Option.bind_eq_some_iff.1 h
  rw [ho, hz] at hx
  obtain ⟨u, hu, gu⟩ := hd H enc w fuel _ x.1 x.2 hx
  obtain ⟨v, hv, gv⟩ := hr H enc w fuel cs ys (by omega) hy
  refine ⟨(u, v), ⟨_, _, ?_, hu, hv⟩, gu, gv⟩
  rw [← List.drop_drop, List.take_append_drop]
theorem opens_struct {α : Type} {P : Program} {t : TypeId} {fs : Array Field} {sz : Nat} {K : World → α → List Value → Prop} {G : α → Prop} (hu : P.underlying t = some (.struct fs)) (hz : P.cellsOf t = sz) (hf : OpensF P 0 sz fs.toList K G) : Opens P t K G := by
  intro H enc w fuel cs d ps h
  cases fuel with
  | zero => simp [DataW.trod] at h
  | succ m =>
    unfold DataW.trod at h
    simp only [hu] at h
    split at h
    case isFalse => cases h
    case isTrue hl =>
      obtain ⟨xs, hx, _⟩ := Option.map_eq_some_iff.1 h
      obtain ⟨x, hk, hg⟩ := hf H enc w m cs xs (by omega) hx
      exact ⟨x, by simpa using hk, hg⟩
theorem opens_iso {α β : Type} {P : Program} {t : TypeId} {d : Kd α} {G : α → Prop} (f : β → α) (g : α → β) (hfg : ∀ x, f (g x) = x) (h : Opens P t d.K G) : Opens P t (Kd.iso d f).K (fun y => G (f y)) := by
  intro H enc w fuel cs dd ps hh
  obtain ⟨x, hx, gx⟩ := h H enc w fuel cs dd ps hh
  exact ⟨g x, by show d.K w (f (g x)) cs; rw [hfg]; exact hx, by show G (f (g x)); rw [hfg]; exact gx⟩
theorem opens_arg {α : Type} {P : Program} {t : TypeId} {K : World → α → List Value → Prop} {G : α → Prop} (h : Opens P t K G) {H : Type} {enc : TypeId × Value → H} {w : World} {v : Value} {d : DataW H} {ps : List MemPlace} (ht : DataW.Trod enc P w 0 (fun _ => true) true t v d ps) :
    ∃ x, K w x v.cells.toList ∧ G x := by
  obtain ⟨fuel, hf⟩ := ht
  exact h H enc w fuel _ d ps hf
theorem agg_of {v : Value} {a b : Value} {l : List Value} (h : v.cells.toList = a :: b :: l) : v = .agg (a :: b :: l).toArray := by
  cases v <;> simp [Value.cells] at h
  rw [← h]
theorem trod_lt {H : Type} {enc : TypeId × Value → H} {P : Program} {w : World} {t : TypeId} {v : Value} {d : DataW H} {ps : List MemPlace} (ht : DataW.Trod enc P w 0 (fun _ => true) true t v d ps) : ∀ x ∈ ps, x.block < w.heap.size := by
  obtain ⟨m, hm⟩ := ht
  exact DataW.trod_lt m _ _ _ hm
end Go.Proofs.YtcpikafmclfcfaaDoor.Op
end
section
namespace Go.Proofs.YtcpikafmclfcfaaDoor.PV
open Go.RowKit Go.Proofs.YtcpikafmclfcfaaDoorW.PrintWords Go.Proofs.YtcpikafmclfcfaaDoorW.PrintLast Go.Proofs.YtcpikafmclfcfaaDoorW.PrintMore
attribute [local go_sem] max2_int min2_int max_two min_two max_three min_three max_four min_four   
set_option linter.unusedVariables false
set_option linter.unusedSimpArgs false
def errW : Option Int → Value
  | none => .nilIface
  | some c => .iface 0 (.int .i64 c)
theorem errW_none : errW none = .nilIface := rfl
theorem errW_some (c : Int) : errW (some c) = .iface 0 (.int .i64 c) := rfl
theorem info9 : (Tryd.prog.info? 9).map (fun i => (i.zero, i.size, i.bytes)) = some (some (.string ⟨#[]⟩), 1, 16) := by kernel_rfl
structure S23 where
  f0 : Int
  f1 : Int
  f2 : Int
def z23 : S23 := ⟨(0 : Int), (0 : Int), (0 : Int)⟩
def k23 : Kd S23 := Kd.iso (Kd.pair (Kd.int .i64) (Kd.pair (Kd.int .i64) (Kd.int .i64))) (fun x : S23 => (x.f0, x.f1, x.f2))
theorem k23_open {w : World} {x : S23} {cs : List Value} (h : k23.K w x cs) : cs = [.int .i64 x.f0, .int .i64 x.f1, .int .i64 x.f2] := by
  obtain ⟨_, _, rfl, rfl, ⟨_, _, rfl, rfl, rfl⟩⟩ := h
  exact rfl
def rd_T23 (xs : List S23) (i : Int) : S23 := xs.getD i.toNat z23
theorem at_T23 {w : World} {A : Option Addr} {n : Nat} {xs : List S23} (h : Kd.C k23 w A n xs) (i : Int) (h0 : 0 ≤ i) (h1 : i < n) : ∃ ad , A = some ad ∧ w.cell? (ad.add (i.toNat * 3)) = some (.int .i64 (rd_T23 xs i).f0) ∧ w.cell? ⟨(ad.add (i.toNat * 3)).block, (ad.add (i.toNat * 3)).off + 1, none⟩ = some (.int .i64 (rd_T23 xs i).f1) ∧ w.cell? ⟨(ad.add (i.toNat * 3)).block, (ad.add (i.toNat * 3)).off + 2, none⟩ = some (.int .i64 (rd_T23 xs i).f2) := by
  obtain ⟨ad, c, e, _, hK, hc0⟩ := Kd.C_get h z23 i h0 h1
  have hc : ∀ j u, c[j]? = some u → w.cell? (ad.add (i.toNat * 3 + j)) = some u := hc0
  obtain rfl := k23_open hK
  exact ⟨ad, e, hc 0 _ rfl, by rw [← add_field _ _ 1 (by omega)]; exact hc 1 _ rfl, by rw [← add_field _ _ 2 (by omega)]; exact hc 2 _ rfl⟩
end Go.Proofs.YtcpikafmclfcfaaDoor.PV
end
section
set_option linter.unusedVariables false
set_option linter.unusedSimpArgs false
namespace Go.Proofs.YtcpikafmclfcfaaDoor.Num
def isDig (c : UInt8) : Bool := decide (48 ≤ c.toNat) && decide (c.toNat ≤ 57)
theorem isDig_iff (c : UInt8) : isDig c = true ↔ 48 ≤ c.toNat ∧ c.toNat ≤ 57 := by simp [isDig]
def valA (a : Nat) : List UInt8 → Nat
  | [] => a
  | c :: l => valA (a * 10 + (c.toNat - 48)) l
def valD (l : List UInt8) : Nat := valA 0 l
theorem valA_append (a : Nat) (l : List UInt8) (c : UInt8) : valA a (l ++ [c]) = valA a l * 10 + (c.toNat - 48) := by
  induction l generalizing a with
  | nil => rfl
  | cons d l ih => exact ih _
theorem valD_snoc (l : List UInt8) (c : UInt8) : valD (l ++ [c]) = valD l * 10 + (c.toNat - 48) := valA_append 0 l c
theorem pow_ge (a d n : Nat) : a * 10 ^ (n + 1) ≤ (a * 10 + d) * 10 ^ n := by
  rw [Nat.pow_succ]
  generalize 10 ^ n = p
  have h2 := Nat.mul_le_mul_right p (Nat.le_add_right (a * 10) d)
  rw [Nat.mul_comm p 10, ← Nat.mul_assoc]
  exact h2
theorem valA_ge : ∀ (l : List UInt8) (a : Nat), a * 10 ^ l.length ≤ valA a l
  | [], a => by show a * 1 ≤ a; omega
  | c :: l, a => Nat.le_trans (pow_ge a (c.toNat - 48) l.length) (valA_ge l (a * 10 + (c.toNat - 48)))
theorem parse_digits (l : List UInt8) (h : ∀ c ∈ l, isDig c = true) : ∀ a, valA a l < 18446744073709551616 → Go.Lib.parseUint10 a l = .ok (valA a l) := by
  induction l with
  | nil => intro a ha; rfl
  | cons c l ih =>
    intro a ha
    have hc := (isDig_iff c).1 (h c (by simp))
    have hm := valA_ge l (a * 10 + (c.toNat - 48))
    have h1 : 1 ≤ 10 ^ l.length := Nat.one_le_pow _ _ (by decide)
    have h3 : valA a (c :: l) = valA (a * 10 + (c.toNat - 48)) l := rfl
    rw [h3] at ha ⊢
    have h2 : a * 10 + (c.toNat - 48) < 18446744073709551616 := by
      have : (a * 10 + (c.toNat - 48)) * 1 ≤ (a * 10 + (c.toNat - 48)) * 10 ^ l.length := Nat.mul_le_mul_left _ h1
      omega
    unfold Go.Lib.parseUint10
    rw [if_pos hc, if_neg (by omega), if_neg (by omega)]
    exact ih (fun d hd => h d (by simp [hd])) _ ha
theorem dec_digits (u : Nat) : (∀ c ∈ Go.Lib.decDigits u, isDig c = true) ∧ valD (Go.Lib.decDigits u) = u ∧ Go.Lib.decDigits u ≠ [] ∧ ((Go.Lib.decDigits u).length = 1 ∨ ∀ c, (Go.Lib.decDigits u).head? = some c → c.toNat ≠ 48) := by
  induction u using Nat.strongRecOn with
  | _ u ih =>
    by_cases h : u < 10
    · rw [Go.Lib.decDigits, dif_pos h]
      have e : (UInt8.ofNat (48 + u)).toNat = 48 + u := by simp; omega
      refine ⟨fun c hc => ?_, ?_, by simp, .inl rfl⟩
      · rw [List.mem_singleton.1 hc, isDig_iff, e]; omega
      · show 0 * 10 + ((UInt8.ofNat (48 + u)).toNat - 48) = u
        rw [e]; omega
    · obtain ⟨h1, h2, h3, h4⟩ := ih (u / 10) (by omega)
      rw [Go.Lib.decDigits, dif_neg h]
      have e : (UInt8.ofNat (48 + u % 10)).toNat = 48 + u % 10 := by simp; omega
      refine ⟨fun c hc => ?_, ?_, by simp, .inr fun c hc => ?_⟩
      · rcases List.mem_append.1 hc with hc | hc
        · exact h1 c hc
        · rw [List.mem_singleton.1 hc, isDig_iff, e]; omega
      · rw [valD_snoc, h2, e]; omega
      · rw [List.head?_append, Option.or_of_isSome (by cases hq : Go.Lib.decDigits (u / 10) with | nil => exact absurd hq h3 | cons x y => rfl)] at hc
        rcases h4 with h4 | h4
        · obtain ⟨d, hd⟩ := List.length_eq_one_iff.1 h4
          rw [hd] at hc h2 h1
          simp at hc
          subst hc
          have := (isDig_iff d).1 (h1 d (by simp))
          have h2' : 0 * 10 + (d.toNat - 48) = u / 10 := h2
          omega
        · exact h4 c hc
end Go.Proofs.YtcpikafmclfcfaaDoor.Num
end
section
set_option linter.unusedVariables false
set_option linter.unusedSimpArgs false
namespace Go.Proofs.YtcpikafmclfcfaaDoor.Vl
open Go.Proofs.YtcpikafmclfcfaaDoor.Num
def spl : List UInt8 → List (List UInt8)
  | [] => [[]]
  | x :: xs => if x = 44 then [] :: spl xs else match spl xs with
    | [] => [[x]]
    | h :: t => (x :: h) :: t
theorem spl_cons (x : UInt8) (xs h : List UInt8) (t : List (List UInt8)) (hx : x ≠ 44) (e : spl xs = h :: t) : spl (x :: xs) = (x :: h) :: t := by
  rw [spl, if_neg hx, e]
theorem spl_idx (r : List UInt8) : (Go.Lib.indexByte r 44 = -1 ∧ spl r = [r]) ∨
    ∃ i : Nat, Go.Lib.indexByte r 44 = i ∧ i < r.length ∧ spl r = r.take i :: spl (r.drop (i + 1)) := by
  induction r with
  | nil => exact .inl ⟨rfl, rfl⟩
  | cons x xs ih =>
    by_cases hx : x = 44
    · subst hx
      exact .inr ⟨0, rfl, by simp, by rw [spl, if_pos rfl]; simp⟩
    · have hb : (x == (44 : UInt8)) = false := by simpa using hx
      rcases ih with ⟨h1, h2⟩ | ⟨i, h1, h2, h3⟩
      · exact .inl ⟨by simp [Go.Lib.indexByte, hb, h1], spl_cons x xs _ _ hx h2⟩
      · refine .inr ⟨i + 1, ?_, by simp; omega, ?_⟩
        · have hn : ((i : Int) == -1) = false := by simp
          simp only [Go.Lib.indexByte, hb, h1, hn, Bool.false_eq_true, ↓reduceIte]; rfl
        · rw [spl_cons x xs _ _ hx h3]; simp
theorem spl_plain (l : List UInt8) (h : ∀ c ∈ l, c ≠ 44) : spl l = [l] := by
  induction l with
  | nil => rfl
  | cons x xs ih =>
    exact spl_cons x xs _ _ (h x (by simp)) (ih (fun c hc => h c (by simp [hc])))
theorem spl_append (a r : List UInt8) (h : ∀ c ∈ a, c ≠ 44) : spl (a ++ 44 :: r) = a :: spl r := by
  induction a with
  | nil => simp [spl]
  | cons x xs ih =>
    rw [List.cons_append]
    exact spl_cons x _ _ _ (h x (by simp)) (ih (fun c hc => h c (by simp [hc])))
theorem spl_join : ∀ (t : List (List UInt8)) (a : List UInt8), (∀ p ∈ a :: t, ∀ c ∈ p, c ≠ 44) → spl (Go.Lib.join (a :: t) [44]) = a :: t
  | [], a, h => by
    have : Go.Lib.join [a] [44] = a := by unfold Go.Lib.join; simp [List.intercalate]
    rw [this]; exact spl_plain a (h a (by simp))
  | b :: t, a, h => by
    have e : Go.Lib.join (a :: b :: t) [44] = a ++ 44 :: Go.Lib.join (b :: t) [44] := by unfold Go.Lib.join; simp [List.intercalate]
    rw [e, spl_append a _ (h a (by simp)), spl_join t b (fun p hp => h p (List.mem_cons_of_mem _ hp))]
def cutL (p : List UInt8) : List UInt8 × List UInt8 := if Go.Lib.indexByte p 61 < 0 then (p, []) else (p.take (Go.Lib.indexByte p 61).toNat, p.drop ((Go.Lib.indexByte p 61).toNat + 1))
def nm : Nat → List UInt8
  | 0 => [99, 112, 117]
  | 1 => [109, 101, 109]
  | _ => [103, 112, 117]
def idx (l : List UInt8) : Int := if l = nm 0 then 0 else if l = nm 1 then 1 else if l = nm 2 then 2 else -1
def atoiVal (l : List UInt8) : Int := match Go.Lib.atoiAll l with | .ok v => v | .range => Go.Lib.atoiSat l | _ => 0
def atoiOk (l : List UInt8) : Bool := match Go.Lib.atoiAll l with | .ok _ => true | _ => false
def put (v : Int × Int × Int) (i : Int) (n : Int) : Int × Int × Int := if i = 0 then (n, v.2.1, v.2.2) else if i = 1 then (v.1, n, v.2.2) else (v.1, v.2.1, n)
def stepP (v : Int × Int × Int) (p : List UInt8) : Option (Int × Int × Int) := if idx (cutL p).1 < 0 ∨ atoiOk (cutL p).2 = false then none else some (put v (idx (cutL p).1) (atoiVal (cutL p).2))
def foldP (v : Int × Int × Int) : List (List UInt8) → Option (Int × Int × Int)
  | [] => some v
  | p :: l => (stepP v p).bind fun u => foldP u l
def okN (a : Int) : Bool := decide (0 ≤ a) && decide (a ≤ 1073741824)
def rightB (a b c : Int) : Bool := okN a && okN b && okN c
def partL (k : Nat) (n : Int) : List UInt8 := nm k ++ 61 :: Go.Lib.itoa n
def one (k : Nat) (n : Int) : List (List UInt8) := if n = 0 then [] else [partL k n]
def partsL (a b c : Int) : List (List UInt8) := one 0 a ++ one 1 b ++ one 2 c
def noneL : List UInt8 := [110, 111, 110, 101]
def fmtL (a b c : Int) : List UInt8 := if a = 0 ∧ b = 0 ∧ c = 0 then noneL else Go.Lib.join (partsL a b c) [44]
def parseL (s : List UInt8) : Option (Int × Int × Int) := if s = noneL then some (0, 0, 0) else (foldP (0, 0, 0) (spl s)).bind fun v => if rightB v.1 v.2.1 v.2.2 = true ∧ fmtL v.1 v.2.1 v.2.2 = s then some v else none
theorem itoa_chars (n : Int) : ∀ c ∈ Go.Lib.itoa n, c = 45 ∨ isDig c = true := by
  intro c hc
  unfold Go.Lib.itoa at hc
  split at hc
  · rcases List.mem_cons.1 hc with h | h
    · exact .inl h
    · exact .inr ((dec_digits _).1 c h)
  · exact .inr ((dec_digits _).1 c hc)
theorem itoa_no (n : Int) (x : UInt8) (hx : x ≠ 45) (hd : isDig x = false) : ∀ c ∈ Go.Lib.itoa n, c ≠ x := by
  intro c hc h
  rcases itoa_chars n c hc with h1 | h1
  · exact hx (h ▸ h1)
  · rw [h, hd] at h1; cases h1
theorem part_no (k : Nat) (n : Int) : ∀ c ∈ partL k n, c ≠ 44 := by
  intro c hc
  unfold partL at hc
  rcases List.mem_append.1 hc with h | h
  · match k, h with
    | 0, h => simp [nm] at h; rcases h with rfl | rfl | rfl <;> decide
    | 1, h => simp [nm] at h; rcases h with rfl | rfl | rfl <;> decide
    | (k + 2), h => simp [nm] at h; rcases h with rfl | rfl | rfl <;> decide
  · rcases List.mem_cons.1 h with rfl | h
    · decide
    · exact itoa_no n 44 (by decide) (by decide) c h
theorem cut_part (k : Nat) (n : Int) : cutL (partL k n) = (nm k, Go.Lib.itoa n) := by
  have : Go.Lib.indexByte (partL k n) 61 = 3 := by
    match k with
    | 0 => simp [partL, nm, Go.Lib.indexByte]
    | 1 => simp [partL, nm, Go.Lib.indexByte]
    | (k + 2) => simp [partL, nm, Go.Lib.indexByte]
  unfold cutL
  rw [this, if_neg (by omega)]
  match k with
  | 0 => simp [partL, nm]
  | 1 => simp [partL, nm]
  | (k + 2) => simp [partL, nm]
theorem idx_nm (k : Nat) (h : k < 3) : idx (nm k) = k := by
  have : k = 0 ∨ k = 1 ∨ k = 2 := by omega
  rcases this with rfl | rfl | rfl <;> rfl
theorem atoi_itoa (n : Int) (h1 : -9223372036854775808 ≤ n) (h2 : n ≤ 9223372036854775807) : Go.Lib.atoiAll (Go.Lib.itoa n) = .ok n := by
  have mag : ∀ u : Nat, u < 18446744073709551616 → Go.Lib.parseMag (Go.Lib.decDigits u) = .ok u := by
    intro u hu
    obtain ⟨d1, d2, d3, _⟩ := dec_digits u
    unfold Go.Lib.parseMag
    have d2' : valA 0 (Go.Lib.decDigits u) = u := d2
    rw [if_neg d3, parse_digits _ d1 0 (by rw [d2']; exact hu), d2']
  unfold Go.Lib.itoa
  by_cases hn : n < 0
  · rw [if_pos hn]
    unfold Go.Lib.atoiAll
    simp only
    rw [if_pos (by decide), mag _ (by omega)]
    simp only
    rw [if_neg (fun h => h.1 (by decide)), if_neg (by omega), if_pos (by decide)]
    congr 1; omega
  · rw [if_neg hn]
    obtain ⟨d1, d2, d3, _⟩ := dec_digits n.toNat
    have hm := mag n.toNat (by omega)
    cases hd : Go.Lib.decDigits n.toNat with
    | nil => exact absurd hd d3
    | cons c r =>
      rw [hd] at hm d1
      have hc := (isDig_iff c).1 (d1 c (by simp))
      unfold Go.Lib.atoiAll
      simp only
      rw [if_neg (by omega), hm]
      simp only
      rw [if_neg (by omega), if_neg (by omega), if_neg (by omega)]
      congr 1; omega
theorem step_part (v : Int × Int × Int) (k : Nat) (hk : k < 3) (n : Int) (h1 : -9223372036854775808 ≤ n) (h2 : n ≤ 9223372036854775807) : stepP v (partL k n) = some (put v k n) := by
  unfold stepP
  rw [cut_part]
  simp only
  have ha : atoiOk (Go.Lib.itoa n) = true := by unfold atoiOk; rw [atoi_itoa n h1 h2]
  have hv : atoiVal (Go.Lib.itoa n) = n := by unfold atoiVal; rw [atoi_itoa n h1 h2]
  rw [idx_nm k hk, ha, hv, if_neg (by simp)]
abbrev I64 (n : Int) : Prop := -9223372036854775808 ≤ n ∧ n ≤ 9223372036854775807
theorem fold_parts (a b c : Int) (ha : I64 a) (hb : I64 b) (hc : I64 c) : foldP (0, 0, 0) (partsL a b c) = some (a, b, c) := by
  unfold partsL one
  by_cases h0 : a = 0 <;> by_cases h1 : b = 0 <;> by_cases h2 : c = 0 <;>
    simp [h0, h1, h2, foldP, step_part _ 0 (by omega) a ha.1 ha.2, step_part _ 1 (by omega) b hb.1 hb.2, step_part _ 2 (by omega) c hc.1 hc.2, put]
theorem parts_ne (a b c : Int) (h : ¬ (a = 0 ∧ b = 0 ∧ c = 0)) : partsL a b c ≠ [] := by
  unfold partsL one
  by_cases h0 : a = 0 <;> by_cases h1 : b = 0 <;> by_cases h2 : c = 0 <;> simp [h0, h1, h2] at h ⊢
theorem parts_no (a b c : Int) : ∀ p ∈ partsL a b c, ∀ x ∈ p, x ≠ 44 := by
  intro p hp
  unfold partsL one at hp
  simp only [List.mem_append] at hp
  rcases hp with (hp | hp) | hp
  all_goals
    split at hp
    · cases hp
    · rw [List.mem_singleton.1 hp]; exact part_no _ _
theorem spl_fmt (a b c : Int) (h : ¬ (a = 0 ∧ b = 0 ∧ c = 0)) : spl (fmtL a b c) = partsL a b c := by
  unfold fmtL
  rw [if_neg h]
  have h1 := parts_ne a b c h
  have h2 := parts_no a b c
  cases hp : partsL a b c with
  | nil => exact absurd hp h1
  | cons x t => rw [hp] at h2; exact spl_join t x h2
theorem fmt_fold (a b c : Int) (h : ¬ (a = 0 ∧ b = 0 ∧ c = 0)) (ha : I64 a) (hb : I64 b) (hc : I64 c) : foldP (0, 0, 0) (spl (fmtL a b c)) = some (a, b, c) := by
  rw [spl_fmt a b c h, fold_parts a b c ha hb hc]
theorem fmt_ne_none (a b c : Int) (h : ¬ (a = 0 ∧ b = 0 ∧ c = 0)) (ha : I64 a) (hb : I64 b) (hc : I64 c) : fmtL a b c ≠ noneL := by
  intro e
  have h1 := fmt_fold a b c h ha hb hc
  rw [e] at h1
  have h2 : foldP (0, 0, 0) (spl noneL) = none := by decide
  rw [h2] at h1; cases h1
theorem parse_fmt (a b c : Int) (ha : I64 a) (hb : I64 b) (hc : I64 c) : parseL (fmtL a b c) = if rightB a b c = true then some (a, b, c) else none := by
  unfold parseL
  by_cases h : a = 0 ∧ b = 0 ∧ c = 0
  · obtain ⟨rfl, rfl, rfl⟩ := h
    rfl
  · rw [if_neg (fmt_ne_none a b c h ha hb hc), fmt_fold a b c h ha hb hc]
    simp
theorem parse_sound {s : List UInt8} {v : Int × Int × Int} (h : parseL s = some v) : rightB v.1 v.2.1 v.2.2 = true ∧ fmtL v.1 v.2.1 v.2.2 = s := by
  unfold parseL at h
  split at h
  · rename_i hs; cases h; exact ⟨rfl, hs.symm⟩
  · obtain ⟨u, hu, h⟩ := Option.bind_eq_some_iff.1 h
    split at h
    · rename_i hr; cases h; exact hr
    · cases h
theorem right_i64 {a b c : Int} (h : rightB a b c = true) : I64 a ∧ I64 b ∧ I64 c := by
  simp only [rightB, okN, Bool.and_eq_true, decide_eq_true_eq] at h
  unfold I64; omega
theorem parse_iff (s : List UInt8) (a b c : Int) : parseL s = some (a, b, c) ↔ rightB a b c = true ∧ fmtL a b c = s := by
  constructor
  · intro h; exact parse_sound h
  · rintro ⟨hr, rfl⟩
    obtain ⟨ha, hb, hc⟩ := right_i64 hr
    rw [parse_fmt a b c ha hb hc, if_pos hr]
end Go.Proofs.YtcpikafmclfcfaaDoor.Vl
end
section
namespace Go.Proofs.YtcpikafmclfcfaaDoor.Vc
open Go.RowKit Go.Proofs.YtcpikafmclfcfaaDoorW.PrintWords Go.Proofs.YtcpikafmclfcfaaDoorW.PrintLast Go.Proofs.YtcpikafmclfcfaaDoorW.PrintMore Go.Proofs.YtcpikafmclfcfaaDoor.PV Go.Proofs.YtcpikafmclfcfaaDoor.Vl
set_option linter.unusedVariables false
set_option linter.unusedSimpArgs false
abbrev vecV (a b c : Int) : Value := .agg #[.int .i64 a, .int .i64 b, .int .i64 c]
theorem parts_calls (a b c : Int) (w : World) : Calls Tryd.prog 37 #[vecV a b c] w fun e w' => e = .returned (vecV a b c) ∧ Below w.heap.size w w' := by
  have hu23 := Tryd.underlying23
  have hu51 := Tryd.underlying51
  go_enter Tryd.func37, Tryd.ntmps37
  go_wp2
  refine bodyPost_ret (v := vecV a b c) (by simp [results, Tryd.results37, go_sem, hu51]) rfl ⟨rfl, ?_⟩
  exact below_alloc (below_alloc (Below.refl _ _) _) _
theorem whole_calls (a b c : Int) (w : World) : Calls Tryd.prog 36 #[vecV a b c] w fun e w' => e = .returned (vecV a b c) ∧ Below w.heap.size w w' := by
  have hu23 := Tryd.underlying23
  have hu51 := Tryd.underlying51
  go_enter Tryd.func36, Tryd.ntmps36
  go_wp2
  refine bodyPost_ret (v := vecV a b c) (by simp [results, Tryd.results36, go_sem, hu23]) rfl ⟨rfl, ?_⟩
  exact below_alloc (below_alloc (Below.refl _ _) _) _
abbrev namesV : Value := .agg #[.string ⟨#[99, 112, 117]⟩, .string ⟨#[109, 101, 109]⟩, .string ⟨#[103, 112, 117]⟩]
theorem names_calls (w : World) : Calls Tryd.prog 33 #[] w fun e w' => e = .returned namesV ∧ Below w.heap.size w w' := by
  have hu57 := Tryd.underlying57
  go_enter Tryd.func33, Tryd.ntmps33
  go_wp2
  refine bodyPost_ret (v := namesV) (by simp [results, Tryd.results33, go_sem, hu57]) rfl ⟨rfl, ?_⟩
  exact below_alloc (Below.refl _ _) _
theorem ix0 (x y z : Value) (w : World) : (Instr.index 51 (.agg #[x, y, z]) (.int .i64 0)).run Tryd.prog w = .ok x w := by kernel_rfl
theorem ix1 (x y z : Value) (w : World) : (Instr.index 51 (.agg #[x, y, z]) (.int .i64 1)).run Tryd.prog w = .ok y w := by kernel_rfl
theorem ix2 (x y z : Value) (w : World) : (Instr.index 51 (.agg #[x, y, z]) (.int .i64 2)).run Tryd.prog w = .ok z w := by kernel_rfl
set_option maxRecDepth 100000 in
theorem Right_calls (a b c : Int) (w : World) : Calls Tryd.prog 15 #[vecV a b c] w fun e w' => e = .returned (.bool (rightB a b c)) ∧ Below w.heap.size w w' := by
  have hu23 := Tryd.underlying23
  have i0 := fun w => ix0 (.int .i64 a) (.int .i64 b) (.int .i64 c) w
  have i1 := fun w => ix1 (.int .i64 a) (.int .i64 b) (.int .i64 c) w
  have i2 := fun w => ix2 (.int .i64 a) (.int .i64 b) (.int .i64 c) w
  go_enter Tryd.func15, Tryd.ntmps15
  go_wp2_with (refine (parts_calls a b c _).mono ?_; rintro e w1 ⟨rfl, hb⟩)
  have HB := Aside0.mk (below_then (below_alloc (Below.refl w.heap.size w) _) (below_alloc (Below.refl w.heap.size w) _).size hb)
  clear hb
  refine wp_loop_rounds 4 ?_
  repeat any_goals (rw [rounds_succ]; go_wp2)
  all_goals
    go_ret
    refine ⟨?_, HB.out⟩
    have e : ∀ u v : Bool, u = v → Ending.returned (Value.bool u) = .returned (Value.bool v) := fun _ _ h => by rw [h]
    refine e _ _ ?_
    rw [Bool.eq_iff_iff]
    simp only [rightB, okN, Bool.and_eq_true, decide_eq_true_eq]
    simp
    try omega
end Go.Proofs.YtcpikafmclfcfaaDoor.Vc
end
section
set_option linter.unusedVariables false
set_option linter.unusedSimpArgs false
namespace Go.Proofs.YtcpikafmclfcfaaDoor.Txt
open Go.RowKit Go.Proofs.YtcpikafmclfcfaaDoorW.PrintWords
def L (s : ByteArray) : List UInt8 := s.data.toList
theorem L_length (s : ByteArray) : (L s).length = s.size := by show s.data.toList.length = s.data.size; exact Array.length_toList
theorem L_inj {s t : ByteArray} (h : L s = L t) : s = t := by
  cases s; cases t; congr 1; exact Array.toList_inj.1 h
theorem L_mk (l : List UInt8) : L ⟨l.toArray⟩ = l := by simp [L]
theorem toList_L (s : ByteArray) : s.toList = L s := ByteArray.toList_eq s
theorem extract_L (s : ByteArray) (a b : Nat) : L (s.extract a b) = ((L s).drop a).take (b - a) := Go.Lib.extract_data s a b
def run (f : UInt8 → Bool) (l : List UInt8) (p : Nat) : Nat := p + ((l.drop p).takeWhile f).length
end Go.Proofs.YtcpikafmclfcfaaDoor.Txt
end
section
namespace Go.Proofs.YtcpikafmclfcfaaDoor.Vc
open Go.RowKit Go.Proofs.YtcpikafmclfcfaaDoor.Lib Go.Proofs.YtcpikafmclfcfaaDoorW.PrintWords Go.Proofs.YtcpikafmclfcfaaDoorW.PrintLast Go.Proofs.YtcpikafmclfcfaaDoorW.PrintMore Go.Proofs.YtcpikafmclfcfaaDoor.PV Go.Proofs.YtcpikafmclfcfaaDoor.Vl
set_option linter.unusedVariables false
set_option linter.unusedSimpArgs false
def mkB (l : List UInt8) : ByteArray := ⟨l.toArray⟩
def pt (a b c : Int) : Nat → Int
  | 0 => a
  | 1 => b
  | _ => c
def itB (n : Int) : ByteArray := ⟨(Go.Lib.itoa n).toArray⟩
theorem itB_f (n : Int) (h : I64 n) : strconv_Itoa.f n = some (itB n) := by unfold strconv_Itoa.f; rw [if_pos h]; rfl
def nmB (k : Nat) : ByteArray := ⟨(nm k).toArray⟩
def partB (k : Nat) (n : Int) : ByteArray := nmB k ++ ⟨#[61]⟩ ++ itB n
def preB (a b c : Int) : Nat → List ByteArray
  | 0 => []
  | k + 1 => preB a b c k ++ if pt a b c k = 0 then [] else [partB k (pt a b c k)]
theorem preB_len (a b c : Int) : ∀ k, (preB a b c k).length ≤ k
  | 0 => Nat.le_refl 0
  | k + 1 => by
    have := preB_len a b c k
    unfold preB
    rw [List.length_append]
    split <;> simp <;> omega
theorem nm_len (k : Nat) : (nm k).length = 3 := by
  match k with
  | 0 => rfl
  | 1 => rfl
  | _ + 2 => rfl
theorem nmB_size (k : Nat) : (nmB k).size = 3 := nm_len k
theorem itB_size (n : Int) (h : I64 n) : (itB n).size ≤ 30 := by
  show (Go.Lib.itoa n).toArray.size ≤ 30
  rw [List.size_toArray]
  have hd : ∀ u : Nat, u < 10 ^ 20 → (Go.Lib.decDigits u).length ≤ 25 := by
    intro u hu
    rw [Go.Lib.decDigits_length]
    have : ∀ (k n : Nat), n < 10 ^ (k + 1) → Go.Lib.nDigits n ≤ k + 1 := by
      intro k
      induction k with
      | zero => intro n h; rw [Go.Lib.nDigits_small (by simpa using h)]; omega
      | succ k ih =>
        intro n h
        by_cases hn : n < 10
        · rw [Go.Lib.nDigits_small hn]; omega
        · rw [Go.Lib.nDigits_big hn]
          have := ih (n / 10) (by rw [Nat.pow_succ] at h; omega)
          omega
    have := this 19 u hu
    omega
  unfold Go.Lib.itoa
  split
  · have := hd n.natAbs (by unfold I64 at h; omega)
    simp only [List.length_cons]; omega
  · have := hd n.toNat (by unfold I64 at h; omega)
    omega
theorem L_partB (k : Nat) (n : Int) : (partB k n).data.toList = partL k n := by
  unfold partB partL nmB itB
  simp
theorem preB_all (a b c : Int) : (preB a b c 3).map (·.data.toList) = partsL a b c := by
  simp only [preB, pt, partsL, one, List.nil_append, List.map_append]
  congr 1
  · congr 1
    · split <;> simp [L_partB]
    · split <;> simp [L_partB]
  · split <;> simp [L_partB]
theorem pix (a b c : Int) (k : Nat) (h : k < 3) (w : World) : (Instr.index 51 (vecV a b c) (.int .i64 k)).run Tryd.prog w = .ok (.int .i64 (pt a b c k)) w := by
  have : k = 0 ∨ k = 1 ∨ k = 2 := by omega
  rcases this with rfl | rfl | rfl
  · exact ix0 _ _ _ w
  · exact ix1 _ _ _ w
  · exact ix2 _ _ _ w
theorem nix0 (w : World) : (Instr.index 57 namesV (.int .i64 0)).run Tryd.prog w = .ok (.string ⟨#[99, 112, 117]⟩) w := by kernel_rfl
theorem nix1 (w : World) : (Instr.index 57 namesV (.int .i64 1)).run Tryd.prog w = .ok (.string ⟨#[109, 101, 109]⟩) w := by kernel_rfl
theorem nix2 (w : World) : (Instr.index 57 namesV (.int .i64 2)).run Tryd.prog w = .ok (.string ⟨#[103, 112, 117]⟩) w := by kernel_rfl
theorem nix (k : Nat) (h : k < 3) (w : World) : (Instr.index 57 namesV (.int .i64 k)).run Tryd.prog w = .ok (.string (nmB k)) w := by
  have : k = 0 ∨ k = 1 ∨ k = 2 := by omega
  rcases this with rfl | rfl | rfl
  · exact nix0 w
  · exact nix1 w
  · exact nix2 w
theorem struct_eq (a b c x y z : Int) (w : World) : (binOp .eql 23 (.agg #[.int .i64 a, .int .i64 b, .int .i64 c]) (.agg #[.int .i64 x, .int .i64 y, .int .i64 z])).run Tryd.prog w = .ok (.bool (decide (a = x) && decide (b = y) && decide (c = z))) w := by
  have hu23 := Tryd.underlying23
  have hu3 := Tryd.underlying3
  rw [run_eql_struct]
  go_simp
  by_cases h1 : a = x <;> by_cases h2 : b = y <;> by_cases h3 : c = z <;> simp [h1, h2, h3, Result.andThen]
theorem struct_ne (a b c : Int) (h : ¬ (a = 0 ∧ b = 0 ∧ c = 0)) (w : World) : (binOp .eql 23 (.agg #[.int .i64 a, .int .i64 b, .int .i64 c]) (.agg #[.int .i64 0, .int .i64 0, .int .i64 0])).run Tryd.prog w = .ok (.bool false) w := by
  rw [struct_eq]
  congr 2
  by_cases h1 : a = 0 <;> by_cases h2 : b = 0 <;> by_cases h3 : c = 0 <;> simp [h1, h2, h3] at h ⊢
theorem join_f (a b c : Int) (h : ¬ (a = 0 ∧ b = 0 ∧ c = 0)) (ha : I64 a) (hb : I64 b) (hc : I64 c) : strings_Join.f (preB a b c 3) ⟨#[44]⟩ = some (mkB (fmtL a b c)) := by
  unfold strings_Join.f fmtL mkB
  rw [if_neg h, preB_all, if_pos]
  have hl := preB_len a b c 3
  refine ⟨by omega, ?_⟩
  have h1 : ∀ k n, I64 n → (partL k n).length ≤ 40 := by
    intro k n hn
    have := itB_size n hn
    have h3 : (itB n).size = (Go.Lib.itoa n).length := by show (Go.Lib.itoa n).toArray.size = _; rw [List.size_toArray]
    unfold partL
    rw [List.length_append, nm_len, List.length_cons]
    omega
  have h2 : ∀ p ∈ partsL a b c, p.length ≤ 40 := by
    intro p hp
    unfold partsL one at hp
    simp only [List.mem_append] at hp
    rcases hp with (hp | hp) | hp
    all_goals
      split at hp
      · cases hp
      · rw [List.mem_singleton.1 hp]; exact h1 _ _ (by assumption)
  have h3 : (partsL a b c).length ≤ 3 := by rw [← preB_all, List.length_map]; exact hl
  generalize partsL a b c = l at h2 h3
  unfold Go.Lib.join
  match l, h2, h3 with
  | [], _, _ => simp [List.intercalate]
  | [x], h2, _ => have := h2 x (by simp); simp [List.intercalate]; omega
  | [x, y], h2, _ => have := h2 x (by simp); have := h2 y (by simp); simp [List.intercalate]; omega
  | [x, y, z], h2, _ => have := h2 x (by simp); have := h2 y (by simp); have := h2 z (by simp); simp [List.intercalate]; omega
set_option maxHeartbeats 2000000 in
set_option maxRecDepth 100000 in
theorem Format_calls (a b c : Int) (w : World) (ha : I64 a) (hb : I64 b) (hc : I64 c) (hG : Glob w) : Calls Tryd.prog 12 #[vecV a b c] w fun e w' => e = .returned (.string (mkB (fmtL a b c))) ∧ Below w.heap.size w w' := by
  have hu23 := Tryd.underlying23
  have hu51 := Tryd.underlying51
  by_cases h0 : a = 0 ∧ b = 0 ∧ c = 0
  · obtain ⟨rfl, rfl, rfl⟩ := h0
    go_enter Tryd.func12, Tryd.ntmps12
    go_wp2
    go_ret
    exact ⟨rfl, below_alloc (Below.refl _ _) _⟩
  · have HJ := Aside0.mk (join_f a b c h0 ha hb hc)
    have HPI := Aside0.mk (show ∀ k, I64 (pt a b c k) from fun k => by match k with | 0 => exact ha | 1 => exact hb | _ + 2 => exact hc)
    have heq := struct_ne a b c h0
    clear ha hb hc
    go_enter Tryd.func12, Tryd.ntmps12
    go_wp2_with fail
    refine (parts_calls a b c _).mono ?_
    rintro e w1 ⟨rfl, hb⟩
    have HB := Aside0.mk (below_then (below_alloc (Below.refl w.heap.size w) _) (below_alloc (Below.refl w.heap.size w) _).size hb)
    clear hb h0
    go_wp2
    go_loopw [3, 11] (fun v3 v11 wr => ∃ k : Nat, k ≤ 3 ∧ v11 = .int .i64 k ∧ Aside0 (Kd.R Kd.string 9 wr w.heap.size (fun _ => True) v3 (preB a b c k)) ∧ Aside0 (Below w.heap.size w wr)) (fun _ v11 _ => 3 - (intOf v11).toNat)
    case atStart => exact ⟨0, by omega, rfl, ⟨Kd.R_nil _ _ _ _ _⟩, HB⟩
    case round =>
      clear HB
      obtain ⟨k, hk, rfl, HR, HB⟩ := hrel
      by_cases hlt : k < 3
      · have hix := pix a b c k hlt
        have hnx := nix k hlt
        have HI := Aside0.mk (HPI.out k)
        have hstep : intOf (.int .i64 (k + 1 : Nat)) = ((k + 1 : Nat) : Int) := rfl
        by_cases hz : pt a b c k = 0
        · have dz : (pt a b c k != 0) = false := by simp [hz]
          have HZ := Aside0.mk (show preB a b c (k + 1) = preB a b c k by rw [preB, if_pos hz, List.append_nil])
          go_wp2
          go_roundw
          case rel => exact ⟨k + 1, by omega, by simp, ⟨by rw [HZ.out]; exact HR.out⟩, HB⟩
          case measure => simp [intOf]; omega
        · have dz : (pt a b c k != 0) = true := by simp [hz]
          have HZ := Aside0.mk (show preB a b c (k + 1) = preB a b c k ++ [partB k (pt a b c k)] by rw [preB, if_neg hz])
          have hs1 : (9223372036854775807 < (nmB k).size + 1) = False := eq_false (by rw [nmB_size]; omega)
          have hs2 : (9223372036854775807 < (nmB k).size + 1 + (itB (pt a b c k)).size) = False := eq_false (by have := itB_size _ HI.out; rw [nmB_size]; omega)
          clear hz
          go_wp2_with fail
          refine start_ (n := 11) (S := fun _ => True) (ds := []) #[false, false, false, false, false, false, false, false, false, false, false] (by kernel_rfl) rfl rfl trivial (fun hHeld => ?_)
          refine pure_ (i := 0) (N := some 17) (v := ?_) (a' := ?_) #[true, false, false, false, false, false, false, false, false, false, false] rfl rfl (by kernel_rfl) (fun _ _ _ h => h) (Or.inl ⟨by rfl, ?_⟩) ?_ ?_
          rotate_left
          · intro w'
            go_simp
            with_reducible rfl
          rotate_left
          · simp only [Act.put, List.setIfInBounds_toArray, List.set_cons_zero, List.set_cons_succ, i64_w, i32_w]
            rfl
          refine pure_ (i := 2) (N := some 19) (v := ?_) (a' := ?_) #[true, false, true, false, false, false, false, false, false, false, false] rfl rfl (by kernel_rfl) (fun _ _ _ h => h) (Or.inl ⟨by rfl, ?_⟩) ?_ ?_
          rotate_left
          · intro w'
            go_simp
            with_reducible rfl
          rotate_left
          · simp only [Act.put, List.setIfInBounds_toArray, List.set_cons_zero, List.set_cons_succ, i64_w, i32_w]
            rfl
          refine pure_ (i := 5) (N := some 22) (v := ?_) (a' := ?_) #[true, false, true, false, false, true, false, false, false, false, false] rfl rfl (by kernel_rfl) (fun _ _ _ h => h) (Or.inl ⟨by rfl, ?_⟩) ?_ ?_
          rotate_left
          · intro w'
            go_simp
            with_reducible rfl
          rotate_left
          · simp only [Act.put, List.setIfInBounds_toArray, List.set_cons_zero, List.set_cons_succ, i64_w, i32_w]
            rfl
          refine one_ (i := 1) (N := some 18) #[true, true, true, false, false, true, false, false, false, false, false] rfl rfl (by kernel_rfl) (by decide) (fun K hK => ?_)
          refine goes_ Tryd.func33 (by kernel_rfl) rfl #[] (by rfl) rfl rfl (by (try simp only [List.map_toArray, List.map_cons, List.map_nil]); first | done | rfl) ?_
          refine (names_calls _).mono ?_
          rintro e w2 ⟨rfl, hb⟩
          have HR2 := Aside0.mk (Kd.R_below (Kd.R_drew HR.out) hb)
          have HB2 := Aside0.mk (below_then (below_drew HB.out) (below_drew HB.out).size hb)
          clear hb
          refine ⟨_, rfl, ?_⟩
          refine hK.out _ _ trivial (fun hHeld => ?_)
          clear hK K
          refine norm_ (a' := ?_) ?_ ?_
          rotate_left
          · show Act.put _ (some 18) _ = _
            simp only [Act.put, List.setIfInBounds_toArray, List.set_cons_zero, List.set_cons_succ, i64_w, i32_w]
            rfl
          refine pure_ (i := 3) (N := some 20) (v := ?_) (a' := ?_) #[true, true, true, true, false, true, false, false, false, false, false] rfl rfl (by kernel_rfl) (fun _ _ _ h => h) (Or.inl ⟨by rfl, ?_⟩) ?_ ?_
          rotate_left
          · intro w'
            go_simp
            with_reducible rfl
          rotate_left
          · simp only [Act.put, List.setIfInBounds_toArray, List.set_cons_zero, List.set_cons_succ, i64_w, i32_w]
            rfl
          refine pure_ (i := 4) (N := some 21) (v := ?_) (a' := ?_) #[true, true, true, true, true, true, false, false, false, false, false] rfl rfl (by kernel_rfl) (fun _ _ _ h => h) (Or.inl ⟨by rfl, ?_⟩) ?_ ?_
          rotate_left
          · intro w'
            go_simp
            with_reducible rfl
          rotate_left
          · simp only [Act.put, List.setIfInBounds_toArray, List.set_cons_zero, List.set_cons_succ, i64_w, i32_w]
            rfl
          refine one_ (i := 6) (N := some 23) #[true, true, true, true, true, true, true, false, false, false, false] rfl rfl (by kernel_rfl) (by decide) (fun K hK => ?_)
          refine goes_ Tryd.func38 (by kernel_rfl) rfl #[.int .i64 (pt a b c k)] (by rfl) rfl rfl (by (try simp only [List.map_toArray, List.map_cons, List.map_nil]); first | done | rfl) ?_
          refine (strconv_Itoa.calls (pt a b c k) (itB (pt a b c k)) _ (itB_f _ HI.out) (hG.below HB2.out)).mono ?_
          rintro e w3 ⟨rfl, hb⟩
          have HR3 := Aside0.mk (Kd.R_below HR2.out hb)
          have HB3 := Aside0.mk (below_then HB2.out HB2.out.size hb)
          clear hb
          refine ⟨_, rfl, ?_⟩
          refine hK.out _ _ trivial (fun hHeld => ?_)
          clear hK K
          refine norm_ (a' := ?_) ?_ ?_
          rotate_left
          · show Act.put _ (some 23) _ = _
            simp only [Act.put, List.setIfInBounds_toArray, List.set_cons_zero, List.set_cons_succ, i64_w, i32_w]
            rfl
          refine pure_ (i := 7) (N := some 24) (v := ?_) (a' := ?_) #[true, true, true, true, true, true, true, true, false, false, false] rfl rfl (by kernel_rfl) (fun _ _ _ h => h) (Or.inl ⟨by rfl, ?_⟩) ?_ ?_
          rotate_left
          · intro w'
            go_simp
            with_reducible rfl
          rotate_left
          · simp only [Act.put, List.setIfInBounds_toArray, List.set_cons_zero, List.set_cons_succ, i64_w, i32_w]
            rfl
          refine one_ (i := 8) (N := some 25) #[true, true, true, true, true, true, true, true, true, false, false] rfl rfl (by kernel_rfl) (by decide) (fun K hK => ?_)
          refine value_ (w1 := ?_) (v := ?_) (by rfl) rfl ?_ ?_
          rotate_left 2
          · go_simp
            constructor
            · rfl
            · rfl
          refine hK.out _ _ trivial (fun hHeld => ?_)
          clear hK K
          refine norm_ (a' := ?_) ?_ ?_
          rotate_left
          · show Act.put _ (some 25) _ = _
            simp only [Act.put, List.setIfInBounds_toArray, List.set_cons_zero, List.set_cons_succ, i64_w, i32_w]
            rfl
          refine one_ (i := 9) (N := some 26) #[true, true, true, true, true, true, true, true, true, true, false] rfl rfl (by kernel_rfl) (by decide) (fun K hK => ?_)
          refine Kd.R_append_step Kd.string w.heap.size (by rfl) (.tmp 17) (.tmp 25) 60 9 (.string ⟨#[]⟩) 16 rfl Tryd.underlying60 info9 rfl (by decide) (by omega) u3 (preB a b c k) (partB k (pt a b c k)) [.string (partB k (pt a b c k))] (fun _ => True) (fun _ => False) rfl rfl ?aP (fun _ hk => hk.elim) ?aF ?aO (Below.refl _ _) ?aS ?aL ?_
          (case aP => exact rfl)
          (case aF => exact (fun _ _ => trivial))
          (case aO => exact HR3.out)
          (case aS => exact HB3.out.size)
          (case aL => have := preB_len a b c k; omega)
          intro v4 w4 ho hb hg hat
          have HR4 := Aside0.mk ho
          have HB4 := Aside0.mk (below_weaken HB3.out (Nat.le_refl _) hb)
          clear ho hb hg hat
          refine hK.out _ _ trivial (fun hHeld => ?_)
          clear hK K
          refine norm_ (a' := ?_) ?_ ?_
          rotate_left
          · show Act.put _ (some 26) _ = _
            simp only [Act.put, List.setIfInBounds_toArray, List.set_cons_zero, List.set_cons_succ, i64_w, i32_w]
            rfl
          refine pure_ (i := 10) (N := some 3) (v := ?_) (a' := ?_) #[true, true, true, true, true, true, true, true, true, true, true] rfl rfl (by kernel_rfl) (fun _ _ _ h => h) (Or.inl ⟨by rfl, ?_⟩) ?_ ?_
          rotate_left
          · intro w'
            go_simp
            with_reducible rfl
          rotate_left
          · simp only [Act.put, List.setIfInBounds_toArray, List.set_cons_zero, List.set_cons_succ, i64_w, i32_w]
            rfl
          refine done_ (by kernel_rfl) ?_
          go_wp2
          go_roundw
          case rel => exact ⟨k + 1, by omega, by simp, ⟨by rw [HZ.out]; exact HR4.out⟩, HB4⟩
          case measure => simp [intOf]; omega
      · obtain rfl : k = 3 := by omega
        obtain ⟨A, cap, rfl, hcap, hA⟩ := Kd.R_reads HR.out
        go_wp2_with fail
        refine (strings_Join.calls A cap (preB a b c 3) ⟨#[44]⟩ _ _ hA hcap HJ.out).mono ?_
        rintro e w5 ⟨rfl, hb⟩
        have HB5 := Aside0.mk (below_then HB.out HB.out.size hb)
        clear hb
        go_wp2
        go_ret
        exact ⟨rfl, HB5.out⟩
end Go.Proofs.YtcpikafmclfcfaaDoor.Vc
end
section
namespace Go.Proofs.YtcpikafmclfcfaaDoor.Vr
open Go Go.RowKit
set_option linter.unusedVariables false
set_option linter.unusedSimpArgs false
variable {F : Fence} {n : Nat} {P : Program}
theorem set_other {j Bs : Nat} (W : World) (v : Value) (h : Bs ≠ j) : (W.setCell ⟨Bs, 0, none⟩ v).heap[j]? = W.heap[j]? := Below.heap_setCell W ⟨Bs, 0, none⟩ v j (by simpa using h.symm)
def SeqStopsS {α : Type} (F : Fence) (n : Nat) (P : Program) (g : Nat) (lb : Array Value) (encs : α → Array Value) (Kp : World → World → Prop) (S Sp : List α → Prop) (N : Nat) (Bs : Nat) (w : World) : Prop :=
  ∀ (l : Nat) (J Jx : List α → World → Prop) (W : World), Below w.heap.size w W → AbidesFrom W.heap.size J → AbidesFrom W.heap.size Jx →
    (∀ s A v, J s A → J s (A.setCell ⟨Bs, 0, none⟩ v)) → (∀ s A v, Jx s A → Jx s (A.setCell ⟨Bs, 0, none⟩ v)) →
    (∀ pre x W1, J pre W1 → pre.length < N → YieldAt F (n - 1) P l (encs x) W1 fun e W' =>
      (e = .returned (.bool true) ∧ J (pre ++ [x]) W' ∧ Kp W1 W') ∨ (e = .returned (.bool false) ∧ Jx (pre ++ [x]) W')) →
    J [] W →
    CallsIn F n P g (#[.func (.yield l) #[] #[]] ++ lb) W fun e W' => (∃ v, e = .returned v) ∧ ((∃ xs, S xs ∧ J xs W') ∨ (∃ pre, Sp pre ∧ Jx pre W'))
theorem wpIn_rangeFunc_ownS {α : Type} {g : Operand} {ps : Array Tmp} {assign body : Code} {Q : Exit → Act → World → Prop} {a : Act} {w : World}
    (hro : F.round = none) (h1 : 1 ≤ n) {gf : Nat} {lb : Array Value} (hg : a.eval g = .func (.func gf) #[] lb) (hFg : F.fn gf) (eg : ∀ args w, (callFunc gf args).run P w = .ok (.enter gf args) w)
    {encs : α → Array Value} {Kp : World → World → Prop} {S Sp : List α → Prop} {N : Nat} {w0 : World} {Bs : Nat} (hBs : Bs < w.heap.size) (hseq : SeqStopsS F (n - 1) P gf lb encs Kp S Sp N Bs w0)
    (hKt : ∀ {A B C : World}, Kp A B → Kp B C → Kp A C) (hKb : ∀ (W : World) (l : Nat) (o o' : Obj), w.heap.size ≤ l → W.heap[l]? = some o → o.isCells = false → o.isWalk = false → Kp W (W.putObj l o')) (hb0 : Below w0.heap.size w0 w) (hps : ∀ x, (encs x).size = ps.size)
    (I : List α → World → Prop) (Ix : Code → List α → World → Prop) (hI : OwnFrom w.heap.size I) (hIx : ∀ c, OwnFrom w.heap.size (Ix c)) (hIs : ∀ s W v, I s W → I s (W.setCell ⟨Bs, 0, none⟩ v)) (hIxs : ∀ c s W v, Ix c s W → Ix c s (W.setCell ⟨Bs, 0, none⟩ v)) (h0 : I [] w) (a₁ : α → Act)
    (hassign : ∀ (l : Nat) (x : α) (W : World) (K : Act → World → Prop), K (a₁ x) W →
      assign.wpIn (F.inRound l) (n - 1 - 1) P (Exit.then K (fun _ _ _ => False)) { tmps := (ps.zip (encs x)).foldl (fun t (p, v) => t.setIfInBounds p v) a.tmps, defers := [] } W)
    (hbody : ∀ (l : Nat) (pre : List α) (x : α) (W : World), I pre W → pre.length < N → body.wpIn (F.inRound l) (n - 1 - 1) P (ownPostK Kp I Ix (pre ++ [x]) W) (a₁ x) W)
    (hdone : ∀ (D : Nat) (xs : List α) (W : World), w.heap.size ≤ D → S xs → I xs W → W.heap[D]? = some (.deferred (some [])) → Q .normal { a with defers := { target := .collected D, args := #[] } :: a.defers } W)
    (hstop : ∀ (D : Nat) (c : Code) (pre : List α) (W : World), w.heap.size ≤ D → Sp pre → Ix c pre W → W.heap[D]? = some (.deferred (some [])) → c.wpIn F n P Q { a with defers := { target := .collected D, args := #[] } :: a.defers } W) :
    (Code.rangeFunc g ps assign body).wpIn F n P Q a w := by
  refine wpIn_rangeFunc ?_
  intro fn hfn
  rw [hro]
  obtain ⟨rec, hrec⟩ : ∃ rec : LoopState → Option Code → Loop, rec = fun st pe => { state := st, pending := pe, fn, tmps := a.tmps, params := ps, assign, body, defers := w.heap.size } := ⟨_, rfl⟩
  obtain ⟨W1, hW1⟩ : ∃ W1, (w.alloc (.deferred (some []))).alloc (.loop (rec .ready none)) = W1 := ⟨_, rfl⟩
  have hL1 : W1.heap[w.heap.size + 1]? = some (.loop (rec .ready none)) := by
    rw [← hW1]; have := World.alloc_heap_new (w.alloc (.deferred (some []))) (.loop (rec .ready none)); rwa [World.size_alloc] at this
  have hK1 : W1.heap[w.heap.size]? = some (.deferred (some [])) := by
    rw [← hW1]; exact (Below.heap_alloc _ _ _ (by simp)).trans (World.alloc_heap_new w _)
  have hI1 : I [] W1 := by rw [← hW1]; exact hI.alloc _ (hI.alloc _ h0)
  have hb1 : Below w0.heap.size w0 W1 := by
    rw [← hW1]; exact hb0.trans ((((Below.refl _ w).alloc (Nat.le_refl _) _).alloc (by simp) _).mono hb0.size)
  refine ⟨w.heap.size + 1, [{ target := .collected w.heap.size, args := #[] }], W1, { target := .fn (.func gf) lb, args := #[.func (.yield (w.heap.size + 1)) #[] #[]] }, W1, gf,
    #[.func (.yield (w.heap.size + 1)) #[] #[]] ++ lb, W1, ?_, ?_, ?_, ?_, fun _ => h1, ?_⟩
  · rw [← hW1, hrec]; exact run_enterLoop_outer _ _ _ _ _
  · simp only [resolve, hg]
    simp [go_sem]
  · intro f' hf'; simp [Target.leads] at hf'; subst hf'; exact hFg
  · simp [invoke, go_sem, eg]
  · 
    have hnw : ∀ {A B : World} {row : Option Nat}, (∀ r, row = some r → W1.heap.size ≤ r ∧ ∃ o : Obj, A.heap[r]? = some o ∧ o.isWalk = true) → (∀ r, row = some r → w.heap.size ≤ r ∧ ∃ o : Obj, A.heap[r]? = some o ∧ o.isCells = false) :=
      fun hr r e => by obtain ⟨hB, o, ho, hw⟩ := hr r e; exact ⟨by rw [← hW1] at hB; simp at hB; omega, o, ho, Obj.not_cells_of_walk hw⟩
    refine (hseq (w.heap.size + 1)
      (fun pre W => I pre W ∧ W.heap[w.heap.size + 1]? = some (.loop (rec .ready none)) ∧ W.heap[w.heap.size]? = some (.deferred (some [])))
      (fun pre W => ∃ c, Ix c pre W ∧ W.heap[w.heap.size + 1]? = some (.loop (rec .done (some c))) ∧ W.heap[w.heap.size]? = some (.deferred (some [])))
      W1 hb1
      (fun s A B row hs hg' hr => ⟨hI s A B row hs.1 hg' (hnw (B := B) hr), (grownBy_keeps hg' (fun r e => (hr r e).2) hs.2.1 rfl).trans hs.2.1, (grownBy_keeps hg' (fun r e => (hr r e).2) hs.2.2 rfl).trans hs.2.2⟩)
      (fun s A B row hs hg' hr => by
        obtain ⟨c, hc, hl, hk⟩ := hs
        exact ⟨c, hIx c s A B row hc hg' (hnw (B := B) hr), (grownBy_keeps hg' (fun r e => (hr r e).2) hl rfl).trans hl, (grownBy_keeps hg' (fun r e => (hr r e).2) hk rfl).trans hk⟩)
      (fun s A v hs => ⟨hIs s A v hs.1, (set_other A v (by omega)).trans hs.2.1, (set_other A v (by omega)).trans hs.2.2⟩)
      (fun s A v hs => by
        obtain ⟨c, hc, hl, hk⟩ := hs
        exact ⟨c, hIxs c s A v hc, (set_other A v (by omega)).trans hl, (set_other A v (by omega)).trans hk⟩)
      ?_ ⟨hI1, hL1, hK1⟩).mono ?_
    · rintro pre x W ⟨hi, hl, hk⟩ hlen
      have hlt : w.heap.size + 1 < W.heap.size := (Array.getElem?_eq_some_iff.1 hl).1
      have hy := run_yield (P := P) (args := encs x) hl (by rw [hrec]; exact hps x)
      rw [hrec] at hy
      refine ⟨fn, _, assign, body, hy, roundIn_of_wpIn hfn (hassign _ x W _ ⟨_, run_beginRound hl (by rw [hrec]), ?_⟩)⟩
      have hl2 : (W.putObj (w.heap.size + 1) (.loop { rec .ready none with state := .busy })).heap[w.heap.size + 1]? = some (.loop { rec .ready none with state := .busy }) := World.putObj_heap_same hlt
      have hk2 : (W.putObj (w.heap.size + 1) (.loop { rec .ready none with state := .busy })).heap[w.heap.size]? = some (.deferred (some [])) := (World.putObj_heap_other (by omega)).trans hk
      have hw2 : Kp W (W.putObj (w.heap.size + 1) (.loop { rec .ready none with state := .busy })) := hKb _ _ _ _ (by omega) hl rfl rfl
      refine wpIn_mono (hbody _ pre x _ (hI.putObj _ hi (by omega) hl rfl) hlen) ?_
      have fin : ∀ (jump : Option Code) (W3 : World), KeepsOthers (W.putObj (w.heap.size + 1) (.loop { rec .ready none with state := .busy })) W3 →
          (Instr.endRound (w.heap.size + 1) jump).run P W3 = .ok (.bool jump.isNone) (W3.putObj (w.heap.size + 1) (.loop (rec (if jump.isNone then .ready else .done) jump))) ∧
          W3.heap[w.heap.size + 1]? = some (.loop { rec .ready none with state := .busy }) ∧
          (W3.putObj (w.heap.size + 1) (.loop (rec (if jump.isNone then .ready else .done) jump))).heap[w.heap.size + 1]? = some (.loop (rec (if jump.isNone then .ready else .done) jump)) ∧
          (W3.putObj (w.heap.size + 1) (.loop (rec (if jump.isNone then .ready else .done) jump))).heap[w.heap.size]? = some (.deferred (some [])) := fun jump W3 hk3 => by
        have hl3 := hk3.same _ _ hl2 rfl
        have := run_endRound (P := P) jump hl3
        rw [hrec] at this ⊢
        exact ⟨this, by rw [hrec] at hl3; exact hl3, World.putObj_heap_same (Array.getElem?_eq_some_iff.1 hl3).1, (World.putObj_heap_other (by omega)).trans (hk3.same _ _ hk2 rfl)⟩
      rintro e a3 W3 hp
      cases e with
      | normal =>
        obtain ⟨hk3, hkp3, hi3⟩ := hp
        obtain ⟨hr, hl3, hl4, hk4⟩ := fin none W3 hk3
        exact ⟨_, _, hr, .inl ⟨rfl, ⟨hI.putObj _ hi3 (by omega) hl3 rfl, hl4, hk4⟩, hKt (hKt hw2 hkp3) (hKb _ _ _ _ (by omega) hl3 rfl rfl)⟩⟩
      | ret =>
        obtain ⟨hk3, hi3⟩ := hp
        obtain ⟨hr, hl3, hl4, hk4⟩ := fin (some .ret) W3 hk3
        exact ⟨_, _, hr, .inr ⟨rfl, .ret, (hIx _).putObj _ hi3 (by omega) hl3 rfl, hl4, hk4⟩⟩
      | exit id =>
        obtain ⟨hk3, hi3⟩ := hp
        obtain ⟨hr, hl3, hl4, hk4⟩ := fin (some (.exit id)) W3 hk3
        exact ⟨_, _, hr, .inr ⟨rfl, .exit id, (hIx _).putObj _ hi3 (by omega) hl3 rfl, hl4, hk4⟩⟩
      | goto t =>
        obtain ⟨hk3, hi3⟩ := hp
        obtain ⟨hr, hl3, hl4, hk4⟩ := fin (some (.goto t)) W3 hk3
        exact ⟨_, _, hr, .inr ⟨rfl, .goto t, (hIx _).putObj _ hi3 (by omega) hl3 rfl, hl4, hk4⟩⟩
      | panic ch => exact hp.elim
      | outgrown => exact hp.elim
    · rintro e W2 ⟨⟨v, rfl⟩, (⟨xs, hS, hi, hl, hk⟩ | ⟨pre, hSp, c, hi, hl, hk⟩)⟩
      · exact ⟨none, _, by have := run_endLoop (P := P) hl (by rw [hrec]; simp); rw [hrec] at this; exact this, hdone _ xs _ (Nat.le_refl _) hS (hI.putObj _ hi (by omega) hl rfl) ((World.putObj_heap_other (by omega)).trans hk)⟩
      · exact ⟨some c, _, by have := run_endLoop (P := P) hl (by rw [hrec]; simp); rw [hrec] at this; exact this, hstop _ c pre _ (Nat.le_refl _) hSp ((hIx c).putObj _ hi (by omega) hl rfl) ((World.putObj_heap_other (by omega)).trans hk)⟩
end Go.Proofs.YtcpikafmclfcfaaDoor.Vr
end
section
namespace Go.Proofs.YtcpikafmclfcfaaDoor.Vc
open Go.RowKit Go.Proofs.YtcpikafmclfcfaaDoor.Lib Go.Proofs.YtcpikafmclfcfaaDoor.Txt Go.Proofs.YtcpikafmclfcfaaDoorW.PrintWords Go.Proofs.YtcpikafmclfcfaaDoorW.PrintLast Go.Proofs.YtcpikafmclfcfaaDoorW.PrintMore Go.Proofs.YtcpikafmclfcfaaDoor.PV Go.Proofs.YtcpikafmclfcfaaDoor.Vl Go.Proofs.YtcpikafmclfcfaaDoor.Vr
set_option linter.unusedVariables false
set_option linter.unusedSimpArgs false
theorem L_mkB (l : List UInt8) : L (mkB l) = l := L_mk l
theorem idx_cases (l : List UInt8) (c : UInt8) : Go.Lib.indexByte l c = -1 ∨ ∃ i : Nat, Go.Lib.indexByte l c = i ∧ i < l.length := by
  induction l with
  | nil => exact .inl rfl
  | cons x xs ih =>
    cases hb : (x == c) with
    | true => exact .inr ⟨0, by simp [Go.Lib.indexByte, hb], by simp⟩
    | false =>
      rcases ih with h | ⟨i, h, hi⟩
      · exact .inl (by simp [Go.Lib.indexByte, hb, h])
      · refine .inr ⟨i + 1, ?_, by simp; omega⟩
        have hn : ((i : Int) == -1) = false := by simp
        simp only [Go.Lib.indexByte, hb, h, hn, Bool.false_eq_true, ↓reduceIte]; rfl
theorem take_B (s : ByteArray) (i : Nat) : s.extract 0 i = mkB ((L s).take i) := L_inj (by rw [extract_L, L_mkB]; simp)
theorem drop_B (s : ByteArray) (i : Nat) : s.extract i s.size = mkB ((L s).drop i) := L_inj (by rw [extract_L, L_mkB, List.take_of_length_le (by rw [List.length_drop, L_length]; omega)])
set_option maxRecDepth 100000 in
theorem Cut1_calls (s : ByteArray) (hmax : s.size < 9223372036854775807) (w : World) : Calls Tryd.prog 54 #[.string s, .string ⟨#[61]⟩] w fun e w' => ∃ f, e = .returned (.tuple #[.string (mkB (cutL (L s)).1), .string (mkB (cutL (L s)).2), .bool f]) ∧ Below w.heap.size w w' := by
  rcases idx_cases (L s) 61 with h | ⟨i, h, hi⟩
  · have e1 : mkB (cutL (L s)).1 = s := by unfold cutL; rw [h, if_pos (by decide)]; exact L_inj (L_mkB _)
    have e2 : mkB (cutL (L s)).2 = ⟨#[]⟩ := by unfold cutL; rw [h, if_pos (by decide)]; rfl
    rw [e1, e2]
    have hc := Aside0.mk (show ∀ w, Calls Tryd.prog 74 #[.string s, .string ⟨#[61]⟩] w fun e w' => e = .returned (.int .i64 (-1)) ∧ w' = w from fun w => by have := Tryd.stringslite_Index_one s 61 w; rwa [show Go.Lib.indexByte s.data.toList 61 = -1 from h] at this)
    clear h e1 e2
    go_enter Tryd.func54, Tryd.ntmps54
    go_wp2_with (refine (hc.out _).mono ?_; rintro e w1 ⟨rfl, rfl⟩)
    refine bodyPost_ret (v := .tuple #[.string s, .string ⟨#[]⟩, .bool false]) (by simp [results, Tryd.results54, go_sem]) rfl ⟨_, rfl, Below.refl _ _⟩
  · have e1 : mkB (cutL (L s)).1 = s.extract 0 i := by unfold cutL; rw [h, if_neg (by omega), take_B]; simp
    have e2 : mkB (cutL (L s)).2 = s.extract (i + 1) s.size := by unfold cutL; rw [h, if_neg (by omega), drop_B]; simp
    rw [e1, e2]
    have hc := Aside0.mk (show ∀ w, Calls Tryd.prog 74 #[.string s, .string ⟨#[61]⟩] w fun e w' => e = .returned (.int .i64 i) ∧ w' = w from fun w => by have := Tryd.stringslite_Index_one s 61 w; rwa [show Go.Lib.indexByte s.data.toList 61 = i from h] at this)
    rw [L_length] at hi
    clear h e1 e2
    go_enter Tryd.func54, Tryd.ntmps54
    go_wp2_with (refine (hc.out _).mono ?_; rintro e w1 ⟨rfl, rfl⟩)
    have hle : ((i : Int) ≤ (s.size : Int)) := by omega
    have hle1 : ((i : Int) + 1 ≤ (s.size : Int)) := by omega
    have hge : (0 ≤ (i : Int) + 1) = True := eq_true (by omega)
    have hw1 : wrap64 ((i : Int) + 1) = (i : Int) + 1 := by unfold wrap64; omega
    refine start_ (n := 12) (S := fun _ => True) (ds := []) #[false, false, false, false, false, false, false, false, false, false, false, false] (by kernel_rfl) rfl rfl trivial (fun hHeld => ?_)
    refine pure_ (i := 0) (N := some 13) (v := ?_) (a' := ?_) #[true, false, false, false, false, false, false, false, false, false, false, false] rfl rfl (by kernel_rfl) (fun _ _ _ h => h) (Or.inl ⟨by rfl, ?_⟩) ?_ ?_
    rotate_left
    · intro w'
      go_simp
      with_reducible rfl
    rotate_left
    · simp only [Act.put, List.setIfInBounds_toArray, List.set_cons_zero, List.set_cons_succ, i64_w, i32_w]
      rfl
    refine pure_ (i := 1) (N := some 14) (v := ?_) (a' := ?_) #[true, true, false, false, false, false, false, false, false, false, false, false] rfl rfl (by kernel_rfl) (fun _ _ _ h => h) (Or.inl ⟨by rfl, ?_⟩) ?_ ?_
    rotate_left
    · intro w'
      go_simp
      with_reducible rfl
    rotate_left
    · simp only [Act.put, List.setIfInBounds_toArray, List.set_cons_zero, List.set_cons_succ, i64_w, i32_w]
      rfl
    refine pure_ (i := 2) (N := some 15) (v := ?_) (a' := ?_) #[true, true, true, false, false, false, false, false, false, false, false, false] rfl rfl (by kernel_rfl) (fun _ _ _ h => h) (Or.inl ⟨by rfl, ?_⟩) ?_ ?_
    rotate_left
    · intro w'
      go_simp
      with_reducible rfl
    rotate_left
    · simp only [Act.put, List.setIfInBounds_toArray, List.set_cons_zero, List.set_cons_succ, i64_w, i32_w]
      rfl
    refine pure_ (i := 3) (N := some 16) (v := ?_) (a' := ?_) #[true, true, true, true, false, false, false, false, false, false, false, false] rfl rfl (by kernel_rfl) (fun _ _ _ h => h) (Or.inl ⟨by rfl, ?_⟩) ?_ ?_
    rotate_left
    · intro w'
      go_simp
      with_reducible rfl
    rotate_left
    · simp only [Act.put, List.setIfInBounds_toArray, List.set_cons_zero, List.set_cons_succ, i64_w, i32_w]
      rfl
    refine pure_ (i := 4) (N := some 17) (v := ?_) (a' := ?_) #[true, true, true, true, true, false, false, false, false, false, false, false] rfl rfl (by kernel_rfl) (fun _ _ _ h => h) (Or.inl ⟨by rfl, ?_⟩) ?_ ?_
    rotate_left
    · intro w'
      go_simp
      with_reducible rfl
    rotate_left
    · simp only [Act.put, List.setIfInBounds_toArray, List.set_cons_zero, List.set_cons_succ, i64_w, i32_w]
      rfl
    refine pure_ (i := 5) (N := some 18) (v := ?_) (a' := ?_) #[true, true, true, true, true, true, false, false, false, false, false, false] rfl rfl (by kernel_rfl) (fun _ _ _ h => h) (Or.inl ⟨by rfl, ?_⟩) ?_ ?_
    rotate_left
    · intro w'
      go_simp
      with_reducible rfl
    rotate_left
    · simp only [Act.put, List.setIfInBounds_toArray, List.set_cons_zero, List.set_cons_succ, i64_w, i32_w]
      rfl
    refine pure_ (i := 6) (N := some 19) (v := ?_) (a' := ?_) #[true, true, true, true, true, true, true, false, false, false, false, false] rfl rfl (by kernel_rfl) (fun _ _ _ h => h) (Or.inl ⟨by rfl, ?_⟩) ?_ ?_
    rotate_left
    · intro w'
      go_simp
      with_reducible rfl
    rotate_left
    · simp only [Act.put, List.setIfInBounds_toArray, List.set_cons_zero, List.set_cons_succ, i64_w, i32_w]
      rfl
    refine pure_ (i := 7) (N := some 20) (v := ?_) (a' := ?_) #[true, true, true, true, true, true, true, true, false, false, false, false] rfl rfl (by kernel_rfl) (fun _ _ _ h => h) (Or.inl ⟨by rfl, ?_⟩) ?_ ?_
    rotate_left
    · intro w'
      go_simp
      with_reducible rfl
    rotate_left
    · simp only [Act.put, List.setIfInBounds_toArray, List.set_cons_zero, List.set_cons_succ, i64_w, i32_w]
      rfl
    refine pure_ (i := 8) (N := some 21) (v := ?_) (a' := ?_) #[true, true, true, true, true, true, true, true, true, false, false, false] rfl rfl (by kernel_rfl) (fun _ _ _ h => h) (Or.inl ⟨by rfl, ?_⟩) ?_ ?_
    rotate_left
    · intro w'
      go_simp
      with_reducible rfl
    rotate_left
    · simp only [Act.put, List.setIfInBounds_toArray, List.set_cons_zero, List.set_cons_succ, i64_w, i32_w]
      rfl
    refine pure_ (i := 9) (N := some 4) (v := ?_) (a' := ?_) #[true, true, true, true, true, true, true, true, true, true, false, false] rfl rfl (by kernel_rfl) (fun _ _ _ h => h) (Or.inl ⟨by rfl, ?_⟩) ?_ ?_
    rotate_left
    · intro w'
      go_simp
      with_reducible rfl
    rotate_left
    · simp only [Act.put, List.setIfInBounds_toArray, List.set_cons_zero, List.set_cons_succ, i64_w, i32_w]
      rfl
    refine pure_ (i := 10) (N := some 5) (v := ?_) (a' := ?_) #[true, true, true, true, true, true, true, true, true, true, true, false] rfl rfl (by kernel_rfl) (fun _ _ _ h => h) (Or.inl ⟨by rfl, ?_⟩) ?_ ?_
    rotate_left
    · intro w'
      go_simp
      with_reducible rfl
    rotate_left
    · simp only [Act.put, List.setIfInBounds_toArray, List.set_cons_zero, List.set_cons_succ, i64_w, i32_w]
      rfl
    refine pure_ (i := 11) (N := some 6) (v := ?_) (a' := ?_) #[true, true, true, true, true, true, true, true, true, true, true, true] rfl rfl (by kernel_rfl) (fun _ _ _ h => h) (Or.inl ⟨by rfl, ?_⟩) ?_ ?_
    rotate_left
    · intro w'
      go_simp
      with_reducible rfl
    rotate_left
    · simp only [Act.put, List.setIfInBounds_toArray, List.set_cons_zero, List.set_cons_succ, i64_w, i32_w]
      rfl
    refine done_ (by kernel_rfl) ?_
    go_wp2
    refine bodyPost_ret (v := .tuple #[.string (s.extract 0 i), .string (s.extract (i + 1) s.size), .bool true]) (by simp [results, Tryd.results54, go_sem]) rfl ⟨_, rfl, below_drew (Below.refl _ _)⟩
set_option maxRecDepth 100000 in
theorem Cut_calls (s : ByteArray) (hmax : s.size < 9223372036854775807) (w : World) : Calls Tryd.prog 32 #[.string s, .string ⟨#[61]⟩] w fun e w' => ∃ f, e = .returned (.tuple #[.string (mkB (cutL (L s)).1), .string (mkB (cutL (L s)).2), .bool f]) ∧ Below w.heap.size w w' := by
  go_enter Tryd.func32, Tryd.ntmps32
  go_wp2_with (refine (Cut1_calls s hmax _).mono ?_; rintro e w1 ⟨f, rfl, hb⟩)
  refine bodyPost_ret (v := .tuple #[.string (mkB (cutL (L s)).1), .string (mkB (cutL (L s)).2), .bool f]) (by simp [results, Tryd.results32, go_sem]) rfl ⟨_, rfl, hb⟩
structure Boxes (Bp Bs Bv : Nat) (r : ByteArray) (W : World) : Prop where mk ::
  p : W.heap[Bp]? = some (.cells #[.string ⟨#[44]⟩] 9 (0, 0))
  s : W.heap[Bs]? = some (.cells #[.string r] 9 (0, 0))
  v : W.heap[Bv]? = some (.cells #[.int .i64 0] 3 (0, 0))
def KeepsBoxes (Bp Bs Bv : Nat) (W W' : World) : Prop := ∀ j, j = Bp ∨ j = Bs ∨ j = Bv → W'.heap[j]? = W.heap[j]?
theorem Boxes.keep {Bp Bs Bv : Nat} {r : ByteArray} {W W' : World} (h : Boxes Bp Bs Bv r W) (k : KeepsBoxes Bp Bs Bv W W') : Boxes Bp Bs Bv r W' :=
  ⟨(k _ (.inl rfl)).trans h.p, (k _ (.inr (.inl rfl))).trans h.s, (k _ (.inr (.inr rfl))).trans h.v⟩
theorem Boxes.set {Bp Bs Bv : Nat} {r : ByteArray} {W : World} (h : Boxes Bp Bs Bv r W) (h1 : Bp ≠ Bs) (h2 : Bv ≠ Bs) (r' : ByteArray) : Boxes Bp Bs Bv r' (W.setCell ⟨Bs, 0, none⟩ (.string r')) :=
  ⟨(set_other W _ (Ne.symm h1)).trans h.p, blk_put h.s 0 _ rfl, (set_other W _ (Ne.symm h2)).trans h.v⟩
def leftS (Bs : Nat) (W : World) : Nat := match W.cell? ⟨Bs, 0, none⟩ with
  | some (.string r) => r.size
  | _ => 0
theorem leftS_eq {Bp Bs Bv : Nat} {r : ByteArray} {W : World} (h : Boxes Bp Bs Bv r W) : leftS Bs W = r.size := by
  unfold leftS
  rw [blk_cell h.s 0]
  rfl
def pieces (s : ByteArray) : List ByteArray := (spl (L s)).map mkB
set_option maxRecDepth 100000 in
set_option maxHeartbeats 2000000 in
theorem split1_in (n : Nat) (hn : 1 ≤ n) (l Bp Bs Bv : Nat) (h1 : Bp ≠ Bs) (h2 : Bv ≠ Bs) (s0 : ByteArray) (hmax : s0.size < 9223372036854775807) (J Jx : List ByteArray → World → Prop)
    (hJs : ∀ s A v, J s A → J s (A.setCell ⟨Bs, 0, none⟩ v))
    (hY : ∀ pre (x : ByteArray) W, x.size ≤ s0.size → J pre W → pre.length < (pieces s0).length → YieldAt Fence.wide (n - 1) Tryd.prog l #[.string x] W fun e W' =>
      (e = .returned (.bool true) ∧ J (pre ++ [x]) W' ∧ KeepsBoxes Bp Bs Bv W W') ∨ (e = .returned (.bool false) ∧ Jx (pre ++ [x]) W'))
    (W : World) (hB : Boxes Bp Bs Bv s0 W) (h0 : J [] W) :
    CallsIn Fence.wide n Tryd.prog 71 #[.func (.yield l) #[] #[], .pointer (some ⟨Bp, 0, none⟩), .pointer (some ⟨Bs, 0, none⟩), .pointer (some ⟨Bv, 0, none⟩)] W fun e W' => (∃ v, e = .returned v) ∧
      ((∃ ys, ys = pieces s0 ∧ J ys W') ∨ (∃ pre, pre <+: pieces s0 ∧ Jx pre W')) := by
  refine callsIn_of_wp Tryd.func71 rfl trivial ?_ rfl
  simp only [Tryd.ntmps71, List.size_toArray, List.length_cons, List.length_nil, Nat.reduceAdd, Nat.reduceSub, Array.replicate_succ, Array.replicate_zero, List.push_toArray, List.append_toArray, List.nil_append, List.cons_append]
  have c1 := (blk_cell hB.p 0)
  gi_wp2
  gi_loopw [7] (fun v wr => ∃ (pre : List ByteArray) (r : ByteArray), pieces s0 = pre ++ pieces r ∧ r.size ≤ s0.size ∧ Boxes Bp Bs Bv r wr ∧ J pre wr) (fun _ wr => leftS Bs wr)
  case atStart => exact ⟨[], s0, rfl, Nat.le_refl _, hB, h0⟩
  case round =>
    obtain ⟨pre, r, hx, hrs, hBr, hJr⟩ := hrel
    have cp := Aside0.mk hx
    have d1 := blk_cell hBr.p 0
    have d2 := blk_cell hBr.s 0
    have d3 := blk_cell hBr.v 0
    rcases spl_idx (L r) with ⟨hi, hsp⟩ | ⟨i, hi, hil, hsp⟩
    · have hc := Aside0.mk (show ∀ w, Calls Tryd.prog 73 #[.string r, .string ⟨#[44]⟩] w fun e w' => e = .returned (.int .i64 (-1)) ∧ w' = w from fun w => by have := Tryd.strings_Index_one r 44 w; rwa [show Go.Lib.indexByte r.data.toList 44 = -1 from hi] at this)
      have hps : pieces r = [r] := by unfold pieces; rw [hsp]; exact congrArg (fun x => [x]) (L_inj (L_mkB _))
      rw [hps] at hx
      obtain ⟨fn, tmps, assign, body, hy, hR⟩ := hY pre r wr hrs hJr (by rw [hx]; simp)
      clear hi hsp
      gi_wp2_with (refine ⟨trivial, ?_⟩; gi_at_call 73; refine (callsIn_wide.2 (hc.out _)).mono ?_; rintro e w1 ⟨rfl, rfl⟩)
      refine hR.mono ?_
      rintro e W3 (⟨rfl, hJ3, hk3⟩ | ⟨rfl, hJx3⟩)
      · gi_wp2
        go_end0
        exact ⟨⟨_, rfl⟩, .inl ⟨_, hx.symm, hJ3⟩⟩
      · gi_wp2
        go_end0
        exact ⟨⟨_, rfl⟩, .inr ⟨_, by rw [hx]; exact List.prefix_refl _, hJx3⟩⟩
    · have hc := Aside0.mk (show ∀ w, Calls Tryd.prog 73 #[.string r, .string ⟨#[44]⟩] w fun e w' => e = .returned (.int .i64 i) ∧ w' = w from fun w => by have := Tryd.strings_Index_one r 44 w; rwa [show Go.Lib.indexByte r.data.toList 44 = i from hi] at this)
      rw [L_length] at hil
      have hps : pieces r = r.extract 0 i :: pieces (r.extract (i + 1) r.size) := by
        unfold pieces
        rw [hsp, List.map_cons, ← take_B, drop_B, L_mkB]
      have hle : ((i : Int) ≤ (r.size : Int)) := by omega
      have hle1 : ((i : Int) + 1 ≤ (r.size : Int)) := by omega
      have hge0 : (0 ≤ (i : Int)) = True := eq_true (by omega)
      have hge : (0 ≤ (i : Int) + 1) = True := eq_true (by omega)
      have hw1 : wrap64 ((i : Int) + 1) = (i : Int) + 1 := by unfold wrap64; omega
      have hw0 : wrap64 ((i : Int)) = (i : Int) := by unfold wrap64; omega
      rw [hps] at hx
      obtain ⟨fn, tmps, assign, body, hy, hR⟩ := hY pre (r.extract 0 i) wr (by rw [ByteArray.size_extract]; omega) hJr (by rw [hx]; simp)
      clear hi hsp
      gi_wp2_with (refine ⟨trivial, ?_⟩; gi_at_call 73; refine (callsIn_wide.2 (hc.out _)).mono ?_; rintro e w1 ⟨rfl, rfl⟩)
      refine hR.mono ?_
      rintro e W3 (⟨rfl, hJ3, hk3⟩ | ⟨rfl, hJx3⟩)
      · have hB3 := hBr.keep hk3
        have d1' := blk_cell hB3.p 0
        have d2' := blk_cell hB3.s 0
        have f2' := blk_frozen hB3.s 0
        gi_wp2
        go_roundw
        case rel =>
          have hB4 := hB3.set h1 h2 (r.extract (i + 1) r.size)
          exact ⟨pre ++ [r.extract 0 i], r.extract (i + 1) r.size, by rw [hx]; simp, by rw [ByteArray.size_extract]; omega, hB4, hJs _ _ _ hJ3⟩
        case measure =>
          rw [leftS_eq (hB3.set h1 h2 (r.extract (i + 1) r.size)), leftS_eq hBr, ByteArray.size_extract]; omega
      · gi_wp2
        refine bodyPost_ret (results_none rfl _ _ _) rfl ?_
        exact ⟨⟨_, rfl⟩, .inr ⟨_, by rw [hx]; exact ⟨pieces (r.extract (i + 1) r.size), by simp⟩, hJx3⟩⟩
set_option maxRecDepth 100000 in
theorem splitSeq_in (s : ByteArray) (w : World) : Calls Tryd.prog 53 #[.string s, .string ⟨#[44]⟩, .int .i64 0] w fun e w' =>
    e = .returned (.func (.func 71) #[] #[.pointer (some ⟨w.heap.size + 1, 0, none⟩), .pointer (some ⟨w.heap.size, 0, none⟩), .pointer (some ⟨w.heap.size + 2, 0, none⟩)]) ∧ Boxes (w.heap.size + 1) w.heap.size (w.heap.size + 2) s w' ∧ Below w.heap.size w w' ∧ w'.heap.size = w.heap.size + 3 := by
  go_enter Tryd.func53, Tryd.ntmps53
  go_wp2
  go_ret
  refine ⟨rfl, ⟨?_, ?_, ?_⟩, below_alloc (below_alloc (below_alloc (Below.refl _ _) _) _) _, by simp⟩
  · exact blk_alloc (by have := blk_new (w.alloc (.cells #[.string s] 9)) (.cells #[.string ⟨#[44]⟩] 9); rwa [World.size_alloc] at this) _
  · exact blk_alloc (blk_alloc (blk_new _ _) _) _
  · have := blk_new ((w.alloc (.cells #[.string s] 9)).alloc (.cells #[.string ⟨#[44]⟩] 9)) (.cells #[.int .i64 0] 3); rwa [World.size_alloc, World.size_alloc] at this
theorem SplitSeq_in (s : ByteArray) (w : World) : Calls Tryd.prog 31 #[.string s, .string ⟨#[44]⟩] w fun e w' =>
    e = .returned (.func (.func 71) #[] #[.pointer (some ⟨w.heap.size + 1, 0, none⟩), .pointer (some ⟨w.heap.size, 0, none⟩), .pointer (some ⟨w.heap.size + 2, 0, none⟩)]) ∧ Boxes (w.heap.size + 1) w.heap.size (w.heap.size + 2) s w' ∧ Below w.heap.size w w' ∧ w'.heap.size = w.heap.size + 3 := by
  go_enter Tryd.func31, Tryd.ntmps31
  go_wp2_with (refine (splitSeq_in s _).mono ?_; rintro e w1 ⟨rfl, hb1, hb2, hb3⟩)
  go_ret
  exact ⟨rfl, hb1, hb2, hb3⟩
abbrev Txt48 := { x : ByteArray // x.size ≤ 140737488351232 }
theorem split_stops (n : Nat) (hn : 1 ≤ n) (Bp Bs Bv : Nat) (h1 : Bp ≠ Bs) (h2 : Bv ≠ Bs) (s0 : ByteArray) (hmax : s0.size ≤ 140737488351232) (w : World) (hB : Boxes Bp Bs Bv s0 w) :
    SeqStopsS Fence.wide n Tryd.prog 71 #[.pointer (some ⟨Bp, 0, none⟩), .pointer (some ⟨Bs, 0, none⟩), .pointer (some ⟨Bv, 0, none⟩)] (fun x : Txt48 => #[Value.string x.1]) (KeepsBoxes Bp Bs Bv) (fun ys => ys.map (·.1) = pieces s0) (fun pre => pre.map (·.1) <+: pieces s0) (pieces s0).length Bs w :=
  fun l J Jx W hW _ _ hs hsx hY h0 => by
  have hB' : Boxes Bp Bs Bv s0 W := ⟨blk_below hB.p hW, blk_below hB.s hW, blk_below hB.v hW⟩
  refine (split1_in n hn l Bp Bs Bv h1 h2 s0 (by omega) (fun pre A => ∃ q : List Txt48, q.map (·.1) = pre ∧ J q A) (fun pre A => ∃ q : List Txt48, q.map (·.1) = pre ∧ Jx q A) (fun s A v ⟨q, e, h⟩ => ⟨q, e, hs q A v h⟩) ?_ W hB' ⟨[], rfl, h0⟩).mono ?_
  · rintro pre x A hx ⟨q, rfl, hq⟩ hlen
    obtain ⟨fn, tmps, assign, body, hy, hR⟩ := hY q ⟨x, by omega⟩ A hq (by simpa using hlen)
    refine ⟨fn, tmps, assign, body, hy, hR.mono ?_⟩
    rintro e W' (⟨he, hj, hk⟩ | ⟨he, hj⟩)
    · exact .inl ⟨he, ⟨q ++ [⟨x, by omega⟩], by simp, hj⟩, hk⟩
    · exact .inr ⟨he, ⟨q ++ [⟨x, by omega⟩], by simp, hj⟩⟩
  · rintro e W' ⟨hv, ⟨ys, rfl, q, hq, hj⟩ | ⟨pre, hp, q, rfl, hj⟩⟩
    · exact ⟨hv, .inl ⟨q, hq, hj⟩⟩
    · exact ⟨hv, .inr ⟨q, hp, hj⟩⟩
end Go.Proofs.YtcpikafmclfcfaaDoor.Vc
end
section
namespace Go.Proofs.YtcpikafmclfcfaaDoor.Vc
open Go.RowKit Go.Proofs.YtcpikafmclfcfaaDoor.Txt Go.Proofs.YtcpikafmclfcfaaDoorW.PrintWords Go.Proofs.YtcpikafmclfcfaaDoorW.PrintLast Go.Proofs.YtcpikafmclfcfaaDoorW.PrintMore Go.Proofs.YtcpikafmclfcfaaDoor.PV Go.Proofs.YtcpikafmclfcfaaDoor.Vl Go.Proofs.YtcpikafmclfcfaaDoor.Vr
open Go.Proofs.YtcpikafmclfcfaaDoor.Lib (Glob strconv_Atoi_any)
set_option linter.unusedVariables false
set_option linter.unusedSimpArgs false
attribute [local go_sem] Oper.semAt_some
theorem KeepsBoxes.trans {Bp Bs Bv : Nat} {A B C : World} (h : KeepsBoxes Bp Bs Bv A B) (k : KeepsBoxes Bp Bs Bv B C) : KeepsBoxes Bp Bs Bv A C := fun j hj => (k j hj).trans (h j hj)
theorem KeepsBoxes.below {Bp Bs Bv : Nat} {A B : World} (h : Below A.heap.size A B) (h1 : Bp < A.heap.size) (h2 : Bs < A.heap.size) (h3 : Bv < A.heap.size) : KeepsBoxes Bp Bs Bv A B := fun j hj => by
  refine h.block j ?_
  rcases hj with rfl | rfl | rfl <;> assumption
theorem KeepsBoxes.set {Bp Bs Bv : Nat} {A B : World} (h : KeepsBoxes Bp Bs Bv A B) (p : Addr) (v : Value) (h1 : Bp ≠ p.block) (h2 : Bs ≠ p.block) (h3 : Bv ≠ p.block) : KeepsBoxes Bp Bs Bv A (B.setCell p v) := fun j hj => by
  refine (Below.heap_setCell B p v j ?_).trans (h j hj)
  rcases hj with rfl | rfl | rfl <;> assumption
theorem keepsOthers_below {A B : World} (h : Below A.heap.size A B) : KeepsOthers A B := ⟨h.size, fun k o hk _ => (h.block k (blk_lt hk)).trans hk⟩
structure Inv (w W0 : World) (b4 : Nat) (v : Int × Int × Int) (x : Int × Int × Int) (e : Int) (W : World) : Prop where mk ::
  p : W.heap[b4]? = some (.cells #[.int .i64 v.1, .int .i64 v.2.1, .int .i64 v.2.2] 51 (0, 0))
  r : W.heap[w.heap.size]? = some (.cells #[.int .i64 x.1, .int .i64 x.2.1, .int .i64 x.2.2] 23 (0, 0))
  e : W.heap[w.heap.size + 1]? = some (.cells #[.int .i64 e] 24 (0, 0))
  b : Below w.heap.size w W
  s : W0.heap.size ≤ W.heap.size
theorem Inv.below {w W0 : World} {b4 : Nat} {v x : Int × Int × Int} {e : Int} {W W' : World} (h : Inv w W0 b4 v x e W) (k : Below W.heap.size W W') : Inv w W0 b4 v x e W' :=
  ⟨blk_below h.p k, blk_below h.r k, blk_below h.e k, below_then h.b h.b.size k, Nat.le_trans h.s k.size⟩
theorem Inv.far {w W0 : World} {b4 : Nat} {v x : Int × Int × Int} {e : Int} {W : World} (h : Inv w W0 b4 v x e W) (b : Nat) (u : Value) (hb : w.heap.size + 1 < b) (hb4 : b4 ≠ b) : Inv w W0 b4 v x e (W.setCell ⟨b, 0, none⟩ u) :=
  ⟨(set_other W u (by omega)).trans h.p, (set_other W u (by omega)).trans h.r, (set_other W u (by omega)).trans h.e, h.b.setCell (p := ⟨b, 0, none⟩) (by show w.heap.size ≤ b; omega) _, by simpa [World.setCell] using h.s⟩
theorem blk_own {W W' : World} {b : Nat} {c : Array Value} {t : TypeId} {f : Nat × Nat} {B : Nat} {row : Option Nat} (h : W.heap[b]? = some (.cells c t f)) (hg : W.grownBy W' row) (hr : ∀ r, row = some r → B ≤ r ∧ ∃ o : Obj, W.heap[r]? = some o ∧ o.isCells = false) : W'.heap[b]? = some (.cells c t f) := by
  refine blk_grown h hg (fun e => ?_)
  obtain ⟨_, o, ho, hc⟩ := hr b e.symm
  rw [h] at ho
  cases ho
  cases hc
theorem Inv.own {w W0 : World} {b4 : Nat} {v x : Int × Int × Int} {e : Int} {W W' : World} {row : Option Nat} (h : Inv w W0 b4 v x e W) (hw : w.heap.size ≤ W0.heap.size) (hg : W.grownBy W' row) (hr : ∀ r, row = some r → W0.heap.size ≤ r ∧ ∃ o : Obj, W.heap[r]? = some o ∧ o.isCells = false) : Inv w W0 b4 v x e W' :=
  ⟨blk_own h.p hg hr, blk_own h.r hg hr, blk_own h.e hg hr, h.b.grown hg h.b.size (fun k e => Nat.le_trans hw (hr k e).1), Nat.le_trans h.s hg.size⟩
theorem foldP_append (v : Int × Int × Int) (a b : List (List UInt8)) : foldP v (a ++ b) = (foldP v a).bind fun u => foldP u b := by
  induction a generalizing v with
  | nil => rfl
  | cons p a ih =>
    simp only [List.cons_append, foldP]
    cases stepP v p with
    | none => rfl
    | some u => simp only [Option.bind_some]; exact ih u
def foldB (l : List ByteArray) : Option (Int × Int × Int) := foldP (0, 0, 0) (l.map L)
theorem foldB_snoc (l : List ByteArray) (x : ByteArray) : foldB (l ++ [x]) = (foldB l).bind fun u => stepP u (L x) := by
  unfold foldB
  rw [List.map_append, foldP_append]
  congr 1
  funext u
  simp only [List.map_cons, List.map_nil, foldP]
  cases stepP u (L x) <;> rfl
theorem foldB_pieces (s : ByteArray) : foldB (pieces s) = foldP (0, 0, 0) (spl (L s)) := by
  unfold foldB pieces
  rw [List.map_map]
  congr 1
  conv => rhs; rw [← List.map_id (spl (L s))]
  exact List.map_congr_left fun x _ => L_mkB x
theorem foldB_prefix {a b : List ByteArray} (h : a <+: b) (e : foldB a = none) : foldB b = none := by
  obtain ⟨c, rfl⟩ := h
  unfold foldB at e ⊢
  rw [List.map_append, foldP_append, e]
  rfl
def parseV (s : ByteArray) : Int × Int × Int := (parseL (L s)).getD (0, 0, 0)
def parseE (s : ByteArray) : Int := if (parseL (L s)).isSome then 0 else 3
theorem Inv.out_p {w W0 : World} {b4 : Nat} {v x : Int × Int × Int} {e : Int} {W : World} (h : Inv w W0 b4 v x e W) (i : Nat) (n : Int) (hi : i < 3) (hb : w.heap.size + 1 < b4) : Inv w W0 b4 (put v i n) x e (W.setCell ⟨b4, i, none⟩ (.int .i64 n)) := by
  have hset : ∀ j, j ≠ b4 → (W.setCell ⟨b4, i, none⟩ (.int .i64 n)).heap[j]? = W.heap[j]? := fun j hj => Below.heap_setCell W ⟨b4, i, none⟩ _ j hj
  refine ⟨?_, (hset _ (by omega)).trans h.r, (hset _ (by omega)).trans h.e, h.b.setCell (p := ⟨b4, i, none⟩) (by show w.heap.size ≤ b4; omega) _, by simpa [World.setCell] using h.s⟩
  have : i = 0 ∨ i = 1 ∨ i = 2 := by omega
  rcases this with rfl | rfl | rfl <;> exact blk_put h.p _ _ rfl
theorem Inv.res {w W0 : World} {b4 : Nat} {v x : Int × Int × Int} {e : Int} {W : World} (h : Inv w W0 b4 v x e W) (hb : w.heap.size + 1 < b4) (y : Int × Int × Int) (f : Int) :
    Inv w W0 b4 v y f ((((W.setCell ⟨w.heap.size, 0, none⟩ (.int .i64 y.1)).setCell ⟨w.heap.size, 1, none⟩ (.int .i64 y.2.1)).setCell ⟨w.heap.size, 2, none⟩ (.int .i64 y.2.2)).setCell ⟨w.heap.size + 1, 0, none⟩ (.int .i64 f)) := by
  have hs : ∀ (X : World) (p : Addr) (u : Value) (j : Nat), j ≠ p.block → (X.setCell p u).heap[j]? = X.heap[j]? := fun X p u j hj => Below.heap_setCell X p u j hj
  have hsz : ∀ (X : World) (p : Addr) (u : Value), (X.setCell p u).heap.size = X.heap.size := fun X p u => by simp [World.setCell]
  refine ⟨?_, ?_, ?_, ?_, ?_⟩
  · rw [hs _ _ _ _ (by show b4 ≠ w.heap.size + 1; omega), hs _ _ _ _ (by show b4 ≠ w.heap.size; omega), hs _ _ _ _ (by show b4 ≠ w.heap.size; omega), hs _ _ _ _ (by show b4 ≠ w.heap.size; omega)]; exact h.p
  · rw [hs _ _ _ _ (by show w.heap.size ≠ w.heap.size + 1; omega)]
    exact blk_put (blk_put (blk_put h.r 0 _ rfl) 1 _ rfl) 2 _ rfl
  · exact blk_put ((hs _ _ _ _ (by show w.heap.size + 1 ≠ w.heap.size; omega)).trans ((hs _ _ _ _ (by show w.heap.size + 1 ≠ w.heap.size; omega)).trans ((hs _ _ _ _ (by show w.heap.size + 1 ≠ w.heap.size; omega)).trans h.e))) 0 _ rfl
  · exact (((h.b.setCell (p := ⟨w.heap.size, 0, none⟩) (Nat.le_refl _) _).setCell (p := ⟨w.heap.size, 1, none⟩) (Nat.le_refl _) _).setCell (p := ⟨w.heap.size, 2, none⟩) (Nat.le_refl _) _).setCell (p := ⟨w.heap.size + 1, 0, none⟩) (Nat.le_succ _) _
  · rw [hsz, hsz, hsz, hsz]; exact h.s
theorem keeps_res {W w : World} {n : Nat} {A : World} (h : KeepsOthers A W) (u0 u1 u2 u3 : Value) : KeepsOthers A ((((W.setCell ⟨n, 0, none⟩ u0).setCell ⟨n, 1, none⟩ u1).setCell ⟨n, 2, none⟩ u2).setCell ⟨n + 1, 0, none⟩ u3) :=
  (((h.trans (KeepsOthers.setCell _ _ _)).trans (KeepsOthers.setCell _ _ _)).trans (KeepsOthers.setCell _ _ _)).trans (KeepsOthers.setCell _ _ _)
theorem parse_results (tmps : Array Value) (b : Nat) (W : World) (x : Int × Int × Int) (e : Int) (h2 : tmps[2]?.getD undef = .pointer (some ⟨b, 0, none⟩)) (h3 : tmps[3]?.getD undef = .pointer (some ⟨b + 1, 0, none⟩))
    (hr : W.heap[b]? = some (.cells #[.int .i64 x.1, .int .i64 x.2.1, .int .i64 x.2.2] 23 (0, 0))) (he : W.heap[b + 1]? = some (.cells #[.int .i64 e] 24 (0, 0))) :
    (results Tryd.f10 tmps).run Tryd.prog W = .ok (.tuple #[vecV x.1 x.2.1 x.2.2, .int .i64 e]) W := by
  have hu23 := Tryd.underlying23
  have hu24 := Tryd.underlying24
  have r0 : W.cell? ⟨b, 0, none⟩ = some (.int .i64 x.1) := (blk_cell hr 0).trans rfl
  have r1 : W.cell? ⟨b, 1, none⟩ = some (.int .i64 x.2.1) := (blk_cell hr 1).trans rfl
  have r2 : W.cell? ⟨b, 2, none⟩ = some (.int .i64 x.2.2) := (blk_cell hr 2).trans rfl
  have q0 : W.cell? ⟨b + 1, 0, none⟩ = some (.int .i64 e) := (blk_cell he 0).trans rfl
  simp [results, Tryd.results10, go_sem, h2, h3, r0, r1, r2, q0, hu23, hu24]
theorem below_put {w W : World} {D : Nat} {o : Obj} (h : Below w.heap.size w W) (hD : w.heap.size ≤ D) : Below w.heap.size w (W.putObj D o) :=
  h.grown (grownBy_putObj' W D o) h.size (fun k e => by cases e; exact hD)
theorem res_other {W : World} {n D : Nat} (u0 u1 u2 u3 : Value) (h : n + 1 < D) : ((((W.setCell ⟨n, 0, none⟩ u0).setCell ⟨n, 1, none⟩ u1).setCell ⟨n, 2, none⟩ u2).setCell ⟨n + 1, 0, none⟩ u3).heap[D]? = W.heap[D]? := by
  have hs : ∀ (X : World) (p : Addr) (u : Value), D ≠ p.block → (X.setCell p u).heap[D]? = X.heap[D]? := fun X p u hj => Below.heap_setCell X p u D hj
  rw [hs _ _ _ (by show D ≠ n + 1; omega), hs _ _ _ (by show D ≠ n; omega), hs _ _ _ (by show D ≠ n; omega), hs _ _ _ (by show D ≠ n; omega)]
theorem idx_range (l : List UInt8) : idx l = -1 ∨ ∃ i : Nat, i < 3 ∧ idx l = i := by
  unfold idx
  split
  · exact .inr ⟨0, by omega, rfl⟩
  · split
    · exact .inr ⟨1, by omega, rfl⟩
    · split
      · exact .inr ⟨2, by omega, rfl⟩
      · exact .inl rfl
def nameBs : List ByteArray := [⟨#[99, 112, 117]⟩, ⟨#[109, 101, 109]⟩, ⟨#[103, 112, 117]⟩]
theorem idx_S (l : List UInt8) : Go.Lib.idxOfS (nameBs.take 3) (mkB l) = idx l := by
  have e : ∀ k : List UInt8, ((⟨k.toArray⟩ : ByteArray) = mkB l) ↔ l = k := fun k => ⟨fun h => by have := congrArg L h; rw [L_mkB] at this; exact (this.symm.trans (L_mk k)), fun h => by rw [h]; rfl⟩
  unfold Go.Lib.idxOfS nameBs idx
  simp only [List.take, Go.Lib.idxFromS]
  have e0 := e [99, 112, 117]
  have e1 := e [109, 101, 109]
  have e2 := e [103, 112, 117]
  simp only [nm]
  by_cases h0 : l = [99, 112, 117]
  · rw [if_pos (e0.2 h0), if_pos h0]; rfl
  · rw [if_neg (fun h => h0 (e0.1 h)), if_neg h0]
    by_cases h1 : l = [109, 101, 109]
    · rw [if_pos (e1.2 h1), if_pos h1]; rfl
    · rw [if_neg (fun h => h1 (e1.1 h)), if_neg h1]
      by_cases h2 : l = [103, 112, 117]
      · rw [if_pos (e2.2 h2), if_pos h2]; rfl
      · rw [if_neg (fun h => h2 (e2.1 h)), if_neg h2]
theorem cut_len (p : List UInt8) : (cutL p).2.length ≤ p.length := by
  unfold cutL
  split
  · simp
  · simp
theorem mkB_size (l : List UInt8) : (mkB l).size = l.length := by rw [← L_length, L_mkB]
theorem step_none {v : Int × Int × Int} {p : List UInt8} (h : idx (cutL p).1 < 0 ∨ Vl.atoiOk (cutL p).2 = false) : stepP v p = none := by unfold stepP; rw [if_pos h]
theorem step_some {v : Int × Int × Int} {p : List UInt8} {i : Nat} (h : idx (cutL p).1 = i) (ho : Vl.atoiOk (cutL p).2 = true) : stepP v p = some (put v i (Vl.atoiVal (cutL p).2)) := by
  unfold stepP; rw [h, if_neg (by rw [ho]; simp)]
set_option maxHeartbeats 8000000 in
set_option maxRecDepth 100000 in
theorem Parse_calls (s : ByteArray) (hs : s.size ≤ 140737488351232) (w : World) (hG : Glob w) : Calls Tryd.prog 10 #[.string s] w fun e w' =>
    e = .returned (.tuple #[vecV (parseV s).1 (parseV s).2.1 (parseV s).2.2, .int .i64 (parseE s)]) ∧ Below w.heap.size w w' := by
  refine (callsIn_wide (n := 3)).1 ?_
  have hu23 := Tryd.underlying23
  have hu51 := Tryd.underlying51
  have hu57 := Tryd.underlying57
  refine callsIn_of_wp_marks Tryd.func10 rfl trivial ?_ rfl
  simp only [Tryd.ntmps10, List.size_toArray, List.length_cons, List.length_nil, Nat.reduceAdd, Nat.reduceSub, Array.replicate_succ, Array.replicate_zero, List.push_toArray, List.append_toArray, List.nil_append, List.cons_append]
  cases h0 : (s.toList == [110, 111, 110, 101])
  · have HP := Aside0.mk (show parseL (L s) = (foldB (pieces s)).bind fun v => if rightB v.1 v.2.1 v.2.2 = true ∧ fmtL v.1 v.2.1 v.2.2 = L s then some v else none from by
      unfold parseL; rw [if_neg (fun h => by rw [toList_L, h] at h0; exact absurd h0 (by decide)), foldB_pieces])
    gi_wp2_with (refine ⟨trivial, ?_⟩; gi_at_call 31; refine (callsIn_wide.2 (SplitSeq_in s _)).mono ?_; rintro e w1 ⟨rfl, hb1, hb2, hb3⟩)
    have hI0 : Inv w w1 (w.heap.size + 1 + 1) (0, 0, 0) (0, 0, 0) 0 w1 := ⟨blk_below (by have := blk_new ((w.alloc (.cells #[.int .i64 0, .int .i64 0, .int .i64 0] 23)).alloc (.cells #[.int .i64 0] 24)) (.cells #[.int .i64 0, .int .i64 0, .int .i64 0] 51); rwa [World.size_alloc, World.size_alloc] at this) hb2,
      blk_below (blk_alloc (blk_alloc (blk_new w _) _) _) hb2, blk_below (blk_alloc (by have := blk_new (w.alloc (.cells #[.int .i64 0, .int .i64 0, .int .i64 0] 23)) (.cells #[.int .i64 0] 24); rwa [World.size_alloc] at this) _) hb2,
      below_then (below_alloc (below_alloc (below_alloc (Below.refl _ _) _) _) _) (below_alloc (below_alloc (below_alloc (Below.refl _ _) _) _) _).size hb2, Nat.le_refl _⟩
    simp only [World.size_alloc] at hb1 hb3
    clear hb2
    obtain ⟨Bs, hBs⟩ : ∃ B, w.heap.size + 1 + 1 + 1 = B := ⟨_, rfl⟩
    obtain ⟨b4, hb4⟩ : ∃ B, w.heap.size + 1 + 1 = B := ⟨_, rfl⟩
    have HBs := Aside0.mk (show w.heap.size + 1 < b4 ∧ b4 < Bs from by omega)
    have HW1 := Aside0.mk (show Bs + 2 < w1.heap.size from by omega)
    rw [hBs] at hb1 ⊢
    rw [hb4] at hI0 ⊢
    clear hBs hb4 hb3
    have HI0 := Aside0.mk hI0
    clear hI0
    refine wpIn_rangeFunc_ownS (α := Txt48) rfl (by omega) (gf := 71) (lb := #[.pointer (some ⟨Bs + 1, 0, none⟩), .pointer (some ⟨Bs, 0, none⟩), .pointer (some ⟨Bs + 2, 0, none⟩)]) rfl trivial (enters_of Tryd.func71 (by kernel_rfl) rfl) (Bs := Bs) (by have := HW1.out; omega)
      (split_stops (3 - 1) (by omega) (Bs + 1) Bs (Bs + 2) (by omega) (by omega) s hs w1 hb1) (fun h k => h.trans k) ?keepb (Below.refl _ _) (fun _ => rfl)
      (fun pre W => ∃ v, foldB (pre.map (·.1)) = some v ∧ Inv w w1 b4 v (0, 0, 0) 0 W)
      (fun c pre W => c = .ret ∧ foldB (pre.map (·.1)) = none ∧ ∃ v, Inv w w1 b4 v (0, 0, 0) 3 W)
      (fun s A B row hs hg hr => by obtain ⟨v, h1, h2⟩ := hs; exact ⟨v, h1, h2.own (by have := HBs.out; have := HW1.out; omega) hg hr⟩)
      (fun c s A B row hs hg hr => by obtain ⟨h0, h1, v, h2⟩ := hs; exact ⟨h0, h1, v, h2.own (by have := HBs.out; have := HW1.out; omega) hg hr⟩)
      (fun s A u hs => by obtain ⟨v, h1, h2⟩ := hs; exact ⟨v, h1, h2.far Bs u (by have := HBs.out; omega) (by have := HBs.out; omega)⟩)
      (fun c s A u hs => by obtain ⟨h0, h1, v, h2⟩ := hs; exact ⟨h0, h1, v, h2.far Bs u (by have := HBs.out; omega) (by have := HBs.out; omega)⟩)
      ⟨(0, 0, 0), rfl, HI0.out⟩
      (fun x => { tmps := #[.string s, undef, .pointer (some ⟨w.heap.size, 0, none⟩), .pointer (some ⟨w.heap.size + 1, 0, none⟩), .pointer (some ⟨b4, 0, none⟩), .string x.1, undef, undef, undef, undef, undef, undef, undef, undef, .string s, .bool false, undef, .string s,
        .func (.func 71) #[] #[.pointer (some ⟨Bs + 1, 0, none⟩), .pointer (some ⟨Bs, 0, none⟩), .pointer (some ⟨Bs + 2, 0, none⟩)], .string x.1, undef, undef, undef, undef, undef, undef, undef, undef, undef, undef, undef, undef, undef, undef, undef, undef, undef, undef, undef, undef, undef, undef, undef, undef, undef, undef, undef, undef, undef, undef, undef, undef, undef, undef, undef, undef, undef], defers := [] }) ?assign ?body ?done ?stop
    case keepb =>
      intro W l o o' hl _ _ _ j hj
      exact World.putObj_heap_other (by have := HW1.out; omega)
    case assign =>
      intro l x W K hK
      gi_wp2
      exact hK
    case body =>
      rintro l pre x W ⟨v, hv, hI⟩ hlen
      have HI := Aside0.mk hI
      have HV := Aside0.mk hv
      clear hI hv hb1
      have hx := Aside0.mk x.2
      gi_wp2_with fail
      refine ⟨trivial, ?_⟩
      refine (CallsIn.inRound l (callsIn_wide.2 (Cut_calls x.1 (by have := hx.out; omega) _))).mono ?_
      rintro e w2 ⟨f, rfl, hb⟩
      have HB2 := Aside0.mk hb
      clear hb
      gi_wp2_with fail
      refine ⟨trivial, ?_⟩
      refine (CallsIn.inRound l (callsIn_wide.2 (names_calls _))).mono ?_
      rintro e w3 ⟨rfl, hb⟩
      have HB3 := Aside0.mk (below_then HB2.out HB2.out.size hb)
      clear hb
      gi_wp2_with fail
      refine ⟨trivial, ?_⟩
      obtain ⟨w4, hw4⟩ : ∃ w4, w3.alloc (.cells #[.string ⟨#[99, 112, 117]⟩, .string ⟨#[109, 101, 109]⟩, .string ⟨#[103, 112, 117]⟩] 57) = w4 := ⟨_, rfl⟩
      have hbk := blk_new w3 (.cells #[.string ⟨#[99, 112, 117]⟩, .string ⟨#[109, 101, 109]⟩, .string ⟨#[103, 112, 117]⟩] 57)
      have HB4 := Aside0.mk (below_alloc HB3.out (.cells #[.string ⟨#[99, 112, 117]⟩, .string ⟨#[109, 101, 109]⟩, .string ⟨#[103, 112, 117]⟩] 57))
      rw [hw4] at hbk HB4 ⊢
      refine (CallsIn.inRound l (callsIn_wide.2 (Tryd.slices_Index_string w3.heap.size 0 3 3 nameBs (mkB (cutL (L x.1)).1) w4 (by decide) (by omega) (fun j hj => by
        have : j = 0 ∨ j = 1 ∨ j = 2 := by have : nameBs.length = 3 := rfl; omega
        rcases this with rfl | rfl | rfl
        · exact (blk_cell hbk 0).trans rfl
        · exact (blk_cell hbk 1).trans rfl
        · exact (blk_cell hbk 2).trans rfl)))).mono ?_
      rintro e w5 ⟨rfl, rfl⟩
      rw [idx_S]
      clear hbk hw4
      gi_wp2_with fail
      refine ⟨trivial, ?_⟩
      refine (CallsIn.inRound l (callsIn_wide.2 (strconv_Atoi_any (mkB (cutL (L x.1)).2) (by rw [mkB_size]; have := cut_len (L x.1); rw [L_length] at this; have := hx.out; omega) _ (hG.below (below_then HI.out.b HI.out.b.size HB4.out))))).mono ?_
      rintro e w6 ⟨ev, rfl, hev1, hev2, hb⟩
      have HB6 := Aside0.mk (below_then HB4.out HB4.out.size hb)
      have HI6 := Aside0.mk (HI.out.below HB6.out)
      clear hb
      have hL : (mkB (cutL (L x.1)).2).data.toList = (cutL (L x.1)).2 := L_mkB _
      rw [hL] at hev1 hev2 ⊢
      clear hL
      have r0 := (blk_cell HI6.out.r 0).trans rfl
      have r1 := (blk_cell HI6.out.r 1).trans rfl
      have r2 := (blk_cell HI6.out.r 2).trans rfl
      have rf := fun i => blk_frozen HI6.out.r i
      have q0 := (blk_cell HI6.out.e 0).trans rfl
      have qf := blk_frozen HI6.out.e 0
      have p0 := (blk_cell HI6.out.p 0).trans rfl
      have p1 := (blk_cell HI6.out.p 1).trans rfl
      have p2 := (blk_cell HI6.out.p 2).trans rfl
      have pf := fun i => blk_frozen HI6.out.p i
      rcases idx_range (cutL (L x.1)).1 with hi | ⟨i, hi3, hi⟩
      · have HS := Aside0.mk (step_none (v := v) (p := L x.1) (.inl (by omega)))
        rw [hi]
        clear hi hev1 hev2
        gi_wp2_with fail
        refine ⟨keeps_res (w := w) (keepsOthers_below HB6.out) _ _ _ _, rfl, ?_, v, HI6.out.res HBs.out.1 (0, 0, 0) 3⟩
        rw [List.map_append, List.map_cons, List.map_nil, foldB_snoc, HV.out]
        exact HS.out
      · cases ho : Vl.atoiOk (cutL (L x.1)).2 with
        | false =>
          have HS := Aside0.mk (step_none (v := v) (p := L x.1) (.inr ho))
          obtain ⟨t, q, rfl⟩ := hev2 ho
          rw [hi]
          clear hi hev1 hev2 ho
          gi_wp2_with fail
          refine ⟨keeps_res (w := w) (keepsOthers_below HB6.out) _ _ _ _, rfl, ?_, v, HI6.out.res HBs.out.1 (0, 0, 0) 3⟩
          rw [List.map_append, List.map_cons, List.map_nil, foldB_snoc, HV.out]
          exact HS.out
        | true =>
          have HS := Aside0.mk (step_some (v := v) (p := L x.1) hi ho)
          obtain rfl := hev1 ho
          rw [hi]
          clear hi hev1 hev2 ho
          have : i = 0 ∨ i = 1 ∨ i = 2 := by omega
          rcases this with rfl | rfl | rfl
          · gi_wp2_with fail
            refine ⟨(keepsOthers_below HB6.out).trans (KeepsOthers.setCell _ _ _), ?_, _, ?_, HI6.out.out_p 0 _ (by omega) HBs.out.1⟩
            · have h1 := HI.out.s
              have h2 := HW1.out
              have h3 := HBs.out
              exact (KeepsBoxes.below HB6.out (by omega) (by omega) (by omega)).set ⟨b4, 0, none⟩ _ (by show Bs + 1 ≠ b4; omega) (by show Bs ≠ b4; omega) (by show Bs + 2 ≠ b4; omega)
            · rw [List.map_append, List.map_cons, List.map_nil, foldB_snoc, HV.out]
              exact HS.out
          · gi_wp2_with fail
            refine ⟨(keepsOthers_below HB6.out).trans (KeepsOthers.setCell _ _ _), ?_, _, ?_, HI6.out.out_p 1 _ (by omega) HBs.out.1⟩
            · have h1 := HI.out.s
              have h2 := HW1.out
              have h3 := HBs.out
              exact (KeepsBoxes.below HB6.out (by omega) (by omega) (by omega)).set ⟨b4, 1, none⟩ _ (by show Bs + 1 ≠ b4; omega) (by show Bs ≠ b4; omega) (by show Bs + 2 ≠ b4; omega)
            · rw [List.map_append, List.map_cons, List.map_nil, foldB_snoc, HV.out]
              exact HS.out
          · gi_wp2_with fail
            refine ⟨(keepsOthers_below HB6.out).trans (KeepsOthers.setCell _ _ _), ?_, _, ?_, HI6.out.out_p 2 _ (by omega) HBs.out.1⟩
            · have h1 := HI.out.s
              have h2 := HW1.out
              have h3 := HBs.out
              exact (KeepsBoxes.below HB6.out (by omega) (by omega) (by omega)).set ⟨b4, 2, none⟩ _ (by show Bs + 1 ≠ b4; omega) (by show Bs ≠ b4; omega) (by show Bs + 2 ≠ b4; omega)
            · rw [List.map_append, List.map_cons, List.map_nil, foldB_snoc, HV.out]
              exact HS.out
    case done =>
      rintro D ys W hD hys ⟨v, hv, hI⟩ hK
      rw [hys] at hv
      have HI := Aside0.mk hI
      have p0 := (blk_cell HI.out.p 0).trans rfl
      have p1 := (blk_cell HI.out.p 1).trans rfl
      have p2 := (blk_cell HI.out.p 2).trans rfl
      clear hI hys
      gi_wp2_with fail
      refine ⟨trivial, ?_⟩
      refine (callsIn_wide.2 (whole_calls v.1 v.2.1 v.2.2 _)).mono ?_
      rintro e w2 ⟨rfl, hb⟩
      have HI2 := Aside0.mk (HI.out.below hb)
      have HK2 := Aside0.mk (blk_below hK hb)
      clear hb HI hK p0 p1 p2
      have hbk := blk_new w2 (.cells #[.int .i64 v.1, .int .i64 v.2.1, .int .i64 v.2.2] 23)
      have HI3 := Aside0.mk (HI2.out.below (below_alloc (Below.refl _ _) (.cells #[.int .i64 v.1, .int .i64 v.2.1, .int .i64 v.2.2] 23)))
      have HK3 := Aside0.mk (blk_alloc HK2.out (.cells #[.int .i64 v.1, .int .i64 v.2.1, .int .i64 v.2.2] 23))
      have HG := Aside0.mk (Nat.le_trans HI2.out.b.size (Nat.le_refl _))
      gi_wp2_with fail
      refine ⟨trivial, ?_⟩
      obtain ⟨w3, hw3⟩ : ∃ w3, w2.alloc (.cells #[.int .i64 v.1, .int .i64 v.2.1, .int .i64 v.2.2] 23) = w3 := ⟨_, rfl⟩
      obtain ⟨b5, hb5⟩ : ∃ b5, w2.heap.size = b5 := ⟨_, rfl⟩
      rw [hw3] at hbk HI3 HK3 ⊢
      rw [hb5] at hbk HG ⊢
      clear hw3 hb5 HI2 HK2
      refine (callsIn_wide.2 (Right_calls v.1 v.2.1 v.2.2 _)).mono ?_
      rintro e w4 ⟨rfl, hb⟩
      have HI4 := Aside0.mk (HI3.out.below hb)
      have HK4 := Aside0.mk (blk_below HK3.out hb)
      have hbk4 := Aside0.mk (blk_below hbk hb)
      clear hb hbk
      have s0 := (blk_cell hbk4.out 0).trans rfl
      have s1 := (blk_cell hbk4.out 1).trans rfl
      have s2 := (blk_cell hbk4.out 2).trans rfl
      cases hr : rightB v.1 v.2.1 v.2.2 with
      | false =>
        have hPL : parseL (L s) = none := by rw [HP.out, hv]; simp [hr]
        have r0 := (blk_cell HI4.out.r 0).trans rfl
        have r1 := (blk_cell HI4.out.r 1).trans rfl
        have r2 := (blk_cell HI4.out.r 2).trans rfl
        have rf := fun i => blk_frozen HI4.out.r i
        have q0 := (blk_cell HI4.out.e 0).trans rfl
        have qf := blk_frozen HI4.out.e 0
        gi_wp2_with (refine ⟨trivial, ?_⟩)
        refine ⟨by simp, .inl ⟨_, _, rfl, run_takeDeferred ((res_other _ _ _ _ (by have := HBs.out; have := HW1.out; omega)).trans HK4.out), ?_⟩⟩
        have hI := HI4.out.res HBs.out.1 (0, 0, 0) 3
        have hD1 := HBs.out
        have hD2 := HW1.out
        refine ⟨_, parse_results _ w.heap.size _ (0, 0, 0) 3 rfl rfl ((World.putObj_heap_other (by omega)).trans hI.r) ((World.putObj_heap_other (by omega)).trans hI.e), ?_, below_put hI.b (by omega)⟩
        unfold parseV parseE
        rw [hPL]
        rfl
      | true =>
        obtain ⟨ia, ib, ic⟩ := right_i64 hr
        gi_wp2_with fail
        refine ⟨trivial, ?_⟩
        refine (callsIn_wide.2 (Format_calls v.1 v.2.1 v.2.2 _ ia ib ic (hG.below HI4.out.b))).mono ?_
        rintro e w5 ⟨rfl, hb⟩
        have HI5 := Aside0.mk (HI4.out.below hb)
        have HK5 := Aside0.mk (blk_below HK4.out hb)
        have hbk5 := Aside0.mk (blk_below hbk4.out hb)
        clear hb
        have s0' := (blk_cell hbk5.out 0).trans rfl
        have s1' := (blk_cell hbk5.out 1).trans rfl
        have s2' := (blk_cell hbk5.out 2).trans rfl
        have r0 := (blk_cell HI5.out.r 0).trans rfl
        have r1 := (blk_cell HI5.out.r 1).trans rfl
        have r2 := (blk_cell HI5.out.r 2).trans rfl
        have rf := fun i => blk_frozen HI5.out.r i
        have q0 := (blk_cell HI5.out.e 0).trans rfl
        have qf := blk_frozen HI5.out.e 0
        cases hq : ((mkB (fmtL v.1 v.2.1 v.2.2)).toList == s.toList) with
        | false =>
          have hPL : parseL (L s) = none := by
            rw [HP.out, hv, Option.bind_some, if_neg]
            rintro ⟨_, h⟩
            rw [toList_L, toList_L, L_mkB, h] at hq
            simp at hq
          gi_wp2_with fail
          refine ⟨by simp, .inl ⟨_, _, rfl, run_takeDeferred ((res_other _ _ _ _ (by have := HBs.out; have := HW1.out; omega)).trans HK5.out), ?_⟩⟩
          have hI := HI5.out.res HBs.out.1 (0, 0, 0) 3
          have hD1 := HBs.out
          have hD2 := HW1.out
          refine ⟨_, parse_results _ w.heap.size _ (0, 0, 0) 3 rfl rfl ((World.putObj_heap_other (by omega)).trans hI.r) ((World.putObj_heap_other (by omega)).trans hI.e), ?_, below_put hI.b (by omega)⟩
          unfold parseV parseE
          rw [hPL]
          rfl
        | true =>
          have hPL : parseL (L s) = some v := by
            rw [HP.out, hv, Option.bind_some, if_pos]
            refine ⟨hr, ?_⟩
            have := beq_iff_eq.1 hq
            rwa [toList_L, toList_L, L_mkB] at this
          gi_wp2_with fail
          refine ⟨by simp, .inl ⟨_, _, rfl, run_takeDeferred ((res_other _ _ _ _ (by have := HBs.out; have := HW1.out; omega)).trans HK5.out), ?_⟩⟩
          have hI := HI5.out.res HBs.out.1 v 0
          have hD1 := HBs.out
          have hD2 := HW1.out
          refine ⟨_, parse_results _ w.heap.size _ v 0 rfl rfl ((World.putObj_heap_other (by omega)).trans hI.r) ((World.putObj_heap_other (by omega)).trans hI.e), ?_, below_put hI.b (by omega)⟩
          unfold parseV parseE
          rw [hPL]
          rfl
    case stop =>
      rintro D c pre W hD hpre ⟨rfl, hv, v, hI⟩ hK
      gi_wp2_with fail
      refine ⟨by simp, .inl ⟨_, _, rfl, run_takeDeferred hK, ?_⟩⟩
      have hD1 := HBs.out
      have hD2 := HW1.out
      have hN := foldB_prefix hpre hv
      have hPL : parseL (L s) = none := by rw [HP.out, hN]; rfl
      refine ⟨_, parse_results _ w.heap.size _ (0, 0, 0) 3 rfl rfl ((World.putObj_heap_other (by omega)).trans hI.r) ((World.putObj_heap_other (by omega)).trans hI.e), ?_, below_put hI.b (by omega)⟩
      unfold parseV parseE
      rw [hPL]
      rfl
  · gi_wp2
    have hPL : parseL (L s) = some (0, 0, 0) := by unfold parseL; rw [if_pos (by rw [← toList_L]; exact beq_iff_eq.1 h0)]
    refine ⟨_, parse_results _ w.heap.size _ (0, 0, 0) 0 rfl rfl (blk_alloc (blk_new w _) _) (by have := blk_new (w.alloc (.cells #[.int .i64 0, .int .i64 0, .int .i64 0] 23)) (.cells #[.int .i64 0] 24); rwa [World.size_alloc] at this), ?_, below_alloc (below_alloc (Below.refl _ _) _) _⟩
    unfold parseV parseE
    rw [hPL]
    rfl
end Go.Proofs.YtcpikafmclfcfaaDoor.Vc
end
section
namespace Go.Proofs.YtcpikafmclfcfaaDoor.PV
open Go.RowKit Go.Proofs.YtcpikafmclfcfaaDoorW.PrintWords Go.Proofs.YtcpikafmclfcfaaDoorW.PrintLast Go.Proofs.YtcpikafmclfcfaaDoorW.PrintMore
attribute [local go_sem] max2_int min2_int max_two min_two max_three min_three max_four min_four   
set_option linter.unusedVariables false
set_option linter.unusedSimpArgs false
end Go.Proofs.YtcpikafmclfcfaaDoor.PV
end
section
namespace Go.Proofs.YtcpikafmclfcfaaDoor.Vc
open Go.RowKit Go.Proofs.YtcpikafmclfcfaaDoor.Txt Go.Proofs.YtcpikafmclfcfaaDoorW.PrintWords Go.Proofs.YtcpikafmclfcfaaDoorW.PrintLast Go.Proofs.YtcpikafmclfcfaaDoorW.PrintMore Go.Proofs.YtcpikafmclfcfaaDoor.PV Go.Proofs.YtcpikafmclfcfaaDoor.Vl
set_option linter.unusedVariables false
set_option linter.unusedSimpArgs false
end Go.Proofs.YtcpikafmclfcfaaDoor.Vc
end
section
namespace Go.Proofs.YtcpikafmclfcfaaDoor.Vc
open Go.RowKit Go.Proofs.YtcpikafmclfcfaaDoorW.PrintWords Go.Proofs.YtcpikafmclfcfaaDoorW.PrintLast Go.Proofs.YtcpikafmclfcfaaDoorW.PrintMore Go.Proofs.YtcpikafmclfcfaaDoor.PV Go.Proofs.YtcpikafmclfcfaaDoor.Vl
attribute [local go_sem] max2_int min2_int max_two min_two max_three min_three max_four min_four
set_option linter.unusedVariables false
set_option linter.unusedSimpArgs false
def stepI (n u p : Int) : Int := if u > 0 then mn n (wrap64 (Int.tdiv p u)) else n
def accI (a b c x y z : Int) : Nat → Int
  | 0 => 1073741824
  | k + 1 => stepI (accI a b c x y z k) (pt a b c k) (pt x y z k)
def intoF (a b c x y z : Int) : Int := if rightB a b c = true ∧ rightB x y z = true then accI a b c x y z 3 else 0
theorem cell3 {W : World} {b : Nat} {x y z : Value} {t : TypeId} (h : W.heap[b]? = some (.cells #[x, y, z] t (0, 0))) : W.cell? ⟨b, 0, none⟩ = some x ∧ W.cell? ⟨b, 1, none⟩ = some y ∧ W.cell? ⟨b, 2, none⟩ = some z :=
  ⟨(blk_cell h 0).trans rfl, (blk_cell h 1).trans rfl, (blk_cell h 2).trans rfl⟩
theorem cellk {W : World} {b : Nat} {x y z : Int} {t : TypeId} (h : W.heap[b]? = some (.cells #[.int .i64 x, .int .i64 y, .int .i64 z] t (0, 0))) (k : Nat) (hk : k < 3) : W.cell? ⟨b, k, none⟩ = some (.int .i64 (pt x y z k)) := by
  have : k = 0 ∨ k = 1 ∨ k = 2 := by omega
  rcases this with rfl | rfl | rfl
  · exact (cell3 h).1
  · exact (cell3 h).2.1
  · exact (cell3 h).2.2
set_option maxHeartbeats 2000000 in
set_option maxRecDepth 100000 in
theorem Into_calls (a b c x y z : Int) (w : World) : Calls Tryd.prog 19 #[vecV a b c, vecV x y z] w fun e w' => e = .returned (.int .i64 (intoF a b c x y z)) ∧ Below w.heap.size w w' := by
  have hu23 := Tryd.underlying23
  have hu51 := Tryd.underlying51
  cases h1 : rightB a b c with
  | false =>
    have hI : intoF a b c x y z = 0 := by unfold intoF; rw [if_neg (by simp [h1])]
    rw [hI]
    clear hI
    go_enter Tryd.func19, Tryd.ntmps19
    go_wp2_with fail
    refine (Right_calls a b c _).mono ?_
    rintro e w1 ⟨rfl, hb⟩
    rw [h1]
    have HB := Aside0.mk (below_then (below_alloc (below_alloc (Below.refl w.heap.size w) _) _) (below_alloc (below_alloc (Below.refl w.heap.size w) _) _).size hb)
    clear hb
    go_wp2_with fail
    go_ret
    exact ⟨rfl, HB.out⟩
  | true =>
    go_enter Tryd.func19, Tryd.ntmps19
    go_wp2_with fail
    obtain ⟨w0, hw0⟩ : ∃ w0, (w.alloc (.cells #[.int .i64 a, .int .i64 b, .int .i64 c] 23)).alloc (.cells #[.int .i64 x, .int .i64 y, .int .i64 z] 23) = w0 := ⟨_, rfl⟩
    have HB0 := Aside0.mk (below_alloc (below_alloc (Below.refl w.heap.size w) (.cells #[.int .i64 a, .int .i64 b, .int .i64 c] 23)) (.cells #[.int .i64 x, .int .i64 y, .int .i64 z] 23))
    have BV0 := Aside0.mk (blk_alloc (blk_new w (.cells #[.int .i64 a, .int .i64 b, .int .i64 c] 23)) (.cells #[.int .i64 x, .int .i64 y, .int .i64 z] 23))
    have BW0 := Aside0.mk (blk_new (w.alloc (.cells #[.int .i64 a, .int .i64 b, .int .i64 c] 23)) (.cells #[.int .i64 x, .int .i64 y, .int .i64 z] 23))
    rw [World.size_alloc] at BW0
    rw [hw0] at HB0 BV0 BW0 ⊢
    clear hw0
    refine (Right_calls a b c _).mono ?_
    rintro e w1 ⟨rfl, hb⟩
    rw [h1]
    have HB1 := Aside0.mk (below_then HB0.out HB0.out.size hb)
    have BV1 := Aside0.mk (blk_below BV0.out hb)
    have BW1 := Aside0.mk (blk_below BW0.out hb)
    clear hb HB0 BV0 BW0
    obtain ⟨c0, c1, c2⟩ := cell3 BW1.out
    go_wp2_with fail
    refine (Right_calls x y z _).mono ?_
    rintro e w2 ⟨rfl, hb⟩
    have HB2 := Aside0.mk (below_then HB1.out HB1.out.size hb)
    have BV2 := Aside0.mk (blk_below BV1.out hb)
    have BW2 := Aside0.mk (blk_below BW1.out hb)
    clear hb HB1 BV1 BW1 c0 c1 c2
    cases h2 : rightB x y z with
    | false =>
      have hI : intoF a b c x y z = 0 := by unfold intoF; rw [if_neg (by simp [h2])]
      go_wp2_with fail
      go_ret
      exact ⟨by rw [hI]; rfl, HB2.out⟩
    | true =>
      have hI := Aside0.mk (show intoF a b c x y z = accI a b c x y z 3 from by unfold intoF; rw [if_pos ⟨h1, h2⟩])
      obtain ⟨c0, c1, c2⟩ := cell3 BW2.out
      go_wp2_with fail
      refine (parts_calls x y z _).mono ?_
      rintro e w3 ⟨rfl, hb⟩
      have HB3 := Aside0.mk (below_then HB2.out HB2.out.size hb)
      have BV3 := Aside0.mk (blk_below BV2.out hb)
      clear hb HB2 BV2 BW2 c0 c1 c2
      have BV4 := Aside0.mk (blk_alloc BV3.out (.cells #[.int .i64 x, .int .i64 y, .int .i64 z] 51))
      have BP4 := Aside0.mk (blk_new w3 (.cells #[.int .i64 x, .int .i64 y, .int .i64 z] 51))
      have HB4 := Aside0.mk (below_alloc HB3.out (.cells #[.int .i64 x, .int .i64 y, .int .i64 z] 51))
      have HP := Aside0.mk (HB3.out.size)
      obtain ⟨d0, d1, d2⟩ := cell3 BV4.out
      clear HB3 BV3
      go_wp2_with fail
      obtain ⟨w4, hw4⟩ : ∃ w4, w3.alloc (.cells #[.int .i64 x, .int .i64 y, .int .i64 z] 51) = w4 := ⟨_, rfl⟩
      obtain ⟨b6, hb6⟩ : ∃ b6, w3.heap.size = b6 := ⟨_, rfl⟩
      rw [hw4] at BV4 BP4 HB4 ⊢
      rw [hb6] at BP4 HP ⊢
      clear hw4 hb6 d0 d1 d2
      refine (parts_calls a b c _).mono ?_
      rintro e w5 ⟨rfl, hb⟩
      have HB5 := Aside0.mk (below_then HB4.out HB4.out.size hb)
      have BP5 := Aside0.mk (blk_below BP4.out hb)
      clear hb HB4 BP4 BV4
      go_wp2
      go_loopw [5, 21] (fun v5 v21 wr => ∃ k : Nat, k ≤ 3 ∧ v21 = .int .i64 k ∧ v5 = .int .i64 (accI a b c x y z k) ∧ wr = w5) (fun _ v21 _ => 3 - (intOf v21).toNat)
      case atStart => exact ⟨0, by omega, rfl, rfl, rfl⟩
      case round =>
        obtain ⟨k, hk, rfl, rfl, rfl⟩ := hrel
        by_cases hlt : k < 3
        · have hix := pix a b c k hlt
          have hck := cellk BP5.out k hlt
          by_cases hz : pt a b c k > 0
          · have HZ := Aside0.mk (show accI a b c x y z (k + 1) = mn (accI a b c x y z k) (wrap64 (Int.tdiv (pt x y z k) (pt a b c k))) by rw [accI, stepI, if_pos hz])
            have hne : (pt a b c k = 0) = False := eq_false (by omega)
            go_wp2
            exact ⟨⟨k + 1, by omega, by simp, by rw [HZ.out]; rfl, trivial⟩, by simp [intOf]; omega⟩
          · have HZ := Aside0.mk (show accI a b c x y z (k + 1) = accI a b c x y z k by rw [accI, stepI, if_neg hz])
            go_wp2
            exact ⟨⟨k + 1, by omega, by simp, by rw [HZ.out], trivial⟩, by simp [intOf]; omega⟩
        · obtain rfl : k = 3 := by omega
          go_wp2
          go_ret
          exact ⟨by rw [hI.out]; rfl, HB5.out⟩
end Go.Proofs.YtcpikafmclfcfaaDoor.Vc
end
section
namespace Go.Proofs.YtcpikafmclfcfaaDoor.Vc
open Go.RowKit Go.Proofs.YtcpikafmclfcfaaDoor.Txt Go.Proofs.YtcpikafmclfcfaaDoorW.PrintWords Go.Proofs.YtcpikafmclfcfaaDoorW.PrintLast Go.Proofs.YtcpikafmclfcfaaDoorW.PrintMore Go.Proofs.YtcpikafmclfcfaaDoor.PV Go.Proofs.YtcpikafmclfcfaaDoor.Vl
set_option linter.unusedVariables false
set_option linter.unusedSimpArgs false
end Go.Proofs.YtcpikafmclfcfaaDoor.Vc
end
section
namespace Go.Proofs.YtcpikafmclfcfaaDoor.Vc
open Go.RowKit Go.Proofs.YtcpikafmclfcfaaDoor.Txt Go.Proofs.YtcpikafmclfcfaaDoorW.PrintWords Go.Proofs.YtcpikafmclfcfaaDoorW.PrintLast Go.Proofs.YtcpikafmclfcfaaDoorW.PrintMore Go.Proofs.YtcpikafmclfcfaaDoor.PV Go.Proofs.YtcpikafmclfcfaaDoor.Vl
open Go.Proofs.YtcpikafmclfcfaaDoor.Lib (Glob)
set_option linter.unusedVariables false
set_option linter.unusedSimpArgs false
def probe : ByteArray := ⟨#[99, 112, 117, 61, 52, 44, 103, 112, 117, 61, 50]⟩
theorem probe_fmt : fmtL 4 0 2 = L probe := by
  have d4 : Go.Lib.decDigits 4 = [52] := Go.Lib.decDigits_one (by omega)
  have d2 : Go.Lib.decDigits 2 = [50] := Go.Lib.decDigits_one (by omega)
  unfold fmtL
  rw [if_neg (by omega)]
  simp [partsL, one, partL, nm, Go.Lib.itoa, d4, d2, Go.Lib.join, List.intercalate, L, probe]
theorem probe_parse : parseL (L probe) = some (4, 0, 2) := (parse_iff _ _ _ _).2 ⟨by decide, probe_fmt⟩
theorem probe_into : intoF 4 0 2 9 0 5 = 2 := by decide +kernel
set_option maxHeartbeats 2000000 in
set_option maxRecDepth 100000 in
theorem alive_calls (w : World) (hG : Glob w) : Calls Tryd.prog 14 #[] w fun e w' => e = .returned (.bool true) ∧ Below w.heap.size w w' := by
  have hu23 := Tryd.underlying23
  have hu24 := Tryd.underlying24
  have hV : ((parseV probe).1 = 4 ∧ (parseV probe).2.1 = 0 ∧ (parseV probe).2.2 = 2) ∧ parseE probe = 0 := by
    unfold parseV parseE; rw [probe_parse]; exact ⟨⟨rfl, rfl, rfl⟩, rfl⟩
  obtain ⟨⟨v1, v2, v3⟩, ve⟩ := hV
  go_enter Tryd.func14, Tryd.ntmps14
  go_wp2_with fail
  refine (Parse_calls probe (by decide) w hG).mono ?_
  rintro e w1 ⟨rfl, hb⟩
  rw [v1, v2, v3, ve]
  have HB1 := Aside0.mk hb
  clear hb v1 v2 v3 ve
  have HB2 := Aside0.mk (below_alloc HB1.out (.cells #[.int .i64 4, .int .i64 0, .int .i64 2] 23))
  have BK2 := Aside0.mk (blk_new w1 (.cells #[.int .i64 4, .int .i64 0, .int .i64 2] 23))
  go_wp2_with fail
  obtain ⟨w2, hw2⟩ : ∃ w2, w1.alloc (.cells #[.int .i64 4, .int .i64 0, .int .i64 2] 23) = w2 := ⟨_, rfl⟩
  obtain ⟨b2, hb2⟩ : ∃ b2, w1.heap.size = b2 := ⟨_, rfl⟩
  rw [hw2] at HB2 BK2 ⊢
  rw [hb2] at BK2 ⊢
  clear hw2 hb2 HB1
  refine (Format_calls 4 0 2 _ (by unfold I64; omega) (by unfold I64; omega) (by unfold I64; omega) (hG.below HB2.out)).mono ?_
  rintro e w3 ⟨rfl, hb⟩
  have HB3 := Aside0.mk (below_then HB2.out HB2.out.size hb)
  have BK3 := Aside0.mk (blk_below BK2.out hb)
  clear hb HB2 BK2
  have e1 : mkB (fmtL 4 0 2) = ⟨#[99, 112, 117, 61, 52, 44, 103, 112, 117, 61, 50]⟩ := by rw [probe_fmt]; rfl
  rw [e1]
  obtain ⟨c0, c1, c2⟩ := cell3 BK3.out
  clear e1
  go_wp2_with fail
  refine (Into_calls 4 0 2 9 0 5 _).mono ?_
  rintro e w4 ⟨rfl, hb⟩
  have HB4 := Aside0.mk (below_then HB3.out HB3.out.size hb)
  clear hb HB3 BK3 c0 c1 c2
  rw [probe_into]
  go_wp2_with fail
  refine (Format_calls 0 0 0 _ (by unfold I64; omega) (by unfold I64; omega) (by unfold I64; omega) (hG.below HB4.out)).mono ?_
  rintro e w5 ⟨rfl, hb⟩
  have HB5 := Aside0.mk (below_then HB4.out HB4.out.size hb)
  clear hb HB4
  have e1 : mkB (fmtL 0 0 0) = ⟨#[110, 111, 110, 101]⟩ := rfl
  rw [e1]
  go_wp2_with fail
  go_ret
  exact ⟨rfl, HB5.out⟩
end Go.Proofs.YtcpikafmclfcfaaDoor.Vc
end
section
namespace Go.Proofs.YtcpikafmclfcfaaDoor.PY
open Go.RowKit Go.Proofs.YtcpikafmclfcfaaDoor.Txt Go.Proofs.YtcpikafmclfcfaaDoorW.PrintWords Go.Proofs.YtcpikafmclfcfaaDoor.Vl Go.Proofs.YtcpikafmclfcfaaDoor.Vc
open Go.Proofs.YtcpikafmclfcfaaDoor.Lib (Glob)
set_option linter.unusedVariables false
end Go.Proofs.YtcpikafmclfcfaaDoor.PY
end
section
namespace Go.Proofs.YtcpikafmclfcfaaDoor.PY
open Go.RowKit Go.Proofs.YtcpikafmclfcfaaDoor.Lib Go.Proofs.YtcpikafmclfcfaaDoorW.PrintWords Go.Proofs.YtcpikafmclfcfaaDoorW.PrintLast Go.Proofs.YtcpikafmclfcfaaDoorW.PrintMore
attribute [local go_sem] max2_int min2_int max_two min_two max_three min_three max_four min_four   
set_option linter.unusedVariables false
set_option linter.unusedSimpArgs false
def errW : Option Int → Value
  | none => .nilIface
  | some c => .iface 0 (.int .i64 c)
theorem errW_none : errW none = .nilIface := rfl
theorem errW_some (c : Int) : errW (some c) = .iface 0 (.int .i64 c) := rfl
structure S23 where
  f0 : Int
  f1 : Int
  f2 : Int
def z23 : S23 := ⟨(0 : Int), (0 : Int), (0 : Int)⟩
def k23 : Kd S23 := Kd.iso (Kd.pair (Kd.int .i64) (Kd.pair (Kd.int .i64) (Kd.int .i64))) (fun x : S23 => (x.f0, x.f1, x.f2))
theorem k23_open {w : World} {x : S23} {cs : List Value} (h : k23.K w x cs) : cs = [.int .i64 x.f0, .int .i64 x.f1, .int .i64 x.f2] := by
  obtain ⟨_, _, rfl, rfl, ⟨_, _, rfl, rfl, rfl⟩⟩ := h
  exact rfl
def rd_T23 (xs : List S23) (i : Int) : S23 := xs.getD i.toNat z23
theorem at_T23 {w : World} {A : Option Addr} {n : Nat} {xs : List S23} (h : Kd.C k23 w A n xs) (i : Int) (h0 : 0 ≤ i) (h1 : i < n) : ∃ ad , A = some ad ∧ w.cell? (ad.add (i.toNat * 3)) = some (.int .i64 (rd_T23 xs i).f0) ∧ w.cell? ⟨(ad.add (i.toNat * 3)).block, (ad.add (i.toNat * 3)).off + 1, none⟩ = some (.int .i64 (rd_T23 xs i).f1) ∧ w.cell? ⟨(ad.add (i.toNat * 3)).block, (ad.add (i.toNat * 3)).off + 2, none⟩ = some (.int .i64 (rd_T23 xs i).f2) := by
  obtain ⟨ad, c, e, _, hK, hc0⟩ := Kd.C_get h z23 i h0 h1
  have hc : ∀ j u, c[j]? = some u → w.cell? (ad.add (i.toNat * 3 + j)) = some u := hc0
  obtain rfl := k23_open hK
  exact ⟨ad, e, hc 0 _ rfl, by rw [← add_field _ _ 1 (by omega)]; exact hc 1 _ rfl, by rw [← add_field _ _ 2 (by omega)]; exact hc 2 _ rfl⟩
end Go.Proofs.YtcpikafmclfcfaaDoor.PY
end
section
namespace Go.Proofs.YtcpikafmclfcfaaDoor.PY
open Go.RowKit Go.Proofs.YtcpikafmclfcfaaDoor.Lib Go.Proofs.YtcpikafmclfcfaaDoorW.PrintWords Go.Proofs.YtcpikafmclfcfaaDoorW.PrintLast Go.Proofs.YtcpikafmclfcfaaDoorW.PrintMore
attribute [local go_sem] max2_int min2_int max_two min_two max_three min_three max_four min_four   
set_option linter.unusedVariables false
set_option linter.unusedSimpArgs false
theorem eqA23 (d : Nat) (w : World) (x0 y0 : Int) (x1 y1 : Int) (x2 y2 : Int) :
    (Op.equalIn (d + 2) 23 (.agg #[.int .i64 x0, .int .i64 x1, .int .i64 x2]) (.agg #[.int .i64 y0, .int .i64 y1, .int .i64 y2])).run Tryd.prog w = .ok (x0 == y0 && (x1 == y1 && (x2 == y2))) w := by
  refine eqA_of Tryd.underlying23 (by kernel_rfl) ?_
  refine eqf_cons (by rfl) (by go_simp; rfl) (by go_simp; rfl) (by go_simp) ?_
  refine eqf_cons (by rfl) (by go_simp; rfl) (by go_simp; rfl) (by go_simp) ?_
  exact eqf_last (by rfl) (by go_simp; rfl) (by go_simp; rfl) (by go_simp)
end Go.Proofs.YtcpikafmclfcfaaDoor.PY
end
section
namespace Go.Proofs.YtcpikafmclfcfaaDoor.Vc
open Go.RowKit Go.Proofs.YtcpikafmclfcfaaDoorW.PrintWords Go.Proofs.YtcpikafmclfcfaaDoorW.PrintLast Go.Proofs.YtcpikafmclfcfaaDoorW.PrintMore Go.Proofs.YtcpikafmclfcfaaDoor.PV Go.Proofs.YtcpikafmclfcfaaDoor.Vl
set_option linter.unusedVariables false
set_option linter.unusedSimpArgs false
def fitsB (a b c x y z : Int) : Bool := decide (a ≤ x) && decide (b ≤ y) && decide (c ≤ z)
theorem keep3 {W : World} {n m : Nat} {o : Obj} (h : W.heap[m]? = some o) (hne : m ≠ n) (u v s : Value) : (((W.setCell ⟨n, 0, none⟩ u).setCell ⟨n, 1, none⟩ v).setCell ⟨n, 2, none⟩ s).heap[m]? = some o := by
  rw [Below.heap_setCell _ ⟨n, 2, none⟩ _ m hne, Below.heap_setCell _ ⟨n, 1, none⟩ _ m hne, Below.heap_setCell _ ⟨n, 0, none⟩ _ m hne]; exact h
theorem put3 {W : World} {n : Nat} {x y z : Value} {t : TypeId} (h : W.heap[n]? = some (.cells #[x, y, z] t (0, 0))) (u v s : Value) : (((W.setCell ⟨n, 0, none⟩ u).setCell ⟨n, 1, none⟩ v).setCell ⟨n, 2, none⟩ s).heap[n]? = some (.cells #[u, v, s] t (0, 0)) :=
  blk_put (blk_put (blk_put h 0 _ rfl) 1 _ rfl) 2 _ rfl
theorem below3 {w W : World} {n : Nat} (h : Below w.heap.size w W) (hn : w.heap.size ≤ n) (u v s : Value) : Below w.heap.size w (((W.setCell ⟨n, 0, none⟩ u).setCell ⟨n, 1, none⟩ v).setCell ⟨n, 2, none⟩ s) :=
  ((h.setCell (p := ⟨n, 0, none⟩) hn _).setCell (p := ⟨n, 1, none⟩) hn _).setCell (p := ⟨n, 2, none⟩) hn _
end Go.Proofs.YtcpikafmclfcfaaDoor.Vc
end
section
namespace Go.Proofs.YtcpikafmclfcfaaDoor.Vc
open Go.RowKit Go.Proofs.YtcpikafmclfcfaaDoorW.PrintWords Go.Proofs.YtcpikafmclfcfaaDoorW.PrintLast Go.Proofs.YtcpikafmclfcfaaDoorW.PrintMore Go.Proofs.YtcpikafmclfcfaaDoor.PV Go.Proofs.YtcpikafmclfcfaaDoor.Vl
set_option linter.unusedVariables false
set_option linter.unusedSimpArgs false
theorem results_ve {fn : Func} (p u : Tmp) (hf : fn.results = #[.cell p 23, .tmp u]) (tmps : Array Value) (b : Nat) (W : World) (x y z e : Int) (h2 : tmps[p]?.getD undef = .pointer (some ⟨b, 0, none⟩)) (h3 : tmps[u]?.getD undef = .int .i64 e)
    (hr : W.heap[b]? = some (.cells #[.int .i64 x, .int .i64 y, .int .i64 z] 23 (0, 0))) :
    (results fn tmps).run Tryd.prog W = .ok (.tuple #[vecV x y z, .int .i64 e]) W := by
  have hu23 := Tryd.underlying23
  obtain ⟨r0, r1, r2⟩ := cell3 hr
  simp [results, hf, go_sem, h2, h3, r0, r1, r2, hu23]
def madeV (x y z : Int) : Int × Int × Int × Int := if rightB x y z = true then (x, y, z, 0) else (0, 0, 0, 5)
set_option maxHeartbeats 2000000 in
set_option maxRecDepth 100000 in
theorem made_calls (x y z : Int) (w : World) : Calls Tryd.prog 65 #[vecV x y z, .int .i64 0] w fun e w' => e = .returned (.tuple #[vecV (madeV x y z).1 (madeV x y z).2.1 (madeV x y z).2.2.1, .int .i64 (madeV x y z).2.2.2]) ∧ Below w.heap.size w w' := by
  have hu23 := Tryd.underlying23
  have hu51 := Tryd.underlying51
  go_enter Tryd.func65, Tryd.ntmps65
  go_wp2_with fail
  obtain ⟨w1, hw1⟩ : ∃ w1, (w.alloc (.cells #[.int .i64 x, .int .i64 y, .int .i64 z] 51)).alloc (.cells #[.int .i64 0, .int .i64 0, .int .i64 0] 23) = w1 := ⟨_, rfl⟩
  have HB1 := Aside0.mk (below_alloc (below_alloc (Below.refl w.heap.size w) (.cells #[.int .i64 x, .int .i64 y, .int .i64 z] 51)) (.cells #[.int .i64 0, .int .i64 0, .int .i64 0] 23))
  have BV1 := Aside0.mk (blk_alloc (blk_new w (.cells #[.int .i64 x, .int .i64 y, .int .i64 z] 51)) (.cells #[.int .i64 0, .int .i64 0, .int .i64 0] 23))
  have BR1 := Aside0.mk (blk_new (w.alloc (.cells #[.int .i64 x, .int .i64 y, .int .i64 z] 51)) (.cells #[.int .i64 0, .int .i64 0, .int .i64 0] 23))
  rw [World.size_alloc] at BR1
  rw [hw1] at HB1 BV1 BR1 ⊢
  clear hw1
  refine (whole_calls x y z _).mono ?_
  rintro e w2 ⟨rfl, hb⟩
  have HB2 := Aside0.mk (below_then HB1.out HB1.out.size hb)
  have BV2 := Aside0.mk (blk_below BV1.out hb)
  have BR2 := Aside0.mk (blk_below BR1.out hb)
  clear hb HB1 BV1 BR1
  go_wp2_with fail
  refine (Right_calls x y z _).mono ?_
  rintro e w3 ⟨rfl, hb⟩
  have HB3 := Aside0.mk (below_then HB2.out HB2.out.size hb)
  have BV3 := Aside0.mk (blk_below BV2.out hb)
  have BR3 := Aside0.mk (blk_below BR2.out hb)
  clear hb HB2 BV2 BR2
  obtain ⟨c0, c1, c2⟩ := cell3 BV3.out
  obtain ⟨d0, d1, d2⟩ := cell3 BR3.out
  have df := fun i => blk_frozen BR3.out i
  cases hr : rightB x y z with
  | false =>
    have HV := Aside0.mk (show madeV x y z = (0, 0, 0, 5) from by unfold madeV; rw [hr]; rfl)
    go_wp2_with fail
    refine bodyPost_ret (results_ve 4 5 rfl _ (w.heap.size + 1) _ 0 0 0 5 rfl rfl (put3 BR3.out _ _ _)) rfl ⟨by rw [HV.out], below3 HB3.out (by omega) _ _ _⟩
  | true =>
    have HV := Aside0.mk (show madeV x y z = (x, y, z, 0) from by unfold madeV; rw [hr]; rfl)
    go_wp2_with fail
    refine (whole_calls x y z _).mono ?_
    rintro e w4 ⟨rfl, hb⟩
    have HB4 := Aside0.mk (below_then HB3.out HB3.out.size hb)
    have BR4 := Aside0.mk (blk_below BR3.out hb)
    clear hb HB3 BR3 c0 c1 c2 d0 d1 d2 df
    obtain ⟨d0, d1, d2⟩ := cell3 BR4.out
    have df := fun i => blk_frozen BR4.out i
    go_wp2_with fail
    refine bodyPost_ret (results_ve 4 5 rfl _ (w.heap.size + 1) _ x y z 0 rfl rfl (put3 BR4.out _ _ _)) rfl ⟨by rw [HV.out], below3 HB4.out (by omega) _ _ _⟩
theorem plus_calls (x y z : Int) (b : Nat) (k : Nat) (hk : k < 3) (n : Int) (w : World) (hb : w.heap[b]? = some (.cells #[.int .i64 x, .int .i64 y, .int .i64 z] 51 (0, 0))) :
    Calls Tryd.prog 46 #[.int .i64 k, .int .i64 n, .pointer (some ⟨b, 0, none⟩)] w fun e w' => e = .returned (.tuple #[.int .i64 (wrap64 (n + pt x y z k)), .int .i64 0]) ∧ Below w.heap.size w w' := by
  have hu51 := Tryd.underlying51
  have hc := cellk hb k hk
  clear hb
  go_enter Tryd.func46, Tryd.ntmps46
  go_wp2
  refine bodyPost_ret (v := .tuple #[.int .i64 (wrap64 (n + pt x y z k)), .int .i64 0]) (by simp [results, Tryd.results46, go_sem]) rfl ⟨rfl, Below.refl _ _⟩
theorem minus_calls (x y z : Int) (b : Nat) (k : Nat) (hk : k < 3) (n : Int) (w : World) (hb : w.heap[b]? = some (.cells #[.int .i64 x, .int .i64 y, .int .i64 z] 51 (0, 0))) :
    Calls Tryd.prog 47 #[.int .i64 k, .int .i64 n, .pointer (some ⟨b, 0, none⟩)] w fun e w' => e = .returned (.tuple #[.int .i64 (wrap64 (n - pt x y z k)), .int .i64 0]) ∧ Below w.heap.size w w' := by
  have hu51 := Tryd.underlying51
  have hc := cellk hb k hk
  clear hb
  go_enter Tryd.func47, Tryd.ntmps47
  go_wp2
  refine bodyPost_ret (v := .tuple #[.int .i64 (wrap64 (n - pt x y z k)), .int .i64 0]) (by simp [results, Tryd.results47, go_sem]) rfl ⟨rfl, Below.refl _ _⟩
end Go.Proofs.YtcpikafmclfcfaaDoor.Vc
end
section
namespace Go.Proofs.YtcpikafmclfcfaaDoor.Vc
open Go.RowKit Go.Proofs.YtcpikafmclfcfaaDoorW.PrintWords Go.Proofs.YtcpikafmclfcfaaDoorW.PrintLast Go.Proofs.YtcpikafmclfcfaaDoorW.PrintMore Go.Proofs.YtcpikafmclfcfaaDoor.PV Go.Proofs.YtcpikafmclfcfaaDoor.Vl
set_option linter.unusedVariables false
set_option linter.unusedSimpArgs false
def eachV (R E : Nat → Int) : Int × Int × Int × Int := if E 0 = 0 ∧ E 1 = 0 ∧ E 2 = 0 then madeV (R 0) (R 1) (R 2) else (0, 0, 0, 5)
def upd (R : Nat → Int) (p : Nat → Int) (k : Nat) : Nat → Int := fun j => if j < k then R j else p j
set_option maxHeartbeats 4000000 in
set_option maxRecDepth 100000 in
theorem each46_calls (a b c : Int) (q : Addr) (R E : Nat → Int) (w : World)
    (hdo : ∀ k : Nat, k < 3 → ∀ w', Below w.heap.size w w' → Calls Tryd.prog 46 #[.int .i64 k, .int .i64 (pt a b c k), .pointer (some q)] w' fun e w'' => e = .returned (.tuple #[.int .i64 (R k), .int .i64 (E k)]) ∧ Below w'.heap.size w' w'') :
    Calls Tryd.prog 45 #[vecV a b c, .func (.func 46) #[] #[.pointer (some q)]] w fun e w' => e = .returned (.tuple #[vecV (eachV R E).1 (eachV R E).2.1 (eachV R E).2.2.1, .int .i64 (eachV R E).2.2.2]) ∧ Below w.heap.size w w' := by
  have hu23 := Tryd.underlying23
  have hu51 := Tryd.underlying51
  have HDO := Aside0.mk hdo
  clear hdo
  go_enter Tryd.func45, Tryd.ntmps45
  go_wp2_with fail
  obtain ⟨w1, hw1⟩ : ∃ w1, (w.alloc (.cells #[.int .i64 a, .int .i64 b, .int .i64 c] 23)).alloc (.cells #[.int .i64 0, .int .i64 0, .int .i64 0] 23) = w1 := ⟨_, rfl⟩
  have HB1 := Aside0.mk (below_alloc (below_alloc (Below.refl w.heap.size w) (.cells #[.int .i64 a, .int .i64 b, .int .i64 c] 23)) (.cells #[.int .i64 0, .int .i64 0, .int .i64 0] 23))
  have BR1 := Aside0.mk (blk_new (w.alloc (.cells #[.int .i64 a, .int .i64 b, .int .i64 c] 23)) (.cells #[.int .i64 0, .int .i64 0, .int .i64 0] 23))
  rw [World.size_alloc] at BR1
  rw [hw1] at HB1 BR1 ⊢
  clear hw1
  refine (parts_calls a b c _).mono ?_
  rintro e w2 ⟨rfl, hb⟩
  have HB2 := Aside0.mk (below_then HB1.out HB1.out.size hb)
  have BR2 := Aside0.mk (blk_below BR1.out hb)
  clear hb HB1 BR1
  have HB3 := Aside0.mk (below_alloc HB2.out (.cells #[.int .i64 a, .int .i64 b, .int .i64 c] 51))
  have BR3 := Aside0.mk (blk_alloc BR2.out (.cells #[.int .i64 a, .int .i64 b, .int .i64 c] 51))
  have BP3 := Aside0.mk (blk_new w2 (.cells #[.int .i64 a, .int .i64 b, .int .i64 c] 51))
  have LP := Aside0.mk (Nat.le_trans (Nat.le_succ _) (blk_lt BR2.out))
  have NE := Aside0.mk (show w.heap.size + 1 ≠ w2.heap.size from fun h => by have := blk_lt BR2.out; omega)
  go_wp2_with fail
  obtain ⟨w3, hw3⟩ : ∃ w3, w2.alloc (.cells #[.int .i64 a, .int .i64 b, .int .i64 c] 51) = w3 := ⟨_, rfl⟩
  obtain ⟨b6, hb6⟩ : ∃ b6, w2.heap.size = b6 := ⟨_, rfl⟩
  rw [hw3] at HB3 BR3 BP3 ⊢
  rw [hb6] at BP3 LP NE ⊢
  clear hw3 hb6 HB2 BR2
  go_loopw [14] (fun v14 wr => ∃ k : Nat, k ≤ 3 ∧ v14 = .int .i64 k ∧ Aside0 (∀ j, j < k → E j = 0) ∧ Aside0 (Below w.heap.size w wr) ∧ Aside0 (wr.heap[w.heap.size + 1]? = some (.cells #[.int .i64 0, .int .i64 0, .int .i64 0] 23 (0, 0))) ∧
    Aside0 (wr.heap[b6]? = some (.cells #[.int .i64 (upd R (pt a b c) k 0), .int .i64 (upd R (pt a b c) k 1), .int .i64 (upd R (pt a b c) k 2)] 51 (0, 0)))) (fun v14 _ => 3 - (intOf v14).toNat)
  case atStart => exact ⟨0, by omega, rfl, ⟨fun j hj => by omega⟩, HB3, BR3, BP3⟩
  case round =>
    clear HB3 BR3 BP3
    obtain ⟨k, hk, rfl, HE, HB, BR, BP⟩ := hrel
    by_cases hlt : k < 3
    · have hix := pix a b c k hlt
      go_wp2_with fail
      refine (HDO.out k hlt _ HB.out).mono ?_
      rintro e w4 ⟨rfl, hb⟩
      have HB4 := Aside0.mk (below_then HB.out HB.out.size hb)
      have BR4 := Aside0.mk (blk_below BR.out hb)
      have BP4 := Aside0.mk (blk_below BP.out hb)
      clear hb HB BR BP
      by_cases he : E k = 0
      · rw [he]
        have HE4 := Aside0.mk (show ∀ j, j < k + 1 → E j = 0 from fun j hj => by
          by_cases h : j = k
          · rw [h]; exact he
          · exact HE.out j (by omega))
        clear he
        obtain ⟨d0, d1, d2⟩ := cell3 BP4.out
        have df := fun i => blk_frozen BP4.out i
        have : k = 0 ∨ k = 1 ∨ k = 2 := by omega
        rcases this with rfl | rfl | rfl
        · go_wp2
          go_roundw
          case rel => exact ⟨1, by omega, rfl, HE4, ⟨HB4.out.setCell (p := ⟨b6, 0, none⟩) (Nat.le_of_succ_le LP.out) _⟩, ⟨(Below.heap_setCell _ ⟨b6, 0, none⟩ _ _ NE.out).trans BR4.out⟩, ⟨blk_put BP4.out 0 _ rfl⟩⟩
          case measure => simp [intOf]
        · go_wp2
          go_roundw
          case rel => exact ⟨2, by omega, rfl, HE4, ⟨HB4.out.setCell (p := ⟨b6, 1, none⟩) (Nat.le_of_succ_le LP.out) _⟩, ⟨(Below.heap_setCell _ ⟨b6, 1, none⟩ _ _ NE.out).trans BR4.out⟩, ⟨blk_put BP4.out 1 _ rfl⟩⟩
          case measure => simp [intOf]
        · go_wp2
          go_roundw
          case rel => exact ⟨3, by omega, rfl, HE4, ⟨HB4.out.setCell (p := ⟨b6, 2, none⟩) (Nat.le_of_succ_le LP.out) _⟩, ⟨(Below.heap_setCell _ ⟨b6, 2, none⟩ _ _ NE.out).trans BR4.out⟩, ⟨blk_put BP4.out 2 _ rfl⟩⟩
          case measure => simp [intOf]
      · have hne : (E k != 0) = true := by simp [he]
        have HV := Aside0.mk (show eachV R E = (0, 0, 0, 5) from by
          unfold eachV; rw [if_neg]; rintro ⟨e0, e1, e2⟩
          have : k = 0 ∨ k = 1 ∨ k = 2 := by omega
          rcases this with rfl | rfl | rfl <;> exact he (by assumption))
        clear he
        obtain ⟨d0, d1, d2⟩ := cell3 BR4.out
        have df := fun i => blk_frozen BR4.out i
        go_wp2_with fail
        refine bodyPost_ret (results_ve 4 5 rfl _ (w.heap.size + 1) _ 0 0 0 5 rfl rfl (put3 BR4.out _ _ _)) rfl ⟨by rw [HV.out], below3 HB4.out (by omega) _ _ _⟩
    · obtain rfl : k = 3 := by omega
      have HV := Aside0.mk (show eachV R E = madeV (R 0) (R 1) (R 2) from by
        unfold eachV; rw [if_pos ⟨HE.out 0 (by omega), HE.out 1 (by omega), HE.out 2 (by omega)⟩])
      have BP' := Aside0.mk (show wr.heap[b6]? = some (.cells #[.int .i64 (R 0), .int .i64 (R 1), .int .i64 (R 2)] 51 (0, 0)) from BP.out)
      clear BP
      obtain ⟨d0, d1, d2⟩ := cell3 BP'.out
      go_wp2_with fail
      refine (made_calls (R 0) (R 1) (R 2) _).mono ?_
      rintro e w4 ⟨rfl, hb⟩
      have HB4 := Aside0.mk (below_then HB.out HB.out.size hb)
      have BR4 := Aside0.mk (blk_below BR.out hb)
      clear hb HB BR d0 d1 d2
      obtain ⟨d0, d1, d2⟩ := cell3 BR4.out
      have df := fun i => blk_frozen BR4.out i
      go_wp2_with fail
      refine bodyPost_ret (results_ve 4 5 rfl _ (w.heap.size + 1) _ (madeV (R 0) (R 1) (R 2)).1 (madeV (R 0) (R 1) (R 2)).2.1 (madeV (R 0) (R 1) (R 2)).2.2.1 (madeV (R 0) (R 1) (R 2)).2.2.2 rfl rfl (put3 BR4.out _ _ _)) rfl ⟨by rw [HV.out], below3 HB4.out (by omega) _ _ _⟩
set_option maxHeartbeats 4000000 in
set_option maxRecDepth 100000 in
theorem each47_calls (a b c : Int) (q : Addr) (R E : Nat → Int) (w : World)
    (hdo : ∀ k : Nat, k < 3 → ∀ w', Below w.heap.size w w' → Calls Tryd.prog 47 #[.int .i64 k, .int .i64 (pt a b c k), .pointer (some q)] w' fun e w'' => e = .returned (.tuple #[.int .i64 (R k), .int .i64 (E k)]) ∧ Below w'.heap.size w' w'') :
    Calls Tryd.prog 45 #[vecV a b c, .func (.func 47) #[] #[.pointer (some q)]] w fun e w' => e = .returned (.tuple #[vecV (eachV R E).1 (eachV R E).2.1 (eachV R E).2.2.1, .int .i64 (eachV R E).2.2.2]) ∧ Below w.heap.size w w' := by
  have hu23 := Tryd.underlying23
  have hu51 := Tryd.underlying51
  have HDO := Aside0.mk hdo
  clear hdo
  go_enter Tryd.func45, Tryd.ntmps45
  go_wp2_with fail
  obtain ⟨w1, hw1⟩ : ∃ w1, (w.alloc (.cells #[.int .i64 a, .int .i64 b, .int .i64 c] 23)).alloc (.cells #[.int .i64 0, .int .i64 0, .int .i64 0] 23) = w1 := ⟨_, rfl⟩
  have HB1 := Aside0.mk (below_alloc (below_alloc (Below.refl w.heap.size w) (.cells #[.int .i64 a, .int .i64 b, .int .i64 c] 23)) (.cells #[.int .i64 0, .int .i64 0, .int .i64 0] 23))
  have BR1 := Aside0.mk (blk_new (w.alloc (.cells #[.int .i64 a, .int .i64 b, .int .i64 c] 23)) (.cells #[.int .i64 0, .int .i64 0, .int .i64 0] 23))
  rw [World.size_alloc] at BR1
  rw [hw1] at HB1 BR1 ⊢
  clear hw1
  refine (parts_calls a b c _).mono ?_
  rintro e w2 ⟨rfl, hb⟩
  have HB2 := Aside0.mk (below_then HB1.out HB1.out.size hb)
  have BR2 := Aside0.mk (blk_below BR1.out hb)
  clear hb HB1 BR1
  have HB3 := Aside0.mk (below_alloc HB2.out (.cells #[.int .i64 a, .int .i64 b, .int .i64 c] 51))
  have BR3 := Aside0.mk (blk_alloc BR2.out (.cells #[.int .i64 a, .int .i64 b, .int .i64 c] 51))
  have BP3 := Aside0.mk (blk_new w2 (.cells #[.int .i64 a, .int .i64 b, .int .i64 c] 51))
  have LP := Aside0.mk (Nat.le_trans (Nat.le_succ _) (blk_lt BR2.out))
  have NE := Aside0.mk (show w.heap.size + 1 ≠ w2.heap.size from fun h => by have := blk_lt BR2.out; omega)
  go_wp2_with fail
  obtain ⟨w3, hw3⟩ : ∃ w3, w2.alloc (.cells #[.int .i64 a, .int .i64 b, .int .i64 c] 51) = w3 := ⟨_, rfl⟩
  obtain ⟨b6, hb6⟩ : ∃ b6, w2.heap.size = b6 := ⟨_, rfl⟩
  rw [hw3] at HB3 BR3 BP3 ⊢
  rw [hb6] at BP3 LP NE ⊢
  clear hw3 hb6 HB2 BR2
  go_loopw [14] (fun v14 wr => ∃ k : Nat, k ≤ 3 ∧ v14 = .int .i64 k ∧ Aside0 (∀ j, j < k → E j = 0) ∧ Aside0 (Below w.heap.size w wr) ∧ Aside0 (wr.heap[w.heap.size + 1]? = some (.cells #[.int .i64 0, .int .i64 0, .int .i64 0] 23 (0, 0))) ∧
    Aside0 (wr.heap[b6]? = some (.cells #[.int .i64 (upd R (pt a b c) k 0), .int .i64 (upd R (pt a b c) k 1), .int .i64 (upd R (pt a b c) k 2)] 51 (0, 0)))) (fun v14 _ => 3 - (intOf v14).toNat)
  case atStart => exact ⟨0, by omega, rfl, ⟨fun j hj => by omega⟩, HB3, BR3, BP3⟩
  case round =>
    clear HB3 BR3 BP3
    obtain ⟨k, hk, rfl, HE, HB, BR, BP⟩ := hrel
    by_cases hlt : k < 3
    · have hix := pix a b c k hlt
      go_wp2_with fail
      refine (HDO.out k hlt _ HB.out).mono ?_
      rintro e w4 ⟨rfl, hb⟩
      have HB4 := Aside0.mk (below_then HB.out HB.out.size hb)
      have BR4 := Aside0.mk (blk_below BR.out hb)
      have BP4 := Aside0.mk (blk_below BP.out hb)
      clear hb HB BR BP
      by_cases he : E k = 0
      · rw [he]
        have HE4 := Aside0.mk (show ∀ j, j < k + 1 → E j = 0 from fun j hj => by
          by_cases h : j = k
          · rw [h]; exact he
          · exact HE.out j (by omega))
        clear he
        obtain ⟨d0, d1, d2⟩ := cell3 BP4.out
        have df := fun i => blk_frozen BP4.out i
        have : k = 0 ∨ k = 1 ∨ k = 2 := by omega
        rcases this with rfl | rfl | rfl
        · go_wp2
          go_roundw
          case rel => exact ⟨1, by omega, rfl, HE4, ⟨HB4.out.setCell (p := ⟨b6, 0, none⟩) (Nat.le_of_succ_le LP.out) _⟩, ⟨(Below.heap_setCell _ ⟨b6, 0, none⟩ _ _ NE.out).trans BR4.out⟩, ⟨blk_put BP4.out 0 _ rfl⟩⟩
          case measure => simp [intOf]
        · go_wp2
          go_roundw
          case rel => exact ⟨2, by omega, rfl, HE4, ⟨HB4.out.setCell (p := ⟨b6, 1, none⟩) (Nat.le_of_succ_le LP.out) _⟩, ⟨(Below.heap_setCell _ ⟨b6, 1, none⟩ _ _ NE.out).trans BR4.out⟩, ⟨blk_put BP4.out 1 _ rfl⟩⟩
          case measure => simp [intOf]
        · go_wp2
          go_roundw
          case rel => exact ⟨3, by omega, rfl, HE4, ⟨HB4.out.setCell (p := ⟨b6, 2, none⟩) (Nat.le_of_succ_le LP.out) _⟩, ⟨(Below.heap_setCell _ ⟨b6, 2, none⟩ _ _ NE.out).trans BR4.out⟩, ⟨blk_put BP4.out 2 _ rfl⟩⟩
          case measure => simp [intOf]
      · have hne : (E k != 0) = true := by simp [he]
        have HV := Aside0.mk (show eachV R E = (0, 0, 0, 5) from by
          unfold eachV; rw [if_neg]; rintro ⟨e0, e1, e2⟩
          have : k = 0 ∨ k = 1 ∨ k = 2 := by omega
          rcases this with rfl | rfl | rfl <;> exact he (by assumption))
        clear he
        obtain ⟨d0, d1, d2⟩ := cell3 BR4.out
        have df := fun i => blk_frozen BR4.out i
        go_wp2_with fail
        refine bodyPost_ret (results_ve 4 5 rfl _ (w.heap.size + 1) _ 0 0 0 5 rfl rfl (put3 BR4.out _ _ _)) rfl ⟨by rw [HV.out], below3 HB4.out (by omega) _ _ _⟩
    · obtain rfl : k = 3 := by omega
      have HV := Aside0.mk (show eachV R E = madeV (R 0) (R 1) (R 2) from by
        unfold eachV; rw [if_pos ⟨HE.out 0 (by omega), HE.out 1 (by omega), HE.out 2 (by omega)⟩])
      have BP' := Aside0.mk (show wr.heap[b6]? = some (.cells #[.int .i64 (R 0), .int .i64 (R 1), .int .i64 (R 2)] 51 (0, 0)) from BP.out)
      clear BP
      obtain ⟨d0, d1, d2⟩ := cell3 BP'.out
      go_wp2_with fail
      refine (made_calls (R 0) (R 1) (R 2) _).mono ?_
      rintro e w4 ⟨rfl, hb⟩
      have HB4 := Aside0.mk (below_then HB.out HB.out.size hb)
      have BR4 := Aside0.mk (blk_below BR.out hb)
      clear hb HB BR d0 d1 d2
      obtain ⟨d0, d1, d2⟩ := cell3 BR4.out
      have df := fun i => blk_frozen BR4.out i
      go_wp2_with fail
      refine bodyPost_ret (results_ve 4 5 rfl _ (w.heap.size + 1) _ (madeV (R 0) (R 1) (R 2)).1 (madeV (R 0) (R 1) (R 2)).2.1 (madeV (R 0) (R 1) (R 2)).2.2.1 (madeV (R 0) (R 1) (R 2)).2.2.2 rfl rfl (put3 BR4.out _ _ _)) rfl ⟨by rw [HV.out], below3 HB4.out (by omega) _ _ _⟩
set_option maxHeartbeats 4000000 in
set_option maxRecDepth 100000 in
theorem each48_calls (a b c : Int) (q : Addr) (R E : Nat → Int) (w : World)
    (hdo : ∀ k : Nat, k < 3 → ∀ w', Below w.heap.size w w' → Calls Tryd.prog 48 #[.int .i64 k, .int .i64 (pt a b c k), .pointer (some q)] w' fun e w'' => e = .returned (.tuple #[.int .i64 (R k), .int .i64 (E k)]) ∧ Below w'.heap.size w' w'') :
    Calls Tryd.prog 45 #[vecV a b c, .func (.func 48) #[] #[.pointer (some q)]] w fun e w' => e = .returned (.tuple #[vecV (eachV R E).1 (eachV R E).2.1 (eachV R E).2.2.1, .int .i64 (eachV R E).2.2.2]) ∧ Below w.heap.size w w' := by
  have hu23 := Tryd.underlying23
  have hu51 := Tryd.underlying51
  have HDO := Aside0.mk hdo
  clear hdo
  go_enter Tryd.func45, Tryd.ntmps45
  go_wp2_with fail
  obtain ⟨w1, hw1⟩ : ∃ w1, (w.alloc (.cells #[.int .i64 a, .int .i64 b, .int .i64 c] 23)).alloc (.cells #[.int .i64 0, .int .i64 0, .int .i64 0] 23) = w1 := ⟨_, rfl⟩
  have HB1 := Aside0.mk (below_alloc (below_alloc (Below.refl w.heap.size w) (.cells #[.int .i64 a, .int .i64 b, .int .i64 c] 23)) (.cells #[.int .i64 0, .int .i64 0, .int .i64 0] 23))
  have BR1 := Aside0.mk (blk_new (w.alloc (.cells #[.int .i64 a, .int .i64 b, .int .i64 c] 23)) (.cells #[.int .i64 0, .int .i64 0, .int .i64 0] 23))
  rw [World.size_alloc] at BR1
  rw [hw1] at HB1 BR1 ⊢
  clear hw1
  refine (parts_calls a b c _).mono ?_
  rintro e w2 ⟨rfl, hb⟩
  have HB2 := Aside0.mk (below_then HB1.out HB1.out.size hb)
  have BR2 := Aside0.mk (blk_below BR1.out hb)
  clear hb HB1 BR1
  have HB3 := Aside0.mk (below_alloc HB2.out (.cells #[.int .i64 a, .int .i64 b, .int .i64 c] 51))
  have BR3 := Aside0.mk (blk_alloc BR2.out (.cells #[.int .i64 a, .int .i64 b, .int .i64 c] 51))
  have BP3 := Aside0.mk (blk_new w2 (.cells #[.int .i64 a, .int .i64 b, .int .i64 c] 51))
  have LP := Aside0.mk (Nat.le_trans (Nat.le_succ _) (blk_lt BR2.out))
  have NE := Aside0.mk (show w.heap.size + 1 ≠ w2.heap.size from fun h => by have := blk_lt BR2.out; omega)
  go_wp2_with fail
  obtain ⟨w3, hw3⟩ : ∃ w3, w2.alloc (.cells #[.int .i64 a, .int .i64 b, .int .i64 c] 51) = w3 := ⟨_, rfl⟩
  obtain ⟨b6, hb6⟩ : ∃ b6, w2.heap.size = b6 := ⟨_, rfl⟩
  rw [hw3] at HB3 BR3 BP3 ⊢
  rw [hb6] at BP3 LP NE ⊢
  clear hw3 hb6 HB2 BR2
  go_loopw [14] (fun v14 wr => ∃ k : Nat, k ≤ 3 ∧ v14 = .int .i64 k ∧ Aside0 (∀ j, j < k → E j = 0) ∧ Aside0 (Below w.heap.size w wr) ∧ Aside0 (wr.heap[w.heap.size + 1]? = some (.cells #[.int .i64 0, .int .i64 0, .int .i64 0] 23 (0, 0))) ∧
    Aside0 (wr.heap[b6]? = some (.cells #[.int .i64 (upd R (pt a b c) k 0), .int .i64 (upd R (pt a b c) k 1), .int .i64 (upd R (pt a b c) k 2)] 51 (0, 0)))) (fun v14 _ => 3 - (intOf v14).toNat)
  case atStart => exact ⟨0, by omega, rfl, ⟨fun j hj => by omega⟩, HB3, BR3, BP3⟩
  case round =>
    clear HB3 BR3 BP3
    obtain ⟨k, hk, rfl, HE, HB, BR, BP⟩ := hrel
    by_cases hlt : k < 3
    · have hix := pix a b c k hlt
      go_wp2_with fail
      refine (HDO.out k hlt _ HB.out).mono ?_
      rintro e w4 ⟨rfl, hb⟩
      have HB4 := Aside0.mk (below_then HB.out HB.out.size hb)
      have BR4 := Aside0.mk (blk_below BR.out hb)
      have BP4 := Aside0.mk (blk_below BP.out hb)
      clear hb HB BR BP
      by_cases he : E k = 0
      · rw [he]
        have HE4 := Aside0.mk (show ∀ j, j < k + 1 → E j = 0 from fun j hj => by
          by_cases h : j = k
          · rw [h]; exact he
          · exact HE.out j (by omega))
        clear he
        obtain ⟨d0, d1, d2⟩ := cell3 BP4.out
        have df := fun i => blk_frozen BP4.out i
        have : k = 0 ∨ k = 1 ∨ k = 2 := by omega
        rcases this with rfl | rfl | rfl
        · go_wp2
          go_roundw
          case rel => exact ⟨1, by omega, rfl, HE4, ⟨HB4.out.setCell (p := ⟨b6, 0, none⟩) (Nat.le_of_succ_le LP.out) _⟩, ⟨(Below.heap_setCell _ ⟨b6, 0, none⟩ _ _ NE.out).trans BR4.out⟩, ⟨blk_put BP4.out 0 _ rfl⟩⟩
          case measure => simp [intOf]
        · go_wp2
          go_roundw
          case rel => exact ⟨2, by omega, rfl, HE4, ⟨HB4.out.setCell (p := ⟨b6, 1, none⟩) (Nat.le_of_succ_le LP.out) _⟩, ⟨(Below.heap_setCell _ ⟨b6, 1, none⟩ _ _ NE.out).trans BR4.out⟩, ⟨blk_put BP4.out 1 _ rfl⟩⟩
          case measure => simp [intOf]
        · go_wp2
          go_roundw
          case rel => exact ⟨3, by omega, rfl, HE4, ⟨HB4.out.setCell (p := ⟨b6, 2, none⟩) (Nat.le_of_succ_le LP.out) _⟩, ⟨(Below.heap_setCell _ ⟨b6, 2, none⟩ _ _ NE.out).trans BR4.out⟩, ⟨blk_put BP4.out 2 _ rfl⟩⟩
          case measure => simp [intOf]
      · have hne : (E k != 0) = true := by simp [he]
        have HV := Aside0.mk (show eachV R E = (0, 0, 0, 5) from by
          unfold eachV; rw [if_neg]; rintro ⟨e0, e1, e2⟩
          have : k = 0 ∨ k = 1 ∨ k = 2 := by omega
          rcases this with rfl | rfl | rfl <;> exact he (by assumption))
        clear he
        obtain ⟨d0, d1, d2⟩ := cell3 BR4.out
        have df := fun i => blk_frozen BR4.out i
        go_wp2_with fail
        refine bodyPost_ret (results_ve 4 5 rfl _ (w.heap.size + 1) _ 0 0 0 5 rfl rfl (put3 BR4.out _ _ _)) rfl ⟨by rw [HV.out], below3 HB4.out (by omega) _ _ _⟩
    · obtain rfl : k = 3 := by omega
      have HV := Aside0.mk (show eachV R E = madeV (R 0) (R 1) (R 2) from by
        unfold eachV; rw [if_pos ⟨HE.out 0 (by omega), HE.out 1 (by omega), HE.out 2 (by omega)⟩])
      have BP' := Aside0.mk (show wr.heap[b6]? = some (.cells #[.int .i64 (R 0), .int .i64 (R 1), .int .i64 (R 2)] 51 (0, 0)) from BP.out)
      clear BP
      obtain ⟨d0, d1, d2⟩ := cell3 BP'.out
      go_wp2_with fail
      refine (made_calls (R 0) (R 1) (R 2) _).mono ?_
      rintro e w4 ⟨rfl, hb⟩
      have HB4 := Aside0.mk (below_then HB.out HB.out.size hb)
      have BR4 := Aside0.mk (blk_below BR.out hb)
      clear hb HB BR d0 d1 d2
      obtain ⟨d0, d1, d2⟩ := cell3 BR4.out
      have df := fun i => blk_frozen BR4.out i
      go_wp2_with fail
      refine bodyPost_ret (results_ve 4 5 rfl _ (w.heap.size + 1) _ (madeV (R 0) (R 1) (R 2)).1 (madeV (R 0) (R 1) (R 2)).2.1 (madeV (R 0) (R 1) (R 2)).2.2.1 (madeV (R 0) (R 1) (R 2)).2.2.2 rfl rfl (put3 BR4.out _ _ _)) rfl ⟨by rw [HV.out], below3 HB4.out (by omega) _ _ _⟩
end Go.Proofs.YtcpikafmclfcfaaDoor.Vc
end
