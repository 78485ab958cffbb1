/- Part 3 of the proof. -/
import Derived.Test.YtnfpchpnephheaaDoorProg
import Derived.Test.YtnfpchpnephheaaDoorZ02
import Derived.Test.YtnfpchpnephheaaDoorZ01
import Derived.WalkSmall
import Derived.Lib.LaidTab
import Derived.Lib.ItoaNum
import Derived.Lib.AtoiAll
import Derived.Lib.Join
import Derived.DataReads
import Derived.DataElems
import Derived.ChangeOld
import Derived.Below
import Derived.Deep.Draws
import Derived.Deep.AppendLies
import Derived.Maps.AppendAt
import Derived.OwnWalk
import Derived.Laws.BytesArg
import Derived.Laws.MakeOwn
import Derived.Laws.OwnMore
import Derived.Deep.OwnRows
import Derived.Tactics
import Derived.Lib.ConvBytes
import Derived.Laws.Slices
import Derived.WalkKit
import Derived.KernelRfl
import Derived.RowKit3
import Derived.Deep.LoopGhost
import Derived.Deep.QuietTactic
import Derived.BigQuiet
import Derived.WideLaws
import Derived.Deep.DeepCutAuto
import Derived.Deep.CutBlock
import Derived.Deep.RegionHeld3
import Derived.Laws.Rows
import Derived.Lib.AppendStr
import Derived.ArgAppend
import Derived.Laws.IdiomCopy
import Derived.OrdersHeld
import Derived.Laws.BitsLemmas
import Derived.RowKit
import Derived.Lib.Strings
import Derived.WalkSpells
import Derived.Maps.OwnSet
import Derived.Maps.OwnOps
import Derived.Lib.OwnBridge
import Derived.Shelf.SlicesE.DeleteFunc
import Derived.Ground.SlgfProg
section
namespace Go.Proofs.YtnfpchpnephheaaDoor.Lib
open Go.RowKit Go.Proofs.YtnfpchpnephheaaDoorW.PrintWords
set_option linter.unusedVariables false
set_option linter.unusedSimpArgs false
structure Glob (w : World) : Prop where mk ::
  tab : Go.Lib.TabIs Tryd.prog w "internal/strconv.uint64pow10" .u64 Go.Lib.pow10Tab
  syn : ∃ tp p, w.var? Tryd.prog "strconv.ErrSyntax" = some #[.iface tp p]
  ran : ∃ tp p, w.var? Tryd.prog "strconv.ErrRange" = some #[.iface tp p]
theorem g_tab : Tryd.prog.globalNamed "internal/strconv.uint64pow10" = some 0 := by kernel_rfl
theorem g_syn : Tryd.prog.globalNamed "strconv.ErrSyntax" = some 2 := by kernel_rfl
theorem g_ran : Tryd.prog.globalNamed "strconv.ErrRange" = some 3 := by kernel_rfl
theorem var_lt {w : World} {n : String} {g : Nat} {cs : Array Value} (hg : Tryd.prog.globalNamed n = some g) (hv : w.var? Tryd.prog n = some cs) : g < w.heap.size := by
  unfold World.var? at hv
  simp only [hg, Option.bind_some] at hv
  cases h : w.heap[g]? with
  | none => rw [h] at hv; cases hv
  | some o => exact (Array.getElem?_eq_some_iff.1 h).1
theorem Glob.below {w w' : World} (h : Glob w) (hb : Below w.heap.size w w') : Glob w' := by
  obtain ⟨h1, ⟨t2, p2, h2⟩, ⟨t3, p3, h3⟩⟩ := h
  exact ⟨var?_below hb g_tab (var_lt g_tab h1) h1, ⟨t2, p2, var?_below hb g_syn (var_lt g_syn h2) h2⟩, ⟨t3, p3, var?_below hb g_ran (var_lt g_ran h3) h3⟩⟩
theorem below_grow (w : World) (k : Nat) (os : Array Obj) : Below w.heap.size w (Go.Sort.grow (w.drewN k) os) :=
  ⟨rfl, rfl, rfl, by show w.heap.size ≤ (w.heap ++ os).size; rw [Array.size_append]; omega, fun j hj => by show (w.heap ++ os)[j]? = _; rw [Array.getElem?_append, if_pos hj]⟩
def strconv_Itoa.f (a0 : Int) : Option ByteArray := if -9223372036854775808 ≤ a0 ∧ a0 ≤ 9223372036854775807 then some ⟨(Go.Lib.itoa a0).toArray⟩ else none
theorem strconv_Itoa.calls (a0 : Int) (r : ByteArray) (w : World) (h : strconv_Itoa.f a0 = some r) (hG : Glob w) :
    Calls Tryd.prog 18 #[.int .i64 a0] w fun e w' => e = .returned (.string r) ∧ Below w.heap.size w w' := by
  unfold strconv_Itoa.f at h
  split at h
  · rename_i hb
    cases h
    refine (Tryd.strconv_Itoa a0 hb.1 hb.2 w hG.tab).mono ?_
    rintro e w' ⟨rfl, k, os, rfl⟩
    exact ⟨rfl, below_grow w k os⟩
  · cases h
def atoiVal (l : List UInt8) : Int := match Go.Lib.atoiAll l with | .ok v => v | .range => Go.Lib.atoiSat l | _ => 0
def atoiOk (l : List UInt8) : Bool := match Go.Lib.atoiAll l with | .ok _ => true | _ => false
theorem strconv_Atoi_any (s : ByteArray) (hs : s.size ≤ 281474976710656) (w : World) (hG : Glob w) :
    Calls Tryd.prog 36 #[.string s] w fun e w' => ∃ ev, e = .returned (.tuple #[.int .i64 (atoiVal s.data.toList), ev]) ∧ (atoiOk s.data.toList = true → ev = .nilIface) ∧ (atoiOk s.data.toList = false → ∃ t p, ev = .iface t (.pointer (some p))) ∧ Below w.heap.size w w' := by
  obtain ⟨_, ⟨t2, p2, h2⟩, ⟨t3, p3, h3⟩⟩ := hG
  unfold atoiVal atoiOk
  cases h : Go.Lib.atoiAll s.data.toList with
  | ok v =>
    refine (Tryd.strconv_Atoi_ok s (by omega) v h w).mono ?_
    rintro e w' ⟨rfl, hw⟩
    refine ⟨_, rfl, fun _ => rfl, fun h => by simp at h, ?_⟩
    rcases hw with rfl | ⟨t, rfl⟩
    · exact Below.refl _ _
    · exact bytes_below (Below.refl _ _) (Nat.le_refl _) _ _
  | range =>
    refine (Tryd.strconv_Atoi_range_var s hs h t3 p3 w h3).mono ?_
    rintro e w' ⟨N, rfl, _, _, hb⟩
    exact ⟨_, rfl, fun h => by simp at h, fun _ => ⟨_, _, rfl⟩, hb⟩
  | _ =>
    refine (Tryd.strconv_Atoi_syntax_var s hs h t2 p2 w h2).mono ?_
    rintro e w' ⟨N, rfl, _, _, hb⟩
    exact ⟨_, rfl, fun h => by simp at h, fun _ => ⟨_, _, rfl⟩, hb⟩
def strings_Join.f (l : List ByteArray) (s : ByteArray) : Option ByteArray :=
  if l.length ≤ 140737488355328 ∧ (Go.Lib.join (l.map (·.data.toList)) s.data.toList).length ≤ 140737488355328 then some ⟨(Go.Lib.join (l.map (·.data.toList)) s.data.toList).toArray⟩ else none
theorem strings_Join.calls (A0 : Option Addr) (c0 : Nat) (l0 : List ByteArray) (a1 : ByteArray) (r : ByteArray) (w : World) (hr0 : Kd.C Kd.string w A0 l0.length l0) (hc0 : l0.length ≤ c0) (h : strings_Join.f l0 a1 = some r) :
    Calls Tryd.prog 20 #[.slice A0 l0.length c0, .string a1] w fun e w' => e = .returned (.string r) ∧ Below w.heap.size w w' := by
  unfold strings_Join.f at h
  split at h
  · rename_i hb
    cases h
    cases l0 with
    | nil =>
      refine (Tryd.strings_Join_none A0 c0 a1 w).mono ?_
      rintro e w' ⟨rfl, rfl⟩
      exact ⟨rfl, Below.refl _ _⟩
    | cons x l =>
      obtain ⟨_, _, hc1⟩ := hr0
      obtain ⟨ad, rfl, hc⟩ := hc1 (by simp)
      clear hc1
      have hcell : ∀ (j : Nat) y, (x :: l)[j]? = some y → w.cell? (ad.add j) = some (.string y) := fun j y hj => by
        obtain ⟨c, hl, rfl, hcc⟩ := hc j y hj
        have := hcc 0 _ rfl
        rwa [show j * Kd.string.sz + 0 = j from by simp [Kd.string, Kd.scalar]] at this
      obtain ⟨bk, o, sp⟩ := ad
      have h0 := hcell 0 x rfl
      have hsp : sp = none := by
        cases sp with
        | none => rfl
        | some z => simp [Addr.add, World.cell?] at h0; split at h0 <;> simp at h0
      subst hsp
      have hbk : bk < w.heap.size := by have := World.block_lt_of_cell? w _ h0; simpa [Addr.add] using this
      exact Tryd.strings_Join bk o c0 (x :: l) a1 w (fun j y hj => by have := hcell j y hj; unfold Addr.add at this; split at this <;> simp_all) hbk hb.1 hc0 hb.2
  · cases h
end Go.Proofs.YtnfpchpnephheaaDoor.Lib
end
section
namespace Go.Proofs.YtnfpchpnephheaaDoor.Op
open Go.RowKit Go.Proofs.YtnfpchpnephheaaDoorW.PrintWords Go.Proofs.YtnfpchpnephheaaDoorW.PrintLast Go.Proofs.YtnfpchpnephheaaDoorW.PrintMore
set_option linter.unusedVariables false
set_option linter.unusedSimpArgs false
def Opens {α : Type} (P : Program) (t : TypeId) (K : World → α → List Value → Prop) (G : α → Prop) : Prop :=
  ∀ (H : Type) (enc : TypeId × Value → H) (w : World) (fuel : Nat) (cs : List Value) (d : DataW H) (ps : List MemPlace), DataW.trod enc P w 0 (fun _ => true) true fuel t cs = some (d, ps) → ∃ x, K w x cs ∧ G x
theorem opens_int {P : Program} {t : TypeId} {k : IntKind} (hu : P.underlying t = some (.int k)) : Opens P t (Kd.int k).K (fun n => (Lit.int k n).wf = true) := by
  intro H enc w fuel cs d ps h
  cases fuel with
  | zero => simp [DataW.trod] at h
  | succ m =>
    unfold DataW.trod at h
    simp only [hu] at h
    split at h <;> first | cases h; done | skip
    all_goals first
      | (rename_i k' n h1; injection h1 with h1; injection h1 with h1; subst h1; by_cases hc : k' = k ∧ (Lit.int k n).wf = true
         · obtain ⟨rfl, hw⟩ := hc
           exact ⟨_, rfl, hw⟩
         · rw [if_neg hc] at h
           cases h)
      | (rename_i k' n; by_cases hc : k' = k ∧ (Lit.int k n).wf = true
         · obtain ⟨rfl, hw⟩ := hc
           exact ⟨_, rfl, hw⟩
         · rw [if_neg hc] at h
           cases h)
      | (rename_i h1; cases h1)
      | (rename_i h1 h2; cases h1)
      | cases h
theorem choose_list {α : Type} (Pr : Nat → α → Prop) : ∀ (n : Nat), (∀ i, i < n → ∃ x, Pr i x) → ∃ xs : List α, xs.length = n ∧ ∀ j x, xs[j]? = some x → Pr j x
  | 0, _ => ⟨[], rfl, fun j x h => by simp at h⟩
  | n + 1, h => by
    obtain ⟨xs, hl, hx⟩ := choose_list Pr n (fun i hi => h i (by omega))
    obtain ⟨y, hy⟩ := h n (by omega)
    refine ⟨xs ++ [y], by simp [hl], fun j x hj => ?_⟩
    rcases Nat.lt_or_ge j n with hlt | hge
    · rw [List.getElem?_append_left (by omega)] at hj
      exact hx j x hj
    · rw [List.getElem?_append_right (by omega)] at hj
      obtain rfl : j = n := by
        have : j - xs.length < 1 := by
          have := (List.getElem?_eq_some_iff.1 hj).1
          simpa using this
        omega
      rw [hl, Nat.sub_self] at hj
      simp only [List.getElem?_cons_zero, Option.some.injEq] at hj
      subst hj
      exact hy
theorem opens_slice {α : Type} {P : Program} {t e : TypeId} {d : Kd α} {G : α → Prop} (q : Nat) (hu : P.underlying t = some (.slice e)) (hz : P.cellsOf e = d.sz) (hd : Opens P e d.K G) :
    Opens P t (Kd.slice q d).K (fun l => l.length ≤ maxLen ∧ ∀ x ∈ l, G x) := by
  intro H enc w fuel cs dd ps h
  cases fuel with
  | zero => simp [DataW.trod] at h
  | succ m =>
    unfold DataW.trod at h
    simp only [hu] at h
    split at h
    case h_7 => exact ⟨[], ⟨none, 0, rfl, Nat.le_refl _, ⟨rfl, Nat.zero_le _, fun h => absurd h (Nat.lt_irrefl _)⟩⟩, Nat.zero_le _, fun x hx => absurd hx List.not_mem_nil⟩
    case h_8 _ e' a len cap h1 =>
      injection h1 with h1
      injection h1 with h1
      subst h1
      split at h
      case isFalse => cases h
      case isTrue hc =>
        obtain ⟨hb, hlc, hcm⟩ := hc
        obtain ⟨elems, hm, h⟩ := Option.bind_eq_some_iff.1 h
        have hel : ∀ i, i < len → ∃ x, (G x ∧ ∃ c, c.length = d.sz ∧ d.K w x c ∧ ∀ i' u, c[i']? = some u → w.cell? (a.add (i * d.sz + i')) = some u) := by
          intro i hi
          have hg := mapM_some_get hm i i (by simp [hi])
          have hln : elems.length = (List.range len).length := mapM_some_length hm
          simp only [List.length_range] at hln
          rw [List.getElem?_eq_getElem (by omega)] at hg
          obtain ⟨c, hc1, hc2⟩ := Option.bind_eq_some_iff.1 hg
          obtain ⟨x, hx, hGx⟩ := hd H enc w m c _ _ hc2
          rw [hz] at hc1
          unfold World.cells? at hc1
          split at hc1
          case isFalse => cases hc1
          case isTrue =>
            have hcl : c.length = (List.range d.sz).length := mapM_some_length hc1
            simp only [List.length_range] at hcl
            refine ⟨x, hGx, c, hcl, hx, fun i' u hu' => ?_⟩
            have hlt := (List.getElem?_eq_some_iff.1 hu').1
            have hg' := mapM_some_get hc1 i' i' (show (List.range d.sz)[i']? = some i' from List.getElem?_range (by omega))
            rw [hu'] at hg'
            rw [← hg', show (a.add (i * d.sz)).add i' = a.add (i * d.sz + i') from Addr.add_add _ _ _]
        obtain ⟨xs, hxl, hxs⟩ := choose_list _ len hel
        subst hxl
        refine ⟨xs, ⟨some a, cap, rfl, hlc, ⟨rfl, Nat.le_trans hlc (Nat.le_trans hcm (by decide)), fun _ => ⟨a, rfl, fun j p hj => ?_⟩⟩⟩, Nat.le_trans hlc hcm, fun x hx => ?_⟩
        · obtain ⟨_, c, h1, h2, h3⟩ := hxs j p hj
          exact ⟨c, h1, h2, h3⟩
        · obtain ⟨j, hj⟩ := List.getElem?_of_mem hx
          exact (hxs j x hj).1
    all_goals first | cases h; done | (rename_i h1 h2; cases h1; done) | (rename_i h1; cases h1; done) | skip
def OpensF {α : Type} (P : Program) (off sz : Nat) (fs : List Field) (K : World → α → List Value → Prop) (G : α → Prop) : Prop :=
  ∀ (H : Type) (enc : TypeId × Value → H) (w : World) (fuel : Nat) (cs : List Value) (xs : List (DataW H × List MemPlace)), cs.length = off + sz →
    fs.mapM (fun f => DataW.trod enc P w 0 (fun _ => true) true fuel f.type ((cs.drop f.offset).take (P.cellsOf f.type))) = some xs → ∃ x, K w x (cs.drop off) ∧ G x
theorem opensF_one {α : Type} {P : Program} {off sz : Nat} {f : Field} {K : World → α → List Value → Prop} {G : α → Prop} (t : TypeId) (ht : f.type = t) (ho : f.offset = off) (hz : P.cellsOf t = sz) (hd : Opens P t K G) : OpensF P off sz [f] K G := by
  intro H enc w fuel cs xs hl h
  subst ht
  rw [List.mapM_cons] at h
  obtain ⟨x, hx, h⟩ := Option.bind_eq_some_iff.1 h
  rw [ho, hz, List.take_of_length_le (by simp; omega)] at hx
  exact hd H enc w fuel _ x.1 x.2 hx
theorem opensF_cons {α β : Type} {P : Program} {off : Nat} {f : Field} {fs : List Field} {a : Kd α} {b : Kd β} {Ga : α → Prop} {Gb : β → Prop} (t : TypeId) (ht : f.type = t) (ho : f.offset = off) (hz : P.cellsOf t = a.sz) (hd : Opens P t a.K Ga)
    (hr : OpensF P (off + a.sz) b.sz fs b.K Gb) : OpensF P off (a.sz + b.sz) (f :: fs) (Kd.pair a b).K (fun x => Ga x.1 ∧ Gb x.2) := by
  intro H enc w fuel cs xs hl h
  subst ht
  rw [List.mapM_cons] at h
  obtain ⟨x, hx, h⟩ := Option.bind_eq_some_iff.1 h
  obtain ⟨ys, hy, _⟩ := Option.bind_eq_some_iff.1 h
  rw [ho, hz] at hx
  obtain ⟨u, hu, gu⟩ := hd H enc w fuel _ x.1 x.2 hx
  obtain ⟨v, hv, gv⟩ := hr H enc w fuel cs ys (by omega) hy
  refine ⟨(u, v), ⟨_, _, ?_, hu, hv⟩, gu, gv⟩
  rw [← List.drop_drop, List.take_append_drop]
theorem opens_struct {α : Type} {P : Program} {t : TypeId} {fs : Array Field} {sz : Nat} {K : World → α → List Value → Prop} {G : α → Prop} (hu : P.underlying t = some (.struct fs)) (hz : P.cellsOf t = sz) (hf : OpensF P 0 sz fs.toList K G) : Opens P t K G := by
  intro H enc w fuel cs d ps h
  cases fuel with
  | zero => simp [DataW.trod] at h
  | succ m =>
    unfold DataW.trod at h
    simp only [hu] at h
    split at h
    case isFalse => cases h
    case isTrue hl =>
      obtain ⟨xs, hx, _⟩ := Option.map_eq_some_iff.1 h
      obtain ⟨x, hk, hg⟩ := hf H enc w m cs xs (by omega) hx
      exact ⟨x, by simpa using hk, hg⟩
theorem opens_arg {α : Type} {P : Program} {t : TypeId} {K : World → α → List Value → Prop} {G : α → Prop} (h : Opens P t K G) {H : Type} {enc : TypeId × Value → H} {w : World} {v : Value} {d : DataW H} {ps : List MemPlace} (ht : DataW.Trod enc P w 0 (fun _ => true) true t v d ps) :
    ∃ x, K w x v.cells.toList ∧ G x := by
  obtain ⟨fuel, hf⟩ := ht
  exact h H enc w fuel _ d ps hf
theorem agg_of {v : Value} {a b : Value} {l : List Value} (h : v.cells.toList = a :: b :: l) : v = .agg (a :: b :: l).toArray := by
  cases v <;> simp [Value.cells] at h
  rw [← h]
theorem trod_lt {H : Type} {enc : TypeId × Value → H} {P : Program} {w : World} {t : TypeId} {v : Value} {d : DataW H} {ps : List MemPlace} (ht : DataW.Trod enc P w 0 (fun _ => true) true t v d ps) : ∀ x ∈ ps, x.block < w.heap.size := by
  obtain ⟨m, hm⟩ := ht
  exact DataW.trod_lt m _ _ _ hm
end Go.Proofs.YtnfpchpnephheaaDoor.Op
end
section
namespace Go.Proofs.YtnfpchpnephheaaDoor.PA
open Go.RowKit Go.Proofs.YtnfpchpnephheaaDoor.Lib Go.Proofs.YtnfpchpnephheaaDoorW.PrintWords Go.Proofs.YtnfpchpnephheaaDoorW.PrintLast Go.Proofs.YtnfpchpnephheaaDoorW.PrintMore
attribute [local go_sem] max2_int min2_int max_two min_two max_three min_three max_four min_four   
set_option linter.unusedVariables false
set_option linter.unusedSimpArgs false
def errW : Option Int → Value
 | none => .nilIface
 | some c => .iface 0 (.int .i64 c)
theorem errW_none : errW none = .nilIface:=rfl
theorem errW_some (c : Int) : errW (some c) = .iface 0 (.int .i64 c):=rfl
theorem info3 : (Tryd.prog.info? 3).map (fun i => (i.zero,i.size,i.bytes)) = some (some (.int .i64 0),1,8):=by kernel_rfl
theorem info9 : (Tryd.prog.info? 9).map (fun i => (i.zero,i.size,i.bytes)) = some (some (.string ⟨#[]⟩),1,16):=by kernel_rfl
end Go.Proofs.YtnfpchpnephheaaDoor.PA
end
section
namespace Go.Proofs.YtnfpchpnephheaaDoor.PA
open Go.RowKit Go.Proofs.YtnfpchpnephheaaDoor.Lib Go.Proofs.YtnfpchpnephheaaDoorW.PrintWords Go.Proofs.YtnfpchpnephheaaDoorW.PrintLast Go.Proofs.YtnfpchpnephheaaDoorW.PrintMore
attribute [local go_sem] max2_int min2_int max_two min_two max_three min_three max_four min_four   
set_option linter.unusedVariables false
set_option linter.unusedSimpArgs false
theorem eqA36 (d : Nat) (w : World) (x0 y0 : Int) (x1 y1 : Int) :
  (Op.equalIn (d + 2) 36 (.agg #[.int .i64 x0,.int .i64 x1]) (.agg #[.int .i64 y0,.int .i64 y1])).run Tryd.prog w = .ok (x0 == y0 && (x1 == y1)) w:=by
 (refine eqA_of Tryd.underlying36 (by kernel_rfl) ?_);(refine eqf_cons (by rfl) (by go_simp;rfl) (by go_simp;rfl) (by go_simp) ?_);(exact eqf_last (by rfl) (by go_simp;rfl) (by go_simp;rfl) (by go_simp))
end Go.Proofs.YtnfpchpnephheaaDoor.PA
end
section
namespace Go.Proofs.YtnfpchpnephheaaDoor.PA
open Go.RowKit Go.Proofs.YtnfpchpnephheaaDoor.Lib Go.Proofs.YtnfpchpnephheaaDoorW.PrintWords Go.Proofs.YtnfpchpnephheaaDoorW.PrintLast Go.Proofs.YtnfpchpnephheaaDoorW.PrintMore
attribute [local go_sem] max2_int min2_int max_two min_two max_three min_three max_four min_four   
set_option linter.unusedVariables false
set_option linter.unusedSimpArgs false
attribute [local go_sem high] eqA36
def IsS55 (w0 W : World) (g : Nat) (f0 : ByteArray) (f1 : Int) (f2 : Int) (f3 : Int) : Prop := W.heap[g]? = some (.cells #[.string f0, .int .i64 f1, .int .i64 f2, .int .i64 f3] 55 (0, 0)) ∧ w0.heap.size ≤ g
theorem IsS55.grown {w0 W : World} {g : Nat} {f0 : ByteArray} {f1 : Int} {f2 : Int} {f3 : Int} {W1 : World} {row : Option Nat} (h : IsS55 w0 W g f0 f1 f2 f3) (hw : W.grownBy W1 row) (hne : some g ≠ row) : IsS55 w0 W1 g f0 f1 f2 f3:=by
 (obtain ⟨hb,hg⟩:=h);(exact ⟨blk_grown hb hw hne,hg⟩)
theorem IsS55.kept {w0 W : World} {g : Nat} {f0 : ByteArray} {f1 : Int} {f2 : Int} {f3 : Int} {W1 : World} {S : Nat → Prop} (h : IsS55 w0 W g f0 f1 f2 f3) (hk : Kept W W1 S) (hne : ¬ S g) : IsS55 w0 W1 g f0 f1 f2 f3:=by
 (obtain ⟨hb,hg⟩:=h);(exact ⟨blk_kept hb hk hne,hg⟩)
theorem IsS55.below {w0 W : World} {g : Nat} {f0 : ByteArray} {f1 : Int} {f2 : Int} {f3 : Int} {W1 : World} (h : IsS55 w0 W g f0 f1 f2 f3) (hw : Below W.heap.size W W1) : IsS55 w0 W1 g f0 f1 f2 f3:=h.grown (grown_of_below hw none) (by simp)
theorem IsS55.alloc {w0 W : World} {g : Nat} {f0 : ByteArray} {f1 : Int} {f2 : Int} {f3 : Int} (h : IsS55 w0 W g f0 f1 f2 f3) (o : Obj) : IsS55 w0 (W.alloc o) g f0 f1 f2 f3:=h.below (below_alloc (Below.refl _ _) o)
theorem IsS55.drewN {w0 W : World} {g : Nat} {f0 : ByteArray} {f1 : Int} {f2 : Int} {f3 : Int} (h : IsS55 w0 W g f0 f1 f2 f3) (m : Nat) : IsS55 w0 (W.drewN m) g f0 f1 f2 f3:=h
theorem IsS55.drew {w0 W : World} {g : Nat} {f0 : ByteArray} {f1 : Int} {f2 : Int} {f3 : Int} (h : IsS55 w0 W g f0 f1 f2 f3) : IsS55 w0 W.drew g f0 f1 f2 f3:=h
theorem IsS55.at_ {w0 W : World} {g : Nat} {f0 : ByteArray} {f1 : Int} {f2 : Int} {f3 : Int} {w' : World} {m : Nat} (hq : W.drewN m = w') (h : IsS55 w0 W g f0 f1 f2 f3) : IsS55 w0 w' g f0 f1 f2 f3:=by subst hq;exact IsS55.drewN h m
theorem IsS55.apart {w0 W : World} {g : Nat} {f0 : ByteArray} {f1 : Int} {f2 : Int} {f3 : Int} {α : Type} {d : Kd α} {e : Nat} {base : Nat} {ok : Nat → Prop} {v : Value} {xs : List α} (h : IsS55 w0 W g f0 f1 f2 f3) (ho : d.R e W base ok v xs) (ht : ∀ q,q ∈ e :: d.E → q ≠ 55) : d.R e W base (fun k => ok k∧k ≠ g) v xs:=by
 (obtain ⟨hb,hg⟩:=h);(exact Kd.R_types ho hb ht)
theorem IsS55.own_ne {w0 W : World} {g : Nat} {f0 : ByteArray} {f1 : Int} {f2 : Int} {f3 : Int} {α : Type} {d : Kd α} {e : Nat} {base : Nat} {ok : Nat → Prop} {v : Value} {xs : List α} (h : IsS55 w0 W g f0 f1 f2 f3) (ho : d.R e W base ok v xs) (ht : e ≠ 55) : some g ≠ v.ownBlock:=by
 (obtain ⟨hb,hg⟩:=h);(exact Kd.R_ne ho hb ht)
theorem IsS55.lt {w0 W : World} {g : Nat} {f0 : ByteArray} {f1 : Int} {f2 : Int} {f3 : Int} (h : IsS55 w0 W g f0 f1 f2 f3) : g < W.heap.size:=by
 (obtain ⟨hb,hg⟩:=h);(exact blk_lt hb)
theorem IsS55.ge {w0 W : World} {g : Nat} {f0 : ByteArray} {f1 : Int} {f2 : Int} {f3 : Int} (h : IsS55 w0 W g f0 f1 f2 f3) : w0.heap.size ≤ g:=by
 (obtain ⟨hb,hg⟩:=h);(exact hg)
theorem cellS55_0 {W : World} {g : Nat} {f0 : ByteArray} {f1 : Int} {f2 : Int} {f3 : Int} (h : W.heap[g]? = some (.cells #[.string f0,.int .i64 f1,.int .i64 f2,.int .i64 f3] 55 (0,0))) : W.cell? ⟨g,0,none⟩ = some (.string f0):=(blk_cell h 0).trans rfl
theorem IsS55.set_0 {w0 W : World} {g : Nat} {f0 : ByteArray} {f1 : Int} {f2 : Int} {f3 : Int} (h : IsS55 w0 W g f0 f1 f2 f3) (x : ByteArray) : IsS55 w0 (W.setCell ⟨g,0,none⟩ (.string x)) g x f1 f2 f3:=by
 (obtain ⟨hb,hg⟩:=h);(exact ⟨by simpa using blk_set hb 0 (.string x),hg⟩)
theorem cellS55_1 {W : World} {g : Nat} {f0 : ByteArray} {f1 : Int} {f2 : Int} {f3 : Int} (h : W.heap[g]? = some (.cells #[.string f0,.int .i64 f1,.int .i64 f2,.int .i64 f3] 55 (0,0))) : W.cell? ⟨g,1,none⟩ = some (.int .i64 f1):=(blk_cell h 1).trans rfl
theorem IsS55.set_1 {w0 W : World} {g : Nat} {f0 : ByteArray} {f1 : Int} {f2 : Int} {f3 : Int} (h : IsS55 w0 W g f0 f1 f2 f3) (x : Int) : IsS55 w0 (W.setCell ⟨g,1,none⟩ (.int .i64 x)) g f0 x f2 f3:=by
 (obtain ⟨hb,hg⟩:=h);(exact ⟨by simpa using blk_set hb 1 (.int .i64 x),hg⟩)
theorem cellS55_2 {W : World} {g : Nat} {f0 : ByteArray} {f1 : Int} {f2 : Int} {f3 : Int} (h : W.heap[g]? = some (.cells #[.string f0,.int .i64 f1,.int .i64 f2,.int .i64 f3] 55 (0,0))) : W.cell? ⟨g,2,none⟩ = some (.int .i64 f2):=(blk_cell h 2).trans rfl
theorem IsS55.set_2 {w0 W : World} {g : Nat} {f0 : ByteArray} {f1 : Int} {f2 : Int} {f3 : Int} (h : IsS55 w0 W g f0 f1 f2 f3) (x : Int) : IsS55 w0 (W.setCell ⟨g,2,none⟩ (.int .i64 x)) g f0 f1 x f3:=by
 (obtain ⟨hb,hg⟩:=h);(exact ⟨by simpa using blk_set hb 2 (.int .i64 x),hg⟩)
theorem cellS55_3 {W : World} {g : Nat} {f0 : ByteArray} {f1 : Int} {f2 : Int} {f3 : Int} (h : W.heap[g]? = some (.cells #[.string f0,.int .i64 f1,.int .i64 f2,.int .i64 f3] 55 (0,0))) : W.cell? ⟨g,3,none⟩ = some (.int .i64 f3):=(blk_cell h 3).trans rfl
theorem IsS55.set_3 {w0 W : World} {g : Nat} {f0 : ByteArray} {f1 : Int} {f2 : Int} {f3 : Int} (h : IsS55 w0 W g f0 f1 f2 f3) (x : Int) : IsS55 w0 (W.setCell ⟨g,3,none⟩ (.int .i64 x)) g f0 f1 f2 x:=by
 (obtain ⟨hb,hg⟩:=h);(exact ⟨by simpa using blk_set hb 3 (.int .i64 x),hg⟩)
def array_reader_well.f (s0_0 : ByteArray) (s0_1 : Int) (s0_2 : Int) (s0_3 : Int) : Option (Bool × ByteArray × Int × Int × Int) := some ((s0_2 == 0 && (s0_3 == 0)), s0_0, s0_1, s0_2, s0_3)
set_option maxHeartbeats 8000000 in
set_option maxRecDepth 100000 in
theorem array_reader_well.calls (g : Nat) (s0_0 : ByteArray) (s0_1 : Int) (s0_2 : Int) (s0_3 : Int) (r1 : Bool) (r2 : ByteArray) (r3 : Int) (r4 : Int) (r5 : Int) (w0 w : World) (hI : IsS55 w0 w g s0_0 s0_1 s0_2 s0_3) (hB : Below w0.heap.size w0 w) (h : array_reader_well.f s0_0 s0_1 s0_2 s0_3 = some (r1,r2,r3,r4,r5)) :
  Calls Tryd.prog 22 #[.pointer (some ⟨g,0,none⟩)] w fun e w' => e = .returned (.bool r1)∧IsS55 w0 w' g r2 r3 r4 r5∧Below w0.heap.size w0 w'∧KeepBut w w' g none:=by
 (have hu36:=Tryd.underlying36);(have HI0:=Aside0.mk hI);(have HK:=Aside0.mk (KeepBut.refl w g none));(have HL:=Aside0.mk hB.size);(clear hI);(have HW0:=Aside0.mk hB.size);(have HB:=Aside0.mk hB);(clear hB);(have H : (some ((s0_2 == 0 && (s0_3 == 0)),s0_0,s0_1,s0_2,s0_3)) = some (r1,r2,r3,r4,r5):=h);(clear h);(simp only [Option.some.injEq,Prod.mk.injEq] at H);(obtain ⟨rfl,rfl,rfl,rfl,rfl⟩:=H);(obtain ⟨HGz2,hgz2⟩:=HI0.out);(have hcz2_0:=cellS55_0 HGz2);(have hcz2_1:=cellS55_1 HGz2);(have hcz2_2:=cellS55_2 HGz2);(have hcz2_3:=cellS55_3 HGz2);(have hfz2_0:=blk_frozen HGz2 0);(have hfz2_1:=blk_frozen HGz2 1);(have hfz2_2:=blk_frozen HGz2 2);(have hfz2_3:=blk_frozen HGz2 3);(clear HGz2 hgz2);(go_enter Tryd.func22,Tryd.ntmps22);(go_wp2);(go_ret);(exact ⟨by first|rfl|(simp [errW_none,errW_some] <;> rfl)|(simp [*,errW_none,errW_some] <;> rfl),by repeat (first|(with_reducible first|exact HI0.out|apply IsS55.alloc|apply IsS55.drewN|apply IsS55.drew|apply IsS55.set_0|apply IsS55.set_1|apply IsS55.set_2|apply IsS55.set_3)|exact HI0.out),by repeat (first|(with_reducible first|exact HB.out|apply below_alloc|apply pw_below_drewN|apply below_drew1|refine below_set ?_ (IsS55.ge HI0.out))|exact HB.out),by repeat (first|(with_reducible first|exact HK.out|apply KeepBut.set_|apply keep_drewN|apply keep_drew|apply keep_alloc)|exact HK.out)⟩)
def array_reader_wrong.f (s0_0 : ByteArray) (s0_1 : Int) (s0_2 : Int) (s0_3 : Int) (a1 : Int) : Option (ByteArray × Int × Int × Int) := (array_reader_well.f s0_0 s0_1 s0_2 s0_3).bind fun bt165 => (if bt165.1 = true then (if a1 = (bt165.2.1.size : Int) then (some (bt165.2.1, bt165.2.2.1, 4, a1)) else (some (bt165.2.1, bt165.2.2.1, 3, a1))) else (some (bt165.2.1, bt165.2.2.1, bt165.2.2.2.1, bt165.2.2.2.2)))
set_option maxHeartbeats 8000000 in
set_option maxRecDepth 100000 in
theorem array_reader_wrong.calls (g : Nat) (s0_0 : ByteArray) (s0_1 : Int) (s0_2 : Int) (s0_3 : Int) (a1 : Int) (r1 : ByteArray) (r2 : Int) (r3 : Int) (r4 : Int) (w0 w : World) (hI : IsS55 w0 w g s0_0 s0_1 s0_2 s0_3) (hB : Below w0.heap.size w0 w) (h : array_reader_wrong.f s0_0 s0_1 s0_2 s0_3 a1 = some (r1,r2,r3,r4)) :
  Calls Tryd.prog 26 #[.pointer (some ⟨g,0,none⟩),.int .i64 a1] w fun e w' => e = .returned (.tuple #[])∧IsS55 w0 w' g r1 r2 r3 r4∧Below w0.heap.size w0 w'∧KeepBut w w' g none:=by
 (have hu36:=Tryd.underlying36);(have HI0:=Aside0.mk hI);(have HK:=Aside0.mk (KeepBut.refl w g none));(have HL:=Aside0.mk hB.size);(clear hI);(have HW0:=Aside0.mk hB.size);(have HB:=Aside0.mk hB);(clear hB);(have H : ((array_reader_well.f s0_0 s0_1 s0_2 s0_3).bind fun bt165 => (if bt165.1 = true then (if a1 = (bt165.2.1.size : Int) then (some (bt165.2.1,bt165.2.2.1,4,a1)) else (some (bt165.2.1,bt165.2.2.1,3,a1))) else (some (bt165.2.1,bt165.2.2.1,bt165.2.2.2.1,bt165.2.2.2.2)))) = some (r1,r2,r3,r4):=h);(clear h);(replace H:=Option.bind_eq_some_iff.mp H);(obtain ⟨⟨t165,t166,t167,t168,t169⟩,A30,H⟩:=H);(replace H : (if t165 = true then (if a1 = (t166.size : Int) then (some (t166,t167,4,a1)) else (some (t166,t167,3,a1))) else (some (t166,t167,t168,t169))) = some (r1,r2,r3,r4):=H);(have A3:=Aside0.mk A30);(clear A30);(by_cases c4 : t165 = true)
 ·(subst c4);(have H1 : (if a1 = (t166.size : Int) then (some (t166,t167,4,a1)) else (some (t166,t167,3,a1))) = some (r1,r2,r3,r4):=by rw [if_pos rfl] at H;exact H);(clear H);(have H:=H1);(clear H1);(by_cases c5 : a1 = (t166.size : Int))
  ·(rw [if_pos c5] at H);(have c5b0 : (a1 == (t166.size : Int)) = true:=beq_iff_eq.mpr c5);(have c5b1 : (a1 != (t166.size : Int)) = false:=bne_eq_false_iff_eq.mpr c5);(clear c5);(simp only [Option.some.injEq,Prod.mk.injEq] at H);(obtain ⟨rfl,rfl,rfl,rfl⟩:=H);(go_enter Tryd.func26,Tryd.ntmps26);(go_wp2_with (first|((with_reducible refine gate_callee (f:=22) rfl ?_);refine goesL_ (some 5) rfl rfl Tryd.func22 (by kernel_rfl) rfl #[.pointer (some ⟨g,0,none⟩)] rfl (by (try simp only [List.map_toArray,List.map_cons,List.map_nil]);first|done|rfl|(simp only [List.length_drop,List.length_take];rfl)) ?_;(with_reducible refine (array_reader_well.calls g s0_0 s0_1 s0_2 s0_3 true t166 t167 t168 t169 w0 _ ?side1 ?side2 A3.out).mono ?_);(case side1 => repeat (first|(with_reducible first|exact HI0.out|apply IsS55.alloc|apply IsS55.drewN|apply IsS55.drew|apply IsS55.set_0|apply IsS55.set_1|apply IsS55.set_2|apply IsS55.set_3)|exact HI0.out));(case side2 => repeat (first|(with_reducible first|exact HB.out|apply below_alloc|apply pw_below_drewN|apply below_drew1|refine below_set ?_ (IsS55.ge HI0.out))|exact HB.out));rintro e w6 ⟨rfl,hi,hb,hk⟩;refine ⟨_,rfl,?_⟩;have n0_:=Aside0.mk (KeepBut.trans (by repeat (first|(with_reducible first|exact HK.out|apply KeepBut.set_|apply keep_drewN|apply keep_drew|apply keep_alloc)|exact HK.out)) hk (.inl rfl));have n1_:=Aside0.mk (hb);have n2_:=Aside0.mk (hi);clear HK;clear HB;clear HI0;have HK:=n0_;have HB:=n1_;have HI0:=n2_;clear n0_ n1_ n2_;(try clear hb);(try clear hb2);(try clear hk);(try clear hi);obtain ⟨HGz7,hgz7⟩:=HI0.out;have hcz7_0:=cellS55_0 HGz7;have hcz7_1:=cellS55_1 HGz7;have hcz7_2:=cellS55_2 HGz7;have hcz7_3:=cellS55_3 HGz7;have hfz7_0:=blk_frozen HGz7 0;have hfz7_1:=blk_frozen HGz7 1;have hfz7_2:=blk_frozen HGz7 2;have hfz7_3:=blk_frozen HGz7 3;clear HGz7 hgz7)))
   first|go_end0|((try simp only [Exit.inBlock,Exit.then]);refine bodyPost_ret (results_none rfl _ _ _) rfl ?_)
   (exact ⟨by first|rfl|(simp [errW_none,errW_some] <;> rfl)|(simp [*,errW_none,errW_some] <;> rfl),by repeat (first|(with_reducible first|exact HI0.out|apply IsS55.alloc|apply IsS55.drewN|apply IsS55.drew|apply IsS55.set_0|apply IsS55.set_1|apply IsS55.set_2|apply IsS55.set_3)|exact HI0.out),by repeat (first|(with_reducible first|exact HB.out|apply below_alloc|apply pw_below_drewN|apply below_drew1|refine below_set ?_ (IsS55.ge HI0.out))|exact HB.out),by repeat (first|(with_reducible first|exact HK.out|apply KeepBut.set_|apply keep_drewN|apply keep_drew|apply keep_alloc)|exact HK.out)⟩)
  ·(rw [if_neg c5] at H);(have c5b0 : (a1 == (t166.size : Int)) = false:=beq_eq_false_iff_ne.mpr c5);(have c5b1 : (a1 != (t166.size : Int)) = true:=bne_iff_ne.mpr c5);(simp only [Option.some.injEq,Prod.mk.injEq] at H);(obtain ⟨rfl,rfl,rfl,rfl⟩:=H);(go_enter Tryd.func26,Tryd.ntmps26);(go_wp2_with (first|((with_reducible refine gate_callee (f:=22) rfl ?_);refine goesL_ (some 5) rfl rfl Tryd.func22 (by kernel_rfl) rfl #[.pointer (some ⟨g,0,none⟩)] rfl (by (try simp only [List.map_toArray,List.map_cons,List.map_nil]);first|done|rfl|(simp only [List.length_drop,List.length_take];rfl)) ?_;(with_reducible refine (array_reader_well.calls g s0_0 s0_1 s0_2 s0_3 true t166 t167 t168 t169 w0 _ ?side1 ?side2 A3.out).mono ?_);(case side1 => repeat (first|(with_reducible first|exact HI0.out|apply IsS55.alloc|apply IsS55.drewN|apply IsS55.drew|apply IsS55.set_0|apply IsS55.set_1|apply IsS55.set_2|apply IsS55.set_3)|exact HI0.out));(case side2 => repeat (first|(with_reducible first|exact HB.out|apply below_alloc|apply pw_below_drewN|apply below_drew1|refine below_set ?_ (IsS55.ge HI0.out))|exact HB.out));rintro e w8 ⟨rfl,hi,hb,hk⟩;refine ⟨_,rfl,?_⟩;have n0_:=Aside0.mk (KeepBut.trans (by repeat (first|(with_reducible first|exact HK.out|apply KeepBut.set_|apply keep_drewN|apply keep_drew|apply keep_alloc)|exact HK.out)) hk (.inl rfl));have n1_:=Aside0.mk (hb);have n2_:=Aside0.mk (hi);clear HK;clear HB;clear HI0;have HK:=n0_;have HB:=n1_;have HI0:=n2_;clear n0_ n1_ n2_;(try clear hb);(try clear hb2);(try clear hk);(try clear hi);obtain ⟨HGz9,hgz9⟩:=HI0.out;have hcz9_0:=cellS55_0 HGz9;have hcz9_1:=cellS55_1 HGz9;have hcz9_2:=cellS55_2 HGz9;have hcz9_3:=cellS55_3 HGz9;have hfz9_0:=blk_frozen HGz9 0;have hfz9_1:=blk_frozen HGz9 1;have hfz9_2:=blk_frozen HGz9 2;have hfz9_3:=blk_frozen HGz9 3;clear HGz9 hgz9)))
   first|go_end0|((try simp only [Exit.inBlock,Exit.then]);refine bodyPost_ret (results_none rfl _ _ _) rfl ?_)
   (exact ⟨by first|rfl|(simp [errW_none,errW_some] <;> rfl)|(simp [*,errW_none,errW_some] <;> rfl),by repeat (first|(with_reducible first|exact HI0.out|apply IsS55.alloc|apply IsS55.drewN|apply IsS55.drew|apply IsS55.set_0|apply IsS55.set_1|apply IsS55.set_2|apply IsS55.set_3)|exact HI0.out),by repeat (first|(with_reducible first|exact HB.out|apply below_alloc|apply pw_below_drewN|apply below_drew1|refine below_set ?_ (IsS55.ge HI0.out))|exact HB.out),by repeat (first|(with_reducible first|exact HK.out|apply KeepBut.set_|apply keep_drewN|apply keep_drew|apply keep_alloc)|exact HK.out)⟩)
 ·(replace c4:=Bool.eq_false_iff.mpr c4);(subst c4);(have H1 : (some (t166,t167,t168,t169)) = some (r1,r2,r3,r4):=by rw [if_neg (show ¬ (false = true) by decide)] at H;exact H);(clear H);(have H:=H1);(clear H1);(simp only [Option.some.injEq,Prod.mk.injEq] at H);(obtain ⟨rfl,rfl,rfl,rfl⟩:=H);(go_enter Tryd.func26,Tryd.ntmps26);(go_wp2_with (first|((with_reducible refine gate_callee (f:=22) rfl ?_);refine goesL_ (some 5) rfl rfl Tryd.func22 (by kernel_rfl) rfl #[.pointer (some ⟨g,0,none⟩)] rfl (by (try simp only [List.map_toArray,List.map_cons,List.map_nil]);first|done|rfl|(simp only [List.length_drop,List.length_take];rfl)) ?_;(with_reducible refine (array_reader_well.calls g s0_0 s0_1 s0_2 s0_3 false t166 t167 t168 t169 w0 _ ?side1 ?side2 A3.out).mono ?_);(case side1 => repeat (first|(with_reducible first|exact HI0.out|apply IsS55.alloc|apply IsS55.drewN|apply IsS55.drew|apply IsS55.set_0|apply IsS55.set_1|apply IsS55.set_2|apply IsS55.set_3)|exact HI0.out));(case side2 => repeat (first|(with_reducible first|exact HB.out|apply below_alloc|apply pw_below_drewN|apply below_drew1|refine below_set ?_ (IsS55.ge HI0.out))|exact HB.out));rintro e w10 ⟨rfl,hi,hb,hk⟩;refine ⟨_,rfl,?_⟩;have n0_:=Aside0.mk (KeepBut.trans (by repeat (first|(with_reducible first|exact HK.out|apply KeepBut.set_|apply keep_drewN|apply keep_drew|apply keep_alloc)|exact HK.out)) hk (.inl rfl));have n1_:=Aside0.mk (hb);have n2_:=Aside0.mk (hi);clear HK;clear HB;clear HI0;have HK:=n0_;have HB:=n1_;have HI0:=n2_;clear n0_ n1_ n2_;(try clear hb);(try clear hb2);(try clear hk);(try clear hi))))
  first|go_end0|((try simp only [Exit.inBlock,Exit.then]);refine bodyPost_ret (results_none rfl _ _ _) rfl ?_)
  (exact ⟨by first|rfl|(simp [errW_none,errW_some] <;> rfl)|(simp [*,errW_none,errW_some] <;> rfl),by repeat (first|(with_reducible first|exact HI0.out|apply IsS55.alloc|apply IsS55.drewN|apply IsS55.drew|apply IsS55.set_0|apply IsS55.set_1|apply IsS55.set_2|apply IsS55.set_3)|exact HI0.out),by repeat (first|(with_reducible first|exact HB.out|apply below_alloc|apply pw_below_drewN|apply below_drew1|refine below_set ?_ (IsS55.ge HI0.out))|exact HB.out),by repeat (first|(with_reducible first|exact HK.out|apply KeepBut.set_|apply keep_drewN|apply keep_drew|apply keep_alloc)|exact HK.out)⟩)
def marlinspikeref01_Ints.l0 : Nat → List Int → List Int → Int → Option (Bool)
 | 0, _, _, _ => none
 | k + 1, x0, x1, x5 => if x5 < (x0.length : Int) then (if 0 ≤ x5 then (if x5 < (x1.length : Int) then (if (rd x0 x5) = (rd x1 x5) then (marlinspikeref01_Ints.l0 k x0 x1 (wrap64 (x5 + 1))) else (some false)) else (none)) else (none)) else (some true)
def marlinspikeref01_Ints.f (k : Nat) (l0 : List Int) (l1 : List Int) : Option (Bool) := if (l0.length : Int) = (l1.length : Int) then (marlinspikeref01_Ints.l0 k l0 l1 0) else (some false)
theorem marlinspikeref01_Ints.mono_l : ∀ k,(∀ y0 y1 y2,LeO (marlinspikeref01_Ints.l0 k y0 y1 y2) (marlinspikeref01_Ints.l0 (k + 1) y0 y1 y2))
|0 => fun _ _ _ r h => by simp [marlinspikeref01_Ints.l0] at h
|k + 1 => by
  have ih0:=marlinspikeref01_Ints.mono_l k
  ·intro y0 y1 y2
   unfold marlinspikeref01_Ints.l0
   repeat' first
  |(with_reducible exact ih0 _ _ _)
  |(with_reducible exact LeO.refl _)
  |(with_reducible exact LeO.none _)
  |(with_reducible refine LeO.ite ?_ ?_)
  |(with_reducible refine LeO.bind ?_ (fun _ => ?_))
  |exact ih0 _ _ _
  |exact LeO.none _
  |refine LeO.ite ?_ ?_
  |refine LeO.bind ?_ (fun _ => ?_)
theorem marlinspikeref01_Ints.mono : ∀ a0 a1 k,LeO (marlinspikeref01_Ints.f k a0 a1) (marlinspikeref01_Ints.f (k + 1) a0 a1):=by
 (intro a0 a1 k);(have ih0:=marlinspikeref01_Ints.mono_l k);(unfold marlinspikeref01_Ints.f)
 repeat' first
  |(with_reducible exact ih0 _ _ _)
  |(with_reducible exact LeO.refl _)
  |(with_reducible exact LeO.none _)
  |(with_reducible refine LeO.ite ?_ ?_)
  |(with_reducible refine LeO.bind ?_ (fun _ => ?_))
  |exact ih0 _ _ _
  |exact LeO.none _
  |refine LeO.ite ?_ ?_
  |refine LeO.bind ?_ (fun _ => ?_)
set_option maxHeartbeats 8000000 in
set_option maxRecDepth 100000 in
theorem marlinspikeref01_Ints.calls (k : Nat) (A0 : Option Addr) (c0 : Nat) (l0 : List Int) (A1 : Option Addr) (c1 : Nat) (l1 : List Int) (r : Bool) (w : World) (hr0 : Kd.C (Kd.int .i64) w A0 l0.length l0) (hc0 : l0.length ≤ c0) (hr1 : Kd.C (Kd.int .i64) w A1 l1.length l1) (hc1 : l1.length ≤ c1) (h : marlinspikeref01_Ints.f k l0 l1 = some r) :
  Calls Tryd.prog 15 #[.slice A0 l0.length c0,.slice A1 l1.length c1] w fun e w' => e = .returned (.bool r)∧Drawn0 w w':=by
 (have HR0:=Aside0.mk hr0);(have HC0:=Aside0.mk hc0);(clear hr0 hc0);(have HR1:=Aside0.mk hr1);(have HC1:=Aside0.mk hc1);(clear hr1 hc1);(have H : (if (l0.length : Int) = (l1.length : Int) then (marlinspikeref01_Ints.l0 k l0 l1 0) else (some false)) = some r:=h);(clear h);(by_cases c3 : (l0.length : Int) = (l1.length : Int))
 ·(rw [if_pos c3] at H);(have c3b0 : ((l0.length : Int) == (l1.length : Int)) = true:=beq_iff_eq.mpr c3);(have c3b1 : ((l0.length : Int) != (l1.length : Int)) = false:=bne_eq_false_iff_eq.mpr c3);(have c3b2 : (l0.length == l1.length) = true:=by first|simpa using c3|(simp at c3 ⊢;omega));(clear c3);(have H':=Aside0.mk H);(clear H);(go_enter Tryd.func15,Tryd.ntmps15);(go_wp2)
  repeat (go_quiet (fail);try go_wp2)
  (go_loopg [5] k (fun kq v5 w' => ∃ (x5_1 : Int),v5 = .int .i64 x5_1∧Aside0 (marlinspikeref01_Ints.l0 kq l0 l1 x5_1 = some r)∧Aside0 (kq ≤ k)∧Drawn0 w w'))
  case atStart => exact ⟨(0),(by first|rfl|(simp;done)|(simp [*];done)),H',⟨Nat.le_refl _⟩,by repeat (first|exact Drawn0.refl _|apply Drawn0.step)⟩
  case round =>
   (clear H');(try clear c1);(try clear p2);(try clear c3);(try clear c3b0);(try clear c3b1);(try clear c3b2);(obtain ⟨x5_1,rfl,HA,HK1,⟨m1,rfl⟩⟩:=hrel)
   cases gk with
  |zero => exact absurd HA.out (by simp [marlinspikeref01_Ints.l0])
  |succ k1 =>
    (have H:=HA.out);(clear HA);(simp only [marlinspikeref01_Ints.l0] at H);(by_cases c4 : x5_1 < (l0.length : Int))
    ·(rw [if_pos c4] at H);(have c4b0 : decide (x5_1 < (l0.length : Int)) = true:=decide_eq_true c4);(clear c4);(by_cases c5 : 0 ≤ x5_1)
     ·(rw [if_pos c5] at H);(have c5b0 : decide (0 ≤ x5_1) = true:=decide_eq_true c5);(clear c5);(by_cases c6 : x5_1 < (l1.length : Int))
      ·(rw [if_pos c6] at H);(have c6b0 : decide (x5_1 < (l1.length : Int)) = true:=decide_eq_true c6);(clear c6);(by_cases c7 : (rd l0 x5_1) = (rd l1 x5_1))
       ·(rw [if_pos c7] at H);(have c7b0 : ((rd l0 x5_1) == (rd l1 x5_1)) = true:=beq_iff_eq.mpr c7);(have c7b1 : ((rd l0 x5_1) != (rd l1 x5_1)) = false:=bne_eq_false_iff_eq.mpr c7);(clear c7);(have H':=Aside0.mk H);(clear H);(have p170 : 0 ≤ (x5_1 : Int):=of_decide_eq_true (by first|(with_reducible assumption)|assumption));(have q170 : x5_1 < (l0.length : Int):=of_decide_eq_true (by first|(with_reducible assumption)|assumption));(obtain ⟨ad170,e170,hx170_0⟩:=Kd.at_int HR0.out x5_1 p170 q170)
        cases e170
        (replace p170:=eq_true p170);(replace q170:=eq_true q170);(have p171 : 0 ≤ (x5_1 : Int):=of_decide_eq_true (by first|(with_reducible assumption)|assumption));(have q171 : x5_1 < (l1.length : Int):=of_decide_eq_true (by first|(with_reducible assumption)|assumption));(obtain ⟨ad171,e171,hx171_0⟩:=Kd.at_int HR1.out x5_1 p171 q171)
        cases e171
        (replace p171:=eq_true p171);(replace q171:=eq_true q171);(go_wp2)
        repeat (go_quiet (fail);try go_wp2)
        (go_roundg k1)
        case measure => have:=HK1.out;omega
        case rel => exact ⟨(wrap64 (x5_1 + 1)),(by first|rfl|(simp;done)|(simp [*];done)),H',⟨by have:=HK1.out;omega⟩,by repeat (first|exact Drawn0.refl _|apply Drawn0.step)⟩
       ·(rw [if_neg c7] at H);(have c7b0 : ((rd l0 x5_1) == (rd l1 x5_1)) = false:=beq_eq_false_iff_ne.mpr c7);(have c7b1 : ((rd l0 x5_1) != (rd l1 x5_1)) = true:=bne_iff_ne.mpr c7);(obtain rfl:=Option.some.inj H);(have p170 : 0 ≤ (x5_1 : Int):=of_decide_eq_true (by first|(with_reducible assumption)|assumption));(have q170 : x5_1 < (l0.length : Int):=of_decide_eq_true (by first|(with_reducible assumption)|assumption));(obtain ⟨ad170,e170,hx170_0⟩:=Kd.at_int HR0.out x5_1 p170 q170)
        cases e170
        (replace p170:=eq_true p170);(replace q170:=eq_true q170);(have p171 : 0 ≤ (x5_1 : Int):=of_decide_eq_true (by first|(with_reducible assumption)|assumption));(have q171 : x5_1 < (l1.length : Int):=of_decide_eq_true (by first|(with_reducible assumption)|assumption));(obtain ⟨ad171,e171,hx171_0⟩:=Kd.at_int HR1.out x5_1 p171 q171)
        cases e171
        (replace p171:=eq_true p171);(replace q171:=eq_true q171);(go_wp2)
        repeat (go_quiet (fail);try go_wp2)
        (go_ret);(exact ⟨by first|rfl|(simp;done)|(simp [*];done),by repeat (first|exact Drawn0.refl _|apply Drawn0.step)⟩)
      ·(rw [if_neg c6] at H);(exact absurd H (by simp))
     ·(rw [if_neg c5] at H);(exact absurd H (by simp))
    ·(rw [if_neg c4] at H);(have c4b0 : decide (x5_1 < (l0.length : Int)) = false:=decide_eq_false c4);(clear c4);(obtain rfl:=Option.some.inj H);(go_wp2)
     repeat (go_quiet (fail);try go_wp2)
     (go_ret);(exact ⟨by first|rfl|(simp;done)|(simp [*];done),by repeat (first|exact Drawn0.refl _|apply Drawn0.step)⟩)
 ·(rw [if_neg c3] at H);(have c3b0 : ((l0.length : Int) == (l1.length : Int)) = false:=beq_eq_false_iff_ne.mpr c3);(have c3b1 : ((l0.length : Int) != (l1.length : Int)) = true:=bne_iff_ne.mpr c3);(have c3b2 : (l0.length == l1.length) = false:=by first|simpa using c3|(simp at c3 ⊢;omega));(obtain rfl:=Option.some.inj H);(go_enter Tryd.func15,Tryd.ntmps15);(go_wp2)
  repeat (go_quiet (fail);try go_wp2)
  (go_ret);(exact ⟨by first|rfl|(simp;done)|(simp [*];done),by repeat (first|exact Drawn0.refl _|apply Drawn0.step)⟩)
end Go.Proofs.YtnfpchpnephheaaDoor.PA
end
section
namespace Go.Proofs.YtnfpchpnephheaaDoor.PA
open Go.RowKit Go.Proofs.YtnfpchpnephheaaDoor.Lib Go.Proofs.YtnfpchpnephheaaDoorW.PrintWords Go.Proofs.YtnfpchpnephheaaDoorW.PrintLast Go.Proofs.YtnfpchpnephheaaDoorW.PrintMore
set_option linter.unusedVariables false
set_option linter.unusedSimpArgs false
attribute [local go_sem high] eqA36
set_option maxHeartbeats 2000000 in
set_option maxRecDepth 100000 in
theorem well_same (g : Nat) (s : ByteArray) (p y z : Int) (w : World) (hc : w.heap[g]? = some (.cells #[.string s, .int .i64 p, .int .i64 y, .int .i64 z] 55 (0, 0))) (b : Bool) (hb : (y == 0 && (z == 0)) = b) :
    Calls Tryd.prog 22 #[.pointer (some ⟨g, 0, none⟩)] w fun e w' => e = .returned (.bool b) ∧ w' = w := by
  have HB := Aside0.mk hb
  clear hb
  have hu36 := Tryd.underlying36
  have hcz2_0 := cellS55_0 hc
  have hcz2_1 := cellS55_1 hc
  have hcz2_2 := cellS55_2 hc
  have hcz2_3 := cellS55_3 hc
  clear hc
  go_enter Tryd.func22, Tryd.ntmps22
  go_wp2
  go_ret
  rw [HB.out]
  exact ⟨rfl, rfl⟩
def array_reader_next.f (s0_0 : ByteArray) (s0_1 s0_2 s0_3 a1 : Int) : Option (Bool × ByteArray × Int × Int × Int) :=
  if (s0_2 == 0 && (s0_3 == 0)) = true then
    (if s0_1 = (s0_0.size : Int) then some (false, s0_0, s0_1, s0_2, s0_3)
     else if 0 ≤ s0_1 then (if s0_1 < (s0_0.size : Int) then (if bt s0_0 s0_1 = a1 then some (true, s0_0, wrap64 (s0_1 + 1), s0_2, s0_3) else some (false, s0_0, s0_1, s0_2, s0_3)) else none) else none)
  else some (false, s0_0, s0_1, s0_2, s0_3)
set_option maxHeartbeats 4000000 in
set_option maxRecDepth 100000 in
theorem array_reader_next.calls (g : Nat) (s0_0 : ByteArray) (s0_1 : Int) (s0_2 : Int) (s0_3 : Int) (a1 : Int) (r1 : Bool) (r2 : ByteArray) (r3 : Int) (r4 : Int) (r5 : Int) (w0 w : World) (hI : IsS55 w0 w g s0_0 s0_1 s0_2 s0_3) (hB : Below w0.heap.size w0 w) (h : array_reader_next.f s0_0 s0_1 s0_2 s0_3 a1 = some (r1, r2, r3, r4, r5)) :
    Calls Tryd.prog 23 #[.pointer (some ⟨g, 0, none⟩), .int .u8 a1] w fun e w' => e = .returned (.bool r1) ∧ IsS55 w0 w' g r2 r3 r4 r5 ∧ Below w0.heap.size w0 w' ∧ KeepBut w w' g none := by
  have HI0 := Aside0.mk hI
  have HK := Aside0.mk (KeepBut.refl w g none)
  have HL := Aside0.mk hB.size
  have HB := Aside0.mk hB
  have hc := hI.1
  clear hI hB
  have hcz_0 := cellS55_0 hc
  have hcz_1 := cellS55_1 hc
  have hfz_0 := blk_frozen hc 0
  have hfz_1 := blk_frozen hc 1
  unfold array_reader_next.f at h
  by_cases c1 : (s0_2 == 0 && (s0_3 == 0)) = true
  · rw [if_pos c1] at h
    have c2 := c1
    clear c1
    have HW : Aside0 (∀ W : World, W.heap[g]? = some (.cells #[.string s0_0, .int .i64 s0_1, .int .i64 s0_2, .int .i64 s0_3] 55 (0, 0)) → Calls Tryd.prog 22 #[.pointer (some ⟨g, 0, none⟩)] W fun e w' => e = .returned (.bool true) ∧ w' = W) := ⟨fun W h => well_same g s0_0 s0_1 s0_2 s0_3 W h true c2⟩
    have HC := Aside0.mk hc
    clear c2 hc
    by_cases c3 : s0_1 = (s0_0.size : Int)
    · rw [if_pos c3] at h
      simp only [Option.some.injEq, Prod.mk.injEq] at h
      obtain ⟨rfl, rfl, rfl, rfl, rfl⟩ := h
      have c4 : (s0_1 == (s0_0.size : Int)) = true := beq_iff_eq.mpr c3
      clear c3
      go_enter Tryd.func23, Tryd.ntmps23
      go_wp2_with fail
      go_quiet ((go_at_call 22; exact Calls.quiet_of_same (HW.out _ (by repeat (first | exact HC.out | refine blk_drewN ?_ _ | refine blk_drew ?_)))))
      go_wp2
      go_ret
      exact ⟨rfl, by repeat (first | (with_reducible first | exact HI0.out | apply IsS55.alloc | apply IsS55.drewN | apply IsS55.drew | apply IsS55.set_1) | exact HI0.out), by repeat (first | (with_reducible first | exact HB.out | apply below_alloc | apply pw_below_drewN | apply below_drew1 | refine below_set ?_ (IsS55.ge HI0.out)) | exact HB.out), by repeat (first | (with_reducible first | exact HK.out | apply KeepBut.set_ | apply keep_drewN | apply keep_drew | apply keep_alloc) | exact HK.out)⟩
    · rw [if_neg c3] at h
      have c4 : (s0_1 == (s0_0.size : Int)) = false := beq_eq_false_iff_ne.mpr c3
      clear c3
      by_cases c5 : 0 ≤ s0_1
      · rw [if_pos c5] at h
        by_cases c6 : s0_1 < (s0_0.size : Int)
        · rw [if_pos c6] at h
          have hx := bt_at s0_0 s0_1
          have p5 : (0 ≤ s0_1) = True := eq_true c5
          have q5 : (s0_1 < (s0_0.size : Int)) = True := eq_true c6
          by_cases c7 : bt s0_0 s0_1 = a1
          · rw [if_pos c7] at h
            simp only [Option.some.injEq, Prod.mk.injEq] at h
            obtain ⟨rfl, rfl, rfl, rfl, rfl⟩ := h
            have c8 : (bt s0_0 s0_1 != a1) = false := bne_eq_false_iff_eq.mpr c7
            clear c7 c5 c6
            go_enter Tryd.func23, Tryd.ntmps23
            go_wp2_with fail
            go_quiet ((go_at_call 22; exact Calls.quiet_of_same (HW.out _ (by repeat (first | exact HC.out | refine blk_drewN ?_ _ | refine blk_drew ?_)))))
            go_wp2
            go_ret
            exact ⟨rfl, by repeat (first | (with_reducible first | exact HI0.out | apply IsS55.alloc | apply IsS55.drewN | apply IsS55.drew | apply IsS55.set_1) | exact HI0.out), by repeat (first | (with_reducible first | exact HB.out | apply below_alloc | apply pw_below_drewN | apply below_drew1 | refine below_set ?_ (IsS55.ge HI0.out)) | exact HB.out), by repeat (first | (with_reducible first | exact HK.out | apply KeepBut.set_ | apply keep_drewN | apply keep_drew | apply keep_alloc) | exact HK.out)⟩
          · rw [if_neg c7] at h
            simp only [Option.some.injEq, Prod.mk.injEq] at h
            obtain ⟨rfl, rfl, rfl, rfl, rfl⟩ := h
            have c8 : (bt s0_0 s0_1 != a1) = true := bne_iff_ne.mpr c7
            clear c7 c5 c6
            go_enter Tryd.func23, Tryd.ntmps23
            go_wp2_with fail
            go_quiet ((go_at_call 22; exact Calls.quiet_of_same (HW.out _ (by repeat (first | exact HC.out | refine blk_drewN ?_ _ | refine blk_drew ?_)))))
            go_wp2
            go_ret
            exact ⟨rfl, by repeat (first | (with_reducible first | exact HI0.out | apply IsS55.alloc | apply IsS55.drewN | apply IsS55.drew | apply IsS55.set_1) | exact HI0.out), by repeat (first | (with_reducible first | exact HB.out | apply below_alloc | apply pw_below_drewN | apply below_drew1 | refine below_set ?_ (IsS55.ge HI0.out)) | exact HB.out), by repeat (first | (with_reducible first | exact HK.out | apply KeepBut.set_ | apply keep_drewN | apply keep_drew | apply keep_alloc) | exact HK.out)⟩
        · rw [if_neg c6] at h; cases h
      · rw [if_neg c5] at h; cases h
  · rw [if_neg c1] at h
    simp only [Option.some.injEq, Prod.mk.injEq] at h
    obtain ⟨rfl, rfl, rfl, rfl, rfl⟩ := h
    have c2 : (s0_2 == 0 && (s0_3 == 0)) = false := by simpa using c1
    have HW : Aside0 (∀ W : World, W.heap[g]? = some (.cells #[.string s0_0, .int .i64 s0_1, .int .i64 s0_2, .int .i64 s0_3] 55 (0, 0)) → Calls Tryd.prog 22 #[.pointer (some ⟨g, 0, none⟩)] W fun e w' => e = .returned (.bool false) ∧ w' = W) := ⟨fun W h => well_same g s0_0 s0_1 s0_2 s0_3 W h false c2⟩
    have HC := Aside0.mk hc
    clear c1 c2 hc
    go_enter Tryd.func23, Tryd.ntmps23
    go_wp2_with fail
    go_quiet ((go_at_call 22; exact Calls.quiet_of_same (HW.out _ (by repeat (first | exact HC.out | refine blk_drewN ?_ _ | refine blk_drew ?_)))))
    go_wp2
    go_ret
    exact ⟨rfl, by repeat (first | (with_reducible first | exact HI0.out | apply IsS55.alloc | apply IsS55.drewN | apply IsS55.drew | apply IsS55.set_1) | exact HI0.out), by repeat (first | (with_reducible first | exact HB.out | apply below_alloc | apply pw_below_drewN | apply below_drew1 | refine below_set ?_ (IsS55.ge HI0.out)) | exact HB.out), by repeat (first | (with_reducible first | exact HK.out | apply KeepBut.set_ | apply keep_drewN | apply keep_drew | apply keep_alloc) | exact HK.out)⟩
end Go.Proofs.YtnfpchpnephheaaDoor.PA
end
section
set_option linter.unusedVariables false
set_option linter.unusedSimpArgs false
namespace Go.Proofs.YtnfpchpnephheaaDoor.Num
def isDig (c : UInt8) : Bool := decide (48 ≤ c.toNat) && decide (c.toNat ≤ 57)
theorem isDig_iff (c : UInt8) : isDig c = true ↔ 48 ≤ c.toNat ∧ c.toNat ≤ 57 := by simp [isDig]
end Go.Proofs.YtnfpchpnephheaaDoor.Num
end
section
set_option linter.unusedVariables false
set_option linter.unusedSimpArgs false
namespace Go.Proofs.YtnfpchpnephheaaDoor.Txt
open Go.RowKit Go.Proofs.YtnfpchpnephheaaDoorW.PrintWords
def L (s : ByteArray) : List UInt8 := s.data.toList
theorem L_length (s : ByteArray) : (L s).length = s.size := by show s.data.toList.length = s.data.size; exact Array.length_toList
theorem L_inj {s t : ByteArray} (h : L s = L t) : s = t := by
  cases s; cases t; congr 1; exact Array.toList_inj.1 h
theorem L_mk (l : List UInt8) : L ⟨l.toArray⟩ = l := by simp [L]
theorem extract_L (s : ByteArray) (a b : Nat) : L (s.extract a b) = ((L s).drop a).take (b - a) := Go.Lib.extract_data s a b
theorem wrap_nat {p : Nat} (h : p + 1 ≤ 9223372036854775807) : wrap64 ((p : Int) + 1) = ((p + 1 : Nat) : Int) := by unfold wrap64; omega
def run (f : UInt8 → Bool) (l : List UInt8) (p : Nat) : Nat := p + ((l.drop p).takeWhile f).length
end Go.Proofs.YtnfpchpnephheaaDoor.Txt
end
section
namespace Go.Proofs.YtnfpchpnephheaaDoor.PA
open Go.RowKit Go.Proofs.YtnfpchpnephheaaDoor.Lib Go.Proofs.YtnfpchpnephheaaDoor.Num Go.Proofs.YtnfpchpnephheaaDoor.Txt Go.Proofs.YtnfpchpnephheaaDoorW.PrintWords Go.Proofs.YtnfpchpnephheaaDoorW.PrintLast Go.Proofs.YtnfpchpnephheaaDoorW.PrintMore
set_option linter.unusedVariables false
set_option linter.unusedSimpArgs false
attribute [local go_sem high] eqA36
def cut10 : ByteArray := ⟨#[48, 49, 50, 51, 52, 53, 54, 55, 56, 57]⟩
theorem cut10_is (c : UInt8) : cut10.data.toList.contains c = isDig c := by
  have h : ∀ n : Fin 256, cut10.data.toList.contains (UInt8.ofNat n.val) = isDig (UInt8.ofNat n.val) := by decide +kernel
  have := h ⟨c.toNat, c.toNat_lt⟩
  simpa using this
def digN (l : List UInt8) : Nat := (l.takeWhile isDig).length
theorem digN_le (l : List UInt8) : digN l ≤ l.length := (List.takeWhile_prefix isDig (l := l)).length_le
theorem drop_while (l : List UInt8) : l.dropWhile isDig = l.drop (digN l) := by
  have h := List.takeWhile_append_dropWhile (p := isDig) (l := l)
  have e : (l.takeWhile isDig ++ l.dropWhile isDig).drop (l.takeWhile isDig).length = l.dropWhile isDig := List.drop_left
  rw [h] at e
  exact e.symm
theorem trim_calls (s : ByteArray) (w : World) :
    Calls Tryd.prog 35 #[.string s, .string cut10] w fun e w' => e = .returned (.string (s.extract (digN (L s)) s.size)) ∧ Below w.heap.size w w' := by
  refine (Any.strings_TrimLeft_laid Tryd.lays161 (by kernel_rfl) s cut10 w (by decide) (by
    intro j b hj
    have hb : b ∈ cut10.data.toList := List.mem_of_getElem? hj
    have : cut10.data.toList.contains b = true := by simpa using hb
    rw [cut10_is, isDig_iff] at this
    omega)).mono ?_
  rintro e w' ⟨rfl, hb⟩
  refine ⟨?_, hb⟩
  have e1 : Go.Lib.trimLeftS s.data.toList cut10.data.toList = (L s).drop (digN (L s)) := by
    unfold Go.Lib.trimLeftS
    rw [← drop_while]
    congr 1
    funext c
    exact cut10_is c
  rw [e1]
  have e2 : (⟨((L s).drop (digN (L s))).toArray⟩ : ByteArray) = s.extract (digN (L s)) s.size := L_inj (by
    rw [L_mk, extract_L, List.take_of_length_le (by rw [List.length_drop, L_length]; exact Nat.le_refl _)])
  rw [e2]
theorem keep_then {w w1 w2 : World} {g : Nat} (h : KeepBut w w1 g none) (k : KeepBut w1 w2 g none) : KeepBut w w2 g none := h.trans k (.inl rfl)
theorem keep_below {w w1 w2 : World} {g : Nat} (h : KeepBut w w1 g none) (k : Below w1.heap.size w1 w2) : KeepBut w w2 g none := h.trans (KeepBut.of_below k g none) (.inl rfl)
def digT (s : ByteArray) (p : Nat) : ByteArray := s.extract p (p + digN ((L s).drop p))
def array_reader_number.f (s : ByteArray) (p y z low : Int) : Option (Int × ByteArray × Int × Int × Int) :=
  if 0 ≤ p ∧ p ≤ (s.size : Int) ∧ s.size ≤ 100000000 then
    if 6 < (digT s p.toNat).size then (array_reader_wrong.f s p y z (wrap64 (p + 6))).bind fun q => some (0, q)
    else if atoiOk (L (digT s p.toNat)) = false ∨ atoiVal (L (digT s p.toNat)) < low then (array_reader_wrong.f s p y z p).bind fun q => some (atoiVal (L (digT s p.toNat)), q.1, wrap64 (q.2.1 + ((digT s p.toNat).size : Int)), q.2.2)
    else some (atoiVal (L (digT s p.toNat)), s, wrap64 (p + ((digT s p.toNat).size : Int)), y, z)
  else none
set_option maxHeartbeats 4000000 in
set_option maxRecDepth 100000 in
theorem array_reader_number.calls (g : Nat) (s : ByteArray) (p y z low : Int) (r1 : Int) (r2 : ByteArray) (r3 : Int) (r4 : Int) (r5 : Int) (w0 w : World) (hI : IsS55 w0 w g s p y z) (hB : Below w0.heap.size w0 w) (h : array_reader_number.f s p y z low = some (r1, r2, r3, r4, r5)) (hG : Glob w) :
    Calls Tryd.prog 24 #[.pointer (some ⟨g, 0, none⟩), .int .i64 low] w fun e w' => e = .returned (.int .i64 r1) ∧ IsS55 w0 w' g r2 r3 r4 r5 ∧ Below w0.heap.size w0 w' ∧ KeepBut w w' g none := by
  unfold array_reader_number.f at h
  split at h
  · rename_i hp
    obtain ⟨hp0, hp1, hp2⟩ := hp
    obtain ⟨p, rfl⟩ := Int.eq_ofNat_of_zero_le hp0
    rw [Int.toNat_natCast] at h
    have HI0 := Aside0.mk hI
    have HK := Aside0.mk (KeepBut.refl w g none)
    have HL := Aside0.mk hB.size
    have HB := Aside0.mk hB
    have HG := Aside0.mk hG
    have H := Aside0.mk h
    have hc := hI.1
    clear hI hB h hG
    have hcz_0 := cellS55_0 hc
    have hcz_1 := cellS55_1 hc
    clear hc
    have hp3 : (p : Int) ≤ 100000000 := by omega
    go_enter Tryd.func24, Tryd.ntmps24
    go_wp2_with fail
    go_quiet (fail)
    go_upto_region 2 with (fail)
    go_cut [6] (fun v6 wc => v6 = .string (digT s p) ∧ Aside0 (Below w.heap.size w wc))
    case first =>
      go_wp2_with fail
      refine (trim_calls (s.extract p s.size) _).mono ?_
      rintro e w2 ⟨rfl, hb2⟩
      have HB2 := Aside0.mk hb2
      clear hb2
      go_wp2
      go_meet
      refine ⟨congrArg Value.string ?_, ⟨below_then (pw_below_drewN (Below.refl _ _) _) (Nat.le_refl _) HB2.out⟩⟩
      apply L_inj
      unfold digT
      have hl : List.take (s.size - p) (List.drop p (L s)) = List.drop p (L s) := List.take_of_length_le (by rw [List.length_drop, L_length]; exact Nat.le_refl _)
      have hn := digN_le ((L s).drop p)
      rw [List.length_drop, L_length] at hn
      rw [extract_L, extract_L, extract_L, hl, List.drop_zero]
      congr 1
      omega
    case rest =>
      obtain ⟨rfl, HC⟩ := hcut
      have HI1 := Aside0.mk (HI0.out.below HC.out)
      have HB1 := Aside0.mk (below_then HB.out HB.out.size HC.out)
      have HK1 := Aside0.mk (keep_below HK.out HC.out)
      have hds : (digT s p).size ≤ s.size := by
        unfold digT; rw [ByteArray.size_extract]; omega
      generalize hD : digT s p = D at *
      have HD := Aside0.mk hD
      have HC0 := HC
      clear hD HC
      have hd2 : D.size ≤ 100000000 := by omega
      have hz := HI1.out.1
      have hcz_2 := cellS55_1 hz
      have hfz_2 := blk_frozen hz 1
      clear hz
      by_cases h6 : 6 < D.size
      · have h6b : decide ((6 : Int) < (D.size : Int)) = true := decide_eq_true (by omega)
        have H2 := H.out
        rw [if_pos h6] at H2
        obtain ⟨⟨s1, p1, y1, z1⟩, h1, h2⟩ := Option.bind_eq_some_iff.mp H2
        simp only [Option.some.injEq, Prod.mk.injEq] at h2
        obtain ⟨rfl, rfl, rfl, rfl, rfl⟩ := h2
        have e6 : wrap64 ((p : Int) + 6) = (p : Int) + 6 := by unfold wrap64; omega
        rw [e6] at h1
        have A1 := Aside0.mk h1
        clear h1 H2 H e6 h6 hcz_0 hcz_1
        go_wp2_with fail
        refine (array_reader_wrong.calls g s (p : Int) y z _ s1 p1 y1 z1 w0 _ HI1.out HB1.out A1.out).mono ?_
        rintro e w5 ⟨rfl, hI5, hB5, hK5⟩
        have HI9 := Aside0.mk hI5
        have HB9 := Aside0.mk hB5
        have HK9 := Aside0.mk (keep_then HK1.out hK5)
        have hz5 := hI5.1
        have hcz5 := cellS55_1 hz5
        have hfz5 := blk_frozen hz5 1
        clear hI5 hB5 hK5 hz5
        go_wp2
        go_ret
        exact ⟨rfl, by repeat (first | (with_reducible first | exact HI9.out | apply IsS55.alloc | apply IsS55.drewN | apply IsS55.drew | apply IsS55.set_1) | exact HI9.out), by repeat (first | (with_reducible first | exact HB9.out | apply below_alloc | apply pw_below_drewN | apply below_drew1 | refine below_set ?_ (IsS55.ge HI9.out)) | exact HB9.out), by repeat (first | (with_reducible first | exact HK9.out | apply KeepBut.set_ | apply keep_drewN | apply keep_drew | apply keep_alloc) | exact HK9.out)⟩
      · have h6b : decide ((6 : Int) < (D.size : Int)) = false := decide_eq_false (by omega)
        have H2 := H.out
        rw [if_neg h6] at H2
        have H3 := Aside0.mk H2
        have HA := Aside0.mk (strconv_Atoi_any D (by omega) wc (HG.out.below HC0.out))
        clear H2 H h6 hcz_0 hcz_1 hcz_2 hfz_2
        go_wp2_with fail
        refine HA.out.mono ?_
        rintro e w3 ⟨ev, rfl, hok, hno, hb3⟩
        have HI3 := Aside0.mk (HI1.out.below hb3)
        have HB3 := Aside0.mk (below_then HB1.out HB1.out.size hb3)
        have HK3 := Aside0.mk (keep_below HK1.out hb3)
        have hz3 := HI3.out.1
        have hcz3 := cellS55_1 hz3
        have hfz3 := blk_frozen hz3 1
        clear hz3 hb3
        have H4 := H3.out
        clear H3
        generalize hV : atoiVal (L D) = V at *
        generalize hV2 : atoiVal D.data.toList = V2 at *
        have hVV : V2 = V := by rw [← hV, ← hV2]; rfl
        subst hVV
        clear hV hV2
        have hOO : atoiOk D.data.toList = atoiOk (L D) := rfl
        rw [hOO] at hok hno
        clear hOO
        cases hok2 : atoiOk (L D) with
        | false =>
          obtain ⟨tp, q, rfl⟩ := hno hok2
          rw [if_pos (.inl hok2)] at H4
          obtain ⟨⟨s1, p1, y1, z1⟩, h1, h2⟩ := Option.bind_eq_some_iff.mp H4
          simp only [Option.some.injEq, Prod.mk.injEq] at h2
          obtain ⟨rfl, rfl, rfl, rfl, rfl⟩ := h2
          have A1 := Aside0.mk h1
          clear h1 H4 hok hno hok2
          go_wp2_with fail
          refine (array_reader_wrong.calls g s (p : Int) y z _ s1 p1 y1 z1 w0 _ HI3.out HB3.out A1.out).mono ?_
          rintro e w5 ⟨rfl, hI5, hB5, hK5⟩
          have HI9 := Aside0.mk hI5
          have HB9 := Aside0.mk hB5
          have HK9 := Aside0.mk (keep_then HK3.out hK5)
          have hz5 := hI5.1
          have hcz5 := cellS55_1 hz5
          have hfz5 := blk_frozen hz5 1
          clear hI5 hB5 hK5 hz5
          go_wp2
          go_ret
          exact ⟨rfl, by repeat (first | (with_reducible first | exact HI9.out | apply IsS55.alloc | apply IsS55.drewN | apply IsS55.drew | apply IsS55.set_1) | exact HI9.out), by repeat (first | (with_reducible first | exact HB9.out | apply below_alloc | apply pw_below_drewN | apply below_drew1 | refine below_set ?_ (IsS55.ge HI9.out)) | exact HB9.out), by repeat (first | (with_reducible first | exact HK9.out | apply KeepBut.set_ | apply keep_drewN | apply keep_drew | apply keep_alloc) | exact HK9.out)⟩
        | true =>
          obtain rfl := hok hok2
          clear hok hno
          by_cases hlow : V2 < low
          · rw [if_pos (.inr hlow)] at H4
            obtain ⟨⟨s1, p1, y1, z1⟩, h1, h2⟩ := Option.bind_eq_some_iff.mp H4
            simp only [Option.some.injEq, Prod.mk.injEq] at h2
            obtain ⟨rfl, rfl, rfl, rfl, rfl⟩ := h2
            have A1 := Aside0.mk h1
            have hlb : decide (V2 < low) = true := decide_eq_true hlow
            clear h1 H4 hok2 hlow
            go_wp2_with fail
            refine (array_reader_wrong.calls g s (p : Int) y z _ s1 p1 y1 z1 w0 _ HI3.out HB3.out A1.out).mono ?_
            rintro e w5 ⟨rfl, hI5, hB5, hK5⟩
            have HI9 := Aside0.mk hI5
            have HB9 := Aside0.mk hB5
            have HK9 := Aside0.mk (keep_then HK3.out hK5)
            have hz5 := hI5.1
            have hcz5 := cellS55_1 hz5
            have hfz5 := blk_frozen hz5 1
            clear hI5 hB5 hK5 hz5
            go_wp2
            go_ret
            exact ⟨rfl, by repeat (first | (with_reducible first | exact HI9.out | apply IsS55.alloc | apply IsS55.drewN | apply IsS55.drew | apply IsS55.set_1) | exact HI9.out), by repeat (first | (with_reducible first | exact HB9.out | apply below_alloc | apply pw_below_drewN | apply below_drew1 | refine below_set ?_ (IsS55.ge HI9.out)) | exact HB9.out), by repeat (first | (with_reducible first | exact HK9.out | apply KeepBut.set_ | apply keep_drewN | apply keep_drew | apply keep_alloc) | exact HK9.out)⟩
          · rw [if_neg (by rintro (h | h); (rw [hok2] at h; cases h); exact hlow h)] at H4
            have ew : wrap64 ((p : Int) + (D.size : Int)) = (p : Int) + (D.size : Int) := by unfold wrap64; omega
            rw [ew] at H4
            clear ew
            simp only [Option.some.injEq, Prod.mk.injEq] at H4
            obtain ⟨rfl, rfl, rfl, rfl, rfl⟩ := H4
            have hlb : decide (V2 < low) = false := decide_eq_false hlow
            have HI9 := HI3
            have HB9 := HB3
            have HK9 := HK3
            clear hok2 hlow
            go_wp2
            go_ret
            exact ⟨rfl, by repeat (first | (with_reducible first | exact HI9.out | apply IsS55.alloc | apply IsS55.drewN | apply IsS55.drew | apply IsS55.set_1) | exact HI9.out), by repeat (first | (with_reducible first | exact HB9.out | apply below_alloc | apply pw_below_drewN | apply below_drew1 | refine below_set ?_ (IsS55.ge HI9.out)) | exact HB9.out), by repeat (first | (with_reducible first | exact HK9.out | apply KeepBut.set_ | apply keep_drewN | apply keep_drew | apply keep_alloc) | exact HK9.out)⟩
  · cases h
end Go.Proofs.YtnfpchpnephheaaDoor.PA
end
section
set_option linter.unusedVariables false
set_option linter.unusedSimpArgs false
namespace Go.Proofs.YtnfpchpnephheaaDoor.Mp
open Go.RowKit Go.WideShapes
structure KeyEnc (P : Program) (kt : TypeId) (κ : Type) where
  val : κ → Value
  lit : κ → Lit
  ok : κ → Prop
  law : Maps.Keyed P kt
  key : ∀ k, ok k → keyOf P kt (val k) = some (lit k)
  inj : ∀ k k', lit k = lit k' → k = k'
  isLit : ∀ k, WideAt.IsKeyLit (lit k)
structure ElEnc (P : Program) (et : TypeId) (ε : Type) where
  val : ε → Value
  lit : ε → Lit
  zero : ε
  ok : ε → Prop
  hz : ∀ w, (zeroValue et).run P w = .ok (val zero) w
  read : ∀ x, ok x → plainElem (H := Unit) P et (val x) = some (.lit (lit x), [])
  zok : ok zero
  inv : ∀ v z, plainElem (H := Unit) P et v = some z → ∃ x, v = val x ∧ z = (.lit (lit x), [])
  inj : ∀ x x', lit x = lit x' → x = x'
def intKey {P : Program} {kt : TypeId} (h : P.underlying kt = some (.int .i64)) : KeyEnc P kt Int where
  val := Value.int .i64
  lit := Lit.int .i64
  ok := fun k => (Lit.int .i64 k).wf = true
  law := Maps.int_keyed h
  key := fun k hk => Maps.keyOf_int_mk h hk
  inj := fun k k' e => by injection e
  isLit := fun k => by simp [WideAt.IsKeyLit]
theorem bool_inv {P : Program} {e : TypeId} (he : P.underlying e = some .bool) {v : Value} {z : DataW Unit × List MemPlace} (h : plainElem P e v = some z) : ∃ x, v = .bool x ∧ z = (.lit (.bool x), []) := by
  unfold plainElem at h
  rw [he] at h
  cases v <;> simp at h
  exact ⟨_, rfl, h.symm⟩
def boolEl {P : Program} {et : TypeId} (h : P.underlying et = some .bool) (hz : ∀ w, (zeroValue et).run P w = .ok (.bool false) w) : ElEnc P et Bool where
  val := Value.bool
  lit := Lit.bool
  zero := false
  ok := fun _ => True
  hz := hz
  read := fun x _ => plainElem_bool h x
  zok := trivial
  inv := fun v z hv => bool_inv h hv
  inj := fun k k' e => by injection e
section
variable {P : Program} {kt et t : TypeId} {κ ε : Type} (K : KeyEnc P kt κ) (V : ElEnc P et ε)
structure MapOf (w : World) (b n : Nat) (f : κ → Option ε) : Prop where mk ::
  out : ∃ D : DataW Unit, w.ownsMap P kt (plainElem P et) b n D ∧ Maps.IsMap D ∧ ∀ k, Maps.has D (K.lit k) = (f k).isSome ∧ ∀ z, D.atKey (K.lit k) (.lit (V.lit z)) = .lit (V.lit ((f k).getD z))
variable {K V}
variable {w w' : World} {b n : Nat} {f : κ → Option ε}
theorem MapOf.made (w : World) : MapOf K V (w.alloc (.map #[] 0)) w.heap.size 0 (fun _ => none) :=
  ⟨.map [], World.ownsMap_made w P kt _, ⟨[], rfl⟩, fun k => ⟨rfl, fun z => rfl⟩⟩
theorem MapOf.mono (h : MapOf K V w b n f) {n' : Nat} (hn : n ≤ n') : MapOf K V w b n' f := by
  obtain ⟨D, h1, h2⟩ := h.out; exact ⟨D, h1.mono hn, h2⟩
theorem MapOf.lt (h : MapOf K V w b n f) : b < w.heap.size := by obtain ⟨D, h1, _⟩ := h.out; exact h1.lt
theorem MapOf.grown (h : MapOf K V w b n f) {row : Option Nat} (hg : w.grownBy w' row) (hne : some b ≠ row) : MapOf K V w' b n f := by
  obtain ⟨D, h1, h2⟩ := h.out; exact ⟨D, h1.kept hg hne, h2⟩
theorem MapOf.below (h : MapOf K V w b n f) (hb : Below w.heap.size w w') : MapOf K V w' b n f :=
  h.grown (row := none) ⟨hb.os, hb.tape, hb.output, hb.size, fun i hi _ => hb.block i hi⟩ (by simp)
theorem MapOf.alloc (h : MapOf K V w b n f) (o : Obj) : MapOf K V (w.alloc o) b n f := by
  obtain ⟨D, h1, h2⟩ := h.out; exact ⟨D, h1.alloc o, h2⟩
theorem MapOf.drew (h : MapOf K V w b n f) : MapOf K V w.drew b n f := by
  obtain ⟨D, h1, h2⟩ := h.out; exact ⟨D, h1.drew, h2⟩
theorem MapOf.drewN (h : MapOf K V w b n f) (m : Nat) : MapOf K V (w.drewN m) b n f := by
  obtain ⟨D, h1, h2⟩ := h.out; exact ⟨D, h1, h2⟩
theorem MapOf.setCell (h : MapOf K V w b n f) {a : Addr} (ha : b ≠ a.block) (u : Value) : MapOf K V (w.setCell a u) b n f := by
  obtain ⟨D, h1, h2⟩ := h.out; exact ⟨D, h1.setCell ha u, h2⟩
theorem MapOf.noCells (h : MapOf K V w b n f) {c : Array Value} {tt : TypeId} {fr : Nat × Nat} (hc : w.heap[b]? = some (.cells c tt fr)) : False := by
  obtain ⟨D, ⟨es, clock, h1, _⟩, _⟩ := h.out
  rw [h1] at hc; cases hc
theorem MapOf.run_plain (h : MapOf K V w b n f) (ht : P.underlying t = some (.map kt et)) {k : κ} (hk : K.ok k) :
    (Instr.lookup t (.map (some b)) (K.val k) false).run P w = .ok (V.val ((f k).getD V.zero)) w := by
  obtain ⟨D, h1, h2, h3⟩ := h.out
  obtain ⟨v, ps, hrun, hv⟩ := h1.lookup K.law ht (V.hz w) (V.read _ V.zok) (K.key k hk)
  rw [(h3 k).2] at hv
  obtain ⟨x, rfl, hx⟩ := V.inv _ _ hv
  simp only [Prod.mk.injEq, DataW.lit.injEq] at hx
  rw [hrun, ← V.inj _ _ hx.1]
theorem MapOf.put [DecidableEq κ] {D : DataW Unit} (h2 : Maps.IsMap D) (h3 : ∀ k, Maps.has D (K.lit k) = (f k).isSome ∧ ∀ z, D.atKey (K.lit k) (.lit (V.lit z)) = .lit (V.lit ((f k).getD z))) (k : κ) (x : ε) :
    Maps.IsMap (D.put (K.lit k) (.lit (V.lit x))) ∧ ∀ k', Maps.has (D.put (K.lit k) (.lit (V.lit x))) (K.lit k') = (if k' = k then some x else f k').isSome ∧ ∀ z, (D.put (K.lit k) (.lit (V.lit x))).atKey (K.lit k') (.lit (V.lit z)) = .lit (V.lit ((if k' = k then some x else f k').getD z)) := by
  refine ⟨h2.put _ _, fun k' => ?_⟩
  by_cases e : k' = k
  · subst e
    rw [if_pos rfl]
    exact ⟨Maps.has_put_same h2 (K.isLit _) _, fun z => Maps.atKey_put_same h2 (K.isLit _) _ _⟩
  · rw [if_neg e]
    have hne : K.lit k' ≠ K.lit k := fun h => e (K.inj _ _ h)
    exact ⟨by rw [Maps.has_put_other hne]; exact (h3 k').1, fun z => by rw [Maps.atKey_put_other hne]; exact (h3 k').2 z⟩
theorem MapOf.update [DecidableEq κ] (h : MapOf K V w b n f) (ht : P.underlying t = some (.map kt et)) (hn : n < maxLen) {k : κ} (hk : K.ok k) {x : ε} (hx : V.ok x) :
    ∃ w', (Instr.mapUpdate t (.map (some b)) (K.val k) (V.val x)).run P w = .ok () w' ∧ MapOf K V w' b (n + 1) (fun k' => if k' = k then some x else f k') ∧ w.grownBy w' (some b) := by
  obtain ⟨D, h1, h2, h3⟩ := h.out
  obtain ⟨w', hrun, h4, h5⟩ := h1.update K.law ht hn (K.key k hk) (V.read x hx)
  exact ⟨w', hrun, ⟨_, h4, MapOf.put h2 h3 k x⟩, h5⟩
variable {ops : Array Oper} {rest : List Oper} {o : Oper} {a : Act} {Q : Exit → Act → World → Prop}
end
end Go.Proofs.YtnfpchpnephheaaDoor.Mp
end
section
namespace Go.Proofs.YtnfpchpnephheaaDoor.PA
open Go.RowKit Go.Sort Go.Proofs.YtnfpchpnephheaaDoor.Lib Go.Proofs.YtnfpchpnephheaaDoor.Mp Go.Proofs.YtnfpchpnephheaaDoorW.PrintWords Go.Proofs.YtnfpchpnephheaaDoorW.PrintLast Go.Proofs.YtnfpchpnephheaaDoorW.PrintMore
set_option linter.unusedVariables false
set_option linter.unusedSimpArgs false
noncomputable def KI : KeyEnc Tryd.prog 3 Int := intKey Tryd.underlying3
noncomputable def VB : ElEnc Tryd.prog 4 Bool := boolEl Tryd.underlying4 (fun w => by kernel_rfl)
def metF (xs : List Int) : Int → Option Bool := fun k => if k ∈ xs then some true else none
structure Adds (w0 W : World) (ga b : Nat) (v : Value) (lim : Int) (xs : List Int) : Prop where mk ::
  blk : W.heap[ga]? = some (.cells #[v, .int .i64 lim] 28 (0, 0))
  ge : w0.heap.size ≤ ga
  row : Kd.R (Kd.int .i64) 3 W w0.heap.size (fun _ => True) v xs
  met : MapOf KI VB W b xs.length (metF xs)
  mge : w0.heap.size ≤ b
  bel : Below w0.heap.size w0 W
theorem Adds.ne_row {w0 W : World} {ga b : Nat} {v : Value} {lim : Int} {xs : List Int} (h : Adds w0 W ga b v lim xs) : some ga ≠ v.ownBlock := Kd.R_ne h.row h.blk (by decide)
theorem Adds.ne_map {w0 W : World} {ga b : Nat} {v : Value} {lim : Int} {xs : List Int} (h : Adds w0 W ga b v lim xs) : b ≠ ga := fun e => by
  have := h.blk
  rw [← e] at this
  exact h.met.noCells this
theorem Adds.map_row {w0 W : World} {ga b : Nat} {v : Value} {lim : Int} {xs : List Int} (h : Adds w0 W ga b v lim xs) : some b ≠ v.ownBlock := by
  intro e
  obtain ⟨cells, hc⟩ := Kd.R_typed h.row b e.symm
  exact h.met.noCells hc
theorem metF_put (xs : List Int) (n : Int) (h : n ∉ xs) : (fun k' => if k' = n then some true else metF xs k') = metF (xs ++ [n]) := by
  funext k
  unfold metF
  by_cases e : k = n
  · subst e; simp
  · simp [e]
theorem mapOf_fun {W : World} {b n : Nat} {f f' : Int → Option Bool} (h : MapOf KI VB W b n f) (e : f = f') : MapOf KI VB W b n f' := e ▸ h
def Rest (w W : World) (ga b : Nat) (v : Value) : Prop := w.heap.size ≤ W.heap.size ∧ ∀ i, i < w.heap.size → i ≠ ga → i ≠ b → some i ≠ v.ownBlock → W.heap[i]? = w.heap[i]?
def OwnNext (w : World) (v v1 : Value) : Prop := v1.ownBlock = v.ownBlock ∨ ∃ b, v1.ownBlock = some b ∧ w.heap.size ≤ b
def array_Array_add.l : Nat → List Int → Int → Int → Int → Option (Bool × List Int)
  | 0, _, _, _, _ => none
  | k + 1, xs, n, to_, step =>
    if 0 ≤ n ∧ n ≤ 2000000 ∧ 0 ≤ step ∧ step ≤ 2000000 ∧ xs.length ≤ 256 then
      (if n ≤ to_ then (if n ∈ xs then some (false, xs) else if xs.length = 256 then some (false, xs) else array_Array_add.l k (xs ++ [n]) (n + step) to_ step) else some (true, xs))
    else none
theorem lookT {W : World} {b : Nat} {xs : List Int} (h : MapOf KI VB W b xs.length (metF xs)) (n : Int) (hn : 0 ≤ n ∧ n ≤ 2000000) (t : Bool) (ht : decide (n ∈ xs) = t) :
    (Instr.lookup 41 (.map (some b)) (.int .i64 n) false).run Tryd.prog W = .ok (.bool t) W := by
  have hk : KI.ok n := by show (Lit.int .i64 n).wf = true; simp [Lit.wf, IntKind.min, IntKind.max, IntKind.signed, IntKind.bits]; omega
  have e := h.run_plain (t := 41) Tryd.underlying41 hk
  have ev : VB.val ((metF xs n).getD VB.zero) = .bool t := by
    show Value.bool ((metF xs n).getD false) = .bool t
    unfold metF
    rw [← ht]
    by_cases hm : n ∈ xs <;> simp [hm]
  rw [ev] at e
  exact e
theorem wf_small {n : Int} (hn : 0 ≤ n ∧ n ≤ 2000000) : KI.ok n := by
  have h : (Lit.int .i64 n).wf = true := by simp [Lit.wf, IntKind.min, IntKind.max, IntKind.signed, IntKind.bits]; omega
  exact h
theorem Adds.cell0 {w0 W : World} {ga b : Nat} {v : Value} {lim : Int} {xs : List Int} (h : Adds w0 W ga b v lim xs) : W.cell? ⟨ga, 0, none⟩ = some v := (blk_cell h.blk 0).trans rfl
structure Mid (w0 W w1 : World) (ga b : Nat) (v : Value) (lim : Int) (xs : List Int) (n : Int) : Prop where mk ::
  blk : w1.heap[ga]? = some (.cells #[v, .int .i64 lim] 28 (0, 0))
  ge : w0.heap.size ≤ ga
  row : Kd.R (Kd.int .i64) 3 w1 w0.heap.size (fun _ => True) v xs
  met : MapOf KI VB w1 b (xs ++ [n]).length (metF (xs ++ [n]))
  mge : w0.heap.size ≤ b
  bel : Below w0.heap.size w0 w1
  gr : W.grownBy w1 (some b)
  nr : some ga ≠ v.ownBlock
  nm : b ≠ ga
  mr : some b ≠ v.ownBlock
theorem Adds.put {w0 W : World} {ga b : Nat} {v : Value} {lim : Int} {xs : List Int} (h : Adds w0 W ga b v lim xs) (n : Int) (hn : 0 ≤ n ∧ n ≤ 2000000) (hm : n ∉ xs) (hl : xs.length ≤ 256) :
    ∃ w1, (Instr.mapUpdate 41 (.map (some b)) (.int .i64 n) (.bool true)).run Tryd.prog W = .ok () w1 ∧ Mid w0 W w1 ga b v lim xs n := by
  have hlm : xs.length < maxLen := Nat.lt_of_le_of_lt hl (by decide)
  obtain ⟨w1, hput, hmet1, hg1⟩ := h.met.update (t := 41) Tryd.underlying41 hlm (wf_small hn) (x := true) trivial
  have hmet2 := mapOf_fun hmet1 (metF_put xs n hm)
  have hne : some ga ≠ some b := fun e => h.ne_map (Option.some.inj e).symm
  exact ⟨w1, hput, ⟨blk_grown h.blk hg1 hne, h.ge,
    Kd.R_mono (Kd.R_grown (Kd.R_mono (Kd.R_bound h.row) (fun k hk => (show k ≠ b from fun e => by
      obtain ⟨_, _, _, q, _, cells, hc⟩ := hk
      rw [e] at hc
      exact h.met.noCells hc))) hg1 (fun k hk e => hk (Option.some.inj e))) (fun _ _ => trivial), by rw [List.length_append]; exact hmet2, h.mge,
    h.bel.grown hg1 h.bel.size (fun k hk => (Option.some.inj hk) ▸ h.mge), hg1, h.ne_row, h.ne_map, h.map_row⟩⟩
theorem Mid.next {w0 W w1 w2 : World} {ga b : Nat} {v v1 : Value} {lim : Int} {xs : List Int} {n : Int} (h : Mid w0 W w1 ga b v lim xs n) (hr : Kd.R (Kd.int .i64) 3 w2 w0.heap.size (fun _ => True) v1 (xs ++ [n])) (hb : Below w0.heap.size w0 w2)
    (hg : w1.grownBy w2 v.ownBlock) : Adds w0 (w2.setCell ⟨ga, 0, none⟩ v1) ga b v1 lim (xs ++ [n]) ∧ Rest W (w2.setCell ⟨ga, 0, none⟩ v1) ga b v := by
  have hblk := blk_grown h.blk hg h.nr
  have hblk2 := blk_set hblk 0 v1
  refine ⟨⟨hblk2, h.ge, Kd.R_mono (Kd.R_far (p := ⟨ga, 0, none⟩) (Kd.R_types hr hblk (by decide)) (fun _ hk => hk.2) v1) (fun _ _ => trivial), (h.met.grown hg h.mr).setCell h.nm v1, h.mge, hb.setCell h.ge _⟩, ?_, ?_⟩
  · have h1 := h.gr.size
    have h2 := hg.size
    have h4 : (w2.setCell ⟨ga, 0, none⟩ v1).heap.size = w2.heap.size := by simp [World.setCell]
    omega
  · intro i hi h1 h2 h3
    have hs1 := h.gr.size
    rw [Below.heap_setCell w2 ⟨ga, 0, none⟩ v1 i h1, hg.block i (by omega) h3, h.gr.block i hi (fun e => h2 (by injection e))]
theorem OwnNext.next {w : World} {v u u1 : Value} {N : Nat} (h : OwnNext w v u) (k : u1.ownBlock = u.ownBlock ∨ ∃ b, u1.ownBlock = some b ∧ N ≤ b) (hN : w.heap.size ≤ N) : OwnNext w v u1 := by
  rcases k with k | ⟨b, hb, hle⟩
  · rcases h with h | ⟨b, hb, hle⟩
    · exact .inl (k.trans h)
    · exact .inr ⟨b, k.trans hb, hle⟩
  · exact .inr ⟨b, hb, Nat.le_trans hN hle⟩
theorem Rest.trans {w W W2 : World} {ga b : Nat} {v u : Value} (h : Rest w W ga b v) (k : Rest W W2 ga b u) (hu : OwnNext w v u) : Rest w W2 ga b v := by
  refine ⟨Nat.le_trans h.1 k.1, fun i hi h1 h2 h3 => ?_⟩
  rw [k.2 i (Nat.lt_of_lt_of_le hi h.1) h1 h2 (fun e => by
    rcases hu with hu | ⟨c, hc, hle⟩
    · exact h3 (e.trans hu)
    · rw [hc] at e; injection e with e; omega), h.2 i hi h1 h2 h3]
set_option maxHeartbeats 4000000 in
set_option maxRecDepth 100000 in
theorem array_Array_add.calls (k : Nat) (ga b : Nat) (v : Value) (lim : Int) (xs : List Int) (n to_ step : Int) (r : Bool) (ys : List Int) (w0 w : World) (h : Adds w0 w ga b v lim xs) (hf : array_Array_add.l k xs n to_ step = some (r, ys)) :
    Calls Tryd.prog 25 #[.pointer (some ⟨ga, 0, none⟩), .map (some b), .int .i64 n, .int .i64 to_, .int .i64 step] w fun e w' => ∃ v', e = .returned (.bool r) ∧ Adds w0 w' ga b v' lim ys ∧ Rest w w' ga b v ∧ OwnNext w v v' := by
  have HS := Aside0.mk h
  have H' := Aside0.mk hf
  clear h hf
  go_enter Tryd.func25, Tryd.ntmps25
  go_wp2
  go_loopg [11] k (fun kq v11 W' => ∃ (x : List Int) (u : Value) (m : Int), v11 = .int .i64 m ∧ Aside0 (array_Array_add.l kq x m to_ step = some (r, ys)) ∧ Aside0 (kq ≤ k) ∧ Aside0 (Adds w0 W' ga b u lim x) ∧ Aside0 (Rest w W' ga b v) ∧ Aside0 (OwnNext w v u))
  case atStart => exact ⟨xs, v, n, rfl, H', ⟨Nat.le_refl _⟩, HS, ⟨Nat.le_refl _, fun _ _ _ _ _ => rfl⟩, ⟨.inl rfl⟩⟩
  case round =>
    clear H' HS
    obtain ⟨x, u, m, rfl, HA, HK1, HS, HR, HO⟩ := hrel
    cases gk with
    | zero => exact absurd HA.out (by simp [array_Array_add.l])
    | succ k1 =>
      have H := HA.out
      clear HA
      simp only [array_Array_add.l] at H
      split at H
      · rename_i hb
        obtain ⟨b1, b2, b3, b4, b5⟩ := hb
        by_cases c1 : m ≤ to_
        · rw [if_pos c1] at H
          have c1b : decide (m ≤ to_) = true := decide_eq_true c1
          clear c1
          obtain ⟨A, c, rfl⟩ := Kd.R_slice HS.out.row
          have hc0 := HS.out.cell0
          by_cases hm : m ∈ x
          · rw [if_pos hm] at H
            simp only [Option.some.injEq, Prod.mk.injEq] at H
            obtain ⟨rfl, rfl⟩ := H
            have hlook := lookT HS.out.met m ⟨b1, b2⟩ true (decide_eq_true hm)
            clear hm
            go_wp2
            go_ret
            exact ⟨_, rfl, HS.out, HR.out, HO.out⟩
          · rw [if_neg hm] at H
            have hlook := lookT HS.out.met m ⟨b1, b2⟩ false (decide_eq_false hm)
            by_cases h256 : x.length = 256
            · rw [if_pos h256] at H
              simp only [Option.some.injEq, Prod.mk.injEq] at H
              obtain ⟨rfl, rfl⟩ := H
              have hl : ((x.length : Int) == 256) = true := beq_iff_eq.mpr (by omega)
              clear hm h256 b5
              go_wp2
              go_ret
              exact ⟨_, rfl, HS.out, HR.out, HO.out⟩
            · rw [if_neg h256] at H
              have hl : ((x.length : Int) == 256) = false := beq_eq_false_iff_ne.mpr (by omega)
              obtain ⟨w1, hput, hmid⟩ := HS.out.put m ⟨b1, b2⟩ hm b5
              have HM := Aside0.mk hmid
              have hc1 := (blk_cell hmid.blk 0).trans (show _ = some (Value.slice A x.length c) from rfl)
              have hf1 := blk_frozen hmid.blk 0
              have H' := Aside0.mk H
              have B5 := Aside0.mk b5
              clear hm h256 hmid H b5
              go_wp2_with (first | ((with_reducible refine gate_builtin (b := .append) (xs := #[.tmp 36, .tmp 38]) rfl ?_); at_builtin; refine Kd.R_append (Kd.int .i64) (w0 := w0) w0.heap.size rfl (.tmp 36) (.tmp 38) 22 3 (.int .i64 0) 8 rfl Tryd.underlying22 info3 rfl (by decide) (by omega) (.slice A x.length c) x m [.int .i64 m] (fun _ => True) (fun _ => False) rfl rfl ?aP (fun _ hk => hk.elim) ?aF ?aO ?aB ?aS ?aL ?_; (case aP => exact rfl); (case aF => exact fun _ _ => trivial); (case aO => exact HM.out.row); (case aB => exact HM.out.bel); (case aS => exact HM.out.bel.size); (case aL => have := B5.out; omega); intro v1 w2 ho hb hg hat; obtain ⟨A2, c2, rfl⟩ := Kd.R_slice ho; have HN := Aside0.mk (HM.out.next ho hb hg); have HT := Aside0.mk hat; have hlen : (x ++ [m]).length = x.length + 1 := (by simp); rw [hlen] at HN HT; clear hlen;  have hc2 := (blk_cell (blk_grown HM.out.blk hg HM.out.nr) 0).trans (show _ = some (Value.slice A x.length c) from rfl); have hf2 := blk_frozen (blk_grown HM.out.blk hg HM.out.nr) 0; have hs1 := HM.out.gr.size; clear ho hb hg hat))
              go_roundg k1
              case measure => have := HK1.out; omega
              case rel =>
                exact ⟨x ++ [m], _, m + step, rfl, H', ⟨by have := HK1.out; omega⟩, ⟨HN.out.1⟩, ⟨HR.out.trans HN.out.2 HO.out⟩, ⟨HO.out.next HT.out (Nat.le_trans HR.out.1 hs1)⟩⟩
        · rw [if_neg c1] at H
          have c1b : decide (m ≤ to_) = false := decide_eq_false c1
          clear c1
          simp only [Option.some.injEq, Prod.mk.injEq] at H
          obtain ⟨rfl, rfl⟩ := H
          go_wp2
          go_ret
          exact ⟨u, rfl, HS.out, HR.out, HO.out⟩
      · cases H
end Go.Proofs.YtnfpchpnephheaaDoor.PA
end
section
namespace Go.Proofs.YtnfpchpnephheaaDoor.St
open Go.RowKit Go.Lib Go.Sort Go.Proofs.YtnfpchpnephheaaDoor.Lib Go.Proofs.YtnfpchpnephheaaDoor.PA Go.Proofs.YtnfpchpnephheaaDoor.Mp Go.Proofs.YtnfpchpnephheaaDoorW.PrintWords Go.Proofs.YtnfpchpnephheaaDoorW.PrintLast Go.Proofs.YtnfpchpnephheaaDoorW.PrintMore
set_option linter.unusedVariables false
set_option linter.unusedSimpArgs false
abbrev Ix : Type := { n : Int // 0 ≤ n ∧ n ≤ 999999 }
instance : Inhabited Ix := ⟨⟨0, by decide⟩⟩
def encIx (x : Ix) : Value := .int .i64 x.1
def doneB (F : Int → Option Bool) (n : Int) : Bool := (F n).getD false
set_option maxRecDepth 100000 in
theorem gives (gb mb n : Nat) (F : Int → Option Bool) (x : Ix) (W : World) (hb : W.cell? ⟨gb, 0, none⟩ = some (.map (some mb))) (hm : MapOf KI VB W mb n F) :
    FnGives Tryd.prog 30 #[.pointer (some ⟨gb, 0, none⟩)] #[.int .i64 x.1] (.bool (doneB F x.1)) W := by
  show Calls Tryd.prog 30 #[.int .i64 x.1, .pointer (some ⟨gb, 0, none⟩)] W _
  have hlook : (Instr.lookup 41 (.map (some mb)) (.int .i64 x.1) false).run Tryd.prog W = .ok (.bool (doneB F x.1)) W := hm.run_plain (t := 41) Tryd.underlying41 (k := x.1) (wf_small ⟨x.2.1, by have := x.2.2; omega⟩)
  generalize doneB F x.1 = bo at hlook ⊢
  obtain ⟨x, hx⟩ := x
  dsimp only at hlook ⊢
  clear hx hm
  go_enter Tryd.func30, Tryd.ntmps30
  go_wp2
  go_ret
  exact ⟨rfl, 0, rfl⟩
theorem pred (gb mb n : Nat) (F : Int → Option Bool) (w : World) (hgb : gb < w.heap.size) (hb : w.cell? ⟨gb, 0, none⟩ = some (.map (some mb))) (hm : MapOf KI VB w mb n F) :
    PredAt Tryd.prog 30 #[.pointer (some ⟨gb, 0, none⟩)] encIx (fun x : Ix => doneB F x.1) w :=
  fun W x h => gives gb mb n F x W ((h.cell (p := ⟨gb, 0, none⟩) hgb).trans hb) (hm.below h)
theorem map_sorted {w : World} {mb n blk off k : Nat} {F : Int → Option Bool} {os : Array Obj} {dk : Array Ix} (hm : MapOf KI VB w mb n F) (hne : mb ≠ blk) : MapOf KI VB (sortWorld encIx w blk off k dk os) mb n F := by
  obtain ⟨D, ⟨es, clock, h1, h2, h3, h4⟩, h5⟩ := hm.out
  refine ⟨D, ⟨es, clock, ?_, h2, h3, h4⟩, h5⟩
  have hlt : mb < w.heap.size := (Array.getElem?_eq_some_iff.1 h1).1
  unfold sortWorld
  show ((putRow encIx (Sort.ahead w k) blk off dk).heap ++ os)[mb]? = _
  rw [Array.getElem?_append, if_pos (by rw [size_putRow]; exact hlt)]
  unfold putRow mapBlock
  show (Array.modify w.heap blk _)[mb]? = _
  rw [Array.getElem?_modify, if_neg (fun e => hne e.symm), h1]
theorem over (gb mb n blk off size : Nat) (F : Int → Option Bool) (w : World) (hgb : gb < w.heap.size) (hb : w.cell? ⟨gb, 0, none⟩ = some (.map (some mb))) (hm : MapOf KI VB w mb n F) (hg : gb ≠ blk) (hne : mb ≠ blk) :
    PredOver Tryd.prog 30 #[.pointer (some ⟨gb, 0, none⟩)] encIx (fun x : Ix => doneB F x.1) blk off size w :=
  fun k os dk x _ => gives gb mb n F x _ (by
    unfold sortWorld
    rw [cell?_grow _ _ _ (by show gb < (putRow _ _ _ _ _).heap.size; rw [size_putRow]; exact hgb), cell?_putRow_other _ _ blk off _ _ (Or.inl hg)]
    exact hb) (map_sorted hm hne)
end Go.Proofs.YtnfpchpnephheaaDoor.St
end
section
namespace Go.Proofs
open Go.Shelf
def Tryd.laysSlH10_f28_ren : Go.Shelf.Ren := ⟨fun | 10 => 28 | 6 => 39 | n => n, fun | 22 => 22 | 23 => 3 | 25 => 63 | 3 => 3 | 4 => 4 | 0 => 0 | n => n, fun | n => n⟩
theorem Tryd.laysSlH10_f28 : Go.Proofs.SlLaysH.n10 Tryd.prog Tryd.laysSlH10_f28_ren := {
  mixed := by kernel_rfl
  f6 := ⟨Tryd.f39.name, by decide, Tryd.func39.trans (congrArg some (by kernel_rfl))⟩
  f10 := ⟨Tryd.f28.name, by decide, Tryd.func28.trans (congrArg some (by kernel_rfl))⟩
  t0 := Tryd.underlying0
  a0 := Tryd.isAgg0
  z0 := Tryd.sizeOf0
  v0 := Tryd.zeroValue0
  t3 := Tryd.underlying3
  a3 := Tryd.isAgg3
  z3 := Tryd.sizeOf3
  v3 := Tryd.zeroValue3
  t4 := Tryd.underlying4
  a4 := Tryd.isAgg4
  z4 := Tryd.sizeOf4
  v4 := Tryd.zeroValue4
  t22 := Tryd.underlying22
  a22 := Tryd.isAgg22
  z22 := Tryd.sizeOf22
  v22 := Tryd.zeroValue22
  a23 := Tryd.isAgg3
  z23 := Tryd.sizeOf3
  t25 := Tryd.underlying63
  a25 := Tryd.isAgg63
  z25 := Tryd.sizeOf63
  v25 := Tryd.zeroValue63 }
open Go.RowKit Go.Lib Go.Sort in
theorem Tryd.slices_DeleteFunc {α : Type} [Inhabited α] (enc : α → Value) (hO : OneCell enc) (p : α → Bool) (g : Nat) (lb : Array Value) (eg : ∀ args w, (callFunc g args).run Tryd.prog w = .ok (.enter g args) w) (zr : α) (v23 : ∀ w, (zeroValue 3).run Tryd.prog w = .ok (enc zr) w) (blk off cap : Nat) (d : Array α) (w : World) (hp : PredAt Tryd.prog g lb enc p w) (hpo : PredOver Tryd.prog g lb enc p blk off d.size w) (hH : Holds enc w blk off d) (hsz : d.size ≤ 9223372036854775807) (hcap : d.size ≤ cap) :
    Calls Tryd.prog 28 #[.slice (some ⟨blk, off, none⟩) d.size cap, .func (.func g) #[] lb] w fun e w' => e = .returned (.slice (some ⟨blk, off, none⟩) (d.toList.filter fun x => !p x).length cap) ∧ ∃ q, w' = putRow enc (Sort.ahead w q) blk off ((d.toList.filter fun x => !p x) ++ List.replicate (d.size - (d.toList.filter fun x => !p x).length) zr).toArray := AnyE.slices_DeleteFunc Tryd.laysSlH10_f28 enc hO p g lb eg zr v23 blk off cap d w hp hpo hH hsz hcap
end Go.Proofs
end
section
namespace Go.Proofs.YtnfpchpnephheaaDoor.PA
open Go.RowKit Go.Proofs.YtnfpchpnephheaaDoor.Lib Go.Proofs.YtnfpchpnephheaaDoorW.PrintWords Go.Proofs.YtnfpchpnephheaaDoorW.PrintLast Go.Proofs.YtnfpchpnephheaaDoorW.PrintMore
attribute [local go_sem] max2_int min2_int max_two min_two max_three min_three max_four min_four   
set_option linter.unusedVariables false
set_option linter.unusedSimpArgs false
mutual
def array_Right.j0 : Nat → Bool → List Int → Int → Option (Bool)
 | 0, _, _, _ => none
 | k + 1, x25, x102000, x102001 => if x25 = true then (some false) else (array_Right.l0 k (-1) x102000 (x102000.length : Int) 0)
def array_Right.l0 : Nat → Int → List Int → Int → Int → Option (Bool)
 | 0, _, _, _, _ => none
 | k + 1, x3, x27, x28, x29 => if x29 < x28 then (if 0 ≤ x29 then (if x29 < (x27.length : Int) then (if (rd x27 x29) ≤ x3 then (some false) else (if (rd x27 x29) > 999999 then (some false) else (array_Right.l0 k (rd x27 x29) x27 x28 (wrap64 (x29 + 1))))) else (none)) else (none)) else (some true)
end
def array_Right.f (k : Nat) (l0_0 : List Int) (a0_1 : Int) : Option (Bool) := if (l0_0.length : Int) = 0 then (array_Right.j0 k true l0_0 a0_1) else (if (l0_0.length : Int) > 256 then (array_Right.j0 k true l0_0 a0_1) else (if a0_1 < 0 then (array_Right.j0 k true l0_0 a0_1) else (array_Right.j0 k (decide (a0_1 > 999999)) l0_0 a0_1)))
theorem array_Right.mono_l : ∀ k,(∀ y0 y1 y2,LeO (array_Right.j0 k y0 y1 y2) (array_Right.j0 (k + 1) y0 y1 y2))∧(∀ y0 y1 y2 y3,LeO (array_Right.l0 k y0 y1 y2 y3) (array_Right.l0 (k + 1) y0 y1 y2 y3))
|0 => ⟨fun _ _ _ r h => by simp [array_Right.j0] at h,fun _ _ _ _ r h => by simp [array_Right.l0] at h⟩
|k + 1 => by
  obtain ⟨ih0,ih1⟩:=array_Right.mono_l k
  refine ⟨?_,?_⟩
  ·intro y0 y1 y2
   unfold array_Right.j0
   repeat' first
  |(with_reducible exact ih0 _ _ _)
  |(with_reducible exact ih1 _ _ _ _)
  |(with_reducible exact LeO.refl _)
  |(with_reducible exact LeO.none _)
  |(with_reducible refine LeO.ite ?_ ?_)
  |(with_reducible refine LeO.bind ?_ (fun _ => ?_))
  |exact ih0 _ _ _
  |exact ih1 _ _ _ _
  |exact LeO.none _
  |refine LeO.ite ?_ ?_
  |refine LeO.bind ?_ (fun _ => ?_)
  ·intro y0 y1 y2 y3
   unfold array_Right.l0
   repeat' first
  |(with_reducible exact ih0 _ _ _)
  |(with_reducible exact ih1 _ _ _ _)
  |(with_reducible exact LeO.refl _)
  |(with_reducible exact LeO.none _)
  |(with_reducible refine LeO.ite ?_ ?_)
  |(with_reducible refine LeO.bind ?_ (fun _ => ?_))
  |exact ih0 _ _ _
  |exact ih1 _ _ _ _
  |exact LeO.none _
  |refine LeO.ite ?_ ?_
  |refine LeO.bind ?_ (fun _ => ?_)
theorem array_Right.mono : ∀ a0 a1 k,LeO (array_Right.f k a0 a1) (array_Right.f (k + 1) a0 a1):=by
 (intro a0 a1 k);(obtain ⟨ih0,ih1⟩:=array_Right.mono_l k);(unfold array_Right.f)
 repeat' first
  |(with_reducible exact ih0 _ _ _)
  |(with_reducible exact ih1 _ _ _ _)
  |(with_reducible exact LeO.refl _)
  |(with_reducible exact LeO.none _)
  |(with_reducible refine LeO.ite ?_ ?_)
  |(with_reducible refine LeO.bind ?_ (fun _ => ?_))
  |exact ih0 _ _ _
  |exact ih1 _ _ _ _
  |exact LeO.none _
  |refine LeO.ite ?_ ?_
  |refine LeO.bind ?_ (fun _ => ?_)
set_option maxHeartbeats 8000000 in
set_option maxRecDepth 100000 in
theorem array_Right.calls (k : Nat) (A0_0 : Option Addr) (c0_0 : Nat) (l0_0 : List Int) (a0_1 : Int) (r : Bool) (w : World) (hr0_0 : Kd.C (Kd.int .i64) w A0_0 l0_0.length l0_0) (hc0_0 : l0_0.length ≤ c0_0) (h : array_Right.f k l0_0 a0_1 = some r) :
  Calls Tryd.prog 11 #[.agg #[.slice A0_0 l0_0.length c0_0,.int .i64 a0_1]] w fun e w' => e = .returned (.bool r)∧Below w.heap.size w w':=by
 (have hu28:=Tryd.underlying28);(have HR0_0:=Aside0.mk hr0_0);(have HC0_0:=Aside0.mk hc0_0);(clear hr0_0 hc0_0);(have HB:=Aside0.mk (Below.refl w.heap.size w));(have H : (if (l0_0.length : Int) = 0 then (array_Right.j0 k true l0_0 a0_1) else (if (l0_0.length : Int) > 256 then (array_Right.j0 k true l0_0 a0_1) else (if a0_1 < 0 then (array_Right.j0 k true l0_0 a0_1) else (array_Right.j0 k (decide (a0_1 > 999999)) l0_0 a0_1)))) = some r:=h);(clear h);(have HC2:=Aside0.mk H);(clear H);(go_enter Tryd.func11,Tryd.ntmps11);(go_upto_region 1 with (first|((with_reducible refine gate_dst (N:=1) rfl ?_);(try (refine gate_guard (by rfl) ?_;dsimp only));refine box_event ?hg (N:=1) ?hd (cs:=#[.slice A0_0 l0_0.length c0_0,.int .i64 a0_1]) (t:=28) ?hr ?_;(case hd => rfl);(case hg => rfl);(case hr => first|(go_simp;done)|(go_simp;rfl));intro gb101 hg w3 hbox hb;have n0_:=Aside0.mk (below_step (by repeat (first|(with_reducible first|exact HB.out|apply below_alloc|apply pw_below_drewN|apply below_drew1)|exact HB.out)) hb);have n1_:=Aside0.mk (hbox);have n2_:=Aside0.mk ((by rw [hg];exact (below_size (by repeat (first|(with_reducible first|exact HB.out|apply below_alloc|apply pw_below_drewN|apply below_drew1)|exact HB.out))) : w.heap.size ≤ gb101));have n3_:=Aside0.mk ((by rw [hg];exact (below_size (by repeat (first|(with_reducible first|exact HB.out|apply below_alloc|apply pw_below_drewN|apply below_drew1)|exact HB.out))) : w.heap.size ≤ gb101));clear HB;have HB:=n0_;have BK101:=n1_;have GW101:=n2_;have GE101:=n3_;clear n0_ n1_ n2_ n3_;clear hb hbox hg)));((try simp only [Act.put,List.setIfInBounds_toArray,List.set_cons_zero,List.set_cons_succ]));(go_cut [25] (fun v25 wc => ∃ (kq : Nat) (x25_1 : Bool),v25 = .bool x25_1∧Aside0 (array_Right.j0 kq x25_1 l0_0 a0_1 = some r)∧Aside0 (kq ≤ k)∧Aside0 (wc.heap[gb101]? = some (.cells #[(.slice A0_0 l0_0.length c0_0),.int .i64 a0_1] 28 (0,0)))∧Aside0 (Below w.heap.size w wc)))
 case first =>
  (have H:=HC2.out);(clear HC2);(by_cases c4 : (l0_0.length : Int) = 0)
  ·(rw [if_pos c4] at H);(have c4b0 : ((l0_0.length : Int) == 0) = true:=beq_iff_eq.mpr c4);(have c4b1 : ((l0_0.length : Int) != 0) = false:=bne_eq_false_iff_eq.mpr c4);(clear c4);((first|rw [c4b0]|(simp only [i64_w,i32_w];rw [c4b0])|skip));(have H':=Aside0.mk H);(clear H);(have hcz5_0 : w3.cell? ⟨gb101,0,none⟩ = some (.slice A0_0 l0_0.length c0_0):=(blk_cell BK101.out 0).trans rfl);(have hcz5_1 : w3.cell? ⟨gb101,1,none⟩ = some (.int .i64 a0_1):=(blk_cell BK101.out 1).trans rfl);(have hfz5_0:=blk_frozen BK101.out 0);(have hfz5_1:=blk_frozen BK101.out 1);(go_wp2);(go_meet)
   case rel => exact ⟨_,(true),(by first|rfl|(simp;done)|(simp [*];done)),H',⟨by first|omega|exact Nat.le_refl _⟩,⟨by (with_reducible repeat (first|refine blk_drewN ?_ _|refine blk_drew ?_|refine blk_alloc ?_ _));exact BK101.out⟩,⟨by repeat (first|(with_reducible first|exact HB.out|apply below_alloc|apply pw_below_drewN|apply below_drew1|refine below_set ?_ GE101.out)|exact HB.out)⟩⟩
  ·(rw [if_neg c4] at H);(have c4b0 : ((l0_0.length : Int) == 0) = false:=beq_eq_false_iff_ne.mpr c4);(have c4b1 : ((l0_0.length : Int) != 0) = true:=bne_iff_ne.mpr c4);(have c4b2 : ¬ (l0_0 = []):=fun h_ => c4 (by rw [h_];rfl));((first|rw [c4b0]|(simp only [i64_w,i32_w];rw [c4b0])|skip));(by_cases c6 : (l0_0.length : Int) > 256)
   ·(rw [if_pos c6] at H);(have c6b0 : decide (256 < (l0_0.length : Int)) = true:=decide_eq_true c6);(have c6b1 : decide (256 < l0_0.length) = true:=decide_eq_true (by omega));(clear c6);(have H':=Aside0.mk H);(clear H);(have hcz7_0 : w3.cell? ⟨gb101,0,none⟩ = some (.slice A0_0 l0_0.length c0_0):=(blk_cell BK101.out 0).trans rfl);(have hcz7_1 : w3.cell? ⟨gb101,1,none⟩ = some (.int .i64 a0_1):=(blk_cell BK101.out 1).trans rfl);(have hfz7_0:=blk_frozen BK101.out 0);(have hfz7_1:=blk_frozen BK101.out 1);(go_wp2);(go_meet)
    case rel => exact ⟨_,(true),(by first|rfl|(simp;done)|(simp [*];done)),H',⟨by first|omega|exact Nat.le_refl _⟩,⟨by (with_reducible repeat (first|refine blk_drewN ?_ _|refine blk_drew ?_|refine blk_alloc ?_ _));exact BK101.out⟩,⟨by repeat (first|(with_reducible first|exact HB.out|apply below_alloc|apply pw_below_drewN|apply below_drew1|refine below_set ?_ GE101.out)|exact HB.out)⟩⟩
   ·(rw [if_neg c6] at H);(have c6b0 : decide (256 < (l0_0.length : Int)) = false:=decide_eq_false c6);(have c6b1 : decide (256 < l0_0.length) = false:=decide_eq_false (by omega));(clear c6);(by_cases c8 : a0_1 < 0)
    ·(rw [if_pos c8] at H);(have c8b0 : decide (a0_1 < 0) = true:=decide_eq_true c8);(clear c8);(have H':=Aside0.mk H);(clear H);(have hcz9_0 : w3.cell? ⟨gb101,0,none⟩ = some (.slice A0_0 l0_0.length c0_0):=(blk_cell BK101.out 0).trans rfl);(have hcz9_1 : w3.cell? ⟨gb101,1,none⟩ = some (.int .i64 a0_1):=(blk_cell BK101.out 1).trans rfl);(have hfz9_0:=blk_frozen BK101.out 0);(have hfz9_1:=blk_frozen BK101.out 1);(go_wp2);(go_meet)
     case rel => exact ⟨_,(true),(by first|rfl|(simp;done)|(simp [*];done)),H',⟨by first|omega|exact Nat.le_refl _⟩,⟨by (with_reducible repeat (first|refine blk_drewN ?_ _|refine blk_drew ?_|refine blk_alloc ?_ _));exact BK101.out⟩,⟨by repeat (first|(with_reducible first|exact HB.out|apply below_alloc|apply pw_below_drewN|apply below_drew1|refine below_set ?_ GE101.out)|exact HB.out)⟩⟩
    ·(rw [if_neg c8] at H);(have c8b0 : decide (a0_1 < 0) = false:=decide_eq_false c8);(clear c8);(have H':=Aside0.mk H);(clear H);(have hcz10_0 : w3.cell? ⟨gb101,0,none⟩ = some (.slice A0_0 l0_0.length c0_0):=(blk_cell BK101.out 0).trans rfl);(have hcz10_1 : w3.cell? ⟨gb101,1,none⟩ = some (.int .i64 a0_1):=(blk_cell BK101.out 1).trans rfl);(have hfz10_0:=blk_frozen BK101.out 0);(have hfz10_1:=blk_frozen BK101.out 1);(go_wp2);(go_meet)
     case rel => exact ⟨_,(decide (a0_1 > 999999)),(by first|rfl|(simp;done)|(simp [*];done)),H',⟨by first|omega|exact Nat.le_refl _⟩,⟨by (with_reducible repeat (first|refine blk_drewN ?_ _|refine blk_drew ?_|refine blk_alloc ?_ _));exact BK101.out⟩,⟨by repeat (first|(with_reducible first|exact HB.out|apply below_alloc|apply pw_below_drewN|apply below_drew1|refine below_set ?_ GE101.out)|exact HB.out)⟩⟩
 case rest =>
  (clear HC2);(try clear c1);(try clear p2);(try clear c4);(try clear c4b0);(try clear c4b1);(try clear c4b2);(try clear c6);(try clear c6b0);(try clear c6b1);(try clear c8);(try clear c8b0);(try clear hcz10_0);(try clear hcz10_1);(try clear hcz5_0);(try clear hcz5_1);(try clear hcz7_0);(try clear hcz7_1);(try clear hcz9_0);(try clear hcz9_1);(try clear hfz10_0);(try clear hfz10_1);(try clear hfz5_0);(try clear hfz5_1);(try clear hfz7_0);(try clear hfz7_1);(try clear hfz9_0);(try clear hfz9_1);(obtain ⟨kq,x25_1,rfl,HA,HJ1,BK101,HB⟩:=hcut)
  cases kq with
 |zero => exact absurd HA.out (by simp [array_Right.j0])
 |succ kj1 =>
   (have H:=HA.out);(clear HA);(simp only [array_Right.j0] at H);(by_cases c11 : x25_1 = true);·(subst c11);(have H1 : (some false) = some r:=by rw [if_pos rfl] at H;exact H);(clear H);(have H:=H1);(clear H1);(obtain rfl:=Option.some.inj H);(go_wp2);(go_ret);(exact ⟨by first|rfl|(simp [errW_none,errW_some] <;> rfl)|(simp [*,errW_none,errW_some] <;> rfl),by repeat (first|(with_reducible first|exact HB.out|apply below_alloc|apply pw_below_drewN|apply below_drew1|refine below_set ?_ GE101.out)|exact HB.out)⟩)
   ·(replace c11:=Bool.eq_false_iff.mpr c11);(subst c11);(have H1 : (array_Right.l0 kj1 (-1) l0_0 (l0_0.length : Int) 0) = some r:=by rw [if_neg (show ¬ (false = true) by decide)] at H;exact H);(clear H);(have H:=H1);(clear H1);(have H':=Aside0.mk H);(clear H);(have hcz12_0 : wc.cell? ⟨gb101,0,none⟩ = some (.slice A0_0 l0_0.length c0_0):=(blk_cell BK101.out 0).trans rfl);(have hcz12_1 : wc.cell? ⟨gb101,1,none⟩ = some (.int .i64 a0_1):=(blk_cell BK101.out 1).trans rfl);(have hfz12_0:=blk_frozen BK101.out 0);(have hfz12_1:=blk_frozen BK101.out 1);(go_wp2);(go_loopg [3,29] kj1 (fun kq v3 v29 w' => ∃ (x3_2 : Int) (x29_2 : Int),v3 = .int .i64 x3_2∧v29 = .int .i64 x29_2∧Aside0 (array_Right.l0 kq x3_2 l0_0 (l0_0.length : Int) x29_2 = some r)∧Aside0 (kq ≤ kj1)∧Aside0 (w'.heap[gb101]? = some (.cells #[(.slice A0_0 l0_0.length c0_0),.int .i64 a0_1] 28 (0,0)))∧Aside0 (Below w.heap.size w w')))
    case atStart => exact ⟨((-1)),(0),(by first|rfl|(simp;done)|(simp [*];done)),(by first|rfl|(simp;done)|(simp [*];done)),H',⟨Nat.le_refl _⟩,⟨by (with_reducible repeat (first|refine blk_drewN ?_ _|refine blk_drew ?_|refine blk_alloc ?_ _));exact BK101.out⟩,⟨by repeat (first|(with_reducible first|exact HB.out|apply below_alloc|apply pw_below_drewN|apply below_drew1|refine below_set ?_ GE101.out)|exact HB.out)⟩⟩
    case round =>
     (clear H');(try clear c1);(try clear p2);(try clear c4);(try clear c4b0);(try clear c4b1);(try clear c4b2);(try clear c6);(try clear c6b0);(try clear c6b1);(try clear c8);(try clear c8b0);(try clear c11);(try clear hcz10_0);(try clear hcz10_1);(try clear hcz12_0);(try clear hcz12_1);(try clear hcz5_0);(try clear hcz5_1);(try clear hcz7_0);(try clear hcz7_1);(try clear hcz9_0);(try clear hcz9_1);(try clear hfz10_0);(try clear hfz10_1);(try clear hfz12_0);(try clear hfz12_1);(try clear hfz5_0);(try clear hfz5_1);(try clear hfz7_0);(try clear hfz7_1);(try clear hfz9_0);(try clear hfz9_1);(try clear p2);(obtain ⟨x3_2,x29_2,rfl,rfl,HA,HK2,BK101,HB⟩:=hrel)
     cases gk with
    |zero => exact absurd HA.out (by simp [array_Right.l0])
    |succ k2 =>
      (have H:=HA.out);(clear HA);(simp only [array_Right.l0] at H);(by_cases c13 : x29_2 < (l0_0.length : Int))
      ·(rw [if_pos c13] at H);(have c13b0 : decide (x29_2 < (l0_0.length : Int)) = true:=decide_eq_true c13);(clear c13);(by_cases c14 : 0 ≤ x29_2)
       ·(rw [if_pos c14] at H);(have c14b0 : decide (0 ≤ x29_2) = true:=decide_eq_true c14);(clear c14);(by_cases c15 : x29_2 < (l0_0.length : Int))
        ·(rw [if_pos c15] at H);(have c15b0 : decide (x29_2 < (l0_0.length : Int)) = true:=decide_eq_true c15);(clear c15);(by_cases c16 : (rd l0_0 x29_2) ≤ x3_2)
         ·(rw [if_pos c16] at H);(have c16b0 : decide ((rd l0_0 x29_2) ≤ x3_2) = true:=decide_eq_true c16);(clear c16);(obtain rfl:=Option.some.inj H);(have p102 : 0 ≤ (x29_2 : Int):=of_decide_eq_true (by first|(with_reducible assumption)|assumption));(have q102 : x29_2 < (l0_0.length : Int):=of_decide_eq_true (by first|(with_reducible assumption)|assumption));(obtain ⟨ad102,e102,hx102_0⟩:=Kd.at_int HR0_0.out x29_2 p102 q102)
          cases e102
          (replace hx102_0:=(HB.out.cell (World.block_lt_of_cell? w _ hx102_0)).trans hx102_0);(replace p102:=eq_true p102);(replace q102:=eq_true q102);(go_wp2);(go_ret);(exact ⟨by first|rfl|(simp [errW_none,errW_some] <;> rfl)|(simp [*,errW_none,errW_some] <;> rfl),by repeat (first|(with_reducible first|exact HB.out|apply below_alloc|apply pw_below_drewN|apply below_drew1|refine below_set ?_ GE101.out)|exact HB.out)⟩)
         ·(rw [if_neg c16] at H);(have c16b0 : decide ((rd l0_0 x29_2) ≤ x3_2) = false:=decide_eq_false c16);(clear c16);(by_cases c17 : (rd l0_0 x29_2) > 999999)
          ·(rw [if_pos c17] at H);(have c17b0 : decide (999999 < (rd l0_0 x29_2)) = true:=decide_eq_true c17);(clear c17);(obtain rfl:=Option.some.inj H);(have p102 : 0 ≤ (x29_2 : Int):=of_decide_eq_true (by first|(with_reducible assumption)|assumption));(have q102 : x29_2 < (l0_0.length : Int):=of_decide_eq_true (by first|(with_reducible assumption)|assumption));(obtain ⟨ad102,e102,hx102_0⟩:=Kd.at_int HR0_0.out x29_2 p102 q102)
           cases e102
           (replace hx102_0:=(HB.out.cell (World.block_lt_of_cell? w _ hx102_0)).trans hx102_0);(replace p102:=eq_true p102);(replace q102:=eq_true q102);(go_wp2);(go_ret);(exact ⟨by first|rfl|(simp [errW_none,errW_some] <;> rfl)|(simp [*,errW_none,errW_some] <;> rfl),by repeat (first|(with_reducible first|exact HB.out|apply below_alloc|apply pw_below_drewN|apply below_drew1|refine below_set ?_ GE101.out)|exact HB.out)⟩)
          ·(rw [if_neg c17] at H);(have c17b0 : decide (999999 < (rd l0_0 x29_2)) = false:=decide_eq_false c17);(clear c17);(have H':=Aside0.mk H);(clear H);(have p102 : 0 ≤ (x29_2 : Int):=of_decide_eq_true (by first|(with_reducible assumption)|assumption));(have q102 : x29_2 < (l0_0.length : Int):=of_decide_eq_true (by first|(with_reducible assumption)|assumption));(obtain ⟨ad102,e102,hx102_0⟩:=Kd.at_int HR0_0.out x29_2 p102 q102)
           cases e102
           (replace hx102_0:=(HB.out.cell (World.block_lt_of_cell? w _ hx102_0)).trans hx102_0);(replace p102:=eq_true p102);(replace q102:=eq_true q102);(go_wp2);(go_roundg k2)
           case measure => have:=HJ1.out;have:=HK2.out;omega
           case rel => exact ⟨(rd l0_0 x29_2),(wrap64 (x29_2 + 1)),(by first|rfl|(simp;done)|(simp [*];done)),(by first|rfl|(simp;done)|(simp [*];done)),H',⟨by have:=HJ1.out;have:=HK2.out;omega⟩,⟨by (with_reducible repeat (first|refine blk_drewN ?_ _|refine blk_drew ?_|refine blk_alloc ?_ _));exact BK101.out⟩,⟨by repeat (first|(with_reducible first|exact HB.out|apply below_alloc|apply pw_below_drewN|apply below_drew1|refine below_set ?_ GE101.out)|exact HB.out)⟩⟩
        ·(rw [if_neg c15] at H);(exact absurd H (by simp))
       ·(rw [if_neg c14] at H);(exact absurd H (by simp))
      ·(rw [if_neg c13] at H);(have c13b0 : decide (x29_2 < (l0_0.length : Int)) = false:=decide_eq_false c13);(clear c13);(obtain rfl:=Option.some.inj H);(go_wp2);(go_ret);(exact ⟨by first|rfl|(simp [errW_none,errW_some] <;> rfl)|(simp [*,errW_none,errW_some] <;> rfl),by repeat (first|(with_reducible first|exact HB.out|apply below_alloc|apply pw_below_drewN|apply below_drew1|refine below_set ?_ GE101.out)|exact HB.out)⟩)
def array_run.l0 : Nat → List Int → Int → Int → Option (Int × Int)
 | 0, _, _, _ => none
 | k + 1, x0, x4, x5 => if x5 < (x0.length : Int) then (if 0 ≤ x5 then (if 0 ≤ (wrap64 (x5 - 1)) then (if (wrap64 (x5 - 1)) < (x0.length : Int) then (if (wrap64 ((rd x0 x5) - (rd x0 (wrap64 (x5 - 1))))) = x4 then (array_run.l0 k x0 x4 (wrap64 (x5 + 1))) else (some (x5, x4))) else (none)) else (none)) else (none)) else (some (x5, x4))
def array_run.f (k : Nat) (l0 : List Int) : Option (Int × Int) := if (l0.length : Int) < 2 then (some (1, 0)) else (if 1 < (l0.length : Int) then (if 0 < (l0.length : Int) then (array_run.l0 k l0 (wrap64 ((rd l0 1) - (rd l0 0))) 2) else (none)) else (none))
theorem array_run.mono_l : ∀ k,(∀ y0 y1 y2,LeO (array_run.l0 k y0 y1 y2) (array_run.l0 (k + 1) y0 y1 y2))
|0 => fun _ _ _ r h => by simp [array_run.l0] at h
|k + 1 => by
  have ih0:=array_run.mono_l k
  ·intro y0 y1 y2
   unfold array_run.l0
   repeat' first
  |(with_reducible exact ih0 _ _ _)
  |(with_reducible exact LeO.refl _)
  |(with_reducible exact LeO.none _)
  |(with_reducible refine LeO.ite ?_ ?_)
  |(with_reducible refine LeO.bind ?_ (fun _ => ?_))
  |exact ih0 _ _ _
  |exact LeO.none _
  |refine LeO.ite ?_ ?_
  |refine LeO.bind ?_ (fun _ => ?_)
theorem array_run.mono : ∀ a0 k,LeO (array_run.f k a0) (array_run.f (k + 1) a0):=by
 (intro a0 k);(have ih0:=array_run.mono_l k);(unfold array_run.f)
 repeat' first
  |(with_reducible exact ih0 _ _ _)
  |(with_reducible exact LeO.refl _)
  |(with_reducible exact LeO.none _)
  |(with_reducible refine LeO.ite ?_ ?_)
  |(with_reducible refine LeO.bind ?_ (fun _ => ?_))
  |exact ih0 _ _ _
  |exact LeO.none _
  |refine LeO.ite ?_ ?_
  |refine LeO.bind ?_ (fun _ => ?_)
set_option maxHeartbeats 8000000 in
set_option maxRecDepth 100000 in
theorem array_run.calls (k : Nat) (A0 : Option Addr) (c0 : Nat) (l0 : List Int) (r1 : Int) (r2 : Int) (w : World) (hr0 : Kd.C (Kd.int .i64) w A0 l0.length l0) (hc0 : l0.length ≤ c0) (h : array_run.f k l0 = some (r1,r2)) :
  Calls Tryd.prog 19 #[.slice A0 l0.length c0] w fun e w' => e = .returned (.tuple #[.int .i64 r1,.int .i64 r2])∧Drawn0 w w':=by
 (have HR0:=Aside0.mk hr0);(have HC0:=Aside0.mk hc0);(clear hr0 hc0);(have H : (if (l0.length : Int) < 2 then (some (1,0)) else (if 1 < (l0.length : Int) then (if 0 < (l0.length : Int) then (array_run.l0 k l0 (wrap64 ((rd l0 1) - (rd l0 0))) 2) else (none)) else (none))) = some (r1,r2):=h);(clear h);(by_cases c2 : (l0.length : Int) < 2)
 ·(rw [if_pos c2] at H);(have c2b0 : decide ((l0.length : Int) < 2) = true:=decide_eq_true c2);(have c2b1 : decide (l0.length < 2) = true:=decide_eq_true (by omega));(clear c2);(simp only [Option.some.injEq,Prod.mk.injEq] at H);(obtain ⟨rfl,rfl⟩:=H);(go_enter Tryd.func19,Tryd.ntmps19);(go_wp2)
  repeat (go_quiet (fail);try go_wp2)
  (go_ret2);(exact ⟨by first|rfl|(simp;done)|(simp [*];done),by repeat (first|exact Drawn0.refl _|apply Drawn0.step)⟩)
 ·(rw [if_neg c2] at H);(have c2b0 : decide ((l0.length : Int) < 2) = false:=decide_eq_false c2);(have c2b1 : decide (l0.length < 2) = false:=decide_eq_false (by omega));(clear c2);(by_cases c3 : 1 < (l0.length : Int))
  ·(rw [if_pos c3] at H);(have c3b0 : decide (1 < (l0.length : Int)) = true:=decide_eq_true c3);(have c3b1 : decide (1 < l0.length) = true:=decide_eq_true (by omega));(clear c3);(by_cases c4 : 0 < (l0.length : Int))
   ·(rw [if_pos c4] at H);(have c4b0 : decide (0 < (l0.length : Int)) = true:=decide_eq_true c4);(have c4b1 : decide (0 < l0.length) = true:=decide_eq_true (by omega));(clear c4);(have H':=Aside0.mk H);(clear H);(have p103 : 0 ≤ (1 : Int):=(by omega));(have q103 : 1 < (l0.length : Int):=of_decide_eq_true (by first|(with_reducible assumption)|assumption));(obtain ⟨ad103,e103,hx103_0⟩:=Kd.at_int HR0.out 1 p103 q103)
    cases e103
    ((try simp only [show (1 : Int).toNat = 1 from rfl,Nat.reduceMul,Nat.reduceEqDiff,Go.Addr.add,↓reduceIte] at hx103_0));(have qi103 : (1 < l0.length) = True:=eq_true (by omega));((try rw [show ((1 : Int)).toNat = 1 from rfl] at hx103_0));(replace p103:=eq_true p103);(replace q103:=eq_true q103);(have p104 : 0 ≤ (0 : Int):=(by omega));(have q104 : 0 < (l0.length : Int):=of_decide_eq_true (by first|(with_reducible assumption)|assumption));(obtain ⟨ad104,e104,hx104_0⟩:=Kd.at_int HR0.out 0 p104 q104);(obtain rfl : ad103 = ad104:=(by injection e104));(have qi104 : (0 < l0.length) = True:=eq_true (by omega));((try rw [show ((0 : Int)).toNat = 0 from rfl] at hx104_0));((try rw [Addr.add_zero'] at hx104_0));(replace p104:=eq_true p104);(replace q104:=eq_true q104);(go_enter Tryd.func19,Tryd.ntmps19);(go_wp2)
    repeat (go_quiet (fail);try go_wp2)
    (go_loopg [5] k (fun kq v5 w' => ∃ (x5_1 : Int),v5 = .int .i64 x5_1∧Aside0 (array_run.l0 kq l0 (wrap64 ((rd l0 1) - (rd l0 0))) x5_1 = some (r1,r2))∧Aside0 (kq ≤ k)∧Drawn0 w w'))
    case atStart => exact ⟨(2),(by first|rfl|(simp;done)|(simp [*];done)),H',⟨Nat.le_refl _⟩,by repeat (first|exact Drawn0.refl _|apply Drawn0.step)⟩
    case round =>
     (clear H');(try clear c1);(try clear p1);(try clear q1);(try clear hx1);(try clear qi1);(try clear c2);(try clear c2b0);(try clear c2b1);(try clear p2);(try clear c3);(try clear c3b0);(try clear c3b1);(try clear c4);(try clear c4b0);(try clear c4b1);(try clear hx103_0);(try clear hx104_0);(try clear p103);(try clear p104);(try clear q103);(try clear q104);(obtain ⟨x5_1,rfl,HA,HK1,⟨m1,rfl⟩⟩:=hrel)
     cases gk with
    |zero => exact absurd HA.out (by simp [array_run.l0])
    |succ k1 =>
      (have H:=HA.out);(clear HA);(simp only [array_run.l0] at H);(by_cases c5 : x5_1 < (l0.length : Int))
      ·(rw [if_pos c5] at H);(have c5b0 : decide (x5_1 < (l0.length : Int)) = true:=decide_eq_true c5);(clear c5);(by_cases c6 : 0 ≤ x5_1)
       ·(rw [if_pos c6] at H);(have c6b0 : decide (0 ≤ x5_1) = true:=decide_eq_true c6);(clear c6);(obtain ⟨ji7,hji7⟩ : ∃ j_ : Int,(wrap64 (x5_1 - 1)) = j_:=⟨_,rfl⟩);(replace H : (if 0 ≤ (ji7) then (if (ji7) < (l0.length : Int) then (if (wrap64 ((rd l0 x5_1) - (rd l0 (ji7)))) = (wrap64 ((rd l0 1) - (rd l0 0))) then (array_run.l0 k1 l0 (wrap64 ((rd l0 1) - (rd l0 0))) (wrap64 (x5_1 + 1))) else (some (x5_1,(wrap64 ((rd l0 1) - (rd l0 0)))))) else (none)) else (none)) = some (r1,r2):=by first|(rw [hji7] at H;exact H)|(simp only [hji7] at H ⊢;exact H));(have hji7w : (IntKind.i64.wrap (x5_1 - 1)) = ji7:=(i64_w _).trans hji7);(by_cases c8 : 0 ≤ (ji7))
        ·(rw [if_pos c8] at H);(have c8b0 : decide (0 ≤ (ji7)) = true:=decide_eq_true c8);(clear c8);(by_cases c9 : (ji7) < (l0.length : Int))
         ·(rw [if_pos c9] at H);(have c9b0 : decide ((ji7) < (l0.length : Int)) = true:=decide_eq_true c9);(clear c9);(by_cases c10 : (wrap64 ((rd l0 x5_1) - (rd l0 (ji7)))) = (wrap64 ((rd l0 1) - (rd l0 0))))
          ·(rw [if_pos c10] at H);(have c10b0 : ((wrap64 ((rd l0 x5_1) - (rd l0 (ji7)))) == (wrap64 ((rd l0 1) - (rd l0 0)))) = true:=beq_iff_eq.mpr c10);(have c10b1 : ((wrap64 ((rd l0 x5_1) - (rd l0 (ji7)))) != (wrap64 ((rd l0 1) - (rd l0 0)))) = false:=bne_eq_false_iff_eq.mpr c10);(clear c10);(have H':=Aside0.mk H);(clear H);(have p105 : 0 ≤ (x5_1 : Int):=of_decide_eq_true (by first|(with_reducible assumption)|assumption));(have q105 : x5_1 < (l0.length : Int):=of_decide_eq_true (by first|(with_reducible assumption)|assumption));(obtain ⟨ad105,e105,hx105_0⟩:=Kd.at_int HR0.out x5_1 p105 q105);(obtain rfl : ad103 = ad105:=(by injection e105));(replace p105:=eq_true p105);(replace q105:=eq_true q105);(have p106 : 0 ≤ ((ji7) : Int):=of_decide_eq_true (by first|(with_reducible assumption)|assumption));(have q106 : (ji7) < (l0.length : Int):=of_decide_eq_true (by first|(with_reducible assumption)|assumption));(obtain ⟨ad106,e106,hx106_0⟩:=Kd.at_int HR0.out (ji7) p106 q106);(obtain rfl : ad103 = ad106:=(by injection e106));(replace p106:=eq_true p106);(replace q106:=eq_true q106);(go_wp2)
           repeat (go_quiet (fail);try go_wp2)
           (go_roundg k1)
           case measure => have:=HK1.out;omega
           case rel => exact ⟨(wrap64 (x5_1 + 1)),(by first|rfl|(simp;done)|(simp [*];done)),H',⟨by have:=HK1.out;omega⟩,by repeat (first|exact Drawn0.refl _|apply Drawn0.step)⟩
          ·(rw [if_neg c10] at H);(have c10b0 : ((wrap64 ((rd l0 x5_1) - (rd l0 (ji7)))) == (wrap64 ((rd l0 1) - (rd l0 0)))) = false:=beq_eq_false_iff_ne.mpr c10);(have c10b1 : ((wrap64 ((rd l0 x5_1) - (rd l0 (ji7)))) != (wrap64 ((rd l0 1) - (rd l0 0)))) = true:=bne_iff_ne.mpr c10);(simp only [Option.some.injEq,Prod.mk.injEq] at H);(obtain ⟨rfl,rfl⟩:=H);(have p105 : 0 ≤ (x5_1 : Int):=of_decide_eq_true (by first|(with_reducible assumption)|assumption));(have q105 : x5_1 < (l0.length : Int):=of_decide_eq_true (by first|(with_reducible assumption)|assumption));(obtain ⟨ad105,e105,hx105_0⟩:=Kd.at_int HR0.out x5_1 p105 q105);(obtain rfl : ad103 = ad105:=(by injection e105));(replace p105:=eq_true p105);(replace q105:=eq_true q105);(have p106 : 0 ≤ ((ji7) : Int):=of_decide_eq_true (by first|(with_reducible assumption)|assumption));(have q106 : (ji7) < (l0.length : Int):=of_decide_eq_true (by first|(with_reducible assumption)|assumption));(obtain ⟨ad106,e106,hx106_0⟩:=Kd.at_int HR0.out (ji7) p106 q106);(obtain rfl : ad103 = ad106:=(by injection e106));(replace p106:=eq_true p106);(replace q106:=eq_true q106);(go_wp2)
           repeat (go_quiet (fail);try go_wp2)
           (go_ret2);(exact ⟨by first|rfl|(simp;done)|(simp only [← hji7] <;> (first|rfl|simp))|(simp [*];done),by repeat (first|exact Drawn0.refl _|apply Drawn0.step)⟩)
         ·(rw [if_neg c9] at H);(exact absurd H (by simp))
        ·(rw [if_neg c8] at H);(exact absurd H (by simp))
       ·(rw [if_neg c6] at H);(exact absurd H (by simp))
      ·(rw [if_neg c5] at H);(have c5b0 : decide (x5_1 < (l0.length : Int)) = false:=decide_eq_false c5);(clear c5);(simp only [Option.some.injEq,Prod.mk.injEq] at H);(obtain ⟨rfl,rfl⟩:=H);(go_wp2)
       repeat (go_quiet (fail);try go_wp2)
       (go_ret2);(exact ⟨by first|rfl|(simp;done)|(simp [*];done),by repeat (first|exact Drawn0.refl _|apply Drawn0.step)⟩)
   ·(rw [if_neg c4] at H);(exact absurd H (by simp))
  ·(rw [if_neg c3] at H);(exact absurd H (by simp))
end Go.Proofs.YtnfpchpnephheaaDoor.PA
end
