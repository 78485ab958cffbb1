/- Part 4 of the proof. -/
import Derived.Test.YtknbnnpggdegmaaDoorProg
import Derived.Test.YtknbnnpggdegmaaDoorZ03
import Derived.Test.YtknbnnpggdegmaaDoorZ01
import Derived.WalkSmall
import Derived.Lib.LaidTab
import Derived.Lib.ItoaNum
import Derived.Lib.AtoiAll
import Derived.Lib.Join
import Derived.DataReads
import Derived.DataElems
import Derived.ChangeOld
import Derived.Below
import Derived.Deep.Draws
import Derived.Deep.AppendLies
import Derived.Maps.AppendAt
import Derived.OwnWalk
import Derived.Laws.BytesArg
import Derived.Laws.MakeOwn
import Derived.Laws.OwnMore
import Derived.Deep.OwnRows
import Derived.Tactics
import Derived.Lib.ConvBytes
import Derived.Laws.Slices
import Derived.WalkKit
import Derived.KernelRfl
import Derived.RowKit3
import Derived.Deep.LoopGhost
import Derived.Deep.QuietTactic
import Derived.BigQuiet
import Derived.WideLaws
import Derived.Deep.DeepCutAuto
import Derived.Deep.CutBlock
import Derived.Deep.RegionHeld3
import Derived.Laws.Rows
import Derived.Lib.AppendStr
import Derived.ArgAppend
import Derived.Laws.IdiomCopy
import Derived.OrdersHeld
import Derived.Laws.BitsLemmas
import Derived.RowKit
import Derived.Test.YtknbnnpggdegmaaDoorZ02
import Derived.Lib.OwnBridge
section
namespace Go.Proofs.YtknbnnpggdegmaaDoor.Lib
open Go.RowKit Go.Proofs.YtknbnnpggdegmaaDoorW.PrintWords
set_option linter.unusedVariables false
set_option linter.unusedSimpArgs false
structure Glob (w : World) : Prop where mk ::
  tab : Go.Lib.TabIs Tryd.prog w "internal/strconv.uint64pow10" .u64 Go.Lib.pow10Tab
  syn : ∃ tp p, w.var? Tryd.prog "strconv.ErrSyntax" = some #[.iface tp p]
  ran : ∃ tp p, w.var? Tryd.prog "strconv.ErrRange" = some #[.iface tp p]
theorem g_tab : Tryd.prog.globalNamed "internal/strconv.uint64pow10" = some 0 := by kernel_rfl
theorem g_syn : Tryd.prog.globalNamed "strconv.ErrSyntax" = some 2 := by kernel_rfl
theorem g_ran : Tryd.prog.globalNamed "strconv.ErrRange" = some 3 := by kernel_rfl
theorem var_lt {w : World} {n : String} {g : Nat} {cs : Array Value} (hg : Tryd.prog.globalNamed n = some g) (hv : w.var? Tryd.prog n = some cs) : g < w.heap.size := by
  unfold World.var? at hv
  simp only [hg, Option.bind_some] at hv
  cases h : w.heap[g]? with
  | none => rw [h] at hv; cases hv
  | some o => exact (Array.getElem?_eq_some_iff.1 h).1
theorem Glob.below {w w' : World} (h : Glob w) (hb : Below w.heap.size w w') : Glob w' := by
  obtain ⟨h1, ⟨t2, p2, h2⟩, ⟨t3, p3, h3⟩⟩ := h
  exact ⟨var?_below hb g_tab (var_lt g_tab h1) h1, ⟨t2, p2, var?_below hb g_syn (var_lt g_syn h2) h2⟩, ⟨t3, p3, var?_below hb g_ran (var_lt g_ran h3) h3⟩⟩
theorem below_grow (w : World) (k : Nat) (os : Array Obj) : Below w.heap.size w (Go.Sort.grow (w.drewN k) os) :=
  ⟨rfl, rfl, rfl, by show w.heap.size ≤ (w.heap ++ os).size; rw [Array.size_append]; omega, fun j hj => by show (w.heap ++ os)[j]? = _; rw [Array.getElem?_append, if_pos hj]⟩
def strconv_Itoa.f (a0 : Int) : Option ByteArray := if -9223372036854775808 ≤ a0 ∧ a0 ≤ 9223372036854775807 then some ⟨(Go.Lib.itoa a0).toArray⟩ else none
theorem strconv_Itoa.calls (a0 : Int) (r : ByteArray) (w : World) (h : strconv_Itoa.f a0 = some r) (hG : Glob w) :
    Calls Tryd.prog 35 #[.int .i64 a0] w fun e w' => e = .returned (.string r) ∧ Below w.heap.size w w' := by
  unfold strconv_Itoa.f at h
  split at h
  · rename_i hb
    cases h
    refine (Tryd.strconv_Itoa a0 hb.1 hb.2 w hG.tab).mono ?_
    rintro e w' ⟨rfl, k, os, rfl⟩
    exact ⟨rfl, below_grow w k os⟩
  · cases h
def atoiVal (l : List UInt8) : Int := match Go.Lib.atoiAll l with | .ok v => v | .range => Go.Lib.atoiSat l | _ => 0
def atoiOk (l : List UInt8) : Bool := match Go.Lib.atoiAll l with | .ok _ => true | _ => false
theorem strconv_Atoi_any (s : ByteArray) (hs : s.size ≤ 281474976710656) (w : World) (hG : Glob w) :
    Calls Tryd.prog 51 #[.string s] w fun e w' => ∃ ev, e = .returned (.tuple #[.int .i64 (atoiVal s.data.toList), ev]) ∧ (atoiOk s.data.toList = true → ev = .nilIface) ∧ (atoiOk s.data.toList = false → ∃ t p, ev = .iface t (.pointer (some p))) ∧ Below w.heap.size w w' := by
  obtain ⟨_, ⟨t2, p2, h2⟩, ⟨t3, p3, h3⟩⟩ := hG
  unfold atoiVal atoiOk
  cases h : Go.Lib.atoiAll s.data.toList with
  | ok v =>
    refine (Tryd.strconv_Atoi_ok s (by omega) v h w).mono ?_
    rintro e w' ⟨rfl, hw⟩
    refine ⟨_, rfl, fun _ => rfl, fun h => by simp at h, ?_⟩
    rcases hw with rfl | ⟨t, rfl⟩
    · exact Below.refl _ _
    · exact bytes_below (Below.refl _ _) (Nat.le_refl _) _ _
  | range =>
    refine (Tryd.strconv_Atoi_range_var s hs h t3 p3 w h3).mono ?_
    rintro e w' ⟨N, rfl, _, _, hb⟩
    exact ⟨_, rfl, fun h => by simp at h, fun _ => ⟨_, _, rfl⟩, hb⟩
  | _ =>
    refine (Tryd.strconv_Atoi_syntax_var s hs h t2 p2 w h2).mono ?_
    rintro e w' ⟨N, rfl, _, _, hb⟩
    exact ⟨_, rfl, fun h => by simp at h, fun _ => ⟨_, _, rfl⟩, hb⟩
def strings_Join.f (l : List ByteArray) (s : ByteArray) : Option ByteArray :=
  if l.length ≤ 140737488355328 ∧ (Go.Lib.join (l.map (·.data.toList)) s.data.toList).length ≤ 140737488355328 then some ⟨(Go.Lib.join (l.map (·.data.toList)) s.data.toList).toArray⟩ else none
theorem strings_Join.calls (A0 : Option Addr) (c0 : Nat) (l0 : List ByteArray) (a1 : ByteArray) (r : ByteArray) (w : World) (hr0 : Kd.C Kd.string w A0 l0.length l0) (hc0 : l0.length ≤ c0) (h : strings_Join.f l0 a1 = some r) :
    Calls Tryd.prog 36 #[.slice A0 l0.length c0, .string a1] w fun e w' => e = .returned (.string r) ∧ Below w.heap.size w w' := by
  unfold strings_Join.f at h
  split at h
  · rename_i hb
    cases h
    cases l0 with
    | nil =>
      refine (Tryd.strings_Join_none A0 c0 a1 w).mono ?_
      rintro e w' ⟨rfl, rfl⟩
      exact ⟨rfl, Below.refl _ _⟩
    | cons x l =>
      obtain ⟨_, _, hc1⟩ := hr0
      obtain ⟨ad, rfl, hc⟩ := hc1 (by simp)
      clear hc1
      have hcell : ∀ (j : Nat) y, (x :: l)[j]? = some y → w.cell? (ad.add j) = some (.string y) := fun j y hj => by
        obtain ⟨c, hl, rfl, hcc⟩ := hc j y hj
        have := hcc 0 _ rfl
        rwa [show j * Kd.string.sz + 0 = j from by simp [Kd.string, Kd.scalar]] at this
      obtain ⟨bk, o, sp⟩ := ad
      have h0 := hcell 0 x rfl
      have hsp : sp = none := by
        cases sp with
        | none => rfl
        | some z => simp [Addr.add, World.cell?] at h0; split at h0 <;> simp at h0
      subst hsp
      have hbk : bk < w.heap.size := by have := World.block_lt_of_cell? w _ h0; simpa [Addr.add] using this
      exact Tryd.strings_Join bk o c0 (x :: l) a1 w (fun j y hj => by have := hcell j y hj; unfold Addr.add at this; split at this <;> simp_all) hbk hb.1 hc0 hb.2
  · cases h
end Go.Proofs.YtknbnnpggdegmaaDoor.Lib
end
section
namespace Go.Proofs.YtknbnnpggdegmaaDoor.Op
open Go.RowKit Go.Proofs.YtknbnnpggdegmaaDoorW.PrintWords Go.Proofs.YtknbnnpggdegmaaDoorW.PrintLast Go.Proofs.YtknbnnpggdegmaaDoorW.PrintMore
set_option linter.unusedVariables false
set_option linter.unusedSimpArgs false
def Opens {α : Type} (P : Program) (t : TypeId) (K : World → α → List Value → Prop) (G : α → Prop) : Prop :=
  ∀ (H : Type) (enc : TypeId × Value → H) (w : World) (fuel : Nat) (cs : List Value) (d : DataW H) (ps : List MemPlace), DataW.trod enc P w 0 (fun _ => true) true fuel t cs = some (d, ps) → ∃ x, K w x cs ∧ G x
theorem opens_int {P : Program} {t : TypeId} {k : IntKind} (hu : P.underlying t = some (.int k)) : Opens P t (Kd.int k).K (fun n => (Lit.int k n).wf = true) := by
  intro H enc w fuel cs d ps h
  cases fuel with
  | zero => simp [DataW.trod] at h
  | succ m =>
    unfold DataW.trod at h
    simp only [hu] at h
    split at h <;> first | cases h; done | skip
    all_goals first
      | (rename_i k' n h1; injection h1 with h1; injection h1 with h1; subst h1; by_cases hc : k' = k ∧ (Lit.int k n).wf = true
         · obtain ⟨rfl, hw⟩ := hc
           exact ⟨_, rfl, hw⟩
         · rw [if_neg hc] at h
           cases h)
      | (rename_i k' n; by_cases hc : k' = k ∧ (Lit.int k n).wf = true
         · obtain ⟨rfl, hw⟩ := hc
           exact ⟨_, rfl, hw⟩
         · rw [if_neg hc] at h
           cases h)
      | (rename_i h1; cases h1)
      | (rename_i h1 h2; cases h1)
      | cases h
theorem opens_bool {P : Program} {t : TypeId} (hu : P.underlying t = some .bool) : Opens P t Kd.bool.K (fun _ => True) := by
  intro H enc w fuel cs d ps h
  cases fuel with
  | zero => simp [DataW.trod] at h
  | succ m =>
    unfold DataW.trod at h
    simp only [hu] at h
    split at h <;> first | cases h; done | skip
    all_goals first
      | exact ⟨_, rfl, trivial⟩
      | (rename_i h1; cases h1)
      | (rename_i h1 h2; cases h1)
      | cases h
theorem choose_list {α : Type} (Pr : Nat → α → Prop) : ∀ (n : Nat), (∀ i, i < n → ∃ x, Pr i x) → ∃ xs : List α, xs.length = n ∧ ∀ j x, xs[j]? = some x → Pr j x
  | 0, _ => ⟨[], rfl, fun j x h => by simp at h⟩
  | n + 1, h => by
    obtain ⟨xs, hl, hx⟩ := choose_list Pr n (fun i hi => h i (by omega))
    obtain ⟨y, hy⟩ := h n (by omega)
    refine ⟨xs ++ [y], by simp [hl], fun j x hj => ?_⟩
    rcases Nat.lt_or_ge j n with hlt | hge
    · rw [List.getElem?_append_left (by omega)] at hj
      exact hx j x hj
    · rw [List.getElem?_append_right (by omega)] at hj
      obtain rfl : j = n := by
        have : j - xs.length < 1 := by
          have := (List.getElem?_eq_some_iff.1 hj).1
          simpa using this
        omega
      rw [hl, Nat.sub_self] at hj
      simp only [List.getElem?_cons_zero, Option.some.injEq] at hj
      subst hj
      exact hy
theorem opens_slice {α : Type} {P : Program} {t e : TypeId} {d : Kd α} {G : α → Prop} (q : Nat) (hu : P.underlying t = some (.slice e)) (hz : P.cellsOf e = d.sz) (hd : Opens P e d.K G) :
    Opens P t (Kd.slice q d).K (fun l => l.length ≤ maxLen ∧ ∀ x ∈ l, G x) := by
  intro H enc w fuel cs dd ps h
  cases fuel with
  | zero => simp [DataW.trod] at h
  | succ m =>
    unfold DataW.trod at h
    simp only [hu] at h
    split at h
    case h_7 => exact ⟨[], ⟨none, 0, rfl, Nat.le_refl _, ⟨rfl, Nat.zero_le _, fun h => absurd h (Nat.lt_irrefl _)⟩⟩, Nat.zero_le _, fun x hx => absurd hx List.not_mem_nil⟩
    case h_8 _ e' a len cap h1 =>
      injection h1 with h1
      injection h1 with h1
      subst h1
      split at h
      case isFalse => cases h
      case isTrue hc =>
        obtain ⟨hb, hlc, hcm⟩ := hc
        obtain ⟨elems, hm, h⟩ := Option.bind_eq_some_iff.1 h
        have hel : ∀ i, i < len → ∃ x, (G x ∧ ∃ c, c.length = d.sz ∧ d.K w x c ∧ ∀ i' u, c[i']? = some u → w.cell? (a.add (i * d.sz + i')) = some u) := by
          intro i hi
          have hg := mapM_some_get hm i i (by simp [hi])
          have hln : elems.length = (List.range len).length := mapM_some_length hm
          simp only [List.length_range] at hln
          rw [List.getElem?_eq_getElem (by omega)] at hg
          obtain ⟨c, hc1, hc2⟩ := Option.bind_eq_some_iff.1 hg
          obtain ⟨x, hx, hGx⟩ := hd H enc w m c _ _ hc2
          rw [hz] at hc1
          unfold World.cells? at hc1
          split at hc1
          case isFalse => cases hc1
          case isTrue =>
            have hcl : c.length = (List.range d.sz).length := mapM_some_length hc1
            simp only [List.length_range] at hcl
            refine ⟨x, hGx, c, hcl, hx, fun i' u hu' => ?_⟩
            have hlt := (List.getElem?_eq_some_iff.1 hu').1
            have hg' := mapM_some_get hc1 i' i' (show (List.range d.sz)[i']? = some i' from List.getElem?_range (by omega))
            rw [hu'] at hg'
            rw [← hg', show (a.add (i * d.sz)).add i' = a.add (i * d.sz + i') from Addr.add_add _ _ _]
        obtain ⟨xs, hxl, hxs⟩ := choose_list _ len hel
        subst hxl
        refine ⟨xs, ⟨some a, cap, rfl, hlc, ⟨rfl, Nat.le_trans hlc (Nat.le_trans hcm (by decide)), fun _ => ⟨a, rfl, fun j p hj => ?_⟩⟩⟩, Nat.le_trans hlc hcm, fun x hx => ?_⟩
        · obtain ⟨_, c, h1, h2, h3⟩ := hxs j p hj
          exact ⟨c, h1, h2, h3⟩
        · obtain ⟨j, hj⟩ := List.getElem?_of_mem hx
          exact (hxs j x hj).1
    all_goals first | cases h; done | (rename_i h1 h2; cases h1; done) | (rename_i h1; cases h1; done) | skip
def OpensF {α : Type} (P : Program) (off sz : Nat) (fs : List Field) (K : World → α → List Value → Prop) (G : α → Prop) : Prop :=
  ∀ (H : Type) (enc : TypeId × Value → H) (w : World) (fuel : Nat) (cs : List Value) (xs : List (DataW H × List MemPlace)), cs.length = off + sz →
    fs.mapM (fun f => DataW.trod enc P w 0 (fun _ => true) true fuel f.type ((cs.drop f.offset).take (P.cellsOf f.type))) = some xs → ∃ x, K w x (cs.drop off) ∧ G x
theorem opensF_one {α : Type} {P : Program} {off sz : Nat} {f : Field} {K : World → α → List Value → Prop} {G : α → Prop} (t : TypeId) (ht : f.type = t) (ho : f.offset = off) (hz : P.cellsOf t = sz) (hd : Opens P t K G) : OpensF P off sz [f] K G := by
  intro H enc w fuel cs xs hl h
  subst ht
  rw [List.mapM_cons] at h
  obtain ⟨x, hx, h⟩ := Option.bind_eq_some_iff.1 h
  rw [ho, hz, List.take_of_length_le (by simp; omega)] at hx
  exact hd H enc w fuel _ x.1 x.2 hx
theorem opensF_cons {α β : Type} {P : Program} {off : Nat} {f : Field} {fs : List Field} {a : Kd α} {b : Kd β} {Ga : α → Prop} {Gb : β → Prop} (t : TypeId) (ht : f.type = t) (ho : f.offset = off) (hz : P.cellsOf t = a.sz) (hd : Opens P t a.K Ga)
    (hr : OpensF P (off + a.sz) b.sz fs b.K Gb) : OpensF P off (a.sz + b.sz) (f :: fs) (Kd.pair a b).K (fun x => Ga x.1 ∧ Gb x.2) := by
  intro H enc w fuel cs xs hl h
  subst ht
  rw [List.mapM_cons] at h
  obtain ⟨x, hx, h⟩ := Option.bind_eq_some_iff.1 h
  obtain ⟨ys, hy, _⟩ := Option.bind_eq_some_iff.1 h
  rw [ho, hz] at hx
  obtain ⟨u, hu, gu⟩ := hd H enc w fuel _ x.1 x.2 hx
  obtain ⟨v, hv, gv⟩ := hr H enc w fuel cs ys (by omega) hy
  refine ⟨(u, v), ⟨_, _, ?_, hu, hv⟩, gu, gv⟩
  rw [← List.drop_drop, List.take_append_drop]
theorem opens_struct {α : Type} {P : Program} {t : TypeId} {fs : Array Field} {sz : Nat} {K : World → α → List Value → Prop} {G : α → Prop} (hu : P.underlying t = some (.struct fs)) (hz : P.cellsOf t = sz) (hf : OpensF P 0 sz fs.toList K G) : Opens P t K G := by
  intro H enc w fuel cs d ps h
  cases fuel with
  | zero => simp [DataW.trod] at h
  | succ m =>
    unfold DataW.trod at h
    simp only [hu] at h
    split at h
    case isFalse => cases h
    case isTrue hl =>
      obtain ⟨xs, hx, _⟩ := Option.map_eq_some_iff.1 h
      obtain ⟨x, hk, hg⟩ := hf H enc w m cs xs (by omega) hx
      exact ⟨x, by simpa using hk, hg⟩
theorem opens_iso {α β : Type} {P : Program} {t : TypeId} {d : Kd α} {G : α → Prop} (f : β → α) (g : α → β) (hfg : ∀ x, f (g x) = x) (h : Opens P t d.K G) : Opens P t (Kd.iso d f).K (fun y => G (f y)) := by
  intro H enc w fuel cs dd ps hh
  obtain ⟨x, hx, gx⟩ := h H enc w fuel cs dd ps hh
  exact ⟨g x, by show d.K w (f (g x)) cs; rw [hfg]; exact hx, by show G (f (g x)); rw [hfg]; exact gx⟩
theorem opens_arg {α : Type} {P : Program} {t : TypeId} {K : World → α → List Value → Prop} {G : α → Prop} (h : Opens P t K G) {H : Type} {enc : TypeId × Value → H} {w : World} {v : Value} {d : DataW H} {ps : List MemPlace} (ht : DataW.Trod enc P w 0 (fun _ => true) true t v d ps) :
    ∃ x, K w x v.cells.toList ∧ G x := by
  obtain ⟨fuel, hf⟩ := ht
  exact h H enc w fuel _ d ps hf
theorem trod_lt {H : Type} {enc : TypeId × Value → H} {P : Program} {w : World} {t : TypeId} {v : Value} {d : DataW H} {ps : List MemPlace} (ht : DataW.Trod enc P w 0 (fun _ => true) true t v d ps) : ∀ x ∈ ps, x.block < w.heap.size := by
  obtain ⟨m, hm⟩ := ht
  exact DataW.trod_lt m _ _ _ hm
end Go.Proofs.YtknbnnpggdegmaaDoor.Op
end
section
namespace Go.Proofs.YtknbnnpggdegmaaDoor.PD
open Go.RowKit Go.Proofs.YtknbnnpggdegmaaDoor.Lib Go.Proofs.YtknbnnpggdegmaaDoorW.PrintWords Go.Proofs.YtknbnnpggdegmaaDoorW.PrintLast Go.Proofs.YtknbnnpggdegmaaDoorW.PrintMore
attribute [local go_sem] max2_int min2_int max_two min_two max_three min_three max_four min_four   
set_option linter.unusedVariables false
set_option linter.unusedSimpArgs false
def errW : Option Int → Value
 | none => .nilIface
 | some c => .iface 0 (.int .i64 c)
theorem errW_none : errW none = .nilIface:=rfl
theorem errW_some (c : Int) : errW (some c) = .iface 0 (.int .i64 c):=rfl
theorem info3 : (Tryd.prog.info? 3).map (fun i => (i.zero,i.size,i.bytes)) = some (some (.int .i64 0),1,8):=by kernel_rfl
theorem info9 : (Tryd.prog.info? 9).map (fun i => (i.zero,i.size,i.bytes)) = some (some (.string ⟨#[]⟩),1,16):=by kernel_rfl
theorem info46 : (Tryd.prog.info? 46).map (fun i => (i.zero,i.size,i.bytes)) = some (some (.agg #[(.int .i64 0),(.slice none 0 0)]),2,32):=by kernel_rfl
theorem info52 : (Tryd.prog.info? 52).map (fun i => (i.zero,i.size,i.bytes)) = some (some (.agg #[(.int .i64 0),(.slice none 0 0)]),2,32):=by kernel_rfl
structure S52 where
 f0 : Int
 f1 : (List Int)
def z52 : S52 := ⟨(0 : Int), ([] : List Int)⟩
def k52 : Kd S52 := Kd.iso (Kd.pair (Kd.int .i64) (Kd.slice 3 (Kd.int .i64))) (fun x : S52 => (x.f0, x.f1))
theorem k52_open {w : World} {x : S52} {cs : List Value} (h : k52.K w x cs) : ∃ A1 c1,cs = [.int .i64 x.f0,.slice A1 x.f1.length c1]∧x.f1.length ≤ c1∧(Kd.int .i64).C w A1 x.f1.length x.f1:=by
 (obtain ⟨_,_,rfl,rfl,⟨A1,c1,rfl,l1,g1⟩⟩:=h);(exact ⟨A1,c1,rfl,l1,g1⟩)
theorem k52_mk (w : World) (x : S52) {A1 : Option Addr} {c1 : Nat} (l1 : x.f1.length ≤ c1) (g1 : (Kd.int .i64).C w A1 x.f1.length x.f1) : k52.K w x [.int .i64 x.f0,.slice A1 x.f1.length c1]:=⟨[.int .i64 x.f0],[.slice A1 x.f1.length c1],rfl,rfl,⟨A1,c1,rfl,l1,g1⟩⟩
theorem k52_mkM (w : World) (base : Nat) (ok : Nat → Prop) (x : S52) {v1 : Value} (g1 : (Kd.int .i64).R 3 w base ok v1 x.f1) : k52.M w base ok x [.int .i64 x.f0,v1]:=⟨[.int .i64 x.f0],[v1],rfl,rfl,⟨v1,rfl,g1⟩⟩
theorem k52_mkF (W : World) (ok : Nat → Prop) (x : S52) {A1 : Option Addr} {c1 : Nat} (l1 : x.f1.length ≤ c1) (g1 : Kd.F (Kd.int .i64) W ok A1 x.f1.length x.f1) : Kd.FK k52 W ok x [.int .i64 x.f0,.slice A1 x.f1.length c1]:=fun W2 hW => k52_mk W2 x l1 (g1 W2 hW)
def rd_T52 (xs : List S52) (i : Int) : S52 := xs.getD i.toNat z52
theorem at_T52 {w : World} {A : Option Addr} {n : Nat} {xs : List S52} (h : Kd.C k52 w A n xs) (i : Int) (h0 : 0 ≤ i) (h1 : i < n) : ∃ ad A1 c1,A = some ad∧w.cell? (ad.add (i.toNat * 2)) = some (.int .i64 (rd_T52 xs i).f0)∧w.cell? ⟨(ad.add (i.toNat * 2)).block,(ad.add (i.toNat * 2)).off + 1,none⟩ = some (.slice A1 (rd_T52 xs i).f1.length c1)∧(rd_T52 xs i).f1.length ≤ c1∧(Kd.int .i64).C w A1 (rd_T52 xs i).f1.length (rd_T52 xs i).f1:=by
 (obtain ⟨ad,c,e,_,hK,hc0⟩:=Kd.C_get h z52 i h0 h1);(have hc : ∀ j u,c[j]? = some u → w.cell? (ad.add (i.toNat * 2 + j)) = some u:=hc0);(obtain ⟨A1,c1,rfl,l1,g1⟩:=k52_open hK);(exact ⟨ad,A1,c1,e,hc 0 _ rfl,by rw [← add_field _ _ 1 (by omega)];exact hc 1 _ rfl,l1,g1⟩)
structure S46 where
 f0 : Int
 f1 : (List Int)
def z46 : S46 := ⟨(0 : Int), ([] : List Int)⟩
def k46 : Kd S46 := Kd.iso (Kd.pair (Kd.int .i64) (Kd.slice 3 (Kd.int .i64))) (fun x : S46 => (x.f0, x.f1))
theorem k46_open {w : World} {x : S46} {cs : List Value} (h : k46.K w x cs) : ∃ A1 c1,cs = [.int .i64 x.f0,.slice A1 x.f1.length c1]∧x.f1.length ≤ c1∧(Kd.int .i64).C w A1 x.f1.length x.f1:=by
 (obtain ⟨_,_,rfl,rfl,⟨A1,c1,rfl,l1,g1⟩⟩:=h);(exact ⟨A1,c1,rfl,l1,g1⟩)
theorem k46_openF {W : World} {ok : Nat → Prop} {x : S46} {cs : List Value} (h : Kd.FK k46 W ok x cs) : ∃ A1 c1,cs = [.int .i64 x.f0,.slice A1 x.f1.length c1]∧x.f1.length ≤ c1∧Kd.F (Kd.int .i64) W ok A1 x.f1.length x.f1:=by
 (obtain ⟨A1,c1,rfl,l1,_⟩:=k46_open (Kd.FK_now h));(exact ⟨A1,c1,rfl,l1,(fun W' hW => by obtain ⟨A1_,c1_,he,l1_,g1_⟩:=k46_open (h W' hW);injection (Option.some.inj (show some (Value.slice A1 x.f1.length c1) = some (Value.slice A1_ x.f1.length c1_) from congrArg (fun l => l[1]?) he)) with ha_ _ _;rw [ha_];exact g1_)⟩)
def rd_T46 (xs : List S46) (i : Int) : S46 := xs.getD i.toNat z46
theorem at_T46 {w : World} {A : Option Addr} {n : Nat} {xs : List S46} (h : Kd.C k46 w A n xs) (i : Int) (h0 : 0 ≤ i) (h1 : i < n) : ∃ ad A1 c1,A = some ad∧w.cell? (ad.add (i.toNat * 2)) = some (.int .i64 (rd_T46 xs i).f0)∧w.cell? ⟨(ad.add (i.toNat * 2)).block,(ad.add (i.toNat * 2)).off + 1,none⟩ = some (.slice A1 (rd_T46 xs i).f1.length c1)∧(rd_T46 xs i).f1.length ≤ c1∧(Kd.int .i64).C w A1 (rd_T46 xs i).f1.length (rd_T46 xs i).f1:=by
 (obtain ⟨ad,c,e,_,hK,hc0⟩:=Kd.C_get h z46 i h0 h1);(have hc : ∀ j u,c[j]? = some u → w.cell? (ad.add (i.toNat * 2 + j)) = some u:=hc0);(obtain ⟨A1,c1,rfl,l1,g1⟩:=k46_open hK);(exact ⟨ad,A1,c1,e,hc 0 _ rfl,by rw [← add_field _ _ 1 (by omega)];exact hc 1 _ rfl,l1,g1⟩)
structure S48 where
 f0 : Int
 f1 : Int
structure S24 where
 f0 : Bool
 f1 : (List S46)
def z24 : S24 := ⟨false, ([] : List S46)⟩
def k24 : Kd S24 := Kd.iso (Kd.pair Kd.bool (Kd.slice 46 k46)) (fun x : S24 => (x.f0, x.f1))
theorem k24_open {w : World} {x : S24} {cs : List Value} (h : k24.K w x cs) : ∃ A1 c1,cs = [.bool x.f0,.slice A1 x.f1.length c1]∧x.f1.length ≤ c1∧k46.C w A1 x.f1.length x.f1:=by
 (obtain ⟨_,_,rfl,rfl,⟨A1,c1,rfl,l1,g1⟩⟩:=h);(exact ⟨A1,c1,rfl,l1,g1⟩)
theorem k24_mk (w : World) (x : S24) {A1 : Option Addr} {c1 : Nat} (l1 : x.f1.length ≤ c1) (g1 : k46.C w A1 x.f1.length x.f1) : k24.K w x [.bool x.f0,.slice A1 x.f1.length c1]:=⟨[.bool x.f0],[.slice A1 x.f1.length c1],rfl,rfl,⟨A1,c1,rfl,l1,g1⟩⟩
structure S62 where
 f0 : Int
 f1 : S24
def z62 : S62 := ⟨(0 : Int), z24⟩
def k62 : Kd S62 := Kd.iso (Kd.pair (Kd.int .i64) k24) (fun x : S62 => (x.f0, x.f1))
theorem k62_open {w : World} {x : S62} {cs : List Value} (h : k62.K w x cs) : ∃ A2 c2,cs = [.int .i64 x.f0,.bool x.f1.f0,.slice A2 x.f1.f1.length c2]∧x.f1.f1.length ≤ c2∧k46.C w A2 x.f1.f1.length x.f1.f1:=by
 (obtain ⟨_,_,rfl,rfl,s1⟩:=h);(obtain ⟨A2,c2,rfl,l2,g2⟩:=k24_open s1);(exact ⟨A2,c2,rfl,l2,g2⟩)
theorem k62_mk (w : World) (x : S62) {A2 : Option Addr} {c2 : Nat} (l2 : x.f1.f1.length ≤ c2) (g2 : k46.C w A2 x.f1.f1.length x.f1.f1) : k62.K w x [.int .i64 x.f0,.bool x.f1.f0,.slice A2 x.f1.f1.length c2]:=⟨[.int .i64 x.f0],[.bool x.f1.f0,.slice A2 x.f1.f1.length c2],rfl,rfl,(k24_mk w x.f1 l2 g2)⟩
def rd_T62 (xs : List S62) (i : Int) : S62 := xs.getD i.toNat z62
theorem at_T62 {w : World} {A : Option Addr} {n : Nat} {xs : List S62} (h : Kd.C k62 w A n xs) (i : Int) (h0 : 0 ≤ i) (h1 : i < n) : ∃ ad A2 c2,A = some ad∧w.cell? (ad.add (i.toNat * 3)) = some (.int .i64 (rd_T62 xs i).f0)∧w.cell? ⟨(ad.add (i.toNat * 3)).block,(ad.add (i.toNat * 3)).off + 1,none⟩ = some (.bool (rd_T62 xs i).f1.f0)∧w.cell? ⟨(ad.add (i.toNat * 3)).block,(ad.add (i.toNat * 3)).off + 2,none⟩ = some (.slice A2 (rd_T62 xs i).f1.f1.length c2)∧(rd_T62 xs i).f1.f1.length ≤ c2∧k46.C w A2 (rd_T62 xs i).f1.f1.length (rd_T62 xs i).f1.f1:=by
 (obtain ⟨ad,c,e,_,hK,hc0⟩:=Kd.C_get h z62 i h0 h1);(have hc : ∀ j u,c[j]? = some u → w.cell? (ad.add (i.toNat * 3 + j)) = some u:=hc0);(obtain ⟨A2,c2,rfl,l2,g2⟩:=k62_open hK);(exact ⟨ad,A2,c2,e,hc 0 _ rfl,by rw [← add_field _ _ 1 (by omega)];exact hc 1 _ rfl,by rw [← add_field _ _ 2 (by omega)];exact hc 2 _ rfl,l2,g2⟩)
end Go.Proofs.YtknbnnpggdegmaaDoor.PD
end
section
namespace Go.Proofs.YtknbnnpggdegmaaDoor.PD
open Go.RowKit Go.Proofs.YtknbnnpggdegmaaDoor.Lib Go.Proofs.YtknbnnpggdegmaaDoorW.PrintWords Go.Proofs.YtknbnnpggdegmaaDoorW.PrintLast Go.Proofs.YtknbnnpggdegmaaDoorW.PrintMore
attribute [local go_sem] max2_int min2_int max_two min_two max_three min_three max_four min_four   
set_option linter.unusedVariables false
set_option linter.unusedSimpArgs false
def dep_Ended.f (a0 : Int) : Option (Bool) := if a0 ≥ 3 then (some (decide (a0 ≤ 6))) else (some false)
set_option maxHeartbeats 8000000 in
set_option maxRecDepth 100000 in
theorem dep_Ended.calls (a0 : Int) (r : Bool) (w : World) (h : dep_Ended.f a0 = some r) :
  Calls Tryd.prog 23 #[.int .i64 a0] w fun e w' => e = .returned (.bool r)∧Drawn0 w w':=by
 (have H : (if a0 ≥ 3 then (some (decide (a0 ≤ 6))) else (some false)) = some r:=h);(clear h);(by_cases c2 : a0 ≥ 3);·(rw [if_pos c2] at H);(have c2b0 : decide (3 ≤ a0) = true:=decide_eq_true c2);(clear c2);(obtain rfl:=Option.some.inj H);(go_enter Tryd.func23,Tryd.ntmps23);(go_wp2);(go_ret);(exact ⟨by first|rfl|(simp;done)|(simp [*];done),by repeat (first|exact Drawn0.refl _|apply Drawn0.step)⟩)
 ·(rw [if_neg c2] at H);(have c2b0 : decide (3 ≤ a0) = false:=decide_eq_false c2);(clear c2);(obtain rfl:=Option.some.inj H);(go_enter Tryd.func23,Tryd.ntmps23);(go_wp2);(go_ret);(exact ⟨by first|rfl|(simp;done)|(simp [*];done),by repeat (first|exact Drawn0.refl _|apply Drawn0.step)⟩)
def dep_One.j0 : Nat → Int → Bool → Option (Int)
 | 0, _, _ => none
 | k + 1, x1, x5 => if x5 = true then (some 1) else ((dep_Ended.f x1).bind fun t193 => (if t193 = true then (some 2) else (if x1 = 7 then (some 2) else (some 0))))
def dep_One.f (k : Nat) (a0 : Int) (a1 : Int) : Option (Int) := if a0 = 1 then (if a1 = 2 then (dep_One.j0 k a1 true) else ((dep_Ended.f a1).bind fun t191 => (dep_One.j0 k a1 t191))) else (if a0 = 2 then (dep_One.j0 k a1 (a1 == 3)) else (if a0 = 3 then (if a1 = 4 then (dep_One.j0 k a1 true) else (dep_One.j0 k a1 (a1 == 6))) else (if a0 = 4 then ((dep_Ended.f a1).bind fun t192 => (dep_One.j0 k a1 t192)) else (some 0))))
theorem dep_One.mono_l : ∀ k,(∀ y0 y1,LeO (dep_One.j0 k y0 y1) (dep_One.j0 (k + 1) y0 y1))
|0 => fun _ _ r h => by simp [dep_One.j0] at h
|k + 1 => by
  have ih0:=dep_One.mono_l k
  ·intro y0 y1
   unfold dep_One.j0
   repeat' first
  |(with_reducible exact ih0 _ _)
  |(with_reducible exact LeO.refl _)
  |(with_reducible exact LeO.none _)
  |(with_reducible refine LeO.ite ?_ ?_)
  |(with_reducible refine LeO.bind ?_ (fun _ => ?_))
  |exact ih0 _ _
  |exact LeO.none _
  |refine LeO.ite ?_ ?_
  |refine LeO.bind ?_ (fun _ => ?_)
theorem dep_One.mono : ∀ a0 a1 k,LeO (dep_One.f k a0 a1) (dep_One.f (k + 1) a0 a1):=by
 (intro a0 a1 k);(have ih0:=dep_One.mono_l k);(unfold dep_One.f)
 repeat' first
  |(with_reducible exact ih0 _ _)
  |(with_reducible exact LeO.refl _)
  |(with_reducible exact LeO.none _)
  |(with_reducible refine LeO.ite ?_ ?_)
  |(with_reducible refine LeO.bind ?_ (fun _ => ?_))
  |exact ih0 _ _
  |exact LeO.none _
  |refine LeO.ite ?_ ?_
  |refine LeO.bind ?_ (fun _ => ?_)
set_option maxHeartbeats 8000000 in
set_option maxRecDepth 100000 in
theorem dep_One.calls (k : Nat) (a0 : Int) (a1 : Int) (r : Int) (w : World) (h : dep_One.f k a0 a1 = some r) :
  Calls Tryd.prog 24 #[.int .i64 a0,.int .i64 a1] w fun e w' => e = .returned (.int .i64 r)∧Drawn0 w w':=by
 (have H : (if a0 = 1 then (if a1 = 2 then (dep_One.j0 k a1 true) else ((dep_Ended.f a1).bind fun t191 => (dep_One.j0 k a1 t191))) else (if a0 = 2 then (dep_One.j0 k a1 (a1 == 3)) else (if a0 = 3 then (if a1 = 4 then (dep_One.j0 k a1 true) else (dep_One.j0 k a1 (a1 == 6))) else (if a0 = 4 then ((dep_Ended.f a1).bind fun t192 => (dep_One.j0 k a1 t192)) else (some 0))))) = some r:=h);(clear h);(have HC3:=Aside0.mk H);(clear H);(go_enter Tryd.func24,Tryd.ntmps24);(go_upto_block 0 with (fail));(go_cut [5] (fun v5 wc => ∃ (kq : Nat) (x5_2 : Bool),v5 = .bool x5_2∧Aside0 (dep_One.j0 kq a1 x5_2 = some r)∧Aside0 (kq ≤ k)∧Drawn0 w wc))
 case first =>
  (have H:=HC3.out);(clear HC3);(by_cases c4 : a0 = 1)
  ·(rw [if_pos c4] at H);(have c4b0 : (a0 == 1) = true:=beq_iff_eq.mpr c4);(have c4b1 : (a0 != 1) = false:=bne_eq_false_iff_eq.mpr c4);(clear c4);((first|rw [c4b0]|(simp only [i64_w,i32_w];rw [c4b0])|skip));(by_cases c5 : a1 = 2)
   ·(rw [if_pos c5] at H);(have c5b0 : (a1 == 2) = true:=beq_iff_eq.mpr c5);(have c5b1 : (a1 != 2) = false:=bne_eq_false_iff_eq.mpr c5);(clear c5);(have H':=Aside0.mk H);(clear H);(go_wp2);(go_meet)
    case rel => exact ⟨_,(true),(by first|rfl|(simp;done)|(simp [*];done)),H',⟨by first|omega|exact Nat.le_refl _⟩,by repeat (first|exact Drawn0.refl _|apply Drawn0.step)⟩
   ·(rw [if_neg c5] at H);(have c5b0 : (a1 == 2) = false:=beq_eq_false_iff_ne.mpr c5);(have c5b1 : (a1 != 2) = true:=bne_iff_ne.mpr c5);(replace H:=Option.bind_eq_some_iff.mp H);(obtain ⟨t191,A60,H⟩:=H);(replace H : (dep_One.j0 k a1 t191) = some r:=H);(have A6:=Aside0.mk A60);(clear A60);(have H':=Aside0.mk H);(clear H);(go_wp2_with (first|(go_at_call 23;(with_reducible refine (dep_Ended.calls a1 t191 _ A6.out).mono ?_);rintro e w' ⟨rfl,⟨nd,rfl⟩⟩)));(go_meet)
    case rel => exact ⟨_,(t191),(by first|rfl|(simp;done)|(simp [*];done)),H',⟨by first|omega|exact Nat.le_refl _⟩,by repeat (first|exact Drawn0.refl _|apply Drawn0.step)⟩
  ·(rw [if_neg c4] at H);(have c4b0 : (a0 == 1) = false:=beq_eq_false_iff_ne.mpr c4);(have c4b1 : (a0 != 1) = true:=bne_iff_ne.mpr c4);((first|rw [c4b0]|(simp only [i64_w,i32_w];rw [c4b0])|skip));(by_cases c7 : a0 = 2)
   ·(rw [if_pos c7] at H);(have c7b0 : (a0 == 2) = true:=beq_iff_eq.mpr c7);(have c7b1 : (a0 != 2) = false:=bne_eq_false_iff_eq.mpr c7);(clear c7);(have H':=Aside0.mk H);(clear H);(go_wp2);(go_meet)
    case rel => exact ⟨_,((a1 == 3)),(by first|rfl|(simp;done)|(simp [*];done)),H',⟨by first|omega|exact Nat.le_refl _⟩,by repeat (first|exact Drawn0.refl _|apply Drawn0.step)⟩
   ·(rw [if_neg c7] at H);(have c7b0 : (a0 == 2) = false:=beq_eq_false_iff_ne.mpr c7);(have c7b1 : (a0 != 2) = true:=bne_iff_ne.mpr c7);(by_cases c8 : a0 = 3)
    ·(rw [if_pos c8] at H);(have c8b0 : (a0 == 3) = true:=beq_iff_eq.mpr c8);(have c8b1 : (a0 != 3) = false:=bne_eq_false_iff_eq.mpr c8);(clear c8);(by_cases c9 : a1 = 4)
     ·(rw [if_pos c9] at H);(have c9b0 : (a1 == 4) = true:=beq_iff_eq.mpr c9);(have c9b1 : (a1 != 4) = false:=bne_eq_false_iff_eq.mpr c9);(clear c9);(have H':=Aside0.mk H);(clear H);(go_wp2);(go_meet)
      case rel => exact ⟨_,(true),(by first|rfl|(simp;done)|(simp [*];done)),H',⟨by first|omega|exact Nat.le_refl _⟩,by repeat (first|exact Drawn0.refl _|apply Drawn0.step)⟩
     ·(rw [if_neg c9] at H);(have c9b0 : (a1 == 4) = false:=beq_eq_false_iff_ne.mpr c9);(have c9b1 : (a1 != 4) = true:=bne_iff_ne.mpr c9);(have H':=Aside0.mk H);(clear H);(go_wp2);(go_meet)
      case rel => exact ⟨_,((a1 == 6)),(by first|rfl|(simp;done)|(simp [*];done)),H',⟨by first|omega|exact Nat.le_refl _⟩,by repeat (first|exact Drawn0.refl _|apply Drawn0.step)⟩
    ·(rw [if_neg c8] at H);(have c8b0 : (a0 == 3) = false:=beq_eq_false_iff_ne.mpr c8);(have c8b1 : (a0 != 3) = true:=bne_iff_ne.mpr c8);(by_cases c10 : a0 = 4)
     ·(rw [if_pos c10] at H);(have c10b0 : (a0 == 4) = true:=beq_iff_eq.mpr c10);(have c10b1 : (a0 != 4) = false:=bne_eq_false_iff_eq.mpr c10);(clear c10);(replace H:=Option.bind_eq_some_iff.mp H);(obtain ⟨t192,A110,H⟩:=H);(replace H : (dep_One.j0 k a1 t192) = some r:=H);(have A11:=Aside0.mk A110);(clear A110);(have H':=Aside0.mk H);(clear H);(go_wp2_with (first|((with_reducible refine gate_callee (f:=23) rfl ?_);refine goesL_ (some 30) rfl rfl Tryd.func23 (by kernel_rfl) rfl #[.int .i64 a1] rfl (by (try simp only [List.map_toArray,List.map_cons,List.map_nil]);first|done|rfl|(simp only [List.length_drop,List.length_take];rfl)) ?_;(with_reducible refine (dep_Ended.calls a1 t192 _ A11.out).mono ?_);rintro e w' ⟨rfl,⟨nd,rfl⟩⟩;refine ⟨_,rfl,?_⟩)));(go_meet)
      case rel => exact ⟨_,(t192),(by first|rfl|(simp;done)|(simp [*];done)),H',⟨by first|omega|exact Nat.le_refl _⟩,by repeat (first|exact Drawn0.refl _|apply Drawn0.step)⟩
     ·(rw [if_neg c10] at H);(have c10b0 : (a0 == 4) = false:=beq_eq_false_iff_ne.mpr c10);(have c10b1 : (a0 != 4) = true:=bne_iff_ne.mpr c10);(obtain rfl:=Option.some.inj H);(go_wp2);(go_ret);(exact ⟨by first|rfl|(simp;done)|(simp [*];done),by repeat (first|exact Drawn0.refl _|apply Drawn0.step)⟩)
 case rest =>
  (clear HC3);(try clear c1);(try clear c2);(try clear p2);(try clear c4);(try clear c4b0);(try clear c4b1);(try clear c5);(try clear c5b0);(try clear c5b1);(try clear c7);(try clear c7b0);(try clear c7b1);(try clear c8);(try clear c8b0);(try clear c8b1);(try clear c9);(try clear c9b0);(try clear c9b1);(try clear c10);(try clear c10b0);(try clear c10b1);(obtain ⟨kq,x5_2,rfl,HA,HJ2,⟨mc2,rfl⟩⟩:=hcut)
  cases kq with
 |zero => exact absurd HA.out (by simp [dep_One.j0])
 |succ kj2 =>
   (have H:=HA.out);(clear HA);(simp only [dep_One.j0] at H);(by_cases c12 : x5_2 = true);·(subst c12);(have H1 : (some 1) = some r:=by rw [if_pos rfl] at H;exact H);(clear H);(have H:=H1);(clear H1);(obtain rfl:=Option.some.inj H);(go_wp2);(go_ret);(exact ⟨by first|rfl|(simp;done)|(simp [*];done),by repeat (first|exact Drawn0.refl _|apply Drawn0.step)⟩)
   ·(replace c12:=Bool.eq_false_iff.mpr c12);(subst c12);(have H1 : ((dep_Ended.f a1).bind fun t193 => (if t193 = true then (some 2) else (if a1 = 7 then (some 2) else (some 0)))) = some r:=by rw [if_neg (show ¬ (false = true) by decide)] at H;exact H);(clear H);(have H:=H1);(clear H1);(replace H:=Option.bind_eq_some_iff.mp H);(obtain ⟨t193,A130,H⟩:=H);(replace H : (if t193 = true then (some 2) else (if a1 = 7 then (some 2) else (some 0))) = some r:=H);(have A13:=Aside0.mk A130);(clear A130);(by_cases c14 : t193 = true)
    ·(subst c14);(have H1 : (some 2) = some r:=by rw [if_pos rfl] at H;exact H);(clear H);(have H:=H1);(clear H1);(obtain rfl:=Option.some.inj H);(go_wp2_with (first|((with_reducible refine gate_callee (f:=23) rfl ?_);refine goesL_ (some 33) rfl rfl Tryd.func23 (by kernel_rfl) rfl #[.int .i64 a1] rfl (by (try simp only [List.map_toArray,List.map_cons,List.map_nil]);first|done|rfl|(simp only [List.length_drop,List.length_take];rfl)) ?_;(with_reducible refine (dep_Ended.calls a1 true _ A13.out).mono ?_);rintro e w' ⟨rfl,⟨nd,rfl⟩⟩;refine ⟨_,rfl,?_⟩)));(go_ret);(exact ⟨by first|rfl|(simp;done)|(simp [*];done),by repeat (first|exact Drawn0.refl _|apply Drawn0.step)⟩)
    ·(replace c14:=Bool.eq_false_iff.mpr c14);(subst c14);(have H1 : (if a1 = 7 then (some 2) else (some 0)) = some r:=by rw [if_neg (show ¬ (false = true) by decide)] at H;exact H);(clear H);(have H:=H1);(clear H1);(by_cases c15 : a1 = 7)
     ·(rw [if_pos c15] at H);(have c15b0 : (a1 == 7) = true:=beq_iff_eq.mpr c15);(have c15b1 : (a1 != 7) = false:=bne_eq_false_iff_eq.mpr c15);(clear c15);(obtain rfl:=Option.some.inj H);(go_wp2_with (first|((with_reducible refine gate_callee (f:=23) rfl ?_);refine goesL_ (some 33) rfl rfl Tryd.func23 (by kernel_rfl) rfl #[.int .i64 a1] rfl (by (try simp only [List.map_toArray,List.map_cons,List.map_nil]);first|done|rfl|(simp only [List.length_drop,List.length_take];rfl)) ?_;(with_reducible refine (dep_Ended.calls a1 false _ A13.out).mono ?_);rintro e w' ⟨rfl,⟨nd,rfl⟩⟩;refine ⟨_,rfl,?_⟩)));(go_ret);(exact ⟨by first|rfl|(simp;done)|(simp [*];done),by repeat (first|exact Drawn0.refl _|apply Drawn0.step)⟩)
     ·(rw [if_neg c15] at H);(have c15b0 : (a1 == 7) = false:=beq_eq_false_iff_ne.mpr c15);(have c15b1 : (a1 != 7) = true:=bne_iff_ne.mpr c15);(obtain rfl:=Option.some.inj H);(go_wp2_with (first|((with_reducible refine gate_callee (f:=23) rfl ?_);refine goesL_ (some 33) rfl rfl Tryd.func23 (by kernel_rfl) rfl #[.int .i64 a1] rfl (by (try simp only [List.map_toArray,List.map_cons,List.map_nil]);first|done|rfl|(simp only [List.length_drop,List.length_take];rfl)) ?_;(with_reducible refine (dep_Ended.calls a1 false _ A13.out).mono ?_);rintro e w' ⟨rfl,⟨nd,rfl⟩⟩;refine ⟨_,rfl,?_⟩)));(go_ret);(exact ⟨by first|rfl|(simp;done)|(simp [*];done),by repeat (first|exact Drawn0.refl _|apply Drawn0.step)⟩)
def marlinspikelaw07_much.l0 : Nat → Int → List (S46) → Int → Int → Bool → List (S46) → Option (Bool)
 | 0, _, _, _, _, _, _ => none
 | k + 1, x3, x12, x13, x14, x195000, x195001 => if x14 < x13 then (if 0 ≤ x14 then (if x14 < (x12.length : Int) then (marlinspikelaw07_much.l0 k (wrap64 (x3 + (mn (((rd_T46 x12 x14).f1).length : Int) 1000))) x12 x13 (wrap64 (x14 + 1)) x195000 x195001) else (none)) else (none)) else (if (x195001.length : Int) > 60 then (some true) else (some (decide (x3 > 300))))
def marlinspikelaw07_much.f (k : Nat) (a0_0 : Bool) (l0_1 : List (S46)) : Option (Bool) := if 0 ≤ (mn (l0_1.length : Int) 100) then (if (mn (l0_1.length : Int) 100) ≤ (l0_1.length : Int) then ((some (l0_1.take ((mn (l0_1.length : Int) 100) : Int).toNat : List (S46))).bind fun y195 => (marlinspikelaw07_much.l0 k 0 y195 (y195.length : Int) 0 a0_0 l0_1)) else (none)) else (none)
theorem marlinspikelaw07_much.mono_l : ∀ k,(∀ y0 y1 y2 y3 y4 y5,LeO (marlinspikelaw07_much.l0 k y0 y1 y2 y3 y4 y5) (marlinspikelaw07_much.l0 (k + 1) y0 y1 y2 y3 y4 y5))
|0 => fun _ _ _ _ _ _ r h => by simp [marlinspikelaw07_much.l0] at h
|k + 1 => by
  have ih0:=marlinspikelaw07_much.mono_l k
  ·intro y0 y1 y2 y3 y4 y5
   unfold marlinspikelaw07_much.l0
   repeat' first
  |(with_reducible exact ih0 _ _ _ _ _ _)
  |(with_reducible exact LeO.refl _)
  |(with_reducible exact LeO.none _)
  |(with_reducible refine LeO.ite ?_ ?_)
  |(with_reducible refine LeO.bind ?_ (fun _ => ?_))
  |exact ih0 _ _ _ _ _ _
  |exact LeO.none _
  |refine LeO.ite ?_ ?_
  |refine LeO.bind ?_ (fun _ => ?_)
theorem marlinspikelaw07_much.mono : ∀ a0 a1 k,LeO (marlinspikelaw07_much.f k a0 a1) (marlinspikelaw07_much.f (k + 1) a0 a1):=by
 (intro a0 a1 k);(have ih0:=marlinspikelaw07_much.mono_l k);(unfold marlinspikelaw07_much.f)
 repeat' first
  |(with_reducible exact ih0 _ _ _ _ _ _)
  |(with_reducible exact LeO.refl _)
  |(with_reducible exact LeO.none _)
  |(with_reducible refine LeO.ite ?_ ?_)
  |(with_reducible refine LeO.bind ?_ (fun _ => ?_))
  |exact ih0 _ _ _ _ _ _
  |exact LeO.none _
  |refine LeO.ite ?_ ?_
  |refine LeO.bind ?_ (fun _ => ?_)
set_option maxHeartbeats 8000000 in
set_option maxRecDepth 100000 in
theorem marlinspikelaw07_much.calls (k : Nat) (a0_0 : Bool) (A0_1 : Option Addr) (c0_1 : Nat) (l0_1 : List (S46)) (r : Bool) (w : World) (hr0_1 : Kd.C k46 w A0_1 l0_1.length l0_1) (hc0_1 : l0_1.length ≤ c0_1) (h : marlinspikelaw07_much.f k a0_0 l0_1 = some r) :
  Calls Tryd.prog 10 #[.agg #[.bool a0_0,.slice A0_1 l0_1.length c0_1]] w fun e w' => e = .returned (.bool r)∧Below w.heap.size w w':=by
 (have hu24:=Tryd.underlying24);(have hu46:=Tryd.underlying46);(have HR0_1:=Aside0.mk hr0_1);(have HC0_1:=Aside0.mk hc0_1);(clear hr0_1 hc0_1);(have HB:=Aside0.mk (Below.refl w.heap.size w));(have H : (if 0 ≤ (mn (l0_1.length : Int) 100) then (if (mn (l0_1.length : Int) 100) ≤ (l0_1.length : Int) then ((some (l0_1.take ((mn (l0_1.length : Int) 100) : Int).toNat : List (S46))).bind fun y195 => (marlinspikelaw07_much.l0 k 0 y195 (y195.length : Int) 0 a0_0 l0_1)) else (none)) else (none)) = some r:=h);(clear h);(obtain ⟨ji2,hji2⟩ : ∃ j_ : Int,(mn (l0_1.length : Int) 100) = j_:=⟨_,rfl⟩);(replace H : (if 0 ≤ (ji2) then (if (ji2) ≤ (l0_1.length : Int) then ((some (l0_1.take ((ji2) : Int).toNat : List (S46))).bind fun y195 => (marlinspikelaw07_much.l0 k 0 y195 (y195.length : Int) 0 a0_0 l0_1)) else (none)) else (none)) = some r:=by first|(rw [hji2] at H;exact H)|(simp only [hji2] at H ⊢;exact H));((try (have hji2h : ji2 ≤ 100:=by (rw [← hji2];unfold mn;(repeat' split) <;> omega))));((try (have hji2g : ji2 ≤ 64:=by omega)));((try (have hji2l : 0 ≤ ji2:=by (rw [← hji2];unfold mn;(repeat' split) <;> omega))));((try (have hji2m : 0 ≤ ji2:=by omega)));(have hji2_ : (if 100 < (l0_1.length : Int) then 100 else (l0_1.length : Int)) = ji2:=hji2);(by_cases c3 : 0 ≤ (ji2))
 ·(rw [if_pos c3] at H);(have c3b0:=eq_true c3);(have c3b1 : decide (0 ≤ (ji2)) = true:=decide_eq_true c3);(clear c3);(by_cases c4 : (ji2) ≤ (l0_1.length : Int))
  ·(rw [if_pos c4] at H);(have c4b0:=eq_true c4);(have c4b1 : decide ((ji2) ≤ (l0_1.length : Int)) = true:=decide_eq_true c4);(clear c4);(obtain ⟨y195,hy195⟩ : ∃ y_ : List (S46),y_ = (l0_1.take ((ji2) : Int).toNat):=⟨_,rfl⟩);(replace H : (marlinspikelaw07_much.l0 k 0 y195 (y195.length : Int) 0 a0_0 l0_1) = some r:=by first|(rw [hy195];with_reducible exact H)|(have H2_:=(Option.bind_some _ _).symm.trans H;rw [hy195];with_reducible exact H2_)|(have H2_:=(Option.bind_some _ _).symm.trans H;with_reducible exact H2_)|with_reducible exact H|(rw [hy195];exact H)|exact H);(have Ny195:=Aside0.mk hy195);(clear hy195);(have H':=Aside0.mk H);(clear H);(go_enter Tryd.func10,Tryd.ntmps10);(go_wp2_with (first|((with_reducible refine gate_dst (N:=1) rfl ?_);refine box_event ?hg (N:=1) ?hd (cs:=#[.bool a0_0,.slice A0_1 l0_1.length c0_1]) (t:=24) ?hr ?_;(case hd => rfl);(case hg => rfl);(case hr => first|(go_simp;done)|(go_simp;rfl));intro gb194 hg w5 hbox hb;have n0_:=Aside0.mk (below_step (by repeat (first|(with_reducible first|exact HB.out|apply below_alloc|apply pw_below_drewN|apply below_drew1)|exact HB.out)) hb);have n1_:=Aside0.mk (hbox);have n2_:=Aside0.mk ((by rw [hg];exact (below_size (by repeat (first|(with_reducible first|exact HB.out|apply below_alloc|apply pw_below_drewN|apply below_drew1)|exact HB.out))) : w.heap.size ≤ gb194));have n3_:=Aside0.mk ((by rw [hg];exact (below_size (by repeat (first|(with_reducible first|exact HB.out|apply below_alloc|apply pw_below_drewN|apply below_drew1)|exact HB.out))) : w.heap.size ≤ gb194));clear HB;have HB:=n0_;have BK194:=n1_;have GW194:=n2_;have GE194:=n3_;clear n0_ n1_ n2_ n3_;clear hb hbox hg;have hcz6_0 : w5.cell? ⟨gb194,0,none⟩ = some (.bool a0_0):=(blk_cell BK194.out 0).trans rfl;have hcz6_1 : w5.cell? ⟨gb194,1,none⟩ = some (.slice A0_1 l0_1.length c0_1):=(blk_cell BK194.out 1).trans rfl;have hfz6_0:=blk_frozen BK194.out 0;have hfz6_1:=blk_frozen BK194.out 1;have q7 : ((ji2) : Int) ≤ ((l0_1.length : Int) : Int):=of_decide_eq_true (by first|(with_reducible assumption)|assumption);obtain ⟨i07,hi07,_,hsz7,_⟩:=info_parts info46;have hroom7 : l0_1.length ≤ c0_1:=HC0_1.out;have hC7 : Kd.C k46 _ A0_1 l0_1.length l0_1:=HR0_1.out;have hcut7:=cut_to (P:=Tryd.prog) 22 46 .i64 Tryd.underlying22 hi07 A0_1 l0_1.length c0_1 (ji2) (of_decide_eq_true (by first|(with_reducible assumption)|assumption)) q7 hroom7;have hr7:=Kd.C_take (m:=((ji2) : Int).toNat) hC7 (by omega);have hy7 : y195.length = ((ji2) : Int).toNat:=(by rw [Ny195.out,List.length_take];omega);rw [← Ny195.out] at hr7;rw [← hy7] at hcut7;have HR198:=Aside0.mk hr7;have HC198:=Aside0.mk (show y195.length ≤ c0_1 from by omega);clear hr7 hC7 hroom7 hi07 hsz7;have KY7:=Aside0.mk hy7;clear hy7;replace q7:=eq_true q7)));(go_loopg [3,14] k (fun kq v3 v14 w' => ∃ (x3_1 : Int) (x14_1 : Int),v3 = .int .i64 x3_1∧v14 = .int .i64 x14_1∧Aside0 (marlinspikelaw07_much.l0 kq x3_1 y195 (y195.length : Int) x14_1 a0_0 l0_1 = some r)∧Aside0 (kq ≤ k)∧Aside0 (w'.heap[gb194]? = some (.cells #[.bool a0_0,(.slice A0_1 l0_1.length c0_1)] 24 (0,0)))∧Aside0 (Below w.heap.size w w')))
   case atStart => exact ⟨(0),(0),(by first|rfl|(simp;done)|(simp [*];done)),(by first|rfl|(simp;done)|(simp [*];done)),H',⟨Nat.le_refl _⟩,⟨by (with_reducible repeat (first|refine blk_drewN ?_ _|refine blk_drew ?_|refine blk_alloc ?_ _));exact BK194.out⟩,⟨by repeat (first|(with_reducible first|exact HB.out|apply below_alloc|apply pw_below_drewN|apply below_drew1|refine below_set ?_ GE194.out)|exact HB.out)⟩⟩
   case round =>
    (clear H');(try clear c1);(try clear p2);(try clear c3);(try clear c3b0);(try clear c3b1);(try clear c4);(try clear c4b0);(try clear c4b1);(try clear q7);(try clear hcz6_0);(try clear hcz6_1);(try clear hfz6_0);(try clear hfz6_1);(try clear q7);(obtain ⟨x3_1,x14_1,rfl,rfl,HA,HK1,BK194,HB⟩:=hrel)
    cases gk with
   |zero => exact absurd HA.out (by simp [marlinspikelaw07_much.l0])
   |succ k1 =>
     (have H:=HA.out);(clear HA);(simp only [marlinspikelaw07_much.l0] at H);(by_cases c8 : x14_1 < (y195.length : Int))
     ·(rw [if_pos c8] at H);(have c8b0 : decide (x14_1 < (y195.length : Int)) = true:=decide_eq_true c8);(clear c8);(by_cases c9 : 0 ≤ x14_1)
      ·(rw [if_pos c9] at H);(have c9b0 : decide (0 ≤ x14_1) = true:=decide_eq_true c9);(clear c9);(by_cases c10 : x14_1 < (y195.length : Int))
       ·(rw [if_pos c10] at H);(have c10b0 : decide (x14_1 < (y195.length : Int)) = true:=decide_eq_true c10);(clear c10);(obtain ⟨ji11,hji11⟩ : ∃ j_ : Int,(mn (((rd_T46 y195 x14_1).f1).length : Int) 1000) = j_:=⟨_,rfl⟩);(replace H : (marlinspikelaw07_much.l0 k1 (wrap64 (x3_1 + (ji11))) y195 (y195.length : Int) (wrap64 (x14_1 + 1)) a0_0 l0_1) = some r:=by first|(rw [hji11] at H;exact H)|(simp only [hji11] at H ⊢;exact H));(have hji11_ : (if 1000 < (((rd_T46 y195 x14_1).f1).length : Int) then 1000 else (((rd_T46 y195 x14_1).f1).length : Int)) = ji11:=hji11);(have H':=Aside0.mk H);(clear H);(have p199 : 0 ≤ (x14_1 : Int):=of_decide_eq_true (by first|(with_reducible assumption)|assumption));(have q199 : x14_1 < (y195.length : Int):=of_decide_eq_true (by first|(with_reducible assumption)|assumption));(obtain ⟨ad199,A199_1,c199_1,e199,hx199_0,hx199_1,hl199_1,hi199_1⟩:=at_T46 HR198.out x14_1 p199 q199)
        cases e199
        (replace hx199_0:=(HB.out.cell (World.block_lt_of_cell? w _ hx199_0)).trans hx199_0);(replace hx199_1:=(HB.out.cell (World.block_lt_of_cell? w _ hx199_1)).trans hx199_1);(have HR199_1:=Aside0.mk hi199_1);(have HC199_1:=Aside0.mk hl199_1);(clear hi199_1 hl199_1);(replace p199:=eq_true p199);(replace q199:=eq_true q199);(go_wp2_with (first|((with_reducible refine gate_dst (N:=5) rfl ?_);refine box_event ?hg (N:=5) ?hd (cs:=#[.int .i64 0,.slice none 0 0]) (t:=46) ?hr ?_;(case hd => rfl);(case hg => rfl);(case hr => first|(go_simp;done)|(go_simp;rfl));intro gb200 hg w12 hbox hb;have n0_:=Aside0.mk (blk_below (g:=gb194) (o:=.cells #[.bool a0_0,.slice (some ad199) l0_1.length c0_1] 24 (0,0)) (by (with_reducible repeat (first|refine blk_drewN ?_ _|refine blk_drew ?_|refine blk_alloc ?_ _));exact BK194.out) hb);have n1_:=Aside0.mk (below_step (by repeat (first|(with_reducible first|exact HB.out|apply below_alloc|apply pw_below_drewN|apply below_drew1|refine below_set ?_ GE194.out)|exact HB.out)) hb);have n2_:=Aside0.mk (hbox);have n3_:=Aside0.mk ((by rw [hg];exact (below_size (by repeat (first|(with_reducible first|exact HB.out|apply below_alloc|apply pw_below_drewN|apply below_drew1|refine below_set ?_ GE194.out)|exact HB.out))) : w.heap.size ≤ gb200));have n4_:=Aside0.mk ((by rw [hg];exact (below_size (by repeat (first|(with_reducible first|exact HB.out|apply below_alloc|apply pw_below_drewN|apply below_drew1|refine below_set ?_ GE194.out)|exact HB.out))) : w.heap.size ≤ gb200));have n5_:=Aside0.mk ((by rw [hg];exact Nat.ne_of_lt (blk_lt (g:=gb194) (o:=.cells #[.bool a0_0,.slice (some ad199) l0_1.length c0_1] 24 (0,0)) (by (with_reducible repeat (first|refine blk_drewN ?_ _|refine blk_drew ?_|refine blk_alloc ?_ _));exact BK194.out)) : gb194 ≠ gb200));have n6_:=Aside0.mk ((by rw [hg];exact Nat.ne_of_gt (blk_lt (g:=gb194) (o:=.cells #[.bool a0_0,.slice (some ad199) l0_1.length c0_1] 24 (0,0)) (by (with_reducible repeat (first|refine blk_drewN ?_ _|refine blk_drew ?_|refine blk_alloc ?_ _));exact BK194.out)) : gb200 ≠ gb194));clear BK194;clear HB;have BK194:=n0_;have HB:=n1_;have BK200:=n2_;have GW200:=n3_;have GE200:=n4_;have NB194_200:=n5_;have NB200_194:=n6_;clear n0_ n1_ n2_ n3_ n4_ n5_ n6_;clear hb hbox hg;have hnb13:=NB200_194.out;have hnc13:=NB194_200.out;have hcz14_0 : w12.cell? ⟨gb200,0,none⟩ = some (.int .i64 0):=(blk_cell BK200.out 0).trans rfl;have hcz14_1 : w12.cell? ⟨gb200,1,none⟩ = some (.slice none 0 0):=(blk_cell BK200.out 1).trans rfl;have hfz14_0:=blk_frozen BK200.out 0;have hfz14_1:=blk_frozen BK200.out 1)));(go_roundg k1)
        case measure => have:=HK1.out;omega
        case rel => exact ⟨(wrap64 (x3_1 + (ji11))),(wrap64 (x14_1 + 1)),(by first|rfl|(simp;done)|(simp only [← hji11] <;> (first|rfl|simp))|(simp [*];done)),(by first|rfl|(simp;done)|(simp [*];done)),H',⟨by have:=HK1.out;omega⟩,⟨by (with_reducible repeat (first|refine blk_drewN ?_ _|refine blk_drew ?_|refine blk_alloc ?_ _));refine blk_far ?_ NB194_200.out _;(with_reducible repeat (first|refine blk_drewN ?_ _|refine blk_drew ?_|refine blk_alloc ?_ _));refine blk_far ?_ NB194_200.out _;(with_reducible repeat (first|refine blk_drewN ?_ _|refine blk_drew ?_|refine blk_alloc ?_ _));exact BK194.out⟩,⟨by repeat (first|(with_reducible first|exact HB.out|apply below_alloc|apply pw_below_drewN|apply below_drew1|refine below_set ?_ GE194.out|refine below_set ?_ GE200.out)|exact HB.out)⟩⟩
       ·(rw [if_neg c10] at H);(exact absurd H (by simp))
      ·(rw [if_neg c9] at H);(exact absurd H (by simp))
     ·(rw [if_neg c8] at H);(have c8b0 : decide (x14_1 < (y195.length : Int)) = false:=decide_eq_false c8);(clear c8);(by_cases c15 : (l0_1.length : Int) > 60)
      ·(rw [if_pos c15] at H);(have c15b0 : decide (60 < (l0_1.length : Int)) = true:=decide_eq_true c15);(have c15b1 : decide (60 < l0_1.length) = true:=decide_eq_true (by omega));(clear c15);(obtain rfl:=Option.some.inj H);(have hcz16_0 : wr.cell? ⟨gb194,0,none⟩ = some (.bool a0_0):=(blk_cell BK194.out 0).trans rfl);(have hcz16_1 : wr.cell? ⟨gb194,1,none⟩ = some (.slice A0_1 l0_1.length c0_1):=(blk_cell BK194.out 1).trans rfl);(have hfz16_0:=blk_frozen BK194.out 0);(have hfz16_1:=blk_frozen BK194.out 1);(go_wp2);(go_ret);(exact ⟨by first|rfl|(simp [errW_none,errW_some] <;> rfl)|(simp only [← hji2];first|rfl|(simp [errW_none,errW_some] <;> rfl))|(simp [*,errW_none,errW_some] <;> rfl),by repeat (first|(with_reducible first|exact HB.out|apply below_alloc|apply pw_below_drewN|apply below_drew1|refine below_set ?_ GE194.out)|exact HB.out)⟩)
      ·(rw [if_neg c15] at H);(have c15b0 : decide (60 < (l0_1.length : Int)) = false:=decide_eq_false c15);(have c15b1 : decide (60 < l0_1.length) = false:=decide_eq_false (by omega));(clear c15);(obtain rfl:=Option.some.inj H);(have hcz17_0 : wr.cell? ⟨gb194,0,none⟩ = some (.bool a0_0):=(blk_cell BK194.out 0).trans rfl);(have hcz17_1 : wr.cell? ⟨gb194,1,none⟩ = some (.slice A0_1 l0_1.length c0_1):=(blk_cell BK194.out 1).trans rfl);(have hfz17_0:=blk_frozen BK194.out 0);(have hfz17_1:=blk_frozen BK194.out 1);(go_wp2);(go_ret);(exact ⟨by first|rfl|(simp [errW_none,errW_some] <;> rfl)|(simp only [← hji2];first|rfl|(simp [errW_none,errW_some] <;> rfl))|(simp [*,errW_none,errW_some] <;> rfl),by repeat (first|(with_reducible first|exact HB.out|apply below_alloc|apply pw_below_drewN|apply below_drew1|refine below_set ?_ GE194.out)|exact HB.out)⟩)
  ·(rw [if_neg c4] at H);(exact absurd H (by simp))
 ·(rw [if_neg c3] at H);(exact absurd H (by simp))
def marlinspikelaw07_theirs.l0 : Nat → List (S46) → Int → Int → Bool → List (S52) → Option (Bool × (List (S52)))
 | 0, _, _, _, _, _ => none
 | k + 1, x10, x11, x12, x204000, x204001 => if x12 < x11 then (if 0 ≤ x12 then (if x12 < (x10.length : Int) then (if x204001.length < 4398046511104 then (marlinspikelaw07_theirs.l0 k x10 x11 (wrap64 (x12 + 1)) x204000 (x204001 ++ [(⟨(rd_T46 x10 x12).f0, (rd_T46 x10 x12).f1⟩ : S52)])) else (none)) else (none)) else (none)) else (some (x204000, x204001))
def marlinspikelaw07_theirs.f (k : Nat) (a0_0 : Bool) (l0_1 : List (S46)) : Option (Bool × (List (S52))) := marlinspikelaw07_theirs.l0 k l0_1 (l0_1.length : Int) 0 a0_0 ([] : List (S52))
theorem marlinspikelaw07_theirs.mono_l : ∀ k,(∀ y0 y1 y2 y3 y4,LeO (marlinspikelaw07_theirs.l0 k y0 y1 y2 y3 y4) (marlinspikelaw07_theirs.l0 (k + 1) y0 y1 y2 y3 y4))
|0 => fun _ _ _ _ _ r h => by simp [marlinspikelaw07_theirs.l0] at h
|k + 1 => by
  have ih0:=marlinspikelaw07_theirs.mono_l k
  ·intro y0 y1 y2 y3 y4
   unfold marlinspikelaw07_theirs.l0
   repeat' first
  |(with_reducible exact ih0 _ _ _ _ _)
  |(with_reducible exact LeO.refl _)
  |(with_reducible exact LeO.none _)
  |(with_reducible refine LeO.ite ?_ ?_)
  |(with_reducible refine LeO.bind ?_ (fun _ => ?_))
  |exact ih0 _ _ _ _ _
  |exact LeO.none _
  |refine LeO.ite ?_ ?_
  |refine LeO.bind ?_ (fun _ => ?_)
theorem marlinspikelaw07_theirs.mono : ∀ a0 a1 k,LeO (marlinspikelaw07_theirs.f k a0 a1) (marlinspikelaw07_theirs.f (k + 1) a0 a1):=by
 (intro a0 a1 k);(have ih0:=marlinspikelaw07_theirs.mono_l k);(unfold marlinspikelaw07_theirs.f)
 repeat' first
  |(with_reducible exact ih0 _ _ _ _ _)
  |(with_reducible exact LeO.refl _)
  |(with_reducible exact LeO.none _)
  |(with_reducible refine LeO.ite ?_ ?_)
  |(with_reducible refine LeO.bind ?_ (fun _ => ?_))
  |exact ih0 _ _ _ _ _
  |exact LeO.none _
  |refine LeO.ite ?_ ?_
  |refine LeO.bind ?_ (fun _ => ?_)
set_option maxHeartbeats 8000000 in
set_option maxRecDepth 100000 in
theorem marlinspikelaw07_theirs.calls (k : Nat) (a0_0 : Bool) (P0_1_ : Nat → Prop) (A0_1 : Option Addr) (c0_1 : Nat) (l0_1 : List (S46)) (r1 : Bool) (r2 : List (S52)) (w : World) (hs0_1 : Kd.V k46 46 w w.heap.size (fun k_ => P0_1_ k_) (.slice A0_1 l0_1.length c0_1) l0_1) (h : marlinspikelaw07_theirs.f k a0_0 l0_1 = some (r1,r2)) :
  Calls Tryd.prog 13 #[.agg #[.bool a0_0,.slice A0_1 l0_1.length c0_1]] w fun e w' => ∃ v1_ : Value,e = .returned (.agg #[.bool r1,v1_])∧Kd.N k52 52 w' w.heap.size (fun k_ => (P0_1_ k_ ∨ w.heap.size ≤ k_)) v1_ r2∧Below w.heap.size w w':=by
 (have hu24:=Tryd.underlying24);(have hu31:=Tryd.underlying31);(have hu46:=Tryd.underlying46);(have hu52:=Tryd.underlying52);(have HO0_1:=Aside0.mk (show Kd.V k46 46 w w.heap.size (fun k_ => (P0_1_ k_ ∨ w.heap.size ≤ k_)) (.slice A0_1 l0_1.length c0_1) l0_1 from Kd.V_mono hs0_1 (fun k_ hk => .inl hk)));(have HB:=Aside0.mk (Below.refl w.heap.size w));(have H : (marlinspikelaw07_theirs.l0 k l0_1 (l0_1.length : Int) 0 a0_0 ([] : List (S52))) = some (r1,r2):=h);(clear h);(have H':=Aside0.mk H);(clear H);(go_enter Tryd.func13,Tryd.ntmps13);(go_wp2_with (first|((with_reducible refine gate_dst (N:=1) rfl ?_);refine box_event ?hg (N:=1) ?hd (cs:=#[.bool a0_0,.slice A0_1 l0_1.length c0_1]) (t:=24) ?hr ?_;(case hd => rfl);(case hg => rfl);(case hr => first|(go_simp;done)|(go_simp;rfl));intro gb201 hg w2 hbox hb;have n0_:=Aside0.mk (Kd.V_below (Kd.V_elderB (by (with_reducible repeat (first|apply Kd.V_alloc|apply Kd.V_drewN|apply Kd.V_drew));exact HO0_1.out) gb201 (Nat.le_of_eq hg.symm)) hb);have n1_:=Aside0.mk (below_step (by repeat (first|(with_reducible first|exact HB.out|apply below_alloc|apply pw_below_drewN|apply below_drew1)|exact HB.out)) hb);have n2_:=Aside0.mk (hbox);have n3_:=Aside0.mk ((by rw [hg];exact (below_size (by repeat (first|(with_reducible first|exact HB.out|apply below_alloc|apply pw_below_drewN|apply below_drew1)|exact HB.out))) : w.heap.size ≤ gb201));have n4_:=Aside0.mk ((by rw [hg];exact (below_size (by repeat (first|(with_reducible first|exact HB.out|apply below_alloc|apply pw_below_drewN|apply below_drew1)|exact HB.out))) : w.heap.size ≤ gb201));clear HO0_1;clear HB;have HO0_1:=n0_;have HB:=n1_;have BK201:=n2_;have GW201:=n3_;have GE201:=n4_;clear n0_ n1_ n2_ n3_ n4_;clear hb hbox hg)|((with_reducible refine gate_dst (N:=2) rfl ?_);refine box_event ?hg (N:=2) ?hd (cs:=#[.bool false,.slice none 0 0]) (t:=31) ?hr ?_;(case hd => rfl);(case hg => rfl);(case hr => first|(go_simp;done)|(go_simp;rfl));intro gb202 hg w3 hbox hb;have n0_:=Aside0.mk (Kd.V_below (Kd.V_elderB (by (with_reducible repeat (first|apply Kd.V_alloc|apply Kd.V_drewN|apply Kd.V_drew));exact HO0_1.out) gb202 (Nat.le_of_eq hg.symm)) hb);have n1_:=Aside0.mk (blk_below (g:=gb201) (o:=.cells #[.bool a0_0,.slice A0_1 l0_1.length c0_1] 24 (0,0)) (by (with_reducible repeat (first|refine blk_drewN ?_ _|refine blk_drew ?_|refine blk_alloc ?_ _));exact BK201.out) hb);have n2_:=Aside0.mk (below_step (by repeat (first|(with_reducible first|exact HB.out|apply below_alloc|apply pw_below_drewN|apply below_drew1|refine below_set ?_ GE201.out)|exact HB.out)) hb);have n3_:=Aside0.mk (hbox);have n4_:=Aside0.mk ((by rw [hg];exact (below_size (by repeat (first|(with_reducible first|exact HB.out|apply below_alloc|apply pw_below_drewN|apply below_drew1|refine below_set ?_ GE201.out)|exact HB.out))) : w.heap.size ≤ gb202));have n5_:=Aside0.mk ((by rw [hg];exact (below_size (by repeat (first|(with_reducible first|exact HB.out|apply below_alloc|apply pw_below_drewN|apply below_drew1|refine below_set ?_ GE201.out)|exact HB.out))) : w.heap.size ≤ gb202));have n6_:=Aside0.mk ((by rw [hg];exact Nat.ne_of_lt (blk_lt (g:=gb201) (o:=.cells #[.bool a0_0,.slice A0_1 l0_1.length c0_1] 24 (0,0)) (by (with_reducible repeat (first|refine blk_drewN ?_ _|refine blk_drew ?_|refine blk_alloc ?_ _));exact BK201.out)) : gb201 ≠ gb202));have n7_:=Aside0.mk ((by rw [hg];exact Nat.ne_of_gt (blk_lt (g:=gb201) (o:=.cells #[.bool a0_0,.slice A0_1 l0_1.length c0_1] 24 (0,0)) (by (with_reducible repeat (first|refine blk_drewN ?_ _|refine blk_drew ?_|refine blk_alloc ?_ _));exact BK201.out)) : gb202 ≠ gb201));clear HO0_1;clear BK201;clear HB;have HO0_1:=n0_;have BK201:=n1_;have HB:=n2_;have BK202:=n3_;have GW202:=n4_;have GE202:=n5_;have NB201_202:=n6_;have NB202_201:=n7_;clear n0_ n1_ n2_ n3_ n4_ n5_ n6_ n7_;clear hb hbox hg;have hnb4:=NB201_202.out;have hnc4:=NB202_201.out;have hcz5_0 : w3.cell? ⟨gb201,0,none⟩ = some (.bool a0_0):=(blk_cell BK201.out 0).trans rfl;have hcz5_1 : w3.cell? ⟨gb201,1,none⟩ = some (.slice A0_1 l0_1.length c0_1):=(blk_cell BK201.out 1).trans rfl;have hfz5_0:=blk_frozen BK201.out 0;have hfz5_1:=blk_frozen BK201.out 1)|((with_reducible refine gate_dst (N:=3) rfl ?_);refine box_event ?hg (N:=3) ?hd (cs:=#[.bool false,.slice none 0 0]) (t:=31) ?hr ?_;(case hd => rfl);(case hg => rfl);(case hr => first|(go_simp;done)|(go_simp;rfl));intro gb203 hg w6 hbox hb;have n0_:=Aside0.mk (Kd.V_below (Kd.V_elderB (by (with_reducible repeat (first|apply Kd.V_alloc|apply Kd.V_drewN|apply Kd.V_drew));exact HO0_1.out) gb203 (Nat.le_of_eq hg.symm)) hb);have n1_:=Aside0.mk (blk_below (g:=gb201) (o:=.cells #[.bool a0_0,.slice A0_1 l0_1.length c0_1] 24 (0,0)) (by (with_reducible repeat (first|refine blk_drewN ?_ _|refine blk_drew ?_|refine blk_alloc ?_ _));exact BK201.out) hb);have n2_:=Aside0.mk (blk_below (g:=gb202) (o:=.cells #[.bool false,.slice none 0 0] 31 (0,0)) (by (with_reducible repeat (first|refine blk_drewN ?_ _|refine blk_drew ?_|refine blk_alloc ?_ _));exact BK202.out) hb);have n3_:=Aside0.mk (below_step (by repeat (first|(with_reducible first|exact HB.out|apply below_alloc|apply pw_below_drewN|apply below_drew1|refine below_set ?_ GE201.out|refine below_set ?_ GE202.out)|exact HB.out)) hb);have n4_:=Aside0.mk (hbox);have n5_:=Aside0.mk ((by rw [hg];exact (below_size (by repeat (first|(with_reducible first|exact HB.out|apply below_alloc|apply pw_below_drewN|apply below_drew1|refine below_set ?_ GE201.out|refine below_set ?_ GE202.out)|exact HB.out))) : w.heap.size ≤ gb203));have n6_:=Aside0.mk ((by rw [hg];exact (below_size (by repeat (first|(with_reducible first|exact HB.out|apply below_alloc|apply pw_below_drewN|apply below_drew1|refine below_set ?_ GE201.out|refine below_set ?_ GE202.out)|exact HB.out))) : w.heap.size ≤ gb203));have n7_:=Aside0.mk ((by rw [hg];exact Nat.ne_of_lt (blk_lt (g:=gb201) (o:=.cells #[.bool a0_0,.slice A0_1 l0_1.length c0_1] 24 (0,0)) (by (with_reducible repeat (first|refine blk_drewN ?_ _|refine blk_drew ?_|refine blk_alloc ?_ _));exact BK201.out)) : gb201 ≠ gb203));have n8_:=Aside0.mk ((by rw [hg];exact Nat.ne_of_gt (blk_lt (g:=gb201) (o:=.cells #[.bool a0_0,.slice A0_1 l0_1.length c0_1] 24 (0,0)) (by (with_reducible repeat (first|refine blk_drewN ?_ _|refine blk_drew ?_|refine blk_alloc ?_ _));exact BK201.out)) : gb203 ≠ gb201));have n9_:=Aside0.mk ((by rw [hg];exact Nat.ne_of_lt (blk_lt (g:=gb202) (o:=.cells #[.bool false,.slice none 0 0] 31 (0,0)) (by (with_reducible repeat (first|refine blk_drewN ?_ _|refine blk_drew ?_|refine blk_alloc ?_ _));exact BK202.out)) : gb202 ≠ gb203));have n10_:=Aside0.mk ((by rw [hg];exact Nat.ne_of_gt (blk_lt (g:=gb202) (o:=.cells #[.bool false,.slice none 0 0] 31 (0,0)) (by (with_reducible repeat (first|refine blk_drewN ?_ _|refine blk_drew ?_|refine blk_alloc ?_ _));exact BK202.out)) : gb203 ≠ gb202));clear HO0_1;clear BK201;clear BK202;clear HB;have HO0_1:=n0_;have BK201:=n1_;have BK202:=n2_;have HB:=n3_;have BK203:=n4_;have GW203:=n5_;have GE203:=n6_;have NB201_203:=n7_;have NB203_201:=n8_;have NB202_203:=n9_;have NB203_202:=n10_;clear n0_ n1_ n2_ n3_ n4_ n5_ n6_ n7_ n8_ n9_ n10_;clear hb hbox hg;have hnb7:=NB203_201.out;have hnc7:=NB201_203.out;have hnb8:=NB203_202.out;have hnc8:=NB202_203.out;have hcz9_0 : w6.cell? ⟨gb203,0,none⟩ = some (.bool false):=(blk_cell BK203.out 0).trans rfl;have hcz9_1 : w6.cell? ⟨gb203,1,none⟩ = some (.slice none 0 0):=(blk_cell BK203.out 1).trans rfl;have hfz9_0:=blk_frozen BK203.out 0;have hfz9_1:=blk_frozen BK203.out 1;have hcz10_0 : w6.cell? ⟨gb201,0,none⟩ = some (.bool a0_0):=(blk_cell BK201.out 0).trans rfl;have hcz10_1 : w6.cell? ⟨gb201,1,none⟩ = some (.slice A0_1 l0_1.length c0_1):=(blk_cell BK201.out 1).trans rfl;have hfz10_0:=blk_frozen BK201.out 0;have hfz10_1:=blk_frozen BK201.out 1)));(go_loopg [12] k (fun kq v12 w' => ∃ (x12_1 : Int) (x204001_1 : List (S52)) (u204001 : Value),v12 = .int .i64 x12_1∧Aside0 (marlinspikelaw07_theirs.l0 kq l0_1 (l0_1.length : Int) x12_1 a0_0 x204001_1 = some (r1,r2))∧Aside0 (kq ≤ k)∧Aside0 (Kd.V k46 46 w' w.heap.size (fun k_ => (P0_1_ k_ ∨ w.heap.size ≤ k_)∧some k_ ≠ (u204001 : Value).ownBlock∧k_ ≠ gb201∧k_ ≠ gb202∧k_ ≠ gb203) (.slice A0_1 l0_1.length c0_1) l0_1)∧Aside0 (Kd.V k46 46 w' w.heap.size (fun k_ => (P0_1_ k_ ∨ w.heap.size ≤ k_)∧some k_ ≠ (u204001 : Value).ownBlock∧k_ ≠ gb201∧k_ ≠ gb202∧k_ ≠ gb203) (.slice A0_1 l0_1.length c0_1) l0_1)∧Aside0 (Kd.N k52 52 w' w.heap.size (fun k_ => (P0_1_ k_ ∨ w.heap.size ≤ k_)∧k_ ≠ gb201∧k_ ≠ gb202∧k_ ≠ gb203) u204001 x204001_1)∧Aside0 (w'.heap[gb201]? = some (.cells #[.bool a0_0,(.slice A0_1 l0_1.length c0_1)] 24 (0,0)))∧Aside0 (w'.heap[gb202]? = some (.cells #[.bool false,(.slice none 0 0)] 31 (0,0)))∧Aside0 (w'.heap[gb203]? = some (.cells #[.bool a0_0,u204001] 31 (0,0)))∧Aside0 (Below w.heap.size w w')))
 case atStart => exact ⟨(0),(([] : List (S52))),(.slice none 0 0),(by first|rfl|(simp;done)|(simp [*];done)),H',⟨Nat.le_refl _⟩,⟨by (with_reducible repeat (first|apply Kd.V_alloc|apply Kd.V_drewN|apply Kd.V_drew));exact Kd.V_mono (Kd.V_far (p:=⟨gb203,1,none⟩) (Kd.V_far (p:=⟨gb203,0,none⟩) (Kd.V_mono HO0_1.out (fun k_ hk => (⟨hk,hk.2⟩ : _∧k_ ≠ gb203))) (fun _ hk => hk.2) (.bool a0_0)) (fun _ hk => hk.2) (.slice none 0 0)) (fun _ hk => ⟨hk.1.1.1.1,⟨(by simp [Value.ownBlock]),⟨hk.1.1.1.2,⟨hk.1.1.2,hk.1.2⟩⟩⟩⟩)⟩,⟨by (with_reducible repeat (first|apply Kd.V_alloc|apply Kd.V_drewN|apply Kd.V_drew));exact Kd.V_mono (Kd.V_far (p:=⟨gb203,1,none⟩) (Kd.V_far (p:=⟨gb203,0,none⟩) (Kd.V_mono HO0_1.out (fun k_ hk => (⟨hk,hk.2⟩ : _∧k_ ≠ gb203))) (fun _ hk => hk.2) (.bool a0_0)) (fun _ hk => hk.2) (.slice none 0 0)) (fun _ hk => ⟨hk.1.1.1.1,⟨(by simp [Value.ownBlock]),⟨hk.1.1.1.2,⟨hk.1.1.2,hk.1.2⟩⟩⟩⟩)⟩,⟨by first|exact Kd.S_nil _ _ _ _ _|exact Kd.N_nil _ _ _ _ _|exact Kd.V_nil _ _ _ _ _|exact Kd.Q_nil _ _ _ _ _|exact Kd.R_nil _ _ _ _ _⟩,⟨by (with_reducible repeat (first|refine blk_drewN ?_ _|refine blk_drew ?_|refine blk_alloc ?_ _));refine blk_far ?_ NB201_203.out _;(with_reducible repeat (first|refine blk_drewN ?_ _|refine blk_drew ?_|refine blk_alloc ?_ _));refine blk_far ?_ NB201_203.out _;(with_reducible repeat (first|refine blk_drewN ?_ _|refine blk_drew ?_|refine blk_alloc ?_ _));exact BK201.out⟩,⟨by (with_reducible repeat (first|refine blk_drewN ?_ _|refine blk_drew ?_|refine blk_alloc ?_ _));refine blk_far ?_ NB202_203.out _;(with_reducible repeat (first|refine blk_drewN ?_ _|refine blk_drew ?_|refine blk_alloc ?_ _));refine blk_far ?_ NB202_203.out _;(with_reducible repeat (first|refine blk_drewN ?_ _|refine blk_drew ?_|refine blk_alloc ?_ _));exact BK202.out⟩,⟨by (with_reducible repeat (first|refine blk_drewN ?_ _|refine blk_drew ?_|refine blk_alloc ?_ _));refine blk_put (cs:=#[.bool a0_0,.slice none 0 0]) ?_ 1 _ rfl;(with_reducible repeat (first|refine blk_drewN ?_ _|refine blk_drew ?_|refine blk_alloc ?_ _));refine blk_put (cs:=#[.bool false,.slice none 0 0]) ?_ 0 _ rfl;(with_reducible repeat (first|refine blk_drewN ?_ _|refine blk_drew ?_|refine blk_alloc ?_ _));exact BK203.out⟩,⟨by repeat (first|(with_reducible first|exact HB.out|apply below_alloc|apply pw_below_drewN|apply below_drew1|refine below_set ?_ GE201.out|refine below_set ?_ GE202.out|refine below_set ?_ GE203.out)|exact HB.out)⟩⟩
 case round =>
  (clear H');(try clear c1);(try clear p2);(try clear c4);(try clear c7);(try clear c8);(try clear hcz10_0);(try clear hcz10_1);(try clear hcz5_0);(try clear hcz5_1);(try clear hcz9_0);(try clear hcz9_1);(try clear hfz10_0);(try clear hfz10_1);(try clear hfz5_0);(try clear hfz5_1);(try clear hfz9_0);(try clear hfz9_1);(obtain ⟨x12_1,x204001_1,u204001,rfl,HA,HK1,HO_10,HO_202001,HO_204001,BK201,BK202,BK203,HB⟩:=hrel)
  cases gk with
 |zero => exact absurd HA.out (by simp [marlinspikelaw07_theirs.l0])
 |succ k1 =>
   (have H:=HA.out);(clear HA);(simp only [marlinspikelaw07_theirs.l0] at H);(by_cases c11 : x12_1 < (l0_1.length : Int))
   ·(rw [if_pos c11] at H);(have c11b0 : decide (x12_1 < (l0_1.length : Int)) = true:=decide_eq_true c11);(clear c11);(by_cases c12 : 0 ≤ x12_1)
    ·(rw [if_pos c12] at H);(have c12b0 : decide (0 ≤ x12_1) = true:=decide_eq_true c12);(clear c12);(by_cases c13 : x12_1 < (l0_1.length : Int))
     ·(rw [if_pos c13] at H);(have c13b0 : decide (x12_1 < (l0_1.length : Int)) = true:=decide_eq_true c13);(clear c13);(by_cases c14 : x204001_1.length < 4398046511104)
      ·(rw [if_pos c14] at H);(have LMc14:=Aside0.mk c14);(clear c14);(obtain ⟨y206,hy206⟩ : ∃ y_ : List (S52),y_ = (x204001_1 ++ [(⟨(rd_T46 l0_1 x12_1).f0,(rd_T46 l0_1 x12_1).f1⟩ : S52)]):=⟨_,rfl⟩);(replace H : (marlinspikelaw07_theirs.l0 k1 l0_1 (l0_1.length : Int) (wrap64 (x12_1 + 1)) a0_0 y206) = some (r1,r2):=by first|(rw [hy206];with_reducible exact H)|(have H2_:=(Option.bind_some _ _).symm.trans H;rw [hy206];with_reducible exact H2_)|(have H2_:=(Option.bind_some _ _).symm.trans H;with_reducible exact H2_)|with_reducible exact H|(rw [hy206];exact H)|exact H);(have Ny206:=Aside0.mk hy206);(clear hy206);(have H':=Aside0.mk H);(clear H);(have p204 : 0 ≤ (x12_1 : Int):=of_decide_eq_true (by first|(with_reducible assumption)|assumption));(have q204 : x12_1 < (l0_1.length : Int):=of_decide_eq_true (by first|(with_reducible assumption)|assumption));(obtain ⟨ad204,A204_1,c204_1,e204,hx204_0,hx204_1,hl204_1,hi204_1⟩:=at_T46 (Kd.V_reads' HO_10.out).2.2 x12_1 p204 q204)
       cases e204
       (obtain ⟨ce204,hce204,hMe204,hcc204⟩:=Kd.V_get HO_10.out z46 x12_1 p204 (by first|exact q204|exact of_decide_eq_true (by first|(with_reducible assumption)|assumption)|(have e_:=(Kd.V_reads' HO_10.out).1;omega)));(obtain ⟨ua204_1,uc204_1,rfl,ul204_1,ge204_1⟩:=k46_openF hMe204);(have hv204_1:=hcc204 1 _ rfl);(rw [add_field _ _ 1 (by omega)] at hv204_1);(replace hv204_1:=Option.some.inj (hv204_1.symm.trans hx204_1));(injection hv204_1 with hva_ hvn_ hvc_);(rw [hva_] at ge204_1);(rw [hvc_] at ul204_1);(have HL204_1:=Aside0.mk (show Kd.V (Kd.int .i64) 3 _ w.heap.size _ _ ((rd_T46 l0_1 x12_1).f1) from Kd.V_mk ul204_1 ge204_1));(clear hva_ hvn_ hvc_ ge204_1 ul204_1);(clear hcc204 hce204);(have HR204_1:=Aside0.mk hi204_1);(have HC204_1:=Aside0.mk hl204_1);(clear hi204_1 hl204_1);(replace p204:=eq_true p204);(replace q204:=eq_true q204);(go_wp2_with (first|((with_reducible refine gate_dst (N:=5) rfl ?_);refine box_event ?hg (N:=5) ?hd (cs:=#[.int .i64 0,.slice none 0 0]) (t:=46) ?hr ?_;(case hd => rfl);(case hg => rfl);(case hr => first|(go_simp;done)|(go_simp;rfl));intro gb205 hg w15 hbox hb;have n0_:=Aside0.mk (Kd.V_below (Kd.V_elderB (by (with_reducible repeat (first|apply Kd.V_alloc|apply Kd.V_drewN|apply Kd.V_drew));exact HO_10.out) gb205 (Nat.le_of_eq hg.symm)) hb);have n1_:=Aside0.mk (Kd.V_below (Kd.V_elderB (by (with_reducible repeat (first|apply Kd.V_alloc|apply Kd.V_drewN|apply Kd.V_drew));exact HO_202001.out) gb205 (Nat.le_of_eq hg.symm)) hb);have n2_:=Aside0.mk (Kd.N_below (Kd.N_elderB (by (with_reducible repeat (first|apply Kd.N_alloc|apply Kd.N_drewN|apply Kd.N_drew));exact HO_204001.out) gb205 (Nat.le_of_eq hg.symm)) hb);have n3_:=Aside0.mk (Kd.V_below (Kd.V_elderB (by (with_reducible repeat (first|apply Kd.V_alloc|apply Kd.V_drewN|apply Kd.V_drew));exact HL204_1.out) gb205 (Nat.le_of_eq hg.symm)) hb);have n4_:=Aside0.mk (blk_below (g:=gb201) (o:=.cells #[.bool a0_0,.slice (some ad204) l0_1.length c0_1] 24 (0,0)) (by (with_reducible repeat (first|refine blk_drewN ?_ _|refine blk_drew ?_|refine blk_alloc ?_ _));exact BK201.out) hb);have n5_:=Aside0.mk (blk_below (g:=gb202) (o:=.cells #[.bool false,.slice none 0 0] 31 (0,0)) (by (with_reducible repeat (first|refine blk_drewN ?_ _|refine blk_drew ?_|refine blk_alloc ?_ _));exact BK202.out) hb);have n6_:=Aside0.mk (blk_below (g:=gb203) (o:=.cells #[.bool a0_0,u204001] 31 (0,0)) (by (with_reducible repeat (first|refine blk_drewN ?_ _|refine blk_drew ?_|refine blk_alloc ?_ _));exact BK203.out) hb);have n7_:=Aside0.mk (Kd.C_below (by repeat (first|(with_reducible exact HR204_1.out)|(with_reducible refine Kd.C_alloc ?_ _)|(with_reducible refine Kd.C_drewN ?_ _)|(with_reducible refine Kd.C_drew ?_)|exact HR204_1.out)) hb);have n8_:=Aside0.mk (below_step (by repeat (first|(with_reducible first|exact HB.out|apply below_alloc|apply pw_below_drewN|apply below_drew1|refine below_set ?_ GE201.out|refine below_set ?_ GE202.out|refine below_set ?_ GE203.out)|exact HB.out)) hb);have n9_:=Aside0.mk (hbox);have n10_:=Aside0.mk ((by rw [hg];exact (below_size (by repeat (first|(with_reducible first|exact HB.out|apply below_alloc|apply pw_below_drewN|apply below_drew1|refine below_set ?_ GE201.out|refine below_set ?_ GE202.out|refine below_set ?_ GE203.out)|exact HB.out))) : w.heap.size ≤ gb205));have n11_:=Aside0.mk ((by rw [hg];exact (below_size (by repeat (first|(with_reducible first|exact HB.out|apply below_alloc|apply pw_below_drewN|apply below_drew1|refine below_set ?_ GE201.out|refine below_set ?_ GE202.out|refine below_set ?_ GE203.out)|exact HB.out))) : w.heap.size ≤ gb205));have n12_:=Aside0.mk ((by rw [hg];exact Nat.ne_of_lt (blk_lt (g:=gb201) (o:=.cells #[.bool a0_0,.slice (some ad204) l0_1.length c0_1] 24 (0,0)) (by (with_reducible repeat (first|refine blk_drewN ?_ _|refine blk_drew ?_|refine blk_alloc ?_ _));exact BK201.out)) : gb201 ≠ gb205));have n13_:=Aside0.mk ((by rw [hg];exact Nat.ne_of_gt (blk_lt (g:=gb201) (o:=.cells #[.bool a0_0,.slice (some ad204) l0_1.length c0_1] 24 (0,0)) (by (with_reducible repeat (first|refine blk_drewN ?_ _|refine blk_drew ?_|refine blk_alloc ?_ _));exact BK201.out)) : gb205 ≠ gb201));have n14_:=Aside0.mk ((by rw [hg];exact Nat.ne_of_lt (blk_lt (g:=gb202) (o:=.cells #[.bool false,.slice none 0 0] 31 (0,0)) (by (with_reducible repeat (first|refine blk_drewN ?_ _|refine blk_drew ?_|refine blk_alloc ?_ _));exact BK202.out)) : gb202 ≠ gb205));have n15_:=Aside0.mk ((by rw [hg];exact Nat.ne_of_gt (blk_lt (g:=gb202) (o:=.cells #[.bool false,.slice none 0 0] 31 (0,0)) (by (with_reducible repeat (first|refine blk_drewN ?_ _|refine blk_drew ?_|refine blk_alloc ?_ _));exact BK202.out)) : gb205 ≠ gb202));have n16_:=Aside0.mk ((by rw [hg];exact Nat.ne_of_lt (blk_lt (g:=gb203) (o:=.cells #[.bool a0_0,u204001] 31 (0,0)) (by (with_reducible repeat (first|refine blk_drewN ?_ _|refine blk_drew ?_|refine blk_alloc ?_ _));exact BK203.out)) : gb203 ≠ gb205));have n17_:=Aside0.mk ((by rw [hg];exact Nat.ne_of_gt (blk_lt (g:=gb203) (o:=.cells #[.bool a0_0,u204001] 31 (0,0)) (by (with_reducible repeat (first|refine blk_drewN ?_ _|refine blk_drew ?_|refine blk_alloc ?_ _));exact BK203.out)) : gb205 ≠ gb203));clear HO_10;clear HO_202001;clear HO_204001;clear HL204_1;clear BK201;clear BK202;clear BK203;clear HR204_1;clear HB;have HO_10:=n0_;have HO_202001:=n1_;have HO_204001:=n2_;have HL204_1:=n3_;have BK201:=n4_;have BK202:=n5_;have BK203:=n6_;have HR204_1:=n7_;have HB:=n8_;have BK205:=n9_;have GW205:=n10_;have GE205:=n11_;have NB201_205:=n12_;have NB205_201:=n13_;have NB202_205:=n14_;have NB205_202:=n15_;have NB203_205:=n16_;have NB205_203:=n17_;clear n0_ n1_ n2_ n3_ n4_ n5_ n6_ n7_ n8_ n9_ n10_ n11_ n12_ n13_ n14_ n15_ n16_ n17_;clear hb hbox hg;have hnb16:=NB205_201.out;have hnc16:=NB201_205.out;have hnb17:=NB205_202.out;have hnc17:=NB202_205.out;have hnb18:=NB205_203.out;have hnc18:=NB203_205.out;have hcz19_0 : w15.cell? ⟨gb205,0,none⟩ = some (.int .i64 0):=(blk_cell BK205.out 0).trans rfl;have hcz19_1 : w15.cell? ⟨gb205,1,none⟩ = some (.slice none 0 0):=(blk_cell BK205.out 1).trans rfl;have hfz19_0:=blk_frozen BK205.out 0;have hfz19_1:=blk_frozen BK205.out 1)|((with_reducible refine gate_store (t:=46) (p:=5) rfl ?_);refine store_event (t:=46) (p:=5) (v:=?vo_w20) (w1:=((w15.setCell ⟨gb205,0,none⟩ (.int .i64 ((rd_T46 l0_1 x12_1).f0))).setCell ⟨gb205,1,none⟩ (.slice A204_1 ((rd_T46 l0_1 x12_1).f1).length c204_1))) ?hg ?ho ?hn ?hr ?_;(case ho => rfl);(case hg => rfl);(case hn => rfl);(case hr => first|(go_simp;done)|(go_simp;rfl));intro w20 hw;have n0_ : Aside0 (Kd.V k46 46 w20 w.heap.size (fun k_ => (P0_1_ k_ ∨ w.heap.size ≤ k_)∧some k_ ≠ (u204001 : Value).ownBlock∧k_ ≠ gb201∧k_ ≠ gb202∧k_ ≠ gb203∧k_ ≠ gb205) (.slice (some ad204) l0_1.length c0_1) l0_1):=⟨(by rw [hw];exact (by (with_reducible repeat (first|apply Kd.V_alloc|apply Kd.V_drewN|apply Kd.V_drew));exact Kd.V_mono (Kd.V_far (p:=⟨gb205,1,none⟩) (Kd.V_far (p:=⟨gb205,0,none⟩) (Kd.V_mono HO_10.out (fun k_ hk => (⟨hk,hk.2⟩ : _∧k_ ≠ gb205))) (fun _ hk => hk.2) (.int .i64 ((rd_T46 l0_1 x12_1).f0))) (fun _ hk => hk.2) (.slice A204_1 ((rd_T46 l0_1 x12_1).f1).length c204_1)) (fun _ hk => ⟨hk.1.1.1,⟨hk.1.1.2.1,⟨hk.1.1.2.2.1,⟨hk.1.1.2.2.2.1,⟨hk.1.1.2.2.2.2,hk.1.2⟩⟩⟩⟩⟩)))⟩;have n1_ : Aside0 (Kd.V k46 46 w20 w.heap.size (fun k_ => (P0_1_ k_ ∨ w.heap.size ≤ k_)∧some k_ ≠ (u204001 : Value).ownBlock∧k_ ≠ gb201∧k_ ≠ gb202∧k_ ≠ gb203∧k_ ≠ gb205) (.slice (some ad204) l0_1.length c0_1) l0_1):=⟨(by rw [hw];exact (by (with_reducible repeat (first|apply Kd.V_alloc|apply Kd.V_drewN|apply Kd.V_drew));exact Kd.V_mono (Kd.V_far (p:=⟨gb205,1,none⟩) (Kd.V_far (p:=⟨gb205,0,none⟩) (Kd.V_mono HO_202001.out (fun k_ hk => (⟨hk,hk.2⟩ : _∧k_ ≠ gb205))) (fun _ hk => hk.2) (.int .i64 ((rd_T46 l0_1 x12_1).f0))) (fun _ hk => hk.2) (.slice A204_1 ((rd_T46 l0_1 x12_1).f1).length c204_1)) (fun _ hk => ⟨hk.1.1.1,⟨hk.1.1.2.1,⟨hk.1.1.2.2.1,⟨hk.1.1.2.2.2.1,⟨hk.1.1.2.2.2.2,hk.1.2⟩⟩⟩⟩⟩)))⟩;have n2_ : Aside0 (Kd.N k52 52 w20 w.heap.size (fun k_ => (P0_1_ k_ ∨ w.heap.size ≤ k_)∧k_ ≠ gb201∧k_ ≠ gb202∧k_ ≠ gb203∧k_ ≠ gb205) u204001 x204001_1):=⟨(by rw [hw];exact (by (with_reducible repeat (first|apply Kd.N_alloc|apply Kd.N_drewN|apply Kd.N_drew));exact Kd.N_mono (Kd.N_far (p:=⟨gb205,1,none⟩) (Kd.N_far (p:=⟨gb205,0,none⟩) (Kd.N_mono HO_204001.out (fun k_ hk => (⟨hk,hk.2⟩ : _∧k_ ≠ gb205))) (fun _ hk => hk.2) (.int .i64 ((rd_T46 l0_1 x12_1).f0))) (fun _ hk => hk.2) (.slice A204_1 ((rd_T46 l0_1 x12_1).f1).length c204_1)) (fun _ hk => ⟨hk.1.1.1,⟨hk.1.1.2.1,⟨hk.1.1.2.2.1,⟨hk.1.1.2.2.2,hk.1.2⟩⟩⟩⟩)))⟩;have n3_ : Aside0 (Kd.V (Kd.int .i64) 3 w20 w.heap.size (fun k_ => (P0_1_ k_ ∨ w.heap.size ≤ k_)∧some k_ ≠ (u204001 : Value).ownBlock∧k_ ≠ gb201∧k_ ≠ gb202∧k_ ≠ gb203∧k_ ≠ gb205) (.slice A204_1 ((rd_T46 l0_1 x12_1).f1).length c204_1) ((rd_T46 l0_1 x12_1).f1)):=⟨(by rw [hw];exact (by (with_reducible repeat (first|apply Kd.V_alloc|apply Kd.V_drewN|apply Kd.V_drew));exact Kd.V_mono (Kd.V_far (p:=⟨gb205,1,none⟩) (Kd.V_far (p:=⟨gb205,0,none⟩) (Kd.V_mono HL204_1.out (fun k_ hk => (⟨hk,hk.2⟩ : _∧k_ ≠ gb205))) (fun _ hk => hk.2) (.int .i64 ((rd_T46 l0_1 x12_1).f0))) (fun _ hk => hk.2) (.slice A204_1 ((rd_T46 l0_1 x12_1).f1).length c204_1)) (fun _ hk => ⟨hk.1.1.1,⟨hk.1.1.2.1,⟨hk.1.1.2.2.1,⟨hk.1.1.2.2.2.1,⟨hk.1.1.2.2.2.2,hk.1.2⟩⟩⟩⟩⟩)))⟩;have n4_ : Aside0 (w20.heap[gb201]? = some (.cells #[.bool a0_0,.slice (some ad204) l0_1.length c0_1] 24 (0,0))):=⟨(by rw [hw];exact (by (with_reducible repeat (first|refine blk_drewN ?_ _|refine blk_drew ?_|refine blk_alloc ?_ _));refine blk_far ?_ NB201_205.out _;(with_reducible repeat (first|refine blk_drewN ?_ _|refine blk_drew ?_|refine blk_alloc ?_ _));refine blk_far ?_ NB201_205.out _;(with_reducible repeat (first|refine blk_drewN ?_ _|refine blk_drew ?_|refine blk_alloc ?_ _));exact BK201.out))⟩;have n5_ : Aside0 (w20.heap[gb202]? = some (.cells #[.bool false,.slice none 0 0] 31 (0,0))):=⟨(by rw [hw];exact (by (with_reducible repeat (first|refine blk_drewN ?_ _|refine blk_drew ?_|refine blk_alloc ?_ _));refine blk_far ?_ NB202_205.out _;(with_reducible repeat (first|refine blk_drewN ?_ _|refine blk_drew ?_|refine blk_alloc ?_ _));refine blk_far ?_ NB202_205.out _;(with_reducible repeat (first|refine blk_drewN ?_ _|refine blk_drew ?_|refine blk_alloc ?_ _));exact BK202.out))⟩;have n6_ : Aside0 (w20.heap[gb203]? = some (.cells #[.bool a0_0,u204001] 31 (0,0))):=⟨(by rw [hw];exact (by (with_reducible repeat (first|refine blk_drewN ?_ _|refine blk_drew ?_|refine blk_alloc ?_ _));refine blk_far ?_ NB203_205.out _;(with_reducible repeat (first|refine blk_drewN ?_ _|refine blk_drew ?_|refine blk_alloc ?_ _));refine blk_far ?_ NB203_205.out _;(with_reducible repeat (first|refine blk_drewN ?_ _|refine blk_drew ?_|refine blk_alloc ?_ _));exact BK203.out))⟩;have n7_ : Aside0 (w20.heap[gb205]? = some (.cells #[.int .i64 ((rd_T46 l0_1 x12_1).f0),.slice A204_1 ((rd_T46 l0_1 x12_1).f1).length c204_1] 46 (0,0))):=⟨(by rw [hw];exact (by (with_reducible repeat (first|refine blk_drewN ?_ _|refine blk_drew ?_|refine blk_alloc ?_ _));refine blk_put (cs:=#[.int .i64 ((rd_T46 l0_1 x12_1).f0),.slice none 0 0]) ?_ 1 _ rfl;(with_reducible repeat (first|refine blk_drewN ?_ _|refine blk_drew ?_|refine blk_alloc ?_ _));refine blk_put (cs:=#[.int .i64 0,.slice none 0 0]) ?_ 0 _ rfl;(with_reducible repeat (first|refine blk_drewN ?_ _|refine blk_drew ?_|refine blk_alloc ?_ _));exact BK205.out))⟩;have n8_ : Aside0 (Below w.heap.size w w20):=⟨(by rw [hw];exact (by repeat (first|(with_reducible first|exact HB.out|apply below_alloc|apply pw_below_drewN|apply below_drew1|refine below_set ?_ GE201.out|refine below_set ?_ GE202.out|refine below_set ?_ GE203.out|refine below_set ?_ GE205.out)|exact HB.out)))⟩;clear hw;clear HO_10;clear HO_202001;clear HO_204001;clear HL204_1;clear BK201;clear BK202;clear BK203;clear BK205;clear HB;have HO_10:=n0_;have HO_202001:=n1_;have HO_204001:=n2_;have HL204_1:=n3_;have BK201:=n4_;have BK202:=n5_;have BK203:=n6_;have BK205:=n7_;have HB:=n8_;clear n0_ n1_ n2_ n3_ n4_ n5_ n6_ n7_ n8_;have hnb21:=NB203_201.out;have hnc21:=NB201_203.out;have hnb22:=NB203_202.out;have hnc22:=NB202_203.out;have hcz23_0 : w20.cell? ⟨gb203,0,none⟩ = some (.bool a0_0):=(blk_cell BK203.out 0).trans rfl;have hcz23_1 : w20.cell? ⟨gb203,1,none⟩ = some (u204001):=(blk_cell BK203.out 1).trans rfl;have hfz23_0:=blk_frozen BK203.out 0;have hfz23_1:=blk_frozen BK203.out 1;have hcz24_0 : w20.cell? ⟨gb205,0,none⟩ = some (.int .i64 ((rd_T46 l0_1 x12_1).f0)):=(blk_cell BK205.out 0).trans rfl;have hcz24_1 : w20.cell? ⟨gb205,1,none⟩ = some (.slice A204_1 ((rd_T46 l0_1 x12_1).f1).length c204_1):=(blk_cell BK205.out 1).trans rfl;have hfz24_0:=blk_frozen BK205.out 0;have hfz24_1:=blk_frozen BK205.out 1)|((with_reducible refine gate_builtin (b:=.append) (xs:=#[.tmp 17,.tmp 23]) rfl ?_);at_builtin;refine Kd.N_append k52 (w0:=w) w.heap.size rfl (.tmp 17) (.tmp 23) 29 52 (.agg #[(.int .i64 0),(.slice none 0 0)]) 32 rfl Tryd.underlying29 info52 rfl (by decide) (by omega) u204001 x204001_1 (⟨(rd_T46 l0_1 x12_1).f0,(rd_T46 l0_1 x12_1).f1⟩ : S52) [.int .i64 ((rd_T46 l0_1 x12_1).f0),.slice A204_1 ((rd_T46 l0_1 x12_1).f1).length c204_1] (fun k_ => (P0_1_ k_ ∨ w.heap.size ≤ k_)∧k_ ≠ gb201∧k_ ≠ gb202∧k_ ≠ gb203∧k_ ≠ gb205) (fun k_ => ((fun k_ => (P0_1_ k_ ∨ w.heap.size ≤ k_)∧k_ ≠ gb201∧k_ ≠ gb202∧k_ ≠ gb203∧k_ ≠ gb205)) k_∧some k_ ≠ (u204001 : Value).ownBlock) rfl rfl ?aP (fun _ hk => hk) ?aF ?aO ?aB ?aS ?aL ?_;(case aP => exact (k52_mkF _ _ (⟨(rd_T46 l0_1 x12_1).f0,(rd_T46 l0_1 x12_1).f1⟩ : S52) (Kd.V_reads' (Kd.V_mono (ok':=(fun k_ => ((fun k_ => (P0_1_ k_ ∨ w.heap.size ≤ k_)∧k_ ≠ gb201∧k_ ≠ gb202∧k_ ≠ gb203∧k_ ≠ gb205)) k_∧some k_ ≠ (u204001 : Value).ownBlock)) (HL204_1.out) (fun k_ hk => ⟨⟨hk.1,⟨hk.2.2.1,⟨hk.2.2.2.1,⟨hk.2.2.2.2.1,hk.2.2.2.2.2⟩⟩⟩⟩,hk.2.1⟩))).2.1 (Kd.V_F (Kd.V_mono (ok':=(fun k_ => ((fun k_ => (P0_1_ k_ ∨ w.heap.size ≤ k_)∧k_ ≠ gb201∧k_ ≠ gb202∧k_ ≠ gb203∧k_ ≠ gb205)) k_∧some k_ ≠ (u204001 : Value).ownBlock)) (HL204_1.out) (fun k_ hk => ⟨⟨hk.1,⟨hk.2.2.1,⟨hk.2.2.2.1,⟨hk.2.2.2.2.1,hk.2.2.2.2.2⟩⟩⟩⟩,hk.2.1⟩)))));(case aB => exact (by repeat (first|(with_reducible first|exact HB.out|apply below_alloc|apply pw_below_drewN|apply below_drew1|refine below_set ?_ GE201.out|refine below_set ?_ GE202.out|refine below_set ?_ GE203.out|refine below_set ?_ GE205.out)|exact HB.out)));(case aF => exact (fun k_ hk => ⟨(.inr (Nat.le_trans (below_size (by repeat (first|(with_reducible first|exact HB.out|apply below_alloc|apply pw_below_drewN|apply below_drew1|refine below_set ?_ GE201.out|refine below_set ?_ GE202.out|refine below_set ?_ GE203.out|refine below_set ?_ GE205.out)|exact HB.out))) hk)),Kd.freshB (g:=gb201) (o:=.cells #[.bool a0_0,.slice (some ad204) l0_1.length c0_1] 24 (0,0)) (by (with_reducible repeat (first|refine blk_drewN ?_ _|refine blk_drew ?_|refine blk_alloc ?_ _));exact BK201.out) k_ hk,Kd.freshB (g:=gb202) (o:=.cells #[.bool false,.slice none 0 0] 31 (0,0)) (by (with_reducible repeat (first|refine blk_drewN ?_ _|refine blk_drew ?_|refine blk_alloc ?_ _));exact BK202.out) k_ hk,Kd.freshB (g:=gb203) (o:=.cells #[.bool a0_0,u204001] 31 (0,0)) (by (with_reducible repeat (first|refine blk_drewN ?_ _|refine blk_drew ?_|refine blk_alloc ?_ _));exact BK203.out) k_ hk,Kd.freshB (g:=gb205) (o:=.cells #[.int .i64 ((rd_T46 l0_1 x12_1).f0),.slice A204_1 ((rd_T46 l0_1 x12_1).f1).length c204_1] 46 (0,0)) (by (with_reducible repeat (first|refine blk_drewN ?_ _|refine blk_drew ?_|refine blk_alloc ?_ _));exact BK205.out) k_ hk⟩));(case aO => exact (by (with_reducible repeat (first|apply Kd.N_alloc|apply Kd.N_drewN|apply Kd.N_drew));exact HO_204001.out));(case aS => exact (below_size (by repeat (first|(with_reducible first|exact HB.out|apply below_alloc|apply pw_below_drewN|apply below_drew1|refine below_set ?_ GE201.out|refine below_set ?_ GE202.out|refine below_set ?_ GE203.out|refine below_set ?_ GE205.out)|exact HB.out))));(case aL => have:=LMc14.out;omega);intro v207 w25 ho hb hg hat;rw [← Ny206.out] at ho;have n0_:=Aside0.mk (Kd.V_afterv (ok:=(fun k_ => (P0_1_ k_ ∨ w.heap.size ≤ k_)∧k_ ≠ gb201∧k_ ≠ gb202∧k_ ≠ gb203∧k_ ≠ gb205)) (by (with_reducible repeat (first|apply Kd.V_alloc|apply Kd.V_drewN|apply Kd.V_drew));exact Kd.V_mono HO_10.out (fun _ hk => ⟨⟨hk.1,⟨hk.2.2.1,⟨hk.2.2.2.1,⟨hk.2.2.2.2.1,hk.2.2.2.2.2⟩⟩⟩⟩,hk.2.1⟩)) hg hat);have n1_:=Aside0.mk (Kd.V_afterv (ok:=(fun k_ => (P0_1_ k_ ∨ w.heap.size ≤ k_)∧k_ ≠ gb201∧k_ ≠ gb202∧k_ ≠ gb203∧k_ ≠ gb205)) (by (with_reducible repeat (first|apply Kd.V_alloc|apply Kd.V_drewN|apply Kd.V_drew));exact Kd.V_mono HO_202001.out (fun _ hk => ⟨⟨hk.1,⟨hk.2.2.1,⟨hk.2.2.2.1,⟨hk.2.2.2.2.1,hk.2.2.2.2.2⟩⟩⟩⟩,hk.2.1⟩)) hg hat);have n2_:=Aside0.mk (blk_grown (g:=gb201) (o:=.cells #[.bool a0_0,.slice (some ad204) l0_1.length c0_1] 24 (0,0)) (by (with_reducible repeat (first|refine blk_drewN ?_ _|refine blk_drew ?_|refine blk_alloc ?_ _));exact BK201.out) hg (Kd.N_ne HO_204001.out BK201.out (by decide)));have n3_:=Aside0.mk (blk_grown (g:=gb202) (o:=.cells #[.bool false,.slice none 0 0] 31 (0,0)) (by (with_reducible repeat (first|refine blk_drewN ?_ _|refine blk_drew ?_|refine blk_alloc ?_ _));exact BK202.out) hg (Kd.N_ne HO_204001.out BK202.out (by decide)));have n4_:=Aside0.mk (blk_grown (g:=gb203) (o:=.cells #[.bool a0_0,u204001] 31 (0,0)) (by (with_reducible repeat (first|refine blk_drewN ?_ _|refine blk_drew ?_|refine blk_alloc ?_ _));exact BK203.out) hg (Kd.N_ne HO_204001.out BK203.out (by decide)));have n5_:=Aside0.mk (Kd.V_afterv (ok:=(fun k_ => (P0_1_ k_ ∨ w.heap.size ≤ k_)∧k_ ≠ gb201∧k_ ≠ gb202∧k_ ≠ gb203∧k_ ≠ gb205)) (by (with_reducible repeat (first|apply Kd.V_alloc|apply Kd.V_drewN|apply Kd.V_drew));exact Kd.V_mono HL204_1.out (fun _ hk => ⟨⟨hk.1,⟨hk.2.2.1,⟨hk.2.2.2.1,⟨hk.2.2.2.2.1,hk.2.2.2.2.2⟩⟩⟩⟩,hk.2.1⟩)) hg hat);have n6_:=Aside0.mk (blk_grown (g:=gb205) (o:=.cells #[.int .i64 ((rd_T46 l0_1 x12_1).f0),.slice A204_1 ((rd_T46 l0_1 x12_1).f1).length c204_1] 46 (0,0)) (by (with_reducible repeat (first|refine blk_drewN ?_ _|refine blk_drew ?_|refine blk_alloc ?_ _));exact BK205.out) hg (Kd.N_ne HO_204001.out BK205.out (by decide)));have n7_:=Aside0.mk (hb);have n8_:=Aside0.mk (ho);clear HO_10;clear HO_202001;clear BK201;clear BK202;clear BK203;clear HL204_1;clear BK205;clear HB;clear HO_204001;have HO_10:=n0_;have HO_202001:=n1_;have BK201:=n2_;have BK202:=n3_;have BK203:=n4_;have HL204_1:=n5_;have BK205:=n6_;have HB:=n7_;have HO208:=n8_;clear n0_ n1_ n2_ n3_ n4_ n5_ n6_ n7_ n8_;clear ho hb hg hat;obtain ⟨Ao26,co26,eo26⟩:=Kd.N_slice HO208.out;subst eo26;have hcz27_0 : w25.cell? ⟨gb203,0,none⟩ = some (.bool a0_0):=(blk_cell BK203.out 0).trans rfl;have hcz27_1 : w25.cell? ⟨gb203,1,none⟩ = some (u204001):=(blk_cell BK203.out 1).trans rfl;have hfz27_0:=blk_frozen BK203.out 0;have hfz27_1:=blk_frozen BK203.out 1)));(go_roundg k1)
       case measure => have:=HK1.out;omega
       case rel => exact ⟨(wrap64 (x12_1 + 1)),(y206),(.slice Ao26 y206.length co26),(by first|rfl|(simp;done)|(simp [*];done)),H',⟨by have:=HK1.out;omega⟩,⟨by (with_reducible repeat (first|apply Kd.V_alloc|apply Kd.V_drewN|apply Kd.V_drew));exact Kd.V_mono (Kd.V_far (p:=⟨gb203,1,none⟩) (Kd.V_mono HO_10.out (fun k_ hk => (⟨hk,hk.1.2.2.2.1⟩ : _∧k_ ≠ gb203))) (fun _ hk => hk.2) (.slice Ao26 y206.length co26)) (fun _ hk => ⟨hk.1.1.1,⟨hk.1.2,⟨hk.1.1.2.1,⟨hk.1.1.2.2.1,hk.1.1.2.2.2.1⟩⟩⟩⟩)⟩,⟨by (with_reducible repeat (first|apply Kd.V_alloc|apply Kd.V_drewN|apply Kd.V_drew));exact Kd.V_mono (Kd.V_far (p:=⟨gb203,1,none⟩) (Kd.V_mono HO_202001.out (fun k_ hk => (⟨hk,hk.1.2.2.2.1⟩ : _∧k_ ≠ gb203))) (fun _ hk => hk.2) (.slice Ao26 y206.length co26)) (fun _ hk => ⟨hk.1.1.1,⟨hk.1.2,⟨hk.1.1.2.1,⟨hk.1.1.2.2.1,hk.1.1.2.2.2.1⟩⟩⟩⟩)⟩,⟨by (with_reducible repeat (first|apply Kd.N_alloc|apply Kd.N_drewN|apply Kd.N_drew));exact Kd.N_mono (Kd.N_far (p:=⟨gb203,1,none⟩) (Kd.N_mono HO208.out (fun k_ hk => (⟨hk,hk.2.2.2.1⟩ : _∧k_ ≠ gb203))) (fun _ hk => hk.2) (.slice Ao26 y206.length co26)) (fun _ hk => ⟨hk.1.1,⟨hk.1.2.1,⟨hk.1.2.2.1,hk.1.2.2.2.1⟩⟩⟩)⟩,⟨by (with_reducible repeat (first|refine blk_drewN ?_ _|refine blk_drew ?_|refine blk_alloc ?_ _));refine blk_far ?_ NB201_203.out _;(with_reducible repeat (first|refine blk_drewN ?_ _|refine blk_drew ?_|refine blk_alloc ?_ _));exact BK201.out⟩,⟨by (with_reducible repeat (first|refine blk_drewN ?_ _|refine blk_drew ?_|refine blk_alloc ?_ _));refine blk_far ?_ NB202_203.out _;(with_reducible repeat (first|refine blk_drewN ?_ _|refine blk_drew ?_|refine blk_alloc ?_ _));exact BK202.out⟩,⟨by (with_reducible repeat (first|refine blk_drewN ?_ _|refine blk_drew ?_|refine blk_alloc ?_ _));refine blk_put (cs:=#[.bool a0_0,u204001]) ?_ 1 _ rfl;(with_reducible repeat (first|refine blk_drewN ?_ _|refine blk_drew ?_|refine blk_alloc ?_ _));exact BK203.out⟩,⟨by repeat (first|(with_reducible first|exact HB.out|apply below_alloc|apply pw_below_drewN|apply below_drew1|refine below_set ?_ GE201.out|refine below_set ?_ GE202.out|refine below_set ?_ GE203.out|refine below_set ?_ GE205.out)|exact HB.out)⟩⟩
      ·(rw [if_neg c14] at H);(exact absurd H (by simp))
     ·(rw [if_neg c13] at H);(exact absurd H (by simp))
    ·(rw [if_neg c12] at H);(exact absurd H (by simp))
   ·(rw [if_neg c11] at H);(have c11b0 : decide (x12_1 < (l0_1.length : Int)) = false:=decide_eq_false c11);(clear c11);(simp only [Option.some.injEq,Prod.mk.injEq] at H);(obtain ⟨rfl,rfl⟩:=H);(have hnb28:=NB203_201.out);(have hnc28:=NB201_203.out);(have hnb29:=NB203_202.out);(have hnc29:=NB202_203.out);(have hcz30_0 : wr.cell? ⟨gb203,0,none⟩ = some (.bool a0_0):=(blk_cell BK203.out 0).trans rfl);(have hcz30_1 : wr.cell? ⟨gb203,1,none⟩ = some (u204001):=(blk_cell BK203.out 1).trans rfl);(have hfz30_0:=blk_frozen BK203.out 0);(have hfz30_1:=blk_frozen BK203.out 1);(have hnb31:=NB202_201.out);(have hnc31:=NB201_202.out);(have hcz32_0 : wr.cell? ⟨gb202,0,none⟩ = some (.bool false):=(blk_cell BK202.out 0).trans rfl);(have hcz32_1 : wr.cell? ⟨gb202,1,none⟩ = some (.slice none 0 0):=(blk_cell BK202.out 1).trans rfl);(have hfz32_0:=blk_frozen BK202.out 0);(have hfz32_1:=blk_frozen BK202.out 1);(obtain ⟨Ao33,co33,eo33⟩:=Kd.N_slice HO_204001.out);(subst eo33);(go_wp2);(refine bodyPost_ret (results_cell_row rfl _ _ gb202 31 #[.bool a0_0,.slice Ao33 x204001_1.length co33] (0,0) _ rfl (by (with_reducible repeat (first|refine blk_drewN ?_ _|refine blk_drew ?_|refine blk_alloc ?_ _));refine blk_put (cs:=#[.bool a0_0,.slice none 0 0]) ?_ 1 _ rfl;(with_reducible repeat (first|refine blk_drewN ?_ _|refine blk_drew ?_|refine blk_alloc ?_ _));refine blk_put (cs:=#[.bool false,.slice none 0 0]) ?_ 0 _ rfl;(with_reducible repeat (first|refine blk_drewN ?_ _|refine blk_drew ?_|refine blk_alloc ?_ _));exact BK202.out) Tryd.underlying31 rfl (by kernel_rfl)) rfl ?_);(exact ⟨_,by first|rfl|(simp [errW_none,errW_some] <;> rfl)|(simp [*,errW_none,errW_some] <;> rfl),by (with_reducible repeat (first|apply Kd.N_alloc|apply Kd.N_drewN|apply Kd.N_drew));exact Kd.N_mono (Kd.N_far (p:=⟨gb202,1,none⟩) (Kd.N_far (p:=⟨gb202,0,none⟩) (Kd.N_mono HO_204001.out (fun k_ hk => (⟨hk,hk.2.2.1⟩ : _∧k_ ≠ gb202))) (fun _ hk => hk.2) (.bool a0_0)) (fun _ hk => hk.2) (.slice Ao33 x204001_1.length co33)) (fun _ hk => hk.1.1),by repeat (first|(with_reducible first|exact HB.out|apply below_alloc|apply pw_below_drewN|apply below_drew1|refine below_set ?_ GE201.out|refine below_set ?_ GE202.out|refine below_set ?_ GE203.out)|exact HB.out)⟩)
end Go.Proofs.YtknbnnpggdegmaaDoor.PD
end
section
namespace Go.Proofs.YtknbnnpggdegmaaDoor.PD
open Go.RowKit Go.Sort Go.Proofs.YtknbnnpggdegmaaDoor.Lib Go.Proofs.YtknbnnpggdegmaaDoorW.PrintWords Go.Proofs.YtknbnnpggdegmaaDoorW.PrintLast Go.Proofs.YtknbnnpggdegmaaDoorW.PrintMore
set_option linter.unusedVariables false
set_option linter.unusedSimpArgs false
def sortL (zs : List Int) : List Int := zs.mergeSort fun x y => decide (x ≤ y)
def sorted (zs : List Int) : List Int := Go.Lib.compact (sortL zs)
theorem own_ne_nil {w : World} {base : Nat} {u : Value} {zs : List Int} (h : w.ownsRow base 3 1 u zs.length (zs.map (Value.int .i64))) (hz : zs ≠ []) : u ≠ .slice none 0 0 := by
  rintro rfl
  rcases h.2 with ⟨_, h0⟩ | ⟨g, cap, cur, e, _⟩
  · exact hz (List.length_eq_zero_iff.1 h0)
  · cases e
theorem own_grow {w : World} {base : Nat} {u : Value} {n : Nat} {xs : List Value} (h : w.ownsRow base 3 1 u n xs) (os : Array Obj) : (grow w os).ownsRow base 3 1 u n xs := by
  rcases h with ⟨h1, h2⟩
  refine ⟨h1, ?_⟩
  rcases h2 with h2 | ⟨g, cap, cur, e, hb, hg, hr⟩
  · exact .inl h2
  · refine .inr ⟨g, cap, cur, e, hb, ?_, hr⟩
    have hlt : g < w.heap.size := (Array.getElem?_eq_some_iff.1 hg).1
    show (w.heap ++ os)[g]? = _
    rw [Array.getElem?_append, if_pos hlt, hg]
theorem below_grow' {B : Nat} {w0 w : World} (h : Below B w0 w) (hB : B ≤ w.heap.size) (os : Array Obj) : Below B w0 (grow w os) :=
  ⟨h.os, h.tape, h.output, by show w0.heap.size ≤ (w.heap ++ os).size; rw [Array.size_append]; have := h.size; omega, fun k hk => by
    rw [← h.block k hk]
    show (w.heap ++ os)[k]? = _
    rw [Array.getElem?_append, if_pos (by omega)]⟩
theorem sort_own {w0 w : World} {ok : Nat → Prop} {u : Value} {zs : List Int} (HO : Kd.R (Kd.int .i64) 3 w w0.heap.size ok u zs) (HB : Below w0.heap.size w0 w) (hz : zs.length < 4611686018427387904) :
    Calls Tryd.prog 39 #[u] w fun e w' => e = .returned (.tuple #[]) ∧ Kd.R (Kd.int .i64) 3 w' w0.heap.size (fun _ => True) u (sortL zs) ∧ Below w0.heap.size w0 w' := by
  have ho : w.ownsRow w0.heap.size 3 1 u zs.length (zs.map (Value.int .i64)) := Kd.own_of_R HO
  by_cases hn : zs = []
  · subst hn
    obtain ⟨A, c, rfl⟩ := Kd.R_slice HO
    refine (Tryd.slices_Sort_int_none A c w).mono ?_
    rintro e w' ⟨rfl, rfl⟩
    exact ⟨rfl, Kd.R_mono (by simpa [sortL] using HO) (fun _ _ => trivial), HB⟩
  · obtain ⟨g, cap, rfl, hb, hlt, hnc, hcm, _, hH⟩ := Go.Lib.holds_of_ownsRow ho (own_ne_nil ho hn)
    refine (Tryd.slices_Sort_int g 0 cap zs w hH hlt hz).mono ?_
    rintro e w' ⟨rfl, n, os, rfl⟩
    have h1 := Go.Lib.ownsRow_putRow (q := n) (k := zs.length) (ys := sortL zs) ho (by simp [sortL]) (Nat.le_refl _)
    rw [List.take_of_length_le (by simp [sortL])] at h1
    have h2 := own_grow h1 os
    refine ⟨rfl, Kd.R_of_own ?_ (fun _ _ => trivial), below_grow' (Go.Lib.below_putRow HB hb) ?_ os⟩
    · have hl : (sortL zs).length = zs.length := by simp [sortL]
      rw [hl]
      exact h2
    · exact (Go.Lib.below_putRow (enc := Value.int .i64) (q := n) (d := (sortL zs).toArray) HB hb).size
theorem compact_own {w0 w : World} {ok : Nat → Prop} {u : Value} {zs : List Int} (HO : Kd.R (Kd.int .i64) 3 w w0.heap.size ok u zs) (HB : Below w0.heap.size w0 w) (hz : zs.length < 4611686018427387904) :
    Calls Tryd.prog 40 #[u] w fun e w' => ∃ u', e = .returned u' ∧ Kd.R (Kd.int .i64) 3 w' w0.heap.size (fun _ => True) u' (Go.Lib.compact zs) ∧ Below w0.heap.size w0 w' := by
  have ho : w.ownsRow w0.heap.size 3 1 u zs.length (zs.map (Value.int .i64)) := Kd.own_of_R HO
  by_cases hn : zs = []
  · subst hn
    obtain ⟨A, c, rfl⟩ := Kd.R_slice HO
    refine (Tryd.slices_Compact_int_empty A c w).mono ?_
    rintro e w' ⟨rfl, rfl⟩
    exact ⟨_, rfl, Kd.R_mono HO (fun _ _ => trivial), HB⟩
  · obtain ⟨g, cap, rfl, hb, hlt, hnc, hcm, _, hH⟩ := Go.Lib.holds_of_ownsRow ho (own_ne_nil ho hn)
    refine (Tryd.slices_Compact_int g 0 cap zs w hH (by omega) hnc).mono ?_
    rintro e w' ⟨rfl, q, rfl⟩
    have hcl : (Go.Lib.compact zs).length ≤ zs.length := Go.Lib.compact_length_le zs
    have h1 := Go.Lib.ownsRow_putRow (q := q) (k := (Go.Lib.compact zs).length) (ys := Go.Lib.compact zs ++ List.replicate (zs.length - (Go.Lib.compact zs).length) 0) ho (by simp; omega) hcl
    rw [List.take_left] at h1
    exact ⟨_, rfl, Kd.R_of_own h1 (fun _ _ => trivial), Go.Lib.below_putRow HB hb⟩
def dep_Jobs.l0 : Nat → List Int → List (S52) → Int → Int → Option (List Int)
  | 0, _, _, _, _ => none
  | k + 1, x3, x7, x8, x9 => if x9 < x8 then (if 0 ≤ x9 then (if x9 < (x7.length : Int) then (if x3.length + ((rd_T52 x7 x9).f1).length < 17592186044416 then (dep_Jobs.l0 k (x3 ++ ((rd_T52 x7 x9).f1)) x7 x8 (wrap64 (x9 + 1))) else (none)) else (none)) else (none)) else (some x3)
def dep_Jobs.f (k : Nat) (a0_0 : Bool) (l0_1 : List (S52)) : Option (List Int) := dep_Jobs.l0 k ([] : List Int) l0_1 (l0_1.length : Int) 0
set_option maxHeartbeats 8000000 in
set_option maxRecDepth 100000 in
theorem dep_Jobs.walk (k : Nat) (a0_0 : Bool) (A0_1 : Option Addr) (c0_1 : Nat) (l0_1 : List (S52)) (r : List Int) (w : World) (hr0_1 : Kd.C k52 w A0_1 l0_1.length l0_1) (hc0_1 : l0_1.length ≤ c0_1) (h : dep_Jobs.f k a0_0 l0_1 = some r) (hz : r.length < 4611686018427387904) :
    Calls Tryd.prog 21 #[.agg #[.bool a0_0, .slice A0_1 l0_1.length c0_1]] w fun e w' => ∃ A' c', e = .returned (.slice A' (sorted r).length c') ∧ (sorted r).length ≤ c' ∧ Kd.C (Kd.int .i64) w' A' (sorted r).length (sorted r) ∧ Below w.heap.size w w' := by
  have HZ := Aside0.mk hz
  clear hz
  have hu31 := Tryd.underlying31
  have hu52 := Tryd.underlying52
  have HR0_1 := Aside0.mk hr0_1
  have HC0_1 := Aside0.mk hc0_1
  clear hr0_1 hc0_1
  have HB := Aside0.mk (Below.refl w.heap.size w)
  have H : (dep_Jobs.l0 k ([] : List Int) l0_1 (l0_1.length : Int) 0) = some r := h
  clear h
  have H' := Aside0.mk H
  clear H
  go_enter Tryd.func21, Tryd.ntmps21
  go_wp2_with (first | ((with_reducible refine gate_dst (N := 1) rfl ?_); refine box_event ?hg (N := 1) ?hd (cs := #[.bool a0_0, .slice A0_1 l0_1.length c0_1]) (t := 31) ?hr ?_; (case hd => rfl); (case hg => rfl); (case hr => first | (go_simp; done) | (go_simp; rfl)); intro gb417 hg w2 hbox hb; have n0_ := Aside0.mk (below_step (by repeat (first | (with_reducible first | exact HB.out | apply below_alloc | apply pw_below_drewN | apply below_drew1) | exact HB.out)) hb); have n1_ := Aside0.mk (hbox); have n2_ := Aside0.mk ((by rw [hg]; exact (below_size (by repeat (first | (with_reducible first | exact HB.out | apply below_alloc | apply pw_below_drewN | apply below_drew1) | exact HB.out))) : w.heap.size ≤ gb417)); have n3_ := Aside0.mk ((by rw [hg]; exact (below_size (by repeat (first | (with_reducible first | exact HB.out | apply below_alloc | apply pw_below_drewN | apply below_drew1) | exact HB.out))) : w.heap.size ≤ gb417)); clear HB; have HB := n0_; have BK417 := n1_; have GW417 := n2_; have GE417 := n3_; clear n0_ n1_ n2_ n3_; clear hb hbox hg; have hcz3_0 : w2.cell? ⟨gb417, 0, none⟩ = some (.bool a0_0) := (blk_cell BK417.out 0).trans rfl; have hcz3_1 : w2.cell? ⟨gb417, 1, none⟩ = some (.slice A0_1 l0_1.length c0_1) := (blk_cell BK417.out 1).trans rfl; have hfz3_0 := blk_frozen BK417.out 0; have hfz3_1 := blk_frozen BK417.out 1))
  go_loopg [3, 9] k (fun kq v3 v9 w' => ∃ (x3_1 : List Int) (x9_1 : Int), v9 = .int .i64 x9_1 ∧ Aside0 (dep_Jobs.l0 kq x3_1 l0_1 (l0_1.length : Int) x9_1 = some r) ∧ Aside0 (kq ≤ k) ∧ Aside0 (Kd.R (Kd.int .i64) 3 w' w.heap.size (fun _ => True) v3 x3_1) ∧ Aside0 (w'.heap[gb417]? = some (.cells #[.bool a0_0, (.slice A0_1 l0_1.length c0_1)] 31 (0, 0))) ∧ Aside0 (Below w.heap.size w w'))
  case atStart => exact ⟨(([] : List Int)), (0), (by first | rfl | (simp; done) | (simp [*]; done)), H', ⟨Nat.le_refl _⟩, ⟨by first | exact Kd.R_nil _ _ _ _ _ | exact Kd.N_nil _ _ _ _ _ | exact Kd.V_nil _ _ _ _ _ | exact Kd.Q_nil _ _ _ _ _ | exact Kd.S_nil _ _ _ _ _⟩, ⟨by (with_reducible repeat (first | refine blk_drewN ?_ _ | refine blk_drew ?_ | refine blk_alloc ?_ _)); exact BK417.out⟩, ⟨by repeat (first | (with_reducible first | exact HB.out | apply below_alloc | apply pw_below_drewN | apply below_drew1 | refine below_set ?_ GE417.out) | exact HB.out)⟩⟩
  case round =>
    clear H'
    try clear c2
    try clear p2
    try clear hcz3_0
    try clear hcz3_1
    try clear hfz3_0
    try clear hfz3_1
    obtain ⟨x3_1, x9_1, rfl, HA, HK1, HO_3, BK417, HB⟩ := hrel
    cases gk with
    | zero => exact absurd HA.out (by simp [dep_Jobs.l0])
    | succ k1 =>
      have H := HA.out
      clear HA
      simp only [dep_Jobs.l0] at H
      by_cases c4 : x9_1 < (l0_1.length : Int)
      · rw [if_pos c4] at H
        have c4b0 : decide (x9_1 < (l0_1.length : Int)) = true := decide_eq_true c4
        clear c4
        by_cases c5 : 0 ≤ x9_1
        · rw [if_pos c5] at H
          have c5b0 : decide (0 ≤ x9_1) = true := decide_eq_true c5
          clear c5
          by_cases c6 : x9_1 < (l0_1.length : Int)
          · rw [if_pos c6] at H
            have c6b0 : decide (x9_1 < (l0_1.length : Int)) = true := decide_eq_true c6
            clear c6
            by_cases c7 : x3_1.length + ((rd_T52 l0_1 x9_1).f1).length < 17592186044416
            · rw [if_pos c7] at H
              have LMc7 := Aside0.mk c7
              clear c7
              obtain ⟨y420, hy420⟩ : ∃ y_ : List Int, y_ = (x3_1 ++ ((rd_T52 l0_1 x9_1).f1)) := ⟨_, rfl⟩
              replace H : (dep_Jobs.l0 k1 y420 l0_1 (l0_1.length : Int) (wrap64 (x9_1 + 1))) = some r := by first | (rw [hy420]; with_reducible exact H) | (have H2_ := (Option.bind_some _ _).symm.trans H; rw [hy420]; with_reducible exact H2_) | (have H2_ := (Option.bind_some _ _).symm.trans H; with_reducible exact H2_) | with_reducible exact H | (rw [hy420]; exact H) | exact H
              have Ny420 := Aside0.mk hy420
              clear hy420
              have H' := Aside0.mk H
              clear H
              have p418 : 0 ≤ (x9_1 : Int) := of_decide_eq_true (by first | (with_reducible assumption) | assumption)
              have q418 : x9_1 < (l0_1.length : Int) := of_decide_eq_true (by first | (with_reducible assumption) | assumption)
              obtain ⟨ad418, A418_1, c418_1, e418, hx418_0, hx418_1, hl418_1, hi418_1⟩ := at_T52 HR0_1.out x9_1 p418 q418
              cases e418
              replace hx418_0 := (HB.out.cell (World.block_lt_of_cell? w _ hx418_0)).trans hx418_0
              replace hx418_1 := (HB.out.cell (World.block_lt_of_cell? w _ hx418_1)).trans hx418_1
              have HR418_1 := Aside0.mk hi418_1
              have HC418_1 := Aside0.mk hl418_1
              clear hi418_1 hl418_1
              replace p418 := eq_true p418
              replace q418 := eq_true q418
              go_wp2_with (first | ((with_reducible refine gate_dst (N := 5) rfl ?_); refine box_event ?hg (N := 5) ?hd (cs := #[.int .i64 0, .slice none 0 0]) (t := 52) ?hr ?_; (case hd => rfl); (case hg => rfl); (case hr => first | (go_simp; done) | (go_simp; rfl)); intro gb419 hg w8 hbox hb; have n0_ := Aside0.mk (Kd.R_below (by (with_reducible repeat (first | apply Kd.R_alloc | apply Kd.R_drewN | apply Kd.R_drew)); exact HO_3.out) hb); have n1_ := Aside0.mk (blk_below (g := gb417) (o := .cells #[.bool a0_0, .slice (some ad418) l0_1.length c0_1] 31 (0, 0)) (by (with_reducible repeat (first | refine blk_drewN ?_ _ | refine blk_drew ?_ | refine blk_alloc ?_ _)); exact BK417.out) hb); have n2_ := Aside0.mk (below_step (by repeat (first | (with_reducible first | exact HB.out | apply below_alloc | apply pw_below_drewN | apply below_drew1 | refine below_set ?_ GE417.out) | exact HB.out)) hb); have n3_ := Aside0.mk (hbox); have n4_ := Aside0.mk ((by rw [hg]; exact (below_size (by repeat (first | (with_reducible first | exact HB.out | apply below_alloc | apply pw_below_drewN | apply below_drew1 | refine below_set ?_ GE417.out) | exact HB.out))) : w.heap.size ≤ gb419)); have n5_ := Aside0.mk ((by rw [hg]; exact (below_size (by repeat (first | (with_reducible first | exact HB.out | apply below_alloc | apply pw_below_drewN | apply below_drew1 | refine below_set ?_ GE417.out) | exact HB.out))) : w.heap.size ≤ gb419)); have n6_ := Aside0.mk ((by rw [hg]; exact Nat.ne_of_lt (blk_lt (g := gb417) (o := .cells #[.bool a0_0, .slice (some ad418) l0_1.length c0_1] 31 (0, 0)) (by (with_reducible repeat (first | refine blk_drewN ?_ _ | refine blk_drew ?_ | refine blk_alloc ?_ _)); exact BK417.out)) : gb417 ≠ gb419)); have n7_ := Aside0.mk ((by rw [hg]; exact Nat.ne_of_gt (blk_lt (g := gb417) (o := .cells #[.bool a0_0, .slice (some ad418) l0_1.length c0_1] 31 (0, 0)) (by (with_reducible repeat (first | refine blk_drewN ?_ _ | refine blk_drew ?_ | refine blk_alloc ?_ _)); exact BK417.out)) : gb419 ≠ gb417)); clear HO_3; clear BK417; clear HB; have HO_3 := n0_; have BK417 := n1_; have HB := n2_; have BK419 := n3_; have GW419 := n4_; have GE419 := n5_; have NB417_419 := n6_; have NB419_417 := n7_; clear n0_ n1_ n2_ n3_ n4_ n5_ n6_ n7_; clear hb hbox hg; have hnb9 := NB419_417.out; have hnc9 := NB417_419.out; have hcz10_0 : w8.cell? ⟨gb419, 0, none⟩ = some (.int .i64 0) := (blk_cell BK419.out 0).trans rfl; have hcz10_1 : w8.cell? ⟨gb419, 1, none⟩ = some (.slice none 0 0) := (blk_cell BK419.out 1).trans rfl; have hfz10_0 := blk_frozen BK419.out 0; have hfz10_1 := blk_frozen BK419.out 1) | ((with_reducible refine gate_builtin (b := .append) (xs := #[.tmp 13, .tmp 15]) rfl ?_); at_builtin; refine Kd.R_append_rows (Kd.int .i64) (w0 := w) w.heap.size rfl (.tmp 13) (.tmp 15) 44 3 (.int .i64 0) 8 rfl Tryd.underlying44 info3 rfl (by decide) (by omega) u3 x3_1 ((rd_T52 l0_1 x9_1).f1) _ _ _ (fun _ => True) (fun _ => False) rfl rfl ?aO ?aR (fun _ _ h => h) (fun _ h => h.elim) ?aF ?aB ?aS ?aL ?_; (case aR => exact Kd.C_below HR418_1.out (by repeat (first | (with_reducible first | exact HB.out | apply below_alloc | apply pw_below_drewN | apply below_drew1 | refine below_set ?_ GE417.out | refine below_set ?_ GE419.out) | exact HB.out))); (case aB => exact (by repeat (first | (with_reducible first | exact HB.out | apply below_alloc | apply pw_below_drewN | apply below_drew1 | refine below_set ?_ GE417.out | refine below_set ?_ GE419.out) | exact HB.out))); (case aF => exact (fun _ _ => trivial)); (case aO => exact (by (with_reducible repeat (first | apply Kd.R_alloc | apply Kd.R_drewN | apply Kd.R_drew)); exact Kd.R_mono (Kd.R_far (p := ⟨gb419, 1, none⟩) (Kd.R_far (p := ⟨gb419, 0, none⟩) (Kd.R_types HO_3.out BK419.out (by decide)) (fun _ hk => hk.2) (.int .i64 ((rd_T52 l0_1 x9_1).f0))) (fun _ hk => hk.2) (.slice A418_1 ((rd_T52 l0_1 x9_1).f1).length c418_1)) (fun _ hk => trivial))); (case aS => exact (below_size (by repeat (first | (with_reducible first | exact HB.out | apply below_alloc | apply pw_below_drewN | apply below_drew1 | refine below_set ?_ GE417.out | refine below_set ?_ GE419.out) | exact HB.out)))); (case aL => have := LMc7.out; omega); intro v421 w11 ho hb hg hat; rw [← Ny420.out] at ho; have n0_ := Aside0.mk (blk_grown (g := gb417) (o := .cells #[.bool a0_0, .slice (some ad418) l0_1.length c0_1] 31 (0, 0)) (by (with_reducible repeat (first | refine blk_drewN ?_ _ | refine blk_drew ?_ | refine blk_alloc ?_ _)); refine blk_far ?_ NB417_419.out _; (with_reducible repeat (first | refine blk_drewN ?_ _ | refine blk_drew ?_ | refine blk_alloc ?_ _)); refine blk_far ?_ NB417_419.out _; (with_reducible repeat (first | refine blk_drewN ?_ _ | refine blk_drew ?_ | refine blk_alloc ?_ _)); exact BK417.out) hg (Kd.R_ne HO_3.out BK417.out (by decide))); have n1_ := Aside0.mk (blk_grown (g := gb419) (o := .cells #[.int .i64 ((rd_T52 l0_1 x9_1).f0), .slice A418_1 ((rd_T52 l0_1 x9_1).f1).length c418_1] 52 (0, 0)) (by (with_reducible repeat (first | refine blk_drewN ?_ _ | refine blk_drew ?_ | refine blk_alloc ?_ _)); refine blk_put (cs := #[.int .i64 ((rd_T52 l0_1 x9_1).f0), .slice none 0 0]) ?_ 1 _ rfl; (with_reducible repeat (first | refine blk_drewN ?_ _ | refine blk_drew ?_ | refine blk_alloc ?_ _)); refine blk_put (cs := #[.int .i64 0, .slice none 0 0]) ?_ 0 _ rfl; (with_reducible repeat (first | refine blk_drewN ?_ _ | refine blk_drew ?_ | refine blk_alloc ?_ _)); exact BK419.out) hg (Kd.R_ne HO_3.out BK419.out (by decide))); have n2_ := Aside0.mk (hb); have n3_ := Aside0.mk (ho); clear BK417; clear BK419; clear HB; clear HO_3; have BK417 := n0_; have BK419 := n1_; have HB := n2_; have HO422 := n3_; clear n0_ n1_ n2_ n3_; clear ho hb hg hat))
              go_roundg k1
              case measure => have := HK1.out; omega
              case rel => exact ⟨(y420), (wrap64 (x9_1 + 1)), (by first | rfl | (simp; done) | (simp [*]; done)), H', ⟨by have := HK1.out; omega⟩, ⟨by (with_reducible repeat (first | apply Kd.R_alloc | apply Kd.R_drewN | apply Kd.R_drew)); exact HO422.out⟩, ⟨by (with_reducible repeat (first | refine blk_drewN ?_ _ | refine blk_drew ?_ | refine blk_alloc ?_ _)); exact BK417.out⟩, ⟨by repeat (first | (with_reducible first | exact HB.out | apply below_alloc | apply pw_below_drewN | apply below_drew1 | refine below_set ?_ GE417.out | refine below_set ?_ GE419.out) | exact HB.out)⟩⟩
            · rw [if_neg c7] at H
              exact absurd H (by simp)
          · rw [if_neg c6] at H
            exact absurd H (by simp)
        · rw [if_neg c5] at H
          exact absurd H (by simp)
      · rw [if_neg c4] at H
        have c4b0 : decide (x9_1 < (l0_1.length : Int)) = false := decide_eq_false c4
        clear c4
        have hxr := Option.some.inj H
        subst hxr
        obtain ⟨A9, c9, e9⟩ := Kd.R_slice HO_3.out
        subst e9
        go_wp2_with fail
        refine (sort_own HO_3.out HB.out HZ.out).mono ?_
        rintro e w8 ⟨rfl, ho, hb⟩
        have HO8 := Aside0.mk ho
        have HB8 := Aside0.mk hb
        have hsl : (sortL x3_1).length = x3_1.length := by simp [sortL]
        clear ho hb
        go_wp2_with fail
        refine Calls.mono (P := Tryd.prog) (calls_of_args ?ha (compact_own HO8.out HB8.out (by rw [hsl]; exact HZ.out))) ?_
        case ha => rfl
        rintro e w9 ⟨u9, rfl, ho, hb⟩
        obtain ⟨A10, c10, rfl⟩ := Kd.R_slice ho
        have HO9 := Aside0.mk ho
        have HB9 := Aside0.mk hb
        clear ho hb
        go_wp2
        go_ret
        exact ⟨_, _, rfl, (Kd.R_reads' HO9.out).2.1, (Kd.R_reads' HO9.out).2.2, HB9.out⟩
end Go.Proofs.YtknbnnpggdegmaaDoor.PD
end
section
namespace Go.Proofs.YtknbnnpggdegmaaDoor.Jb
open Go.Proofs.YtknbnnpggdegmaaDoor.PD Go.Lib
set_option linter.unusedVariables false
set_option linter.unusedSimpArgs false
abbrev SI (l : List Int) : Prop := l.Pairwise (· < ·)
def pos (l : List Int) (n : Int) : Nat := (l.takeWhile fun x => decide (x < n)).length
def insS (l : List Int) (n : Int) : List Int := if l[pos l n]? = some n then l else l.take (pos l n) ++ n :: l.drop (pos l n)
theorem insS_cons (a : Int) (l : List Int) (n : Int) : insS (a :: l) n = if a < n then a :: insS l n else if a = n then a :: l else n :: a :: l := by
  unfold insS pos
  by_cases h : a < n
  · rw [if_pos h]
    simp only [List.takeWhile_cons, h, decide_true, ↓reduceIte, List.length_cons, List.getElem?_cons_succ, List.take_succ_cons, List.drop_succ_cons]
    split <;> simp_all
  · rw [if_neg h]
    simp only [List.takeWhile_cons, h, decide_false, Bool.false_eq_true, ↓reduceIte, List.length_nil, List.getElem?_cons_zero, Option.some.injEq, List.take_zero, List.nil_append, List.drop_zero]
theorem mem_insS (l : List Int) (n x : Int) : x ∈ insS l n ↔ x = n ∨ x ∈ l := by
  induction l with
  | nil => simp [insS, pos]
  | cons a l ih =>
    rw [insS_cons]
    split
    · simp only [List.mem_cons, ih]
      constructor
      · rintro (h | h | h) <;> simp [h]
      · rintro (h | h | h) <;> simp [h]
    · split
      · rename_i h1 h2
        subst h2
        simp
      · simp
theorem SI_insS (l : List Int) (n : Int) (h : SI l) : SI (insS l n) := by
  induction l with
  | nil => simp [insS, pos, SI]
  | cons a l ih =>
    obtain ⟨h1, h2⟩ := List.pairwise_cons.1 h
    rw [insS_cons]
    split
    · rename_i hlt
      refine List.pairwise_cons.2 ⟨fun x hx => ?_, ih h2⟩
      rcases (mem_insS l n x).1 hx with rfl | hx
      · exact hlt
      · exact h1 x hx
    · split
      · exact h
      · rename_i h3 h4
        refine List.pairwise_cons.2 ⟨fun x hx => ?_, h⟩
        rcases List.mem_cons.1 hx with rfl | hx
        · omega
        · have := h1 x hx
          omega
theorem SI_ext : ∀ (l m : List Int), SI l → SI m → (∀ x, x ∈ l ↔ x ∈ m) → l = m
  | [], [], _, _, _ => rfl
  | [], b :: m, _, _, h => absurd ((h b).2 (by simp)) (by simp)
  | a :: l, [], _, _, h => absurd ((h a).1 (by simp)) (by simp)
  | a :: l, b :: m, hl, hm, h => by
    obtain ⟨h1, h2⟩ := List.pairwise_cons.1 hl
    obtain ⟨h3, h4⟩ := List.pairwise_cons.1 hm
    have e : a = b := by
      rcases List.mem_cons.1 ((h a).1 (by simp)) with e | e
      · exact e
      · rcases List.mem_cons.1 ((h b).2 (by simp)) with e' | e'
        · exact e'.symm
        · have := h3 a e; have := h1 b e'; omega
    subst e
    congr 1
    refine SI_ext l m h2 h4 fun x => ?_
    constructor
    · intro hx
      rcases List.mem_cons.1 ((h x).1 (by simp [hx])) with e | e
      · have := h1 x hx; omega
      · exact e
    · intro hx
      rcases List.mem_cons.1 ((h x).2 (by simp [hx])) with e | e
      · have := h3 x hx; omega
      · exact e
theorem compact_spec (d : Array Int) (hs : ∀ i j, i ≤ j → j < d.size → d[i]! ≤ d[j]!) : ∀ m, m ≤ d.size → SI (compactUpTo d m) ∧ ∀ x, x ∈ compactUpTo d m ↔ ∃ j, j < m ∧ d[j]! = x
  | 0, _ => ⟨by simp [compactUpTo, SI], fun x => by simp [compactUpTo]⟩
  | m + 1, hm => by
    obtain ⟨h1, h2⟩ := compact_spec d hs m (by omega)
    rw [compactUpTo_succ]
    by_cases hk : m = 0 ∨ d[m]! ≠ d[m - 1]!
    · have hk' : keeps d m = true := by simp [keeps, hk]
      rw [if_pos hk']
      refine ⟨List.pairwise_append.2 ⟨h1, by simp, fun a ha b hb => ?_⟩, fun x => ?_⟩
      · obtain ⟨j, hj, rfl⟩ := (h2 a).1 ha
        obtain rfl := List.mem_singleton.1 hb
        rcases hk with rfl | hk
        · omega
        · have := hs j (m - 1) (by omega) (by omega)
          have := hs (m - 1) m (by omega) (by omega)
          omega
      · rw [List.mem_append, h2, List.mem_singleton]
        constructor
        · rintro (⟨j, hj, e⟩ | e)
          · exact ⟨j, by omega, e⟩
          · exact ⟨m, by omega, e.symm⟩
        · rintro ⟨j, hj, e⟩
          rcases Nat.lt_or_ge j m with h | h
          · exact .inl ⟨j, h, e⟩
          · obtain rfl : j = m := by omega
            exact .inr e.symm
    · have hk' : ¬(keeps d m = true) := by simp [keeps, hk]
      have hm0 : m ≠ 0 := fun h => hk (.inl h)
      have he : d[m]! = d[m - 1]! := Decidable.byContradiction fun h => hk (.inr h)
      rw [if_neg hk', List.append_nil]
      refine ⟨h1, fun x => ?_⟩
      rw [h2]
      constructor
      · rintro ⟨j, hj, e⟩
        exact ⟨j, by omega, e⟩
      · rintro ⟨j, hj, e⟩
        rcases Nat.lt_or_ge j m with h | h
        · exact ⟨j, h, e⟩
        · obtain rfl : j = m := by omega
          exact ⟨j - 1, by omega, by rw [← he]; exact e⟩
theorem sorted_spec (zs : List Int) : SI (sorted zs) ∧ ∀ x, x ∈ sorted zs ↔ x ∈ zs := by
  have hp : (sortL zs).Pairwise fun x y => decide (x ≤ y) = true := List.pairwise_mergeSort (fun a b c h1 h2 => by simp at *; omega) (fun a b => by simp; omega) zs
  have hs : ∀ i j, i ≤ j → j < (sortL zs).toArray.size → (sortL zs).toArray[i]! ≤ (sortL zs).toArray[j]! := by
    intro i j hij hj
    have hj' : j < (sortL zs).length := by simpa using hj
    rcases Nat.lt_or_ge i j with h | h
    · have := List.pairwise_iff_getElem.1 hp i j (by omega) hj' h
      simpa [getElem!_pos, show i < (sortL zs).length by omega, hj'] using this
    · obtain rfl : i = j := by omega
      exact Int.le_refl _
  obtain ⟨h1, h2⟩ := compact_spec (sortL zs).toArray hs (sortL zs).length (by simp)
  refine ⟨h1, fun x => ?_⟩
  unfold sorted compact
  rw [h2]
  constructor
  · rintro ⟨j, hj, rfl⟩
    have : (sortL zs)[j] ∈ sortL zs := List.getElem_mem _
    have := (List.mergeSort_perm zs _).subset this
    simpa [getElem!_pos, hj] using this
  · intro hx
    have := (List.mergeSort_perm zs fun x y => decide (x ≤ y)).symm.subset hx
    obtain ⟨j, hj, e⟩ := List.getElem_of_mem this
    exact ⟨j, hj, by simpa [sortL, List.getElem?_eq_getElem hj] using e⟩
theorem fold_spec : ∀ (zs acc : List Int), SI acc → SI (zs.foldl insS acc) ∧ ∀ x, x ∈ zs.foldl insS acc ↔ x ∈ acc ∨ x ∈ zs
  | [], acc, h => ⟨h, fun x => by simp⟩
  | z :: zs, acc, h => by
    obtain ⟨h1, h2⟩ := fold_spec zs (insS acc z) (SI_insS acc z h)
    refine ⟨h1, fun x => ?_⟩
    rw [List.foldl_cons, h2, mem_insS, List.mem_cons]
    constructor
    · rintro ((h | h) | h) <;> simp [h]
    · rintro (h | h | h) <;> simp [h]
theorem fold_sorted (zs : List Int) : zs.foldl insS [] = sorted zs := by
  obtain ⟨h1, h2⟩ := fold_spec zs [] (by simp [SI])
  obtain ⟨h3, h4⟩ := sorted_spec zs
  exact SI_ext _ _ h1 h3 fun x => by rw [h2, h4]; simp
end Go.Proofs.YtknbnnpggdegmaaDoor.Jb
end
