/- Part 3 of the proof of HostSortsCardSaid. -/
import Derived.Test.YtoammgpfbdcphaaDoorProg
import Derived.Test.YtoammgpfbdcphaaDoorZ02
import Derived.Test.YtoammgpfbdcphaaDoorZ01
import Derived.WalkSmall
import Derived.Lib.LaidTab
import Derived.Lib.ItoaNum
import Derived.Lib.AtoiAll
import Derived.Lib.Join
import Derived.DataReads
import Derived.DataElems
import Derived.ChangeOld
import Derived.Below
import Derived.Deep.Draws
import Derived.Deep.AppendLies
import Derived.Maps.AppendAt
import Derived.OwnWalk
import Derived.Laws.BytesArg
import Derived.Laws.MakeOwn
import Derived.Laws.OwnMore
import Derived.Deep.OwnRows
import Derived.Tactics
import Derived.Lib.ConvBytes
import Derived.Laws.Slices
import Derived.WalkKit
import Derived.KernelRfl
import Derived.RowKit3
import Derived.Deep.LoopGhost
import Derived.Deep.QuietTactic
import Derived.BigQuiet
import Derived.WideLaws
import Derived.Deep.DeepCutAuto
import Derived.Deep.CutBlock
import Derived.Deep.RegionHeld3
import Derived.Laws.Rows
import Derived.Lib.AppendStr
import Derived.ArgAppend
import Derived.Laws.IdiomCopy
import Derived.OrdersHeld
import Derived.Laws.BitsLemmas
import Derived.RowKit
section
namespace Go.Proofs.YtoammgpfbdcphaaDoor.Lib
open Go.RowKit Go.Proofs.YtoammgpfbdcphaaDoorW.PrintWords
set_option linter.unusedVariables false
set_option linter.unusedSimpArgs false
structure Glob (w : World) : Prop where mk ::
  tab : Go.Lib.TabIs Tryd.prog w "internal/strconv.uint64pow10" .u64 Go.Lib.pow10Tab
  syn : ∃ tp p, w.var? Tryd.prog "strconv.ErrSyntax" = some #[.iface tp p]
  ran : ∃ tp p, w.var? Tryd.prog "strconv.ErrRange" = some #[.iface tp p]
theorem g_tab : Tryd.prog.globalNamed "internal/strconv.uint64pow10" = some 3 := by kernel_rfl
theorem g_syn : Tryd.prog.globalNamed "strconv.ErrSyntax" = some 0 := by kernel_rfl
theorem g_ran : Tryd.prog.globalNamed "strconv.ErrRange" = some 1 := by kernel_rfl
theorem var_lt {w : World} {n : String} {g : Nat} {cs : Array Value} (hg : Tryd.prog.globalNamed n = some g) (hv : w.var? Tryd.prog n = some cs) : g < w.heap.size := by
  unfold World.var? at hv
  simp only [hg, Option.bind_some] at hv
  cases h : w.heap[g]? with
  | none => rw [h] at hv; cases hv
  | some o => exact (Array.getElem?_eq_some_iff.1 h).1
theorem Glob.below {w w' : World} (h : Glob w) (hb : Below w.heap.size w w') : Glob w' := by
  obtain ⟨h1, ⟨t2, p2, h2⟩, ⟨t3, p3, h3⟩⟩ := h
  exact ⟨var?_below hb g_tab (var_lt g_tab h1) h1, ⟨t2, p2, var?_below hb g_syn (var_lt g_syn h2) h2⟩, ⟨t3, p3, var?_below hb g_ran (var_lt g_ran h3) h3⟩⟩
theorem below_grow (w : World) (k : Nat) (os : Array Obj) : Below w.heap.size w (Go.Sort.grow (w.drewN k) os) :=
  ⟨rfl, rfl, rfl, by show w.heap.size ≤ (w.heap ++ os).size; rw [Array.size_append]; omega, fun j hj => by show (w.heap ++ os)[j]? = _; rw [Array.getElem?_append, if_pos hj]⟩
def strconv_Itoa.f (a0 : Int) : Option ByteArray := if -9223372036854775808 ≤ a0 ∧ a0 ≤ 9223372036854775807 then some ⟨(Go.Lib.itoa a0).toArray⟩ else none
theorem strconv_Itoa.calls (a0 : Int) (r : ByteArray) (w : World) (h : strconv_Itoa.f a0 = some r) (hG : Glob w) :
    Calls Tryd.prog 45 #[.int .i64 a0] w fun e w' => e = .returned (.string r) ∧ Below w.heap.size w w' := by
  unfold strconv_Itoa.f at h
  split at h
  · rename_i hb
    cases h
    refine (Tryd.strconv_Itoa a0 hb.1 hb.2 w hG.tab).mono ?_
    rintro e w' ⟨rfl, k, os, rfl⟩
    exact ⟨rfl, below_grow w k os⟩
  · cases h
def atoiVal (l : List UInt8) : Int := match Go.Lib.atoiAll l with | .ok v => v | .range => Go.Lib.atoiSat l | _ => 0
def atoiOk (l : List UInt8) : Bool := match Go.Lib.atoiAll l with | .ok _ => true | _ => false
theorem strconv_Atoi_any (s : ByteArray) (hs : s.size ≤ 281474976710656) (w : World) (hG : Glob w) :
    Calls Tryd.prog 31 #[.string s] w fun e w' => ∃ ev, e = .returned (.tuple #[.int .i64 (atoiVal s.data.toList), ev]) ∧ (atoiOk s.data.toList = true → ev = .nilIface) ∧ (atoiOk s.data.toList = false → ∃ t p, ev = .iface t (.pointer (some p))) ∧ Below w.heap.size w w' := by
  obtain ⟨_, ⟨t2, p2, h2⟩, ⟨t3, p3, h3⟩⟩ := hG
  unfold atoiVal atoiOk
  cases h : Go.Lib.atoiAll s.data.toList with
  | ok v =>
    refine (Tryd.strconv_Atoi_ok s (by omega) v h w).mono ?_
    rintro e w' ⟨rfl, hw⟩
    refine ⟨_, rfl, fun _ => rfl, fun h => by simp at h, ?_⟩
    rcases hw with rfl | ⟨t, rfl⟩
    · exact Below.refl _ _
    · exact bytes_below (Below.refl _ _) (Nat.le_refl _) _ _
  | range =>
    refine (Tryd.strconv_Atoi_range_var s hs h t3 p3 w h3).mono ?_
    rintro e w' ⟨N, rfl, _, _, hb⟩
    exact ⟨_, rfl, fun h => by simp at h, fun _ => ⟨_, _, rfl⟩, hb⟩
  | _ =>
    refine (Tryd.strconv_Atoi_syntax_var s hs h t2 p2 w h2).mono ?_
    rintro e w' ⟨N, rfl, _, _, hb⟩
    exact ⟨_, rfl, fun h => by simp at h, fun _ => ⟨_, _, rfl⟩, hb⟩
def strings_Join.f (l : List ByteArray) (s : ByteArray) : Option ByteArray :=
  if l.length ≤ 140737488355328 ∧ (Go.Lib.join (l.map (·.data.toList)) s.data.toList).length ≤ 140737488355328 then some ⟨(Go.Lib.join (l.map (·.data.toList)) s.data.toList).toArray⟩ else none
theorem strings_Join.calls (A0 : Option Addr) (c0 : Nat) (l0 : List ByteArray) (a1 : ByteArray) (r : ByteArray) (w : World) (hr0 : Kd.C Kd.string w A0 l0.length l0) (hc0 : l0.length ≤ c0) (h : strings_Join.f l0 a1 = some r) :
    Calls Tryd.prog 29 #[.slice A0 l0.length c0, .string a1] w fun e w' => e = .returned (.string r) ∧ Below w.heap.size w w' := by
  unfold strings_Join.f at h
  split at h
  · rename_i hb
    cases h
    cases l0 with
    | nil =>
      refine (Tryd.strings_Join_none A0 c0 a1 w).mono ?_
      rintro e w' ⟨rfl, rfl⟩
      exact ⟨rfl, Below.refl _ _⟩
    | cons x l =>
      obtain ⟨_, _, hc1⟩ := hr0
      obtain ⟨ad, rfl, hc⟩ := hc1 (by simp)
      clear hc1
      have hcell : ∀ (j : Nat) y, (x :: l)[j]? = some y → w.cell? (ad.add j) = some (.string y) := fun j y hj => by
        obtain ⟨c, hl, rfl, hcc⟩ := hc j y hj
        have := hcc 0 _ rfl
        rwa [show j * Kd.string.sz + 0 = j from by simp [Kd.string, Kd.scalar]] at this
      obtain ⟨bk, o, sp⟩ := ad
      have h0 := hcell 0 x rfl
      have hsp : sp = none := by
        cases sp with
        | none => rfl
        | some z => simp [Addr.add, World.cell?] at h0; split at h0 <;> simp at h0
      subst hsp
      have hbk : bk < w.heap.size := by have := World.block_lt_of_cell? w _ h0; simpa [Addr.add] using this
      exact Tryd.strings_Join bk o c0 (x :: l) a1 w (fun j y hj => by have := hcell j y hj; unfold Addr.add at this; split at this <;> simp_all) hbk hb.1 hc0 hb.2
  · cases h
end Go.Proofs.YtoammgpfbdcphaaDoor.Lib
end
section
namespace Go.Proofs.YtoammgpfbdcphaaDoor.Op
open Go.RowKit Go.Proofs.YtoammgpfbdcphaaDoorW.PrintWords Go.Proofs.YtoammgpfbdcphaaDoorW.PrintLast Go.Proofs.YtoammgpfbdcphaaDoorW.PrintMore
set_option linter.unusedVariables false
set_option linter.unusedSimpArgs false
def Opens {α : Type} (P : Program) (t : TypeId) (K : World → α → List Value → Prop) (G : α → Prop) : Prop :=
  ∀ (H : Type) (enc : TypeId × Value → H) (w : World) (fuel : Nat) (cs : List Value) (d : DataW H) (ps : List MemPlace), DataW.trod enc P w 0 (fun _ => true) true fuel t cs = some (d, ps) → ∃ x, K w x cs ∧ G x
theorem opens_string {P : Program} {t : TypeId} (hu : P.underlying t = some .string) : Opens P t Kd.string.K (fun s => s.size ≤ maxLen) := by
  intro H enc w fuel cs d ps h
  cases fuel with
  | zero => simp [DataW.trod] at h
  | succ m =>
    unfold DataW.trod at h
    simp only [hu] at h
    split at h <;> first | cases h; done | skip
    all_goals first
      | (split at h; · rename_i hc; exact ⟨_, rfl, hc⟩
         · cases h)
      | (rename_i h1; cases h1)
      | (rename_i h1 h2; cases h1)
      | cases h
theorem choose_list {α : Type} (Pr : Nat → α → Prop) : ∀ (n : Nat), (∀ i, i < n → ∃ x, Pr i x) → ∃ xs : List α, xs.length = n ∧ ∀ j x, xs[j]? = some x → Pr j x
  | 0, _ => ⟨[], rfl, fun j x h => by simp at h⟩
  | n + 1, h => by
    obtain ⟨xs, hl, hx⟩ := choose_list Pr n (fun i hi => h i (by omega))
    obtain ⟨y, hy⟩ := h n (by omega)
    refine ⟨xs ++ [y], by simp [hl], fun j x hj => ?_⟩
    rcases Nat.lt_or_ge j n with hlt | hge
    · rw [List.getElem?_append_left (by omega)] at hj
      exact hx j x hj
    · rw [List.getElem?_append_right (by omega)] at hj
      obtain rfl : j = n := by
        have : j - xs.length < 1 := by
          have := (List.getElem?_eq_some_iff.1 hj).1
          simpa using this
        omega
      rw [hl, Nat.sub_self] at hj
      simp only [List.getElem?_cons_zero, Option.some.injEq] at hj
      subst hj
      exact hy
theorem opens_slice {α : Type} {P : Program} {t e : TypeId} {d : Kd α} {G : α → Prop} (q : Nat) (hu : P.underlying t = some (.slice e)) (hz : P.cellsOf e = d.sz) (hd : Opens P e d.K G) :
    Opens P t (Kd.slice q d).K (fun l => l.length ≤ maxLen ∧ ∀ x ∈ l, G x) := by
  intro H enc w fuel cs dd ps h
  cases fuel with
  | zero => simp [DataW.trod] at h
  | succ m =>
    unfold DataW.trod at h
    simp only [hu] at h
    split at h
    case h_7 => exact ⟨[], ⟨none, 0, rfl, Nat.le_refl _, ⟨rfl, Nat.zero_le _, fun h => absurd h (Nat.lt_irrefl _)⟩⟩, Nat.zero_le _, fun x hx => absurd hx List.not_mem_nil⟩
    case h_8 _ e' a len cap h1 =>
      injection h1 with h1
      injection h1 with h1
      subst h1
      split at h
      case isFalse => cases h
      case isTrue hc =>
        obtain ⟨hb, hlc, hcm⟩ := hc
        obtain ⟨elems, hm, h⟩ := Option.bind_eq_some_iff.1 h
        have hel : ∀ i, i < len → ∃ x, (G x ∧ ∃ c, c.length = d.sz ∧ d.K w x c ∧ ∀ i' u, c[i']? = some u → w.cell? (a.add (i * d.sz + i')) = some u) := by
          intro i hi
          have hg := mapM_some_get hm i i (by simp [hi])
          have hln : elems.length = (List.range len).length := mapM_some_length hm
          simp only [List.length_range] at hln
          rw [List.getElem?_eq_getElem (by omega)] at hg
          obtain ⟨c, hc1, hc2⟩ := Option.bind_eq_some_iff.1 hg
          obtain ⟨x, hx, hGx⟩ := hd H enc w m c _ _ hc2
          rw [hz] at hc1
          unfold World.cells? at hc1
          split at hc1
          case isFalse => cases hc1
          case isTrue =>
            have hcl : c.length = (List.range d.sz).length := mapM_some_length hc1
            simp only [List.length_range] at hcl
            refine ⟨x, hGx, c, hcl, hx, fun i' u hu' => ?_⟩
            have hlt := (List.getElem?_eq_some_iff.1 hu').1
            have hg' := mapM_some_get hc1 i' i' (show (List.range d.sz)[i']? = some i' from List.getElem?_range (by omega))
            rw [hu'] at hg'
            rw [← hg', show (a.add (i * d.sz)).add i' = a.add (i * d.sz + i') from Addr.add_add _ _ _]
        obtain ⟨xs, hxl, hxs⟩ := choose_list _ len hel
        subst hxl
        refine ⟨xs, ⟨some a, cap, rfl, hlc, ⟨rfl, Nat.le_trans hlc (Nat.le_trans hcm (by decide)), fun _ => ⟨a, rfl, fun j p hj => ?_⟩⟩⟩, Nat.le_trans hlc hcm, fun x hx => ?_⟩
        · obtain ⟨_, c, h1, h2, h3⟩ := hxs j p hj
          exact ⟨c, h1, h2, h3⟩
        · obtain ⟨j, hj⟩ := List.getElem?_of_mem hx
          exact (hxs j x hj).1
    all_goals first | cases h; done | (rename_i h1 h2; cases h1; done) | (rename_i h1; cases h1; done) | skip
theorem opens_arg {α : Type} {P : Program} {t : TypeId} {K : World → α → List Value → Prop} {G : α → Prop} (h : Opens P t K G) {H : Type} {enc : TypeId × Value → H} {w : World} {v : Value} {d : DataW H} {ps : List MemPlace} (ht : DataW.Trod enc P w 0 (fun _ => true) true t v d ps) :
    ∃ x, K w x v.cells.toList ∧ G x := by
  obtain ⟨fuel, hf⟩ := ht
  exact h H enc w fuel _ d ps hf
theorem trod_lt {H : Type} {enc : TypeId × Value → H} {P : Program} {w : World} {t : TypeId} {v : Value} {d : DataW H} {ps : List MemPlace} (ht : DataW.Trod enc P w 0 (fun _ => true) true t v d ps) : ∀ x ∈ ps, x.block < w.heap.size := by
  obtain ⟨m, hm⟩ := ht
  exact DataW.trod_lt m _ _ _ hm
end Go.Proofs.YtoammgpfbdcphaaDoor.Op
end
section
namespace Go.Proofs.YtoammgpfbdcphaaDoor.Lib
open Go.RowKit Go.Proofs.YtoammgpfbdcphaaDoorW.PrintWords
set_option linter.unusedVariables false
set_option linter.unusedSimpArgs false
def strings_IndexByte.f (a0 : ByteArray) (a1 : Int) : Option Int := some (Go.Lib.indexByte a0.data.toList a1.toNat.toUInt8)
theorem strings_IndexByte.calls (a0 : ByteArray) (a1 : Int) (r : Int) (w : World) (h : strings_IndexByte.f a0 a1 = some r) :
    Calls Tryd.prog 43 #[.string a0, .int .u8 a1] w fun e w' => e = .returned (.int .i64 r) ∧ w' = w := by
  cases h
  exact Tryd.strings_IndexByte a0 a1 w
def strings_Repeat.f (a0 : ByteArray) (a1 : Int) : Option ByteArray := if 0 ≤ a1 ∧ a1 ≤ 1000000 ∧ a0.size ≤ 1000 then some ⟨(Go.Lib.repeatL a0.data.toList a1.toNat).toArray⟩ else none
theorem strings_Repeat.calls (a0 : ByteArray) (a1 : Int) (r : ByteArray) (w : World) (h : strings_Repeat.f a0 a1 = some r) :
    Calls Tryd.prog 46 #[.string a0, .int .i64 a1] w fun e w' => e = .returned (.string r) ∧ Below w.heap.size w w' := by
  unfold strings_Repeat.f at h
  split at h
  · rename_i hb
    obtain ⟨n, rfl⟩ := Int.eq_ofNat_of_zero_le hb.1
    cases h
    have : a0.size * n ≤ 1000 * 1000000 := Nat.mul_le_mul hb.2.2 (by omega)
    exact Tryd.strings_Repeat a0 n w (by omega) (by omega)
  · cases h
def strconv_Atoi.f (a0 : ByteArray) : Option (Int × Option Int) := if a0.size ≤ 281474976710656 then some (atoiVal a0.data.toList, none) else none
theorem strconv_Atoi.calls (a0 : ByteArray) (r1 : Int) (r2 : Option Int) (w : World) (h : strconv_Atoi.f a0 = some (r1, r2)) (hG : Glob w) :
    Calls Tryd.prog 31 #[.string a0] w fun e w' => ∃ ev, e = .returned (.tuple #[.int .i64 r1, ev]) ∧ Below w.heap.size w w' := by
  unfold strconv_Atoi.f at h
  split at h
  · rename_i hb
    cases h
    refine (strconv_Atoi_any a0 hb w hG).mono ?_
    rintro e w' ⟨ev, rfl, _, _, hw⟩
    exact ⟨ev, rfl, hw⟩
  · cases h
theorem V_away {e : Nat} {W : World} {base n c g : Nat} {ok : Nat → Prop} {ad : Addr} {xs : List ByteArray} (h : Kd.V Kd.string e W base ok (.slice (some ad) n c) xs) (h0 : (0 : Int) < n) (hok : ∀ k, ok k → k ≠ g) : ad.block ≠ g := by
  obtain ⟨ad', cs, he, _, _, _, hb⟩ := Kd.F_get (Kd.V_F h) ByteArray.empty 0 (by omega) h0
  injection he with he
  subst he
  exact hok _ (hb (by decide))
end Go.Proofs.YtoammgpfbdcphaaDoor.Lib
end
section
namespace Go.Proofs.YtoammgpfbdcphaaDoor.PH
open Go.RowKit Go.Proofs.YtoammgpfbdcphaaDoor.Lib Go.Proofs.YtoammgpfbdcphaaDoorW.PrintWords Go.Proofs.YtoammgpfbdcphaaDoorW.PrintLast Go.Proofs.YtoammgpfbdcphaaDoorW.PrintMore
attribute [local go_sem] max2_int min2_int max_two min_two max_three min_three max_four min_four   
set_option linter.unusedVariables false
set_option linter.unusedSimpArgs false
def errW : Option Int → Value
 | none => .nilIface
 | some c => .iface 0 (.int .i64 c)
theorem errW_none : errW none = .nilIface:=rfl
theorem errW_some (c : Int) : errW (some c) = .iface 0 (.int .i64 c):=rfl
theorem info9 : (Tryd.prog.info? 9).map (fun i => (i.zero,i.size,i.bytes)) = some (some (.string ⟨#[]⟩),1,16):=by kernel_rfl
theorem info54 : (Tryd.prog.info? 54).map (fun i => (i.zero,i.size,i.bytes)) = some (some (.agg #[(.int .i64 0),(.int .i64 0),(.int .i64 0)]),3,24):=by kernel_rfl
structure S54 where
 f0 : Int
 f1 : Int
 f2 : Int
def z54 : S54 := ⟨(0 : Int), (0 : Int), (0 : Int)⟩
def k54 : Kd S54 := Kd.iso (Kd.pair (Kd.int .i64) (Kd.pair (Kd.int .i64) (Kd.int .i64))) (fun x : S54 => (x.f0, x.f1, x.f2))
theorem k54_open {w : World} {x : S54} {cs : List Value} (h : k54.K w x cs) : cs = [.int .i64 x.f0,.int .i64 x.f1,.int .i64 x.f2]:=by
 (obtain ⟨_,_,rfl,rfl,⟨_,_,rfl,rfl,rfl⟩⟩:=h);(exact rfl)
theorem k54_mkM (w : World) (base : Nat) (ok : Nat → Prop) (x : S54)  : k54.M w base ok x [.int .i64 x.f0,.int .i64 x.f1,.int .i64 x.f2]:=⟨[.int .i64 x.f0],[.int .i64 x.f1,.int .i64 x.f2],rfl,rfl,⟨[.int .i64 x.f1],[.int .i64 x.f2],rfl,rfl,rfl⟩⟩
def rd_T54 (xs : List S54) (i : Int) : S54 := xs.getD i.toNat z54
theorem at_T54 {w : World} {A : Option Addr} {n : Nat} {xs : List S54} (h : Kd.C k54 w A n xs) (i : Int) (h0 : 0 ≤ i) (h1 : i < n) : ∃ ad ,A = some ad∧w.cell? (ad.add (i.toNat * 3)) = some (.int .i64 (rd_T54 xs i).f0)∧w.cell? ⟨(ad.add (i.toNat * 3)).block,(ad.add (i.toNat * 3)).off + 1,none⟩ = some (.int .i64 (rd_T54 xs i).f1)∧w.cell? ⟨(ad.add (i.toNat * 3)).block,(ad.add (i.toNat * 3)).off + 2,none⟩ = some (.int .i64 (rd_T54 xs i).f2):=by
 (obtain ⟨ad,c,e,_,hK,hc0⟩:=Kd.C_get h z54 i h0 h1);(have hc : ∀ j u,c[j]? = some u → w.cell? (ad.add (i.toNat * 3 + j)) = some u:=hc0);(obtain rfl:=k54_open hK);(exact ⟨ad,e,hc 0 _ rfl,by rw [← add_field _ _ 1 (by omega)];exact hc 1 _ rfl,by rw [← add_field _ _ 2 (by omega)];exact hc 2 _ rfl⟩)
end Go.Proofs.YtoammgpfbdcphaaDoor.PH
end
section
namespace Go.Proofs.YtoammgpfbdcphaaDoor.PH
open Go.RowKit Go.Proofs.YtoammgpfbdcphaaDoor.Lib Go.Proofs.YtoammgpfbdcphaaDoorW.PrintWords Go.Proofs.YtoammgpfbdcphaaDoorW.PrintLast Go.Proofs.YtoammgpfbdcphaaDoorW.PrintMore
attribute [local go_sem] max2_int min2_int max_two min_two max_three min_three max_four min_four   
set_option linter.unusedVariables false
set_option linter.unusedSimpArgs false
theorem eqA27 (d : Nat) (w : World) (x0 y0 : Int) (x1 y1 : Int) :
  (Op.equalIn (d + 2) 27 (.agg #[.int .i64 x0,.int .i64 x1]) (.agg #[.int .i64 y0,.int .i64 y1])).run Tryd.prog w = .ok (x0 == y0 && (x1 == y1)) w:=by
 (refine eqA_of Tryd.underlying27 (by kernel_rfl) ?_);(refine eqf_cons (by rfl) (by go_simp;rfl) (by go_simp;rfl) (by go_simp) ?_);(exact eqf_last (by rfl) (by go_simp;rfl) (by go_simp;rfl) (by go_simp))
end Go.Proofs.YtoammgpfbdcphaaDoor.PH
end
section
namespace Go.Proofs.YtoammgpfbdcphaaDoor.PH
open Go.RowKit Go.Proofs.YtoammgpfbdcphaaDoor.Lib Go.Proofs.YtoammgpfbdcphaaDoorW.PrintWords Go.Proofs.YtoammgpfbdcphaaDoorW.PrintLast Go.Proofs.YtoammgpfbdcphaaDoorW.PrintMore
attribute [local go_sem] max2_int min2_int max_two min_two max_three min_three max_four min_four   
set_option linter.unusedVariables false
set_option linter.unusedSimpArgs false
attribute [local go_sem high] eqA27
def host_isDigit.f (a0 : Int) : Option (Bool) := if a0 ≥ 48 then (some (decide (a0 ≤ 57))) else (some false)
set_option maxHeartbeats 8000000 in
set_option maxRecDepth 100000 in
theorem host_isDigit.calls (a0 : Int) (r : Bool) (w : World) (h : host_isDigit.f a0 = some r) :
  Calls Tryd.prog 30 #[.int .u8 a0] w fun e w' => e = .returned (.bool r)∧Drawn0 w w':=by
 (have H : (if a0 ≥ 48 then (some (decide (a0 ≤ 57))) else (some false)) = some r:=h);(clear h);(by_cases c2 : a0 ≥ 48);·(rw [if_pos c2] at H);(have c2b0 : decide (48 ≤ a0) = true:=decide_eq_true c2);(clear c2);(obtain rfl:=Option.some.inj H);(go_enter Tryd.func30,Tryd.ntmps30);(go_wp2);(go_ret);(exact ⟨by first|rfl|(simp;done)|(simp [*];done),by repeat (first|exact Drawn0.refl _|apply Drawn0.step)⟩)
 ·(rw [if_neg c2] at H);(have c2b0 : decide (48 ≤ a0) = false:=decide_eq_false c2);(clear c2);(obtain rfl:=Option.some.inj H);(go_enter Tryd.func30,Tryd.ntmps30);(go_wp2);(go_ret);(exact ⟨by first|rfl|(simp;done)|(simp [*];done),by repeat (first|exact Drawn0.refl _|apply Drawn0.step)⟩)
def host_isBare.f (a0 : Int) : Option (Bool) := (host_isDigit.f a0).bind fun t101 => (if t101 = true then (some true) else (if (Go.bits .or .u8 a0 32) ≥ 97 then (if (Go.bits .or .u8 a0 32) ≤ 122 then (some true) else ((strings_IndexByte.f (⟨#[45, 95, 46]⟩ : ByteArray) a0).bind fun t102 => (some (decide (t102 ≥ 0))))) else ((strings_IndexByte.f (⟨#[45, 95, 46]⟩ : ByteArray) a0).bind fun t103 => (some (decide (t103 ≥ 0))))))
set_option maxHeartbeats 8000000 in
set_option maxRecDepth 100000 in
theorem host_isBare.calls (a0 : Int) (r : Bool) (w : World) (h : host_isBare.f a0 = some r) :
  Calls Tryd.prog 24 #[.int .u8 a0] w fun e w' => e = .returned (.bool r)∧Drawn0 w w':=by
 (have H : ((host_isDigit.f a0).bind fun t101 => (if t101 = true then (some true) else (if (Go.bits .or .u8 a0 32) ≥ 97 then (if (Go.bits .or .u8 a0 32) ≤ 122 then (some true) else ((strings_IndexByte.f (⟨#[45,95,46]⟩ : ByteArray) a0).bind fun t102 => (some (decide (t102 ≥ 0))))) else ((strings_IndexByte.f (⟨#[45,95,46]⟩ : ByteArray) a0).bind fun t103 => (some (decide (t103 ≥ 0))))))) = some r:=h);(clear h);(replace H:=Option.bind_eq_some_iff.mp H);(obtain ⟨t101,A20,H⟩:=H);(replace H : (if t101 = true then (some true) else (if (Go.bits .or .u8 a0 32) ≥ 97 then (if (Go.bits .or .u8 a0 32) ≤ 122 then (some true) else ((strings_IndexByte.f (⟨#[45,95,46]⟩ : ByteArray) a0).bind fun t102 => (some (decide (t102 ≥ 0))))) else ((strings_IndexByte.f (⟨#[45,95,46]⟩ : ByteArray) a0).bind fun t103 => (some (decide (t103 ≥ 0)))))) = some r:=H);(have A2:=Aside0.mk A20);(clear A20);(by_cases c3 : t101 = true);·(subst c3);(have H1 : (some true) = some r:=by rw [if_pos rfl] at H;exact H);(clear H);(have H:=H1);(clear H1);(obtain rfl:=Option.some.inj H);(go_enter Tryd.func24,Tryd.ntmps24);(go_wp2_with (first|((with_reducible refine gate_callee (f:=30) rfl ?_);refine goesL_ (some 4) rfl rfl Tryd.func30 (by kernel_rfl) rfl #[.int .u8 a0] rfl (by (try simp only [List.map_toArray,List.map_cons,List.map_nil]);first|done|rfl|(simp only [List.length_drop,List.length_take];rfl)) ?_;(with_reducible refine (host_isDigit.calls a0 true _ A2.out).mono ?_);rintro e w' ⟨rfl,⟨nd,rfl⟩⟩;refine ⟨_,rfl,?_⟩)));(go_ret);(exact ⟨by first|rfl|(simp;done)|(simp [*];done),by repeat (first|exact Drawn0.refl _|apply Drawn0.step)⟩)
 ·(replace c3:=Bool.eq_false_iff.mpr c3);(subst c3);(have H1 : (if (Go.bits .or .u8 a0 32) ≥ 97 then (if (Go.bits .or .u8 a0 32) ≤ 122 then (some true) else ((strings_IndexByte.f (⟨#[45,95,46]⟩ : ByteArray) a0).bind fun t102 => (some (decide (t102 ≥ 0))))) else ((strings_IndexByte.f (⟨#[45,95,46]⟩ : ByteArray) a0).bind fun t103 => (some (decide (t103 ≥ 0))))) = some r:=by rw [if_neg (show ¬ (false = true) by decide)] at H;exact H);(clear H);(have H:=H1);(clear H1);(by_cases c4 : (Go.bits .or .u8 a0 32) ≥ 97)
  ·(rw [if_pos c4] at H);(have c4b0 : decide (97 ≤ (Go.bits .or .u8 a0 32)) = true:=decide_eq_true c4);(clear c4);(by_cases c5 : (Go.bits .or .u8 a0 32) ≤ 122)
   ·(rw [if_pos c5] at H);(have c5b0 : decide ((Go.bits .or .u8 a0 32) ≤ 122) = true:=decide_eq_true c5);(clear c5);(obtain rfl:=Option.some.inj H);(go_enter Tryd.func24,Tryd.ntmps24);(go_wp2_with (first|((with_reducible refine gate_callee (f:=30) rfl ?_);refine goesL_ (some 4) rfl rfl Tryd.func30 (by kernel_rfl) rfl #[.int .u8 a0] rfl (by (try simp only [List.map_toArray,List.map_cons,List.map_nil]);first|done|rfl|(simp only [List.length_drop,List.length_take];rfl)) ?_;(with_reducible refine (host_isDigit.calls a0 false _ A2.out).mono ?_);rintro e w' ⟨rfl,⟨nd,rfl⟩⟩;refine ⟨_,rfl,?_⟩)));(go_ret);(exact ⟨by first|rfl|(simp;done)|(simp [*];done),by repeat (first|exact Drawn0.refl _|apply Drawn0.step)⟩)
   ·(rw [if_neg c5] at H);(have c5b0 : decide ((Go.bits .or .u8 a0 32) ≤ 122) = false:=decide_eq_false c5);(clear c5);(replace H:=Option.bind_eq_some_iff.mp H);(obtain ⟨t102,A60,H⟩:=H);(replace H : (some (decide (t102 ≥ 0))) = some r:=H);(have A6:=Aside0.mk A60);(clear A60);(obtain rfl:=Option.some.inj H);(go_enter Tryd.func24,Tryd.ntmps24);(go_wp2_with (first|((with_reducible refine gate_callee (f:=30) rfl ?_);refine goesL_ (some 4) rfl rfl Tryd.func30 (by kernel_rfl) rfl #[.int .u8 a0] rfl (by (try simp only [List.map_toArray,List.map_cons,List.map_nil]);first|done|rfl|(simp only [List.length_drop,List.length_take];rfl)) ?_;(with_reducible refine (host_isDigit.calls a0 false _ A2.out).mono ?_);rintro e w' ⟨rfl,⟨nd,rfl⟩⟩;refine ⟨_,rfl,?_⟩)|(go_at_call 43;(with_reducible refine (strings_IndexByte.calls (⟨#[45,95,46]⟩ : ByteArray) a0 t102 _ A6.out).mono ?_);rintro e w' ⟨rfl,⟨nd,rfl⟩⟩)));(go_ret);(exact ⟨by first|rfl|(simp;done)|(simp [*];done),by repeat (first|exact Drawn0.refl _|apply Drawn0.step)⟩)
  ·(rw [if_neg c4] at H);(have c4b0 : decide (97 ≤ (Go.bits .or .u8 a0 32)) = false:=decide_eq_false c4);(clear c4);(replace H:=Option.bind_eq_some_iff.mp H);(obtain ⟨t103,A70,H⟩:=H);(replace H : (some (decide (t103 ≥ 0))) = some r:=H);(have A7:=Aside0.mk A70);(clear A70);(obtain rfl:=Option.some.inj H);(go_enter Tryd.func24,Tryd.ntmps24);(go_wp2_with (first|((with_reducible refine gate_callee (f:=30) rfl ?_);refine goesL_ (some 4) rfl rfl Tryd.func30 (by kernel_rfl) rfl #[.int .u8 a0] rfl (by (try simp only [List.map_toArray,List.map_cons,List.map_nil]);first|done|rfl|(simp only [List.length_drop,List.length_take];rfl)) ?_;(with_reducible refine (host_isDigit.calls a0 false _ A2.out).mono ?_);rintro e w' ⟨rfl,⟨nd,rfl⟩⟩;refine ⟨_,rfl,?_⟩)|(go_at_call 43;(with_reducible refine (strings_IndexByte.calls (⟨#[45,95,46]⟩ : ByteArray) a0 t103 _ A7.out).mono ?_);rintro e w' ⟨rfl,⟨nd,rfl⟩⟩)));(go_ret);(exact ⟨by first|rfl|(simp;done)|(simp [*];done),by repeat (first|exact Drawn0.refl _|apply Drawn0.step)⟩)
def IsS49 (w0 W : World) (g : Nat) (f0 : ByteArray) (f1 : Int) (f2 : Int) (f3 : Int) : Prop := W.heap[g]? = some (.cells #[.string f0, .int .i64 f1, .int .i64 f2, .int .i64 f3] 49 (0, 0)) ∧ w0.heap.size ≤ g
theorem IsS49.grown {w0 W : World} {g : Nat} {f0 : ByteArray} {f1 : Int} {f2 : Int} {f3 : Int} {W1 : World} {row : Option Nat} (h : IsS49 w0 W g f0 f1 f2 f3) (hw : W.grownBy W1 row) (hne : some g ≠ row) : IsS49 w0 W1 g f0 f1 f2 f3:=by
 (obtain ⟨hb,hg⟩:=h);(exact ⟨blk_grown hb hw hne,hg⟩)
theorem IsS49.kept {w0 W : World} {g : Nat} {f0 : ByteArray} {f1 : Int} {f2 : Int} {f3 : Int} {W1 : World} {S : Nat → Prop} (h : IsS49 w0 W g f0 f1 f2 f3) (hk : Kept W W1 S) (hne : ¬ S g) : IsS49 w0 W1 g f0 f1 f2 f3:=by
 (obtain ⟨hb,hg⟩:=h);(exact ⟨blk_kept hb hk hne,hg⟩)
theorem IsS49.below {w0 W : World} {g : Nat} {f0 : ByteArray} {f1 : Int} {f2 : Int} {f3 : Int} {W1 : World} (h : IsS49 w0 W g f0 f1 f2 f3) (hw : Below W.heap.size W W1) : IsS49 w0 W1 g f0 f1 f2 f3:=h.grown (grown_of_below hw none) (by simp)
theorem IsS49.alloc {w0 W : World} {g : Nat} {f0 : ByteArray} {f1 : Int} {f2 : Int} {f3 : Int} (h : IsS49 w0 W g f0 f1 f2 f3) (o : Obj) : IsS49 w0 (W.alloc o) g f0 f1 f2 f3:=h.below (below_alloc (Below.refl _ _) o)
theorem IsS49.drewN {w0 W : World} {g : Nat} {f0 : ByteArray} {f1 : Int} {f2 : Int} {f3 : Int} (h : IsS49 w0 W g f0 f1 f2 f3) (m : Nat) : IsS49 w0 (W.drewN m) g f0 f1 f2 f3:=h
theorem IsS49.drew {w0 W : World} {g : Nat} {f0 : ByteArray} {f1 : Int} {f2 : Int} {f3 : Int} (h : IsS49 w0 W g f0 f1 f2 f3) : IsS49 w0 W.drew g f0 f1 f2 f3:=h
theorem IsS49.at_ {w0 W : World} {g : Nat} {f0 : ByteArray} {f1 : Int} {f2 : Int} {f3 : Int} {w' : World} {m : Nat} (hq : W.drewN m = w') (h : IsS49 w0 W g f0 f1 f2 f3) : IsS49 w0 w' g f0 f1 f2 f3:=by subst hq;exact IsS49.drewN h m
theorem IsS49.apart {w0 W : World} {g : Nat} {f0 : ByteArray} {f1 : Int} {f2 : Int} {f3 : Int} {α : Type} {d : Kd α} {e : Nat} {base : Nat} {ok : Nat → Prop} {v : Value} {xs : List α} (h : IsS49 w0 W g f0 f1 f2 f3) (ho : d.R e W base ok v xs) (ht : ∀ q,q ∈ e :: d.E → q ≠ 49) : d.R e W base (fun k => ok k∧k ≠ g) v xs:=by
 (obtain ⟨hb,hg⟩:=h);(exact Kd.R_types ho hb ht)
theorem IsS49.own_ne {w0 W : World} {g : Nat} {f0 : ByteArray} {f1 : Int} {f2 : Int} {f3 : Int} {α : Type} {d : Kd α} {e : Nat} {base : Nat} {ok : Nat → Prop} {v : Value} {xs : List α} (h : IsS49 w0 W g f0 f1 f2 f3) (ho : d.R e W base ok v xs) (ht : e ≠ 49) : some g ≠ v.ownBlock:=by
 (obtain ⟨hb,hg⟩:=h);(exact Kd.R_ne ho hb ht)
theorem IsS49.lt {w0 W : World} {g : Nat} {f0 : ByteArray} {f1 : Int} {f2 : Int} {f3 : Int} (h : IsS49 w0 W g f0 f1 f2 f3) : g < W.heap.size:=by
 (obtain ⟨hb,hg⟩:=h);(exact blk_lt hb)
theorem IsS49.ge {w0 W : World} {g : Nat} {f0 : ByteArray} {f1 : Int} {f2 : Int} {f3 : Int} (h : IsS49 w0 W g f0 f1 f2 f3) : w0.heap.size ≤ g:=by
 (obtain ⟨hb,hg⟩:=h);(exact hg)
theorem IsS49.far {w0 W : World} {g : Nat} {f0 : ByteArray} {f1 : Int} {f2 : Int} {f3 : Int} {p : Addr} (h : IsS49 w0 W g f0 f1 f2 f3) (hne : g ≠ p.block) (u : Value) : IsS49 w0 (W.setCell p u) g f0 f1 f2 f3:=by
 (obtain ⟨hb,hg⟩:=h);(exact ⟨blk_far hb hne u,hg⟩)
theorem cellS49_0 {W : World} {g : Nat} {f0 : ByteArray} {f1 : Int} {f2 : Int} {f3 : Int} (h : W.heap[g]? = some (.cells #[.string f0,.int .i64 f1,.int .i64 f2,.int .i64 f3] 49 (0,0))) : W.cell? ⟨g,0,none⟩ = some (.string f0):=(blk_cell h 0).trans rfl
theorem IsS49.set_0 {w0 W : World} {g : Nat} {f0 : ByteArray} {f1 : Int} {f2 : Int} {f3 : Int} (h : IsS49 w0 W g f0 f1 f2 f3) (x : ByteArray) : IsS49 w0 (W.setCell ⟨g,0,none⟩ (.string x)) g x f1 f2 f3:=by
 (obtain ⟨hb,hg⟩:=h);(exact ⟨by simpa using blk_set hb 0 (.string x),hg⟩)
theorem cellS49_1 {W : World} {g : Nat} {f0 : ByteArray} {f1 : Int} {f2 : Int} {f3 : Int} (h : W.heap[g]? = some (.cells #[.string f0,.int .i64 f1,.int .i64 f2,.int .i64 f3] 49 (0,0))) : W.cell? ⟨g,1,none⟩ = some (.int .i64 f1):=(blk_cell h 1).trans rfl
theorem IsS49.set_1 {w0 W : World} {g : Nat} {f0 : ByteArray} {f1 : Int} {f2 : Int} {f3 : Int} (h : IsS49 w0 W g f0 f1 f2 f3) (x : Int) : IsS49 w0 (W.setCell ⟨g,1,none⟩ (.int .i64 x)) g f0 x f2 f3:=by
 (obtain ⟨hb,hg⟩:=h);(exact ⟨by simpa using blk_set hb 1 (.int .i64 x),hg⟩)
theorem cellS49_2 {W : World} {g : Nat} {f0 : ByteArray} {f1 : Int} {f2 : Int} {f3 : Int} (h : W.heap[g]? = some (.cells #[.string f0,.int .i64 f1,.int .i64 f2,.int .i64 f3] 49 (0,0))) : W.cell? ⟨g,2,none⟩ = some (.int .i64 f2):=(blk_cell h 2).trans rfl
theorem IsS49.set_2 {w0 W : World} {g : Nat} {f0 : ByteArray} {f1 : Int} {f2 : Int} {f3 : Int} (h : IsS49 w0 W g f0 f1 f2 f3) (x : Int) : IsS49 w0 (W.setCell ⟨g,2,none⟩ (.int .i64 x)) g f0 f1 x f3:=by
 (obtain ⟨hb,hg⟩:=h);(exact ⟨by simpa using blk_set hb 2 (.int .i64 x),hg⟩)
theorem cellS49_3 {W : World} {g : Nat} {f0 : ByteArray} {f1 : Int} {f2 : Int} {f3 : Int} (h : W.heap[g]? = some (.cells #[.string f0,.int .i64 f1,.int .i64 f2,.int .i64 f3] 49 (0,0))) : W.cell? ⟨g,3,none⟩ = some (.int .i64 f3):=(blk_cell h 3).trans rfl
theorem IsS49.set_3 {w0 W : World} {g : Nat} {f0 : ByteArray} {f1 : Int} {f2 : Int} {f3 : Int} (h : IsS49 w0 W g f0 f1 f2 f3) (x : Int) : IsS49 w0 (W.setCell ⟨g,3,none⟩ (.int .i64 x)) g f0 f1 f2 x:=by
 (obtain ⟨hb,hg⟩:=h);(exact ⟨by simpa using blk_set hb 3 (.int .i64 x),hg⟩)
def host_reader_wrong.f (s0_0 : ByteArray) (s0_1 : Int) (s0_2 : Int) (s0_3 : Int) : Option (ByteArray × Int × Int × Int) := if (!(s0_2 == 0) || (!(s0_3 == 0))) = true then (some (s0_0, s0_1, s0_2, s0_3)) else (if s0_1 = (s0_0.size : Int) then (some (s0_0, s0_1, 4, s0_1)) else (some (s0_0, s0_1, 3, s0_1)))
set_option maxHeartbeats 8000000 in
set_option maxRecDepth 100000 in
theorem host_reader_wrong.calls (g : Nat) (s0_0 : ByteArray) (s0_1 : Int) (s0_2 : Int) (s0_3 : Int) (r1 : ByteArray) (r2 : Int) (r3 : Int) (r4 : Int) (w0 w : World) (hI : IsS49 w0 w g s0_0 s0_1 s0_2 s0_3) (hB : Below w0.heap.size w0 w) (h : host_reader_wrong.f s0_0 s0_1 s0_2 s0_3 = some (r1,r2,r3,r4)) :
  Calls Tryd.prog 27 #[.pointer (some ⟨g,0,none⟩)] w fun e w' => e = .returned (.tuple #[])∧IsS49 w0 w' g r1 r2 r3 r4∧Below w0.heap.size w0 w'∧KeepBut w w' g none:=by
 (have hu27:=Tryd.underlying27);(have HI0:=Aside0.mk hI);(have HK:=Aside0.mk (KeepBut.refl w g none));(have HL:=Aside0.mk hB.size);(clear hI);(have HW0:=Aside0.mk hB.size);(have HB:=Aside0.mk hB);(clear hB);(have H : (if (!(s0_2 == 0) || (!(s0_3 == 0))) = true then (some (s0_0,s0_1,s0_2,s0_3)) else (if s0_1 = (s0_0.size : Int) then (some (s0_0,s0_1,4,s0_1)) else (some (s0_0,s0_1,3,s0_1)))) = some (r1,r2,r3,r4):=h);(clear h);(by_cases c2 : (!(s0_2 == 0) || (!(s0_3 == 0))) = true)
 ·(rw [if_pos c2] at H);(have c2b0 : (!(s0_2 == 0) || (!(s0_3 == 0))) = true:=c2);(clear c2);(simp only [Option.some.injEq,Prod.mk.injEq] at H);(obtain ⟨rfl,rfl,rfl,rfl⟩:=H);(obtain ⟨HGz3,hgz3⟩:=HI0.out);(have hcz3_0:=cellS49_0 HGz3);(have hcz3_1:=cellS49_1 HGz3);(have hcz3_2:=cellS49_2 HGz3);(have hcz3_3:=cellS49_3 HGz3);(have hfz3_0:=blk_frozen HGz3 0);(have hfz3_1:=blk_frozen HGz3 1);(have hfz3_2:=blk_frozen HGz3 2);(have hfz3_3:=blk_frozen HGz3 3);(clear HGz3 hgz3);(go_enter Tryd.func27,Tryd.ntmps27);(go_wp2)
  repeat (go_quiet (fail);try go_wp2)
  first|go_end0|((try simp only [Exit.inBlock,Exit.then]);refine bodyPost_ret (results_none rfl _ _ _) rfl ?_)
  (exact ⟨by first|rfl|(simp [errW_none,errW_some] <;> rfl)|(simp [*,errW_none,errW_some] <;> rfl),by repeat (first|(with_reducible first|exact HI0.out|apply IsS49.alloc|apply IsS49.drewN|apply IsS49.drew|apply IsS49.set_0|apply IsS49.set_1|apply IsS49.set_2|apply IsS49.set_3)|exact HI0.out),by repeat (first|(with_reducible first|exact HB.out|apply below_alloc|apply pw_below_drewN|apply below_drew1|refine below_set ?_ (IsS49.ge HI0.out))|exact HB.out),by repeat (first|(with_reducible first|exact HK.out|apply KeepBut.set_|apply keep_drewN|apply keep_drew|apply keep_alloc)|exact HK.out)⟩)
 ·(rw [if_neg c2] at H);(have c2b0 : (!(s0_2 == 0) || (!(s0_3 == 0))) = false:=by simpa using c2);(clear c2);(by_cases c4 : s0_1 = (s0_0.size : Int))
  ·(rw [if_pos c4] at H);(have c4b0 : (s0_1 == (s0_0.size : Int)) = true:=beq_iff_eq.mpr c4);(have c4b1 : (s0_1 != (s0_0.size : Int)) = false:=bne_eq_false_iff_eq.mpr c4);(clear c4);(simp only [Option.some.injEq,Prod.mk.injEq] at H);(obtain ⟨rfl,rfl,rfl,rfl⟩:=H);(obtain ⟨HGz5,hgz5⟩:=HI0.out);(have hcz5_0:=cellS49_0 HGz5);(have hcz5_1:=cellS49_1 HGz5);(have hcz5_2:=cellS49_2 HGz5);(have hcz5_3:=cellS49_3 HGz5);(have hfz5_0:=blk_frozen HGz5 0);(have hfz5_1:=blk_frozen HGz5 1);(have hfz5_2:=blk_frozen HGz5 2);(have hfz5_3:=blk_frozen HGz5 3);(clear HGz5 hgz5);(go_enter Tryd.func27,Tryd.ntmps27);(go_wp2)
   repeat (go_quiet (fail);try go_wp2)
   first|go_end0|((try simp only [Exit.inBlock,Exit.then]);refine bodyPost_ret (results_none rfl _ _ _) rfl ?_)
   (exact ⟨by first|rfl|(simp [errW_none,errW_some] <;> rfl)|(simp [*,errW_none,errW_some] <;> rfl),by repeat (first|(with_reducible first|exact HI0.out|apply IsS49.alloc|apply IsS49.drewN|apply IsS49.drew|apply IsS49.set_0|apply IsS49.set_1|apply IsS49.set_2|apply IsS49.set_3)|exact HI0.out),by repeat (first|(with_reducible first|exact HB.out|apply below_alloc|apply pw_below_drewN|apply below_drew1|refine below_set ?_ (IsS49.ge HI0.out))|exact HB.out),by repeat (first|(with_reducible first|exact HK.out|apply KeepBut.set_|apply keep_drewN|apply keep_drew|apply keep_alloc)|exact HK.out)⟩)
  ·(rw [if_neg c4] at H);(have c4b0 : (s0_1 == (s0_0.size : Int)) = false:=beq_eq_false_iff_ne.mpr c4);(have c4b1 : (s0_1 != (s0_0.size : Int)) = true:=bne_iff_ne.mpr c4);(simp only [Option.some.injEq,Prod.mk.injEq] at H);(obtain ⟨rfl,rfl,rfl,rfl⟩:=H);(obtain ⟨HGz6,hgz6⟩:=HI0.out);(have hcz6_0:=cellS49_0 HGz6);(have hcz6_1:=cellS49_1 HGz6);(have hcz6_2:=cellS49_2 HGz6);(have hcz6_3:=cellS49_3 HGz6);(have hfz6_0:=blk_frozen HGz6 0);(have hfz6_1:=blk_frozen HGz6 1);(have hfz6_2:=blk_frozen HGz6 2);(have hfz6_3:=blk_frozen HGz6 3);(clear HGz6 hgz6);(go_enter Tryd.func27,Tryd.ntmps27);(go_wp2)
   repeat (go_quiet (fail);try go_wp2)
   first|go_end0|((try simp only [Exit.inBlock,Exit.then]);refine bodyPost_ret (results_none rfl _ _ _) rfl ?_)
   (exact ⟨by first|rfl|(simp [errW_none,errW_some] <;> rfl)|(simp [*,errW_none,errW_some] <;> rfl),by repeat (first|(with_reducible first|exact HI0.out|apply IsS49.alloc|apply IsS49.drewN|apply IsS49.drew|apply IsS49.set_0|apply IsS49.set_1|apply IsS49.set_2|apply IsS49.set_3)|exact HI0.out),by repeat (first|(with_reducible first|exact HB.out|apply below_alloc|apply pw_below_drewN|apply below_drew1|refine below_set ?_ (IsS49.ge HI0.out))|exact HB.out),by repeat (first|(with_reducible first|exact HK.out|apply KeepBut.set_|apply keep_drewN|apply keep_drew|apply keep_alloc)|exact HK.out)⟩)
end Go.Proofs.YtoammgpfbdcphaaDoor.PH
end
section
namespace Go.Proofs.YtoammgpfbdcphaaDoor.PH
open Go.RowKit Go.Proofs.YtoammgpfbdcphaaDoor.Lib Go.Proofs.YtoammgpfbdcphaaDoorW.PrintWords Go.Proofs.YtoammgpfbdcphaaDoorW.PrintLast Go.Proofs.YtoammgpfbdcphaaDoorW.PrintMore
attribute [local go_sem] max2_int min2_int max_two min_two max_three min_three max_four min_four   
set_option linter.unusedVariables false
set_option linter.unusedSimpArgs false
def host_reader_next.f (s0_0 : ByteArray) (s0_1 : Int) (s0_2 : Int) (s0_3 : Int) (a1 : Int) : Option (Bool × ByteArray × Int × Int × Int) := if s0_1 < (s0_0.size : Int) then (if 0 ≤ s0_1 then (if (bt s0_0 s0_1) = a1 then (some (true, s0_0, wrap64 (s0_1 + 1), s0_2, s0_3)) else (some (false, s0_0, s0_1, s0_2, s0_3))) else (none)) else (some (false, s0_0, s0_1, s0_2, s0_3))
set_option maxHeartbeats 8000000 in
set_option maxRecDepth 100000 in
theorem host_reader_next.calls (g : Nat) (s0_0 : ByteArray) (s0_1 : Int) (s0_2 : Int) (s0_3 : Int) (a1 : Int) (r1 : Bool) (r2 : ByteArray) (r3 : Int) (r4 : Int) (r5 : Int) (w0 w : World) (hI : IsS49 w0 w g s0_0 s0_1 s0_2 s0_3) (hB : Below w0.heap.size w0 w) (h : host_reader_next.f s0_0 s0_1 s0_2 s0_3 a1 = some (r1,r2,r3,r4,r5)) :
  Calls Tryd.prog 25 #[.pointer (some ⟨g,0,none⟩),.int .u8 a1] w fun e w' => e = .returned (.bool r1)∧IsS49 w0 w' g r2 r3 r4 r5∧Below w0.heap.size w0 w'∧KeepBut w w' g none:=by
 (have HI0:=Aside0.mk hI);(have HK:=Aside0.mk (KeepBut.refl w g none));(have HL:=Aside0.mk hB.size);(clear hI);(have HW0:=Aside0.mk hB.size);(have HB:=Aside0.mk hB);(clear hB);(have H : (if s0_1 < (s0_0.size : Int) then (if 0 ≤ s0_1 then (if (bt s0_0 s0_1) = a1 then (some (true,s0_0,wrap64 (s0_1 + 1),s0_2,s0_3)) else (some (false,s0_0,s0_1,s0_2,s0_3))) else (none)) else (some (false,s0_0,s0_1,s0_2,s0_3))) = some (r1,r2,r3,r4,r5):=h);(clear h);(by_cases c3 : s0_1 < (s0_0.size : Int))
 ·(rw [if_pos c3] at H);(have c3b0 : decide (s0_1 < (s0_0.size : Int)) = true:=decide_eq_true c3);(clear c3);(by_cases c4 : 0 ≤ s0_1)
  ·(rw [if_pos c4] at H);(have c4b0 : decide (0 ≤ s0_1) = true:=decide_eq_true c4);(clear c4);(by_cases c6 : (bt s0_0 s0_1) = a1)
   ·(rw [if_pos c6] at H);(have c6b0 : ((bt s0_0 s0_1) == a1) = true:=beq_iff_eq.mpr c6);(have c6b1 : ((bt s0_0 s0_1) != a1) = false:=bne_eq_false_iff_eq.mpr c6);(clear c6);(simp only [Option.some.injEq,Prod.mk.injEq] at H);(obtain ⟨rfl,rfl,rfl,rfl,rfl⟩:=H);(obtain ⟨HGz7,hgz7⟩:=HI0.out);(have hcz7_0:=cellS49_0 HGz7);(have hcz7_1:=cellS49_1 HGz7);(have hcz7_2:=cellS49_2 HGz7);(have hcz7_3:=cellS49_3 HGz7);(have hfz7_0:=blk_frozen HGz7 0);(have hfz7_1:=blk_frozen HGz7 1);(have hfz7_2:=blk_frozen HGz7 2);(have hfz7_3:=blk_frozen HGz7 3);(clear HGz7 hgz7);(have p5 : 0 ≤ (s0_1 : Int):=of_decide_eq_true (by first|(with_reducible assumption)|assumption));(have q5 : s0_1 < (s0_0.size : Int):=of_decide_eq_true (by first|(with_reducible assumption)|assumption));(have hx5:=bt_at s0_0 s0_1);(replace p5:=eq_true p5);(replace q5:=eq_true q5);(go_enter Tryd.func25,Tryd.ntmps25);(go_wp2)
    repeat (go_quiet (fail);try go_wp2)
    (go_ret);(exact ⟨by first|rfl|(simp [errW_none,errW_some] <;> rfl)|(simp [*,errW_none,errW_some] <;> rfl),by repeat (first|(with_reducible first|exact HI0.out|apply IsS49.alloc|apply IsS49.drewN|apply IsS49.drew|apply IsS49.set_0|apply IsS49.set_1|apply IsS49.set_2|apply IsS49.set_3)|exact HI0.out),by repeat (first|(with_reducible first|exact HB.out|apply below_alloc|apply pw_below_drewN|apply below_drew1|refine below_set ?_ (IsS49.ge HI0.out))|exact HB.out),by repeat (first|(with_reducible first|exact HK.out|apply KeepBut.set_|apply keep_drewN|apply keep_drew|apply keep_alloc)|exact HK.out)⟩)
   ·(rw [if_neg c6] at H);(have c6b0 : ((bt s0_0 s0_1) == a1) = false:=beq_eq_false_iff_ne.mpr c6);(have c6b1 : ((bt s0_0 s0_1) != a1) = true:=bne_iff_ne.mpr c6);(simp only [Option.some.injEq,Prod.mk.injEq] at H);(obtain ⟨rfl,rfl,rfl,rfl,rfl⟩:=H);(obtain ⟨HGz8,hgz8⟩:=HI0.out);(have hcz8_0:=cellS49_0 HGz8);(have hcz8_1:=cellS49_1 HGz8);(have hcz8_2:=cellS49_2 HGz8);(have hcz8_3:=cellS49_3 HGz8);(have hfz8_0:=blk_frozen HGz8 0);(have hfz8_1:=blk_frozen HGz8 1);(have hfz8_2:=blk_frozen HGz8 2);(have hfz8_3:=blk_frozen HGz8 3);(clear HGz8 hgz8);(have p5 : 0 ≤ (s0_1 : Int):=of_decide_eq_true (by first|(with_reducible assumption)|assumption));(have q5 : s0_1 < (s0_0.size : Int):=of_decide_eq_true (by first|(with_reducible assumption)|assumption));(have hx5:=bt_at s0_0 s0_1);(replace p5:=eq_true p5);(replace q5:=eq_true q5);(go_enter Tryd.func25,Tryd.ntmps25);(go_wp2)
    repeat (go_quiet (fail);try go_wp2)
    (go_ret);(exact ⟨by first|rfl|(simp [errW_none,errW_some] <;> rfl)|(simp [*,errW_none,errW_some] <;> rfl),by repeat (first|(with_reducible first|exact HI0.out|apply IsS49.alloc|apply IsS49.drewN|apply IsS49.drew|apply IsS49.set_0|apply IsS49.set_1|apply IsS49.set_2|apply IsS49.set_3)|exact HI0.out),by repeat (first|(with_reducible first|exact HB.out|apply below_alloc|apply pw_below_drewN|apply below_drew1|refine below_set ?_ (IsS49.ge HI0.out))|exact HB.out),by repeat (first|(with_reducible first|exact HK.out|apply KeepBut.set_|apply keep_drewN|apply keep_drew|apply keep_alloc)|exact HK.out)⟩)
  ·(rw [if_neg c4] at H);(exact absurd H (by simp))
 ·(rw [if_neg c3] at H);(have c3b0 : decide (s0_1 < (s0_0.size : Int)) = false:=decide_eq_false c3);(clear c3);(simp only [Option.some.injEq,Prod.mk.injEq] at H);(obtain ⟨rfl,rfl,rfl,rfl,rfl⟩:=H);(obtain ⟨HGz9,hgz9⟩:=HI0.out);(have hcz9_0:=cellS49_0 HGz9);(have hcz9_1:=cellS49_1 HGz9);(have hcz9_2:=cellS49_2 HGz9);(have hcz9_3:=cellS49_3 HGz9);(have hfz9_0:=blk_frozen HGz9 0);(have hfz9_1:=blk_frozen HGz9 1);(have hfz9_2:=blk_frozen HGz9 2);(have hfz9_3:=blk_frozen HGz9 3);(clear HGz9 hgz9);(go_enter Tryd.func25,Tryd.ntmps25);(go_wp2)
  repeat (go_quiet (fail);try go_wp2)
  (go_ret);(exact ⟨by first|rfl|(simp [errW_none,errW_some] <;> rfl)|(simp [*,errW_none,errW_some] <;> rfl),by repeat (first|(with_reducible first|exact HI0.out|apply IsS49.alloc|apply IsS49.drewN|apply IsS49.drew|apply IsS49.set_0|apply IsS49.set_1|apply IsS49.set_2|apply IsS49.set_3)|exact HI0.out),by repeat (first|(with_reducible first|exact HB.out|apply below_alloc|apply pw_below_drewN|apply below_drew1|refine below_set ?_ (IsS49.ge HI0.out))|exact HB.out),by repeat (first|(with_reducible first|exact HK.out|apply KeepBut.set_|apply keep_drewN|apply keep_drew|apply keep_alloc)|exact HK.out)⟩)
end Go.Proofs.YtoammgpfbdcphaaDoor.PH
end
