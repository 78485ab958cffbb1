/- Go's library functions that this seat meets: their contracts (off the kit's shelf) in one form: what they return, and that nothing that was there has turned; and the fact on the laid variables ('Glob'). -/
import Derived.Test.YtknbnnpggdegmaaDoorProg
import Derived.Test.YtknbnnpggdegmaaDoorShelf
import Derived.Test.YtknbnnpggdegmaaDoorWWords
import Derived.WalkSmall
import Derived.Lib.LaidTab
import Derived.Lib.ItoaNum
import Derived.Lib.AtoiAll
import Derived.Lib.Join
namespace Go.Proofs.YtknbnnpggdegmaaDoor.Lib
open Go.RowKit Go.Proofs.YtknbnnpggdegmaaDoorW.PrintWords
set_option linter.unusedVariables false
set_option linter.unusedSimpArgs false

/-- What the laid variables hold. -/
structure Glob (w : World) : Prop where mk ::
  tab : Go.Lib.TabIs Tryd.prog w "internal/strconv.uint64pow10" .u64 Go.Lib.pow10Tab
  syn : ∃ tp p, w.var? Tryd.prog "strconv.ErrSyntax" = some #[.iface tp p]
  ran : ∃ tp p, w.var? Tryd.prog "strconv.ErrRange" = some #[.iface tp p]
theorem g_tab : Tryd.prog.globalNamed "internal/strconv.uint64pow10" = some 0 := by kernel_rfl
theorem g_syn : Tryd.prog.globalNamed "strconv.ErrSyntax" = some 2 := by kernel_rfl
theorem g_ran : Tryd.prog.globalNamed "strconv.ErrRange" = some 3 := by kernel_rfl
theorem var_lt {w : World} {n : String} {g : Nat} {cs : Array Value} (hg : Tryd.prog.globalNamed n = some g) (hv : w.var? Tryd.prog n = some cs) : g < w.heap.size := by
  unfold World.var? at hv
  simp only [hg, Option.bind_some] at hv
  cases h : w.heap[g]? with
  | none => rw [h] at hv; cases hv
  | some o => exact (Array.getElem?_eq_some_iff.1 h).1
theorem Glob.below {w w' : World} (h : Glob w) (hb : Below w.heap.size w w') : Glob w' := by
  obtain ⟨h1, ⟨t2, p2, h2⟩, ⟨t3, p3, h3⟩⟩ := h
  exact ⟨var?_below hb g_tab (var_lt g_tab h1) h1, ⟨t2, p2, var?_below hb g_syn (var_lt g_syn h2) h2⟩, ⟨t3, p3, var?_below hb g_ran (var_lt g_ran h3) h3⟩⟩

theorem below_grow (w : World) (k : Nat) (os : Array Obj) : Below w.heap.size w (Go.Sort.grow (w.drewN k) os) :=
  ⟨rfl, rfl, rfl, by show w.heap.size ≤ (w.heap ++ os).size; rw [Array.size_append]; omega, fun j hj => by show (w.heap ++ os)[j]? = _; rw [Array.getElem?_append, if_pos hj]⟩

/-- The decimal numeral of an int. -/
def strconv_Itoa.f (a0 : Int) : Option ByteArray := if -9223372036854775808 ≤ a0 ∧ a0 ≤ 9223372036854775807 then some ⟨(Go.Lib.itoa a0).toArray⟩ else none
theorem strconv_Itoa.calls (a0 : Int) (r : ByteArray) (w : World) (h : strconv_Itoa.f a0 = some r) (hG : Glob w) :
    Calls Tryd.prog 35 #[.int .i64 a0] w fun e w' => e = .returned (.string r) ∧ Below w.heap.size w w' := by
  unfold strconv_Itoa.f at h
  split at h
  · rename_i hb
    cases h
    refine (Tryd.strconv_Itoa a0 hb.1 hb.2 w hG.tab).mono ?_
    rintro e w' ⟨rfl, k, os, rfl⟩
    exact ⟨rfl, below_grow w k os⟩
  · cases h

/-- The number of a text, as Atoi gives it beside its error, too. -/
def atoiVal (l : List UInt8) : Int := match Go.Lib.atoiAll l with | .ok v => v | .range => Go.Lib.atoiSat l | _ => 0
def atoiOk (l : List UInt8) : Bool := match Go.Lib.atoiAll l with | .ok _ => true | _ => false
theorem strconv_Atoi_any (s : ByteArray) (hs : s.size ≤ 281474976710656) (w : World) (hG : Glob w) :
    Calls Tryd.prog 51 #[.string s] w fun e w' => ∃ ev, e = .returned (.tuple #[.int .i64 (atoiVal s.data.toList), ev]) ∧ (atoiOk s.data.toList = true → ev = .nilIface) ∧ (atoiOk s.data.toList = false → ∃ t p, ev = .iface t (.pointer (some p))) ∧ Below w.heap.size w w' := by
  obtain ⟨_, ⟨t2, p2, h2⟩, ⟨t3, p3, h3⟩⟩ := hG
  unfold atoiVal atoiOk
  cases h : Go.Lib.atoiAll s.data.toList with
  | ok v =>
    refine (Tryd.strconv_Atoi_ok s (by omega) v h w).mono ?_
    rintro e w' ⟨rfl, hw⟩
    refine ⟨_, rfl, fun _ => rfl, fun h => by simp at h, ?_⟩
    rcases hw with rfl | ⟨t, rfl⟩
    · exact Below.refl _ _
    · exact bytes_below (Below.refl _ _) (Nat.le_refl _) _ _
  | range =>
    refine (Tryd.strconv_Atoi_range_var s hs h t3 p3 w h3).mono ?_
    rintro e w' ⟨N, rfl, _, _, hb⟩
    exact ⟨_, rfl, fun h => by simp at h, fun _ => ⟨_, _, rfl⟩, hb⟩
  | _ =>
    refine (Tryd.strconv_Atoi_syntax_var s hs h t2 p2 w h2).mono ?_
    rintro e w' ⟨N, rfl, _, _, hb⟩
    exact ⟨_, rfl, fun h => by simp at h, fun _ => ⟨_, _, rfl⟩, hb⟩

/-- The texts with the separator between. -/
def strings_Join.f (l : List ByteArray) (s : ByteArray) : Option ByteArray :=
  if l.length ≤ 140737488355328 ∧ (Go.Lib.join (l.map (·.data.toList)) s.data.toList).length ≤ 140737488355328 then some ⟨(Go.Lib.join (l.map (·.data.toList)) s.data.toList).toArray⟩ else none
theorem strings_Join.calls (A0 : Option Addr) (c0 : Nat) (l0 : List ByteArray) (a1 : ByteArray) (r : ByteArray) (w : World) (hr0 : Kd.C Kd.string w A0 l0.length l0) (hc0 : l0.length ≤ c0) (h : strings_Join.f l0 a1 = some r) :
    Calls Tryd.prog 36 #[.slice A0 l0.length c0, .string a1] w fun e w' => e = .returned (.string r) ∧ Below w.heap.size w w' := by
  unfold strings_Join.f at h
  split at h
  · rename_i hb
    cases h
    cases l0 with
    | nil =>
      refine (Tryd.strings_Join_none A0 c0 a1 w).mono ?_
      rintro e w' ⟨rfl, rfl⟩
      exact ⟨rfl, Below.refl _ _⟩
    | cons x l =>
      obtain ⟨_, _, hc1⟩ := hr0
      obtain ⟨ad, rfl, hc⟩ := hc1 (by simp)
      clear hc1
      have hcell : ∀ (j : Nat) y, (x :: l)[j]? = some y → w.cell? (ad.add j) = some (.string y) := fun j y hj => by
        obtain ⟨c, hl, rfl, hcc⟩ := hc j y hj
        have := hcc 0 _ rfl
        rwa [show j * Kd.string.sz + 0 = j from by simp [Kd.string, Kd.scalar]] at this
      obtain ⟨bk, o, sp⟩ := ad
      have h0 := hcell 0 x rfl
      have hsp : sp = none := by
        cases sp with
        | none => rfl
        | some z => simp [Addr.add, World.cell?] at h0; split at h0 <;> simp at h0
      subst hsp
      have hbk : bk < w.heap.size := by have := World.block_lt_of_cell? w _ h0; simpa [Addr.add] using this
      exact Tryd.strings_Join bk o c0 (x :: l) a1 w (fun j y hj => by have := hcell j y hj; unfold Addr.add at this; split at this <;> simp_all) hbk hb.1 hc0 hb.2
  · cases h
end Go.Proofs.YtknbnnpggdegmaaDoor.Lib
