/- Any vectors, counted by the program, are counted as the document says; no condition. -/
import Derived.Test.YtcpikafmclfcfaaDoorZ03
import Derived.Test.YtcpikafmclfcfaaDoorZ04
import Derived.OwnWalkIn
import Derived.TacticsInMore
import Derived.LoopNIn
import Derived.LoopIn
import Derived.Shelf.RegionOpen
import Derived.OpenShut
import Derived.Test.YtcpikafmclfcfaaDoorRows
import Derived.Test.YtcpikafmclfcfaaDoorCards
import Derived.Test.YtcpikafmclfcfaaDoorTie
import Derived.Test.YtcpikafmclfcfaaDoorZ02
import Derived.Lay
import Derived.WalkKit
import Derived.ProofKit
import Derived.ShutString
import Derived.ChangeOld
import Derived.Below
import Derived.Carry
import Derived.SizedLaws
import Derived.Deep.DeepHandedRow
import Derived.Deep.DeepWitnessRowRef
import Derived.Stop.LaidErr
import Derived.Lib.LaidTab
import Derived.LaidMore
section
namespace Go.Proofs.YtcpikafmclfcfaaDoor.Vc
open Go.RowKit Go.Proofs.YtcpikafmclfcfaaDoor.Lib Go.Proofs.YtcpikafmclfcfaaDoor.Txt Go.Proofs.YtcpikafmclfcfaaDoorW.PrintWords Go.Proofs.YtcpikafmclfcfaaDoorW.PrintLast Go.Proofs.YtcpikafmclfcfaaDoorW.PrintMore Go.Proofs.YtcpikafmclfcfaaDoor.PV Go.Proofs.YtcpikafmclfcfaaDoor.Vl Go.Proofs.YtcpikafmclfcfaaDoor.Vr
set_option linter.unusedVariables false
set_option linter.unusedSimpArgs false
theorem L_mkB (l : List UInt8) : L (mkB l) = l := L_mk l
theorem idx_cases (l : List UInt8) (c : UInt8) : Go.Lib.indexByte l c = -1 ∨ ∃ i : Nat, Go.Lib.indexByte l c = i ∧ i < l.length := by
  induction l with
  | nil => exact .inl rfl
  | cons x xs ih =>
    cases hb : (x == c) with
    | true => exact .inr ⟨0, by simp [Go.Lib.indexByte, hb], by simp⟩
    | false =>
      rcases ih with h | ⟨i, h, hi⟩
      · exact .inl (by simp [Go.Lib.indexByte, hb, h])
      · refine .inr ⟨i + 1, ?_, by simp; omega⟩
        have hn : ((i : Int) == -1) = false := by simp
        simp only [Go.Lib.indexByte, hb, h, hn, Bool.false_eq_true, ↓reduceIte]; rfl
theorem take_B (s : ByteArray) (i : Nat) : s.extract 0 i = mkB ((L s).take i) := L_inj (by rw [extract_L, L_mkB]; simp)
theorem drop_B (s : ByteArray) (i : Nat) : s.extract i s.size = mkB ((L s).drop i) := L_inj (by rw [extract_L, L_mkB, List.take_of_length_le (by rw [List.length_drop, L_length]; omega)])
set_option maxRecDepth 100000 in
theorem Cut1_calls (s : ByteArray) (hmax : s.size < 9223372036854775807) (w : World) : Calls Tryd.prog 54 #[.string s, .string ⟨#[61]⟩] w fun e w' => ∃ f, e = .returned (.tuple #[.string (mkB (cutL (L s)).1), .string (mkB (cutL (L s)).2), .bool f]) ∧ Below w.heap.size w w' := by
  rcases idx_cases (L s) 61 with h | ⟨i, h, hi⟩
  · have e1 : mkB (cutL (L s)).1 = s := by unfold cutL; rw [h, if_pos (by decide)]; exact L_inj (L_mkB _)
    have e2 : mkB (cutL (L s)).2 = ⟨#[]⟩ := by unfold cutL; rw [h, if_pos (by decide)]; rfl
    rw [e1, e2]
    have hc := Aside0.mk (show ∀ w, Calls Tryd.prog 74 #[.string s, .string ⟨#[61]⟩] w fun e w' => e = .returned (.int .i64 (-1)) ∧ w' = w from fun w => by have := Tryd.stringslite_Index_one s 61 w; rwa [show Go.Lib.indexByte s.data.toList 61 = -1 from h] at this)
    clear h e1 e2
    go_enter Tryd.func54, Tryd.ntmps54
    go_wp2_with (refine (hc.out _).mono ?_; rintro e w1 ⟨rfl, rfl⟩)
    refine bodyPost_ret (v := .tuple #[.string s, .string ⟨#[]⟩, .bool false]) (by simp [results, Tryd.results54, go_sem]) rfl ⟨_, rfl, Below.refl _ _⟩
  · have e1 : mkB (cutL (L s)).1 = s.extract 0 i := by unfold cutL; rw [h, if_neg (by omega), take_B]; simp
    have e2 : mkB (cutL (L s)).2 = s.extract (i + 1) s.size := by unfold cutL; rw [h, if_neg (by omega), drop_B]; simp
    rw [e1, e2]
    have hc := Aside0.mk (show ∀ w, Calls Tryd.prog 74 #[.string s, .string ⟨#[61]⟩] w fun e w' => e = .returned (.int .i64 i) ∧ w' = w from fun w => by have := Tryd.stringslite_Index_one s 61 w; rwa [show Go.Lib.indexByte s.data.toList 61 = i from h] at this)
    rw [L_length] at hi
    clear h e1 e2
    go_enter Tryd.func54, Tryd.ntmps54
    go_wp2_with (refine (hc.out _).mono ?_; rintro e w1 ⟨rfl, rfl⟩)
    have hle : ((i : Int) ≤ (s.size : Int)) := by omega
    have hle1 : ((i : Int) + 1 ≤ (s.size : Int)) := by omega
    have hge : (0 ≤ (i : Int) + 1) = True := eq_true (by omega)
    have hw1 : wrap64 ((i : Int) + 1) = (i : Int) + 1 := by unfold wrap64; omega
    refine start_ (n := 12) (S := fun _ => True) (ds := []) #[false, false, false, false, false, false, false, false, false, false, false, false] (by kernel_rfl) rfl rfl trivial (fun hHeld => ?_)
    refine pure_ (i := 0) (N := some 13) (v := ?_) (a' := ?_) #[true, false, false, false, false, false, false, false, false, false, false, false] rfl rfl (by kernel_rfl) (fun _ _ _ h => h) (Or.inl ⟨by rfl, ?_⟩) ?_ ?_
    rotate_left
    · intro w'
      go_simp
      with_reducible rfl
    rotate_left
    · simp only [Act.put, List.setIfInBounds_toArray, List.set_cons_zero, List.set_cons_succ, i64_w, i32_w]
      rfl
    refine pure_ (i := 1) (N := some 14) (v := ?_) (a' := ?_) #[true, true, false, false, false, false, false, false, false, false, false, false] rfl rfl (by kernel_rfl) (fun _ _ _ h => h) (Or.inl ⟨by rfl, ?_⟩) ?_ ?_
    rotate_left
    · intro w'
      go_simp
      with_reducible rfl
    rotate_left
    · simp only [Act.put, List.setIfInBounds_toArray, List.set_cons_zero, List.set_cons_succ, i64_w, i32_w]
      rfl
    refine pure_ (i := 2) (N := some 15) (v := ?_) (a' := ?_) #[true, true, true, false, false, false, false, false, false, false, false, false] rfl rfl (by kernel_rfl) (fun _ _ _ h => h) (Or.inl ⟨by rfl, ?_⟩) ?_ ?_
    rotate_left
    · intro w'
      go_simp
      with_reducible rfl
    rotate_left
    · simp only [Act.put, List.setIfInBounds_toArray, List.set_cons_zero, List.set_cons_succ, i64_w, i32_w]
      rfl
    refine pure_ (i := 3) (N := some 16) (v := ?_) (a' := ?_) #[true, true, true, true, false, false, false, false, false, false, false, false] rfl rfl (by kernel_rfl) (fun _ _ _ h => h) (Or.inl ⟨by rfl, ?_⟩) ?_ ?_
    rotate_left
    · intro w'
      go_simp
      with_reducible rfl
    rotate_left
    · simp only [Act.put, List.setIfInBounds_toArray, List.set_cons_zero, List.set_cons_succ, i64_w, i32_w]
      rfl
    refine pure_ (i := 4) (N := some 17) (v := ?_) (a' := ?_) #[true, true, true, true, true, false, false, false, false, false, false, false] rfl rfl (by kernel_rfl) (fun _ _ _ h => h) (Or.inl ⟨by rfl, ?_⟩) ?_ ?_
    rotate_left
    · intro w'
      go_simp
      with_reducible rfl
    rotate_left
    · simp only [Act.put, List.setIfInBounds_toArray, List.set_cons_zero, List.set_cons_succ, i64_w, i32_w]
      rfl
    refine pure_ (i := 5) (N := some 18) (v := ?_) (a' := ?_) #[true, true, true, true, true, true, false, false, false, false, false, false] rfl rfl (by kernel_rfl) (fun _ _ _ h => h) (Or.inl ⟨by rfl, ?_⟩) ?_ ?_
    rotate_left
    · intro w'
      go_simp
      with_reducible rfl
    rotate_left
    · simp only [Act.put, List.setIfInBounds_toArray, List.set_cons_zero, List.set_cons_succ, i64_w, i32_w]
      rfl
    refine pure_ (i := 6) (N := some 19) (v := ?_) (a' := ?_) #[true, true, true, true, true, true, true, false, false, false, false, false] rfl rfl (by kernel_rfl) (fun _ _ _ h => h) (Or.inl ⟨by rfl, ?_⟩) ?_ ?_
    rotate_left
    · intro w'
      go_simp
      with_reducible rfl
    rotate_left
    · simp only [Act.put, List.setIfInBounds_toArray, List.set_cons_zero, List.set_cons_succ, i64_w, i32_w]
      rfl
    refine pure_ (i := 7) (N := some 20) (v := ?_) (a' := ?_) #[true, true, true, true, true, true, true, true, false, false, false, false] rfl rfl (by kernel_rfl) (fun _ _ _ h => h) (Or.inl ⟨by rfl, ?_⟩) ?_ ?_
    rotate_left
    · intro w'
      go_simp
      with_reducible rfl
    rotate_left
    · simp only [Act.put, List.setIfInBounds_toArray, List.set_cons_zero, List.set_cons_succ, i64_w, i32_w]
      rfl
    refine pure_ (i := 8) (N := some 21) (v := ?_) (a' := ?_) #[true, true, true, true, true, true, true, true, true, false, false, false] rfl rfl (by kernel_rfl) (fun _ _ _ h => h) (Or.inl ⟨by rfl, ?_⟩) ?_ ?_
    rotate_left
    · intro w'
      go_simp
      with_reducible rfl
    rotate_left
    · simp only [Act.put, List.setIfInBounds_toArray, List.set_cons_zero, List.set_cons_succ, i64_w, i32_w]
      rfl
    refine pure_ (i := 9) (N := some 4) (v := ?_) (a' := ?_) #[true, true, true, true, true, true, true, true, true, true, false, false] rfl rfl (by kernel_rfl) (fun _ _ _ h => h) (Or.inl ⟨by rfl, ?_⟩) ?_ ?_
    rotate_left
    · intro w'
      go_simp
      with_reducible rfl
    rotate_left
    · simp only [Act.put, List.setIfInBounds_toArray, List.set_cons_zero, List.set_cons_succ, i64_w, i32_w]
      rfl
    refine pure_ (i := 10) (N := some 5) (v := ?_) (a' := ?_) #[true, true, true, true, true, true, true, true, true, true, true, false] rfl rfl (by kernel_rfl) (fun _ _ _ h => h) (Or.inl ⟨by rfl, ?_⟩) ?_ ?_
    rotate_left
    · intro w'
      go_simp
      with_reducible rfl
    rotate_left
    · simp only [Act.put, List.setIfInBounds_toArray, List.set_cons_zero, List.set_cons_succ, i64_w, i32_w]
      rfl
    refine pure_ (i := 11) (N := some 6) (v := ?_) (a' := ?_) #[true, true, true, true, true, true, true, true, true, true, true, true] rfl rfl (by kernel_rfl) (fun _ _ _ h => h) (Or.inl ⟨by rfl, ?_⟩) ?_ ?_
    rotate_left
    · intro w'
      go_simp
      with_reducible rfl
    rotate_left
    · simp only [Act.put, List.setIfInBounds_toArray, List.set_cons_zero, List.set_cons_succ, i64_w, i32_w]
      rfl
    refine done_ (by kernel_rfl) ?_
    go_wp2
    refine bodyPost_ret (v := .tuple #[.string (s.extract 0 i), .string (s.extract (i + 1) s.size), .bool true]) (by simp [results, Tryd.results54, go_sem]) rfl ⟨_, rfl, below_drew (Below.refl _ _)⟩
set_option maxRecDepth 100000 in
theorem Cut_calls (s : ByteArray) (hmax : s.size < 9223372036854775807) (w : World) : Calls Tryd.prog 32 #[.string s, .string ⟨#[61]⟩] w fun e w' => ∃ f, e = .returned (.tuple #[.string (mkB (cutL (L s)).1), .string (mkB (cutL (L s)).2), .bool f]) ∧ Below w.heap.size w w' := by
  go_enter Tryd.func32, Tryd.ntmps32
  go_wp2_with (refine (Cut1_calls s hmax _).mono ?_; rintro e w1 ⟨f, rfl, hb⟩)
  refine bodyPost_ret (v := .tuple #[.string (mkB (cutL (L s)).1), .string (mkB (cutL (L s)).2), .bool f]) (by simp [results, Tryd.results32, go_sem]) rfl ⟨_, rfl, hb⟩
structure Boxes (Bp Bs Bv : Nat) (r : ByteArray) (W : World) : Prop where mk ::
  p : W.heap[Bp]? = some (.cells #[.string ⟨#[44]⟩] 9 (0, 0))
  s : W.heap[Bs]? = some (.cells #[.string r] 9 (0, 0))
  v : W.heap[Bv]? = some (.cells #[.int .i64 0] 3 (0, 0))
def KeepsBoxes (Bp Bs Bv : Nat) (W W' : World) : Prop := ∀ j, j = Bp ∨ j = Bs ∨ j = Bv → W'.heap[j]? = W.heap[j]?
theorem Boxes.keep {Bp Bs Bv : Nat} {r : ByteArray} {W W' : World} (h : Boxes Bp Bs Bv r W) (k : KeepsBoxes Bp Bs Bv W W') : Boxes Bp Bs Bv r W' :=
  ⟨(k _ (.inl rfl)).trans h.p, (k _ (.inr (.inl rfl))).trans h.s, (k _ (.inr (.inr rfl))).trans h.v⟩
theorem Boxes.set {Bp Bs Bv : Nat} {r : ByteArray} {W : World} (h : Boxes Bp Bs Bv r W) (h1 : Bp ≠ Bs) (h2 : Bv ≠ Bs) (r' : ByteArray) : Boxes Bp Bs Bv r' (W.setCell ⟨Bs, 0, none⟩ (.string r')) :=
  ⟨(set_other W _ (Ne.symm h1)).trans h.p, blk_put h.s 0 _ rfl, (set_other W _ (Ne.symm h2)).trans h.v⟩
def leftS (Bs : Nat) (W : World) : Nat := match W.cell? ⟨Bs, 0, none⟩ with
  | some (.string r) => r.size
  | _ => 0
theorem leftS_eq {Bp Bs Bv : Nat} {r : ByteArray} {W : World} (h : Boxes Bp Bs Bv r W) : leftS Bs W = r.size := by
  unfold leftS
  rw [blk_cell h.s 0]
  rfl
def pieces (s : ByteArray) : List ByteArray := (spl (L s)).map mkB
set_option maxRecDepth 100000 in
set_option maxHeartbeats 2000000 in
theorem split1_in (n : Nat) (hn : 1 ≤ n) (l Bp Bs Bv : Nat) (h1 : Bp ≠ Bs) (h2 : Bv ≠ Bs) (s0 : ByteArray) (hmax : s0.size < 9223372036854775807) (J Jx : List ByteArray → World → Prop)
    (hJs : ∀ s A v, J s A → J s (A.setCell ⟨Bs, 0, none⟩ v))
    (hY : ∀ pre (x : ByteArray) W, x.size ≤ s0.size → J pre W → pre.length < (pieces s0).length → YieldAt Fence.wide (n - 1) Tryd.prog l #[.string x] W fun e W' =>
      (e = .returned (.bool true) ∧ J (pre ++ [x]) W' ∧ KeepsBoxes Bp Bs Bv W W') ∨ (e = .returned (.bool false) ∧ Jx (pre ++ [x]) W'))
    (W : World) (hB : Boxes Bp Bs Bv s0 W) (h0 : J [] W) :
    CallsIn Fence.wide n Tryd.prog 71 #[.func (.yield l) #[] #[], .pointer (some ⟨Bp, 0, none⟩), .pointer (some ⟨Bs, 0, none⟩), .pointer (some ⟨Bv, 0, none⟩)] W fun e W' => (∃ v, e = .returned v) ∧
      ((∃ ys, ys = pieces s0 ∧ J ys W') ∨ (∃ pre, pre <+: pieces s0 ∧ Jx pre W')) := by
  refine callsIn_of_wp Tryd.func71 rfl trivial ?_ rfl
  simp only [Tryd.ntmps71, List.size_toArray, List.length_cons, List.length_nil, Nat.reduceAdd, Nat.reduceSub, Array.replicate_succ, Array.replicate_zero, List.push_toArray, List.append_toArray, List.nil_append, List.cons_append]
  have c1 := (blk_cell hB.p 0)
  gi_wp2
  gi_loopw [7] (fun v wr => ∃ (pre : List ByteArray) (r : ByteArray), pieces s0 = pre ++ pieces r ∧ r.size ≤ s0.size ∧ Boxes Bp Bs Bv r wr ∧ J pre wr) (fun _ wr => leftS Bs wr)
  case atStart => exact ⟨[], s0, rfl, Nat.le_refl _, hB, h0⟩
  case round =>
    obtain ⟨pre, r, hx, hrs, hBr, hJr⟩ := hrel
    have cp := Aside0.mk hx
    have d1 := blk_cell hBr.p 0
    have d2 := blk_cell hBr.s 0
    have d3 := blk_cell hBr.v 0
    rcases spl_idx (L r) with ⟨hi, hsp⟩ | ⟨i, hi, hil, hsp⟩
    · have hc := Aside0.mk (show ∀ w, Calls Tryd.prog 73 #[.string r, .string ⟨#[44]⟩] w fun e w' => e = .returned (.int .i64 (-1)) ∧ w' = w from fun w => by have := Tryd.strings_Index_one r 44 w; rwa [show Go.Lib.indexByte r.data.toList 44 = -1 from hi] at this)
      have hps : pieces r = [r] := by unfold pieces; rw [hsp]; exact congrArg (fun x => [x]) (L_inj (L_mkB _))
      rw [hps] at hx
      obtain ⟨fn, tmps, assign, body, hy, hR⟩ := hY pre r wr hrs hJr (by rw [hx]; simp)
      clear hi hsp
      gi_wp2_with (refine ⟨trivial, ?_⟩; gi_at_call 73; refine (callsIn_wide.2 (hc.out _)).mono ?_; rintro e w1 ⟨rfl, rfl⟩)
      refine hR.mono ?_
      rintro e W3 (⟨rfl, hJ3, hk3⟩ | ⟨rfl, hJx3⟩)
      · gi_wp2
        go_end0
        exact ⟨⟨_, rfl⟩, .inl ⟨_, hx.symm, hJ3⟩⟩
      · gi_wp2
        go_end0
        exact ⟨⟨_, rfl⟩, .inr ⟨_, by rw [hx]; exact List.prefix_refl _, hJx3⟩⟩
    · have hc := Aside0.mk (show ∀ w, Calls Tryd.prog 73 #[.string r, .string ⟨#[44]⟩] w fun e w' => e = .returned (.int .i64 i) ∧ w' = w from fun w => by have := Tryd.strings_Index_one r 44 w; rwa [show Go.Lib.indexByte r.data.toList 44 = i from hi] at this)
      rw [L_length] at hil
      have hps : pieces r = r.extract 0 i :: pieces (r.extract (i + 1) r.size) := by
        unfold pieces
        rw [hsp, List.map_cons, ← take_B, drop_B, L_mkB]
      have hle : ((i : Int) ≤ (r.size : Int)) := by omega
      have hle1 : ((i : Int) + 1 ≤ (r.size : Int)) := by omega
      have hge0 : (0 ≤ (i : Int)) = True := eq_true (by omega)
      have hge : (0 ≤ (i : Int) + 1) = True := eq_true (by omega)
      have hw1 : wrap64 ((i : Int) + 1) = (i : Int) + 1 := by unfold wrap64; omega
      have hw0 : wrap64 ((i : Int)) = (i : Int) := by unfold wrap64; omega
      rw [hps] at hx
      obtain ⟨fn, tmps, assign, body, hy, hR⟩ := hY pre (r.extract 0 i) wr (by rw [ByteArray.size_extract]; omega) hJr (by rw [hx]; simp)
      clear hi hsp
      gi_wp2_with (refine ⟨trivial, ?_⟩; gi_at_call 73; refine (callsIn_wide.2 (hc.out _)).mono ?_; rintro e w1 ⟨rfl, rfl⟩)
      refine hR.mono ?_
      rintro e W3 (⟨rfl, hJ3, hk3⟩ | ⟨rfl, hJx3⟩)
      · have hB3 := hBr.keep hk3
        have d1' := blk_cell hB3.p 0
        have d2' := blk_cell hB3.s 0
        have f2' := blk_frozen hB3.s 0
        gi_wp2
        go_roundw
        case rel =>
          have hB4 := hB3.set h1 h2 (r.extract (i + 1) r.size)
          exact ⟨pre ++ [r.extract 0 i], r.extract (i + 1) r.size, by rw [hx]; simp, by rw [ByteArray.size_extract]; omega, hB4, hJs _ _ _ hJ3⟩
        case measure =>
          rw [leftS_eq (hB3.set h1 h2 (r.extract (i + 1) r.size)), leftS_eq hBr, ByteArray.size_extract]; omega
      · gi_wp2
        refine bodyPost_ret (results_none rfl _ _ _) rfl ?_
        exact ⟨⟨_, rfl⟩, .inr ⟨_, by rw [hx]; exact ⟨pieces (r.extract (i + 1) r.size), by simp⟩, hJx3⟩⟩
set_option maxRecDepth 100000 in
theorem splitSeq_in (s : ByteArray) (w : World) : Calls Tryd.prog 53 #[.string s, .string ⟨#[44]⟩, .int .i64 0] w fun e w' =>
    e = .returned (.func (.func 71) #[] #[.pointer (some ⟨w.heap.size + 1, 0, none⟩), .pointer (some ⟨w.heap.size, 0, none⟩), .pointer (some ⟨w.heap.size + 2, 0, none⟩)]) ∧ Boxes (w.heap.size + 1) w.heap.size (w.heap.size + 2) s w' ∧ Below w.heap.size w w' ∧ w'.heap.size = w.heap.size + 3 := by
  go_enter Tryd.func53, Tryd.ntmps53
  go_wp2
  go_ret
  refine ⟨rfl, ⟨?_, ?_, ?_⟩, below_alloc (below_alloc (below_alloc (Below.refl _ _) _) _) _, by simp⟩
  · exact blk_alloc (by have := blk_new (w.alloc (.cells #[.string s] 9)) (.cells #[.string ⟨#[44]⟩] 9); rwa [World.size_alloc] at this) _
  · exact blk_alloc (blk_alloc (blk_new _ _) _) _
  · have := blk_new ((w.alloc (.cells #[.string s] 9)).alloc (.cells #[.string ⟨#[44]⟩] 9)) (.cells #[.int .i64 0] 3); rwa [World.size_alloc, World.size_alloc] at this
theorem SplitSeq_in (s : ByteArray) (w : World) : Calls Tryd.prog 31 #[.string s, .string ⟨#[44]⟩] w fun e w' =>
    e = .returned (.func (.func 71) #[] #[.pointer (some ⟨w.heap.size + 1, 0, none⟩), .pointer (some ⟨w.heap.size, 0, none⟩), .pointer (some ⟨w.heap.size + 2, 0, none⟩)]) ∧ Boxes (w.heap.size + 1) w.heap.size (w.heap.size + 2) s w' ∧ Below w.heap.size w w' ∧ w'.heap.size = w.heap.size + 3 := by
  go_enter Tryd.func31, Tryd.ntmps31
  go_wp2_with (refine (splitSeq_in s _).mono ?_; rintro e w1 ⟨rfl, hb1, hb2, hb3⟩)
  go_ret
  exact ⟨rfl, hb1, hb2, hb3⟩
abbrev Txt48 := { x : ByteArray // x.size ≤ 140737488351232 }
theorem split_stops (n : Nat) (hn : 1 ≤ n) (Bp Bs Bv : Nat) (h1 : Bp ≠ Bs) (h2 : Bv ≠ Bs) (s0 : ByteArray) (hmax : s0.size ≤ 140737488351232) (w : World) (hB : Boxes Bp Bs Bv s0 w) :
    SeqStopsS Fence.wide n Tryd.prog 71 #[.pointer (some ⟨Bp, 0, none⟩), .pointer (some ⟨Bs, 0, none⟩), .pointer (some ⟨Bv, 0, none⟩)] (fun x : Txt48 => #[Value.string x.1]) (KeepsBoxes Bp Bs Bv) (fun ys => ys.map (·.1) = pieces s0) (fun pre => pre.map (·.1) <+: pieces s0) (pieces s0).length Bs w :=
  fun l J Jx W hW _ _ hs hsx hY h0 => by
  have hB' : Boxes Bp Bs Bv s0 W := ⟨blk_below hB.p hW, blk_below hB.s hW, blk_below hB.v hW⟩
  refine (split1_in n hn l Bp Bs Bv h1 h2 s0 (by omega) (fun pre A => ∃ q : List Txt48, q.map (·.1) = pre ∧ J q A) (fun pre A => ∃ q : List Txt48, q.map (·.1) = pre ∧ Jx q A) (fun s A v ⟨q, e, h⟩ => ⟨q, e, hs q A v h⟩) ?_ W hB' ⟨[], rfl, h0⟩).mono ?_
  · rintro pre x A hx ⟨q, rfl, hq⟩ hlen
    obtain ⟨fn, tmps, assign, body, hy, hR⟩ := hY q ⟨x, by omega⟩ A hq (by simpa using hlen)
    refine ⟨fn, tmps, assign, body, hy, hR.mono ?_⟩
    rintro e W' (⟨he, hj, hk⟩ | ⟨he, hj⟩)
    · exact .inl ⟨he, ⟨q ++ [⟨x, by omega⟩], by simp, hj⟩, hk⟩
    · exact .inr ⟨he, ⟨q ++ [⟨x, by omega⟩], by simp, hj⟩⟩
  · rintro e W' ⟨hv, ⟨ys, rfl, q, hq, hj⟩ | ⟨pre, hp, q, rfl, hj⟩⟩
    · exact ⟨hv, .inl ⟨q, hq, hj⟩⟩
    · exact ⟨hv, .inr ⟨q, hp, hj⟩⟩
end Go.Proofs.YtcpikafmclfcfaaDoor.Vc
end
section
namespace Go.Proofs.YtcpikafmclfcfaaDoor.Vc
open Go.RowKit Go.Proofs.YtcpikafmclfcfaaDoor.Txt Go.Proofs.YtcpikafmclfcfaaDoorW.PrintWords Go.Proofs.YtcpikafmclfcfaaDoorW.PrintLast Go.Proofs.YtcpikafmclfcfaaDoorW.PrintMore Go.Proofs.YtcpikafmclfcfaaDoor.PV Go.Proofs.YtcpikafmclfcfaaDoor.Vl Go.Proofs.YtcpikafmclfcfaaDoor.Vr
open Go.Proofs.YtcpikafmclfcfaaDoor.Lib (Glob strconv_Atoi_any)
set_option linter.unusedVariables false
set_option linter.unusedSimpArgs false
attribute [local go_sem] Oper.semAt_some
theorem KeepsBoxes.trans {Bp Bs Bv : Nat} {A B C : World} (h : KeepsBoxes Bp Bs Bv A B) (k : KeepsBoxes Bp Bs Bv B C) : KeepsBoxes Bp Bs Bv A C := fun j hj => (k j hj).trans (h j hj)
theorem KeepsBoxes.below {Bp Bs Bv : Nat} {A B : World} (h : Below A.heap.size A B) (h1 : Bp < A.heap.size) (h2 : Bs < A.heap.size) (h3 : Bv < A.heap.size) : KeepsBoxes Bp Bs Bv A B := fun j hj => by
  refine h.block j ?_
  rcases hj with rfl | rfl | rfl <;> assumption
theorem KeepsBoxes.set {Bp Bs Bv : Nat} {A B : World} (h : KeepsBoxes Bp Bs Bv A B) (p : Addr) (v : Value) (h1 : Bp ≠ p.block) (h2 : Bs ≠ p.block) (h3 : Bv ≠ p.block) : KeepsBoxes Bp Bs Bv A (B.setCell p v) := fun j hj => by
  refine (Below.heap_setCell B p v j ?_).trans (h j hj)
  rcases hj with rfl | rfl | rfl <;> assumption
theorem keepsOthers_below {A B : World} (h : Below A.heap.size A B) : KeepsOthers A B := ⟨h.size, fun k o hk _ => (h.block k (blk_lt hk)).trans hk⟩
structure Inv (w W0 : World) (b4 : Nat) (v : Int × Int × Int) (x : Int × Int × Int) (e : Int) (W : World) : Prop where mk ::
  p : W.heap[b4]? = some (.cells #[.int .i64 v.1, .int .i64 v.2.1, .int .i64 v.2.2] 51 (0, 0))
  r : W.heap[w.heap.size]? = some (.cells #[.int .i64 x.1, .int .i64 x.2.1, .int .i64 x.2.2] 23 (0, 0))
  e : W.heap[w.heap.size + 1]? = some (.cells #[.int .i64 e] 24 (0, 0))
  b : Below w.heap.size w W
  s : W0.heap.size ≤ W.heap.size
theorem Inv.below {w W0 : World} {b4 : Nat} {v x : Int × Int × Int} {e : Int} {W W' : World} (h : Inv w W0 b4 v x e W) (k : Below W.heap.size W W') : Inv w W0 b4 v x e W' :=
  ⟨blk_below h.p k, blk_below h.r k, blk_below h.e k, below_then h.b h.b.size k, Nat.le_trans h.s k.size⟩
theorem Inv.far {w W0 : World} {b4 : Nat} {v x : Int × Int × Int} {e : Int} {W : World} (h : Inv w W0 b4 v x e W) (b : Nat) (u : Value) (hb : w.heap.size + 1 < b) (hb4 : b4 ≠ b) : Inv w W0 b4 v x e (W.setCell ⟨b, 0, none⟩ u) :=
  ⟨(set_other W u (by omega)).trans h.p, (set_other W u (by omega)).trans h.r, (set_other W u (by omega)).trans h.e, h.b.setCell (p := ⟨b, 0, none⟩) (by show w.heap.size ≤ b; omega) _, by simpa [World.setCell] using h.s⟩
theorem blk_own {W W' : World} {b : Nat} {c : Array Value} {t : TypeId} {f : Nat × Nat} {B : Nat} {row : Option Nat} (h : W.heap[b]? = some (.cells c t f)) (hg : W.grownBy W' row) (hr : ∀ r, row = some r → B ≤ r ∧ ∃ o : Obj, W.heap[r]? = some o ∧ o.isCells = false) : W'.heap[b]? = some (.cells c t f) := by
  refine blk_grown h hg (fun e => ?_)
  obtain ⟨_, o, ho, hc⟩ := hr b e.symm
  rw [h] at ho
  cases ho
  cases hc
theorem Inv.own {w W0 : World} {b4 : Nat} {v x : Int × Int × Int} {e : Int} {W W' : World} {row : Option Nat} (h : Inv w W0 b4 v x e W) (hw : w.heap.size ≤ W0.heap.size) (hg : W.grownBy W' row) (hr : ∀ r, row = some r → W0.heap.size ≤ r ∧ ∃ o : Obj, W.heap[r]? = some o ∧ o.isCells = false) : Inv w W0 b4 v x e W' :=
  ⟨blk_own h.p hg hr, blk_own h.r hg hr, blk_own h.e hg hr, h.b.grown hg h.b.size (fun k e => Nat.le_trans hw (hr k e).1), Nat.le_trans h.s hg.size⟩
theorem foldP_append (v : Int × Int × Int) (a b : List (List UInt8)) : foldP v (a ++ b) = (foldP v a).bind fun u => foldP u b := by
  induction a generalizing v with
  | nil => rfl
  | cons p a ih =>
    simp only [List.cons_append, foldP]
    cases stepP v p with
    | none => rfl
    | some u => simp only [Option.bind_some]; exact ih u
def foldB (l : List ByteArray) : Option (Int × Int × Int) := foldP (0, 0, 0) (l.map L)
theorem foldB_snoc (l : List ByteArray) (x : ByteArray) : foldB (l ++ [x]) = (foldB l).bind fun u => stepP u (L x) := by
  unfold foldB
  rw [List.map_append, foldP_append]
  congr 1
  funext u
  simp only [List.map_cons, List.map_nil, foldP]
  cases stepP u (L x) <;> rfl
theorem foldB_pieces (s : ByteArray) : foldB (pieces s) = foldP (0, 0, 0) (spl (L s)) := by
  unfold foldB pieces
  rw [List.map_map]
  congr 1
  conv => rhs; rw [← List.map_id (spl (L s))]
  exact List.map_congr_left fun x _ => L_mkB x
theorem foldB_prefix {a b : List ByteArray} (h : a <+: b) (e : foldB a = none) : foldB b = none := by
  obtain ⟨c, rfl⟩ := h
  unfold foldB at e ⊢
  rw [List.map_append, foldP_append, e]
  rfl
def parseV (s : ByteArray) : Int × Int × Int := (parseL (L s)).getD (0, 0, 0)
def parseE (s : ByteArray) : Int := if (parseL (L s)).isSome then 0 else 3
theorem Inv.out_p {w W0 : World} {b4 : Nat} {v x : Int × Int × Int} {e : Int} {W : World} (h : Inv w W0 b4 v x e W) (i : Nat) (n : Int) (hi : i < 3) (hb : w.heap.size + 1 < b4) : Inv w W0 b4 (put v i n) x e (W.setCell ⟨b4, i, none⟩ (.int .i64 n)) := by
  have hset : ∀ j, j ≠ b4 → (W.setCell ⟨b4, i, none⟩ (.int .i64 n)).heap[j]? = W.heap[j]? := fun j hj => Below.heap_setCell W ⟨b4, i, none⟩ _ j hj
  refine ⟨?_, (hset _ (by omega)).trans h.r, (hset _ (by omega)).trans h.e, h.b.setCell (p := ⟨b4, i, none⟩) (by show w.heap.size ≤ b4; omega) _, by simpa [World.setCell] using h.s⟩
  have : i = 0 ∨ i = 1 ∨ i = 2 := by omega
  rcases this with rfl | rfl | rfl <;> exact blk_put h.p _ _ rfl
theorem Inv.res {w W0 : World} {b4 : Nat} {v x : Int × Int × Int} {e : Int} {W : World} (h : Inv w W0 b4 v x e W) (hb : w.heap.size + 1 < b4) (y : Int × Int × Int) (f : Int) :
    Inv w W0 b4 v y f ((((W.setCell ⟨w.heap.size, 0, none⟩ (.int .i64 y.1)).setCell ⟨w.heap.size, 1, none⟩ (.int .i64 y.2.1)).setCell ⟨w.heap.size, 2, none⟩ (.int .i64 y.2.2)).setCell ⟨w.heap.size + 1, 0, none⟩ (.int .i64 f)) := by
  have hs : ∀ (X : World) (p : Addr) (u : Value) (j : Nat), j ≠ p.block → (X.setCell p u).heap[j]? = X.heap[j]? := fun X p u j hj => Below.heap_setCell X p u j hj
  have hsz : ∀ (X : World) (p : Addr) (u : Value), (X.setCell p u).heap.size = X.heap.size := fun X p u => by simp [World.setCell]
  refine ⟨?_, ?_, ?_, ?_, ?_⟩
  · rw [hs _ _ _ _ (by show b4 ≠ w.heap.size + 1; omega), hs _ _ _ _ (by show b4 ≠ w.heap.size; omega), hs _ _ _ _ (by show b4 ≠ w.heap.size; omega), hs _ _ _ _ (by show b4 ≠ w.heap.size; omega)]; exact h.p
  · rw [hs _ _ _ _ (by show w.heap.size ≠ w.heap.size + 1; omega)]
    exact blk_put (blk_put (blk_put h.r 0 _ rfl) 1 _ rfl) 2 _ rfl
  · exact blk_put ((hs _ _ _ _ (by show w.heap.size + 1 ≠ w.heap.size; omega)).trans ((hs _ _ _ _ (by show w.heap.size + 1 ≠ w.heap.size; omega)).trans ((hs _ _ _ _ (by show w.heap.size + 1 ≠ w.heap.size; omega)).trans h.e))) 0 _ rfl
  · exact (((h.b.setCell (p := ⟨w.heap.size, 0, none⟩) (Nat.le_refl _) _).setCell (p := ⟨w.heap.size, 1, none⟩) (Nat.le_refl _) _).setCell (p := ⟨w.heap.size, 2, none⟩) (Nat.le_refl _) _).setCell (p := ⟨w.heap.size + 1, 0, none⟩) (Nat.le_succ _) _
  · rw [hsz, hsz, hsz, hsz]; exact h.s
theorem keeps_res {W w : World} {n : Nat} {A : World} (h : KeepsOthers A W) (u0 u1 u2 u3 : Value) : KeepsOthers A ((((W.setCell ⟨n, 0, none⟩ u0).setCell ⟨n, 1, none⟩ u1).setCell ⟨n, 2, none⟩ u2).setCell ⟨n + 1, 0, none⟩ u3) :=
  (((h.trans (KeepsOthers.setCell _ _ _)).trans (KeepsOthers.setCell _ _ _)).trans (KeepsOthers.setCell _ _ _)).trans (KeepsOthers.setCell _ _ _)
theorem parse_results (tmps : Array Value) (b : Nat) (W : World) (x : Int × Int × Int) (e : Int) (h2 : tmps[2]?.getD undef = .pointer (some ⟨b, 0, none⟩)) (h3 : tmps[3]?.getD undef = .pointer (some ⟨b + 1, 0, none⟩))
    (hr : W.heap[b]? = some (.cells #[.int .i64 x.1, .int .i64 x.2.1, .int .i64 x.2.2] 23 (0, 0))) (he : W.heap[b + 1]? = some (.cells #[.int .i64 e] 24 (0, 0))) :
    (results Tryd.f10 tmps).run Tryd.prog W = .ok (.tuple #[vecV x.1 x.2.1 x.2.2, .int .i64 e]) W := by
  have hu23 := Tryd.underlying23
  have hu24 := Tryd.underlying24
  have r0 : W.cell? ⟨b, 0, none⟩ = some (.int .i64 x.1) := (blk_cell hr 0).trans rfl
  have r1 : W.cell? ⟨b, 1, none⟩ = some (.int .i64 x.2.1) := (blk_cell hr 1).trans rfl
  have r2 : W.cell? ⟨b, 2, none⟩ = some (.int .i64 x.2.2) := (blk_cell hr 2).trans rfl
  have q0 : W.cell? ⟨b + 1, 0, none⟩ = some (.int .i64 e) := (blk_cell he 0).trans rfl
  simp [results, Tryd.results10, go_sem, h2, h3, r0, r1, r2, q0, hu23, hu24]
theorem below_put {w W : World} {D : Nat} {o : Obj} (h : Below w.heap.size w W) (hD : w.heap.size ≤ D) : Below w.heap.size w (W.putObj D o) :=
  h.grown (grownBy_putObj' W D o) h.size (fun k e => by cases e; exact hD)
theorem res_other {W : World} {n D : Nat} (u0 u1 u2 u3 : Value) (h : n + 1 < D) : ((((W.setCell ⟨n, 0, none⟩ u0).setCell ⟨n, 1, none⟩ u1).setCell ⟨n, 2, none⟩ u2).setCell ⟨n + 1, 0, none⟩ u3).heap[D]? = W.heap[D]? := by
  have hs : ∀ (X : World) (p : Addr) (u : Value), D ≠ p.block → (X.setCell p u).heap[D]? = X.heap[D]? := fun X p u hj => Below.heap_setCell X p u D hj
  rw [hs _ _ _ (by show D ≠ n + 1; omega), hs _ _ _ (by show D ≠ n; omega), hs _ _ _ (by show D ≠ n; omega), hs _ _ _ (by show D ≠ n; omega)]
theorem idx_range (l : List UInt8) : idx l = -1 ∨ ∃ i : Nat, i < 3 ∧ idx l = i := by
  unfold idx
  split
  · exact .inr ⟨0, by omega, rfl⟩
  · split
    · exact .inr ⟨1, by omega, rfl⟩
    · split
      · exact .inr ⟨2, by omega, rfl⟩
      · exact .inl rfl
def nameBs : List ByteArray := [⟨#[99, 112, 117]⟩, ⟨#[109, 101, 109]⟩, ⟨#[103, 112, 117]⟩]
theorem idx_S (l : List UInt8) : Go.Lib.idxOfS (nameBs.take 3) (mkB l) = idx l := by
  have e : ∀ k : List UInt8, ((⟨k.toArray⟩ : ByteArray) = mkB l) ↔ l = k := fun k => ⟨fun h => by have := congrArg L h; rw [L_mkB] at this; exact (this.symm.trans (L_mk k)), fun h => by rw [h]; rfl⟩
  unfold Go.Lib.idxOfS nameBs idx
  simp only [List.take, Go.Lib.idxFromS]
  have e0 := e [99, 112, 117]
  have e1 := e [109, 101, 109]
  have e2 := e [103, 112, 117]
  simp only [nm]
  by_cases h0 : l = [99, 112, 117]
  · rw [if_pos (e0.2 h0), if_pos h0]; rfl
  · rw [if_neg (fun h => h0 (e0.1 h)), if_neg h0]
    by_cases h1 : l = [109, 101, 109]
    · rw [if_pos (e1.2 h1), if_pos h1]; rfl
    · rw [if_neg (fun h => h1 (e1.1 h)), if_neg h1]
      by_cases h2 : l = [103, 112, 117]
      · rw [if_pos (e2.2 h2), if_pos h2]; rfl
      · rw [if_neg (fun h => h2 (e2.1 h)), if_neg h2]
theorem cut_len (p : List UInt8) : (cutL p).2.length ≤ p.length := by
  unfold cutL
  split
  · simp
  · simp
theorem mkB_size (l : List UInt8) : (mkB l).size = l.length := by rw [← L_length, L_mkB]
theorem step_none {v : Int × Int × Int} {p : List UInt8} (h : idx (cutL p).1 < 0 ∨ Vl.atoiOk (cutL p).2 = false) : stepP v p = none := by unfold stepP; rw [if_pos h]
theorem step_some {v : Int × Int × Int} {p : List UInt8} {i : Nat} (h : idx (cutL p).1 = i) (ho : Vl.atoiOk (cutL p).2 = true) : stepP v p = some (put v i (Vl.atoiVal (cutL p).2)) := by
  unfold stepP; rw [h, if_neg (by rw [ho]; simp)]
set_option maxHeartbeats 8000000 in
set_option maxRecDepth 100000 in
theorem Parse_calls (s : ByteArray) (hs : s.size ≤ 140737488351232) (w : World) (hG : Glob w) : Calls Tryd.prog 10 #[.string s] w fun e w' =>
    e = .returned (.tuple #[vecV (parseV s).1 (parseV s).2.1 (parseV s).2.2, .int .i64 (parseE s)]) ∧ Below w.heap.size w w' := by
  refine (callsIn_wide (n := 3)).1 ?_
  have hu23 := Tryd.underlying23
  have hu51 := Tryd.underlying51
  have hu57 := Tryd.underlying57
  refine callsIn_of_wp_marks Tryd.func10 rfl trivial ?_ rfl
  simp only [Tryd.ntmps10, List.size_toArray, List.length_cons, List.length_nil, Nat.reduceAdd, Nat.reduceSub, Array.replicate_succ, Array.replicate_zero, List.push_toArray, List.append_toArray, List.nil_append, List.cons_append]
  cases h0 : (s.toList == [110, 111, 110, 101])
  · have HP := Aside0.mk (show parseL (L s) = (foldB (pieces s)).bind fun v => if rightB v.1 v.2.1 v.2.2 = true ∧ fmtL v.1 v.2.1 v.2.2 = L s then some v else none from by
      unfold parseL; rw [if_neg (fun h => by rw [toList_L, h] at h0; exact absurd h0 (by decide)), foldB_pieces])
    gi_wp2_with (refine ⟨trivial, ?_⟩; gi_at_call 31; refine (callsIn_wide.2 (SplitSeq_in s _)).mono ?_; rintro e w1 ⟨rfl, hb1, hb2, hb3⟩)
    have hI0 : Inv w w1 (w.heap.size + 1 + 1) (0, 0, 0) (0, 0, 0) 0 w1 := ⟨blk_below (by have := blk_new ((w.alloc (.cells #[.int .i64 0, .int .i64 0, .int .i64 0] 23)).alloc (.cells #[.int .i64 0] 24)) (.cells #[.int .i64 0, .int .i64 0, .int .i64 0] 51); rwa [World.size_alloc, World.size_alloc] at this) hb2,
      blk_below (blk_alloc (blk_alloc (blk_new w _) _) _) hb2, blk_below (blk_alloc (by have := blk_new (w.alloc (.cells #[.int .i64 0, .int .i64 0, .int .i64 0] 23)) (.cells #[.int .i64 0] 24); rwa [World.size_alloc] at this) _) hb2,
      below_then (below_alloc (below_alloc (below_alloc (Below.refl _ _) _) _) _) (below_alloc (below_alloc (below_alloc (Below.refl _ _) _) _) _).size hb2, Nat.le_refl _⟩
    simp only [World.size_alloc] at hb1 hb3
    clear hb2
    obtain ⟨Bs, hBs⟩ : ∃ B, w.heap.size + 1 + 1 + 1 = B := ⟨_, rfl⟩
    obtain ⟨b4, hb4⟩ : ∃ B, w.heap.size + 1 + 1 = B := ⟨_, rfl⟩
    have HBs := Aside0.mk (show w.heap.size + 1 < b4 ∧ b4 < Bs from by omega)
    have HW1 := Aside0.mk (show Bs + 2 < w1.heap.size from by omega)
    rw [hBs] at hb1 ⊢
    rw [hb4] at hI0 ⊢
    clear hBs hb4 hb3
    have HI0 := Aside0.mk hI0
    clear hI0
    refine wpIn_rangeFunc_ownS (α := Txt48) rfl (by omega) (gf := 71) (lb := #[.pointer (some ⟨Bs + 1, 0, none⟩), .pointer (some ⟨Bs, 0, none⟩), .pointer (some ⟨Bs + 2, 0, none⟩)]) rfl trivial (enters_of Tryd.func71 (by kernel_rfl) rfl) (Bs := Bs) (by have := HW1.out; omega)
      (split_stops (3 - 1) (by omega) (Bs + 1) Bs (Bs + 2) (by omega) (by omega) s hs w1 hb1) (fun h k => h.trans k) ?keepb (Below.refl _ _) (fun _ => rfl)
      (fun pre W => ∃ v, foldB (pre.map (·.1)) = some v ∧ Inv w w1 b4 v (0, 0, 0) 0 W)
      (fun c pre W => c = .ret ∧ foldB (pre.map (·.1)) = none ∧ ∃ v, Inv w w1 b4 v (0, 0, 0) 3 W)
      (fun s A B row hs hg hr => by obtain ⟨v, h1, h2⟩ := hs; exact ⟨v, h1, h2.own (by have := HBs.out; have := HW1.out; omega) hg hr⟩)
      (fun c s A B row hs hg hr => by obtain ⟨h0, h1, v, h2⟩ := hs; exact ⟨h0, h1, v, h2.own (by have := HBs.out; have := HW1.out; omega) hg hr⟩)
      (fun s A u hs => by obtain ⟨v, h1, h2⟩ := hs; exact ⟨v, h1, h2.far Bs u (by have := HBs.out; omega) (by have := HBs.out; omega)⟩)
      (fun c s A u hs => by obtain ⟨h0, h1, v, h2⟩ := hs; exact ⟨h0, h1, v, h2.far Bs u (by have := HBs.out; omega) (by have := HBs.out; omega)⟩)
      ⟨(0, 0, 0), rfl, HI0.out⟩
      (fun x => { tmps := #[.string s, undef, .pointer (some ⟨w.heap.size, 0, none⟩), .pointer (some ⟨w.heap.size + 1, 0, none⟩), .pointer (some ⟨b4, 0, none⟩), .string x.1, undef, undef, undef, undef, undef, undef, undef, undef, .string s, .bool false, undef, .string s,
        .func (.func 71) #[] #[.pointer (some ⟨Bs + 1, 0, none⟩), .pointer (some ⟨Bs, 0, none⟩), .pointer (some ⟨Bs + 2, 0, none⟩)], .string x.1, undef, undef, undef, undef, undef, undef, undef, undef, undef, undef, undef, undef, undef, undef, undef, undef, undef, undef, undef, undef, undef, undef, undef, undef, undef, undef, undef, undef, undef, undef, undef, undef, undef, undef, undef, undef, undef], defers := [] }) ?assign ?body ?done ?stop
    case keepb =>
      intro W l o o' hl _ _ _ j hj
      exact World.putObj_heap_other (by have := HW1.out; omega)
    case assign =>
      intro l x W K hK
      gi_wp2
      exact hK
    case body =>
      rintro l pre x W ⟨v, hv, hI⟩ hlen
      have HI := Aside0.mk hI
      have HV := Aside0.mk hv
      clear hI hv hb1
      have hx := Aside0.mk x.2
      gi_wp2_with fail
      refine ⟨trivial, ?_⟩
      refine (CallsIn.inRound l (callsIn_wide.2 (Cut_calls x.1 (by have := hx.out; omega) _))).mono ?_
      rintro e w2 ⟨f, rfl, hb⟩
      have HB2 := Aside0.mk hb
      clear hb
      gi_wp2_with fail
      refine ⟨trivial, ?_⟩
      refine (CallsIn.inRound l (callsIn_wide.2 (names_calls _))).mono ?_
      rintro e w3 ⟨rfl, hb⟩
      have HB3 := Aside0.mk (below_then HB2.out HB2.out.size hb)
      clear hb
      gi_wp2_with fail
      refine ⟨trivial, ?_⟩
      obtain ⟨w4, hw4⟩ : ∃ w4, w3.alloc (.cells #[.string ⟨#[99, 112, 117]⟩, .string ⟨#[109, 101, 109]⟩, .string ⟨#[103, 112, 117]⟩] 57) = w4 := ⟨_, rfl⟩
      have hbk := blk_new w3 (.cells #[.string ⟨#[99, 112, 117]⟩, .string ⟨#[109, 101, 109]⟩, .string ⟨#[103, 112, 117]⟩] 57)
      have HB4 := Aside0.mk (below_alloc HB3.out (.cells #[.string ⟨#[99, 112, 117]⟩, .string ⟨#[109, 101, 109]⟩, .string ⟨#[103, 112, 117]⟩] 57))
      rw [hw4] at hbk HB4 ⊢
      refine (CallsIn.inRound l (callsIn_wide.2 (Tryd.slices_Index_string w3.heap.size 0 3 3 nameBs (mkB (cutL (L x.1)).1) w4 (by decide) (by omega) (fun j hj => by
        have : j = 0 ∨ j = 1 ∨ j = 2 := by have : nameBs.length = 3 := rfl; omega
        rcases this with rfl | rfl | rfl
        · exact (blk_cell hbk 0).trans rfl
        · exact (blk_cell hbk 1).trans rfl
        · exact (blk_cell hbk 2).trans rfl)))).mono ?_
      rintro e w5 ⟨rfl, rfl⟩
      rw [idx_S]
      clear hbk hw4
      gi_wp2_with fail
      refine ⟨trivial, ?_⟩
      refine (CallsIn.inRound l (callsIn_wide.2 (strconv_Atoi_any (mkB (cutL (L x.1)).2) (by rw [mkB_size]; have := cut_len (L x.1); rw [L_length] at this; have := hx.out; omega) _ (hG.below (below_then HI.out.b HI.out.b.size HB4.out))))).mono ?_
      rintro e w6 ⟨ev, rfl, hev1, hev2, hb⟩
      have HB6 := Aside0.mk (below_then HB4.out HB4.out.size hb)
      have HI6 := Aside0.mk (HI.out.below HB6.out)
      clear hb
      have hL : (mkB (cutL (L x.1)).2).data.toList = (cutL (L x.1)).2 := L_mkB _
      rw [hL] at hev1 hev2 ⊢
      clear hL
      have r0 := (blk_cell HI6.out.r 0).trans rfl
      have r1 := (blk_cell HI6.out.r 1).trans rfl
      have r2 := (blk_cell HI6.out.r 2).trans rfl
      have rf := fun i => blk_frozen HI6.out.r i
      have q0 := (blk_cell HI6.out.e 0).trans rfl
      have qf := blk_frozen HI6.out.e 0
      have p0 := (blk_cell HI6.out.p 0).trans rfl
      have p1 := (blk_cell HI6.out.p 1).trans rfl
      have p2 := (blk_cell HI6.out.p 2).trans rfl
      have pf := fun i => blk_frozen HI6.out.p i
      rcases idx_range (cutL (L x.1)).1 with hi | ⟨i, hi3, hi⟩
      · have HS := Aside0.mk (step_none (v := v) (p := L x.1) (.inl (by omega)))
        rw [hi]
        clear hi hev1 hev2
        gi_wp2_with fail
        refine ⟨keeps_res (w := w) (keepsOthers_below HB6.out) _ _ _ _, rfl, ?_, v, HI6.out.res HBs.out.1 (0, 0, 0) 3⟩
        rw [List.map_append, List.map_cons, List.map_nil, foldB_snoc, HV.out]
        exact HS.out
      · cases ho : Vl.atoiOk (cutL (L x.1)).2 with
        | false =>
          have HS := Aside0.mk (step_none (v := v) (p := L x.1) (.inr ho))
          obtain ⟨t, q, rfl⟩ := hev2 ho
          rw [hi]
          clear hi hev1 hev2 ho
          gi_wp2_with fail
          refine ⟨keeps_res (w := w) (keepsOthers_below HB6.out) _ _ _ _, rfl, ?_, v, HI6.out.res HBs.out.1 (0, 0, 0) 3⟩
          rw [List.map_append, List.map_cons, List.map_nil, foldB_snoc, HV.out]
          exact HS.out
        | true =>
          have HS := Aside0.mk (step_some (v := v) (p := L x.1) hi ho)
          obtain rfl := hev1 ho
          rw [hi]
          clear hi hev1 hev2 ho
          have : i = 0 ∨ i = 1 ∨ i = 2 := by omega
          rcases this with rfl | rfl | rfl
          · gi_wp2_with fail
            refine ⟨(keepsOthers_below HB6.out).trans (KeepsOthers.setCell _ _ _), ?_, _, ?_, HI6.out.out_p 0 _ (by omega) HBs.out.1⟩
            · have h1 := HI.out.s
              have h2 := HW1.out
              have h3 := HBs.out
              exact (KeepsBoxes.below HB6.out (by omega) (by omega) (by omega)).set ⟨b4, 0, none⟩ _ (by show Bs + 1 ≠ b4; omega) (by show Bs ≠ b4; omega) (by show Bs + 2 ≠ b4; omega)
            · rw [List.map_append, List.map_cons, List.map_nil, foldB_snoc, HV.out]
              exact HS.out
          · gi_wp2_with fail
            refine ⟨(keepsOthers_below HB6.out).trans (KeepsOthers.setCell _ _ _), ?_, _, ?_, HI6.out.out_p 1 _ (by omega) HBs.out.1⟩
            · have h1 := HI.out.s
              have h2 := HW1.out
              have h3 := HBs.out
              exact (KeepsBoxes.below HB6.out (by omega) (by omega) (by omega)).set ⟨b4, 1, none⟩ _ (by show Bs + 1 ≠ b4; omega) (by show Bs ≠ b4; omega) (by show Bs + 2 ≠ b4; omega)
            · rw [List.map_append, List.map_cons, List.map_nil, foldB_snoc, HV.out]
              exact HS.out
          · gi_wp2_with fail
            refine ⟨(keepsOthers_below HB6.out).trans (KeepsOthers.setCell _ _ _), ?_, _, ?_, HI6.out.out_p 2 _ (by omega) HBs.out.1⟩
            · have h1 := HI.out.s
              have h2 := HW1.out
              have h3 := HBs.out
              exact (KeepsBoxes.below HB6.out (by omega) (by omega) (by omega)).set ⟨b4, 2, none⟩ _ (by show Bs + 1 ≠ b4; omega) (by show Bs ≠ b4; omega) (by show Bs + 2 ≠ b4; omega)
            · rw [List.map_append, List.map_cons, List.map_nil, foldB_snoc, HV.out]
              exact HS.out
    case done =>
      rintro D ys W hD hys ⟨v, hv, hI⟩ hK
      rw [hys] at hv
      have HI := Aside0.mk hI
      have p0 := (blk_cell HI.out.p 0).trans rfl
      have p1 := (blk_cell HI.out.p 1).trans rfl
      have p2 := (blk_cell HI.out.p 2).trans rfl
      clear hI hys
      gi_wp2_with fail
      refine ⟨trivial, ?_⟩
      refine (callsIn_wide.2 (whole_calls v.1 v.2.1 v.2.2 _)).mono ?_
      rintro e w2 ⟨rfl, hb⟩
      have HI2 := Aside0.mk (HI.out.below hb)
      have HK2 := Aside0.mk (blk_below hK hb)
      clear hb HI hK p0 p1 p2
      have hbk := blk_new w2 (.cells #[.int .i64 v.1, .int .i64 v.2.1, .int .i64 v.2.2] 23)
      have HI3 := Aside0.mk (HI2.out.below (below_alloc (Below.refl _ _) (.cells #[.int .i64 v.1, .int .i64 v.2.1, .int .i64 v.2.2] 23)))
      have HK3 := Aside0.mk (blk_alloc HK2.out (.cells #[.int .i64 v.1, .int .i64 v.2.1, .int .i64 v.2.2] 23))
      have HG := Aside0.mk (Nat.le_trans HI2.out.b.size (Nat.le_refl _))
      gi_wp2_with fail
      refine ⟨trivial, ?_⟩
      obtain ⟨w3, hw3⟩ : ∃ w3, w2.alloc (.cells #[.int .i64 v.1, .int .i64 v.2.1, .int .i64 v.2.2] 23) = w3 := ⟨_, rfl⟩
      obtain ⟨b5, hb5⟩ : ∃ b5, w2.heap.size = b5 := ⟨_, rfl⟩
      rw [hw3] at hbk HI3 HK3 ⊢
      rw [hb5] at hbk HG ⊢
      clear hw3 hb5 HI2 HK2
      refine (callsIn_wide.2 (Right_calls v.1 v.2.1 v.2.2 _)).mono ?_
      rintro e w4 ⟨rfl, hb⟩
      have HI4 := Aside0.mk (HI3.out.below hb)
      have HK4 := Aside0.mk (blk_below HK3.out hb)
      have hbk4 := Aside0.mk (blk_below hbk hb)
      clear hb hbk
      have s0 := (blk_cell hbk4.out 0).trans rfl
      have s1 := (blk_cell hbk4.out 1).trans rfl
      have s2 := (blk_cell hbk4.out 2).trans rfl
      cases hr : rightB v.1 v.2.1 v.2.2 with
      | false =>
        have hPL : parseL (L s) = none := by rw [HP.out, hv]; simp [hr]
        have r0 := (blk_cell HI4.out.r 0).trans rfl
        have r1 := (blk_cell HI4.out.r 1).trans rfl
        have r2 := (blk_cell HI4.out.r 2).trans rfl
        have rf := fun i => blk_frozen HI4.out.r i
        have q0 := (blk_cell HI4.out.e 0).trans rfl
        have qf := blk_frozen HI4.out.e 0
        gi_wp2_with (refine ⟨trivial, ?_⟩)
        refine ⟨by simp, .inl ⟨_, _, rfl, run_takeDeferred ((res_other _ _ _ _ (by have := HBs.out; have := HW1.out; omega)).trans HK4.out), ?_⟩⟩
        have hI := HI4.out.res HBs.out.1 (0, 0, 0) 3
        have hD1 := HBs.out
        have hD2 := HW1.out
        refine ⟨_, parse_results _ w.heap.size _ (0, 0, 0) 3 rfl rfl ((World.putObj_heap_other (by omega)).trans hI.r) ((World.putObj_heap_other (by omega)).trans hI.e), ?_, below_put hI.b (by omega)⟩
        unfold parseV parseE
        rw [hPL]
        rfl
      | true =>
        obtain ⟨ia, ib, ic⟩ := right_i64 hr
        gi_wp2_with fail
        refine ⟨trivial, ?_⟩
        refine (callsIn_wide.2 (Format_calls v.1 v.2.1 v.2.2 _ ia ib ic (hG.below HI4.out.b))).mono ?_
        rintro e w5 ⟨rfl, hb⟩
        have HI5 := Aside0.mk (HI4.out.below hb)
        have HK5 := Aside0.mk (blk_below HK4.out hb)
        have hbk5 := Aside0.mk (blk_below hbk4.out hb)
        clear hb
        have s0' := (blk_cell hbk5.out 0).trans rfl
        have s1' := (blk_cell hbk5.out 1).trans rfl
        have s2' := (blk_cell hbk5.out 2).trans rfl
        have r0 := (blk_cell HI5.out.r 0).trans rfl
        have r1 := (blk_cell HI5.out.r 1).trans rfl
        have r2 := (blk_cell HI5.out.r 2).trans rfl
        have rf := fun i => blk_frozen HI5.out.r i
        have q0 := (blk_cell HI5.out.e 0).trans rfl
        have qf := blk_frozen HI5.out.e 0
        cases hq : ((mkB (fmtL v.1 v.2.1 v.2.2)).toList == s.toList) with
        | false =>
          have hPL : parseL (L s) = none := by
            rw [HP.out, hv, Option.bind_some, if_neg]
            rintro ⟨_, h⟩
            rw [toList_L, toList_L, L_mkB, h] at hq
            simp at hq
          gi_wp2_with fail
          refine ⟨by simp, .inl ⟨_, _, rfl, run_takeDeferred ((res_other _ _ _ _ (by have := HBs.out; have := HW1.out; omega)).trans HK5.out), ?_⟩⟩
          have hI := HI5.out.res HBs.out.1 (0, 0, 0) 3
          have hD1 := HBs.out
          have hD2 := HW1.out
          refine ⟨_, parse_results _ w.heap.size _ (0, 0, 0) 3 rfl rfl ((World.putObj_heap_other (by omega)).trans hI.r) ((World.putObj_heap_other (by omega)).trans hI.e), ?_, below_put hI.b (by omega)⟩
          unfold parseV parseE
          rw [hPL]
          rfl
        | true =>
          have hPL : parseL (L s) = some v := by
            rw [HP.out, hv, Option.bind_some, if_pos]
            refine ⟨hr, ?_⟩
            have := beq_iff_eq.1 hq
            rwa [toList_L, toList_L, L_mkB] at this
          gi_wp2_with fail
          refine ⟨by simp, .inl ⟨_, _, rfl, run_takeDeferred ((res_other _ _ _ _ (by have := HBs.out; have := HW1.out; omega)).trans HK5.out), ?_⟩⟩
          have hI := HI5.out.res HBs.out.1 v 0
          have hD1 := HBs.out
          have hD2 := HW1.out
          refine ⟨_, parse_results _ w.heap.size _ v 0 rfl rfl ((World.putObj_heap_other (by omega)).trans hI.r) ((World.putObj_heap_other (by omega)).trans hI.e), ?_, below_put hI.b (by omega)⟩
          unfold parseV parseE
          rw [hPL]
          rfl
    case stop =>
      rintro D c pre W hD hpre ⟨rfl, hv, v, hI⟩ hK
      gi_wp2_with fail
      refine ⟨by simp, .inl ⟨_, _, rfl, run_takeDeferred hK, ?_⟩⟩
      have hD1 := HBs.out
      have hD2 := HW1.out
      have hN := foldB_prefix hpre hv
      have hPL : parseL (L s) = none := by rw [HP.out, hN]; rfl
      refine ⟨_, parse_results _ w.heap.size _ (0, 0, 0) 3 rfl rfl ((World.putObj_heap_other (by omega)).trans hI.r) ((World.putObj_heap_other (by omega)).trans hI.e), ?_, below_put hI.b (by omega)⟩
      unfold parseV parseE
      rw [hPL]
      rfl
  · gi_wp2
    have hPL : parseL (L s) = some (0, 0, 0) := by unfold parseL; rw [if_pos (by rw [← toList_L]; exact beq_iff_eq.1 h0)]
    refine ⟨_, parse_results _ w.heap.size _ (0, 0, 0) 0 rfl rfl (blk_alloc (blk_new w _) _) (by have := blk_new (w.alloc (.cells #[.int .i64 0, .int .i64 0, .int .i64 0] 23)) (.cells #[.int .i64 0] 24); rwa [World.size_alloc] at this), ?_, below_alloc (below_alloc (Below.refl _ _) _) _⟩
    unfold parseV parseE
    rw [hPL]
    rfl
end Go.Proofs.YtcpikafmclfcfaaDoor.Vc
end
section
namespace Go.Proofs.YtcpikafmclfcfaaDoor.Vc
open Go.RowKit Go.Proofs.YtcpikafmclfcfaaDoor.Txt Go.Proofs.YtcpikafmclfcfaaDoorW.PrintWords Go.Proofs.YtcpikafmclfcfaaDoorW.PrintLast Go.Proofs.YtcpikafmclfcfaaDoorW.PrintMore Go.Proofs.YtcpikafmclfcfaaDoor.PV Go.Proofs.YtcpikafmclfcfaaDoor.Vl
open Go.Proofs.YtcpikafmclfcfaaDoor.Lib (Glob)
set_option linter.unusedVariables false
set_option linter.unusedSimpArgs false
def probe : ByteArray := ⟨#[99, 112, 117, 61, 52, 44, 103, 112, 117, 61, 50]⟩
theorem probe_fmt : fmtL 4 0 2 = L probe := by
  have d4 : Go.Lib.decDigits 4 = [52] := Go.Lib.decDigits_one (by omega)
  have d2 : Go.Lib.decDigits 2 = [50] := Go.Lib.decDigits_one (by omega)
  unfold fmtL
  rw [if_neg (by omega)]
  simp [partsL, oneP, partL, nm, Go.Lib.itoa, d4, d2, Go.Lib.join, List.intercalate, L, probe]
theorem probe_parse : parseL (L probe) = some (4, 0, 2) := (parse_iff _ _ _ _).2 ⟨by decide, probe_fmt⟩
theorem probe_into : intoF 4 0 2 9 0 5 = 2 := by decide +kernel
set_option maxHeartbeats 2000000 in
set_option maxRecDepth 100000 in
theorem alive_calls (w : World) (hG : Glob w) : Calls Tryd.prog 14 #[] w fun e w' => e = .returned (.bool true) ∧ Below w.heap.size w w' := by
  have hu23 := Tryd.underlying23
  have hu24 := Tryd.underlying24
  have hV : ((parseV probe).1 = 4 ∧ (parseV probe).2.1 = 0 ∧ (parseV probe).2.2 = 2) ∧ parseE probe = 0 := by
    unfold parseV parseE; rw [probe_parse]; exact ⟨⟨rfl, rfl, rfl⟩, rfl⟩
  obtain ⟨⟨v1, v2, v3⟩, ve⟩ := hV
  go_enter Tryd.func14, Tryd.ntmps14
  go_wp2_with fail
  refine (Parse_calls probe (by decide) w hG).mono ?_
  rintro e w1 ⟨rfl, hb⟩
  rw [v1, v2, v3, ve]
  have HB1 := Aside0.mk hb
  clear hb v1 v2 v3 ve
  have HB2 := Aside0.mk (below_alloc HB1.out (.cells #[.int .i64 4, .int .i64 0, .int .i64 2] 23))
  have BK2 := Aside0.mk (blk_new w1 (.cells #[.int .i64 4, .int .i64 0, .int .i64 2] 23))
  go_wp2_with fail
  obtain ⟨w2, hw2⟩ : ∃ w2, w1.alloc (.cells #[.int .i64 4, .int .i64 0, .int .i64 2] 23) = w2 := ⟨_, rfl⟩
  obtain ⟨b2, hb2⟩ : ∃ b2, w1.heap.size = b2 := ⟨_, rfl⟩
  rw [hw2] at HB2 BK2 ⊢
  rw [hb2] at BK2 ⊢
  clear hw2 hb2 HB1
  refine (Format_calls 4 0 2 _ (by unfold I64; omega) (by unfold I64; omega) (by unfold I64; omega) (hG.below HB2.out)).mono ?_
  rintro e w3 ⟨rfl, hb⟩
  have HB3 := Aside0.mk (below_then HB2.out HB2.out.size hb)
  have BK3 := Aside0.mk (blk_below BK2.out hb)
  clear hb HB2 BK2
  have e1 : mkB (fmtL 4 0 2) = ⟨#[99, 112, 117, 61, 52, 44, 103, 112, 117, 61, 50]⟩ := by rw [probe_fmt]; rfl
  rw [e1]
  obtain ⟨c0, c1, c2⟩ := cell3 BK3.out
  clear e1
  go_wp2_with fail
  refine (Into_calls 4 0 2 9 0 5 _).mono ?_
  rintro e w4 ⟨rfl, hb⟩
  have HB4 := Aside0.mk (below_then HB3.out HB3.out.size hb)
  clear hb HB3 BK3 c0 c1 c2
  rw [probe_into]
  go_wp2_with fail
  refine (Format_calls 0 0 0 _ (by unfold I64; omega) (by unfold I64; omega) (by unfold I64; omega) (hG.below HB4.out)).mono ?_
  rintro e w5 ⟨rfl, hb⟩
  have HB5 := Aside0.mk (below_then HB4.out HB4.out.size hb)
  clear hb HB4
  have e1 : mkB (fmtL 0 0 0) = ⟨#[110, 111, 110, 101]⟩ := rfl
  rw [e1]
  go_wp2_with fail
  go_ret
  exact ⟨rfl, HB5.out⟩
end Go.Proofs.YtcpikafmclfcfaaDoor.Vc
end
section
namespace Go.Proofs.YtcpikafmclfcfaaDoor.Vn
open Go.RowKit Go.Maps Go.Proofs.YtcpikafmclfcfaaDoorW.PrintWords Go.Proofs.YtcpikafmclfcfaaDoorW.PrintLast Go.Proofs.YtcpikafmclfcfaaDoorW.PrintMore Go.Proofs.YtcpikafmclfcfaaDoor.PV Go.Proofs.YtcpikafmclfcfaaDoor.Vl Go.Proofs.YtcpikafmclfcfaaDoor.Mp Go.Proofs.YtcpikafmclfcfaaDoor.Tl Go.Proofs.YtcpikafmclfcfaaDoor.Lib
set_option linter.unusedVariables false
set_option linter.unusedSimpArgs false
theorem keys_of (l : List S23) (hwf : ∀ x ∈ l, (Lit.int .i64 x.f0).wf = true ∧ (Lit.int .i64 x.f1).wf = true ∧ (Lit.int .i64 x.f2).wf = true) : ∃ ks : List V3, l = ks.map s23 := by
  induction l with
  | nil => exact ⟨[], rfl⟩
  | cons x l ih =>
    obtain ⟨ks, rfl⟩ := ih (fun y hy => hwf y (List.mem_cons_of_mem _ hy))
    exact ⟨⟨(x.f0, x.f1, x.f2), hwf x (by simp)⟩ :: ks, rfl⟩
theorem count_of (ks : List V3) (x : V3) : (ks.map s23).countP (isK x) = @List.count _ instBEqOfDecidableEq x ks := by
  rw [List.countP_map]
  unfold List.count
  congr 1
  funext y
  show isK x (s23 y) = decide (y = x)
  unfold isK s23
  by_cases h : y = x
  · subst h; simp
  · rw [decide_eq_false h]
    by_cases a : y.1.1 = x.1.1
    · by_cases b : y.1.2.1 = x.1.2.1
      · by_cases c : y.1.2.2 = x.1.2.2
        · exact absurd (Subtype.ext (Prod.ext a (Prod.ext b c))) h
        · simp [c]
      · simp [b]
    · simp [a]
theorem same_counts (ks ss : List V3) (h : Keys (ks.map s23) ss) : ss.map (taK (ks.map s23)) = oT (tally ltv ks) := by
  have h2 := keys_tally strictV ks ss h.1 (fun v => by
    rw [h.2 v]
    constructor
    · rintro ⟨y, hy, e⟩
      obtain ⟨z, hz, rfl⟩ := List.mem_map.1 hy
      have : z = v := Subtype.ext e
      rw [← this]; exact hz
    · exact fun hv => ⟨s23 v, List.mem_map.2 ⟨v, hv, rfl⟩, rfl⟩)
  rw [← h2]
  unfold oT
  rw [List.map_map]
  apply List.map_congr_left
  intro x hx
  show taK (ks.map s23) x = taT (x, _)
  unfold taK taT
  rw [count_of]
set_option maxHeartbeats 40000000 in
set_option maxRecDepth 100000 in
theorem counts_calls (A : Option Addr) (c : Nat) (l : List S23) (w : World) (hr : Kd.C k23 w A l.length l) (hm : l.length ≤ maxLen) (hwf : ∀ x ∈ l, (Lit.int .i64 x.f0).wf = true ∧ (Lit.int .i64 x.f1).wf = true ∧ (Lit.int .i64 x.f2).wf = true) (hG : Glob w) :
    Calls Tryd.prog 9 #[.slice A l.length c] w fun e w' => e = .returned (.bool true) ∧ Below w.heap.size w w' := by
  have HG := Aside0.mk hG
  have hm' : l.length ≤ 9223372036854775807 := hm
  clear hm hG
  by_cases hl : 500 < l.length
  · have d1 : decide ((500 : Int) < (l.length : Int)) = true := decide_eq_true (by omega)
    clear hr hwf
    go_enter Tryd.func9, Tryd.ntmps9
    go_wp2_with fail
    refine (Go.Proofs.YtcpikafmclfcfaaDoor.Vc.alive_calls _ HG.out).mono ?_
    rintro e w7 ⟨rfl, hb⟩
    have HB7 := Aside0.mk hb
    clear hb
    go_wp2
    go_ret
    exact ⟨rfl, HB7.out⟩
  · have hl' : l.length ≤ 500 := by omega
    have d1 : decide ((500 : Int) < (l.length : Int)) = false := decide_eq_false (by omega)
    have H1 := Aside0.mk (count_calls A c l w hr hl' hwf)
    obtain ⟨ks, rfl⟩ := keys_of l hwf
    rw [List.length_map] at hr hl' d1 H1 hm' ⊢
    have HR := Aside0.mk hr
    clear hr hwf hl
    go_enter Tryd.func9, Tryd.ntmps9
    go_wp2_with fail
    refine H1.out.mono ?_
    rintro e w1 ⟨v1, ss, rfl, hk, ho1, hb1⟩
    rw [same_counts ks ss hk] at ho1
    have HO1 := Aside0.mk ho1
    have HB1 := Aside0.mk hb1
    clear ho1 hb1 hk H1
    go_wp2_with fail
    refine (rcount_calls A c ks w1 (Kd.C_below HR.out HB1.out) hl').mono ?_
    rintro e w2 ⟨v2, rfl, ho2, hb2⟩
    have HO1' := Aside0.mk (Kd.R_below HO1.out hb2)
    have HO2 := Aside0.mk ho2
    have HB2 := Aside0.mk (below_then HB1.out HB1.out.size hb2)
    clear ho2 hb2 HO1 HB1 HR
    have hT : (oT (tally ltv ks)).length ≤ 500 := by have := tally_len ks; rw [oT_len]; omega
    generalize oT (tally ltv ks) = T at *
    obtain ⟨A1, c1, e1⟩ := Kd.R_slice HO1'.out
    obtain ⟨A2, c2, e2⟩ := Kd.R_slice HO2.out
    subst e1
    subst e2
    go_wp2_with fail
    go_loopw [21] (fun v21 wr => ∃ k : Nat, v21 = .int .i64 k ∧ k ≤ T.length ∧ Aside0 (Below w2.heap.size w2 wr)) (fun v21 _ => T.length - (intOf v21).toNat)
    case atStart => exact ⟨0, rfl, Nat.zero_le _, ⟨Below.refl _ _⟩⟩
    case round =>
      obtain ⟨k, rfl, hk, HB⟩ := hrel
      by_cases hlt : k < T.length
      · obtain ⟨g1, c1', e1, _, _, hc1⟩ := row_T (Kd.R_below HO1'.out HB.out) (by omega)
        obtain ⟨g2, c2', e2, _, _, hc2⟩ := row_T (Kd.R_below HO2.out HB.out) (by omega)
        have e3 : A1 = some ⟨g1, 0, none⟩ := by injection e1
        have e4 : A2 = some ⟨g2, 0, none⟩ := by injection e2
        clear e1 e2
        subst e3
        subst e4
        have HY := Aside0.mk (hc1 k hlt)
        have HZ := Aside0.mk (hc2 k hlt)
        clear hc1 hc2
        generalize T[k] = p at HY HZ
        go_wp2_with fail
        refine start_ (n := 24) (S := fun W => Below wr.heap.size wr W) (ds := []) #[false, false, false, false, false, false, false, false, false, false, false, false, false, false, false, false, false, false, false, false, false, false, false, false] (by kernel_rfl) rfl rfl (below_drew (Below.refl _ _)) (fun hHeld => ?_)
        refine pure_ (i := 0) (N := some 24) (v := ?_) (a' := ?_) #[true, false, false, false, false, false, false, false, false, false, false, false, false, false, false, false, false, false, false, false, false, false, false, false] rfl rfl (by kernel_rfl) (fun _ _ _ h => h) (Or.inl ⟨by rfl, ?_⟩) ?_ ?_
        rotate_left
        · intro w'
          go_simp
          with_reducible rfl
        rotate_left
        · simp only [Act.put, List.setIfInBounds_toArray, List.set_cons_zero, List.set_cons_succ, i64_w, i32_w]
          rfl
        refine pure_ (i := 1) (N := some 25) (v := ?_) (a' := ?_) #[true, true, false, false, false, false, false, false, false, false, false, false, false, false, false, false, false, false, false, false, false, false, false, false] rfl rfl (by kernel_rfl) (fun _ _ _ h => h) (Or.inl ⟨by rfl, ?_⟩) ?_ ?_
        rotate_left
        · intro w'
          go_simp
          with_reducible rfl
        rotate_left
        · simp only [Act.put, List.setIfInBounds_toArray, List.set_cons_zero, List.set_cons_succ, i64_w, i32_w]
          rfl
        refine pure_ (i := 2) (N := some 26) (v := ?_) (a' := ?_) #[true, true, true, false, false, false, false, false, false, false, false, false, false, false, false, false, false, false, false, false, false, false, false, false] rfl rfl (by kernel_rfl) (fun _ _ _ h => h) (Or.inl ⟨by rfl, ?_⟩) ?_ ?_
        rotate_left
        · intro w'
          go_simp
          with_reducible rfl
        rotate_left
        · simp only [Act.put, List.setIfInBounds_toArray, List.set_cons_zero, List.set_cons_succ, i64_w, i32_w]
          rfl
        refine pure_ (i := 3) (N := some 27) (v := ?_) (a' := ?_) #[true, true, true, true, false, false, false, false, false, false, false, false, false, false, false, false, false, false, false, false, false, false, false, false] rfl rfl (by kernel_rfl) (fun _ _ _ h => h) (Or.inl ⟨by rfl, ?_⟩) ?_ ?_
        rotate_left
        · intro w'
          go_simp
          with_reducible rfl
        rotate_left
        · simp only [Act.put, List.setIfInBounds_toArray, List.set_cons_zero, List.set_cons_succ, i64_w, i32_w]
          rfl
        refine take_ (i := 4) (N := some 28) (v := ?_) (a' := ?_) #[true, true, true, true, true, false, false, false, false, false, false, false, false, false, false, false, false, false, false, false, false, false, false, false] rfl rfl (by kernel_rfl) (fun _ _ _ h => h) (Or.inl ⟨by rfl, ?_⟩) hHeld ?_ ?_
        rotate_left
        · rintro w' hS
          have hq0 := (hS.cell (World.block_lt_of_cell? _ _ HY.out.1)).trans HY.out.1
          have hq1 := (hS.cell (World.block_lt_of_cell? _ _ HY.out.2.1)).trans HY.out.2.1
          have hq2 := (hS.cell (World.block_lt_of_cell? _ _ HY.out.2.2.1)).trans HY.out.2.2.1
          go_simp
          with_reducible rfl
        rotate_left
        · simp only [Act.put, List.setIfInBounds_toArray, List.set_cons_zero, List.set_cons_succ, i64_w, i32_w]
          rfl
        refine pure_ (i := 5) (N := some 29) (v := ?_) (a' := ?_) #[true, true, true, true, true, true, false, false, false, false, false, false, false, false, false, false, false, false, false, false, false, false, false, false] rfl rfl (by kernel_rfl) (fun _ _ _ h => h) (Or.inl ⟨by rfl, ?_⟩) ?_ ?_
        rotate_left
        · intro w'
          go_simp
          with_reducible rfl
        rotate_left
        · simp only [Act.put, List.setIfInBounds_toArray, List.set_cons_zero, List.set_cons_succ, i64_w, i32_w]
          rfl
        refine pure_ (i := 6) (N := some 30) (v := ?_) (a' := ?_) #[true, true, true, true, true, true, true, false, false, false, false, false, false, false, false, false, false, false, false, false, false, false, false, false] rfl rfl (by kernel_rfl) (fun _ _ _ h => h) (Or.inl ⟨by rfl, ?_⟩) ?_ ?_
        rotate_left
        · intro w'
          go_simp
          with_reducible rfl
        rotate_left
        · simp only [Act.put, List.setIfInBounds_toArray, List.set_cons_zero, List.set_cons_succ, i64_w, i32_w]
          rfl
        refine pure_ (i := 7) (N := some 31) (v := ?_) (a' := ?_) #[true, true, true, true, true, true, true, true, false, false, false, false, false, false, false, false, false, false, false, false, false, false, false, false] rfl rfl (by kernel_rfl) (fun _ _ _ h => h) (Or.inl ⟨by rfl, ?_⟩) ?_ ?_
        rotate_left
        · intro w'
          go_simp
          with_reducible rfl
        rotate_left
        · simp only [Act.put, List.setIfInBounds_toArray, List.set_cons_zero, List.set_cons_succ, i64_w, i32_w]
          rfl
        refine pure_ (i := 8) (N := some 32) (v := ?_) (a' := ?_) #[true, true, true, true, true, true, true, true, true, false, false, false, false, false, false, false, false, false, false, false, false, false, false, false] rfl rfl (by kernel_rfl) (fun _ _ _ h => h) (Or.inl ⟨by rfl, ?_⟩) ?_ ?_
        rotate_left
        · intro w'
          go_simp
          with_reducible rfl
        rotate_left
        · simp only [Act.put, List.setIfInBounds_toArray, List.set_cons_zero, List.set_cons_succ, i64_w, i32_w]
          rfl
        refine take_ (i := 9) (N := some 33) (v := ?_) (a' := ?_) #[true, true, true, true, true, true, true, true, true, true, false, false, false, false, false, false, false, false, false, false, false, false, false, false] rfl rfl (by kernel_rfl) (fun _ _ _ h => h) (Or.inl ⟨by rfl, ?_⟩) hHeld ?_ ?_
        rotate_left
        · rintro w' hS
          have hq0 := (hS.cell (World.block_lt_of_cell? _ _ HZ.out.1)).trans HZ.out.1
          have hq1 := (hS.cell (World.block_lt_of_cell? _ _ HZ.out.2.1)).trans HZ.out.2.1
          have hq2 := (hS.cell (World.block_lt_of_cell? _ _ HZ.out.2.2.1)).trans HZ.out.2.2.1
          go_simp
          with_reducible rfl
        rotate_left
        · simp only [Act.put, List.setIfInBounds_toArray, List.set_cons_zero, List.set_cons_succ, i64_w, i32_w]
          rfl
        refine pure_ (i := 10) (N := some 34) (v := ?_) (a' := ?_) #[true, true, true, true, true, true, true, true, true, true, true, false, false, false, false, false, false, false, false, false, false, false, false, false] rfl rfl (by kernel_rfl) (fun _ _ _ h => h) (Or.inl ⟨by rfl, ?_⟩) ?_ ?_
        rotate_left
        · intro w'
          go_simp
          with_reducible rfl
        rotate_left
        · simp only [Act.put, List.setIfInBounds_toArray, List.set_cons_zero, List.set_cons_succ, i64_w, i32_w]
          rfl
        refine pure_ (i := 11) (N := some 35) (v := ?_) (a' := ?_) #[true, true, true, true, true, true, true, true, true, true, true, true, false, false, false, false, false, false, false, false, false, false, false, false] rfl rfl (by kernel_rfl) (fun _ _ _ h => h) (Or.inl ⟨by rfl, ?_⟩) ?_ ?_
        rotate_left
        · intro w'
          go_simp
          with_reducible rfl
        rotate_left
        · simp only [Act.put, List.setIfInBounds_toArray, List.set_cons_zero, List.set_cons_succ, i64_w, i32_w]
          rfl
        refine pure_ (i := 12) (N := some 36) (v := ?_) (a' := ?_) #[true, true, true, true, true, true, true, true, true, true, true, true, true, false, false, false, false, false, false, false, false, false, false, false] rfl rfl (by kernel_rfl) (fun _ _ _ h => h) (Or.inl ⟨by rfl, ?_⟩) ?_ ?_
        rotate_left
        · intro w'
          go_simp
          with_reducible rfl
        rotate_left
        · simp only [Act.put, List.setIfInBounds_toArray, List.set_cons_zero, List.set_cons_succ, i64_w, i32_w]
          rfl
        refine pure_ (i := 13) (N := some 37) (v := ?_) (a' := ?_) #[true, true, true, true, true, true, true, true, true, true, true, true, true, true, false, false, false, false, false, false, false, false, false, false] rfl rfl (by kernel_rfl) (fun _ _ _ h => h) (Or.inl ⟨by rfl, ?_⟩) ?_ ?_
        rotate_left
        · intro w'
          go_simp
          with_reducible rfl
        rotate_left
        · simp only [Act.put, List.setIfInBounds_toArray, List.set_cons_zero, List.set_cons_succ, i64_w, i32_w]
          rfl
        refine pure_ (i := 14) (N := some 38) (v := ?_) (a' := ?_) #[true, true, true, true, true, true, true, true, true, true, true, true, true, true, true, false, false, false, false, false, false, false, false, false] rfl rfl (by kernel_rfl) (fun _ _ _ h => h) (Or.inl ⟨by rfl, ?_⟩) ?_ ?_
        rotate_left
        · intro w'
          go_simp
          with_reducible rfl
        rotate_left
        · simp only [Act.put, List.setIfInBounds_toArray, List.set_cons_zero, List.set_cons_succ, i64_w, i32_w]
          rfl
        refine pure_ (i := 15) (N := some 39) (v := ?_) (a' := ?_) #[true, true, true, true, true, true, true, true, true, true, true, true, true, true, true, true, false, false, false, false, false, false, false, false] rfl rfl (by kernel_rfl) (fun _ _ _ h => h) (Or.inl ⟨by rfl, ?_⟩) ?_ ?_
        rotate_left
        · intro w'
          go_simp
          with_reducible rfl
        rotate_left
        · simp only [Act.put, List.setIfInBounds_toArray, List.set_cons_zero, List.set_cons_succ, i64_w, i32_w]
          rfl
        refine take_ (i := 16) (N := some 40) (v := ?_) (a' := ?_) #[true, true, true, true, true, true, true, true, true, true, true, true, true, true, true, true, true, false, false, false, false, false, false, false] rfl rfl (by kernel_rfl) (fun _ _ _ h => h) (Or.inl ⟨by rfl, ?_⟩) hHeld ?_ ?_
        rotate_left
        · rintro w' hS
          have hq3 := (hS.cell (World.block_lt_of_cell? _ _ HY.out.2.2.2.1)).trans HY.out.2.2.2.1
          go_simp
          with_reducible rfl
        rotate_left
        · simp only [Act.put, List.setIfInBounds_toArray, List.set_cons_zero, List.set_cons_succ, i64_w, i32_w]
          rfl
        refine pure_ (i := 17) (N := some 41) (v := ?_) (a' := ?_) #[true, true, true, true, true, true, true, true, true, true, true, true, true, true, true, true, true, true, false, false, false, false, false, false] rfl rfl (by kernel_rfl) (fun _ _ _ h => h) (Or.inl ⟨by rfl, ?_⟩) ?_ ?_
        rotate_left
        · intro w'
          go_simp
          with_reducible rfl
        rotate_left
        · simp only [Act.put, List.setIfInBounds_toArray, List.set_cons_zero, List.set_cons_succ, i64_w, i32_w]
          rfl
        refine pure_ (i := 18) (N := some 42) (v := ?_) (a' := ?_) #[true, true, true, true, true, true, true, true, true, true, true, true, true, true, true, true, true, true, true, false, false, false, false, false] rfl rfl (by kernel_rfl) (fun _ _ _ h => h) (Or.inl ⟨by rfl, ?_⟩) ?_ ?_
        rotate_left
        · intro w'
          go_simp
          with_reducible rfl
        rotate_left
        · simp only [Act.put, List.setIfInBounds_toArray, List.set_cons_zero, List.set_cons_succ, i64_w, i32_w]
          rfl
        refine pure_ (i := 19) (N := some 43) (v := ?_) (a' := ?_) #[true, true, true, true, true, true, true, true, true, true, true, true, true, true, true, true, true, true, true, true, false, false, false, false] rfl rfl (by kernel_rfl) (fun _ _ _ h => h) (Or.inl ⟨by rfl, ?_⟩) ?_ ?_
        rotate_left
        · intro w'
          go_simp
          with_reducible rfl
        rotate_left
        · simp only [Act.put, List.setIfInBounds_toArray, List.set_cons_zero, List.set_cons_succ, i64_w, i32_w]
          rfl
        refine pure_ (i := 20) (N := some 44) (v := ?_) (a' := ?_) #[true, true, true, true, true, true, true, true, true, true, true, true, true, true, true, true, true, true, true, true, true, false, false, false] rfl rfl (by kernel_rfl) (fun _ _ _ h => h) (Or.inl ⟨by rfl, ?_⟩) ?_ ?_
        rotate_left
        · intro w'
          go_simp
          with_reducible rfl
        rotate_left
        · simp only [Act.put, List.setIfInBounds_toArray, List.set_cons_zero, List.set_cons_succ, i64_w, i32_w]
          rfl
        refine take_ (i := 21) (N := some 45) (v := ?_) (a' := ?_) #[true, true, true, true, true, true, true, true, true, true, true, true, true, true, true, true, true, true, true, true, true, true, false, false] rfl rfl (by kernel_rfl) (fun _ _ _ h => h) (Or.inl ⟨by rfl, ?_⟩) hHeld ?_ ?_
        rotate_left
        · rintro w' hS
          have hq3 := (hS.cell (World.block_lt_of_cell? _ _ HZ.out.2.2.2.1)).trans HZ.out.2.2.2.1
          go_simp
          with_reducible rfl
        rotate_left
        · simp only [Act.put, List.setIfInBounds_toArray, List.set_cons_zero, List.set_cons_succ, i64_w, i32_w]
          rfl
        refine pure_ (i := 22) (N := some 46) (v := ?_) (a' := ?_) #[true, true, true, true, true, true, true, true, true, true, true, true, true, true, true, true, true, true, true, true, true, true, true, false] rfl rfl (by kernel_rfl) (fun _ _ _ h => h) (Or.inl ⟨by rfl, ?_⟩) ?_ ?_
        rotate_left
        · intro w'
          go_simp
          with_reducible rfl
        rotate_left
        · simp only [Act.put, List.setIfInBounds_toArray, List.set_cons_zero, List.set_cons_succ, i64_w, i32_w]
          rfl
        refine pure_ (i := 23) (N := some 47) (v := ?_) (a' := ?_) #[true, true, true, true, true, true, true, true, true, true, true, true, true, true, true, true, true, true, true, true, true, true, true, true] rfl rfl (by kernel_rfl) (fun _ _ _ h => h) (Or.inl ⟨by rfl, ?_⟩) ?_ ?_
        rotate_left
        · intro w'
          go_simp
          with_reducible rfl
        rotate_left
        · simp only [Act.put, List.setIfInBounds_toArray, List.set_cons_zero, List.set_cons_succ, i64_w, i32_w]
          rfl
        refine done_ (by kernel_rfl) ?_
        have HBn := Aside0.mk (below_drew HB.out)
        clear hHeld
        go_wp2
        go_roundw
        case rel => exact ⟨k + 1, by go_num, by omega, HBn⟩
        case measure => simp [intOf]; omega
      · go_wp2_with fail
        refine (Go.Proofs.YtcpikafmclfcfaaDoor.Vc.alive_calls _ (HG.out.below (below_then HB2.out HB2.out.size HB.out))).mono ?_
        rintro e w7 ⟨rfl, hb⟩
        have HB7 := Aside0.mk (below_then (below_then HB2.out HB2.out.size HB.out) (below_then HB2.out HB2.out.size HB.out).size hb)
        clear hb
        go_wp2
        go_ret
        exact ⟨rfl, HB7.out⟩
end Go.Proofs.YtcpikafmclfcfaaDoor.Vn
end
section
namespace Go.Proofs.YtcpikafmclfcfaaDoor.Vc
open Go.RowKit Go.Proofs.YtcpikafmclfcfaaDoorW.PrintWords Go.Proofs.YtcpikafmclfcfaaDoor.PV Go.Proofs.YtcpikafmclfcfaaDoor.Op Go.Proofs.YtcpikafmclfcfaaDoor.Vl
abbrev wfI (y : Int) : Prop := (Lit.int .i64 y).wf = true
theorem vec_opens : Opens Tryd.prog 23 k23.K (fun x => wfI x.f0 ∧ wfI x.f1 ∧ wfI x.f2) :=
  opens_iso (fun x : S23 => (x.f0, x.f1, x.f2)) (fun p => ⟨p.1, p.2.1, p.2.2⟩) (fun _ => rfl)
    (opens_struct (sz := 3) Tryd.underlying23 (by kernel_rfl)
      (opensF_cons (off := 0) (a := Kd.int .i64) (b := Kd.pair (Kd.int .i64) (Kd.int .i64)) (Ga := wfI) (Gb := fun y => wfI y.1 ∧ wfI y.2) 3 rfl rfl (by kernel_rfl) (opens_int Tryd.underlying3)
        (opensF_cons (off := 1) (a := Kd.int .i64) (b := Kd.int .i64) (Ga := wfI) (Gb := wfI) 3 rfl rfl (by kernel_rfl) (opens_int Tryd.underlying3) (opensF_one 3 rfl rfl (by kernel_rfl) (opens_int Tryd.underlying3)))))
theorem vecs_opens : Opens Tryd.prog 38 (Kd.slice 23 k23).K (fun l => l.length ≤ maxLen ∧ ∀ x ∈ l, wfI x.f0 ∧ wfI x.f1 ∧ wfI x.f2) := opens_slice 23 Tryd.underlying38 (by kernel_rfl) vec_opens
end Go.Proofs.YtcpikafmclfcfaaDoor.Vc
end
section
namespace Go.Proofs.YtcpikafmclfcfaaDoor.vecCounts
open Go.ChangeShapes Go.WideShapes Go.ChangeAt Go.RowKit
open Go.ChangeMaps (open_string shut_string)
open Go.Proofs.YtcpikafmclfcfaaDoorW.PrintWords 
set_option linter.unusedVariables false
set_option maxRecDepth 100000
theorem own : ownKnob Tryd.prog.godebug = none := by kernel_rfl
theorem laidOut : laidOutB Tryd.prog = true := by kernel_rfl
theorem laid_met (os : Os) : laidMet Tryd.prog Rows.vecCountsRow.laid ((World.laidAll Tryd.prog os Rows.vecCountsRow.laid).forCall (fun _ _ => 0) ⟨#[], #[.slice none 0 0], []⟩).memory :=
  laidMet_laidAll _ (by kernel_rfl) (by kernel_rfl)
theorem witness_row (os : Os) {H : Type} (enc : TypeId × Value → H) :
    (OpenSpec.ofChange Rows.vecCountsSpec).preRow enc Tryd.prog Tryd.f9 Rows.vecCountsRow.domain false Rows.vecCountsRow.laid ((World.laidAll Tryd.prog os Rows.vecCountsRow.laid).forCall (fun _ _ => 0) ⟨#[], #[.slice none 0 0], []⟩).memory #[.slice none 0 0] := by
  have hw : (DataW.whole enc Tryd.prog ((World.laidAll Tryd.prog os Rows.vecCountsRow.laid).forCall (fun _ _ => 0) ⟨#[], #[.slice none 0 0], []⟩).memory Tryd.f9.params.toList (OpenSpec.ofChange Rows.vecCountsSpec).vars false #[.slice none 0 0].toList 8).map (fun x => (x.1, x.2.1)) =
      some ([.nil], []) := by kernel_rfl
  obtain ⟨⟨x1, x2, x3⟩, hx, hx1⟩ := Option.map_eq_some_iff.1 hw
  simp only [Prod.mk.injEq] at hx1
  obtain ⟨rfl, rfl⟩ := hx1
  exact OpenSpec.preRow_of_cond 8 hx (by kernel_rfl) (fun k hk => by cases hk) (by kernel_rfl) (laid_met os)
theorem star : "*" ++ "errors.errorString" = "*errors.errorString" := by decide
theorem row_err (u : TypeId) (h : Tryd.prog.typeName? 3 u = some "*errors.errorString") : u = 149 :=
  typeName_ptr_named (nm := "errors.errorString") (by rw [star]; kernel_rfl) (by kernel_rfl) (by decide) u (by rw [star]; exact h)
theorem glob {W : World} (h : laidMetH Tryd.prog Rows.vecCountsRow.laid W) : Lib.Glob W := by
  rw [MakeChecks.laidMetH_plain _ _ _ (by kernel_rfl)] at h
  have h0 : laidMet Tryd.prog Rows.vecCountsRow.laid W := h
  have h1 : laidMet Tryd.prog [("math/bits.deBruijn64tab", Rows.laid_math_bits_deBruijn64tab), ("internal/strconv.uint64pow10", Rows.laid_internal_strconv_uint64pow10), ("unicode/utf8.acceptRanges", Rows.laid_unicode_utf8_acceptRanges), ("strconv.ErrRange", Rows.laid_strconv_ErrRange), ("strconv.ErrSyntax", Rows.laid_strconv_ErrSyntax), ("unicode/utf8.first", Rows.laid_unicode_utf8_first)] W := laidMet.tail h0
  have h2 : laidMet Tryd.prog [("internal/strconv.uint64pow10", Rows.laid_internal_strconv_uint64pow10), ("unicode/utf8.acceptRanges", Rows.laid_unicode_utf8_acceptRanges), ("strconv.ErrRange", Rows.laid_strconv_ErrRange), ("strconv.ErrSyntax", Rows.laid_strconv_ErrSyntax), ("unicode/utf8.first", Rows.laid_unicode_utf8_first)] W := laidMet.tail h1
  have h3 : laidMet Tryd.prog [("unicode/utf8.acceptRanges", Rows.laid_unicode_utf8_acceptRanges), ("strconv.ErrRange", Rows.laid_strconv_ErrRange), ("strconv.ErrSyntax", Rows.laid_strconv_ErrSyntax), ("unicode/utf8.first", Rows.laid_unicode_utf8_first)] W := laidMet.tail h2
  have h4 : laidMet Tryd.prog [("strconv.ErrRange", Rows.laid_strconv_ErrRange), ("strconv.ErrSyntax", Rows.laid_strconv_ErrSyntax), ("unicode/utf8.first", Rows.laid_unicode_utf8_first)] W := laidMet.tail h3
  have h5 : laidMet Tryd.prog [("strconv.ErrSyntax", Rows.laid_strconv_ErrSyntax), ("unicode/utf8.first", Rows.laid_unicode_utf8_first)] W := laidMet.tail h4
  have h6 : laidMet Tryd.prog [("unicode/utf8.first", Rows.laid_unicode_utf8_first)] W := laidMet.tail h5
  have h7 : laidMet Tryd.prog [] W := laidMet.tail h6
  obtain ⟨a1, s1, v1, _⟩ := laid_sentinel (g := 1) h5 (by kernel_rfl) (by kernel_rfl) Tryd.underlying62 row_err Tryd.underlying149 Tryd.underlying151 rfl rfl Tryd.underlying9 (by kernel_rfl) (by kernel_rfl)
  obtain ⟨a2, s2, v2, _⟩ := laid_sentinel (g := 2) h4 (by kernel_rfl) (by kernel_rfl) Tryd.underlying62 row_err Tryd.underlying149 Tryd.underlying151 rfl rfl Tryd.underlying9 (by kernel_rfl) (by kernel_rfl)
  refine ⟨Go.Lib.tabIs_of_head Lib.g_tab (by kernel_rfl) Tryd.underlying153 Tryd.underlying95 (by kernel_rfl) (by kernel_rfl) h2, ⟨_, _, v1⟩, ⟨_, _, v2⟩⟩
set_option maxHeartbeats 4000000 in
theorem lifted (os : Os) (started : os.Started) (H : Type) (enc : TypeId × Value → H) (F : Stop.Interp) :
    ReturnsInHanded {} Tryd.checked os 9 .any ((OpenSpec.ofChange Rows.vecCountsSpec).preRow enc Tryd.prog Tryd.f9 Rows.vecCountsRow.domain false Rows.vecCountsRow.laid) (((OpenSpec.ofChange Rows.vecCountsSpec).at F).post enc Tryd.prog Tryd.f9 false true false false) := by
  refine returnsInHanded_of_row (C := Tryd.checked) (s := (OpenSpec.ofChange Rows.vecCountsSpec)) own started (by kernel_rfl) Tryd.func9
    (witness_row_atRef (enc := enc) (C := Tryd.checked) false (World.laidAll Tryd.prog os Rows.vecCountsRow.laid) #[.slice none 0 0] (World.laidAll_os _ _ _) (by kernel_rfl) (by kernel_rfl) (by kernel_rfl) (witness_row os enc)) ?_
  intro W base args ds gs before hval0 hW _ _ hsz0 hL _ _
  have hsz : (DataW.weightsEach Tryd.prog (Tryd.f9.params.toList ++ (OpenSpec.ofChange Rows.vecCountsSpec).bare.plain.varTypes Tryd.prog) (ds ++ gs)).all (· ≤ reachBytes) = true := hsz0
  have hval : ∀ (j : Nat) t v, Tryd.f9.params[j]? = some t → args[j]? = some v → Value.okWide Tryd.prog W .any base t v := hval0
  have hG := glob hL
  have hW' := hW
  obtain ⟨p, q, hA0, hV, rfl, hfz, hnd⟩ := hW
  have hA : DataW.TrodAll enc Tryd.prog W 0 (fun _ => true) true Tryd.f9.params.toList args.toList ds p := hA0
  rw [Tryd.params9] at hA hval hsz
  obtain ⟨v0, vs0, d0, ds0, p0, q0, hargs, rfl, rfl, t0, r0⟩ := trodAll_cons hA
  obtain ⟨rfl, rfl, rfl⟩ := trodAll_nil r0
  obtain rfl : args = #[v0] := by cases args; simp_all
  obtain ⟨rfl, rfl⟩ := trodVars_none hV
  have k0 := t0
  have y0 := hval 0 38 v0 rfl rfl
  obtain ⟨x0, kx0, gx0⟩ := Op.opens_arg Vc.vecs_opens t0
  obtain ⟨A0, c0, e0, hc0, hr0⟩ := kx0
  obtain ⟨a0, l0, b0, rfl⟩ := okWide_slice Tryd.underlying38 y0
  have e0 : Value.slice a0 l0 b0 = .slice A0 x0.length c0 := by simpa [Value.cells] using e0
  injection e0 with ea0 eb0 ec0
  subst ea0; subst eb0; subst ec0
  clear hA0 hval0 hsz0 hsz
  refine (Vn.counts_calls a0 b0 x0 W hr0 gx0.1 gx0.2 hG).mono fun e W' ⟨he, bel⟩ => ?_
  subst he
  exact ⟨_, rfl, _, _, _, [], _, [], hW', trodAll_mk1 (shut_bool Tryd.underlying4 _), (trodAll_cons_mk (Below.trod laidOut (by kernel_rfl) (of_decide_eq_true (by kernel_rfl)) k0 bel (Op.trod_lt k0)) trodAll_mk0), rfl, bel.frame _, fun h => by cases h⟩
theorem said : Rows.VecCountsSaid :=
  OpenClaim.holds_of_cond 9 Tryd.f9 rfl rfl rfl rfl rfl rfl rfl ⟨rfl, rfl, rfl, rfl, rfl⟩ rfl rfl rfl rfl rfl (by kernel_rfl) Tryd.func9 (by kernel_rfl)
    (of_decide_eq_true (by kernel_rfl)) (by unfold Func.isWrapper; first | (rw [if_pos (by decide +kernel)]; kernel_rfl) | (rw [if_neg (by decide +kernel)]; exact ⟨rfl, rfl⟩))
    (fun os started H enc _ F => by rw [OpenClaim.pre_eq_preRow]; exact lifted os started H enc F)
theorem plain (f : FuncId) (fn : Func) (hf : Tryd.pinned.checked.prog.funcNamed "marlinspike/marlinspikelaw06.VecCounts" = some f) (hfn : Tryd.pinned.checked.prog.funcs[f]? = some fn) :
    true = Tryd.pinned.checked.prog.looks [] ∧ ∀ (j : Nat) t, fn.params[j]? = some t → Tryd.pinned.checked.prog.wantsStandIn t = false := by
  obtain rfl : f = 9 := Option.some.inj ((show Tryd.prog.funcNamed "marlinspike/marlinspikelaw06.VecCounts" = some 9 by kernel_rfl).symm.trans hf) |>.symm
  obtain rfl : fn = Tryd.f9 := (Option.some.inj (Tryd.func9.symm.trans hfn)).symm
  refine ⟨by kernel_rfl, fun j t ht => ?_⟩
  rw [Tryd.params9] at ht
  have := Array.mem_of_getElem? ht
  have all : (#[38] : Array TypeId).all (fun t => Tryd.prog.wantsStandIn t = false) = true := by kernel_rfl
  exact of_decide_eq_true (Array.all_eq_true_iff_forall_mem.1 all t this)
theorem card : Rows.VecCountsCardSaid :=
  Claim7.holds_tied_plain_at .later [] _ _ _ _ said (fun _ h => by cases h) (by kernel_rfl) (fun _ h => by cases h) vecCounts_row_tie rfl ⟨rfl, rfl⟩ (by kernel_rfl) rfl plain (by kernel_rfl)
#print axioms card
end Go.Proofs.YtcpikafmclfcfaaDoor.vecCounts
namespace Go.Proofs.YtcpikafmclfcfaaDoor
theorem vecCounts_card : Rows.VecCountsCardSaid := vecCounts.card
end Go.Proofs.YtcpikafmclfcfaaDoor
end
