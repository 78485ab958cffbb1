/- Part 4 of the proof of VecTextsCardSaid. -/
import Derived.Test.YtcpikafmclfcfaaDoorZ03
import Derived.Test.YtcpikafmclfcfaaDoorProg
import Derived.Below
import Derived.Deep.Draws
import Derived.Deep.AppendLies
import Derived.Maps.AppendAt
import Derived.OwnWalk
import Derived.Laws.BytesArg
import Derived.Laws.MakeOwn
import Derived.Laws.OwnMore
import Derived.Deep.OwnRows
import Derived.Tactics
import Derived.Lib.ConvBytes
import Derived.Laws.Slices
import Derived.WalkKit
import Derived.KernelRfl
import Derived.RowKit3
import Derived.Deep.LoopGhost
import Derived.Deep.QuietTactic
import Derived.BigQuiet
import Derived.WideLaws
import Derived.Deep.DeepCutAuto
import Derived.Deep.CutBlock
import Derived.Deep.RegionHeld3
import Derived.Laws.Rows
import Derived.Lib.AppendStr
import Derived.ArgAppend
import Derived.Laws.IdiomCopy
import Derived.OrdersHeld
import Derived.Laws.BitsLemmas
import Derived.RowKit
import Derived.Test.YtcpikafmclfcfaaDoorZ01
section
namespace Go.Proofs.YtcpikafmclfcfaaDoor.Vc
open Go.RowKit Go.Proofs.YtcpikafmclfcfaaDoor.Txt Go.Proofs.YtcpikafmclfcfaaDoorW.PrintWords Go.Proofs.YtcpikafmclfcfaaDoorW.PrintLast Go.Proofs.YtcpikafmclfcfaaDoorW.PrintMore Go.Proofs.YtcpikafmclfcfaaDoor.PV Go.Proofs.YtcpikafmclfcfaaDoor.Vl
set_option linter.unusedVariables false
set_option linter.unusedSimpArgs false
def addP (u : List UInt8) (k : Nat) (n : Int) : List UInt8 := if n = 0 then u else if u = [] then partL k n else u ++ 44 :: partL k n
theorem partL_len (k : Nat) (n : Int) (h : I64 n) : (partL k n).length ≤ 25 := by
  unfold partL
  have := itoa_len n h
  rw [List.length_append, nm_len, List.length_cons]; omega
theorem addP_len (u : List UInt8) (k : Nat) (n : Int) (h : I64 n) : (addP u k n).length ≤ u.length + 26 := by
  have := partL_len k n h
  unfold addP
  split
  · omega
  · split
    · omega
    · rw [List.length_append, List.length_cons]; omega
theorem partL_ne (k : Nat) (n : Int) : partL k n ≠ [] := by
  intro h
  have := congrArg List.length h
  unfold partL at this
  rw [List.length_append, nm_len] at this
  simp at this
theorem fmt_add (a b c : Int) : fmtL a b c = (if addP (addP (addP [] 0 a) 1 b) 2 c = [] then noneL else addP (addP (addP [] 0 a) 1 b) 2 c) := by
  have p0 := partL_ne 0 a
  have p1 := partL_ne 1 b
  have p2 := partL_ne 2 c
  unfold fmtL partsL one addP
  by_cases h0 : a = 0 <;> by_cases h1 : b = 0 <;> by_cases h2 : c = 0 <;> simp [h0, h1, h2, p0, p1, p2, Go.Lib.join, List.intercalate]
def accT (a b c : Int) : Nat → List UInt8
  | 0 => []
  | k + 1 => addP (accT a b c k) k (pt a b c k)
theorem accT_len (a b c : Int) (h : ∀ k, I64 (pt a b c k)) : ∀ k, (accT a b c k).length ≤ 26 * k
  | 0 => Nat.le_refl 0
  | k + 1 => by
    have h1 := accT_len a b c h k
    have h2 := addP_len (accT a b c k) k _ (h k)
    show (addP (accT a b c k) k (pt a b c k)).length ≤ _
    omega
theorem nm_cell {W : World} {b : Nat} {t : TypeId} (h : W.heap[b]? = some (.cells #[.string ⟨#[99, 112, 117]⟩, .string ⟨#[109, 101, 109]⟩, .string ⟨#[103, 112, 117]⟩] t (0, 0))) (k : Nat) (hk : k < 3) : W.cell? ⟨b, k, none⟩ = some (.string (nmB k)) := by
  have : k = 0 ∨ k = 1 ∨ k = 2 := by omega
  rcases this with rfl | rfl | rfl
  · exact (cell3 h).1
  · exact (cell3 h).2.1
  · exact (cell3 h).2.2
theorem nmB_mk (k : Nat) : nmB k = mkB (nm k) := rfl
set_option maxHeartbeats 4000000 in
set_option maxRecDepth 100000 in
theorem rFormat_calls (a b c : Int) (w : World) (ha : I64 a) (hb : I64 b) (hc : I64 c) : Calls Tryd.prog 13 #[vecV a b c] w fun e w' => e = .returned (.string (mkB (fmtL a b c))) ∧ Below w.heap.size w w' := by
  have hu23 := Tryd.underlying23
  have HPI := Aside0.mk (show ∀ k, I64 (pt a b c k) from fun k => by match k with | 0 => exact ha | 1 => exact hb | _ + 2 => exact hc)
  have HF := Aside0.mk (show fmtL a b c = if accT a b c 3 = [] then noneL else accT a b c 3 from fmt_add a b c)
  clear ha hb hc
  go_enter Tryd.func13, Tryd.ntmps13
  go_wp2_with fail
  have HB := Aside0.mk (below_alloc (below_alloc (below_alloc (Below.refl w.heap.size w) (.cells #[.int .i64 a, .int .i64 b, .int .i64 c] 23)) (.cells #[.string ⟨#[99, 112, 117]⟩, .string ⟨#[109, 101, 109]⟩, .string ⟨#[103, 112, 117]⟩] 9)) (.cells #[.int .i64 a, .int .i64 b, .int .i64 c] 3))
  have BN := Aside0.mk (blk_alloc (show ((w.alloc (.cells #[.int .i64 a, .int .i64 b, .int .i64 c] 23)).alloc (.cells #[.string ⟨#[99, 112, 117]⟩, .string ⟨#[109, 101, 109]⟩, .string ⟨#[103, 112, 117]⟩] 9)).heap[w.heap.size + 1]? = some (.cells #[.string ⟨#[99, 112, 117]⟩, .string ⟨#[109, 101, 109]⟩, .string ⟨#[103, 112, 117]⟩] 9 (0, 0)) from by
    have := blk_new (w.alloc (.cells #[.int .i64 a, .int .i64 b, .int .i64 c] 23)) (.cells #[.string ⟨#[99, 112, 117]⟩, .string ⟨#[109, 101, 109]⟩, .string ⟨#[103, 112, 117]⟩] 9); rwa [World.size_alloc] at this) (.cells #[.int .i64 a, .int .i64 b, .int .i64 c] 3))
  have BL := Aside0.mk (blk_new ((w.alloc (.cells #[.int .i64 a, .int .i64 b, .int .i64 c] 23)).alloc (.cells #[.string ⟨#[99, 112, 117]⟩, .string ⟨#[109, 101, 109]⟩, .string ⟨#[103, 112, 117]⟩] 9)) (.cells #[.int .i64 a, .int .i64 b, .int .i64 c] 3))
  rw [World.size_alloc, World.size_alloc] at BL
  obtain ⟨w1, hw1⟩ : ∃ w1, ((w.alloc (.cells #[.int .i64 a, .int .i64 b, .int .i64 c] 23)).alloc (.cells #[.string ⟨#[99, 112, 117]⟩, .string ⟨#[109, 101, 109]⟩, .string ⟨#[103, 112, 117]⟩] 9)).alloc (.cells #[.int .i64 a, .int .i64 b, .int .i64 c] 3) = w1 := ⟨_, rfl⟩
  obtain ⟨bl, hbl⟩ : ∃ b, w.heap.size + 1 + 1 = b := ⟨_, rfl⟩
  obtain ⟨bn, hbn⟩ : ∃ b, w.heap.size + 1 = b := ⟨_, rfl⟩
  rw [hw1] at HB BN BL ⊢
  rw [hbl] at BL ⊢
  rw [hbn] at BN ⊢
  clear hw1 hbl hbn
  go_loopw [3, 6] (fun v3 v6 wr => ∃ k : Nat, k ≤ 3 ∧ v6 = .int .i64 k ∧ v3 = .string (mkB (accT a b c k)) ∧ Aside0 (Below w.heap.size w wr) ∧ Aside0 (wr.heap[bn]? = some (.cells #[.string ⟨#[99, 112, 117]⟩, .string ⟨#[109, 101, 109]⟩, .string ⟨#[103, 112, 117]⟩] 9 (0, 0))) ∧ Aside0 (wr.heap[bl]? = some (.cells #[.int .i64 a, .int .i64 b, .int .i64 c] 3 (0, 0)))) (fun _ v6 _ => 3 - (intOf v6).toNat)
  case atStart => exact ⟨0, by omega, rfl, rfl, HB, BN, BL⟩
  case round =>
    clear HB BN BL
    obtain ⟨k, hk, rfl, rfl, HB, BN, BL⟩ := hrel
    have HA := Aside0.mk (accT_len a b c HPI.out k)
    by_cases hlt : k < 3
    · have hcl := cellk BL.out k hlt
      have hcn := nm_cell BN.out k hlt
      have HI := Aside0.mk (HPI.out k)
      by_cases hz : pt a b c k = 0
      · have HZ := Aside0.mk (show accT a b c (k + 1) = accT a b c k by rw [accT, addP, if_pos hz])
        have dz : (pt a b c k == 0) = true := by simp [hz]
        rw [hz] at hcl
        go_wp2
        go_roundw
        case rel => exact ⟨k + 1, by omega, by simp, by rw [HZ.out], HB, BN, BL⟩
        case measure => simp [intOf]; omega
      · have dz : (pt a b c k == 0) = false := by simp [hz]
        clear hz
        have hs1 : (9223372036854775807 < (nmB k).size + 1) = False := eq_false (by rw [nmB_size]; omega)
        have hil := itoa_len _ HI.out
        have hs2 : (9223372036854775807 < (nmB k).size + 1 + (mkB (Go.Lib.itoa (pt a b c k))).size) = False := eq_false (by rw [nmB_size, mkB_size]; omega)
        cases hu : ((mkB (accT a b c k)).toList.isEmpty) with
        | true =>
          have hnil : accT a b c k = [] := by rw [toList_L, L_mkB] at hu; exact List.isEmpty_iff.1 hu
          have HZ := Aside0.mk (show accT a b c (k + 1) = accT a b c k ++ partL k (pt a b c k) by rw [accT, addP, if_neg (by simpa using dz), if_pos hnil, hnil, List.nil_append])
          clear hnil
          go_wp2_with fail
          have hs3 : (9223372036854775807 < (mkB (accT a b c k)).size + ((nmB k).size + 1 + (mkB (Go.Lib.itoa (pt a b c k))).size)) = False := eq_false (by rw [nmB_size, mkB_size, mkB_size]; have := HA.out; (try simp only [List.length_append, List.length_cons, List.length_nil]); omega)
          refine start_ (n := 14) (S := fun w' => w'.cell? ⟨bn, k, none⟩ = some (.string (nmB k)) ∧ w'.cell? ⟨bl, k, none⟩ = some (.int .i64 (pt a b c k))) (ds := []) #[false, false, false, false, false, false, false, false, false, false, false, false, false, false] (by kernel_rfl) rfl rfl ⟨nm_cell (blk_drew BN.out) k hlt, cellk (blk_drew BL.out) k hlt⟩ (fun hHeld => ?_)
          refine pure_ (i := 0) (N := some 30) (v := ?_) (a' := ?_) #[true, false, false, false, false, false, false, false, false, false, false, false, false, false] rfl rfl (by kernel_rfl) (fun _ _ _ h => h) (Or.inl ⟨by rfl, ?_⟩) ?_ ?_
          rotate_left
          · intro w'
            go_simp
            with_reducible rfl
          rotate_left
          · simp only [Act.put, List.setIfInBounds_toArray, List.set_cons_zero, List.set_cons_succ, i64_w, i32_w]
            rfl
          refine pure_ (i := 1) (N := some 31) (v := ?_) (a' := ?_) #[true, true, false, false, false, false, false, false, false, false, false, false, false, false] rfl rfl (by kernel_rfl) (fun _ _ _ h => h) (Or.inl ⟨by rfl, ?_⟩) ?_ ?_
          rotate_left
          · intro w'
            go_simp
            with_reducible rfl
          rotate_left
          · simp only [Act.put, List.setIfInBounds_toArray, List.set_cons_zero, List.set_cons_succ, i64_w, i32_w]
            rfl
          refine pure_ (i := 2) (N := some 32) (v := ?_) (a' := ?_) #[true, true, true, false, false, false, false, false, false, false, false, false, false, false] rfl rfl (by kernel_rfl) (fun _ _ _ h => h) (Or.inl ⟨by rfl, ?_⟩) ?_ ?_
          rotate_left
          · intro w'
            go_simp
            with_reducible rfl
          rotate_left
          · simp only [Act.put, List.setIfInBounds_toArray, List.set_cons_zero, List.set_cons_succ, i64_w, i32_w]
            rfl
          refine pure_ (i := 3) (N := some 33) (v := ?_) (a' := ?_) #[true, true, true, true, false, false, false, false, false, false, false, false, false, false] rfl rfl (by kernel_rfl) (fun _ _ _ h => h) (Or.inl ⟨by rfl, ?_⟩) ?_ ?_
          rotate_left
          · intro w'
            go_simp
            with_reducible rfl
          rotate_left
          · simp only [Act.put, List.setIfInBounds_toArray, List.set_cons_zero, List.set_cons_succ, i64_w, i32_w]
            rfl
          refine take_ (i := 4) (N := some 34) (v := ?_) (a' := ?_) #[true, true, true, true, true, false, false, false, false, false, false, false, false, false] rfl rfl (by kernel_rfl) (fun _ _ _ h => h) (Or.inl ⟨by rfl, ?_⟩) hHeld ?_ ?_
          rotate_left
          · rintro w' ⟨s0, s1⟩
            go_simp
            with_reducible rfl
          rotate_left
          · simp only [Act.put, List.setIfInBounds_toArray, List.set_cons_zero, List.set_cons_succ, i64_w, i32_w]
            rfl
          refine pure_ (i := 5) (N := some 35) (v := ?_) (a' := ?_) #[true, true, true, true, true, true, false, false, false, false, false, false, false, false] rfl rfl (by kernel_rfl) (fun _ _ _ h => h) (Or.inl ⟨by rfl, ?_⟩) ?_ ?_
          rotate_left
          · intro w'
            go_simp
            with_reducible rfl
          rotate_left
          · simp only [Act.put, List.setIfInBounds_toArray, List.set_cons_zero, List.set_cons_succ, i64_w, i32_w]
            rfl
          refine pure_ (i := 6) (N := some 36) (v := ?_) (a' := ?_) #[true, true, true, true, true, true, true, false, false, false, false, false, false, false] rfl rfl (by kernel_rfl) (fun _ _ _ h => h) (Or.inl ⟨by rfl, ?_⟩) ?_ ?_
          rotate_left
          · intro w'
            go_simp
            with_reducible rfl
          rotate_left
          · simp only [Act.put, List.setIfInBounds_toArray, List.set_cons_zero, List.set_cons_succ, i64_w, i32_w]
            rfl
          refine pure_ (i := 7) (N := some 37) (v := ?_) (a' := ?_) #[true, true, true, true, true, true, true, true, false, false, false, false, false, false] rfl rfl (by kernel_rfl) (fun _ _ _ h => h) (Or.inl ⟨by rfl, ?_⟩) ?_ ?_
          rotate_left
          · intro w'
            go_simp
            with_reducible rfl
          rotate_left
          · simp only [Act.put, List.setIfInBounds_toArray, List.set_cons_zero, List.set_cons_succ, i64_w, i32_w]
            rfl
          refine pure_ (i := 8) (N := some 38) (v := ?_) (a' := ?_) #[true, true, true, true, true, true, true, true, true, false, false, false, false, false] rfl rfl (by kernel_rfl) (fun _ _ _ h => h) (Or.inl ⟨by rfl, ?_⟩) ?_ ?_
          rotate_left
          · intro w'
            go_simp
            with_reducible rfl
          rotate_left
          · simp only [Act.put, List.setIfInBounds_toArray, List.set_cons_zero, List.set_cons_succ, i64_w, i32_w]
            rfl
          refine take_ (i := 9) (N := some 39) (v := ?_) (a' := ?_) #[true, true, true, true, true, true, true, true, true, true, false, false, false, false] rfl rfl (by kernel_rfl) (fun _ _ _ h => h) (Or.inl ⟨by rfl, ?_⟩) hHeld ?_ ?_
          rotate_left
          · rintro w' ⟨s0, s1⟩
            go_simp
            with_reducible rfl
          rotate_left
          · simp only [Act.put, List.setIfInBounds_toArray, List.set_cons_zero, List.set_cons_succ, i64_w, i32_w]
            rfl
          refine one_ (i := 10) (N := some 40) #[true, true, true, true, true, true, true, true, true, true, true, false, false, false] rfl rfl (by kernel_rfl) (by decide) (fun K hK => ?_)
          refine goes_ Tryd.func40 (by kernel_rfl) rfl #[.int .i64 (pt a b c k)] (by rfl) rfl rfl (by (try simp only [List.map_toArray, List.map_cons, List.map_nil]); first | done | rfl) ?_
          refine (marlinspikeref06_digits.calls 40 (pt a b c k) (mkB (Go.Lib.itoa (pt a b c k))) _ (rdigits_f _ HI.out 40 (by omega))).mono ?_
          rintro e w2 ⟨rfl, hb⟩
          have HB2 := Aside0.mk (below_then (below_drew HB.out) (below_drew HB.out).size hb)
          have BN2 := Aside0.mk (blk_below (blk_drew BN.out) hb)
          have BL2 := Aside0.mk (blk_below (blk_drew BL.out) hb)
          clear hb
          refine ⟨_, rfl, ?_⟩
          refine hK.out _ _ ⟨nm_cell BN2.out k hlt, cellk BL2.out k hlt⟩ (fun hHeld => ?_)
          clear hK K
          refine norm_ (a' := ?_) ?_ ?_
          rotate_left
          · show Act.put _ (some 40) _ = _
            simp only [Act.put, List.setIfInBounds_toArray, List.set_cons_zero, List.set_cons_succ, i64_w, i32_w]
            rfl
          refine pure_ (i := 11) (N := some 41) (v := ?_) (a' := ?_) #[true, true, true, true, true, true, true, true, true, true, true, true, false, false] rfl rfl (by kernel_rfl) (fun _ _ _ h => h) (Or.inl ⟨by rfl, ?_⟩) ?_ ?_
          rotate_left
          · intro w'
            go_simp
            with_reducible rfl
          rotate_left
          · simp only [Act.put, List.setIfInBounds_toArray, List.set_cons_zero, List.set_cons_succ, i64_w, i32_w]
            rfl
          refine pure_ (i := 12) (N := some 42) (v := ?_) (a' := ?_) #[true, true, true, true, true, true, true, true, true, true, true, true, true, false] rfl rfl (by kernel_rfl) (fun _ _ _ h => h) (Or.inl ⟨by rfl, ?_⟩) ?_ ?_
          rotate_left
          · intro w'
            go_simp
            with_reducible rfl
          rotate_left
          · simp only [Act.put, List.setIfInBounds_toArray, List.set_cons_zero, List.set_cons_succ, i64_w, i32_w]
            rfl
          refine pure_ (i := 13) (N := some 3) (v := ?_) (a' := ?_) #[true, true, true, true, true, true, true, true, true, true, true, true, true, true] rfl rfl (by kernel_rfl) (fun _ _ _ h => h) (Or.inl ⟨by rfl, ?_⟩) ?_ ?_
          rotate_left
          · intro w'
            go_simp
            with_reducible rfl
          rotate_left
          · simp only [Act.put, List.setIfInBounds_toArray, List.set_cons_zero, List.set_cons_succ, i64_w, i32_w]
            rfl
          refine done_ (by kernel_rfl) ?_
          have hfin : mkB (accT a b c k) ++ (nmB k ++ (⟨#[61]⟩ : ByteArray) ++ mkB (Go.Lib.itoa (pt a b c k))) = mkB (accT a b c (k + 1)) := by
            rw [HZ.out, nmB_mk, show (⟨#[61]⟩ : ByteArray) = mkB [61] from rfl, mkB_append, mkB_append, mkB_append]
            unfold partL
            simp
          go_wp2
          go_roundw
          case rel => exact ⟨k + 1, by omega, by simp, by rw [← hfin], HB2, BN2, BL2⟩
          case measure => simp [intOf]; omega
        | false =>
          have hnil : accT a b c k ≠ [] := by rw [toList_L, L_mkB] at hu; intro h; rw [h] at hu; cases hu
          have HZ := Aside0.mk (show accT a b c (k + 1) = (accT a b c k ++ [44]) ++ partL k (pt a b c k) by rw [accT, addP, if_neg (by simpa using dz), if_neg hnil]; simp)
          clear hnil
          have hs0 : (9223372036854775807 < (mkB (accT a b c k)).size + 1) = False := eq_false (by rw [mkB_size]; have := HA.out; omega)
          go_wp2_with fail
          rw [show mkB (accT a b c k) ++ (⟨#[44]⟩ : ByteArray) = mkB (accT a b c k ++ [44]) from mkB_append _ _]
          have hs3 : (9223372036854775807 < (mkB (accT a b c k ++ [44])).size + ((nmB k).size + 1 + (mkB (Go.Lib.itoa (pt a b c k))).size)) = False := eq_false (by rw [nmB_size, mkB_size, mkB_size]; have := HA.out; (try simp only [List.length_append, List.length_cons, List.length_nil]); omega)
          refine start_ (n := 14) (S := fun w' => w'.cell? ⟨bn, k, none⟩ = some (.string (nmB k)) ∧ w'.cell? ⟨bl, k, none⟩ = some (.int .i64 (pt a b c k))) (ds := []) #[false, false, false, false, false, false, false, false, false, false, false, false, false, false] (by kernel_rfl) rfl rfl ⟨nm_cell (blk_drew BN.out) k hlt, cellk (blk_drew BL.out) k hlt⟩ (fun hHeld => ?_)
          refine pure_ (i := 0) (N := some 30) (v := ?_) (a' := ?_) #[true, false, false, false, false, false, false, false, false, false, false, false, false, false] rfl rfl (by kernel_rfl) (fun _ _ _ h => h) (Or.inl ⟨by rfl, ?_⟩) ?_ ?_
          rotate_left
          · intro w'
            go_simp
            with_reducible rfl
          rotate_left
          · simp only [Act.put, List.setIfInBounds_toArray, List.set_cons_zero, List.set_cons_succ, i64_w, i32_w]
            rfl
          refine pure_ (i := 1) (N := some 31) (v := ?_) (a' := ?_) #[true, true, false, false, false, false, false, false, false, false, false, false, false, false] rfl rfl (by kernel_rfl) (fun _ _ _ h => h) (Or.inl ⟨by rfl, ?_⟩) ?_ ?_
          rotate_left
          · intro w'
            go_simp
            with_reducible rfl
          rotate_left
          · simp only [Act.put, List.setIfInBounds_toArray, List.set_cons_zero, List.set_cons_succ, i64_w, i32_w]
            rfl
          refine pure_ (i := 2) (N := some 32) (v := ?_) (a' := ?_) #[true, true, true, false, false, false, false, false, false, false, false, false, false, false] rfl rfl (by kernel_rfl) (fun _ _ _ h => h) (Or.inl ⟨by rfl, ?_⟩) ?_ ?_
          rotate_left
          · intro w'
            go_simp
            with_reducible rfl
          rotate_left
          · simp only [Act.put, List.setIfInBounds_toArray, List.set_cons_zero, List.set_cons_succ, i64_w, i32_w]
            rfl
          refine pure_ (i := 3) (N := some 33) (v := ?_) (a' := ?_) #[true, true, true, true, false, false, false, false, false, false, false, false, false, false] rfl rfl (by kernel_rfl) (fun _ _ _ h => h) (Or.inl ⟨by rfl, ?_⟩) ?_ ?_
          rotate_left
          · intro w'
            go_simp
            with_reducible rfl
          rotate_left
          · simp only [Act.put, List.setIfInBounds_toArray, List.set_cons_zero, List.set_cons_succ, i64_w, i32_w]
            rfl
          refine take_ (i := 4) (N := some 34) (v := ?_) (a' := ?_) #[true, true, true, true, true, false, false, false, false, false, false, false, false, false] rfl rfl (by kernel_rfl) (fun _ _ _ h => h) (Or.inl ⟨by rfl, ?_⟩) hHeld ?_ ?_
          rotate_left
          · rintro w' ⟨s0, s1⟩
            go_simp
            with_reducible rfl
          rotate_left
          · simp only [Act.put, List.setIfInBounds_toArray, List.set_cons_zero, List.set_cons_succ, i64_w, i32_w]
            rfl
          refine pure_ (i := 5) (N := some 35) (v := ?_) (a' := ?_) #[true, true, true, true, true, true, false, false, false, false, false, false, false, false] rfl rfl (by kernel_rfl) (fun _ _ _ h => h) (Or.inl ⟨by rfl, ?_⟩) ?_ ?_
          rotate_left
          · intro w'
            go_simp
            with_reducible rfl
          rotate_left
          · simp only [Act.put, List.setIfInBounds_toArray, List.set_cons_zero, List.set_cons_succ, i64_w, i32_w]
            rfl
          refine pure_ (i := 6) (N := some 36) (v := ?_) (a' := ?_) #[true, true, true, true, true, true, true, false, false, false, false, false, false, false] rfl rfl (by kernel_rfl) (fun _ _ _ h => h) (Or.inl ⟨by rfl, ?_⟩) ?_ ?_
          rotate_left
          · intro w'
            go_simp
            with_reducible rfl
          rotate_left
          · simp only [Act.put, List.setIfInBounds_toArray, List.set_cons_zero, List.set_cons_succ, i64_w, i32_w]
            rfl
          refine pure_ (i := 7) (N := some 37) (v := ?_) (a' := ?_) #[true, true, true, true, true, true, true, true, false, false, false, false, false, false] rfl rfl (by kernel_rfl) (fun _ _ _ h => h) (Or.inl ⟨by rfl, ?_⟩) ?_ ?_
          rotate_left
          · intro w'
            go_simp
            with_reducible rfl
          rotate_left
          · simp only [Act.put, List.setIfInBounds_toArray, List.set_cons_zero, List.set_cons_succ, i64_w, i32_w]
            rfl
          refine pure_ (i := 8) (N := some 38) (v := ?_) (a' := ?_) #[true, true, true, true, true, true, true, true, true, false, false, false, false, false] rfl rfl (by kernel_rfl) (fun _ _ _ h => h) (Or.inl ⟨by rfl, ?_⟩) ?_ ?_
          rotate_left
          · intro w'
            go_simp
            with_reducible rfl
          rotate_left
          · simp only [Act.put, List.setIfInBounds_toArray, List.set_cons_zero, List.set_cons_succ, i64_w, i32_w]
            rfl
          refine take_ (i := 9) (N := some 39) (v := ?_) (a' := ?_) #[true, true, true, true, true, true, true, true, true, true, false, false, false, false] rfl rfl (by kernel_rfl) (fun _ _ _ h => h) (Or.inl ⟨by rfl, ?_⟩) hHeld ?_ ?_
          rotate_left
          · rintro w' ⟨s0, s1⟩
            go_simp
            with_reducible rfl
          rotate_left
          · simp only [Act.put, List.setIfInBounds_toArray, List.set_cons_zero, List.set_cons_succ, i64_w, i32_w]
            rfl
          refine one_ (i := 10) (N := some 40) #[true, true, true, true, true, true, true, true, true, true, true, false, false, false] rfl rfl (by kernel_rfl) (by decide) (fun K hK => ?_)
          refine goes_ Tryd.func40 (by kernel_rfl) rfl #[.int .i64 (pt a b c k)] (by rfl) rfl rfl (by (try simp only [List.map_toArray, List.map_cons, List.map_nil]); first | done | rfl) ?_
          refine (marlinspikeref06_digits.calls 40 (pt a b c k) (mkB (Go.Lib.itoa (pt a b c k))) _ (rdigits_f _ HI.out 40 (by omega))).mono ?_
          rintro e w2 ⟨rfl, hb⟩
          have HB2 := Aside0.mk (below_then (below_drew HB.out) (below_drew HB.out).size hb)
          have BN2 := Aside0.mk (blk_below (blk_drew BN.out) hb)
          have BL2 := Aside0.mk (blk_below (blk_drew BL.out) hb)
          clear hb
          refine ⟨_, rfl, ?_⟩
          refine hK.out _ _ ⟨nm_cell BN2.out k hlt, cellk BL2.out k hlt⟩ (fun hHeld => ?_)
          clear hK K
          refine norm_ (a' := ?_) ?_ ?_
          rotate_left
          · show Act.put _ (some 40) _ = _
            simp only [Act.put, List.setIfInBounds_toArray, List.set_cons_zero, List.set_cons_succ, i64_w, i32_w]
            rfl
          refine pure_ (i := 11) (N := some 41) (v := ?_) (a' := ?_) #[true, true, true, true, true, true, true, true, true, true, true, true, false, false] rfl rfl (by kernel_rfl) (fun _ _ _ h => h) (Or.inl ⟨by rfl, ?_⟩) ?_ ?_
          rotate_left
          · intro w'
            go_simp
            with_reducible rfl
          rotate_left
          · simp only [Act.put, List.setIfInBounds_toArray, List.set_cons_zero, List.set_cons_succ, i64_w, i32_w]
            rfl
          refine pure_ (i := 12) (N := some 42) (v := ?_) (a' := ?_) #[true, true, true, true, true, true, true, true, true, true, true, true, true, false] rfl rfl (by kernel_rfl) (fun _ _ _ h => h) (Or.inl ⟨by rfl, ?_⟩) ?_ ?_
          rotate_left
          · intro w'
            go_simp
            with_reducible rfl
          rotate_left
          · simp only [Act.put, List.setIfInBounds_toArray, List.set_cons_zero, List.set_cons_succ, i64_w, i32_w]
            rfl
          refine pure_ (i := 13) (N := some 3) (v := ?_) (a' := ?_) #[true, true, true, true, true, true, true, true, true, true, true, true, true, true] rfl rfl (by kernel_rfl) (fun _ _ _ h => h) (Or.inl ⟨by rfl, ?_⟩) ?_ ?_
          rotate_left
          · intro w'
            go_simp
            with_reducible rfl
          rotate_left
          · simp only [Act.put, List.setIfInBounds_toArray, List.set_cons_zero, List.set_cons_succ, i64_w, i32_w]
            rfl
          refine done_ (by kernel_rfl) ?_
          have hfin : mkB (accT a b c k ++ [44]) ++ (nmB k ++ (⟨#[61]⟩ : ByteArray) ++ mkB (Go.Lib.itoa (pt a b c k))) = mkB (accT a b c (k + 1)) := by
            rw [HZ.out, nmB_mk, show (⟨#[61]⟩ : ByteArray) = mkB [61] from rfl, mkB_append, mkB_append, mkB_append]
            unfold partL
            simp
          go_wp2
          go_roundw
          case rel => exact ⟨k + 1, by omega, by simp, by rw [← hfin], HB2, BN2, BL2⟩
          case measure => simp [intOf]; omega
    · obtain rfl : k = 3 := by omega
      cases hu : ((mkB (accT a b c 3)).toList.isEmpty) with
      | true =>
        have hnil := Aside0.mk (show accT a b c 3 = [] by rw [toList_L, L_mkB] at hu; exact List.isEmpty_iff.1 hu)
        go_wp2_with fail
        go_ret
        exact ⟨by rw [HF.out, if_pos hnil.out]; rfl, HB.out⟩
      | false =>
        have hnil := Aside0.mk (show accT a b c 3 ≠ [] by rw [toList_L, L_mkB] at hu; intro h; rw [h] at hu; cases hu)
        go_wp2_with fail
        go_ret
        exact ⟨by rw [HF.out, if_neg hnil.out]; rfl, HB.out⟩
end Go.Proofs.YtcpikafmclfcfaaDoor.Vc
end
section
namespace Go.Proofs.YtcpikafmclfcfaaDoor.Vc
open Go.RowKit Go.Proofs.YtcpikafmclfcfaaDoor.Txt Go.Proofs.YtcpikafmclfcfaaDoorW.PrintWords Go.Proofs.YtcpikafmclfcfaaDoorW.PrintLast Go.Proofs.YtcpikafmclfcfaaDoorW.PrintMore Go.Proofs.YtcpikafmclfcfaaDoor.PV Go.Proofs.YtcpikafmclfcfaaDoor.Vl
open Go.Proofs.YtcpikafmclfcfaaDoor.Lib (Glob)
set_option linter.unusedVariables false
set_option linter.unusedSimpArgs false
def probe : ByteArray := ⟨#[99, 112, 117, 61, 52, 44, 103, 112, 117, 61, 50]⟩
theorem probe_fmt : fmtL 4 0 2 = L probe := by
  have d4 : Go.Lib.decDigits 4 = [52] := Go.Lib.decDigits_one (by omega)
  have d2 : Go.Lib.decDigits 2 = [50] := Go.Lib.decDigits_one (by omega)
  unfold fmtL
  rw [if_neg (by omega)]
  simp [partsL, one, partL, nm, Go.Lib.itoa, d4, d2, Go.Lib.join, List.intercalate, L, probe]
theorem probe_parse : parseL (L probe) = some (4, 0, 2) := (parse_iff _ _ _ _).2 ⟨by decide, probe_fmt⟩
theorem probe_into : intoF 4 0 2 9 0 5 = 2 := by decide +kernel
set_option maxHeartbeats 2000000 in
set_option maxRecDepth 100000 in
theorem alive_calls (w : World) (hG : Glob w) : Calls Tryd.prog 14 #[] w fun e w' => e = .returned (.bool true) ∧ Below w.heap.size w w' := by
  have hu23 := Tryd.underlying23
  have hu24 := Tryd.underlying24
  have hV : ((parseV probe).1 = 4 ∧ (parseV probe).2.1 = 0 ∧ (parseV probe).2.2 = 2) ∧ parseE probe = 0 := by
    unfold parseV parseE; rw [probe_parse]; exact ⟨⟨rfl, rfl, rfl⟩, rfl⟩
  obtain ⟨⟨v1, v2, v3⟩, ve⟩ := hV
  go_enter Tryd.func14, Tryd.ntmps14
  go_wp2_with fail
  refine (Parse_calls probe (by decide) w hG).mono ?_
  rintro e w1 ⟨rfl, hb⟩
  rw [v1, v2, v3, ve]
  have HB1 := Aside0.mk hb
  clear hb v1 v2 v3 ve
  have HB2 := Aside0.mk (below_alloc HB1.out (.cells #[.int .i64 4, .int .i64 0, .int .i64 2] 23))
  have BK2 := Aside0.mk (blk_new w1 (.cells #[.int .i64 4, .int .i64 0, .int .i64 2] 23))
  go_wp2_with fail
  obtain ⟨w2, hw2⟩ : ∃ w2, w1.alloc (.cells #[.int .i64 4, .int .i64 0, .int .i64 2] 23) = w2 := ⟨_, rfl⟩
  obtain ⟨b2, hb2⟩ : ∃ b2, w1.heap.size = b2 := ⟨_, rfl⟩
  rw [hw2] at HB2 BK2 ⊢
  rw [hb2] at BK2 ⊢
  clear hw2 hb2 HB1
  refine (Format_calls 4 0 2 _ (by unfold I64; omega) (by unfold I64; omega) (by unfold I64; omega) (hG.below HB2.out)).mono ?_
  rintro e w3 ⟨rfl, hb⟩
  have HB3 := Aside0.mk (below_then HB2.out HB2.out.size hb)
  have BK3 := Aside0.mk (blk_below BK2.out hb)
  clear hb HB2 BK2
  have e1 : mkB (fmtL 4 0 2) = ⟨#[99, 112, 117, 61, 52, 44, 103, 112, 117, 61, 50]⟩ := by rw [probe_fmt]; rfl
  rw [e1]
  obtain ⟨c0, c1, c2⟩ := cell3 BK3.out
  clear e1
  go_wp2_with fail
  refine (Into_calls 4 0 2 9 0 5 _).mono ?_
  rintro e w4 ⟨rfl, hb⟩
  have HB4 := Aside0.mk (below_then HB3.out HB3.out.size hb)
  clear hb HB3 BK3 c0 c1 c2
  rw [probe_into]
  go_wp2_with fail
  refine (Format_calls 0 0 0 _ (by unfold I64; omega) (by unfold I64; omega) (by unfold I64; omega) (hG.below HB4.out)).mono ?_
  rintro e w5 ⟨rfl, hb⟩
  have HB5 := Aside0.mk (below_then HB4.out HB4.out.size hb)
  clear hb HB4
  have e1 : mkB (fmtL 0 0 0) = ⟨#[110, 111, 110, 101]⟩ := rfl
  rw [e1]
  go_wp2_with fail
  go_ret
  exact ⟨rfl, HB5.out⟩
end Go.Proofs.YtcpikafmclfcfaaDoor.Vc
end
section
namespace Go.Proofs.YtcpikafmclfcfaaDoor.PY
open Go.RowKit Go.Proofs.YtcpikafmclfcfaaDoor.Txt Go.Proofs.YtcpikafmclfcfaaDoorW.PrintWords Go.Proofs.YtcpikafmclfcfaaDoor.Vl Go.Proofs.YtcpikafmclfcfaaDoor.Vc
open Go.Proofs.YtcpikafmclfcfaaDoor.Lib (Glob)
set_option linter.unusedVariables false
def marlinspikeref06_Format.f (a b c : Int) : Option ByteArray := if I64 a ∧ I64 b ∧ I64 c then some (mkB (fmtL a b c)) else none
theorem marlinspikeref06_Format.calls (a b c : Int) (r : ByteArray) (w : World) (h : marlinspikeref06_Format.f a b c = some r) :
    Calls Tryd.prog 13 #[.agg #[.int .i64 a, .int .i64 b, .int .i64 c]] w fun e w' => e = .returned (.string r) ∧ Below w.heap.size w w' := by
  unfold marlinspikeref06_Format.f at h
  split at h
  · rename_i hi
    cases h
    exact rFormat_calls a b c w hi.1 hi.2.1 hi.2.2
  · cases h
def vec_Format.f (a b c : Int) : Option ByteArray := if I64 a ∧ I64 b ∧ I64 c then some (mkB (fmtL a b c)) else none
theorem vec_Format.calls (a b c : Int) (r : ByteArray) (w : World) (h : vec_Format.f a b c = some r) (hG : Glob w) :
    Calls Tryd.prog 12 #[.agg #[.int .i64 a, .int .i64 b, .int .i64 c]] w fun e w' => e = .returned (.string r) ∧ Below w.heap.size w w' := by
  unfold vec_Format.f at h
  split at h
  · rename_i hi
    cases h
    exact Format_calls a b c w hi.1 hi.2.1 hi.2.2 hG
  · cases h
def vec_Parse.f (s : ByteArray) : Option (Int × Int × Int × Int) := if s.size ≤ 140737488351232 then some ((parseV s).1, (parseV s).2.1, (parseV s).2.2, parseE s) else none
theorem vec_Parse.calls (s : ByteArray) (r1 r2 r3 r4 : Int) (w : World) (h : vec_Parse.f s = some (r1, r2, r3, r4)) (hG : Glob w) :
    Calls Tryd.prog 10 #[.string s] w fun e w' => e = .returned (.tuple #[.agg #[.int .i64 r1, .int .i64 r2, .int .i64 r3], .int .i64 r4]) ∧ Below w.heap.size w w' := by
  unfold vec_Parse.f at h
  split at h
  · rename_i hi
    simp only [Option.some.injEq, Prod.mk.injEq] at h
    obtain ⟨rfl, rfl, rfl, rfl⟩ := h
    exact Parse_calls s hi w hG
  · cases h
def marlinspikelaw06_alive.f : Option Bool := some true
theorem marlinspikelaw06_alive.calls (r : Bool) (w : World) (h : marlinspikelaw06_alive.f = some r) (hG : Glob w) :
    Calls Tryd.prog 14 #[] w fun e w' => e = .returned (.bool r) ∧ Below w.heap.size w w' := by
  cases h
  exact alive_calls w hG
end Go.Proofs.YtcpikafmclfcfaaDoor.PY
end
section
namespace Go.Proofs.YtcpikafmclfcfaaDoor.PY
open Go.RowKit Go.Proofs.YtcpikafmclfcfaaDoor.Lib Go.Proofs.YtcpikafmclfcfaaDoorW.PrintWords Go.Proofs.YtcpikafmclfcfaaDoorW.PrintLast Go.Proofs.YtcpikafmclfcfaaDoorW.PrintMore
attribute [local go_sem] max2_int min2_int max_two min_two max_three min_three max_four min_four   
set_option linter.unusedVariables false
set_option linter.unusedSimpArgs false
def errW : Option Int → Value
  | none => .nilIface
  | some c => .iface 0 (.int .i64 c)
theorem errW_none : errW none = .nilIface := rfl
theorem errW_some (c : Int) : errW (some c) = .iface 0 (.int .i64 c) := rfl
theorem info3 : (Tryd.prog.info? 3).map (fun i => (i.zero, i.size, i.bytes)) = some (some (.int .i64 0), 1, 8) := by kernel_rfl
end Go.Proofs.YtcpikafmclfcfaaDoor.PY
end
section
namespace Go.Proofs.YtcpikafmclfcfaaDoor.PY
open Go.RowKit Go.Proofs.YtcpikafmclfcfaaDoor.Lib Go.Proofs.YtcpikafmclfcfaaDoorW.PrintWords Go.Proofs.YtcpikafmclfcfaaDoorW.PrintLast Go.Proofs.YtcpikafmclfcfaaDoorW.PrintMore
attribute [local go_sem] max2_int min2_int max_two min_two max_three min_three max_four min_four   
set_option linter.unusedVariables false
set_option linter.unusedSimpArgs false
def marlinspikeref06_number.f (a0 : Int) : Option (Bool) := if a0 ≥ 0 then (some (decide (a0 ≤ 1073741824))) else (some false)
set_option maxHeartbeats 8000000 in
set_option maxRecDepth 100000 in
theorem marlinspikeref06_number.calls (a0 : Int) (r : Bool) (w : World) (h : marlinspikeref06_number.f a0 = some r) :
    Calls Tryd.prog 41 #[.int .i64 a0] w fun e w' => e = .returned (.bool r) ∧ Drawn0 w w' := by
  have H : (if a0 ≥ 0 then (some (decide (a0 ≤ 1073741824))) else (some false)) = some r := h
  clear h
  by_cases c2 : a0 ≥ 0
  · rw [if_pos c2] at H
    have c2b0 : decide (0 ≤ a0) = true := decide_eq_true c2
    clear c2
    obtain rfl := Option.some.inj H
    go_enter Tryd.func41, Tryd.ntmps41
    go_wp2
    go_ret
    exact ⟨by first | rfl | (simp; done) | (simp [*]; done), by repeat (first | exact Drawn0.refl _ | apply Drawn0.step)⟩
  · rw [if_neg c2] at H
    have c2b0 : decide (0 ≤ a0) = false := decide_eq_false c2
    clear c2
    obtain rfl := Option.some.inj H
    go_enter Tryd.func41, Tryd.ntmps41
    go_wp2
    go_ret
    exact ⟨by first | rfl | (simp; done) | (simp [*]; done), by repeat (first | exact Drawn0.refl _ | apply Drawn0.step)⟩
def marlinspikeref06_Right.f (a0_0 : Int) (a0_1 : Int) (a0_2 : Int) : Option (Bool) := (marlinspikeref06_number.f a0_0).bind fun t102 => (if t102 = true then ((marlinspikeref06_number.f a0_1).bind fun t103 => (if t103 = true then ((marlinspikeref06_number.f a0_2).bind fun t104 => (some t104)) else (some false))) else (some false))
set_option maxHeartbeats 8000000 in
set_option maxRecDepth 100000 in
theorem marlinspikeref06_Right.calls (a0_0 : Int) (a0_1 : Int) (a0_2 : Int) (r : Bool) (w : World) (h : marlinspikeref06_Right.f a0_0 a0_1 a0_2 = some r) :
    Calls Tryd.prog 16 #[.agg #[.int .i64 a0_0, .int .i64 a0_1, .int .i64 a0_2]] w fun e w' => e = .returned (.bool r) ∧ Below w.heap.size w w' := by
  have hu23 := Tryd.underlying23
  have HB := Aside0.mk (Below.refl w.heap.size w)
  have H : ((marlinspikeref06_number.f a0_0).bind fun t102 => (if t102 = true then ((marlinspikeref06_number.f a0_1).bind fun t103 => (if t103 = true then ((marlinspikeref06_number.f a0_2).bind fun t104 => (some t104)) else (some false))) else (some false))) = some r := h
  clear h
  replace H := Option.bind_eq_some_iff.mp H
  obtain ⟨t102, A20, H⟩ := H
  replace H : (if t102 = true then ((marlinspikeref06_number.f a0_1).bind fun t103 => (if t103 = true then ((marlinspikeref06_number.f a0_2).bind fun t104 => (some t104)) else (some false))) else (some false)) = some r := H
  have A2 := Aside0.mk A20
  clear A20
  by_cases c3 : t102 = true
  · subst c3
    have H1 : ((marlinspikeref06_number.f a0_1).bind fun t103 => (if t103 = true then ((marlinspikeref06_number.f a0_2).bind fun t104 => (some t104)) else (some false))) = some r := by rw [if_pos rfl] at H; exact H
    clear H
    have H := H1
    clear H1
    replace H := Option.bind_eq_some_iff.mp H
    obtain ⟨t103, A40, H⟩ := H
    replace H : (if t103 = true then ((marlinspikeref06_number.f a0_2).bind fun t104 => (some t104)) else (some false)) = some r := H
    have A4 := Aside0.mk A40
    clear A40
    by_cases c5 : t103 = true
    · subst c5
      have H1 : ((marlinspikeref06_number.f a0_2).bind fun t104 => (some t104)) = some r := by rw [if_pos rfl] at H; exact H
      clear H
      have H := H1
      clear H1
      replace H := Option.bind_eq_some_iff.mp H
      obtain ⟨t104, A60, H⟩ := H
      replace H : (some t104) = some r := H
      have A6 := Aside0.mk A60
      clear A60
      obtain rfl := Option.some.inj H
      go_enter Tryd.func16, Tryd.ntmps16
      go_wp2_with (first | ((with_reducible refine gate_dst (N := 1) rfl ?_); refine box_event ?hg (N := 1) ?hd (cs := #[.int .i64 a0_0, .int .i64 a0_1, .int .i64 a0_2]) (t := 23) ?hr ?_; (case hd => rfl); (case hg => rfl); (case hr => first | (go_simp; done) | (go_simp; rfl)); intro gb101 hg w7 hbox hb; have n0_ := Aside0.mk (below_step (by repeat (first | (with_reducible first | exact HB.out | apply below_alloc | apply pw_below_drewN | apply below_drew1) | exact HB.out)) hb); have n1_ := Aside0.mk (hbox); have n2_ := Aside0.mk ((by rw [hg]; exact (below_size (by repeat (first | (with_reducible first | exact HB.out | apply below_alloc | apply pw_below_drewN | apply below_drew1) | exact HB.out))) : w.heap.size ≤ gb101)); have n3_ := Aside0.mk ((by rw [hg]; exact (below_size (by repeat (first | (with_reducible first | exact HB.out | apply below_alloc | apply pw_below_drewN | apply below_drew1) | exact HB.out))) : w.heap.size ≤ gb101)); clear HB; have HB := n0_; have BK101 := n1_; have GW101 := n2_; have GE101 := n3_; clear n0_ n1_ n2_ n3_; clear hb hbox hg; have hcz8_0 : w7.cell? ⟨gb101, 0, none⟩ = some (.int .i64 a0_0) := (blk_cell BK101.out 0).trans rfl; have hcz8_1 : w7.cell? ⟨gb101, 1, none⟩ = some (.int .i64 a0_1) := (blk_cell BK101.out 1).trans rfl; have hcz8_2 : w7.cell? ⟨gb101, 2, none⟩ = some (.int .i64 a0_2) := (blk_cell BK101.out 2).trans rfl; have hfz8_0 := blk_frozen BK101.out 0; have hfz8_1 := blk_frozen BK101.out 1; have hfz8_2 := blk_frozen BK101.out 2) | ((with_reducible refine gate_callee (f := 41) rfl ?_); refine goesL_ (some 5) rfl rfl Tryd.func41 (by kernel_rfl) rfl #[.int .i64 a0_0] rfl (by (try simp only [List.map_toArray, List.map_cons, List.map_nil]); first | done | rfl | (simp only [List.length_drop, List.length_take]; rfl)) ?_; (with_reducible refine (marlinspikeref06_number.calls a0_0 true _ A2.out).mono ?_); rintro e w' ⟨rfl, ⟨nd, rfl⟩⟩; refine ⟨_, rfl, ?_⟩) | (go_at_call 41; (with_reducible refine (marlinspikeref06_number.calls a0_1 true _ A4.out).mono ?_); rintro e w' ⟨rfl, ⟨nd, rfl⟩⟩) | (go_at_call 41; (with_reducible refine (marlinspikeref06_number.calls a0_2 t104 _ A6.out).mono ?_); rintro e w' ⟨rfl, ⟨nd, rfl⟩⟩))
      go_ret
      exact ⟨by first | rfl | (simp [errW_none, errW_some] <;> rfl) | (simp [*, errW_none, errW_some] <;> rfl), by repeat (first | (with_reducible first | exact HB.out | apply below_alloc | apply pw_below_drewN | apply below_drew1 | refine below_set ?_ GE101.out) | exact HB.out)⟩
    · replace c5 := Bool.eq_false_iff.mpr c5
      subst c5
      have H1 : (some false) = some r := by rw [if_neg (show ¬ (false = true) by decide)] at H; exact H
      clear H
      have H := H1
      clear H1
      obtain rfl := Option.some.inj H
      go_enter Tryd.func16, Tryd.ntmps16
      go_wp2_with (first | ((with_reducible refine gate_dst (N := 1) rfl ?_); refine box_event ?hg (N := 1) ?hd (cs := #[.int .i64 a0_0, .int .i64 a0_1, .int .i64 a0_2]) (t := 23) ?hr ?_; (case hd => rfl); (case hg => rfl); (case hr => first | (go_simp; done) | (go_simp; rfl)); intro gb101 hg w9 hbox hb; have n0_ := Aside0.mk (below_step (by repeat (first | (with_reducible first | exact HB.out | apply below_alloc | apply pw_below_drewN | apply below_drew1) | exact HB.out)) hb); have n1_ := Aside0.mk (hbox); have n2_ := Aside0.mk ((by rw [hg]; exact (below_size (by repeat (first | (with_reducible first | exact HB.out | apply below_alloc | apply pw_below_drewN | apply below_drew1) | exact HB.out))) : w.heap.size ≤ gb101)); have n3_ := Aside0.mk ((by rw [hg]; exact (below_size (by repeat (first | (with_reducible first | exact HB.out | apply below_alloc | apply pw_below_drewN | apply below_drew1) | exact HB.out))) : w.heap.size ≤ gb101)); clear HB; have HB := n0_; have BK101 := n1_; have GW101 := n2_; have GE101 := n3_; clear n0_ n1_ n2_ n3_; clear hb hbox hg; have hcz10_0 : w9.cell? ⟨gb101, 0, none⟩ = some (.int .i64 a0_0) := (blk_cell BK101.out 0).trans rfl; have hcz10_1 : w9.cell? ⟨gb101, 1, none⟩ = some (.int .i64 a0_1) := (blk_cell BK101.out 1).trans rfl; have hcz10_2 : w9.cell? ⟨gb101, 2, none⟩ = some (.int .i64 a0_2) := (blk_cell BK101.out 2).trans rfl; have hfz10_0 := blk_frozen BK101.out 0; have hfz10_1 := blk_frozen BK101.out 1; have hfz10_2 := blk_frozen BK101.out 2) | ((with_reducible refine gate_callee (f := 41) rfl ?_); refine goesL_ (some 5) rfl rfl Tryd.func41 (by kernel_rfl) rfl #[.int .i64 a0_0] rfl (by (try simp only [List.map_toArray, List.map_cons, List.map_nil]); first | done | rfl | (simp only [List.length_drop, List.length_take]; rfl)) ?_; (with_reducible refine (marlinspikeref06_number.calls a0_0 true _ A2.out).mono ?_); rintro e w' ⟨rfl, ⟨nd, rfl⟩⟩; refine ⟨_, rfl, ?_⟩) | (go_at_call 41; (with_reducible refine (marlinspikeref06_number.calls a0_1 false _ A4.out).mono ?_); rintro e w' ⟨rfl, ⟨nd, rfl⟩⟩))
      go_ret
      exact ⟨by first | rfl | (simp [errW_none, errW_some] <;> rfl) | (simp [*, errW_none, errW_some] <;> rfl), by repeat (first | (with_reducible first | exact HB.out | apply below_alloc | apply pw_below_drewN | apply below_drew1 | refine below_set ?_ GE101.out) | exact HB.out)⟩
  · replace c3 := Bool.eq_false_iff.mpr c3
    subst c3
    have H1 : (some false) = some r := by rw [if_neg (show ¬ (false = true) by decide)] at H; exact H
    clear H
    have H := H1
    clear H1
    obtain rfl := Option.some.inj H
    go_enter Tryd.func16, Tryd.ntmps16
    go_wp2_with (first | ((with_reducible refine gate_dst (N := 1) rfl ?_); refine box_event ?hg (N := 1) ?hd (cs := #[.int .i64 a0_0, .int .i64 a0_1, .int .i64 a0_2]) (t := 23) ?hr ?_; (case hd => rfl); (case hg => rfl); (case hr => first | (go_simp; done) | (go_simp; rfl)); intro gb101 hg w11 hbox hb; have n0_ := Aside0.mk (below_step (by repeat (first | (with_reducible first | exact HB.out | apply below_alloc | apply pw_below_drewN | apply below_drew1) | exact HB.out)) hb); have n1_ := Aside0.mk (hbox); have n2_ := Aside0.mk ((by rw [hg]; exact (below_size (by repeat (first | (with_reducible first | exact HB.out | apply below_alloc | apply pw_below_drewN | apply below_drew1) | exact HB.out))) : w.heap.size ≤ gb101)); have n3_ := Aside0.mk ((by rw [hg]; exact (below_size (by repeat (first | (with_reducible first | exact HB.out | apply below_alloc | apply pw_below_drewN | apply below_drew1) | exact HB.out))) : w.heap.size ≤ gb101)); clear HB; have HB := n0_; have BK101 := n1_; have GW101 := n2_; have GE101 := n3_; clear n0_ n1_ n2_ n3_; clear hb hbox hg; have hcz12_0 : w11.cell? ⟨gb101, 0, none⟩ = some (.int .i64 a0_0) := (blk_cell BK101.out 0).trans rfl; have hcz12_1 : w11.cell? ⟨gb101, 1, none⟩ = some (.int .i64 a0_1) := (blk_cell BK101.out 1).trans rfl; have hcz12_2 : w11.cell? ⟨gb101, 2, none⟩ = some (.int .i64 a0_2) := (blk_cell BK101.out 2).trans rfl; have hfz12_0 := blk_frozen BK101.out 0; have hfz12_1 := blk_frozen BK101.out 1; have hfz12_2 := blk_frozen BK101.out 2) | ((with_reducible refine gate_callee (f := 41) rfl ?_); refine goesL_ (some 5) rfl rfl Tryd.func41 (by kernel_rfl) rfl #[.int .i64 a0_0] rfl (by (try simp only [List.map_toArray, List.map_cons, List.map_nil]); first | done | rfl | (simp only [List.length_drop, List.length_take]; rfl)) ?_; (with_reducible refine (marlinspikeref06_number.calls a0_0 false _ A2.out).mono ?_); rintro e w' ⟨rfl, ⟨nd, rfl⟩⟩; refine ⟨_, rfl, ?_⟩))
    go_ret
    exact ⟨by first | rfl | (simp [errW_none, errW_some] <;> rfl) | (simp [*, errW_none, errW_some] <;> rfl), by repeat (first | (with_reducible first | exact HB.out | apply below_alloc | apply pw_below_drewN | apply below_drew1 | refine below_set ?_ GE101.out) | exact HB.out)⟩
end Go.Proofs.YtcpikafmclfcfaaDoor.PY
end
