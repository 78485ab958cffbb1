/- Part 11 of the proof of HostSortsCardSaid. -/
import Derived.Test.YtoammgpfbdcphaaDoorZ10
import Derived.Ground.SlsfProg
import Derived.Shelf.SlSortCmp.Whole1
import Derived.Test.YtoammgpfbdcphaaDoorProg
import Derived.Shelf.SlSortCmp.NoneTotal
import Derived.Lib.OwnBridge
import Derived.Test.YtoammgpfbdcphaaDoorZ03
import Derived.Test.YtoammgpfbdcphaaDoorZ07
import Derived.Test.YtoammgpfbdcphaaDoorZ09
section
namespace Go.Proofs.YtoammgpfbdcphaaDoor.Sr
open Go.RowKit Go.Proofs.YtoammgpfbdcphaaDoor.Lib Go.Proofs.YtoammgpfbdcphaaDoor.PH Go.Proofs.YtoammgpfbdcphaaDoor.Txt Go.Proofs.YtoammgpfbdcphaaDoor.Hx Go.Proofs.YtoammgpfbdcphaaDoor.Ord Go.Proofs.YtoammgpfbdcphaaDoorW.PrintWords Go.Proofs.YtoammgpfbdcphaaDoorW.PrintLast Go.Proofs.YtoammgpfbdcphaaDoorW.PrintMore
set_option linter.unusedVariables false
set_option linter.unusedSimpArgs false
def nameC (x y : ByteArray) : Int := or2 (strC (numOf x).1 (numOf y).1) (or2 (Go.Lib.compareInt (keyN x) (keyN y)) (or2 (Go.Lib.compareInt (numOf x).2.2.1 (numOf y).2.2.1) (strC x y)))
set_option maxHeartbeats 4000000 in
set_option maxRecDepth 100000 in
theorem cmp_calls (x y : ByteArray) (hx : x.size ≤ 100000) (hy : y.size ≤ 100000) (w : World) : Calls Tryd.prog 36 #[.string x, .string y] w fun e w' => e = .returned (.int .i64 (nameC x y)) ∧ Gr w w' := by
  have hu65 := Tryd.underlying65
  unfold nameC
  have h1 := of_calls x hx
  have h2 := of_calls y hy
  unfold keyV at h1 h2
  have h1' := Aside0.mk h1
  have h2' := Aside0.mk h2
  clear h1 h2
  generalize (numOf x).1 = p1 at h1' ⊢
  generalize keyN x = n1 at h1' ⊢
  generalize (numOf x).2.2.1 = d1 at h1' ⊢
  generalize (numOf y).1 = p2 at h2' ⊢
  generalize keyN y = n2 at h2' ⊢
  generalize (numOf y).2.2.1 = d2 at h2' ⊢
  go_enter Tryd.func36, Tryd.ntmps36
  go_wp2_with fail
  refine (h1'.out _).mono ?_
  rintro e w1 ⟨rfl, hb⟩
  have HA := Aside0.mk hb
  clear hb
  go_wp2_with fail
  refine (h2'.out _).mono ?_
  rintro e w2 ⟨rfl, hb⟩
  have HB := Aside0.mk (gr_step HA.out hb)
  clear hb HA
  have hu83 := Tryd.underlying83
  go_wp2_with fail
  obtain ⟨w0, hw0⟩ : ∃ w0, (w2.alloc (.cells #[.string p1, .int .i64 n1, .int .i64 d1, .string x] 65)).alloc (.cells #[.string p2, .int .i64 n2, .int .i64 d2, .string y] 65) = w0 := ⟨_, rfl⟩
  have HBa := Aside0.mk (gr_alloc (gr_alloc HB.out (.cells #[.string p1, .int .i64 n1, .int .i64 d1, .string x] 65)) (.cells #[.string p2, .int .i64 n2, .int .i64 d2, .string y] 65))
  have BVa := Aside0.mk (blk_alloc (blk_new w2 (.cells #[.string p1, .int .i64 n1, .int .i64 d1, .string x] 65)) (.cells #[.string p2, .int .i64 n2, .int .i64 d2, .string y] 65))
  have BWa := Aside0.mk (blk_new (w2.alloc (.cells #[.string p1, .int .i64 n1, .int .i64 d1, .string x] 65)) (.cells #[.string p2, .int .i64 n2, .int .i64 d2, .string y] 65))
  rw [World.size_alloc] at BWa
  rw [hw0] at HBa BVa BWa ⊢
  clear hw0 HB
  have HB := Aside0.mk (gr_drew1 HBa.out)
  have BV := Aside0.mk (blk_drew BVa.out)
  have BW := Aside0.mk (blk_drew BWa.out)
  clear HBa BVa BWa h1' h2'
  refine start_ (n := 23) (S := fun w' => (w'.cell? ⟨w2.heap.size, 0, none⟩ = some (.string p1) ∧ w'.cell? ⟨w2.heap.size, 1, none⟩ = some (.int .i64 n1) ∧ w'.cell? ⟨w2.heap.size, 2, none⟩ = some (.int .i64 d1) ∧ w'.cell? ⟨w2.heap.size, 3, none⟩ = some (.string x)) ∧ (w'.cell? ⟨w2.heap.size + 1, 0, none⟩ = some (.string p2) ∧ w'.cell? ⟨w2.heap.size + 1, 1, none⟩ = some (.int .i64 n2) ∧ w'.cell? ⟨w2.heap.size + 1, 2, none⟩ = some (.int .i64 d2) ∧ w'.cell? ⟨w2.heap.size + 1, 3, none⟩ = some (.string y))) (ds := []) #[false, false, false, false, false, false, false, false, false, false, false, false, false, false, false, false, false, false, false, false, false, false, false] (by kernel_rfl) rfl rfl ⟨cell4 BV.out, cell4 BW.out⟩ (fun hHeld => ?_)
  refine pure_ (i := 0) (N := some 11) (v := ?_) (a' := ?_) #[true, false, false, false, false, false, false, false, false, false, false, false, false, false, false, false, false, false, false, false, false, false, false] rfl rfl (by kernel_rfl) (fun _ _ _ h => h) (Or.inl ⟨by rfl, ?_⟩) ?_ ?_
  rotate_left
  · intro w'
    go_simp
    with_reducible rfl
  rotate_left
  · simp only [Act.put, List.setIfInBounds_toArray, List.set_cons_zero, List.set_cons_succ, i64_w, i32_w]
    rfl
  refine pure_ (i := 2) (N := some 13) (v := ?_) (a' := ?_) #[true, false, true, false, false, false, false, false, false, false, false, false, false, false, false, false, false, false, false, false, false, false, false] rfl rfl (by kernel_rfl) (fun _ _ _ h => h) (Or.inl ⟨by rfl, ?_⟩) ?_ ?_
  rotate_left
  · intro w'
    go_simp
    with_reducible rfl
  rotate_left
  · simp only [Act.put, List.setIfInBounds_toArray, List.set_cons_zero, List.set_cons_succ, i64_w, i32_w]
    rfl
  refine pure_ (i := 5) (N := some 16) (v := ?_) (a' := ?_) #[true, false, true, false, false, true, false, false, false, false, false, false, false, false, false, false, false, false, false, false, false, false, false] rfl rfl (by kernel_rfl) (fun _ _ _ h => h) (Or.inl ⟨by rfl, ?_⟩) ?_ ?_
  rotate_left
  · intro w'
    go_simp
    with_reducible rfl
  rotate_left
  · simp only [Act.put, List.setIfInBounds_toArray, List.set_cons_zero, List.set_cons_succ, i64_w, i32_w]
    rfl
  refine pure_ (i := 7) (N := some 18) (v := ?_) (a' := ?_) #[true, false, true, false, false, true, false, true, false, false, false, false, false, false, false, false, false, false, false, false, false, false, false] rfl rfl (by kernel_rfl) (fun _ _ _ h => h) (Or.inl ⟨by rfl, ?_⟩) ?_ ?_
  rotate_left
  · intro w'
    go_simp
    with_reducible rfl
  rotate_left
  · simp only [Act.put, List.setIfInBounds_toArray, List.set_cons_zero, List.set_cons_succ, i64_w, i32_w]
    rfl
  refine pure_ (i := 10) (N := some 21) (v := ?_) (a' := ?_) #[true, false, true, false, false, true, false, true, false, false, true, false, false, false, false, false, false, false, false, false, false, false, false] rfl rfl (by kernel_rfl) (fun _ _ _ h => h) (Or.inl ⟨by rfl, ?_⟩) ?_ ?_
  rotate_left
  · intro w'
    go_simp
    with_reducible rfl
  rotate_left
  · simp only [Act.put, List.setIfInBounds_toArray, List.set_cons_zero, List.set_cons_succ, i64_w, i32_w]
    rfl
  refine pure_ (i := 12) (N := some 23) (v := ?_) (a' := ?_) #[true, false, true, false, false, true, false, true, false, false, true, false, true, false, false, false, false, false, false, false, false, false, false] rfl rfl (by kernel_rfl) (fun _ _ _ h => h) (Or.inl ⟨by rfl, ?_⟩) ?_ ?_
  rotate_left
  · intro w'
    go_simp
    with_reducible rfl
  rotate_left
  · simp only [Act.put, List.setIfInBounds_toArray, List.set_cons_zero, List.set_cons_succ, i64_w, i32_w]
    rfl
  refine pure_ (i := 15) (N := some 26) (v := ?_) (a' := ?_) #[true, false, true, false, false, true, false, true, false, false, true, false, true, false, false, true, false, false, false, false, false, false, false] rfl rfl (by kernel_rfl) (fun _ _ _ h => h) (Or.inl ⟨by rfl, ?_⟩) ?_ ?_
  rotate_left
  · intro w'
    go_simp
    with_reducible rfl
  rotate_left
  · simp only [Act.put, List.setIfInBounds_toArray, List.set_cons_zero, List.set_cons_succ, i64_w, i32_w]
    rfl
  refine pure_ (i := 17) (N := some 28) (v := ?_) (a' := ?_) #[true, false, true, false, false, true, false, true, false, false, true, false, true, false, false, true, false, true, false, false, false, false, false] rfl rfl (by kernel_rfl) (fun _ _ _ h => h) (Or.inl ⟨by rfl, ?_⟩) ?_ ?_
  rotate_left
  · intro w'
    go_simp
    with_reducible rfl
  rotate_left
  · simp only [Act.put, List.setIfInBounds_toArray, List.set_cons_zero, List.set_cons_succ, i64_w, i32_w]
    rfl
  refine take_ (i := 1) (N := some 12) (v := ?_) (a' := ?_) #[true, true, true, false, false, true, false, true, false, false, true, false, true, false, false, true, false, true, false, false, false, false, false] rfl rfl (by kernel_rfl) (fun _ _ _ h => h) (Or.inl ⟨by rfl, ?_⟩) hHeld ?_ ?_
  rotate_left
  · rintro w' ⟨⟨s0, s1, s2, s3⟩, ⟨s4, s5, s6, s7⟩⟩
    go_simp
    with_reducible rfl
  rotate_left
  · simp only [Act.put, List.setIfInBounds_toArray, List.set_cons_zero, List.set_cons_succ, i64_w, i32_w]
    rfl
  refine take_ (i := 3) (N := some 14) (v := ?_) (a' := ?_) #[true, true, true, true, false, true, false, true, false, false, true, false, true, false, false, true, false, true, false, false, false, false, false] rfl rfl (by kernel_rfl) (fun _ _ _ h => h) (Or.inl ⟨by rfl, ?_⟩) hHeld ?_ ?_
  rotate_left
  · rintro w' ⟨⟨s0, s1, s2, s3⟩, ⟨s4, s5, s6, s7⟩⟩
    go_simp
    with_reducible rfl
  rotate_left
  · simp only [Act.put, List.setIfInBounds_toArray, List.set_cons_zero, List.set_cons_succ, i64_w, i32_w]
    rfl
  refine take_ (i := 6) (N := some 17) (v := ?_) (a' := ?_) #[true, true, true, true, false, true, true, true, false, false, true, false, true, false, false, true, false, true, false, false, false, false, false] rfl rfl (by kernel_rfl) (fun _ _ _ h => h) (Or.inl ⟨by rfl, ?_⟩) hHeld ?_ ?_
  rotate_left
  · rintro w' ⟨⟨s0, s1, s2, s3⟩, ⟨s4, s5, s6, s7⟩⟩
    go_simp
    with_reducible rfl
  rotate_left
  · simp only [Act.put, List.setIfInBounds_toArray, List.set_cons_zero, List.set_cons_succ, i64_w, i32_w]
    rfl
  refine take_ (i := 8) (N := some 19) (v := ?_) (a' := ?_) #[true, true, true, true, false, true, true, true, true, false, true, false, true, false, false, true, false, true, false, false, false, false, false] rfl rfl (by kernel_rfl) (fun _ _ _ h => h) (Or.inl ⟨by rfl, ?_⟩) hHeld ?_ ?_
  rotate_left
  · rintro w' ⟨⟨s0, s1, s2, s3⟩, ⟨s4, s5, s6, s7⟩⟩
    go_simp
    with_reducible rfl
  rotate_left
  · simp only [Act.put, List.setIfInBounds_toArray, List.set_cons_zero, List.set_cons_succ, i64_w, i32_w]
    rfl
  refine take_ (i := 11) (N := some 22) (v := ?_) (a' := ?_) #[true, true, true, true, false, true, true, true, true, false, true, true, true, false, false, true, false, true, false, false, false, false, false] rfl rfl (by kernel_rfl) (fun _ _ _ h => h) (Or.inl ⟨by rfl, ?_⟩) hHeld ?_ ?_
  rotate_left
  · rintro w' ⟨⟨s0, s1, s2, s3⟩, ⟨s4, s5, s6, s7⟩⟩
    go_simp
    with_reducible rfl
  rotate_left
  · simp only [Act.put, List.setIfInBounds_toArray, List.set_cons_zero, List.set_cons_succ, i64_w, i32_w]
    rfl
  refine take_ (i := 13) (N := some 24) (v := ?_) (a' := ?_) #[true, true, true, true, false, true, true, true, true, false, true, true, true, true, false, true, false, true, false, false, false, false, false] rfl rfl (by kernel_rfl) (fun _ _ _ h => h) (Or.inl ⟨by rfl, ?_⟩) hHeld ?_ ?_
  rotate_left
  · rintro w' ⟨⟨s0, s1, s2, s3⟩, ⟨s4, s5, s6, s7⟩⟩
    go_simp
    with_reducible rfl
  rotate_left
  · simp only [Act.put, List.setIfInBounds_toArray, List.set_cons_zero, List.set_cons_succ, i64_w, i32_w]
    rfl
  refine take_ (i := 16) (N := some 27) (v := ?_) (a' := ?_) #[true, true, true, true, false, true, true, true, true, false, true, true, true, true, false, true, true, true, false, false, false, false, false] rfl rfl (by kernel_rfl) (fun _ _ _ h => h) (Or.inl ⟨by rfl, ?_⟩) hHeld ?_ ?_
  rotate_left
  · rintro w' ⟨⟨s0, s1, s2, s3⟩, ⟨s4, s5, s6, s7⟩⟩
    go_simp
    with_reducible rfl
  rotate_left
  · simp only [Act.put, List.setIfInBounds_toArray, List.set_cons_zero, List.set_cons_succ, i64_w, i32_w]
    rfl
  refine take_ (i := 18) (N := some 29) (v := ?_) (a' := ?_) #[true, true, true, true, false, true, true, true, true, false, true, true, true, true, false, true, true, true, true, false, false, false, false] rfl rfl (by kernel_rfl) (fun _ _ _ h => h) (Or.inl ⟨by rfl, ?_⟩) hHeld ?_ ?_
  rotate_left
  · rintro w' ⟨⟨s0, s1, s2, s3⟩, ⟨s4, s5, s6, s7⟩⟩
    go_simp
    with_reducible rfl
  rotate_left
  · simp only [Act.put, List.setIfInBounds_toArray, List.set_cons_zero, List.set_cons_succ, i64_w, i32_w]
    rfl
  obtain ⟨wd, hwd⟩ : ∃ wd, w0.drew = wd := ⟨_, rfl⟩
  rw [hwd] at HB BV BW ⊢
  clear hwd
  refine one_ (i := 4) (N := some 15) #[true, true, true, true, true, true, true, true, true, false, true, true, true, true, false, true, true, true, true, false, false, false, false] rfl rfl (by kernel_rfl) (by decide) (fun K hK => ?_)
  refine goes_ Tryd.func39 (by kernel_rfl) rfl #[.string p1, .string p2] (by rfl) rfl rfl (by (try simp only [List.map_toArray, List.map_cons, List.map_nil]); first | done | rfl) ?_
  refine (Compare_s p1 p2 _).mono ?_
  rintro e w104 ⟨rfl, h4⟩
  rw [h4]
  clear h4 w104
  refine ⟨_, rfl, ?_⟩
  refine hK.out _ _ ⟨cell4 BV.out, cell4 BW.out⟩ (fun hHeld => ?_)
  clear hK K
  refine norm_ (a' := ?_) ?_ ?_
  rotate_left
  · show Act.put _ (some 15) _ = _
    simp only [Act.put, List.setIfInBounds_toArray, List.set_cons_zero, List.set_cons_succ, i64_w, i32_w]
    rfl
  refine one_ (i := 9) (N := some 20) #[true, true, true, true, true, true, true, true, true, true, true, true, true, true, false, true, true, true, true, false, false, false, false] rfl rfl (by kernel_rfl) (by decide) (fun K hK => ?_)
  refine goes_ Tryd.func40 (by kernel_rfl) rfl #[.int .i64 n1, .int .i64 n2] (by rfl) rfl rfl (by (try simp only [List.map_toArray, List.map_cons, List.map_nil]); first | done | rfl) ?_
  refine (Tryd.cmp_Compare_int n1 n2 _).mono ?_
  rintro e w109 ⟨rfl, h9⟩
  rw [h9]
  clear h9 w109
  refine ⟨_, rfl, ?_⟩
  refine hK.out _ _ ⟨cell4 BV.out, cell4 BW.out⟩ (fun hHeld => ?_)
  clear hK K
  refine norm_ (a' := ?_) ?_ ?_
  rotate_left
  · show Act.put _ (some 20) _ = _
    simp only [Act.put, List.setIfInBounds_toArray, List.set_cons_zero, List.set_cons_succ, i64_w, i32_w]
    rfl
  refine one_ (i := 14) (N := some 25) #[true, true, true, true, true, true, true, true, true, true, true, true, true, true, true, true, true, true, true, false, false, false, false] rfl rfl (by kernel_rfl) (by decide) (fun K hK => ?_)
  refine goes_ Tryd.func40 (by kernel_rfl) rfl #[.int .i64 d1, .int .i64 d2] (by rfl) rfl rfl (by (try simp only [List.map_toArray, List.map_cons, List.map_nil]); first | done | rfl) ?_
  refine (Tryd.cmp_Compare_int d1 d2 _).mono ?_
  rintro e w114 ⟨rfl, h14⟩
  rw [h14]
  clear h14 w114
  refine ⟨_, rfl, ?_⟩
  refine hK.out _ _ ⟨cell4 BV.out, cell4 BW.out⟩ (fun hHeld => ?_)
  clear hK K
  refine norm_ (a' := ?_) ?_ ?_
  rotate_left
  · show Act.put _ (some 25) _ = _
    simp only [Act.put, List.setIfInBounds_toArray, List.set_cons_zero, List.set_cons_succ, i64_w, i32_w]
    rfl
  refine one_ (i := 19) (N := some 30) #[true, true, true, true, true, true, true, true, true, true, true, true, true, true, true, true, true, true, true, true, false, false, false] rfl rfl (by kernel_rfl) (by decide) (fun K hK => ?_)
  refine goes_ Tryd.func39 (by kernel_rfl) rfl #[.string x, .string y] (by rfl) rfl rfl (by (try simp only [List.map_toArray, List.map_cons, List.map_nil]); first | done | rfl) ?_
  refine (Compare_s x y _).mono ?_
  rintro e w119 ⟨rfl, h19⟩
  rw [h19]
  clear h19 w119
  refine ⟨_, rfl, ?_⟩
  refine hK.out _ _ ⟨cell4 BV.out, cell4 BW.out⟩ (fun hHeld => ?_)
  clear hK K
  refine norm_ (a' := ?_) ?_ ?_
  rotate_left
  · show Act.put _ (some 30) _ = _
    simp only [Act.put, List.setIfInBounds_toArray, List.set_cons_zero, List.set_cons_succ, i64_w, i32_w]
    rfl
  refine one_ (i := 20) (N := some 31) #[true, true, true, true, true, true, true, true, true, true, true, true, true, true, true, true, true, true, true, true, true, false, false] rfl rfl (by kernel_rfl) (by decide) (fun K hK => ?_)
  refine value_ (w1 := ?_) (v := ?_) (by rfl) rfl ?_ ?_
  rotate_left 2
  · go_simp
    constructor
    · rfl
    · rfl
  have HB2 := Aside0.mk (gr_alloc HB.out (.cells #[.int .i64 (strC p1 p2), .int .i64 (Go.Lib.compareInt n1 n2), .int .i64 (Go.Lib.compareInt d1 d2), .int .i64 (strC x y)] 3))
  have BV2 := Aside0.mk (blk_alloc BV.out (.cells #[.int .i64 (strC p1 p2), .int .i64 (Go.Lib.compareInt n1 n2), .int .i64 (Go.Lib.compareInt d1 d2), .int .i64 (strC x y)] 3))
  have BW2 := Aside0.mk (blk_alloc BW.out (.cells #[.int .i64 (strC p1 p2), .int .i64 (Go.Lib.compareInt n1 n2), .int .i64 (Go.Lib.compareInt d1 d2), .int .i64 (strC x y)] 3))
  have BS2 := Aside0.mk (blk_new wd (.cells #[.int .i64 (strC p1 p2), .int .i64 (Go.Lib.compareInt n1 n2), .int .i64 (Go.Lib.compareInt d1 d2), .int .i64 (strC x y)] 3))
  refine hK.out _ _ ⟨cell4 BV2.out, cell4 BW2.out⟩ (fun hHeld => ?_)
  clear hK K
  refine norm_ (a' := ?_) ?_ ?_
  rotate_left
  · show Act.put _ (some 31) _ = _
    simp only [Act.put, List.setIfInBounds_toArray, List.set_cons_zero, List.set_cons_succ, i64_w, i32_w]
    rfl
  refine one_ (i := 21) (N := some 32) #[true, true, true, true, true, true, true, true, true, true, true, true, true, true, true, true, true, true, true, true, true, true, false] rfl rfl (by kernel_rfl) (by decide) (fun K hK => ?_)
  refine goes_ Tryd.func38 (by kernel_rfl) rfl #[.slice (some ⟨wd.heap.size, 0, none⟩) 4 4] (by rfl) rfl rfl (by (try simp only [List.map_toArray, List.map_cons, List.map_nil]); first | done | rfl) ?_
  refine (Or_calls _ _ _ _ _ _ BS2.out).mono ?_
  rintro e w3 ⟨rfl, hb⟩
  rw [hb]
  clear hb w3
  refine ⟨_, rfl, ?_⟩
  refine hK.out _ _ ⟨cell4 BV2.out, cell4 BW2.out⟩ (fun hHeld => ?_)
  clear hK K
  refine norm_ (a' := ?_) ?_ ?_
  rotate_left
  · show Act.put _ (some 32) _ = _
    simp only [Act.put, List.setIfInBounds_toArray, List.set_cons_zero, List.set_cons_succ, i64_w, i32_w]
    rfl
  refine pure_ (i := 22) (N := some 4) (v := ?_) (a' := ?_) #[true, true, true, true, true, true, true, true, true, true, true, true, true, true, true, true, true, true, true, true, true, true, true] rfl rfl (by kernel_rfl) (fun _ _ _ h => h) (Or.inl ⟨by rfl, ?_⟩) ?_ ?_
  rotate_left
  · intro w'
    go_simp
    with_reducible rfl
  rotate_left
  · simp only [Act.put, List.setIfInBounds_toArray, List.set_cons_zero, List.set_cons_succ, i64_w, i32_w]
    rfl
  refine done_ (by kernel_rfl) ?_
  go_wp2
  go_ret
  exact ⟨rfl, HB2.out⟩
end Go.Proofs.YtoammgpfbdcphaaDoor.Sr
end
section
namespace Go.Proofs
open Go.Shelf
def Tryd.laysSlF6_f35_ren : Go.Shelf.Ren := ⟨fun | 6 => 35 | 15 => 53 | 14 => 52 | 28 => 76 | 29 => 77 | 20 => 68 | 21 => 69 | 22 => 70 | 23 => 71 | 24 => 72 | 25 => 73 | 26 => 74 | 27 => 75 | 46 => 88 | 47 => 89 | 48 => 90 | 49 => 91 | 50 => 92 | 57 => 99 | n => n, fun | 22 => 22 | 24 => 9 | 25 => 68 | 3 => 3 | 39 => 82 | 0 => 0 | 53 => 104 | 55 => 106 | 4 => 4 | 46 => 97 | 45 => 96 | 50 => 101 | 5 => 5 | 9 => 9 | 66 => 121 | 70 => 125 | 76 => 135 | 77 => 136 | n => n, fun | n => n⟩
theorem Tryd.laysSlF6_f35 : Go.Proofs.SlLaysF.n6 Tryd.prog Tryd.laysSlF6_f35_ren := {
  mixed := by kernel_rfl
  f6 := ⟨Tryd.f35.name, by decide, Tryd.func35.trans (congrArg some (by kernel_rfl))⟩
  f14 := ⟨Tryd.f52.name, by decide, Tryd.func52.trans (congrArg some (by kernel_rfl))⟩
  f15 := Tryd.func53.trans (congrArg some (by kernel_rfl))
  f20 := ⟨Tryd.f68.name, by decide, Tryd.func68.trans (congrArg some (by kernel_rfl))⟩
  f21 := ⟨Tryd.f69.name, by decide, Tryd.func69.trans (congrArg some (by kernel_rfl))⟩
  f22 := ⟨Tryd.f70.name, by decide, Tryd.func70.trans (congrArg some (by kernel_rfl))⟩
  f23 := ⟨Tryd.f71.name, by decide, Tryd.func71.trans (congrArg some (by kernel_rfl))⟩
  f24 := ⟨Tryd.f72.name, by decide, Tryd.func72.trans (congrArg some (by kernel_rfl))⟩
  f25 := ⟨Tryd.f73.name, by decide, Tryd.func73.trans (congrArg some (by kernel_rfl))⟩
  f26 := ⟨Tryd.f74.name, by decide, Tryd.func74.trans (congrArg some (by kernel_rfl))⟩
  f27 := ⟨Tryd.f75.name, by decide, Tryd.func75.trans (congrArg some (by kernel_rfl))⟩
  f28 := Tryd.func76.trans (congrArg some (by kernel_rfl))
  f29 := Tryd.func77.trans (congrArg some (by kernel_rfl))
  f46 := ⟨Tryd.f88.name, by decide, Tryd.func88.trans (congrArg some (by kernel_rfl))⟩
  f47 := Tryd.func89.trans (congrArg some (by kernel_rfl))
  f48 := Tryd.func90.trans (congrArg some (by kernel_rfl))
  f49 := ⟨Tryd.f91.name, by decide, Tryd.func91.trans (congrArg some (by kernel_rfl))⟩
  f50 := ⟨Tryd.f92.name, by decide, Tryd.func92.trans (congrArg some (by kernel_rfl))⟩
  f57 := ⟨Tryd.f99.name, by decide, Tryd.func99.trans (congrArg some (by kernel_rfl))⟩
  t0 := Tryd.underlying0
  a0 := Tryd.isAgg0
  z0 := Tryd.sizeOf0
  v0 := Tryd.zeroValue0
  t3 := Tryd.underlying3
  a3 := Tryd.isAgg3
  z3 := Tryd.sizeOf3
  v3 := Tryd.zeroValue3
  t4 := Tryd.underlying4
  a4 := Tryd.isAgg4
  z4 := Tryd.sizeOf4
  v4 := Tryd.zeroValue4
  t5 := Tryd.underlying5
  a5 := Tryd.isAgg5
  z5 := Tryd.sizeOf5
  v5 := Tryd.zeroValue5
  t9 := Tryd.underlying9
  a9 := Tryd.isAgg9
  z9 := Tryd.sizeOf9
  v9 := Tryd.zeroValue9
  t22 := Tryd.underlying22
  a22 := Tryd.isAgg22
  z22 := Tryd.sizeOf22
  v22 := Tryd.zeroValue22
  a24 := Tryd.isAgg9
  z24 := Tryd.sizeOf9
  t25 := Tryd.underlying68
  a25 := Tryd.isAgg68
  z25 := Tryd.sizeOf68
  v25 := Tryd.zeroValue68
  t39 := Tryd.underlying82
  a39 := Tryd.isAgg82
  z39 := Tryd.sizeOf82
  v39 := Tryd.zeroValue82
  t45 := Tryd.underlying96
  a45 := Tryd.isAgg96
  z45 := Tryd.sizeOf96
  v45 := Tryd.zeroValue96
  t46 := Tryd.underlying97
  a46 := Tryd.isAgg97
  z46 := Tryd.sizeOf97
  v46 := Tryd.zeroValue97
  t50 := Tryd.underlying101
  a50 := Tryd.isAgg101
  z50 := Tryd.sizeOf101
  v50 := Tryd.zeroValue101
  t53 := Tryd.underlying104
  a53 := Tryd.isAgg104
  z53 := Tryd.sizeOf104
  v53 := Tryd.zeroValue104
  t55 := Tryd.underlying106
  a55 := Tryd.isAgg106
  z55 := Tryd.sizeOf106
  v55 := Tryd.zeroValue106
  t66 := Tryd.underlying121
  a66 := Tryd.isAgg121
  z66 := Tryd.sizeOf121
  v66 := Tryd.zeroValue121
  t70 := Tryd.underlying125
  a70 := Tryd.isAgg125
  z70 := Tryd.sizeOf125
  v70 := Tryd.zeroValue125
  t76 := Tryd.underlying135
  a76 := Tryd.isAgg135
  z76 := Tryd.sizeOf135
  v76 := Tryd.zeroValue135
  t77 := Tryd.underlying136
  a77 := Tryd.isAgg136
  z77 := Tryd.sizeOf136
  v77 := Tryd.zeroValue136 }
open Go.RowKit Go.Lib Go.Sort in
theorem Tryd.slices_SortFunc {α : Type} [Inhabited α] (enc : α → Value) (h1 : OneCell enc) (cf : α → α → Int) (hO : SWO (ltOf cf)) (g : Nat) (cb : Array Value) (blk off cap : Nat) (d : Array α) (w : World) (eg : ∀ args w, (callFunc g args).run Tryd.prog w = .ok (.enter g args) w) (hcmp : CmpLays1 Tryd.prog g cb enc cf blk off d.size w) (hH : Holds enc w blk off d) (hblk : blk < w.heap.size) (hsz : d.size < 4611686018427387904) :
    Calls Tryd.prog 35 #[.slice (some ⟨blk, off, none⟩) d.size cap, .func (.func g) #[] cb] w fun e w' =>
      e = .returned (.tuple #[]) ∧ ∃ d' n os, PermIn 0 d.size d d' ∧ SortedIn (ltOf cf) 0 d.size d' ∧ w' = sortWorld enc w blk off n d' os := Any.slices_SortFunc Tryd.laysSlF6_f35 enc h1 cf hO g cb blk off cap d w eg hcmp hH hblk hsz
end Go.Proofs
end
section
namespace Go.Proofs.YtoammgpfbdcphaaDoor.Sr
open Go.RowKit Go.Sort Go.Proofs.YtoammgpfbdcphaaDoor.Lib Go.Proofs.YtoammgpfbdcphaaDoor.PH Go.Proofs.YtoammgpfbdcphaaDoor.Txt Go.Proofs.YtoammgpfbdcphaaDoor.Hx Go.Proofs.YtoammgpfbdcphaaDoor.Ord Go.Proofs.YtoammgpfbdcphaaDoorW.PrintWords Go.Proofs.YtoammgpfbdcphaaDoorW.PrintLast Go.Proofs.YtoammgpfbdcphaaDoorW.PrintMore
set_option linter.unusedVariables false
set_option linter.unusedSimpArgs false
theorem name_cmp : IsCmp nameC := by
  have h1 := str_cmp.pull fun x : ByteArray => (numOf x).1
  have h2 := int_cmp.pull fun x : ByteArray => keyN x
  have h3 := int_cmp.pull fun x : ByteArray => (numOf x).2.2.1
  exact h1.lex (h2.lex (h3.lex str_cmp))
theorem name_eq (x y : ByteArray) (h : nameC x y = 0) : x = y := by
  unfold nameC at h
  rcases or2_cases (strC (numOf x).1 (numOf y).1) (or2 (Go.Lib.compareInt (keyN x) (keyN y)) (or2 (Go.Lib.compareInt (numOf x).2.2.1 (numOf y).2.2.1) (strC x y))) with ⟨a, b⟩ | ⟨a, b⟩
  · rw [b] at h; exact absurd h a
  · rw [b] at h
    rcases or2_cases (Go.Lib.compareInt (keyN x) (keyN y)) (or2 (Go.Lib.compareInt (numOf x).2.2.1 (numOf y).2.2.1) (strC x y)) with ⟨a, b⟩ | ⟨a, b⟩
    · rw [b] at h; exact absurd h a
    · rw [b] at h
      rcases or2_cases (Go.Lib.compareInt (numOf x).2.2.1 (numOf y).2.2.1) (strC x y) with ⟨a, b⟩ | ⟨a, b⟩
      · rw [b] at h; exact absurd h a
      · rw [b] at h; exact (strC_eq x y).1 h
def srtN (l : List ByteArray) : List ByteArray := srt nameC l
theorem R_none {w : World} {base : Nat} {v : Value} (h : w.ownsRow base 9 1 v 0 []) : Kd.R Kd.string 9 w base (fun _ => True) v [] := Kd.R_of_own (xs := ([] : List ByteArray)) h (fun _ _ => trivial)
theorem clone_s (A0 : Option Addr) (c0 : Nat) (l0 : List ByteArray) (w : World) (hr0 : Kd.C Kd.string w A0 l0.length l0) (hl : l0.length ≤ 1000) :
    Calls Tryd.prog 34 #[.slice A0 l0.length c0] w fun e w' => ∃ v', e = .returned v' ∧ Kd.R Kd.string 9 w' w.heap.size (fun _ => True) v' l0 ∧ Below w.heap.size w w' := by
  cases l0 with
  | nil =>
    cases A0 with
    | none =>
      refine (Tryd.slices_Clone_string_nil 0 c0 w).mono ?_
      rintro e w' ⟨rfl, rfl⟩
      exact ⟨_, rfl, Kd.R_nil _ _ _ _ _, Below.refl _ _⟩
    | some a =>
      refine (Tryd.slices_Clone_string_zero a c0 w).mono ?_
      rintro e w' ⟨v', rfl, ho, _, hb⟩
      exact ⟨_, rfl, R_none ho, hb⟩
  | cons x l =>
    obtain ⟨_, _, hc1⟩ := hr0
    obtain ⟨ad, rfl, hc⟩ := hc1 (by simp)
    clear hc1
    have hcell : ∀ (j : Nat) y, (x :: l)[j]? = some y → w.cell? (ad.add j) = some (.string y) := fun j y hj => by
      obtain ⟨c, hl, rfl, hcc⟩ := hc j y hj
      have := hcc 0 _ rfl
      rwa [show j * Kd.string.sz + 0 = j from by simp [Kd.string, Kd.scalar]] at this
    obtain ⟨bk, o, sp⟩ := ad
    have h0 := hcell 0 x rfl
    have hsp : sp = none := by
      cases sp with
      | none => rfl
      | some z => simp [Addr.add, World.cell?] at h0; split at h0 <;> simp at h0
    subst hsp
    refine (Tryd.slices_Clone_string bk o (x :: l).length c0 (x :: l) w (Nat.le_refl _) (by omega) (fun j hj => ?_)).mono ?_
    · have := hcell j _ (List.getElem?_eq_getElem hj)
      unfold Addr.add at this
      rw [List.getD_eq_getElem?_getD, List.getElem?_eq_getElem hj]
      split at this <;> simp_all
    · rintro e w' ⟨v', rfl, ho, _, hb⟩
      rw [List.take_length] at ho
      exact ⟨_, rfl, Kd.R_of_own ho (fun _ _ => trivial), hb⟩
theorem own_ne_nil {w : World} {base : Nat} {u : Value} {n : Nat} {zs : List Value} (h : w.ownsRow base 9 1 u n zs) (hz : n ≠ 0) : u ≠ .slice none 0 0 := by
  rintro rfl
  rcases h.2 with ⟨_, h0⟩ | ⟨g, cap, cur, e, _⟩
  · exact hz h0
  · cases e
theorem own_grow {w : World} {base : Nat} {u : Value} {n : Nat} {xs : List Value} (h : w.ownsRow base 9 1 u n xs) (os : Array Obj) : (grow w os).ownsRow base 9 1 u n xs := by
  rcases h with ⟨h1, h2⟩
  refine ⟨h1, ?_⟩
  rcases h2 with h2 | ⟨g, cap, cur, e, hb, hg, hr⟩
  · exact .inl h2
  · refine .inr ⟨g, cap, cur, e, hb, ?_, hr⟩
    have hlt : g < w.heap.size := (Array.getElem?_eq_some_iff.1 hg).1
    show (w.heap ++ os)[g]? = _
    rw [Array.getElem?_append, if_pos hlt, hg]
theorem below_grow' {B : Nat} {w0 w : World} (h : Below B w0 w) (hB : B ≤ w.heap.size) (os : Array Obj) : Below B w0 (grow w os) :=
  ⟨h.os, h.tape, h.output, by show w0.heap.size ≤ (w.heap ++ os).size; rw [Array.size_append]; have := h.size; omega, fun k hk => by
    rw [← h.block k hk]
    show (w.heap ++ os)[k]? = _
    rw [Array.getElem?_append, if_pos (by omega)]⟩
abbrev Nm : Type := { b : ByteArray // b.size ≤ 100000 }
instance : Inhabited Nm := ⟨⟨ByteArray.empty, by decide⟩⟩
def encNm (x : Nm) : Value := .string x.1
theorem unNm (l : List ByteArray) (h : ∀ b ∈ l, b.size ≤ 100000) : ∃ zs : List Nm, l = zs.map (·.1) := by
  induction l with
  | nil => exact ⟨[], rfl⟩
  | cons x l ih =>
    obtain ⟨zs, hz⟩ := ih (fun b hb => h b (List.mem_cons_of_mem _ hb))
    exact ⟨⟨x, h x (by simp)⟩ :: zs, by rw [List.map_cons, ← hz]⟩
theorem nm_cmp : IsCmp (fun x y : Nm => nameC x.1 y.1) := name_cmp.pull _
theorem srt_nm (zs : List Nm) : (srt (fun x y : Nm => nameC x.1 y.1) zs).map (·.1) = srtN (zs.map (·.1)) := by
  refine up_unique name_cmp name_eq (((srt_perm _ zs).map _).trans (srt_perm _ _).symm) ?_ (srt_up name_cmp _)
  exact List.pairwise_map.2 (srt_up nm_cmp zs)
theorem cmp_lays (blk off size : Nat) (w : World) : CmpLays1 Tryd.prog 36 #[] encNm (fun x y : Nm => nameC x.1 y.1) blk off size w := by
  intro m os dk hs x y
  refine (cmp_calls x.1 y.1 x.2 y.2 _).mono ?_
  rintro e w' ⟨rfl, h⟩
  exact ⟨rfl, h.grow⟩
theorem srt_len {α : Type} (c : α → α → Int) (l : List α) : (srt c l).length = l.length := (srt_perm c l).length_eq
theorem sort_s {w0 w : World} {ok : Nat → Prop} {u : Value} {l : List ByteArray} (HO : Kd.R Kd.string 9 w w0.heap.size ok u l) (HB : Below w0.heap.size w0 w) (hl : l.length ≤ 1000) (hs : ∀ b ∈ l, b.size ≤ 100000) :
    Calls Tryd.prog 35 #[u, .func (.func 36) #[] #[]] w fun e w' => e = .returned (.tuple #[]) ∧ Kd.R Kd.string 9 w' w0.heap.size (fun _ => True) u (srtN l) ∧ Below w0.heap.size w0 w' := by
  obtain ⟨zs, rfl⟩ := unNm l hs
  rw [← srt_nm]
  have ho : w.ownsRow w0.heap.size 9 1 u zs.length (zs.map encNm) := by
    have h := Kd.own_of_R HO
    rw [List.length_map] at h
    have e : encs Value.string (zs.map (·.1)) = zs.map encNm := by unfold encs; rw [List.map_map]; rfl
    rw [e] at h
    exact h
  by_cases hn : zs = []
  · subst hn
    obtain ⟨A, c, rfl⟩ := Kd.R_slice HO
    refine (AnyF.slices_SortFunc_none (P := Tryd.prog) (ρ := Tryd.laysSlF6_f35_ren) { Tryd.laysSlF6_f35 with } A c _ w).mono ?_
    rintro e w' ⟨rfl, rfl⟩
    exact ⟨rfl, Kd.R_mono (by simpa [srt] using HO) (fun _ _ => trivial), HB⟩
  · have hn0 : zs.length ≠ 0 := fun h => hn (List.length_eq_zero_iff.1 h)
    obtain ⟨g, cap, rfl, hb, hlt, hnc, hcm, _, hH⟩ := Go.Lib.holds_of_ownsRow ho (own_ne_nil ho hn0)
    refine (Tryd.slices_SortFunc encNm (fun _ => rfl) _ nm_cmp.swo 36 #[] g 0 cap zs.toArray w (enters_of Tryd.func36 (by kernel_rfl) rfl) (cmp_lays g 0 _ w) hH hlt (by simp at hl ⊢; omega)).mono ?_
    rintro e w' ⟨rfl, d', n, os, hp, hsd, rfl⟩
    have hd := sorted_unique_holds nm_cmp.swo (fun x y h1 h2 => by
      unfold ltOf at h1 h2
      simp only [decide_eq_false_iff_not] at h1 h2
      have a1 := nm_cmp.anti x y
      exact Subtype.ext (name_eq x.1 y.1 (by have a2 := nm_cmp.anti y x; omega))) zs.toArray d' hp hsd
    rw [srt_lt nm_cmp] at hd
    have hd' : d' = (srt (fun x y : Nm => nameC x.1 y.1) zs).toArray := by exact Array.toList_inj.1 (by rw [hd])
    subst hd'
    have h1 := Go.Lib.ownsRow_putRow (q := n) (k := zs.length) (ys := srt (fun x y : Nm => nameC x.1 y.1) zs) ho (by rw [srt_len]) (Nat.le_refl _)
    rw [List.take_of_length_le (by rw [srt_len]; exact Nat.le_refl _)] at h1
    have h2 := own_grow h1 os
    refine ⟨rfl, Kd.R_of_own ?_ (fun _ _ => trivial), below_grow' (Go.Lib.below_putRow HB hb) ?_ os⟩
    · have e : encs Value.string ((srt (fun x y : Nm => nameC x.1 y.1) zs).map (·.1)) = (srt (fun x y : Nm => nameC x.1 y.1) zs).map encNm := by unfold encs; rw [List.map_map]; rfl
      rw [List.length_map, srt_len, e]
      exact h2
    · exact (Go.Lib.below_putRow (enc := encNm) (q := n) (d := (srt (fun x y : Nm => nameC x.1 y.1) zs).toArray) HB hb).size
set_option maxHeartbeats 2000000 in
set_option maxRecDepth 100000 in
theorem Sorted_calls (A0 : Option Addr) (c0 : Nat) (l0 : List ByteArray) (w : World) (hr0 : Kd.C Kd.string w A0 l0.length l0) (hc0 : l0.length ≤ c0) (hl : l0.length ≤ 1000) (hs : ∀ b ∈ l0, b.size ≤ 100000) :
    Calls Tryd.prog 17 #[.slice A0 l0.length c0] w fun e w' => ∃ v', e = .returned v' ∧ Kd.R Kd.string 9 w' w.heap.size (fun _ => True) v' (srtN l0) ∧ Below w.heap.size w w' := by
  have HC := Aside0.mk (clone_s A0 c0 l0 w hr0 hl)
  have HL := Aside0.mk hl
  have HS := Aside0.mk hs
  clear hr0 hc0 hl hs
  go_enter Tryd.func17, Tryd.ntmps17
  go_wp2_with fail
  refine HC.out.mono ?_
  rintro e w1 ⟨v, rfl, ho, hb⟩
  have HO := Aside0.mk ho
  have HB := Aside0.mk hb
  clear ho hb
  go_wp2_with fail
  refine (sort_s HO.out HB.out HL.out HS.out).mono ?_
  rintro e w2 ⟨rfl, ho, hb⟩
  have HO2 := Aside0.mk ho
  have HB2 := Aside0.mk hb
  clear ho hb
  go_wp2
  go_ret
  exact ⟨_, rfl, HO2.out, HB2.out⟩
end Go.Proofs.YtoammgpfbdcphaaDoor.Sr
end
section
namespace Go.Proofs.YtoammgpfbdcphaaDoor.Sr
open Go.RowKit Go.Proofs.YtoammgpfbdcphaaDoor.Lib Go.Proofs.YtoammgpfbdcphaaDoor.PH Go.Proofs.YtoammgpfbdcphaaDoorW.PrintWords Go.Proofs.YtoammgpfbdcphaaDoorW.PrintLast Go.Proofs.YtoammgpfbdcphaaDoorW.PrintMore
attribute [local go_sem] max2_int min2_int max_two min_two max_three min_three max_four min_four
set_option linter.unusedVariables false
set_option linter.unusedSimpArgs false
mutual
def marlinspikeref05_less.j0 : Nat → ByteArray → ByteArray → ByteArray → Int → Int → ByteArray → Int → Int → Bool → Option (Bool)
  | 0, _, _, _, _, _, _, _, _, _ => none
  | k + 1, x0, x1, x5, x6, x7, x9, x10, x11, x12 => if x12 = true then (marlinspikeref05_less.j1 k x0 x1 x5 x6 x7 x9 x10 x11) else (marlinspikeref05_less.j1 k x0 x1 x5 x6 x7 x9 (-1) x11)
def marlinspikeref05_less.j1 : Nat → ByteArray → ByteArray → ByteArray → Int → Int → ByteArray → Int → Int → Option (Bool)
  | 0, _, _, _, _, _, _, _, _ => none
  | k + 1, x0, x1, x5, x6, x7, x9, x10, x11 => if x5.toList = x9.toList then (if x6 = x10 then (if x7 = x11 then (some (Op.bytesLess x0.toList x1.toList)) else (some (decide (x7 < x11)))) else (some (decide (x6 < x10)))) else (some (Op.bytesLess x5.toList x9.toList))
end
def marlinspikeref05_less.f (k : Nat) (a0 : ByteArray) (a1 : ByteArray) : Option (Bool) := (marlinspikeref05_Number.f k a0).bind fun bt105 => ((marlinspikeref05_Number.f k a1).bind fun bt109 => (if bt105.2.2.2 = true then (marlinspikeref05_less.j0 k a0 a1 bt105.1 bt105.2.1 bt105.2.2.1 bt109.1 bt109.2.1 bt109.2.2.1 bt109.2.2.2) else (marlinspikeref05_less.j0 k a0 a1 bt105.1 (-1) bt105.2.2.1 bt109.1 bt109.2.1 bt109.2.2.1 bt109.2.2.2)))
theorem marlinspikeref05_less.mono_l : ∀ k, (∀ y0 y1 y2 y3 y4 y5 y6 y7 y8, LeO (marlinspikeref05_less.j0 k y0 y1 y2 y3 y4 y5 y6 y7 y8) (marlinspikeref05_less.j0 (k + 1) y0 y1 y2 y3 y4 y5 y6 y7 y8)) ∧ (∀ y0 y1 y2 y3 y4 y5 y6 y7, LeO (marlinspikeref05_less.j1 k y0 y1 y2 y3 y4 y5 y6 y7) (marlinspikeref05_less.j1 (k + 1) y0 y1 y2 y3 y4 y5 y6 y7))
  | 0 => ⟨fun _ _ _ _ _ _ _ _ _ r h => by simp [marlinspikeref05_less.j0] at h, fun _ _ _ _ _ _ _ _ r h => by simp [marlinspikeref05_less.j1] at h⟩
  | k + 1 => by
    obtain ⟨ih0, ih1⟩ := marlinspikeref05_less.mono_l k
    refine ⟨?_, ?_⟩
    · intro y0 y1 y2 y3 y4 y5 y6 y7 y8
      unfold marlinspikeref05_less.j0
      repeat' first
      | (with_reducible exact ih0 _ _ _ _ _ _ _ _ _)
      | (with_reducible exact ih1 _ _ _ _ _ _ _ _)
      | (with_reducible exact marlinspikeref05_Number.mono _ _)
      | (with_reducible exact LeO.refl _)
      | (with_reducible exact LeO.none _)
      | (with_reducible refine LeO.ite ?_ ?_)
      | (with_reducible refine LeO.bind ?_ (fun _ => ?_))
      | exact ih0 _ _ _ _ _ _ _ _ _
      | exact ih1 _ _ _ _ _ _ _ _
      | exact marlinspikeref05_Number.mono _ _
      | exact LeO.none _
      | refine LeO.ite ?_ ?_
      | refine LeO.bind ?_ (fun _ => ?_)
    · intro y0 y1 y2 y3 y4 y5 y6 y7
      unfold marlinspikeref05_less.j1
      repeat' first
      | (with_reducible exact ih0 _ _ _ _ _ _ _ _ _)
      | (with_reducible exact ih1 _ _ _ _ _ _ _ _)
      | (with_reducible exact marlinspikeref05_Number.mono _ _)
      | (with_reducible exact LeO.refl _)
      | (with_reducible exact LeO.none _)
      | (with_reducible refine LeO.ite ?_ ?_)
      | (with_reducible refine LeO.bind ?_ (fun _ => ?_))
      | exact ih0 _ _ _ _ _ _ _ _ _
      | exact ih1 _ _ _ _ _ _ _ _
      | exact marlinspikeref05_Number.mono _ _
      | exact LeO.none _
      | refine LeO.ite ?_ ?_
      | refine LeO.bind ?_ (fun _ => ?_)
theorem marlinspikeref05_less.mono : ∀ a0 a1 k, LeO (marlinspikeref05_less.f k a0 a1) (marlinspikeref05_less.f (k + 1) a0 a1) := by
  intro a0 a1 k
  obtain ⟨ih0, ih1⟩ := marlinspikeref05_less.mono_l k
  unfold marlinspikeref05_less.f
  repeat' first
      | (with_reducible exact ih0 _ _ _ _ _ _ _ _ _)
      | (with_reducible exact ih1 _ _ _ _ _ _ _ _)
      | (with_reducible exact marlinspikeref05_Number.mono _ _)
      | (with_reducible exact LeO.refl _)
      | (with_reducible exact LeO.none _)
      | (with_reducible refine LeO.ite ?_ ?_)
      | (with_reducible refine LeO.bind ?_ (fun _ => ?_))
      | exact ih0 _ _ _ _ _ _ _ _ _
      | exact ih1 _ _ _ _ _ _ _ _
      | exact marlinspikeref05_Number.mono _ _
      | exact LeO.none _
      | refine LeO.ite ?_ ?_
      | refine LeO.bind ?_ (fun _ => ?_)
set_option maxHeartbeats 8000000 in
set_option maxRecDepth 100000 in
theorem marlinspikeref05_less.calls (k : Nat) (a0 : ByteArray) (a1 : ByteArray) (r : Bool) (w : World) (h : marlinspikeref05_less.f k a0 a1 = some r) :
    Calls Tryd.prog 41 #[.string a0, .string a1] w fun e w' => e = .returned (.bool r) ∧ Drawn0 w w' := by
  have H : ((marlinspikeref05_Number.f k a0).bind fun bt105 => ((marlinspikeref05_Number.f k a1).bind fun bt109 => (if bt105.2.2.2 = true then (marlinspikeref05_less.j0 k a0 a1 bt105.1 bt105.2.1 bt105.2.2.1 bt109.1 bt109.2.1 bt109.2.2.1 bt109.2.2.2) else (marlinspikeref05_less.j0 k a0 a1 bt105.1 (-1) bt105.2.2.1 bt109.1 bt109.2.1 bt109.2.2.1 bt109.2.2.2)))) = some r := h
  clear h
  replace H := Option.bind_eq_some_iff.mp H
  obtain ⟨⟨t105, t106, t107, t108⟩, A30, H⟩ := H
  replace H : ((marlinspikeref05_Number.f k a1).bind fun bt109 => (if t108 = true then (marlinspikeref05_less.j0 k a0 a1 t105 t106 t107 bt109.1 bt109.2.1 bt109.2.2.1 bt109.2.2.2) else (marlinspikeref05_less.j0 k a0 a1 t105 (-1) t107 bt109.1 bt109.2.1 bt109.2.2.1 bt109.2.2.2))) = some r := H
  have A3 := Aside0.mk A30
  clear A30
  replace H := Option.bind_eq_some_iff.mp H
  obtain ⟨⟨t109, t110, t111, t112⟩, A40, H⟩ := H
  replace H : (if t108 = true then (marlinspikeref05_less.j0 k a0 a1 t105 t106 t107 t109 t110 t111 t112) else (marlinspikeref05_less.j0 k a0 a1 t105 (-1) t107 t109 t110 t111 t112)) = some r := H
  have A4 := Aside0.mk A40
  clear A40
  have HC5 := Aside0.mk H
  clear H
  go_enter Tryd.func41, Tryd.ntmps41
  go_upto_if 28 with (first | ((with_reducible refine gate_callee (f := 16) rfl ?_); refine goesL_ (some 15) rfl rfl Tryd.func16 (by kernel_rfl) rfl #[.string a0] rfl (by (try simp only [List.map_toArray, List.map_cons, List.map_nil]); first | done | rfl | (simp only [List.length_drop, List.length_take]; rfl)) ?_; (with_reducible refine (marlinspikeref05_Number.calls k a0 t105 t106 t107 t108 _ A3.out).mono ?_); rintro e w' ⟨rfl, ⟨nd, rfl⟩⟩; refine ⟨_, rfl, ?_⟩) | ((with_reducible refine gate_callee (f := 16) rfl ?_); refine goesL_ (some 22) rfl rfl Tryd.func16 (by kernel_rfl) rfl #[.string a1] rfl (by (try simp only [List.map_toArray, List.map_cons, List.map_nil]); first | done | rfl | (simp only [List.length_drop, List.length_take]; rfl)) ?_; (with_reducible refine (marlinspikeref05_Number.calls k a1 t109 t110 t111 t112 _ A4.out).mono ?_); rintro e w' ⟨rfl, ⟨nd, rfl⟩⟩; refine ⟨_, rfl, ?_⟩))
  (try simp only [Act.put, List.setIfInBounds_toArray, List.set_cons_zero, List.set_cons_succ])
  go_cut [6] (fun v6 wc => ∃ (kq : Nat) (x6_4 : Int), v6 = .int .i64 x6_4 ∧ Aside0 (marlinspikeref05_less.j0 kq a0 a1 t105 x6_4 t107 t109 t110 t111 t112 = some r) ∧ Aside0 (kq ≤ k) ∧ Drawn0 w wc)
  case first =>
    have H := HC5.out
    clear HC5
    by_cases c6 : t108 = true
    · subst c6
      have H1 : (marlinspikeref05_less.j0 k a0 a1 t105 t106 t107 t109 t110 t111 t112) = some r := by rw [if_pos rfl] at H; exact H
      clear H
      have H := H1
      clear H1
      have H' := Aside0.mk H
      clear H
      go_wp2
      go_meet
      case rel => exact ⟨_, (t106), (by first | rfl | (simp; done) | (simp [*]; done)), H', ⟨by first | omega | exact Nat.le_refl _⟩, by repeat (first | exact Drawn0.refl _ | apply Drawn0.step)⟩
    · replace c6 := Bool.eq_false_iff.mpr c6
      subst c6
      have H1 : (marlinspikeref05_less.j0 k a0 a1 t105 (-1) t107 t109 t110 t111 t112) = some r := by rw [if_neg (show ¬ (false = true) by decide)] at H; exact H
      clear H
      have H := H1
      clear H1
      have H' := Aside0.mk H
      clear H
      go_wp2
      go_meet
      case rel => exact ⟨_, ((-1)), (by first | rfl | (simp; done) | (simp [*]; done)), H', ⟨by first | omega | exact Nat.le_refl _⟩, by repeat (first | exact Drawn0.refl _ | apply Drawn0.step)⟩
  case rest =>
    clear HC5
    try clear c1
    try clear p2
    try clear c4
    try clear c6
    obtain ⟨kq, x6_4, rfl, HA, HJ4, ⟨mc4, rfl⟩⟩ := hcut
    cases kq with
    | zero => exact absurd HA.out (by simp [marlinspikeref05_less.j0])
    | succ kj4 =>
      have H := HA.out
      clear HA
      simp only [marlinspikeref05_less.j0] at H
      have HC7 := Aside0.mk H
      clear H
      go_upto_if 30 with (fail)
      go_cut [10] (fun v10 wc => ∃ (kq : Nat) (x10_6 : Int), v10 = .int .i64 x10_6 ∧ Aside0 (marlinspikeref05_less.j1 kq a0 a1 t105 x6_4 t107 t109 x10_6 t111 = some r) ∧ Aside0 (kq ≤ kj4) ∧ Drawn0 w wc)
      case first =>
        have H := HC7.out
        clear HC7
        by_cases c8 : t112 = true
        · subst c8
          have H1 : (marlinspikeref05_less.j1 kj4 a0 a1 t105 x6_4 t107 t109 t110 t111) = some r := by rw [if_pos rfl] at H; exact H
          clear H
          have H := H1
          clear H1
          have H' := Aside0.mk H
          clear H
          go_wp2
          go_meet
          case rel => exact ⟨_, (t110), (by first | rfl | (simp; done) | (simp [*]; done)), H', ⟨by have := HJ4.out; first | omega | exact Nat.le_refl _⟩, by repeat (first | exact Drawn0.refl _ | apply Drawn0.step)⟩
        · replace c8 := Bool.eq_false_iff.mpr c8
          subst c8
          have H1 : (marlinspikeref05_less.j1 kj4 a0 a1 t105 x6_4 t107 t109 (-1) t111) = some r := by rw [if_neg (show ¬ (false = true) by decide)] at H; exact H
          clear H
          have H := H1
          clear H1
          have H' := Aside0.mk H
          clear H
          go_wp2
          go_meet
          case rel => exact ⟨_, ((-1)), (by first | rfl | (simp; done) | (simp [*]; done)), H', ⟨by have := HJ4.out; first | omega | exact Nat.le_refl _⟩, by repeat (first | exact Drawn0.refl _ | apply Drawn0.step)⟩
      case rest =>
        clear HC7
        try clear c1
        try clear p2
        try clear c4
        try clear c6
        try clear c8
        try clear p2
        obtain ⟨kq, x10_6, rfl, HA, HJ6, ⟨mc6, rfl⟩⟩ := hcut
        cases kq with
        | zero => exact absurd HA.out (by simp [marlinspikeref05_less.j1])
        | succ kj6 =>
          have H := HA.out
          clear HA
          simp only [marlinspikeref05_less.j1] at H
          by_cases c9 : t105.toList = t109.toList
          · rw [if_pos c9] at H
            have c9b0 : (t105.toList == t109.toList) = true := beq_iff_eq.mpr c9
            have c9b1 : (t105.toList != t109.toList) = false := bne_eq_false_iff_eq.mpr c9
            clear c9
            by_cases c10 : x6_4 = x10_6
            · rw [if_pos c10] at H
              have c10b0 : (x6_4 == x10_6) = true := beq_iff_eq.mpr c10
              have c10b1 : (x6_4 != x10_6) = false := bne_eq_false_iff_eq.mpr c10
              clear c10
              by_cases c11 : t107 = t111
              · rw [if_pos c11] at H
                have c11b0 : (t107 == t111) = true := beq_iff_eq.mpr c11
                have c11b1 : (t107 != t111) = false := bne_eq_false_iff_eq.mpr c11
                clear c11
                obtain rfl := Option.some.inj H
                go_wp2
                go_ret
                exact ⟨by first | rfl | (simp; done) | (simp [*]; done), by repeat (first | exact Drawn0.refl _ | apply Drawn0.step)⟩
              · rw [if_neg c11] at H
                have c11b0 : (t107 == t111) = false := beq_eq_false_iff_ne.mpr c11
                have c11b1 : (t107 != t111) = true := bne_iff_ne.mpr c11
                obtain rfl := Option.some.inj H
                go_wp2
                go_ret
                exact ⟨by first | rfl | (simp; done) | (simp [*]; done), by repeat (first | exact Drawn0.refl _ | apply Drawn0.step)⟩
            · rw [if_neg c10] at H
              have c10b0 : (x6_4 == x10_6) = false := beq_eq_false_iff_ne.mpr c10
              have c10b1 : (x6_4 != x10_6) = true := bne_iff_ne.mpr c10
              obtain rfl := Option.some.inj H
              go_wp2
              go_ret
              exact ⟨by first | rfl | (simp; done) | (simp [*]; done), by repeat (first | exact Drawn0.refl _ | apply Drawn0.step)⟩
          · rw [if_neg c9] at H
            have c9b0 : (t105.toList == t109.toList) = false := beq_eq_false_iff_ne.mpr c9
            have c9b1 : (t105.toList != t109.toList) = true := bne_iff_ne.mpr c9
            obtain rfl := Option.some.inj H
            go_wp2
            go_ret
            exact ⟨by first | rfl | (simp; done) | (simp [*]; done), by repeat (first | exact Drawn0.refl _ | apply Drawn0.step)⟩
end Go.Proofs.YtoammgpfbdcphaaDoor.Sr
end
section
namespace Go.Proofs.YtoammgpfbdcphaaDoor.Sr
open Go.RowKit Go.Proofs.YtoammgpfbdcphaaDoor.Lib Go.Proofs.YtoammgpfbdcphaaDoor.PH Go.Proofs.YtoammgpfbdcphaaDoor.Ord Go.Proofs.YtoammgpfbdcphaaDoorW.PrintWords Go.Proofs.YtoammgpfbdcphaaDoorW.PrintLast Go.Proofs.YtoammgpfbdcphaaDoorW.PrintMore
set_option linter.unusedVariables false
set_option linter.unusedSimpArgs false
theorem row_oneS {w : World} {b : Nat} {n : ByteArray} (h : w.cell? ⟨b, 0, none⟩ = some (.string n)) : ReadsRow (fun z cs => cs = [.string z]) 1 w (some ⟨b, 0, none⟩) 1 [n] :=
  ⟨rfl, by decide, fun _ => ⟨_, rfl, fun j p hj => by
    cases j with
    | zero =>
      simp only [List.getElem?_cons_zero, Option.some.injEq] at hj
      subst hj
      refine ⟨_, rfl, rfl, fun i u hu => ?_⟩
      cases i with
      | zero =>
        simp only [List.getElem?_cons_zero, Option.some.injEq] at hu
        subst hu
        exact h
      | succ i => simp at hu
    | succ j => simp at hj⟩⟩
mutual
def RSorted.l0 : Nat → List ByteArray → List ByteArray → Int → Option (List ByteArray)
  | 0, _, _, _ => none
  | k + 1, x0, x3, x4 => if x4 < (x0.length : Int) then (RSorted.l1 k x0 x3 x4 (x3.length : Int)) else (some x3)
def RSorted.l1 : Nat → List ByteArray → List ByteArray → Int → Int → Option (List ByteArray)
  | 0, _, _, _, _ => none
  | k + 1, x0, x3, x4, x5 => if x5 > 0 then (if 0 ≤ x4 then (if x4 < (x0.length : Int) then (if 0 ≤ (wrap64 (x5 - 1)) then (if (wrap64 (x5 - 1)) < (x3.length : Int) then ((marlinspikeref05_less.f k (rdOf ByteArray.empty x0 x4) (rdOf ByteArray.empty x3 (wrap64 (x5 - 1)))).bind fun t115 => (if t115 = true then (RSorted.l1 k x0 x3 x4 (wrap64 (x5 - 1))) else (if 0 ≤ x5 then (if x5 ≤ (x3.length : Int) then (if x3.length < 8796093022208 then (RSorted.l0 k x0 (insL x3 x5.toNat (rdOf ByteArray.empty x0 x4)) (wrap64 (x4 + 1))) else (none)) else (none)) else (none)))) else (none)) else (none)) else (none)) else (none)) else (if 0 ≤ x4 then (if x4 < (x0.length : Int) then (if 0 ≤ x5 then (if x5 ≤ (x3.length : Int) then (if x3.length < 8796093022208 then (RSorted.l0 k x0 (insL x3 x5.toNat (rdOf ByteArray.empty x0 x4)) (wrap64 (x4 + 1))) else (none)) else (none)) else (none)) else (none)) else (none))
end
def RSorted.f (k : Nat) (l0 : List ByteArray) : Option (List ByteArray) := RSorted.l0 k l0 ([] : List ByteArray) 0
set_option maxHeartbeats 8000000 in
set_option maxRecDepth 100000 in
theorem RSorted.calls (k : Nat) (A0 : Option Addr) (c0 : Nat) (l0 : List ByteArray) (r : List ByteArray) (w : World) (hr0 : Kd.C Kd.string w A0 l0.length l0) (hc0 : l0.length ≤ c0) (h : RSorted.f k l0 = some r) :
    Calls Tryd.prog 18 #[.slice A0 l0.length c0] w fun e w' => ∃ v0_ : Value, e = .returned (v0_) ∧ Kd.R Kd.string 9 w' w.heap.size (fun _ => True) v0_ r ∧ Below w.heap.size w w' := by
  have HR0 := Aside0.mk hr0
  have HC0 := Aside0.mk hc0
  clear hr0 hc0
  have HB := Aside0.mk (Below.refl w.heap.size w)
  have H : (RSorted.l0 k l0 ([] : List ByteArray) 0) = some r := h
  clear h
  have H' := Aside0.mk H
  clear H
  go_enter Tryd.func18, Tryd.ntmps18
  go_wp2
  repeat (go_quiet (fail); try go_wp2)
  go_loopg [3, 4] k (fun kq v3 v4 w' => ∃ (x3_1 : List ByteArray) (x4_1 : Int), v4 = .int .i64 x4_1 ∧ Aside0 (RSorted.l0 kq l0 x3_1 x4_1 = some r) ∧ Aside0 (kq ≤ k) ∧ Aside0 (Kd.R Kd.string 9 w' w.heap.size (fun _ => True) v3 x3_1) ∧ Aside0 (Below w.heap.size w w'))
  case atStart => exact ⟨(([] : List ByteArray)), (0), (by first | rfl | (simp; done) | (simp [*]; done)), H', ⟨Nat.le_refl _⟩, ⟨by first | exact Kd.R_nil _ _ _ _ _ | exact Kd.N_nil _ _ _ _ _ | exact Kd.V_nil _ _ _ _ _ | exact Kd.Q_nil _ _ _ _ _ | exact Kd.S_nil _ _ _ _ _⟩, ⟨by repeat (first | (with_reducible first | exact HB.out | apply below_alloc | apply pw_below_drewN | apply below_drew1) | exact HB.out)⟩⟩
  case round =>
    clear H'
    try clear c1
    obtain ⟨x3_1, x4_1, rfl, HA, HK1, HO_3, HB⟩ := hrel
    cases gk with
    | zero => exact absurd HA.out (by simp [RSorted.l0])
    | succ k1 =>
      have H := HA.out
      clear HA
      simp only [RSorted.l0] at H
      by_cases c2 : x4_1 < (l0.length : Int)
      · rw [if_pos c2] at H
        have c2b0 : decide (x4_1 < (l0.length : Int)) = true := decide_eq_true c2
        clear c2
        have H' := Aside0.mk H
        clear H
        obtain ⟨Ao3, co3, eo3⟩ := Kd.R_slice HO_3.out
        subst eo3
        go_wp2
        repeat (go_quiet (fail); try go_wp2)
        go_loopg [5] k1 (fun kq v5 w' => ∃ (x5_2 : Int), v5 = .int .i64 x5_2 ∧ Aside0 (RSorted.l1 kq l0 x3_1 x4_1 x5_2 = some r) ∧ Aside0 (kq ≤ k1) ∧ Aside0 (Kd.R Kd.string 9 w' w.heap.size (fun _ => True) (.slice Ao3 x3_1.length co3) x3_1) ∧ Aside0 (Below w.heap.size w w'))
        case atStart => exact ⟨((x3_1.length : Int)), (by first | rfl | (simp; done) | (simp [*]; done)), H', ⟨Nat.le_refl _⟩, ⟨by (with_reducible repeat (first | apply Kd.R_alloc | apply Kd.R_drewN | apply Kd.R_drew)); exact HO_3.out⟩, ⟨by repeat (first | (with_reducible first | exact HB.out | apply below_alloc | apply pw_below_drewN | apply below_drew1) | exact HB.out)⟩⟩
        case round =>
          clear H'
          try clear c1
          try clear c2
          try clear c2b0
          try clear p2
          obtain ⟨x5_2, rfl, HA, HK2, HO_3, HB⟩ := hrel
          cases gk with
          | zero => exact absurd HA.out (by simp [RSorted.l1])
          | succ k2 =>
            have H := HA.out
            clear HA
            simp only [RSorted.l1] at H
            by_cases c4 : x5_2 > 0
            · rw [if_pos c4] at H
              have c4b0 : decide (0 < x5_2) = true := decide_eq_true c4
              clear c4
              by_cases c5 : 0 ≤ x4_1
              · rw [if_pos c5] at H
                have c5b0 : decide (0 ≤ x4_1) = true := decide_eq_true c5
                clear c5
                by_cases c6 : x4_1 < (l0.length : Int)
                · rw [if_pos c6] at H
                  have c6b0 : decide (x4_1 < (l0.length : Int)) = true := decide_eq_true c6
                  clear c6
                  obtain ⟨ji7, hji7⟩ : ∃ j_ : Int, (wrap64 (x5_2 - 1)) = j_ := ⟨_, rfl⟩
                  replace H : (if 0 ≤ (ji7) then (if (ji7) < (x3_1.length : Int) then ((marlinspikeref05_less.f k2 (rdOf ByteArray.empty l0 x4_1) (rdOf ByteArray.empty x3_1 (ji7))).bind fun t115 => (if t115 = true then (RSorted.l1 k2 l0 x3_1 x4_1 ji7) else (if 0 ≤ x5_2 then (if x5_2 ≤ (x3_1.length : Int) then (if x3_1.length < 8796093022208 then (RSorted.l0 k2 l0 (insL x3_1 x5_2.toNat (rdOf ByteArray.empty l0 x4_1)) (wrap64 (x4_1 + 1))) else (none)) else (none)) else (none)))) else (none)) else (none)) = some r := by first | (rw [hji7] at H; exact H) | (simp only [hji7] at H ⊢; exact H)
                  have hji7w : (IntKind.i64.wrap (x5_2 - 1)) = ji7 := (i64_w _).trans hji7
                  by_cases c8 : 0 ≤ (ji7)
                  · rw [if_pos c8] at H
                    have c8b0 : decide (0 ≤ (ji7)) = true := decide_eq_true c8
                    clear c8
                    by_cases c9 : (ji7) < (x3_1.length : Int)
                    · rw [if_pos c9] at H
                      have c9b0 : decide ((ji7) < (x3_1.length : Int)) = true := decide_eq_true c9
                      clear c9
                      replace H := Option.bind_eq_some_iff.mp H
                      obtain ⟨t115, A100, H⟩ := H
                      replace H : (if t115 = true then (RSorted.l1 k2 l0 x3_1 x4_1 ji7) else (if 0 ≤ x5_2 then (if x5_2 ≤ (x3_1.length : Int) then (if x3_1.length < 8796093022208 then (RSorted.l0 k2 l0 (insL x3_1 x5_2.toNat (rdOf ByteArray.empty l0 x4_1)) (wrap64 (x4_1 + 1))) else (none)) else (none)) else (none))) = some r := H
                      have A10 := Aside0.mk A100
                      clear A100
                      by_cases c11 : t115 = true
                      · subst c11
                        have H1 : (RSorted.l1 k2 l0 x3_1 x4_1 ji7) = some r := by rw [if_pos rfl] at H; exact H
                        clear H
                        have H := H1
                        clear H1
                        have H' := Aside0.mk H
                        clear H
                        have p113 : 0 ≤ (x4_1 : Int) := of_decide_eq_true (by first | (with_reducible assumption) | assumption)
                        have q113 : x4_1 < (l0.length : Int) := of_decide_eq_true (by first | (with_reducible assumption) | assumption)
                        obtain ⟨ad113, e113, hx113_0⟩ := Kd.at_string HR0.out x4_1 p113 q113
                        cases e113
                        replace hx113_0 := (HB.out.cell (World.block_lt_of_cell? w _ hx113_0)).trans hx113_0
                        replace p113 := eq_true p113
                        replace q113 := eq_true q113
                        have p114 : 0 ≤ ((ji7) : Int) := of_decide_eq_true (by first | (with_reducible assumption) | assumption)
                        have q114 : (ji7) < (x3_1.length : Int) := of_decide_eq_true (by first | (with_reducible assumption) | assumption)
                        obtain ⟨ad114, e114, hx114_0⟩ := Kd.at_string (Kd.R_reads' HO_3.out).2.2 (ji7) p114 q114
                        cases e114
                        replace p114 := eq_true p114
                        replace q114 := eq_true q114
                        go_wp2_with (first | (go_at_call 41; (with_reducible refine (marlinspikeref05_less.calls k2 (rdOf ByteArray.empty l0 x4_1) (rdOf ByteArray.empty x3_1 (ji7)) true _ A10.out).mono ?_); rintro e w' ⟨rfl, ⟨nd, rfl⟩⟩; (try first | exact ⟨rfl, _, World.drewN_drewN _ _ _⟩ | exact ⟨rfl, _, Eq.trans (World.drewN_drewN _ _ _) (congrArg (World.drewN _) (Nat.add_assoc _ _ _))⟩)))
                        repeat (go_quiet (first | (go_at_call 41; (with_reducible refine (marlinspikeref05_less.calls k2 (rdOf ByteArray.empty l0 x4_1) (rdOf ByteArray.empty x3_1 (ji7)) true _ A10.out).mono ?_); rintro e w' ⟨rfl, ⟨nd, rfl⟩⟩; (try first | exact ⟨rfl, _, World.drewN_drewN _ _ _⟩ | exact ⟨rfl, _, Eq.trans (World.drewN_drewN _ _ _) (congrArg (World.drewN _) (Nat.add_assoc _ _ _))⟩))); try go_wp2_with (first | (go_at_call 41; (with_reducible refine (marlinspikeref05_less.calls k2 (rdOf ByteArray.empty l0 x4_1) (rdOf ByteArray.empty x3_1 (ji7)) true _ A10.out).mono ?_); rintro e w' ⟨rfl, ⟨nd, rfl⟩⟩; (try first | exact ⟨rfl, _, World.drewN_drewN _ _ _⟩ | exact ⟨rfl, _, Eq.trans (World.drewN_drewN _ _ _) (congrArg (World.drewN _) (Nat.add_assoc _ _ _))⟩))))
                        go_roundg k2
                        case measure => have := HK1.out; have := HK2.out; omega
                        case rel => exact ⟨(ji7), (by first | rfl | (simp; done) | (simp only [← hji7] <;> (first | rfl | simp)) | (simp [*]; done)), H', ⟨by have := HK1.out; have := HK2.out; omega⟩, ⟨by (with_reducible repeat (first | apply Kd.R_alloc | apply Kd.R_drewN | apply Kd.R_drew)); exact HO_3.out⟩, ⟨by repeat (first | (with_reducible first | exact HB.out | apply below_alloc | apply pw_below_drewN | apply below_drew1) | exact HB.out)⟩⟩
                      · replace c11 := Bool.eq_false_iff.mpr c11
                        subst c11
                        have H1 : (if 0 ≤ x5_2 then (if x5_2 ≤ (x3_1.length : Int) then (if x3_1.length < 8796093022208 then (RSorted.l0 k2 l0 (insL x3_1 x5_2.toNat (rdOf ByteArray.empty l0 x4_1)) (wrap64 (x4_1 + 1))) else (none)) else (none)) else (none)) = some r := by rw [if_neg (show ¬ (false = true) by decide)] at H; exact H
                        clear H
                        have H := H1
                        clear H1
                        by_cases h0c : 0 ≤ x5_2
                        · rw [if_pos h0c] at H
                          have h0b : decide (0 ≤ x5_2) = true := decide_eq_true h0c
                          clear h0c
                          by_cases hlec : x5_2 ≤ (x3_1.length : Int)
                          · rw [if_pos hlec] at H
                            have hleb : decide (x5_2 ≤ (x3_1.length : Int)) = true := decide_eq_true hlec
                            clear hlec
                            by_cases c12 : x3_1.length < 8796093022208
                            · rw [if_pos c12] at H
                              have LMc12 := Aside0.mk c12
                              clear c12
                              obtain ⟨y117, hy117⟩ : ∃ y_ : List ByteArray, y_ = (insL x3_1 x5_2.toNat (rdOf ByteArray.empty l0 x4_1)) := ⟨_, rfl⟩
                              replace H : (RSorted.l0 k2 l0 y117 (wrap64 (x4_1 + 1))) = some r := by first | (rw [hy117]; with_reducible exact H) | (have H2_ := (Option.bind_some _ _).symm.trans H; rw [hy117]; with_reducible exact H2_) | (have H2_ := (Option.bind_some _ _).symm.trans H; with_reducible exact H2_) | with_reducible exact H | (rw [hy117]; exact H) | exact H
                              have Ny117 := Aside0.mk hy117
                              clear hy117
                              have H' := Aside0.mk H
                              clear H
                              have p113 : 0 ≤ (x4_1 : Int) := of_decide_eq_true (by first | (with_reducible assumption) | assumption)
                              have q113 : x4_1 < (l0.length : Int) := of_decide_eq_true (by first | (with_reducible assumption) | assumption)
                              obtain ⟨ad113, e113, hx113_0⟩ := Kd.at_string HR0.out x4_1 p113 q113
                              cases e113
                              replace hx113_0 := (HB.out.cell (World.block_lt_of_cell? w _ hx113_0)).trans hx113_0
                              replace p113 := eq_true p113
                              replace q113 := eq_true q113
                              have p114 : 0 ≤ ((ji7) : Int) := of_decide_eq_true (by first | (with_reducible assumption) | assumption)
                              have q114 : (ji7) < (x3_1.length : Int) := of_decide_eq_true (by first | (with_reducible assumption) | assumption)
                              obtain ⟨ad114, e114, hx114_0⟩ := Kd.at_string (Kd.R_reads' HO_3.out).2.2 (ji7) p114 q114
                              cases e114
                              replace p114 := eq_true p114
                              replace q114 := eq_true q114
                              have hcap3 : x3_1.length ≤ co3 := (Kd.R_reads' HO_3.out).2.1
                              obtain ⟨i0, hi0, _, hsz0, _⟩ := info_parts info9
                              have hm0 : 0 ≤ x5_2 := of_decide_eq_true h0b
                              have hmle : x5_2 ≤ (x3_1.length : Int) := of_decide_eq_true hleb
                              have cutT := cut_to (P := Tryd.prog) 22 9 .i64 Tryd.underlying22 hi0 (some ad114) x3_1.length co3 x5_2 hm0 hmle hcap3
                              have cutF := cut_from (P := Tryd.prog) 22 9 .i64 Tryd.underlying22 hi0 1 hsz0 (some ad114) x3_1.length co3 x5_2 hm0 hmle
                              have hlt_ : (x3_1.take x5_2.toNat).length = x5_2.toNat := by rw [List.length_take]; omega
                              have hld_ : (x3_1.drop x5_2.toNat).length = x3_1.length - x5_2.toNat := List.length_drop
                              obtain ⟨AD, hAD⟩ : ∃ AD, (if co3 = x5_2.toNat then (some ad114) else Option.map (fun z => z.add (x5_2.toNat * 1)) (some ad114)) = AD := ⟨_, rfl⟩
                              obtain ⟨m2, hm2⟩ : ∃ m2, x3_1.length - x5_2.toNat = m2 := ⟨_, rfl⟩
                              obtain ⟨cc2, hcc2⟩ : ∃ cc2, co3 - x5_2.toNat = cc2 := ⟨_, rfl⟩
                              rw [hAD, hm2, hcc2] at cutF
                              rw [hm2] at hld_
                              have CT : Aside0 (Kd.C Kd.string wr (some ad114) x5_2.toNat (x3_1.take x5_2.toNat)) := ⟨by have h := Kd.C_take (m := x5_2.toNat) (Kd.R_reads' HO_3.out).2.2 (by omega); rw [hlt_] at h; exact h⟩
                              have CD : Aside0 (Kd.C Kd.string wr AD m2 (x3_1.drop x5_2.toNat)) := ⟨by have h := Kd.C_drop (m := x5_2.toNat) (Kd.R_reads' HO_3.out).2.2 (by omega) hcap3; rw [hld_, show Kd.string.sz = 1 from rfl, hAD] at h; exact h⟩
                              have HLT := Aside0.mk hlt_
                              have HLM := Aside0.mk (show x5_2.toNat + m2 ≤ x3_1.length from by omega)
                              have HX := Aside0.mk (show wr.cell? (ad113.add x4_1.toNat) = some (.string (rdOf ByteArray.empty l0 x4_1)) from hx113_0)
                              clear hAD hm2 hcc2 hlt_ hld_ hm0 hmle
                              have LX := Aside0.mk LMc12.out
                              go_wp2_with fail
                              go_quiet (first | (go_at_call 41; (with_reducible refine (marlinspikeref05_less.calls k2 (rdOf ByteArray.empty l0 x4_1) (rdOf ByteArray.empty x3_1 (ji7)) false _ A10.out).mono ?_); rintro e w' ⟨rfl, ⟨nd, rfl⟩⟩; (try first | exact ⟨rfl, _, World.drewN_drewN _ _ _⟩ | exact ⟨rfl, _, Eq.trans (World.drewN_drewN _ _ _) (congrArg (World.drewN _) (Nat.add_assoc _ _ _))⟩)))
                              go_wp2_with fail
                              obtain ⟨wq, hwq⟩ : ∃ wq, wr.drewN nq = wq := ⟨_, rfl⟩
                              have HBq := Aside0.mk (show Below w.heap.size w wq from by rw [← hwq]; repeat (first | exact HB.out | apply pw_below_drewN | apply below_drew1))
                              have hbq : Below wr.heap.size wr wq := by rw [← hwq]; repeat (first | exact Below.refl _ _ | apply pw_below_drewN | apply below_drew1)
                              replace CT := Aside0.mk (Kd.C_below CT.out hbq)
                              replace CD := Aside0.mk (Kd.C_below CD.out hbq)
                              replace HX := Aside0.mk ((hbq.cell (World.block_lt_of_cell? wr _ HX.out)).trans HX.out)
                              rw [hwq]
                              clear hwq hbq
                              refine start_ (n := 15) (S := fun w' => w'.cell? (ad113.add x4_1.toNat) = some (.string (rdOf ByteArray.empty l0 x4_1))) (ds := []) #[false, false, false, false, false, false, false, false, false, false, false, false, false, false, false] (by kernel_rfl) rfl rfl HX.out (fun hHeld => ?_)
                              have HBd := Aside0.mk (below_drew HBq.out)
                              replace CT := Aside0.mk (Kd.C_below CT.out (below_drew (Below.refl _ _)))
                              replace CD := Aside0.mk (Kd.C_below CD.out (below_drew (Below.refl _ _)))
                              replace HX : Aside0 (wq.drew.cell? (ad113.add x4_1.toNat) = some (.string (rdOf ByteArray.empty l0 x4_1))) := ⟨HX.out⟩
                              generalize wq.drew = wd at HBd CT CD HX hHeld ⊢
                              refine pure_ (i := 0) (N := some 30) (v := ?_) (a' := ?_) #[true, false, false, false, false, false, false, false, false, false, false, false, false, false, false] rfl rfl (by kernel_rfl) (fun _ _ _ h => h) (Or.inl ⟨by rfl, ?_⟩) ?_ ?_
                              rotate_left
                              · intro w'
                                go_simp
                                with_reducible rfl
                              rotate_left
                              · simp only [Act.put, List.setIfInBounds_toArray, List.set_cons_zero, List.set_cons_succ, i64_w, i32_w]
                                rfl
                              refine pure_ (i := 1) (N := some 31) (v := ?_) (a' := ?_) #[true, true, false, false, false, false, false, false, false, false, false, false, false, false, false] rfl rfl (by kernel_rfl) (fun _ _ _ h => h) (Or.inl ⟨by rfl, ?_⟩) ?_ ?_
                              rotate_left
                              · intro w'
                                go_simp
                                with_reducible rfl
                              rotate_left
                              · simp only [Act.put, List.setIfInBounds_toArray, List.set_cons_zero, List.set_cons_succ, i64_w, i32_w]
                                rfl
                              refine pure_ (i := 2) (N := some 32) (v := ?_) (a' := ?_) #[true, true, true, false, false, false, false, false, false, false, false, false, false, false, false] rfl rfl (by kernel_rfl) (fun _ _ _ h => h) (Or.inl ⟨by rfl, ?_⟩) ?_ ?_
                              rotate_left
                              · intro w'
                                go_simp
                                with_reducible rfl
                              rotate_left
                              · simp only [Act.put, List.setIfInBounds_toArray, List.set_cons_zero, List.set_cons_succ, i64_w, i32_w]
                                rfl
                              refine pure_ (i := 4) (N := some 34) (v := ?_) (a' := ?_) #[true, true, true, false, true, false, false, false, false, false, false, false, false, false, false] rfl rfl (by kernel_rfl) (fun _ _ _ h => h) (Or.inl ⟨by rfl, ?_⟩) ?_ ?_
                              rotate_left
                              · intro w'
                                go_simp
                                with_reducible rfl
                              rotate_left
                              · simp only [Act.put, List.setIfInBounds_toArray, List.set_cons_zero, List.set_cons_succ, i64_w, i32_w]
                                rfl
                              refine pure_ (i := 5) (N := some 35) (v := ?_) (a' := ?_) #[true, true, true, false, true, true, false, false, false, false, false, false, false, false, false] rfl rfl (by kernel_rfl) (fun _ _ _ h => h) (Or.inl ⟨by rfl, ?_⟩) ?_ ?_
                              rotate_left
                              · intro w'
                                go_simp
                                with_reducible rfl
                              rotate_left
                              · simp only [Act.put, List.setIfInBounds_toArray, List.set_cons_zero, List.set_cons_succ, i64_w, i32_w]
                                rfl
                              refine pure_ (i := 6) (N := some 36) (v := ?_) (a' := ?_) #[true, true, true, false, true, true, true, false, false, false, false, false, false, false, false] rfl rfl (by kernel_rfl) (fun _ _ _ h => h) (Or.inl ⟨by rfl, ?_⟩) ?_ ?_
                              rotate_left
                              · intro w'
                                go_simp
                                with_reducible rfl
                              rotate_left
                              · simp only [Act.put, List.setIfInBounds_toArray, List.set_cons_zero, List.set_cons_succ, i64_w, i32_w]
                                rfl
                              refine take_ (i := 7) (N := some 37) (v := ?_) (a' := ?_) #[true, true, true, false, true, true, true, true, false, false, false, false, false, false, false] rfl rfl (by kernel_rfl) (fun _ _ _ h => h) (Or.inl ⟨by rfl, ?_⟩) hHeld ?_ ?_
                              rotate_left
                              · intro w' hs0
                                go_simp
                                with_reducible rfl
                              rotate_left
                              · simp only [Act.put, List.setIfInBounds_toArray, List.set_cons_zero, List.set_cons_succ, i64_w, i32_w]
                                rfl
                              refine pure_ (i := 10) (N := some 40) (v := ?_) (a' := ?_) #[true, true, true, false, true, true, true, true, false, false, true, false, false, false, false] rfl rfl (by kernel_rfl) (fun _ _ _ h => h) (Or.inl ⟨by rfl, ?_⟩) ?_ ?_
                              rotate_left
                              · intro w'
                                go_simp
                                with_reducible rfl
                              rotate_left
                              · simp only [Act.put, List.setIfInBounds_toArray, List.set_cons_zero, List.set_cons_succ, i64_w, i32_w]
                                rfl
                              refine pure_ (i := 11) (N := some 41) (v := ?_) (a' := ?_) #[true, true, true, false, true, true, true, true, false, false, true, true, false, false, false] rfl rfl (by kernel_rfl) (fun _ _ _ h => h) (Or.inl ⟨by rfl, ?_⟩) ?_ ?_
                              rotate_left
                              · intro w'
                                go_simp
                                with_reducible rfl
                              rotate_left
                              · simp only [Act.put, List.setIfInBounds_toArray, List.set_cons_zero, List.set_cons_succ, i64_w, i32_w]
                                rfl
                              refine pure_ (i := 12) (N := some 42) (v := ?_) (a' := ?_) #[true, true, true, false, true, true, true, true, false, false, true, true, true, false, false] rfl rfl (by kernel_rfl) (fun _ _ _ h => h) (Or.inl ⟨by rfl, ?_⟩) ?_ ?_
                              rotate_left
                              · intro w'
                                go_simp
                                with_reducible rfl
                              rotate_left
                              · simp only [Act.put, List.setIfInBounds_toArray, List.set_cons_zero, List.set_cons_succ, i64_w, i32_w]
                                rfl
                              refine join_ (σ := Value × Nat) 3 #[true, true, true, true, true, true, true, true, true, false, true, true, true, false, false] (fun s => [(33, s.1), (38, .slice (some ⟨s.2, 0, none⟩) 1 1)]) (fun s w' => Kd.R Kd.string 9 w' w.heap.size (fun _ => True) s.1 (x3_1.take x5_2.toNat) ∧ w'.cell? ⟨s.2, 0, none⟩ = some (.string (rdOf ByteArray.empty l0 x4_1)) ∧ Below wd.heap.size wd w' ∧ (∀ k, s.1.ownBlock = some k → wd.heap.size ≤ k)) ?contHO119 ?ordersHO119
                              case ordersHO119 =>
                                intro J
                                refine two_ (i := 3) (j := 8) (Ni := some 33) (Nj := some 38) #[true, true, true, true, true, true, true, true, false, false, true, true, true, false, false] #[true, true, true, false, true, true, true, true, true, false, true, true, true, false, false] rfl rfl rfl rfl (by kernel_rfl) (by decide) (by decide) (fun K hK => ?_) (fun K hK => ?_)
                                · refine Kd.R_append_rows_step Kd.string (Rr := fun z cs => cs = [.string z]) (w0 := w) w.heap.size (by rfl) (.const (.slice none 0 0)) (.tmp 32) 22 9 (.string ⟨#[]⟩) 16 rfl Tryd.underlying22 info9 rfl (by decide) (by decide) (.slice none 0 0) [] (x3_1.take x5_2.toNat) (some ad114) x5_2.toNat co3 (fun _ => True) (fun _ => False) (by rfl) (by rfl) (Kd.R_nil _ _ _ _ _) CT.out (fun _ _ h => h) (fun _ h => h.elim) (fun _ _ => trivial) HBd.out (HBd.out).size (by have := LX.out; have := HLM.out; simp only [List.length_nil]; omega) ?_
                                  intro v1 w1 ho hb hg hat
                                  have hs_ : Below wd.heap.size wd w1 := (Below.refl wd.heap.size wd).grown hg (Nat.le_refl _) (fun k hk => by cases hk)
                                  refine hK.out _ _ (((hs_).cell (World.block_lt_of_cell? wd _ HX.out)).trans HX.out) (fun _ => ?_)
                                  clear hK K
                                  refine norm_ (a' := ?_) ?_ ?_
                                  rotate_left
                                  · show Act.put _ (some 33) _ = _
                                    simp only [Act.put, List.setIfInBounds_toArray, List.set_cons_zero, List.set_cons_succ, i64_w, i32_w]
                                    rfl
                                  refine one_ (i := 8) (N := some 38) #[true, true, true, true, true, true, true, true, true, false, true, true, true, false, false] rfl rfl (by kernel_rfl) (by decide) (fun K hK => ?_)
                                  refine value_ (w1 := ?_) (v := ?_) (by rfl) rfl ?_ ?_
                                  rotate_left 2
                                  · go_simp
                                    constructor
                                    · rfl
                                    · rfl
                                  refine hK.out _ _ (((below_alloc hs_ _).cell (World.block_lt_of_cell? wd _ HX.out)).trans HX.out) (fun _ => ?_)
                                  clear hK K
                                  have ha_ : ∀ k, v1.ownBlock = some k → wd.heap.size ≤ k := fun k hk => by
                                    rcases hat with h | ⟨b, h, hl⟩
                                    · rw [hk] at h; cases h
                                    · rw [hk] at h; injection h with h; omega
                                  exact J (v1, w1.heap.size) _ ⟨Kd.R_alloc ho _, (blk_cell (blk_new w1 _) 0).trans rfl, below_alloc hs_ _, ha_⟩
                                · refine value_ (w1 := ?_) (v := ?_) (by rfl) rfl ?_ ?_
                                  rotate_left 2
                                  · go_simp
                                    constructor
                                    · rfl
                                    · rfl
                                  refine hK.out _ _ (((below_alloc (Below.refl wd.heap.size wd) _).cell (World.block_lt_of_cell? wd _ HX.out)).trans HX.out) (fun _ => ?_)
                                  clear hK K
                                  refine norm_ (a' := ?_) ?_ ?_
                                  rotate_left
                                  · show Act.put _ (some 38) _ = _
                                    simp only [Act.put, List.setIfInBounds_toArray, List.set_cons_zero, List.set_cons_succ, i64_w, i32_w]
                                    rfl
                                  refine one_ (i := 3) (N := some 33) #[true, true, true, true, true, true, true, true, true, false, true, true, true, false, false] rfl rfl (by kernel_rfl) (by decide) (fun K hK => ?_)
                                  refine Kd.R_append_rows_step Kd.string (Rr := fun z cs => cs = [.string z]) (w0 := w) w.heap.size (by rfl) (.const (.slice none 0 0)) (.tmp 32) 22 9 (.string ⟨#[]⟩) 16 rfl Tryd.underlying22 info9 rfl (by decide) (by decide) (.slice none 0 0) [] (x3_1.take x5_2.toNat) (some ad114) x5_2.toNat co3 (fun _ => True) (fun _ => False) (by rfl) (by rfl) (Kd.R_nil _ _ _ _ _) (Kd.C_alloc CT.out _) (fun _ _ h => h) (fun _ h => h.elim) (fun _ _ => trivial) (below_alloc HBd.out _) ((below_alloc HBd.out _)).size (by have := LX.out; have := HLM.out; simp only [List.length_nil]; omega) ?_
                                  intro v1 w1 ho hb hg hat
                                  have hs_ : Below wd.heap.size wd w1 := (below_alloc (Below.refl wd.heap.size wd) _).grown hg (by simp) (fun k hk => by cases hk)
                                  refine hK.out _ _ (((hs_).cell (World.block_lt_of_cell? wd _ HX.out)).trans HX.out) (fun _ => ?_)
                                  clear hK K
                                  have ha_ : ∀ k, v1.ownBlock = some k → wd.heap.size ≤ k := fun k hk => by
                                    rcases hat with h | ⟨b, h, hl⟩
                                    · rw [hk] at h; cases h
                                    · rw [hk] at h; injection h with h; rw [World.size_alloc] at hl; omega
                                  exact J (v1, wd.heap.size) _ ⟨ho, (blk_cell (blk_grown (blk_new wd _) hg (by simp [Value.ownBlock])) 0).trans rfl, hs_, ha_⟩
                              rintro ⟨u33, b38⟩ w5 ⟨ho5, hc38, hs5, ha5⟩
                              simp only [putAll]
                              refine norm_ (a' := ?_) ?_ ?_
                              rotate_left
                              · simp only [Act.put, List.setIfInBounds_toArray, List.set_cons_zero, List.set_cons_succ, i64_w, i32_w]
                                rfl
                              refine one_ (i := 9) (N := some 39) #[true, true, true, true, true, true, true, true, true, true, true, true, true, false, false] rfl rfl (by kernel_rfl) (by decide) (fun K hK => ?_)
                              refine Kd.R_append_rows_step Kd.string (Rr := fun z cs => cs = [.string z]) (w0 := w) w.heap.size (by rfl) (.tmp 33) (.tmp 38) 22 9 (.string ⟨#[]⟩) 16 rfl Tryd.underlying22 info9 rfl (by decide) (by decide) u33 (x3_1.take x5_2.toNat) [(rdOf ByteArray.empty l0 x4_1)] (some ⟨b38, 0, none⟩) 1 1 (fun _ => True) (fun _ => False) (by rfl) (by rfl) ho5 (row_oneS hc38) (fun _ _ h => h) (fun _ h => h.elim) (fun _ _ => trivial) (below_then HBd.out HBd.out.size hs5) (below_then HBd.out HBd.out.size hs5).size (by have := LX.out; have := HLT.out; have := HLM.out; omega) ?_
                              intro v6 w6 ho6 hb6 hg6 hat6
                              have hs6 : Below wd.heap.size wd w6 := hs5.grown hg6 hs5.size (fun k hk => ha5 k hk)
                              refine hK.out _ _ (((hs6).cell (World.block_lt_of_cell? wd _ HX.out)).trans HX.out) (fun _ => ?_)
                              clear hK K
                              refine norm_ (a' := ?_) ?_ ?_
                              rotate_left
                              · show Act.put _ (some 39) _ = _
                                simp only [Act.put, List.setIfInBounds_toArray, List.set_cons_zero, List.set_cons_succ, i64_w, i32_w]
                                rfl
                              refine one_ (i := 13) (N := some 43) #[true, true, true, true, true, true, true, true, true, true, true, true, true, true, false] rfl rfl (by kernel_rfl) (by decide) (fun K hK => ?_)
                              refine Kd.R_append_rows_step Kd.string (Rr := fun z cs => cs = [.string z]) (w0 := w) w.heap.size (by rfl) (.tmp 39) (.tmp 42) 22 9 (.string ⟨#[]⟩) 16 rfl Tryd.underlying22 info9 rfl (by decide) (by decide) v6 (x3_1.take x5_2.toNat ++ [(rdOf ByteArray.empty l0 x4_1)]) (x3_1.drop x5_2.toNat) AD m2 cc2 (fun _ => True) (fun _ => False) (by rfl) (by rfl) ho6 (Kd.C_below CD.out hs6) (fun _ _ h => h) (fun _ h => h.elim) (fun _ _ => trivial) hb6 hb6.size (by have := LX.out; have := HLT.out; have := HLM.out; simp only [List.length_append, List.length_cons, List.length_nil]; omega) ?_
                              intro v7 w7 ho7 hb7 hg7 hat7
                              have hs7 : Below wd.heap.size wd w7 := hs6.grown hg7 hs6.size (fun k hk => by
                                rcases hat6 with h | ⟨b, h, hl⟩
                                · exact ha5 k (by rw [← h]; exact hk)
                                · rw [hk] at h; injection h with h; have := hs5.size; omega)
                              refine hK.out _ _ (((hs7).cell (World.block_lt_of_cell? wd _ HX.out)).trans HX.out) (fun _ => ?_)
                              clear hK K
                              refine norm_ (a' := ?_) ?_ ?_
                              rotate_left
                              · show Act.put _ (some 43) _ = _
                                simp only [Act.put, List.setIfInBounds_toArray, List.set_cons_zero, List.set_cons_succ, i64_w, i32_w]
                                rfl
                              refine pure_ (i := 14) (N := some 3) (v := ?_) (a' := ?_) #[true, true, true, true, true, true, true, true, true, true, true, true, true, true, true] rfl rfl (by kernel_rfl) (fun _ _ _ h => h) (Or.inl ⟨by rfl, ?_⟩) ?_ ?_
                              rotate_left
                              · intro w'
                                go_simp
                                with_reducible rfl
                              rotate_left
                              · simp only [Act.put, List.setIfInBounds_toArray, List.set_cons_zero, List.set_cons_succ, i64_w, i32_w]
                                rfl
                              refine done_ (by kernel_rfl) ?_
                              have HO119 : Aside0 (Kd.R Kd.string 9 w7 w.heap.size (fun _ => True) v7 y117) := ⟨by rw [Ny117.out]; unfold insL; rw [List.append_cons]; exact ho7⟩
                              clear HB HO_3 HBq HBd
                              have HB := Aside0.mk hb7
                              clear ho7 hb7 hs7 hs6 hs5 ho6 hb6 ho5 hc38 cutT cutF HX
                              try go_wp2
                              go_roundg k2
                              case measure => have := HK1.out; have := HK2.out; omega
                              case rel => exact ⟨(y117), (wrap64 (x4_1 + 1)), (by first | rfl | (simp; done) | (simp [*]; done)), H', ⟨by have := HK1.out; have := HK2.out; omega⟩, ⟨by (with_reducible repeat (first | apply Kd.R_alloc | apply Kd.R_drewN | apply Kd.R_drew)); exact HO119.out⟩, ⟨by repeat (first | (with_reducible first | exact HB.out | apply below_alloc | apply pw_below_drewN | apply below_drew1) | exact HB.out)⟩⟩
                            · rw [if_neg c12] at H
                              exact absurd H (by simp)
                          · rw [if_neg hlec] at H
                            exact absurd H (by simp)
                        · rw [if_neg h0c] at H
                          exact absurd H (by simp)
                    · rw [if_neg c9] at H
                      exact absurd H (by simp)
                  · rw [if_neg c8] at H
                    exact absurd H (by simp)
                · rw [if_neg c6] at H
                  exact absurd H (by simp)
              · rw [if_neg c5] at H
                exact absurd H (by simp)
            · rw [if_neg c4] at H
              have c4b0 : decide (0 < x5_2) = false := decide_eq_false c4
              clear c4
              by_cases c14 : 0 ≤ x4_1
              · rw [if_pos c14] at H
                have c14b0 : decide (0 ≤ x4_1) = true := decide_eq_true c14
                clear c14
                by_cases c15 : x4_1 < (l0.length : Int)
                · rw [if_pos c15] at H
                  have c15b0 : decide (x4_1 < (l0.length : Int)) = true := decide_eq_true c15
                  clear c15
                  by_cases h0c : 0 ≤ x5_2
                  · rw [if_pos h0c] at H
                    have h0b : decide (0 ≤ x5_2) = true := decide_eq_true h0c
                    clear h0c
                    by_cases hlec : x5_2 ≤ (x3_1.length : Int)
                    · rw [if_pos hlec] at H
                      have hleb : decide (x5_2 ≤ (x3_1.length : Int)) = true := decide_eq_true hlec
                      clear hlec
                      by_cases c16 : x3_1.length < 8796093022208
                      · rw [if_pos c16] at H
                        have LMc16 := Aside0.mk c16
                        clear c16
                        obtain ⟨y121, hy121⟩ : ∃ y_ : List ByteArray, y_ = (insL x3_1 x5_2.toNat (rdOf ByteArray.empty l0 x4_1)) := ⟨_, rfl⟩
                        replace H : (RSorted.l0 k2 l0 y121 (wrap64 (x4_1 + 1))) = some r := by first | (rw [hy121]; with_reducible exact H) | (have H2_ := (Option.bind_some _ _).symm.trans H; rw [hy121]; with_reducible exact H2_) | (have H2_ := (Option.bind_some _ _).symm.trans H; with_reducible exact H2_) | with_reducible exact H | (rw [hy121]; exact H) | exact H
                        have Ny121 := Aside0.mk hy121
                        clear hy121
                        have H' := Aside0.mk H
                        clear H
                        have p120 : 0 ≤ (x4_1 : Int) := of_decide_eq_true (by first | (with_reducible assumption) | assumption)
                        have q120 : x4_1 < (l0.length : Int) := of_decide_eq_true (by first | (with_reducible assumption) | assumption)
                        obtain ⟨ad120, e120, hx120_0⟩ := Kd.at_string HR0.out x4_1 p120 q120
                        cases e120
                        replace hx120_0 := (HB.out.cell (World.block_lt_of_cell? w _ hx120_0)).trans hx120_0
                        replace p120 := eq_true p120
                        replace q120 := eq_true q120
                        have hcap3 : x3_1.length ≤ co3 := (Kd.R_reads' HO_3.out).2.1
                        obtain ⟨i0, hi0, _, hsz0, _⟩ := info_parts info9
                        have hm0 : 0 ≤ x5_2 := of_decide_eq_true h0b
                        have hmle : x5_2 ≤ (x3_1.length : Int) := of_decide_eq_true hleb
                        have cutT := cut_to (P := Tryd.prog) 22 9 .i64 Tryd.underlying22 hi0 Ao3 x3_1.length co3 x5_2 hm0 hmle hcap3
                        have cutF := cut_from (P := Tryd.prog) 22 9 .i64 Tryd.underlying22 hi0 1 hsz0 Ao3 x3_1.length co3 x5_2 hm0 hmle
                        have hlt_ : (x3_1.take x5_2.toNat).length = x5_2.toNat := by rw [List.length_take]; omega
                        have hld_ : (x3_1.drop x5_2.toNat).length = x3_1.length - x5_2.toNat := List.length_drop
                        obtain ⟨AD, hAD⟩ : ∃ AD, (if co3 = x5_2.toNat then Ao3 else Option.map (fun z => z.add (x5_2.toNat * 1)) Ao3) = AD := ⟨_, rfl⟩
                        obtain ⟨m2, hm2⟩ : ∃ m2, x3_1.length - x5_2.toNat = m2 := ⟨_, rfl⟩
                        obtain ⟨cc2, hcc2⟩ : ∃ cc2, co3 - x5_2.toNat = cc2 := ⟨_, rfl⟩
                        rw [hAD, hm2, hcc2] at cutF
                        rw [hm2] at hld_
                        have CT : Aside0 (Kd.C Kd.string wr Ao3 x5_2.toNat (x3_1.take x5_2.toNat)) := ⟨by have h := Kd.C_take (m := x5_2.toNat) (Kd.R_reads' HO_3.out).2.2 (by omega); rw [hlt_] at h; exact h⟩
                        have CD : Aside0 (Kd.C Kd.string wr AD m2 (x3_1.drop x5_2.toNat)) := ⟨by have h := Kd.C_drop (m := x5_2.toNat) (Kd.R_reads' HO_3.out).2.2 (by omega) hcap3; rw [hld_, show Kd.string.sz = 1 from rfl, hAD] at h; exact h⟩
                        have HLT := Aside0.mk hlt_
                        have HLM := Aside0.mk (show x5_2.toNat + m2 ≤ x3_1.length from by omega)
                        have HX := Aside0.mk (show wr.cell? (ad120.add x4_1.toNat) = some (.string (rdOf ByteArray.empty l0 x4_1)) from hx120_0)
                        clear hAD hm2 hcc2 hlt_ hld_ hm0 hmle
                        have LX := Aside0.mk LMc16.out
                        go_wp2_with fail
                        go_quiet (fail)
                        go_wp2_with fail
                        obtain ⟨wq, hwq⟩ : ∃ wq, wr.drewN nq = wq := ⟨_, rfl⟩
                        have HBq := Aside0.mk (show Below w.heap.size w wq from by rw [← hwq]; repeat (first | exact HB.out | apply pw_below_drewN | apply below_drew1))
                        have hbq : Below wr.heap.size wr wq := by rw [← hwq]; repeat (first | exact Below.refl _ _ | apply pw_below_drewN | apply below_drew1)
                        replace CT := Aside0.mk (Kd.C_below CT.out hbq)
                        replace CD := Aside0.mk (Kd.C_below CD.out hbq)
                        replace HX := Aside0.mk ((hbq.cell (World.block_lt_of_cell? wr _ HX.out)).trans HX.out)
                        rw [hwq]
                        clear hwq hbq
                        refine start_ (n := 15) (S := fun w' => w'.cell? (ad120.add x4_1.toNat) = some (.string (rdOf ByteArray.empty l0 x4_1))) (ds := []) #[false, false, false, false, false, false, false, false, false, false, false, false, false, false, false] (by kernel_rfl) rfl rfl HX.out (fun hHeld => ?_)
                        have HBd := Aside0.mk (below_drew HBq.out)
                        replace CT := Aside0.mk (Kd.C_below CT.out (below_drew (Below.refl _ _)))
                        replace CD := Aside0.mk (Kd.C_below CD.out (below_drew (Below.refl _ _)))
                        replace HX : Aside0 (wq.drew.cell? (ad120.add x4_1.toNat) = some (.string (rdOf ByteArray.empty l0 x4_1))) := ⟨HX.out⟩
                        generalize wq.drew = wd at HBd CT CD HX hHeld ⊢
                        refine pure_ (i := 0) (N := some 30) (v := ?_) (a' := ?_) #[true, false, false, false, false, false, false, false, false, false, false, false, false, false, false] rfl rfl (by kernel_rfl) (fun _ _ _ h => h) (Or.inl ⟨by rfl, ?_⟩) ?_ ?_
                        rotate_left
                        · intro w'
                          go_simp
                          with_reducible rfl
                        rotate_left
                        · simp only [Act.put, List.setIfInBounds_toArray, List.set_cons_zero, List.set_cons_succ, i64_w, i32_w]
                          rfl
                        refine pure_ (i := 1) (N := some 31) (v := ?_) (a' := ?_) #[true, true, false, false, false, false, false, false, false, false, false, false, false, false, false] rfl rfl (by kernel_rfl) (fun _ _ _ h => h) (Or.inl ⟨by rfl, ?_⟩) ?_ ?_
                        rotate_left
                        · intro w'
                          go_simp
                          with_reducible rfl
                        rotate_left
                        · simp only [Act.put, List.setIfInBounds_toArray, List.set_cons_zero, List.set_cons_succ, i64_w, i32_w]
                          rfl
                        refine pure_ (i := 2) (N := some 32) (v := ?_) (a' := ?_) #[true, true, true, false, false, false, false, false, false, false, false, false, false, false, false] rfl rfl (by kernel_rfl) (fun _ _ _ h => h) (Or.inl ⟨by rfl, ?_⟩) ?_ ?_
                        rotate_left
                        · intro w'
                          go_simp
                          with_reducible rfl
                        rotate_left
                        · simp only [Act.put, List.setIfInBounds_toArray, List.set_cons_zero, List.set_cons_succ, i64_w, i32_w]
                          rfl
                        refine pure_ (i := 4) (N := some 34) (v := ?_) (a' := ?_) #[true, true, true, false, true, false, false, false, false, false, false, false, false, false, false] rfl rfl (by kernel_rfl) (fun _ _ _ h => h) (Or.inl ⟨by rfl, ?_⟩) ?_ ?_
                        rotate_left
                        · intro w'
                          go_simp
                          with_reducible rfl
                        rotate_left
                        · simp only [Act.put, List.setIfInBounds_toArray, List.set_cons_zero, List.set_cons_succ, i64_w, i32_w]
                          rfl
                        refine pure_ (i := 5) (N := some 35) (v := ?_) (a' := ?_) #[true, true, true, false, true, true, false, false, false, false, false, false, false, false, false] rfl rfl (by kernel_rfl) (fun _ _ _ h => h) (Or.inl ⟨by rfl, ?_⟩) ?_ ?_
                        rotate_left
                        · intro w'
                          go_simp
                          with_reducible rfl
                        rotate_left
                        · simp only [Act.put, List.setIfInBounds_toArray, List.set_cons_zero, List.set_cons_succ, i64_w, i32_w]
                          rfl
                        refine pure_ (i := 6) (N := some 36) (v := ?_) (a' := ?_) #[true, true, true, false, true, true, true, false, false, false, false, false, false, false, false] rfl rfl (by kernel_rfl) (fun _ _ _ h => h) (Or.inl ⟨by rfl, ?_⟩) ?_ ?_
                        rotate_left
                        · intro w'
                          go_simp
                          with_reducible rfl
                        rotate_left
                        · simp only [Act.put, List.setIfInBounds_toArray, List.set_cons_zero, List.set_cons_succ, i64_w, i32_w]
                          rfl
                        refine take_ (i := 7) (N := some 37) (v := ?_) (a' := ?_) #[true, true, true, false, true, true, true, true, false, false, false, false, false, false, false] rfl rfl (by kernel_rfl) (fun _ _ _ h => h) (Or.inl ⟨by rfl, ?_⟩) hHeld ?_ ?_
                        rotate_left
                        · intro w' hs0
                          go_simp
                          with_reducible rfl
                        rotate_left
                        · simp only [Act.put, List.setIfInBounds_toArray, List.set_cons_zero, List.set_cons_succ, i64_w, i32_w]
                          rfl
                        refine pure_ (i := 10) (N := some 40) (v := ?_) (a' := ?_) #[true, true, true, false, true, true, true, true, false, false, true, false, false, false, false] rfl rfl (by kernel_rfl) (fun _ _ _ h => h) (Or.inl ⟨by rfl, ?_⟩) ?_ ?_
                        rotate_left
                        · intro w'
                          go_simp
                          with_reducible rfl
                        rotate_left
                        · simp only [Act.put, List.setIfInBounds_toArray, List.set_cons_zero, List.set_cons_succ, i64_w, i32_w]
                          rfl
                        refine pure_ (i := 11) (N := some 41) (v := ?_) (a' := ?_) #[true, true, true, false, true, true, true, true, false, false, true, true, false, false, false] rfl rfl (by kernel_rfl) (fun _ _ _ h => h) (Or.inl ⟨by rfl, ?_⟩) ?_ ?_
                        rotate_left
                        · intro w'
                          go_simp
                          with_reducible rfl
                        rotate_left
                        · simp only [Act.put, List.setIfInBounds_toArray, List.set_cons_zero, List.set_cons_succ, i64_w, i32_w]
                          rfl
                        refine pure_ (i := 12) (N := some 42) (v := ?_) (a' := ?_) #[true, true, true, false, true, true, true, true, false, false, true, true, true, false, false] rfl rfl (by kernel_rfl) (fun _ _ _ h => h) (Or.inl ⟨by rfl, ?_⟩) ?_ ?_
                        rotate_left
                        · intro w'
                          go_simp
                          with_reducible rfl
                        rotate_left
                        · simp only [Act.put, List.setIfInBounds_toArray, List.set_cons_zero, List.set_cons_succ, i64_w, i32_w]
                          rfl
                        refine join_ (σ := Value × Nat) 3 #[true, true, true, true, true, true, true, true, true, false, true, true, true, false, false] (fun s => [(33, s.1), (38, .slice (some ⟨s.2, 0, none⟩) 1 1)]) (fun s w' => Kd.R Kd.string 9 w' w.heap.size (fun _ => True) s.1 (x3_1.take x5_2.toNat) ∧ w'.cell? ⟨s.2, 0, none⟩ = some (.string (rdOf ByteArray.empty l0 x4_1)) ∧ Below wd.heap.size wd w' ∧ (∀ k, s.1.ownBlock = some k → wd.heap.size ≤ k)) ?contHO123 ?ordersHO123
                        case ordersHO123 =>
                          intro J
                          refine two_ (i := 3) (j := 8) (Ni := some 33) (Nj := some 38) #[true, true, true, true, true, true, true, true, false, false, true, true, true, false, false] #[true, true, true, false, true, true, true, true, true, false, true, true, true, false, false] rfl rfl rfl rfl (by kernel_rfl) (by decide) (by decide) (fun K hK => ?_) (fun K hK => ?_)
                          · refine Kd.R_append_rows_step Kd.string (Rr := fun z cs => cs = [.string z]) (w0 := w) w.heap.size (by rfl) (.const (.slice none 0 0)) (.tmp 32) 22 9 (.string ⟨#[]⟩) 16 rfl Tryd.underlying22 info9 rfl (by decide) (by decide) (.slice none 0 0) [] (x3_1.take x5_2.toNat) Ao3 x5_2.toNat co3 (fun _ => True) (fun _ => False) (by rfl) (by rfl) (Kd.R_nil _ _ _ _ _) CT.out (fun _ _ h => h) (fun _ h => h.elim) (fun _ _ => trivial) HBd.out (HBd.out).size (by have := LX.out; have := HLM.out; simp only [List.length_nil]; omega) ?_
                            intro v1 w1 ho hb hg hat
                            have hs_ : Below wd.heap.size wd w1 := (Below.refl wd.heap.size wd).grown hg (Nat.le_refl _) (fun k hk => by cases hk)
                            refine hK.out _ _ (((hs_).cell (World.block_lt_of_cell? wd _ HX.out)).trans HX.out) (fun _ => ?_)
                            clear hK K
                            refine norm_ (a' := ?_) ?_ ?_
                            rotate_left
                            · show Act.put _ (some 33) _ = _
                              simp only [Act.put, List.setIfInBounds_toArray, List.set_cons_zero, List.set_cons_succ, i64_w, i32_w]
                              rfl
                            refine one_ (i := 8) (N := some 38) #[true, true, true, true, true, true, true, true, true, false, true, true, true, false, false] rfl rfl (by kernel_rfl) (by decide) (fun K hK => ?_)
                            refine value_ (w1 := ?_) (v := ?_) (by rfl) rfl ?_ ?_
                            rotate_left 2
                            · go_simp
                              constructor
                              · rfl
                              · rfl
                            refine hK.out _ _ (((below_alloc hs_ _).cell (World.block_lt_of_cell? wd _ HX.out)).trans HX.out) (fun _ => ?_)
                            clear hK K
                            have ha_ : ∀ k, v1.ownBlock = some k → wd.heap.size ≤ k := fun k hk => by
                              rcases hat with h | ⟨b, h, hl⟩
                              · rw [hk] at h; cases h
                              · rw [hk] at h; injection h with h; omega
                            exact J (v1, w1.heap.size) _ ⟨Kd.R_alloc ho _, (blk_cell (blk_new w1 _) 0).trans rfl, below_alloc hs_ _, ha_⟩
                          · refine value_ (w1 := ?_) (v := ?_) (by rfl) rfl ?_ ?_
                            rotate_left 2
                            · go_simp
                              constructor
                              · rfl
                              · rfl
                            refine hK.out _ _ (((below_alloc (Below.refl wd.heap.size wd) _).cell (World.block_lt_of_cell? wd _ HX.out)).trans HX.out) (fun _ => ?_)
                            clear hK K
                            refine norm_ (a' := ?_) ?_ ?_
                            rotate_left
                            · show Act.put _ (some 38) _ = _
                              simp only [Act.put, List.setIfInBounds_toArray, List.set_cons_zero, List.set_cons_succ, i64_w, i32_w]
                              rfl
                            refine one_ (i := 3) (N := some 33) #[true, true, true, true, true, true, true, true, true, false, true, true, true, false, false] rfl rfl (by kernel_rfl) (by decide) (fun K hK => ?_)
                            refine Kd.R_append_rows_step Kd.string (Rr := fun z cs => cs = [.string z]) (w0 := w) w.heap.size (by rfl) (.const (.slice none 0 0)) (.tmp 32) 22 9 (.string ⟨#[]⟩) 16 rfl Tryd.underlying22 info9 rfl (by decide) (by decide) (.slice none 0 0) [] (x3_1.take x5_2.toNat) Ao3 x5_2.toNat co3 (fun _ => True) (fun _ => False) (by rfl) (by rfl) (Kd.R_nil _ _ _ _ _) (Kd.C_alloc CT.out _) (fun _ _ h => h) (fun _ h => h.elim) (fun _ _ => trivial) (below_alloc HBd.out _) ((below_alloc HBd.out _)).size (by have := LX.out; have := HLM.out; simp only [List.length_nil]; omega) ?_
                            intro v1 w1 ho hb hg hat
                            have hs_ : Below wd.heap.size wd w1 := (below_alloc (Below.refl wd.heap.size wd) _).grown hg (by simp) (fun k hk => by cases hk)
                            refine hK.out _ _ (((hs_).cell (World.block_lt_of_cell? wd _ HX.out)).trans HX.out) (fun _ => ?_)
                            clear hK K
                            have ha_ : ∀ k, v1.ownBlock = some k → wd.heap.size ≤ k := fun k hk => by
                              rcases hat with h | ⟨b, h, hl⟩
                              · rw [hk] at h; cases h
                              · rw [hk] at h; injection h with h; rw [World.size_alloc] at hl; omega
                            exact J (v1, wd.heap.size) _ ⟨ho, (blk_cell (blk_grown (blk_new wd _) hg (by simp [Value.ownBlock])) 0).trans rfl, hs_, ha_⟩
                        rintro ⟨u33, b38⟩ w5 ⟨ho5, hc38, hs5, ha5⟩
                        simp only [putAll]
                        refine norm_ (a' := ?_) ?_ ?_
                        rotate_left
                        · simp only [Act.put, List.setIfInBounds_toArray, List.set_cons_zero, List.set_cons_succ, i64_w, i32_w]
                          rfl
                        refine one_ (i := 9) (N := some 39) #[true, true, true, true, true, true, true, true, true, true, true, true, true, false, false] rfl rfl (by kernel_rfl) (by decide) (fun K hK => ?_)
                        refine Kd.R_append_rows_step Kd.string (Rr := fun z cs => cs = [.string z]) (w0 := w) w.heap.size (by rfl) (.tmp 33) (.tmp 38) 22 9 (.string ⟨#[]⟩) 16 rfl Tryd.underlying22 info9 rfl (by decide) (by decide) u33 (x3_1.take x5_2.toNat) [(rdOf ByteArray.empty l0 x4_1)] (some ⟨b38, 0, none⟩) 1 1 (fun _ => True) (fun _ => False) (by rfl) (by rfl) ho5 (row_oneS hc38) (fun _ _ h => h) (fun _ h => h.elim) (fun _ _ => trivial) (below_then HBd.out HBd.out.size hs5) (below_then HBd.out HBd.out.size hs5).size (by have := LX.out; have := HLT.out; have := HLM.out; omega) ?_
                        intro v6 w6 ho6 hb6 hg6 hat6
                        have hs6 : Below wd.heap.size wd w6 := hs5.grown hg6 hs5.size (fun k hk => ha5 k hk)
                        refine hK.out _ _ (((hs6).cell (World.block_lt_of_cell? wd _ HX.out)).trans HX.out) (fun _ => ?_)
                        clear hK K
                        refine norm_ (a' := ?_) ?_ ?_
                        rotate_left
                        · show Act.put _ (some 39) _ = _
                          simp only [Act.put, List.setIfInBounds_toArray, List.set_cons_zero, List.set_cons_succ, i64_w, i32_w]
                          rfl
                        refine one_ (i := 13) (N := some 43) #[true, true, true, true, true, true, true, true, true, true, true, true, true, true, false] rfl rfl (by kernel_rfl) (by decide) (fun K hK => ?_)
                        refine Kd.R_append_rows_step Kd.string (Rr := fun z cs => cs = [.string z]) (w0 := w) w.heap.size (by rfl) (.tmp 39) (.tmp 42) 22 9 (.string ⟨#[]⟩) 16 rfl Tryd.underlying22 info9 rfl (by decide) (by decide) v6 (x3_1.take x5_2.toNat ++ [(rdOf ByteArray.empty l0 x4_1)]) (x3_1.drop x5_2.toNat) AD m2 cc2 (fun _ => True) (fun _ => False) (by rfl) (by rfl) ho6 (Kd.C_below CD.out hs6) (fun _ _ h => h) (fun _ h => h.elim) (fun _ _ => trivial) hb6 hb6.size (by have := LX.out; have := HLT.out; have := HLM.out; simp only [List.length_append, List.length_cons, List.length_nil]; omega) ?_
                        intro v7 w7 ho7 hb7 hg7 hat7
                        have hs7 : Below wd.heap.size wd w7 := hs6.grown hg7 hs6.size (fun k hk => by
                          rcases hat6 with h | ⟨b, h, hl⟩
                          · exact ha5 k (by rw [← h]; exact hk)
                          · rw [hk] at h; injection h with h; have := hs5.size; omega)
                        refine hK.out _ _ (((hs7).cell (World.block_lt_of_cell? wd _ HX.out)).trans HX.out) (fun _ => ?_)
                        clear hK K
                        refine norm_ (a' := ?_) ?_ ?_
                        rotate_left
                        · show Act.put _ (some 43) _ = _
                          simp only [Act.put, List.setIfInBounds_toArray, List.set_cons_zero, List.set_cons_succ, i64_w, i32_w]
                          rfl
                        refine pure_ (i := 14) (N := some 3) (v := ?_) (a' := ?_) #[true, true, true, true, true, true, true, true, true, true, true, true, true, true, true] rfl rfl (by kernel_rfl) (fun _ _ _ h => h) (Or.inl ⟨by rfl, ?_⟩) ?_ ?_
                        rotate_left
                        · intro w'
                          go_simp
                          with_reducible rfl
                        rotate_left
                        · simp only [Act.put, List.setIfInBounds_toArray, List.set_cons_zero, List.set_cons_succ, i64_w, i32_w]
                          rfl
                        refine done_ (by kernel_rfl) ?_
                        have HO123 : Aside0 (Kd.R Kd.string 9 w7 w.heap.size (fun _ => True) v7 y121) := ⟨by rw [Ny121.out]; unfold insL; rw [List.append_cons]; exact ho7⟩
                        clear HB HO_3 HBq HBd
                        have HB := Aside0.mk hb7
                        clear ho7 hb7 hs7 hs6 hs5 ho6 hb6 ho5 hc38 cutT cutF HX
                        try go_wp2
                        go_roundg k2
                        case measure => have := HK1.out; have := HK2.out; omega
                        case rel => exact ⟨(y121), (wrap64 (x4_1 + 1)), (by first | rfl | (simp; done) | (simp [*]; done)), H', ⟨by have := HK1.out; have := HK2.out; omega⟩, ⟨by (with_reducible repeat (first | apply Kd.R_alloc | apply Kd.R_drewN | apply Kd.R_drew)); exact HO123.out⟩, ⟨by repeat (first | (with_reducible first | exact HB.out | apply below_alloc | apply pw_below_drewN | apply below_drew1) | exact HB.out)⟩⟩
                      · rw [if_neg c16] at H
                        exact absurd H (by simp)
                    · rw [if_neg hlec] at H
                      exact absurd H (by simp)
                  · rw [if_neg h0c] at H
                    exact absurd H (by simp)
                · rw [if_neg c15] at H
                  exact absurd H (by simp)
              · rw [if_neg c14] at H
                exact absurd H (by simp)
      · rw [if_neg c2] at H
        have c2b0 : decide (x4_1 < (l0.length : Int)) = false := decide_eq_false c2
        clear c2
        obtain rfl := Option.some.inj H
        go_wp2
        repeat (go_quiet (fail); try go_wp2)
        go_ret
        exact ⟨_, by first | rfl | (simp [errW_none, errW_some] <;> rfl) | (simp [*, errW_none, errW_some] <;> rfl), by (with_reducible repeat (first | apply Kd.R_alloc | apply Kd.R_drewN | apply Kd.R_drew)); exact HO_3.out, by repeat (first | (with_reducible first | exact HB.out | apply below_alloc | apply pw_below_drewN | apply below_drew1) | exact HB.out)⟩
end Go.Proofs.YtoammgpfbdcphaaDoor.Sr
end
section
namespace Go.Proofs.YtoammgpfbdcphaaDoor.Sr
open Go.RowKit Go.Proofs.YtoammgpfbdcphaaDoor.Lib Go.Proofs.YtoammgpfbdcphaaDoor.PH Go.Proofs.YtoammgpfbdcphaaDoor.Txt Go.Proofs.YtoammgpfbdcphaaDoor.Hx Go.Proofs.YtoammgpfbdcphaaDoor.Ord Go.Proofs.YtoammgpfbdcphaaDoorW.PrintWords Go.Proofs.YtoammgpfbdcphaaDoorW.PrintLast Go.Proofs.YtoammgpfbdcphaaDoorW.PrintMore
set_option linter.unusedVariables false
set_option linter.unusedSimpArgs false
theorem toList_eq (x y : ByteArray) : x.toList = y.toList ↔ strC x y = 0 := by
  rw [strC_eq, toList_L, toList_L]
  exact ⟨fun h => L_inj h, fun h => by rw [h]⟩
theorem less_str (x y : ByteArray) : Go.Op.bytesLess x.toList y.toList = decide (strC x y < 0) := by
  rw [str_lt]
  by_cases h : x.data.toList < y.data.toList
  · rw [decide_eq_true h, decide_eq_true ((strC_lt x y).2 h)]
  · rw [decide_eq_false h, decide_eq_false (fun h2 => h ((strC_lt x y).1 h2))]
theorem bl_swap {p q : ByteArray} (h : Go.Op.bytesLess q.toList p.toList = true) : Go.Op.bytesLess p.toList q.toList = false ∧ (p.toList == q.toList) = false := by
  rw [less_str, decide_eq_true_eq] at h
  rw [less_str]
  have a1 := str_cmp.anti q p
  have a2 := str_cmp.anti p q
  exact ⟨decide_eq_false (by omega), beq_eq_false_iff_ne.mpr fun e => by have := (toList_eq p q).1 e; omega⟩
theorem bl_total {p q : ByteArray} (h : Go.Op.bytesLess q.toList p.toList = false) (hne : ¬ p.toList = q.toList) : Go.Op.bytesLess p.toList q.toList = true := by
  rw [less_str, decide_eq_false_iff_not] at h
  rw [less_str]
  have a1 := str_cmp.anti q p
  have a2 := str_cmp.anti p q
  have a3 : strC p q ≠ 0 := fun e => hne ((toList_eq p q).2 e)
  exact decide_eq_true (by omega)
theorem cmpI_eq (x y : Int) : Go.Lib.compareInt x y = 0 ↔ x = y := by
  unfold Go.Lib.compareInt; repeat' split
  all_goals omega
theorem cmpI_lt (x y : Int) : Go.Lib.compareInt x y < 0 ↔ x < y := by
  unfold Go.Lib.compareInt; repeat' split
  all_goals omega
theorem less_j1 (k : Nat) (x y p q : ByteArray) (n d m e : Int) : marlinspikeref05_less.j1 (k + 1) x y p n d q m e = some (decide (or2 (strC p q) (or2 (Go.Lib.compareInt n m) (or2 (Go.Lib.compareInt d e) (strC x y))) < 0)) := by
  simp only [marlinspikeref05_less.j1]
  rcases or2_cases (strC p q) (or2 (Go.Lib.compareInt n m) (or2 (Go.Lib.compareInt d e) (strC x y))) with ⟨a, b⟩ | ⟨a, b⟩
  · rw [b, if_neg (fun h => a ((toList_eq p q).1 h)), less_str]
  · rw [b, if_pos ((toList_eq p q).2 a)]
    rcases or2_cases (Go.Lib.compareInt n m) (or2 (Go.Lib.compareInt d e) (strC x y)) with ⟨a, b⟩ | ⟨a, b⟩
    · rw [b, if_neg (fun h => a ((cmpI_eq n m).2 h))]
      simp only [cmpI_lt]
    · rw [b, if_pos ((cmpI_eq n m).1 a)]
      rcases or2_cases (Go.Lib.compareInt d e) (strC x y) with ⟨a, b⟩ | ⟨a, b⟩
      · rw [b, if_neg (fun h => a ((cmpI_eq d e).2 h))]
        simp only [cmpI_lt]
      · rw [b, if_pos ((cmpI_eq d e).1 a), less_str]
theorem less_ev (x y : ByteArray) (hx : x.size ≤ 4611686018427387903) (hy : y.size ≤ 4611686018427387903) : Ev (fun k => marlinspikeref05_less.f k x y) (decide (nameC x y < 0)) := by
  obtain ⟨K1, h1⟩ := rnumber_ev x hx
  obtain ⟨K2, h2⟩ := rnumber_ev y hy
  dsimp only at h1 h2
  refine ⟨K1 + K2 + 2, fun k hk => ?_⟩
  simp only [marlinspikeref05_less.f]
  rw [h1 k (by omega), Option.bind_some, h2 k (by omega), Option.bind_some]
  obtain ⟨k, rfl⟩ : ∃ m, k = m + 2 := ⟨k - 2, by omega⟩
  unfold nameC keyN
  generalize numOf x = r1
  generalize numOf y = r2
  obtain ⟨p, n, d, b1⟩ := r1
  obtain ⟨q, m, e, b2⟩ := r2
  cases b1 <;> cases b2 <;> simp only [marlinspikeref05_less.j0, less_j1, if_true, if_false, Bool.false_eq_true]
theorem rs_l1 (l xs : List ByteArray) (i : Nat) (hi : i < l.length) (hl : l.length ≤ 1000) (hx : xs.length ≤ 1000) (hs : ∀ b ∈ l, b.size ≤ 100000) (hs2 : ∀ b ∈ xs, b.size ≤ 100000) (hu : Up nameC xs) :
    ∀ j, j ≤ xs.length → (∀ t (h : t < xs.length), j ≤ t → nameC l[i] xs[t] < 0) →
      ∃ m, m ≤ xs.length ∧ Up nameC (insL xs m l[i]) ∧ ∀ r, Ev (fun k => RSorted.l0 k l (insL xs m l[i]) ((i + 1 : Nat) : Int)) r → Ev (fun k => RSorted.l1 k l xs (i : Int) (j : Int)) r := by
  have hfin : ∀ j, j ≤ xs.length → ∀ k r, RSorted.l0 k l (insL xs j l[i]) ((i + 1 : Nat) : Int) = some r → (if 0 ≤ (j : Int) then (if (j : Int) ≤ (xs.length : Int) then (if xs.length < 8796093022208 then (RSorted.l0 k l (insL xs (j : Int).toNat (rdOf ByteArray.empty l (i : Int))) (wrap64 ((i : Int) + 1))) else (none)) else (none)) else (none)) = some r := by
    intro j hj k r h
    rw [if_pos (by omega), if_pos (by omega), if_pos (by omega), Int.toNat_natCast, rdN l i hi, wrap_nat (by omega)]
    exact h
  intro j
  induction j with
  | zero =>
    intro hj hb
    refine ⟨0, Nat.zero_le _, insL_up name_cmp xs 0 _ (Nat.zero_le _) hu hb (fun _ h => absurd h (by omega)), fun r hr => ?_⟩
    obtain ⟨K, hK⟩ := hr
    refine Ev.shift ⟨K, fun k hk => ?_⟩
    simp only [RSorted.l1]
    rw [if_neg (by omega), if_pos (by omega), if_pos (by omega)]
    exact hfin 0 (Nat.zero_le _) k r (hK k hk)
  | succ j ih =>
    intro hj hb
    have hlt : j < xs.length := by omega
    have hw : wrap64 (((j + 1 : Nat) : Int) - 1) = (j : Int) := by unfold wrap64; omega
    obtain ⟨K1, h1⟩ := less_ev l[i] xs[j] (by have := hs _ (List.getElem_mem hi); omega) (by have := hs2 _ (List.getElem_mem hlt); omega)
    dsimp only at h1
    by_cases hc : nameC l[i] xs[j] < 0
    · obtain ⟨m, hm, hum, hcont⟩ := ih (by omega) (by
        intro t ht hjt
        by_cases e : t = j
        · subst e; exact hc
        · exact hb t ht (by omega))
      refine ⟨m, hm, hum, fun r hr => ?_⟩
      obtain ⟨K, hK⟩ := hcont r hr
      dsimp only at hK
      refine Ev.shift ⟨K + K1, fun k hk => ?_⟩
      simp only [RSorted.l1]
      rw [if_pos (by omega), if_pos (by omega), if_pos (by omega), hw, if_pos (by omega), if_pos (by omega), rdN l i hi, rdN xs j hlt, h1 k (by omega), Option.bind_some, if_pos (decide_eq_true hc)]
      exact hK k (by omega)
    · refine ⟨j + 1, hj, insL_up name_cmp xs (j + 1) _ hj hu hb (fun _ _ => by simpa using hc), fun r hr => ?_⟩
      obtain ⟨K, hK⟩ := hr
      refine Ev.shift ⟨K + K1, fun k hk => ?_⟩
      simp only [RSorted.l1]
      rw [if_pos (by omega), if_pos (by omega), if_pos (by omega), hw, if_pos (by omega), if_pos (by omega), rdN l i hi, rdN xs j hlt, h1 k (by omega), Option.bind_some, if_neg (by simpa using hc)]
      have h2 := hfin (j + 1) hj k r (hK k (by omega))
      rw [rdN l i hi] at h2
      exact h2
theorem rs_l0 (l : List ByteArray) (hl : l.length ≤ 1000) (hs : ∀ b ∈ l, b.size ≤ 100000) : ∀ (d i : Nat) (xs : List ByteArray), l.length - i = d → i ≤ l.length → xs.Perm (l.take i) → Up nameC xs → Ev (fun k => RSorted.l0 k l xs (i : Int)) (srtN l) := by
  intro d
  induction d with
  | zero =>
    intro i xs hd hi hp hu
    have e : i = l.length := by omega
    rw [e, List.take_length] at hp
    have hx : xs = srtN l := up_unique name_cmp name_eq (hp.trans (srt_perm _ _).symm) hu (srt_up name_cmp _)
    refine Ev.shift ⟨0, fun k hk => ?_⟩
    simp only [RSorted.l0]
    rw [if_neg (by omega), hx]
  | succ d ih =>
    intro i xs hd hi hp hu
    have hlt : i < l.length := by omega
    have hxl : xs.length = i := by rw [hp.length_eq, List.length_take]; omega
    obtain ⟨m, hm, hum, hcont⟩ := rs_l1 l xs i hlt hl (by omega) hs (fun b hb => hs b (List.mem_of_mem_take (hp.mem_iff.1 hb))) hu xs.length (Nat.le_refl _) (fun t h h2 => by omega)
    have h2 := ih (i + 1) (insL xs m l[i]) (by omega) (by omega) (by
      refine (insL_perm _ _ _).trans ?_
      rw [List.take_succ_eq_append_getElem hlt]
      exact ((hp.cons _).trans (List.perm_append_comm (l₁ := [l[i]]))).trans (by exact List.Perm.refl _)) hum
    obtain ⟨K, hK⟩ := hcont _ h2
    dsimp only at hK
    refine Ev.shift ⟨K, fun k hk => ?_⟩
    simp only [RSorted.l0]
    rw [if_pos (by omega)]
    exact hK k hk
theorem rsorted_ev (l : List ByteArray) (hl : l.length ≤ 1000) (hs : ∀ b ∈ l, b.size ≤ 100000) : Ev (fun k => RSorted.f k l) (srtN l) :=
  rs_l0 l hl hs _ 0 [] rfl (Nat.zero_le _) (by simp) List.Pairwise.nil
def host_Sorted.f (l : List ByteArray) : Option (List ByteArray) := if l.length ≤ 1000 ∧ ∀ b ∈ l, b.size ≤ 100000 then some (srtN l) else none
theorem host_Sorted.calls (A0 : Option Addr) (c0 : Nat) (l0 : List ByteArray) (r : List ByteArray) (w : World) (hr0 : Kd.C Kd.string w A0 l0.length l0) (hc0 : l0.length ≤ c0) (h : host_Sorted.f l0 = some r) :
    Calls Tryd.prog 17 #[.slice A0 l0.length c0] w fun e w' => ∃ v0_ : Value, e = .returned (v0_) ∧ Kd.R Kd.string 9 w' w.heap.size (fun _ => True) v0_ r ∧ Below w.heap.size w w' := by
  unfold host_Sorted.f at h
  split at h
  · rename_i hb
    cases h
    exact Sorted_calls A0 c0 l0 w hr0 hc0 hb.1 hb.2
  · cases h
def marlinspikeref05_Sorted.f (l : List ByteArray) : Option (List ByteArray) := if l.length ≤ 1000 ∧ ∀ b ∈ l, b.size ≤ 100000 then some (srtN l) else none
theorem marlinspikeref05_Sorted.calls (A0 : Option Addr) (c0 : Nat) (l0 : List ByteArray) (r : List ByteArray) (w : World) (hr0 : Kd.C Kd.string w A0 l0.length l0) (hc0 : l0.length ≤ c0) (h : marlinspikeref05_Sorted.f l0 = some r) :
    Calls Tryd.prog 18 #[.slice A0 l0.length c0] w fun e w' => ∃ v0_ : Value, e = .returned (v0_) ∧ Kd.R Kd.string 9 w' w.heap.size (fun _ => True) v0_ r ∧ Below w.heap.size w w' := by
  unfold marlinspikeref05_Sorted.f at h
  split at h
  · rename_i hb
    cases h
    obtain ⟨k, hk⟩ := (rsorted_ev l0 hb.1 hb.2).rounds
    exact RSorted.calls k A0 c0 l0 _ w hr0 hc0 hk
  · cases h
theorem hsorted_f (l : List ByteArray) (hl : l.length ≤ 300) (hs : ∀ b ∈ l, b.size ≤ 300) : host_Sorted.f l = some (srtN l) := by
  unfold host_Sorted.f
  rw [if_pos ⟨by omega, fun b hb => by have := hs b hb; omega⟩]
theorem rsorted_f (l : List ByteArray) (hl : l.length ≤ 300) (hs : ∀ b ∈ l, b.size ≤ 300) : marlinspikeref05_Sorted.f l = some (srtN l) := by
  unfold marlinspikeref05_Sorted.f
  rw [if_pos ⟨by omega, fun b hb => by have := hs b hb; omega⟩]
end Go.Proofs.YtoammgpfbdcphaaDoor.Sr
end
section
namespace Go.Proofs.YtoammgpfbdcphaaDoor.PH
open Go.RowKit Go.Proofs.YtoammgpfbdcphaaDoor.Lib Go.Proofs.YtoammgpfbdcphaaDoorW.PrintWords Go.Proofs.YtoammgpfbdcphaaDoorW.PrintLast Go.Proofs.YtoammgpfbdcphaaDoorW.PrintMore
attribute [local go_sem] max2_int min2_int max_two min_two max_three min_three max_four min_four   
set_option linter.unusedVariables false
set_option linter.unusedSimpArgs false
attribute [local go_sem high] eqA27
end Go.Proofs.YtoammgpfbdcphaaDoor.PH
end
section
namespace Go.Proofs.YtoammgpfbdcphaaDoor.Sr
open Go.RowKit Go.Proofs.YtoammgpfbdcphaaDoor.Lib Go.Proofs.YtoammgpfbdcphaaDoor.PH Go.Proofs.YtoammgpfbdcphaaDoorW.PrintWords Go.Proofs.YtoammgpfbdcphaaDoorW.PrintLast Go.Proofs.YtoammgpfbdcphaaDoorW.PrintMore
attribute [local go_sem] max2_int min2_int max_two min_two max_three min_three max_four min_four
set_option linter.unusedVariables false
set_option linter.unusedSimpArgs false
def marlinspikelaw05_HostNumbers.f (k : Nat) (a0 : ByteArray) (l1 : List ByteArray) : Option (Bool) := (host_Number.f k a0).bind fun bt298 => ((marlinspikeref05_Number.f k a0).bind fun bt302 => (if bt298.1.toList = bt302.1.toList then (if bt298.2.1 = bt302.2.1 then (if bt298.2.2.1 = bt302.2.2.1 then (if (bt298.2.2.2 == bt302.2.2.2) = true then ((marlinspikelaw05_long.f k l1).bind fun t306 => (if t306 = true then ((marlinspikelaw05_alive.f k).bind fun t307 => (some t307)) else ((host_Sorted.f l1).bind fun t308 => ((marlinspikeref05_Sorted.f l1).bind fun t311 => ((marlinspikeref05_Same.f k t308 t311).bind fun t314 => (if t314 = true then ((marlinspikelaw05_alive.f k).bind fun t315 => (some t315)) else (some false))))))) else (some false)) else (some false)) else (some false)) else (some false)))
theorem marlinspikelaw05_HostNumbers.mono : ∀ a0 a1 k, LeO (marlinspikelaw05_HostNumbers.f k a0 a1) (marlinspikelaw05_HostNumbers.f (k + 1) a0 a1) := by
  intro a0 a1 k
  unfold marlinspikelaw05_HostNumbers.f
  repeat' first
      | (with_reducible exact host_Number.mono _ _)
      | (with_reducible exact marlinspikelaw05_alive.mono _)
      | (with_reducible exact marlinspikelaw05_long.mono _ _)
      | (with_reducible exact marlinspikeref05_Number.mono _ _)
      | (with_reducible exact marlinspikeref05_Same.mono _ _ _)
      | (with_reducible exact LeO.refl _)
      | (with_reducible exact LeO.none _)
      | (with_reducible refine LeO.ite ?_ ?_)
      | (with_reducible refine LeO.bind ?_ (fun _ => ?_))
      | exact host_Number.mono _ _
      | exact marlinspikelaw05_alive.mono _
      | exact marlinspikelaw05_long.mono _ _
      | exact marlinspikeref05_Number.mono _ _
      | exact marlinspikeref05_Same.mono _ _ _
      | exact LeO.none _
      | refine LeO.ite ?_ ?_
      | refine LeO.bind ?_ (fun _ => ?_)
set_option maxHeartbeats 8000000 in
set_option maxRecDepth 100000 in
theorem marlinspikelaw05_HostNumbers.calls (k : Nat) (a0 : ByteArray) (A1 : Option Addr) (c1 : Nat) (l1 : List ByteArray) (r : Bool) (w : World) (hr1 : Kd.C Kd.string w A1 l1.length l1) (hc1 : l1.length ≤ c1) (h : marlinspikelaw05_HostNumbers.f k a0 l1 = some r) (hG_ : Glob w) :
    Calls Tryd.prog 6 #[.string a0, .slice A1 l1.length c1] w fun e w' => e = .returned (.bool r) ∧ Below w.heap.size w w' := by
  have HG_ := Aside0.mk hG_
  clear hG_
  have HR1 := Aside0.mk hr1
  have HC1 := Aside0.mk hc1
  clear hr1 hc1
  have HB := Aside0.mk (Below.refl w.heap.size w)
  have H : ((host_Number.f k a0).bind fun bt298 => ((marlinspikeref05_Number.f k a0).bind fun bt302 => (if bt298.1.toList = bt302.1.toList then (if bt298.2.1 = bt302.2.1 then (if bt298.2.2.1 = bt302.2.2.1 then (if (bt298.2.2.2 == bt302.2.2.2) = true then ((marlinspikelaw05_long.f k l1).bind fun t306 => (if t306 = true then ((marlinspikelaw05_alive.f k).bind fun t307 => (some t307)) else ((host_Sorted.f l1).bind fun t308 => ((marlinspikeref05_Sorted.f l1).bind fun t311 => ((marlinspikeref05_Same.f k t308 t311).bind fun t314 => (if t314 = true then ((marlinspikelaw05_alive.f k).bind fun t315 => (some t315)) else (some false))))))) else (some false)) else (some false)) else (some false)) else (some false)))) = some r := h
  clear h
  replace H := Option.bind_eq_some_iff.mp H
  obtain ⟨⟨t298, t299, t300, t301⟩, A30, H⟩ := H
  replace H : ((marlinspikeref05_Number.f k a0).bind fun bt302 => (if t298.toList = bt302.1.toList then (if t299 = bt302.2.1 then (if t300 = bt302.2.2.1 then (if (t301 == bt302.2.2.2) = true then ((marlinspikelaw05_long.f k l1).bind fun t306 => (if t306 = true then ((marlinspikelaw05_alive.f k).bind fun t307 => (some t307)) else ((host_Sorted.f l1).bind fun t308 => ((marlinspikeref05_Sorted.f l1).bind fun t311 => ((marlinspikeref05_Same.f k t308 t311).bind fun t314 => (if t314 = true then ((marlinspikelaw05_alive.f k).bind fun t315 => (some t315)) else (some false))))))) else (some false)) else (some false)) else (some false)) else (some false))) = some r := H
  have A3 := Aside0.mk A30
  clear A30
  replace H := Option.bind_eq_some_iff.mp H
  obtain ⟨⟨t302, t303, t304, t305⟩, A40, H⟩ := H
  replace H : (if t298.toList = t302.toList then (if t299 = t303 then (if t300 = t304 then (if (t301 == t305) = true then ((marlinspikelaw05_long.f k l1).bind fun t306 => (if t306 = true then ((marlinspikelaw05_alive.f k).bind fun t307 => (some t307)) else ((host_Sorted.f l1).bind fun t308 => ((marlinspikeref05_Sorted.f l1).bind fun t311 => ((marlinspikeref05_Same.f k t308 t311).bind fun t314 => (if t314 = true then ((marlinspikelaw05_alive.f k).bind fun t315 => (some t315)) else (some false))))))) else (some false)) else (some false)) else (some false)) else (some false)) = some r := H
  have A4 := Aside0.mk A40
  clear A40
  by_cases c5 : t298.toList = t302.toList
  · rw [if_pos c5] at H
    have c5b0 : (t298.toList == t302.toList) = true := beq_iff_eq.mpr c5
    have c5b1 : (t298.toList != t302.toList) = false := bne_eq_false_iff_eq.mpr c5
    clear c5
    by_cases c6 : t299 = t303
    · rw [if_pos c6] at H
      have c6b0 : (t299 == t303) = true := beq_iff_eq.mpr c6
      have c6b1 : (t299 != t303) = false := bne_eq_false_iff_eq.mpr c6
      clear c6
      by_cases c7 : t300 = t304
      · rw [if_pos c7] at H
        have c7b0 : (t300 == t304) = true := beq_iff_eq.mpr c7
        have c7b1 : (t300 != t304) = false := bne_eq_false_iff_eq.mpr c7
        clear c7
        by_cases c8 : (t301 == t305) = true
        · rw [if_pos c8] at H
          have c8b0 : (t301 == t305) = true := c8
          (try simp only [c8b0] at H)
          (try (have c8b1 : decide (t301 = t305) = true := by simpa using c8))
          skip
          clear c8
          replace H := Option.bind_eq_some_iff.mp H
          obtain ⟨t306, A90, H⟩ := H
          replace H : (if t306 = true then ((marlinspikelaw05_alive.f k).bind fun t307 => (some t307)) else ((host_Sorted.f l1).bind fun t308 => ((marlinspikeref05_Sorted.f l1).bind fun t311 => ((marlinspikeref05_Same.f k t308 t311).bind fun t314 => (if t314 = true then ((marlinspikelaw05_alive.f k).bind fun t315 => (some t315)) else (some false)))))) = some r := H
          have A9 := Aside0.mk A90
          clear A90
          by_cases c10 : t306 = true
          · subst c10
            have H1 : ((marlinspikelaw05_alive.f k).bind fun t307 => (some t307)) = some r := by rw [if_pos rfl] at H; exact H
            clear H
            have H := H1
            clear H1
            replace H := Option.bind_eq_some_iff.mp H
            obtain ⟨t307, A110, H⟩ := H
            replace H : (some t307) = some r := H
            have A11 := Aside0.mk A110
            clear A110
            obtain rfl := Option.some.inj H
            go_enter Tryd.func6, Tryd.ntmps6
            go_wp2_with (first | ((with_reducible refine gate_callee (f := 15) rfl ?_); refine goesL_ (some 15) rfl rfl Tryd.func15 (by kernel_rfl) rfl #[.string a0] rfl (by (try simp only [List.map_toArray, List.map_cons, List.map_nil]); first | done | rfl | (simp only [List.length_drop, List.length_take]; rfl)) ?_; (with_reducible refine (host_Number.calls k a0 t298 t299 t300 t301 _ A3.out (HG_.out.below (by repeat (first | (with_reducible first | exact HB.out | apply below_alloc | apply pw_below_drewN | apply below_drew1) | exact HB.out)))).mono ?_); rintro e w12 ⟨rfl, hb⟩; refine ⟨_, rfl, ?_⟩; have n0_ := Aside0.mk (below_step (by repeat (first | (with_reducible first | exact HB.out | apply below_alloc | apply pw_below_drewN | apply below_drew1) | exact HB.out)) hb); clear HB; have HB := n0_; clear n0_; (try clear hb); (try clear hb2); (try clear hk); (try clear hi)) | ((with_reducible refine gate_callee (f := 16) rfl ?_); refine goesL_ (some 22) rfl rfl Tryd.func16 (by kernel_rfl) rfl #[.string a0] rfl (by (try simp only [List.map_toArray, List.map_cons, List.map_nil]); first | done | rfl | (simp only [List.length_drop, List.length_take]; rfl)) ?_; (with_reducible refine (marlinspikeref05_Number.calls k a0 t302 t303 t304 t305 _ A4.out).mono ?_); rintro e w' ⟨rfl, ⟨nd, rfl⟩⟩; refine ⟨_, rfl, ?_⟩) | (go_at_call 8; (with_reducible refine (marlinspikelaw05_long.calls k _ _ l1 true _ ?side1 ?side2 A9.out).mono ?_); (case side1 => repeat (first | exact (Kd.C_below HR1.out (by repeat (first | (with_reducible first | exact HB.out | apply below_alloc | apply pw_below_drewN | apply below_drew1) | exact HB.out))) | (with_reducible refine Kd.C_alloc ?_ _) | (with_reducible refine Kd.C_drewN ?_ _) | (with_reducible refine Kd.C_drew ?_))); (case side2 => exact HC1.out); rintro e w' ⟨rfl, ⟨nd, rfl⟩⟩) | (go_at_call 9; (with_reducible refine (marlinspikelaw05_alive.calls k  t307 _ A11.out (HG_.out.below (by repeat (first | (with_reducible first | exact HB.out | apply below_alloc | apply pw_below_drewN | apply below_drew1) | exact HB.out)))).mono ?_); rintro e w13 ⟨rfl, hb⟩; have n0_ := Aside0.mk (below_step (by repeat (first | (with_reducible first | exact HB.out | apply below_alloc | apply pw_below_drewN | apply below_drew1) | exact HB.out)) hb); clear HB; have HB := n0_; clear n0_; (try clear hb); (try clear hb2); (try clear hk); (try clear hi)))
            go_ret
            exact ⟨by first | rfl | (simp [errW_none, errW_some] <;> rfl) | (simp [*, errW_none, errW_some] <;> rfl), by repeat (first | (with_reducible first | exact HB.out | apply below_alloc | apply pw_below_drewN | apply below_drew1) | exact HB.out)⟩
          · replace c10 := Bool.eq_false_iff.mpr c10
            subst c10
            have H1 : ((host_Sorted.f l1).bind fun t308 => ((marlinspikeref05_Sorted.f l1).bind fun t311 => ((marlinspikeref05_Same.f k t308 t311).bind fun t314 => (if t314 = true then ((marlinspikelaw05_alive.f k).bind fun t315 => (some t315)) else (some false))))) = some r := by rw [if_neg (show ¬ (false = true) by decide)] at H; exact H
            clear H
            have H := H1
            clear H1
            replace H := Option.bind_eq_some_iff.mp H
            obtain ⟨t308, A140, H⟩ := H
            replace H : ((marlinspikeref05_Sorted.f l1).bind fun t311 => ((marlinspikeref05_Same.f k t308 t311).bind fun t314 => (if t314 = true then ((marlinspikelaw05_alive.f k).bind fun t315 => (some t315)) else (some false)))) = some r := H
            have A14 := Aside0.mk A140
            clear A140
            replace H := Option.bind_eq_some_iff.mp H
            obtain ⟨t311, A150, H⟩ := H
            replace H : ((marlinspikeref05_Same.f k t308 t311).bind fun t314 => (if t314 = true then ((marlinspikelaw05_alive.f k).bind fun t315 => (some t315)) else (some false))) = some r := H
            have A15 := Aside0.mk A150
            clear A150
            replace H := Option.bind_eq_some_iff.mp H
            obtain ⟨t314, A160, H⟩ := H
            replace H : (if t314 = true then ((marlinspikelaw05_alive.f k).bind fun t315 => (some t315)) else (some false)) = some r := H
            have A16 := Aside0.mk A160
            clear A160
            by_cases c17 : t314 = true
            · subst c17
              have H1 : ((marlinspikelaw05_alive.f k).bind fun t315 => (some t315)) = some r := by rw [if_pos rfl] at H; exact H
              clear H
              have H := H1
              clear H1
              replace H := Option.bind_eq_some_iff.mp H
              obtain ⟨t315, A180, H⟩ := H
              replace H : (some t315) = some r := H
              have A18 := Aside0.mk A180
              clear A180
              obtain rfl := Option.some.inj H
              go_enter Tryd.func6, Tryd.ntmps6
              go_wp2_with (first | ((with_reducible refine gate_callee (f := 15) rfl ?_); refine goesL_ (some 15) rfl rfl Tryd.func15 (by kernel_rfl) rfl #[.string a0] rfl (by (try simp only [List.map_toArray, List.map_cons, List.map_nil]); first | done | rfl | (simp only [List.length_drop, List.length_take]; rfl)) ?_; (with_reducible refine (host_Number.calls k a0 t298 t299 t300 t301 _ A3.out (HG_.out.below (by repeat (first | (with_reducible first | exact HB.out | apply below_alloc | apply pw_below_drewN | apply below_drew1) | exact HB.out)))).mono ?_); rintro e w19 ⟨rfl, hb⟩; refine ⟨_, rfl, ?_⟩; have n0_ := Aside0.mk (below_step (by repeat (first | (with_reducible first | exact HB.out | apply below_alloc | apply pw_below_drewN | apply below_drew1) | exact HB.out)) hb); clear HB; have HB := n0_; clear n0_; (try clear hb); (try clear hb2); (try clear hk); (try clear hi)) | ((with_reducible refine gate_callee (f := 16) rfl ?_); refine goesL_ (some 22) rfl rfl Tryd.func16 (by kernel_rfl) rfl #[.string a0] rfl (by (try simp only [List.map_toArray, List.map_cons, List.map_nil]); first | done | rfl | (simp only [List.length_drop, List.length_take]; rfl)) ?_; (with_reducible refine (marlinspikeref05_Number.calls k a0 t302 t303 t304 t305 _ A4.out).mono ?_); rintro e w' ⟨rfl, ⟨nd, rfl⟩⟩; refine ⟨_, rfl, ?_⟩) | (go_at_call 8; (with_reducible refine (marlinspikelaw05_long.calls k _ _ l1 false _ ?side1 ?side2 A9.out).mono ?_); (case side1 => repeat (first | exact (Kd.C_below HR1.out (by repeat (first | (with_reducible first | exact HB.out | apply below_alloc | apply pw_below_drewN | apply below_drew1) | exact HB.out))) | (with_reducible refine Kd.C_alloc ?_ _) | (with_reducible refine Kd.C_drewN ?_ _) | (with_reducible refine Kd.C_drew ?_))); (case side2 => exact HC1.out); rintro e w' ⟨rfl, ⟨nd, rfl⟩⟩) | (go_at_call 17; (with_reducible refine (host_Sorted.calls _ _ l1 t308 _ ?side1 ?side2 A14.out).mono ?_); (case side1 => repeat (first | exact (Kd.C_below HR1.out (by repeat (first | (with_reducible first | exact HB.out | apply below_alloc | apply pw_below_drewN | apply below_drew1) | exact HB.out))) | (with_reducible refine Kd.C_alloc ?_ _) | (with_reducible refine Kd.C_drewN ?_ _) | (with_reducible refine Kd.C_drew ?_))); (case side2 => exact HC1.out); rintro e w20 ⟨v309, rfl, ho0, hb⟩; have n0_ := Aside0.mk (Kd.R_lower ho0 (below_size (by repeat (first | (with_reducible first | exact HB.out | apply below_alloc | apply pw_below_drewN | apply below_drew1) | exact HB.out)))); have n1_ := Aside0.mk (below_step (by repeat (first | (with_reducible first | exact HB.out | apply below_alloc | apply pw_below_drewN | apply below_drew1) | exact HB.out)) hb); clear HB; have HO310 := n0_; have HB := n1_; clear n0_ n1_; (try clear hb); (try clear hb2); (try clear hk); (try clear hi); (try clear ho0)) | (go_at_call 18; (with_reducible refine (marlinspikeref05_Sorted.calls _ _ l1 t311 _ ?side1 ?side2 A15.out).mono ?_); (case side1 => repeat (first | exact (Kd.C_below HR1.out HB.out) | (with_reducible refine Kd.C_alloc ?_ _) | (with_reducible refine Kd.C_drewN ?_ _) | (with_reducible refine Kd.C_drew ?_))); (case side2 => exact HC1.out); rintro e w21 ⟨v312, rfl, ho0, hb⟩; have n0_ := Aside0.mk (Kd.R_elder' (by (with_reducible repeat (first | apply Kd.R_alloc | apply Kd.R_drewN | apply Kd.R_drew)); exact HO310.out) (Kd.R_base ho0) hb); have n1_ := Aside0.mk (Kd.R_lower (Kd.R_new' ho0 (Kd.R_lt (by (with_reducible repeat (first | apply Kd.R_alloc | apply Kd.R_drewN | apply Kd.R_drew)); exact HO310.out))) (below_size (by repeat (first | (with_reducible first | exact HB.out | apply below_alloc | apply pw_below_drewN | apply below_drew1) | exact HB.out)))); have n2_ := Aside0.mk (below_step (by repeat (first | (with_reducible first | exact HB.out | apply below_alloc | apply pw_below_drewN | apply below_drew1) | exact HB.out)) hb); clear HO310; clear HB; have HO310 := n0_; have HO313 := n1_; have HB := n2_; clear n0_ n1_ n2_; (try clear hb); (try clear hb2); (try clear hk); (try clear hi); (try clear ho0); obtain ⟨Ao22, co22, eo22⟩ := Kd.R_slice HO310.out; subst eo22; obtain ⟨Ao23, co23, eo23⟩ := Kd.R_slice HO313.out; subst eo23) | (go_at_call 13; (with_reducible refine (marlinspikeref05_Same.calls k _ _ t308 _ _ t311 true _ ?side1 ?side2 ?side3 ?side4 A16.out).mono ?_); (case side1 => repeat (first | exact (Kd.R_reads' HO310.out).2.2 | (with_reducible refine Kd.C_alloc ?_ _) | (with_reducible refine Kd.C_drewN ?_ _) | (with_reducible refine Kd.C_drew ?_))); (case side2 => exact (Kd.R_reads' HO310.out).2.1); (case side3 => repeat (first | exact (Kd.R_reads' HO313.out).2.2 | (with_reducible refine Kd.C_alloc ?_ _) | (with_reducible refine Kd.C_drewN ?_ _) | (with_reducible refine Kd.C_drew ?_))); (case side4 => exact (Kd.R_reads' HO313.out).2.1); rintro e w' ⟨rfl, ⟨nd, rfl⟩⟩) | (go_at_call 9; (with_reducible refine (marlinspikelaw05_alive.calls k  t315 _ A18.out (HG_.out.below (by repeat (first | (with_reducible first | exact HB.out | apply below_alloc | apply pw_below_drewN | apply below_drew1) | exact HB.out)))).mono ?_); rintro e w24 ⟨rfl, hb⟩; have n0_ := Aside0.mk (Kd.R_below (by (with_reducible repeat (first | apply Kd.R_alloc | apply Kd.R_drewN | apply Kd.R_drew)); exact HO310.out) hb); have n1_ := Aside0.mk (Kd.R_below (by (with_reducible repeat (first | apply Kd.R_alloc | apply Kd.R_drewN | apply Kd.R_drew)); exact HO313.out) hb); have n2_ := Aside0.mk (below_step (by repeat (first | (with_reducible first | exact HB.out | apply below_alloc | apply pw_below_drewN | apply below_drew1) | exact HB.out)) hb); clear HO310; clear HO313; clear HB; have HO310 := n0_; have HO313 := n1_; have HB := n2_; clear n0_ n1_ n2_; (try clear hb); (try clear hb2); (try clear hk); (try clear hi)))
              go_ret
              exact ⟨by first | rfl | (simp [errW_none, errW_some] <;> rfl) | (simp [*, errW_none, errW_some] <;> rfl), by repeat (first | (with_reducible first | exact HB.out | apply below_alloc | apply pw_below_drewN | apply below_drew1) | exact HB.out)⟩
            · replace c17 := Bool.eq_false_iff.mpr c17
              subst c17
              have H1 : (some false) = some r := by rw [if_neg (show ¬ (false = true) by decide)] at H; exact H
              clear H
              have H := H1
              clear H1
              obtain rfl := Option.some.inj H
              go_enter Tryd.func6, Tryd.ntmps6
              go_wp2_with (first | ((with_reducible refine gate_callee (f := 15) rfl ?_); refine goesL_ (some 15) rfl rfl Tryd.func15 (by kernel_rfl) rfl #[.string a0] rfl (by (try simp only [List.map_toArray, List.map_cons, List.map_nil]); first | done | rfl | (simp only [List.length_drop, List.length_take]; rfl)) ?_; (with_reducible refine (host_Number.calls k a0 t298 t299 t300 t301 _ A3.out (HG_.out.below (by repeat (first | (with_reducible first | exact HB.out | apply below_alloc | apply pw_below_drewN | apply below_drew1) | exact HB.out)))).mono ?_); rintro e w25 ⟨rfl, hb⟩; refine ⟨_, rfl, ?_⟩; have n0_ := Aside0.mk (below_step (by repeat (first | (with_reducible first | exact HB.out | apply below_alloc | apply pw_below_drewN | apply below_drew1) | exact HB.out)) hb); clear HB; have HB := n0_; clear n0_; (try clear hb); (try clear hb2); (try clear hk); (try clear hi)) | ((with_reducible refine gate_callee (f := 16) rfl ?_); refine goesL_ (some 22) rfl rfl Tryd.func16 (by kernel_rfl) rfl #[.string a0] rfl (by (try simp only [List.map_toArray, List.map_cons, List.map_nil]); first | done | rfl | (simp only [List.length_drop, List.length_take]; rfl)) ?_; (with_reducible refine (marlinspikeref05_Number.calls k a0 t302 t303 t304 t305 _ A4.out).mono ?_); rintro e w' ⟨rfl, ⟨nd, rfl⟩⟩; refine ⟨_, rfl, ?_⟩) | (go_at_call 8; (with_reducible refine (marlinspikelaw05_long.calls k _ _ l1 false _ ?side1 ?side2 A9.out).mono ?_); (case side1 => repeat (first | exact (Kd.C_below HR1.out (by repeat (first | (with_reducible first | exact HB.out | apply below_alloc | apply pw_below_drewN | apply below_drew1) | exact HB.out))) | (with_reducible refine Kd.C_alloc ?_ _) | (with_reducible refine Kd.C_drewN ?_ _) | (with_reducible refine Kd.C_drew ?_))); (case side2 => exact HC1.out); rintro e w' ⟨rfl, ⟨nd, rfl⟩⟩) | (go_at_call 17; (with_reducible refine (host_Sorted.calls _ _ l1 t308 _ ?side1 ?side2 A14.out).mono ?_); (case side1 => repeat (first | exact (Kd.C_below HR1.out (by repeat (first | (with_reducible first | exact HB.out | apply below_alloc | apply pw_below_drewN | apply below_drew1) | exact HB.out))) | (with_reducible refine Kd.C_alloc ?_ _) | (with_reducible refine Kd.C_drewN ?_ _) | (with_reducible refine Kd.C_drew ?_))); (case side2 => exact HC1.out); rintro e w26 ⟨v309, rfl, ho0, hb⟩; have n0_ := Aside0.mk (Kd.R_lower ho0 (below_size (by repeat (first | (with_reducible first | exact HB.out | apply below_alloc | apply pw_below_drewN | apply below_drew1) | exact HB.out)))); have n1_ := Aside0.mk (below_step (by repeat (first | (with_reducible first | exact HB.out | apply below_alloc | apply pw_below_drewN | apply below_drew1) | exact HB.out)) hb); clear HB; have HO310 := n0_; have HB := n1_; clear n0_ n1_; (try clear hb); (try clear hb2); (try clear hk); (try clear hi); (try clear ho0)) | (go_at_call 18; (with_reducible refine (marlinspikeref05_Sorted.calls _ _ l1 t311 _ ?side1 ?side2 A15.out).mono ?_); (case side1 => repeat (first | exact (Kd.C_below HR1.out HB.out) | (with_reducible refine Kd.C_alloc ?_ _) | (with_reducible refine Kd.C_drewN ?_ _) | (with_reducible refine Kd.C_drew ?_))); (case side2 => exact HC1.out); rintro e w27 ⟨v312, rfl, ho0, hb⟩; have n0_ := Aside0.mk (Kd.R_elder' (by (with_reducible repeat (first | apply Kd.R_alloc | apply Kd.R_drewN | apply Kd.R_drew)); exact HO310.out) (Kd.R_base ho0) hb); have n1_ := Aside0.mk (Kd.R_lower (Kd.R_new' ho0 (Kd.R_lt (by (with_reducible repeat (first | apply Kd.R_alloc | apply Kd.R_drewN | apply Kd.R_drew)); exact HO310.out))) (below_size (by repeat (first | (with_reducible first | exact HB.out | apply below_alloc | apply pw_below_drewN | apply below_drew1) | exact HB.out)))); have n2_ := Aside0.mk (below_step (by repeat (first | (with_reducible first | exact HB.out | apply below_alloc | apply pw_below_drewN | apply below_drew1) | exact HB.out)) hb); clear HO310; clear HB; have HO310 := n0_; have HO313 := n1_; have HB := n2_; clear n0_ n1_ n2_; (try clear hb); (try clear hb2); (try clear hk); (try clear hi); (try clear ho0); obtain ⟨Ao28, co28, eo28⟩ := Kd.R_slice HO310.out; subst eo28; obtain ⟨Ao29, co29, eo29⟩ := Kd.R_slice HO313.out; subst eo29) | (go_at_call 13; (with_reducible refine (marlinspikeref05_Same.calls k _ _ t308 _ _ t311 false _ ?side1 ?side2 ?side3 ?side4 A16.out).mono ?_); (case side1 => repeat (first | exact (Kd.R_reads' HO310.out).2.2 | (with_reducible refine Kd.C_alloc ?_ _) | (with_reducible refine Kd.C_drewN ?_ _) | (with_reducible refine Kd.C_drew ?_))); (case side2 => exact (Kd.R_reads' HO310.out).2.1); (case side3 => repeat (first | exact (Kd.R_reads' HO313.out).2.2 | (with_reducible refine Kd.C_alloc ?_ _) | (with_reducible refine Kd.C_drewN ?_ _) | (with_reducible refine Kd.C_drew ?_))); (case side4 => exact (Kd.R_reads' HO313.out).2.1); rintro e w' ⟨rfl, ⟨nd, rfl⟩⟩))
              go_ret
              exact ⟨by first | rfl | (simp [errW_none, errW_some] <;> rfl) | (simp [*, errW_none, errW_some] <;> rfl), by repeat (first | (with_reducible first | exact HB.out | apply below_alloc | apply pw_below_drewN | apply below_drew1) | exact HB.out)⟩
        · rw [if_neg c8] at H
          have c8b0 : (t301 == t305) = false := by simpa using c8
          (try (have c8b1 : decide (t301 = t305) = false := by simpa using c8))
          (try (have c8b2 : (t301 == t305) = false := by simpa using c8))
          (try (have c8b3 : ¬ (t301 = t305) := by simpa using c8))
          clear c8
          obtain rfl := Option.some.inj H
          go_enter Tryd.func6, Tryd.ntmps6
          go_wp2_with (first | ((with_reducible refine gate_callee (f := 15) rfl ?_); refine goesL_ (some 15) rfl rfl Tryd.func15 (by kernel_rfl) rfl #[.string a0] rfl (by (try simp only [List.map_toArray, List.map_cons, List.map_nil]); first | done | rfl | (simp only [List.length_drop, List.length_take]; rfl)) ?_; (with_reducible refine (host_Number.calls k a0 t298 t299 t300 t301 _ A3.out (HG_.out.below (by repeat (first | (with_reducible first | exact HB.out | apply below_alloc | apply pw_below_drewN | apply below_drew1) | exact HB.out)))).mono ?_); rintro e w30 ⟨rfl, hb⟩; refine ⟨_, rfl, ?_⟩; have n0_ := Aside0.mk (below_step (by repeat (first | (with_reducible first | exact HB.out | apply below_alloc | apply pw_below_drewN | apply below_drew1) | exact HB.out)) hb); clear HB; have HB := n0_; clear n0_; (try clear hb); (try clear hb2); (try clear hk); (try clear hi)) | ((with_reducible refine gate_callee (f := 16) rfl ?_); refine goesL_ (some 22) rfl rfl Tryd.func16 (by kernel_rfl) rfl #[.string a0] rfl (by (try simp only [List.map_toArray, List.map_cons, List.map_nil]); first | done | rfl | (simp only [List.length_drop, List.length_take]; rfl)) ?_; (with_reducible refine (marlinspikeref05_Number.calls k a0 t302 t303 t304 t305 _ A4.out).mono ?_); rintro e w' ⟨rfl, ⟨nd, rfl⟩⟩; refine ⟨_, rfl, ?_⟩))
          go_ret
          exact ⟨by first | rfl | (simp [errW_none, errW_some] <;> rfl) | (simp [*, errW_none, errW_some] <;> rfl), by repeat (first | (with_reducible first | exact HB.out | apply below_alloc | apply pw_below_drewN | apply below_drew1) | exact HB.out)⟩
      · rw [if_neg c7] at H
        have c7b0 : (t300 == t304) = false := beq_eq_false_iff_ne.mpr c7
        have c7b1 : (t300 != t304) = true := bne_iff_ne.mpr c7
        obtain rfl := Option.some.inj H
        go_enter Tryd.func6, Tryd.ntmps6
        go_wp2_with (first | ((with_reducible refine gate_callee (f := 15) rfl ?_); refine goesL_ (some 15) rfl rfl Tryd.func15 (by kernel_rfl) rfl #[.string a0] rfl (by (try simp only [List.map_toArray, List.map_cons, List.map_nil]); first | done | rfl | (simp only [List.length_drop, List.length_take]; rfl)) ?_; (with_reducible refine (host_Number.calls k a0 t298 t299 t300 t301 _ A3.out (HG_.out.below (by repeat (first | (with_reducible first | exact HB.out | apply below_alloc | apply pw_below_drewN | apply below_drew1) | exact HB.out)))).mono ?_); rintro e w31 ⟨rfl, hb⟩; refine ⟨_, rfl, ?_⟩; have n0_ := Aside0.mk (below_step (by repeat (first | (with_reducible first | exact HB.out | apply below_alloc | apply pw_below_drewN | apply below_drew1) | exact HB.out)) hb); clear HB; have HB := n0_; clear n0_; (try clear hb); (try clear hb2); (try clear hk); (try clear hi)) | ((with_reducible refine gate_callee (f := 16) rfl ?_); refine goesL_ (some 22) rfl rfl Tryd.func16 (by kernel_rfl) rfl #[.string a0] rfl (by (try simp only [List.map_toArray, List.map_cons, List.map_nil]); first | done | rfl | (simp only [List.length_drop, List.length_take]; rfl)) ?_; (with_reducible refine (marlinspikeref05_Number.calls k a0 t302 t303 t304 t305 _ A4.out).mono ?_); rintro e w' ⟨rfl, ⟨nd, rfl⟩⟩; refine ⟨_, rfl, ?_⟩))
        go_ret
        exact ⟨by first | rfl | (simp [errW_none, errW_some] <;> rfl) | (simp [*, errW_none, errW_some] <;> rfl), by repeat (first | (with_reducible first | exact HB.out | apply below_alloc | apply pw_below_drewN | apply below_drew1) | exact HB.out)⟩
    · rw [if_neg c6] at H
      have c6b0 : (t299 == t303) = false := beq_eq_false_iff_ne.mpr c6
      have c6b1 : (t299 != t303) = true := bne_iff_ne.mpr c6
      obtain rfl := Option.some.inj H
      go_enter Tryd.func6, Tryd.ntmps6
      go_wp2_with (first | ((with_reducible refine gate_callee (f := 15) rfl ?_); refine goesL_ (some 15) rfl rfl Tryd.func15 (by kernel_rfl) rfl #[.string a0] rfl (by (try simp only [List.map_toArray, List.map_cons, List.map_nil]); first | done | rfl | (simp only [List.length_drop, List.length_take]; rfl)) ?_; (with_reducible refine (host_Number.calls k a0 t298 t299 t300 t301 _ A3.out (HG_.out.below (by repeat (first | (with_reducible first | exact HB.out | apply below_alloc | apply pw_below_drewN | apply below_drew1) | exact HB.out)))).mono ?_); rintro e w32 ⟨rfl, hb⟩; refine ⟨_, rfl, ?_⟩; have n0_ := Aside0.mk (below_step (by repeat (first | (with_reducible first | exact HB.out | apply below_alloc | apply pw_below_drewN | apply below_drew1) | exact HB.out)) hb); clear HB; have HB := n0_; clear n0_; (try clear hb); (try clear hb2); (try clear hk); (try clear hi)) | ((with_reducible refine gate_callee (f := 16) rfl ?_); refine goesL_ (some 22) rfl rfl Tryd.func16 (by kernel_rfl) rfl #[.string a0] rfl (by (try simp only [List.map_toArray, List.map_cons, List.map_nil]); first | done | rfl | (simp only [List.length_drop, List.length_take]; rfl)) ?_; (with_reducible refine (marlinspikeref05_Number.calls k a0 t302 t303 t304 t305 _ A4.out).mono ?_); rintro e w' ⟨rfl, ⟨nd, rfl⟩⟩; refine ⟨_, rfl, ?_⟩))
      go_ret
      exact ⟨by first | rfl | (simp [errW_none, errW_some] <;> rfl) | (simp [*, errW_none, errW_some] <;> rfl), by repeat (first | (with_reducible first | exact HB.out | apply below_alloc | apply pw_below_drewN | apply below_drew1) | exact HB.out)⟩
  · rw [if_neg c5] at H
    have c5b0 : (t298.toList == t302.toList) = false := beq_eq_false_iff_ne.mpr c5
    have c5b1 : (t298.toList != t302.toList) = true := bne_iff_ne.mpr c5
    obtain rfl := Option.some.inj H
    go_enter Tryd.func6, Tryd.ntmps6
    go_wp2_with (first | ((with_reducible refine gate_callee (f := 15) rfl ?_); refine goesL_ (some 15) rfl rfl Tryd.func15 (by kernel_rfl) rfl #[.string a0] rfl (by (try simp only [List.map_toArray, List.map_cons, List.map_nil]); first | done | rfl | (simp only [List.length_drop, List.length_take]; rfl)) ?_; (with_reducible refine (host_Number.calls k a0 t298 t299 t300 t301 _ A3.out (HG_.out.below (by repeat (first | (with_reducible first | exact HB.out | apply below_alloc | apply pw_below_drewN | apply below_drew1) | exact HB.out)))).mono ?_); rintro e w33 ⟨rfl, hb⟩; refine ⟨_, rfl, ?_⟩; have n0_ := Aside0.mk (below_step (by repeat (first | (with_reducible first | exact HB.out | apply below_alloc | apply pw_below_drewN | apply below_drew1) | exact HB.out)) hb); clear HB; have HB := n0_; clear n0_; (try clear hb); (try clear hb2); (try clear hk); (try clear hi)) | ((with_reducible refine gate_callee (f := 16) rfl ?_); refine goesL_ (some 22) rfl rfl Tryd.func16 (by kernel_rfl) rfl #[.string a0] rfl (by (try simp only [List.map_toArray, List.map_cons, List.map_nil]); first | done | rfl | (simp only [List.length_drop, List.length_take]; rfl)) ?_; (with_reducible refine (marlinspikeref05_Number.calls k a0 t302 t303 t304 t305 _ A4.out).mono ?_); rintro e w' ⟨rfl, ⟨nd, rfl⟩⟩; refine ⟨_, rfl, ?_⟩))
    go_ret
    exact ⟨by first | rfl | (simp [errW_none, errW_some] <;> rfl) | (simp [*, errW_none, errW_some] <;> rfl), by repeat (first | (with_reducible first | exact HB.out | apply below_alloc | apply pw_below_drewN | apply below_drew1) | exact HB.out)⟩
end Go.Proofs.YtoammgpfbdcphaaDoor.Sr
end
