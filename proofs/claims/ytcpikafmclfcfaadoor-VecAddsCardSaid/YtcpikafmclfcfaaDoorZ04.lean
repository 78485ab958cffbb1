/- Part 4 of the proof of VecAddsCardSaid. -/
import Derived.Test.YtcpikafmclfcfaaDoorZ03
import Derived.Test.YtcpikafmclfcfaaDoorZ02
section
namespace Go.Proofs.YtcpikafmclfcfaaDoor.Vc
open Go.RowKit Go.Proofs.YtcpikafmclfcfaaDoorW.PrintWords Go.Proofs.YtcpikafmclfcfaaDoorW.PrintLast Go.Proofs.YtcpikafmclfcfaaDoorW.PrintMore Go.Proofs.YtcpikafmclfcfaaDoor.PV Go.Proofs.YtcpikafmclfcfaaDoor.Vl
set_option linter.unusedVariables false
set_option linter.unusedSimpArgs false
def fitsB (a b c x y z : Int) : Bool := decide (a ≤ x) && decide (b ≤ y) && decide (c ≤ z)
theorem fitsB_k (a b c x y z : Int) : fitsB a b c x y z = true ↔ ∀ k, k < 3 → pt a b c k ≤ pt x y z k := by
  simp only [fitsB, Bool.and_eq_true, decide_eq_true_eq]
  constructor
  · rintro ⟨⟨h0, h1⟩, h2⟩ k hk
    have : k = 0 ∨ k = 1 ∨ k = 2 := by omega
    rcases this with rfl | rfl | rfl <;> assumption
  · intro h
    exact ⟨⟨h 0 (by omega), h 1 (by omega)⟩, h 2 (by omega)⟩
theorem keep3 {W : World} {n m : Nat} {o : Obj} (h : W.heap[m]? = some o) (hne : m ≠ n) (u v s : Value) : (((W.setCell ⟨n, 0, none⟩ u).setCell ⟨n, 1, none⟩ v).setCell ⟨n, 2, none⟩ s).heap[m]? = some o := by
  rw [Below.heap_setCell _ ⟨n, 2, none⟩ _ m hne, Below.heap_setCell _ ⟨n, 1, none⟩ _ m hne, Below.heap_setCell _ ⟨n, 0, none⟩ _ m hne]; exact h
theorem put3 {W : World} {n : Nat} {x y z : Value} {t : TypeId} (h : W.heap[n]? = some (.cells #[x, y, z] t (0, 0))) (u v s : Value) : (((W.setCell ⟨n, 0, none⟩ u).setCell ⟨n, 1, none⟩ v).setCell ⟨n, 2, none⟩ s).heap[n]? = some (.cells #[u, v, s] t (0, 0)) :=
  blk_put (blk_put (blk_put h 0 _ rfl) 1 _ rfl) 2 _ rfl
theorem below3 {w W : World} {n : Nat} (h : Below w.heap.size w W) (hn : w.heap.size ≤ n) (u v s : Value) : Below w.heap.size w (((W.setCell ⟨n, 0, none⟩ u).setCell ⟨n, 1, none⟩ v).setCell ⟨n, 2, none⟩ s) :=
  ((h.setCell (p := ⟨n, 0, none⟩) hn _).setCell (p := ⟨n, 1, none⟩) hn _).setCell (p := ⟨n, 2, none⟩) hn _
set_option maxHeartbeats 8000000 in
set_option maxRecDepth 100000 in
theorem Fits_calls (a b c x y z : Int) (w : World) : Calls Tryd.prog 17 #[vecV a b c, vecV x y z] w fun e w' => e = .returned (.bool (fitsB a b c x y z)) ∧ Below w.heap.size w w' := by
  have hu23 := Tryd.underlying23
  have hu51 := Tryd.underlying51
  go_enter Tryd.func17, Tryd.ntmps17
  go_wp2_with fail
  obtain ⟨w0, hw0⟩ : ∃ w0, (w.alloc (.cells #[.int .i64 a, .int .i64 b, .int .i64 c] 23)).alloc (.cells #[.int .i64 x, .int .i64 y, .int .i64 z] 23) = w0 := ⟨_, rfl⟩
  have HBa := Aside0.mk (below_alloc (below_alloc (Below.refl w.heap.size w) (.cells #[.int .i64 a, .int .i64 b, .int .i64 c] 23)) (.cells #[.int .i64 x, .int .i64 y, .int .i64 z] 23))
  have BVa := Aside0.mk (blk_alloc (blk_new w (.cells #[.int .i64 a, .int .i64 b, .int .i64 c] 23)) (.cells #[.int .i64 x, .int .i64 y, .int .i64 z] 23))
  have BWa := Aside0.mk (blk_new (w.alloc (.cells #[.int .i64 a, .int .i64 b, .int .i64 c] 23)) (.cells #[.int .i64 x, .int .i64 y, .int .i64 z] 23))
  rw [World.size_alloc] at BWa
  rw [hw0] at HBa BVa BWa ⊢
  clear hw0
  have HB0 := Aside0.mk (below_drew HBa.out)
  have BV := Aside0.mk (blk_drew BVa.out)
  have BW := Aside0.mk (blk_drew BWa.out)
  clear HBa BVa BWa
  refine start_ (n := 8) (S := fun w' => (w'.cell? ⟨w.heap.size, 0, none⟩ = some (.int .i64 a) ∧ w'.cell? ⟨w.heap.size, 1, none⟩ = some (.int .i64 b) ∧ w'.cell? ⟨w.heap.size, 2, none⟩ = some (.int .i64 c)) ∧ (w'.cell? ⟨w.heap.size + 1, 0, none⟩ = some (.int .i64 x) ∧ w'.cell? ⟨w.heap.size + 1, 1, none⟩ = some (.int .i64 y) ∧ w'.cell? ⟨w.heap.size + 1, 2, none⟩ = some (.int .i64 z))) (ds := []) #[false, false, false, false, false, false, false, false] (by kernel_rfl) rfl rfl ⟨cell3 BV.out, cell3 BW.out⟩ (fun hHeld => ?_)
  refine take_ (i := 0) (N := some 8) (v := ?_) (a' := ?_) #[true, false, false, false, false, false, false, false] rfl rfl (by kernel_rfl) (fun _ _ _ h => h) (Or.inl ⟨by rfl, ?_⟩) hHeld ?_ ?_
  rotate_left
  · rintro w' ⟨⟨s0, s1, s2⟩, ⟨s3, s4, s5⟩⟩
    go_simp
    with_reducible rfl
  rotate_left
  · simp only [Act.put, List.setIfInBounds_toArray, List.set_cons_zero, List.set_cons_succ, i64_w, i32_w]
    rfl
  refine take_ (i := 2) (N := some 10) (v := ?_) (a' := ?_) #[true, false, true, false, false, false, false, false] rfl rfl (by kernel_rfl) (fun _ _ _ h => h) (Or.inl ⟨by rfl, ?_⟩) hHeld ?_ ?_
  rotate_left
  · rintro w' ⟨⟨s0, s1, s2⟩, ⟨s3, s4, s5⟩⟩
    go_simp
    with_reducible rfl
  rotate_left
  · simp only [Act.put, List.setIfInBounds_toArray, List.set_cons_zero, List.set_cons_succ, i64_w, i32_w]
    rfl
  obtain ⟨wd, hwd⟩ : ∃ wd, w0.drew = wd := ⟨_, rfl⟩
  rw [hwd] at HB0 BV BW ⊢
  clear hwd
  refine join_ (σ := Nat × Nat) 2 #[true, true, true, true, true, true, false, false] (fun s => [(9, vecV a b c), (11, vecV x y z), (5, .pointer (some ⟨s.1, 0, none⟩)), (6, .pointer (some ⟨s.2, 0, none⟩))])
    (fun s w' => Aside0 (Below w.heap.size w w') ∧ Aside0 (s.1 ≠ s.2) ∧ Aside0 (w.heap.size + 1 < s.1) ∧ Aside0 (w.heap.size + 1 < s.2) ∧ Aside0 (w'.heap[s.1]? = some (.cells #[.int .i64 0, .int .i64 0, .int .i64 0] 51 (0, 0))) ∧ Aside0 (w'.heap[s.2]? = some (.cells #[.int .i64 0, .int .i64 0, .int .i64 0] 51 (0, 0))) ∧ Aside0 (w'.heap[w.heap.size]? = some (.cells #[.int .i64 a, .int .i64 b, .int .i64 c] 23 (0, 0))) ∧ Aside0 (w'.heap[w.heap.size + 1]? = some (.cells #[.int .i64 x, .int .i64 y, .int .i64 z] 23 (0, 0)))) ?_ ?_
  rotate_left
  · intro hJ
    refine three_ (i := 1) (j := 4) (k := 5) (Ni := some 9) (Nj := some 5) (Nk := some 6) #[true, true, true, false, false, false, false, false] #[true, false, true, false, true, false, false, false] #[true, false, true, false, false, true, false, false] rfl rfl rfl rfl rfl rfl (by kernel_rfl) (by decide) (by decide) (by decide) (fun K hK => ?_) (fun K hK => ?_) (fun K hK => ?_)
    · refine goes_ Tryd.func37 (by kernel_rfl) rfl #[vecV a b c] (by rfl) rfl rfl (by (try simp only [List.map_toArray, List.map_cons, List.map_nil]); first | done | rfl) ?_
      refine (parts_calls a b c _).mono ?_
      rintro e w1 ⟨rfl, hb⟩
      have HB1_ := Aside0.mk (below_then HB0.out HB0.out.size hb)
      have BV_1 := Aside0.mk (blk_below BV.out hb)
      have BW_1 := Aside0.mk (blk_below BW.out hb)
      clear hb
      refine ⟨_, rfl, ?_⟩
      refine hK.out _ _ ⟨cell3 BV_1.out, cell3 BW_1.out⟩ (fun hHeld => ?_)
      clear hK K
      refine norm_ (a' := ?_) ?_ ?_
      rotate_left
      · show Act.put _ (some 9) _ = _
        simp only [Act.put, List.setIfInBounds_toArray, List.set_cons_zero, List.set_cons_succ, i64_w, i32_w]
        rfl
      refine three_ (i := 3) (j := 4) (k := 5) (Ni := some 11) (Nj := some 5) (Nk := some 6) #[true, true, true, true, false, false, false, false] #[true, true, true, false, true, false, false, false] #[true, true, true, false, false, true, false, false] rfl rfl rfl rfl rfl rfl (by kernel_rfl) (by decide) (by decide) (by decide) (fun K hK => ?_) (fun K hK => ?_) (fun K hK => ?_)
      · refine goes_ Tryd.func37 (by kernel_rfl) rfl #[vecV x y z] (by rfl) rfl rfl (by (try simp only [List.map_toArray, List.map_cons, List.map_nil]); first | done | rfl) ?_
        refine (parts_calls x y z _).mono ?_
        rintro e w2 ⟨rfl, hb⟩
        have HB2_ := Aside0.mk (below_then HB1_.out HB1_.out.size hb)
        have BV_2 := Aside0.mk (blk_below BV_1.out hb)
        have BW_2 := Aside0.mk (blk_below BW_1.out hb)
        clear hb
        refine ⟨_, rfl, ?_⟩
        refine hK.out _ _ ⟨cell3 BV_2.out, cell3 BW_2.out⟩ (fun hHeld => ?_)
        clear hK K
        refine norm_ (a' := ?_) ?_ ?_
        rotate_left
        · show Act.put _ (some 11) _ = _
          simp only [Act.put, List.setIfInBounds_toArray, List.set_cons_zero, List.set_cons_succ, i64_w, i32_w]
          rfl
        refine two_ (i := 4) (j := 5) (Ni := some 5) (Nj := some 6) #[true, true, true, true, true, false, false, false] #[true, true, true, true, false, true, false, false] rfl rfl rfl rfl (by kernel_rfl) (by decide) (by decide) (fun K hK => ?_) (fun K hK => ?_)
        · refine value_ (w1 := ?_) (v := ?_) (by rfl) rfl ?_ ?_
          rotate_left 2
          · go_simp
            constructor
            · rfl
            · rfl
          have HB3_ := Aside0.mk (below_alloc HB2_.out (.cells #[.int .i64 0, .int .i64 0, .int .i64 0] 51))
          have BV_3 := Aside0.mk (blk_alloc BV_2.out (.cells #[.int .i64 0, .int .i64 0, .int .i64 0] 51))
          have BW_3 := Aside0.mk (blk_alloc BW_2.out (.cells #[.int .i64 0, .int .i64 0, .int .i64 0] 51))
          have P5_3 := Aside0.mk (blk_new w2 (.cells #[.int .i64 0, .int .i64 0, .int .i64 0] 51))
          have P5L_3 := Aside0.mk (blk_lt BW_2.out)
          obtain ⟨n3, hn3⟩ : ∃ n, w2.heap.size = n := ⟨_, rfl⟩
          obtain ⟨w3, hw3⟩ : ∃ w', w2.alloc (.cells #[.int .i64 0, .int .i64 0, .int .i64 0] 51) = w' := ⟨_, rfl⟩
          rw [hn3] at P5_3 P5L_3 ⊢
          rw [hw3] at BV_3 BW_3 P5_3 HB3_ ⊢
          clear hn3 hw3
          refine hK.out _ _ ⟨cell3 BV_3.out, cell3 BW_3.out⟩ (fun hHeld => ?_)
          clear hK K
          refine norm_ (a' := ?_) ?_ ?_
          rotate_left
          · show Act.put _ (some 5) _ = _
            simp only [Act.put, List.setIfInBounds_toArray, List.set_cons_zero, List.set_cons_succ, i64_w, i32_w]
            rfl
          refine one_ (i := 5) (N := some 6) #[true, true, true, true, true, true, false, false] rfl rfl (by kernel_rfl) (by decide) (fun K hK => ?_)
          refine value_ (w1 := ?_) (v := ?_) (by rfl) rfl ?_ ?_
          rotate_left 2
          · go_simp
            constructor
            · rfl
            · rfl
          have HB4_ := Aside0.mk (below_alloc HB3_.out (.cells #[.int .i64 0, .int .i64 0, .int .i64 0] 51))
          have BV_4 := Aside0.mk (blk_alloc BV_3.out (.cells #[.int .i64 0, .int .i64 0, .int .i64 0] 51))
          have BW_4 := Aside0.mk (blk_alloc BW_3.out (.cells #[.int .i64 0, .int .i64 0, .int .i64 0] 51))
          have P5_4 := Aside0.mk (blk_alloc P5_3.out (.cells #[.int .i64 0, .int .i64 0, .int .i64 0] 51))
          have P6_4 := Aside0.mk (blk_new w3 (.cells #[.int .i64 0, .int .i64 0, .int .i64 0] 51))
          have P6L_4 := Aside0.mk (blk_lt BW_3.out)
          have NE_4 := Aside0.mk (show n3 ≠ w3.heap.size from fun h => by have := blk_lt P5_3.out; omega)
          obtain ⟨n4, hn4⟩ : ∃ n, w3.heap.size = n := ⟨_, rfl⟩
          obtain ⟨w4, hw4⟩ : ∃ w', w3.alloc (.cells #[.int .i64 0, .int .i64 0, .int .i64 0] 51) = w' := ⟨_, rfl⟩
          rw [hn4] at P6_4 P6L_4 NE_4 ⊢
          rw [hw4] at BV_4 BW_4 P5_4 P6_4 HB4_ ⊢
          clear hn4 hw4
          refine hK.out _ _ ⟨cell3 BV_4.out, cell3 BW_4.out⟩ (fun hHeld => ?_)
          clear hK K
          refine norm_ (a' := ?_) ?_ ?_
          rotate_left
          · show Act.put _ (some 6) _ = _
            simp only [Act.put, List.setIfInBounds_toArray, List.set_cons_zero, List.set_cons_succ, i64_w, i32_w]
            rfl
          refine norm_ (a' := putAll _ [(9, vecV a b c), (11, vecV x y z), (5, .pointer (some ⟨n3, 0, none⟩)), (6, .pointer (some ⟨n4, 0, none⟩))]) ?_ (hJ (n3, n4) w4 ⟨HB4_, ⟨NE_4.out⟩, P5L_3, P6L_4, P5_4, P6_4, BV_4, BW_4⟩)
          simp only [putAll, Act.put, List.setIfInBounds_toArray, List.set_cons_zero, List.set_cons_succ]
        · refine value_ (w1 := ?_) (v := ?_) (by rfl) rfl ?_ ?_
          rotate_left 2
          · go_simp
            constructor
            · rfl
            · rfl
          have HB5_ := Aside0.mk (below_alloc HB2_.out (.cells #[.int .i64 0, .int .i64 0, .int .i64 0] 51))
          have BV_5 := Aside0.mk (blk_alloc BV_2.out (.cells #[.int .i64 0, .int .i64 0, .int .i64 0] 51))
          have BW_5 := Aside0.mk (blk_alloc BW_2.out (.cells #[.int .i64 0, .int .i64 0, .int .i64 0] 51))
          have P6_5 := Aside0.mk (blk_new w2 (.cells #[.int .i64 0, .int .i64 0, .int .i64 0] 51))
          have P6L_5 := Aside0.mk (blk_lt BW_2.out)
          obtain ⟨n5, hn5⟩ : ∃ n, w2.heap.size = n := ⟨_, rfl⟩
          obtain ⟨w5, hw5⟩ : ∃ w', w2.alloc (.cells #[.int .i64 0, .int .i64 0, .int .i64 0] 51) = w' := ⟨_, rfl⟩
          rw [hn5] at P6_5 P6L_5 ⊢
          rw [hw5] at BV_5 BW_5 P6_5 HB5_ ⊢
          clear hn5 hw5
          refine hK.out _ _ ⟨cell3 BV_5.out, cell3 BW_5.out⟩ (fun hHeld => ?_)
          clear hK K
          refine norm_ (a' := ?_) ?_ ?_
          rotate_left
          · show Act.put _ (some 6) _ = _
            simp only [Act.put, List.setIfInBounds_toArray, List.set_cons_zero, List.set_cons_succ, i64_w, i32_w]
            rfl
          refine one_ (i := 4) (N := some 5) #[true, true, true, true, true, true, false, false] rfl rfl (by kernel_rfl) (by decide) (fun K hK => ?_)
          refine value_ (w1 := ?_) (v := ?_) (by rfl) rfl ?_ ?_
          rotate_left 2
          · go_simp
            constructor
            · rfl
            · rfl
          have HB6_ := Aside0.mk (below_alloc HB5_.out (.cells #[.int .i64 0, .int .i64 0, .int .i64 0] 51))
          have BV_6 := Aside0.mk (blk_alloc BV_5.out (.cells #[.int .i64 0, .int .i64 0, .int .i64 0] 51))
          have BW_6 := Aside0.mk (blk_alloc BW_5.out (.cells #[.int .i64 0, .int .i64 0, .int .i64 0] 51))
          have P6_6 := Aside0.mk (blk_alloc P6_5.out (.cells #[.int .i64 0, .int .i64 0, .int .i64 0] 51))
          have P5_6 := Aside0.mk (blk_new w5 (.cells #[.int .i64 0, .int .i64 0, .int .i64 0] 51))
          have P5L_6 := Aside0.mk (blk_lt BW_5.out)
          have NE_6 := Aside0.mk (show n5 ≠ w5.heap.size from fun h => by have := blk_lt P6_5.out; omega)
          obtain ⟨n6, hn6⟩ : ∃ n, w5.heap.size = n := ⟨_, rfl⟩
          obtain ⟨w6, hw6⟩ : ∃ w', w5.alloc (.cells #[.int .i64 0, .int .i64 0, .int .i64 0] 51) = w' := ⟨_, rfl⟩
          rw [hn6] at P5_6 P5L_6 NE_6 ⊢
          rw [hw6] at BV_6 BW_6 P6_6 P5_6 HB6_ ⊢
          clear hn6 hw6
          refine hK.out _ _ ⟨cell3 BV_6.out, cell3 BW_6.out⟩ (fun hHeld => ?_)
          clear hK K
          refine norm_ (a' := ?_) ?_ ?_
          rotate_left
          · show Act.put _ (some 5) _ = _
            simp only [Act.put, List.setIfInBounds_toArray, List.set_cons_zero, List.set_cons_succ, i64_w, i32_w]
            rfl
          refine norm_ (a' := putAll _ [(9, vecV a b c), (11, vecV x y z), (5, .pointer (some ⟨n6, 0, none⟩)), (6, .pointer (some ⟨n5, 0, none⟩))]) ?_ (hJ (n6, n5) w6 ⟨HB6_, ⟨(Ne.symm NE_6.out)⟩, P5L_6, P6L_5, P5_6, P6_6, BV_6, BW_6⟩)
          simp only [putAll, Act.put, List.setIfInBounds_toArray, List.set_cons_zero, List.set_cons_succ]
      · refine value_ (w1 := ?_) (v := ?_) (by rfl) rfl ?_ ?_
        rotate_left 2
        · go_simp
          constructor
          · rfl
          · rfl
        have HB7_ := Aside0.mk (below_alloc HB1_.out (.cells #[.int .i64 0, .int .i64 0, .int .i64 0] 51))
        have BV_7 := Aside0.mk (blk_alloc BV_1.out (.cells #[.int .i64 0, .int .i64 0, .int .i64 0] 51))
        have BW_7 := Aside0.mk (blk_alloc BW_1.out (.cells #[.int .i64 0, .int .i64 0, .int .i64 0] 51))
        have P5_7 := Aside0.mk (blk_new w1 (.cells #[.int .i64 0, .int .i64 0, .int .i64 0] 51))
        have P5L_7 := Aside0.mk (blk_lt BW_1.out)
        obtain ⟨n7, hn7⟩ : ∃ n, w1.heap.size = n := ⟨_, rfl⟩
        obtain ⟨w7, hw7⟩ : ∃ w', w1.alloc (.cells #[.int .i64 0, .int .i64 0, .int .i64 0] 51) = w' := ⟨_, rfl⟩
        rw [hn7] at P5_7 P5L_7 ⊢
        rw [hw7] at BV_7 BW_7 P5_7 HB7_ ⊢
        clear hn7 hw7
        refine hK.out _ _ ⟨cell3 BV_7.out, cell3 BW_7.out⟩ (fun hHeld => ?_)
        clear hK K
        refine norm_ (a' := ?_) ?_ ?_
        rotate_left
        · show Act.put _ (some 5) _ = _
          simp only [Act.put, List.setIfInBounds_toArray, List.set_cons_zero, List.set_cons_succ, i64_w, i32_w]
          rfl
        refine two_ (i := 3) (j := 5) (Ni := some 11) (Nj := some 6) #[true, true, true, true, true, false, false, false] #[true, true, true, false, true, true, false, false] rfl rfl rfl rfl (by kernel_rfl) (by decide) (by decide) (fun K hK => ?_) (fun K hK => ?_)
        · refine goes_ Tryd.func37 (by kernel_rfl) rfl #[vecV x y z] (by rfl) rfl rfl (by (try simp only [List.map_toArray, List.map_cons, List.map_nil]); first | done | rfl) ?_
          refine (parts_calls x y z _).mono ?_
          rintro e w8 ⟨rfl, hb⟩
          have HB8_ := Aside0.mk (below_then HB7_.out HB7_.out.size hb)
          have BV_8 := Aside0.mk (blk_below BV_7.out hb)
          have BW_8 := Aside0.mk (blk_below BW_7.out hb)
          have P5_8 := Aside0.mk (blk_below P5_7.out hb)
          clear hb
          refine ⟨_, rfl, ?_⟩
          refine hK.out _ _ ⟨cell3 BV_8.out, cell3 BW_8.out⟩ (fun hHeld => ?_)
          clear hK K
          refine norm_ (a' := ?_) ?_ ?_
          rotate_left
          · show Act.put _ (some 11) _ = _
            simp only [Act.put, List.setIfInBounds_toArray, List.set_cons_zero, List.set_cons_succ, i64_w, i32_w]
            rfl
          refine one_ (i := 5) (N := some 6) #[true, true, true, true, true, true, false, false] rfl rfl (by kernel_rfl) (by decide) (fun K hK => ?_)
          refine value_ (w1 := ?_) (v := ?_) (by rfl) rfl ?_ ?_
          rotate_left 2
          · go_simp
            constructor
            · rfl
            · rfl
          have HB9_ := Aside0.mk (below_alloc HB8_.out (.cells #[.int .i64 0, .int .i64 0, .int .i64 0] 51))
          have BV_9 := Aside0.mk (blk_alloc BV_8.out (.cells #[.int .i64 0, .int .i64 0, .int .i64 0] 51))
          have BW_9 := Aside0.mk (blk_alloc BW_8.out (.cells #[.int .i64 0, .int .i64 0, .int .i64 0] 51))
          have P5_9 := Aside0.mk (blk_alloc P5_8.out (.cells #[.int .i64 0, .int .i64 0, .int .i64 0] 51))
          have P6_9 := Aside0.mk (blk_new w8 (.cells #[.int .i64 0, .int .i64 0, .int .i64 0] 51))
          have P6L_9 := Aside0.mk (blk_lt BW_8.out)
          have NE_9 := Aside0.mk (show n7 ≠ w8.heap.size from fun h => by have := blk_lt P5_8.out; omega)
          obtain ⟨n9, hn9⟩ : ∃ n, w8.heap.size = n := ⟨_, rfl⟩
          obtain ⟨w9, hw9⟩ : ∃ w', w8.alloc (.cells #[.int .i64 0, .int .i64 0, .int .i64 0] 51) = w' := ⟨_, rfl⟩
          rw [hn9] at P6_9 P6L_9 NE_9 ⊢
          rw [hw9] at BV_9 BW_9 P5_9 P6_9 HB9_ ⊢
          clear hn9 hw9
          refine hK.out _ _ ⟨cell3 BV_9.out, cell3 BW_9.out⟩ (fun hHeld => ?_)
          clear hK K
          refine norm_ (a' := ?_) ?_ ?_
          rotate_left
          · show Act.put _ (some 6) _ = _
            simp only [Act.put, List.setIfInBounds_toArray, List.set_cons_zero, List.set_cons_succ, i64_w, i32_w]
            rfl
          refine norm_ (a' := putAll _ [(9, vecV a b c), (11, vecV x y z), (5, .pointer (some ⟨n7, 0, none⟩)), (6, .pointer (some ⟨n9, 0, none⟩))]) ?_ (hJ (n7, n9) w9 ⟨HB9_, ⟨NE_9.out⟩, P5L_7, P6L_9, P5_9, P6_9, BV_9, BW_9⟩)
          simp only [putAll, Act.put, List.setIfInBounds_toArray, List.set_cons_zero, List.set_cons_succ]
        · refine value_ (w1 := ?_) (v := ?_) (by rfl) rfl ?_ ?_
          rotate_left 2
          · go_simp
            constructor
            · rfl
            · rfl
          have HB10_ := Aside0.mk (below_alloc HB7_.out (.cells #[.int .i64 0, .int .i64 0, .int .i64 0] 51))
          have BV_10 := Aside0.mk (blk_alloc BV_7.out (.cells #[.int .i64 0, .int .i64 0, .int .i64 0] 51))
          have BW_10 := Aside0.mk (blk_alloc BW_7.out (.cells #[.int .i64 0, .int .i64 0, .int .i64 0] 51))
          have P5_10 := Aside0.mk (blk_alloc P5_7.out (.cells #[.int .i64 0, .int .i64 0, .int .i64 0] 51))
          have P6_10 := Aside0.mk (blk_new w7 (.cells #[.int .i64 0, .int .i64 0, .int .i64 0] 51))
          have P6L_10 := Aside0.mk (blk_lt BW_7.out)
          have NE_10 := Aside0.mk (show n7 ≠ w7.heap.size from fun h => by have := blk_lt P5_7.out; omega)
          obtain ⟨n10, hn10⟩ : ∃ n, w7.heap.size = n := ⟨_, rfl⟩
          obtain ⟨w10, hw10⟩ : ∃ w', w7.alloc (.cells #[.int .i64 0, .int .i64 0, .int .i64 0] 51) = w' := ⟨_, rfl⟩
          rw [hn10] at P6_10 P6L_10 NE_10 ⊢
          rw [hw10] at BV_10 BW_10 P5_10 P6_10 HB10_ ⊢
          clear hn10 hw10
          refine hK.out _ _ ⟨cell3 BV_10.out, cell3 BW_10.out⟩ (fun hHeld => ?_)
          clear hK K
          refine norm_ (a' := ?_) ?_ ?_
          rotate_left
          · show Act.put _ (some 6) _ = _
            simp only [Act.put, List.setIfInBounds_toArray, List.set_cons_zero, List.set_cons_succ, i64_w, i32_w]
            rfl
          refine one_ (i := 3) (N := some 11) #[true, true, true, true, true, true, false, false] rfl rfl (by kernel_rfl) (by decide) (fun K hK => ?_)
          refine goes_ Tryd.func37 (by kernel_rfl) rfl #[vecV x y z] (by rfl) rfl rfl (by (try simp only [List.map_toArray, List.map_cons, List.map_nil]); first | done | rfl) ?_
          refine (parts_calls x y z _).mono ?_
          rintro e w11 ⟨rfl, hb⟩
          have HB11_ := Aside0.mk (below_then HB10_.out HB10_.out.size hb)
          have BV_11 := Aside0.mk (blk_below BV_10.out hb)
          have BW_11 := Aside0.mk (blk_below BW_10.out hb)
          have P5_11 := Aside0.mk (blk_below P5_10.out hb)
          have P6_11 := Aside0.mk (blk_below P6_10.out hb)
          clear hb
          refine ⟨_, rfl, ?_⟩
          refine hK.out _ _ ⟨cell3 BV_11.out, cell3 BW_11.out⟩ (fun hHeld => ?_)
          clear hK K
          refine norm_ (a' := ?_) ?_ ?_
          rotate_left
          · show Act.put _ (some 11) _ = _
            simp only [Act.put, List.setIfInBounds_toArray, List.set_cons_zero, List.set_cons_succ, i64_w, i32_w]
            rfl
          refine norm_ (a' := putAll _ [(9, vecV a b c), (11, vecV x y z), (5, .pointer (some ⟨n7, 0, none⟩)), (6, .pointer (some ⟨n10, 0, none⟩))]) ?_ (hJ (n7, n10) w11 ⟨HB11_, ⟨NE_10.out⟩, P5L_7, P6L_10, P5_11, P6_11, BV_11, BW_11⟩)
          simp only [putAll, Act.put, List.setIfInBounds_toArray, List.set_cons_zero, List.set_cons_succ]
      · refine value_ (w1 := ?_) (v := ?_) (by rfl) rfl ?_ ?_
        rotate_left 2
        · go_simp
          constructor
          · rfl
          · rfl
        have HB12_ := Aside0.mk (below_alloc HB1_.out (.cells #[.int .i64 0, .int .i64 0, .int .i64 0] 51))
        have BV_12 := Aside0.mk (blk_alloc BV_1.out (.cells #[.int .i64 0, .int .i64 0, .int .i64 0] 51))
        have BW_12 := Aside0.mk (blk_alloc BW_1.out (.cells #[.int .i64 0, .int .i64 0, .int .i64 0] 51))
        have P6_12 := Aside0.mk (blk_new w1 (.cells #[.int .i64 0, .int .i64 0, .int .i64 0] 51))
        have P6L_12 := Aside0.mk (blk_lt BW_1.out)
        obtain ⟨n12, hn12⟩ : ∃ n, w1.heap.size = n := ⟨_, rfl⟩
        obtain ⟨w12, hw12⟩ : ∃ w', w1.alloc (.cells #[.int .i64 0, .int .i64 0, .int .i64 0] 51) = w' := ⟨_, rfl⟩
        rw [hn12] at P6_12 P6L_12 ⊢
        rw [hw12] at BV_12 BW_12 P6_12 HB12_ ⊢
        clear hn12 hw12
        refine hK.out _ _ ⟨cell3 BV_12.out, cell3 BW_12.out⟩ (fun hHeld => ?_)
        clear hK K
        refine norm_ (a' := ?_) ?_ ?_
        rotate_left
        · show Act.put _ (some 6) _ = _
          simp only [Act.put, List.setIfInBounds_toArray, List.set_cons_zero, List.set_cons_succ, i64_w, i32_w]
          rfl
        refine two_ (i := 3) (j := 4) (Ni := some 11) (Nj := some 5) #[true, true, true, true, false, true, false, false] #[true, true, true, false, true, true, false, false] rfl rfl rfl rfl (by kernel_rfl) (by decide) (by decide) (fun K hK => ?_) (fun K hK => ?_)
        · refine goes_ Tryd.func37 (by kernel_rfl) rfl #[vecV x y z] (by rfl) rfl rfl (by (try simp only [List.map_toArray, List.map_cons, List.map_nil]); first | done | rfl) ?_
          refine (parts_calls x y z _).mono ?_
          rintro e w13 ⟨rfl, hb⟩
          have HB13_ := Aside0.mk (below_then HB12_.out HB12_.out.size hb)
          have BV_13 := Aside0.mk (blk_below BV_12.out hb)
          have BW_13 := Aside0.mk (blk_below BW_12.out hb)
          have P6_13 := Aside0.mk (blk_below P6_12.out hb)
          clear hb
          refine ⟨_, rfl, ?_⟩
          refine hK.out _ _ ⟨cell3 BV_13.out, cell3 BW_13.out⟩ (fun hHeld => ?_)
          clear hK K
          refine norm_ (a' := ?_) ?_ ?_
          rotate_left
          · show Act.put _ (some 11) _ = _
            simp only [Act.put, List.setIfInBounds_toArray, List.set_cons_zero, List.set_cons_succ, i64_w, i32_w]
            rfl
          refine one_ (i := 4) (N := some 5) #[true, true, true, true, true, true, false, false] rfl rfl (by kernel_rfl) (by decide) (fun K hK => ?_)
          refine value_ (w1 := ?_) (v := ?_) (by rfl) rfl ?_ ?_
          rotate_left 2
          · go_simp
            constructor
            · rfl
            · rfl
          have HB14_ := Aside0.mk (below_alloc HB13_.out (.cells #[.int .i64 0, .int .i64 0, .int .i64 0] 51))
          have BV_14 := Aside0.mk (blk_alloc BV_13.out (.cells #[.int .i64 0, .int .i64 0, .int .i64 0] 51))
          have BW_14 := Aside0.mk (blk_alloc BW_13.out (.cells #[.int .i64 0, .int .i64 0, .int .i64 0] 51))
          have P6_14 := Aside0.mk (blk_alloc P6_13.out (.cells #[.int .i64 0, .int .i64 0, .int .i64 0] 51))
          have P5_14 := Aside0.mk (blk_new w13 (.cells #[.int .i64 0, .int .i64 0, .int .i64 0] 51))
          have P5L_14 := Aside0.mk (blk_lt BW_13.out)
          have NE_14 := Aside0.mk (show n12 ≠ w13.heap.size from fun h => by have := blk_lt P6_13.out; omega)
          obtain ⟨n14, hn14⟩ : ∃ n, w13.heap.size = n := ⟨_, rfl⟩
          obtain ⟨w14, hw14⟩ : ∃ w', w13.alloc (.cells #[.int .i64 0, .int .i64 0, .int .i64 0] 51) = w' := ⟨_, rfl⟩
          rw [hn14] at P5_14 P5L_14 NE_14 ⊢
          rw [hw14] at BV_14 BW_14 P6_14 P5_14 HB14_ ⊢
          clear hn14 hw14
          refine hK.out _ _ ⟨cell3 BV_14.out, cell3 BW_14.out⟩ (fun hHeld => ?_)
          clear hK K
          refine norm_ (a' := ?_) ?_ ?_
          rotate_left
          · show Act.put _ (some 5) _ = _
            simp only [Act.put, List.setIfInBounds_toArray, List.set_cons_zero, List.set_cons_succ, i64_w, i32_w]
            rfl
          refine norm_ (a' := putAll _ [(9, vecV a b c), (11, vecV x y z), (5, .pointer (some ⟨n14, 0, none⟩)), (6, .pointer (some ⟨n12, 0, none⟩))]) ?_ (hJ (n14, n12) w14 ⟨HB14_, ⟨(Ne.symm NE_14.out)⟩, P5L_14, P6L_12, P5_14, P6_14, BV_14, BW_14⟩)
          simp only [putAll, Act.put, List.setIfInBounds_toArray, List.set_cons_zero, List.set_cons_succ]
        · refine value_ (w1 := ?_) (v := ?_) (by rfl) rfl ?_ ?_
          rotate_left 2
          · go_simp
            constructor
            · rfl
            · rfl
          have HB15_ := Aside0.mk (below_alloc HB12_.out (.cells #[.int .i64 0, .int .i64 0, .int .i64 0] 51))
          have BV_15 := Aside0.mk (blk_alloc BV_12.out (.cells #[.int .i64 0, .int .i64 0, .int .i64 0] 51))
          have BW_15 := Aside0.mk (blk_alloc BW_12.out (.cells #[.int .i64 0, .int .i64 0, .int .i64 0] 51))
          have P6_15 := Aside0.mk (blk_alloc P6_12.out (.cells #[.int .i64 0, .int .i64 0, .int .i64 0] 51))
          have P5_15 := Aside0.mk (blk_new w12 (.cells #[.int .i64 0, .int .i64 0, .int .i64 0] 51))
          have P5L_15 := Aside0.mk (blk_lt BW_12.out)
          have NE_15 := Aside0.mk (show n12 ≠ w12.heap.size from fun h => by have := blk_lt P6_12.out; omega)
          obtain ⟨n15, hn15⟩ : ∃ n, w12.heap.size = n := ⟨_, rfl⟩
          obtain ⟨w15, hw15⟩ : ∃ w', w12.alloc (.cells #[.int .i64 0, .int .i64 0, .int .i64 0] 51) = w' := ⟨_, rfl⟩
          rw [hn15] at P5_15 P5L_15 NE_15 ⊢
          rw [hw15] at BV_15 BW_15 P6_15 P5_15 HB15_ ⊢
          clear hn15 hw15
          refine hK.out _ _ ⟨cell3 BV_15.out, cell3 BW_15.out⟩ (fun hHeld => ?_)
          clear hK K
          refine norm_ (a' := ?_) ?_ ?_
          rotate_left
          · show Act.put _ (some 5) _ = _
            simp only [Act.put, List.setIfInBounds_toArray, List.set_cons_zero, List.set_cons_succ, i64_w, i32_w]
            rfl
          refine one_ (i := 3) (N := some 11) #[true, true, true, true, true, true, false, false] rfl rfl (by kernel_rfl) (by decide) (fun K hK => ?_)
          refine goes_ Tryd.func37 (by kernel_rfl) rfl #[vecV x y z] (by rfl) rfl rfl (by (try simp only [List.map_toArray, List.map_cons, List.map_nil]); first | done | rfl) ?_
          refine (parts_calls x y z _).mono ?_
          rintro e w16 ⟨rfl, hb⟩
          have HB16_ := Aside0.mk (below_then HB15_.out HB15_.out.size hb)
          have BV_16 := Aside0.mk (blk_below BV_15.out hb)
          have BW_16 := Aside0.mk (blk_below BW_15.out hb)
          have P6_16 := Aside0.mk (blk_below P6_15.out hb)
          have P5_16 := Aside0.mk (blk_below P5_15.out hb)
          clear hb
          refine ⟨_, rfl, ?_⟩
          refine hK.out _ _ ⟨cell3 BV_16.out, cell3 BW_16.out⟩ (fun hHeld => ?_)
          clear hK K
          refine norm_ (a' := ?_) ?_ ?_
          rotate_left
          · show Act.put _ (some 11) _ = _
            simp only [Act.put, List.setIfInBounds_toArray, List.set_cons_zero, List.set_cons_succ, i64_w, i32_w]
            rfl
          refine norm_ (a' := putAll _ [(9, vecV a b c), (11, vecV x y z), (5, .pointer (some ⟨n15, 0, none⟩)), (6, .pointer (some ⟨n12, 0, none⟩))]) ?_ (hJ (n15, n12) w16 ⟨HB16_, ⟨(Ne.symm NE_15.out)⟩, P5L_15, P6L_12, P5_16, P6_16, BV_16, BW_16⟩)
          simp only [putAll, Act.put, List.setIfInBounds_toArray, List.set_cons_zero, List.set_cons_succ]
    · refine value_ (w1 := ?_) (v := ?_) (by rfl) rfl ?_ ?_
      rotate_left 2
      · go_simp
        constructor
        · rfl
        · rfl
      have HB17_ := Aside0.mk (below_alloc HB0.out (.cells #[.int .i64 0, .int .i64 0, .int .i64 0] 51))
      have BV_17 := Aside0.mk (blk_alloc BV.out (.cells #[.int .i64 0, .int .i64 0, .int .i64 0] 51))
      have BW_17 := Aside0.mk (blk_alloc BW.out (.cells #[.int .i64 0, .int .i64 0, .int .i64 0] 51))
      have P5_17 := Aside0.mk (blk_new wd (.cells #[.int .i64 0, .int .i64 0, .int .i64 0] 51))
      have P5L_17 := Aside0.mk (blk_lt BW.out)
      obtain ⟨n17, hn17⟩ : ∃ n, wd.heap.size = n := ⟨_, rfl⟩
      obtain ⟨w17, hw17⟩ : ∃ w', wd.alloc (.cells #[.int .i64 0, .int .i64 0, .int .i64 0] 51) = w' := ⟨_, rfl⟩
      rw [hn17] at P5_17 P5L_17 ⊢
      rw [hw17] at BV_17 BW_17 P5_17 HB17_ ⊢
      clear hn17 hw17
      refine hK.out _ _ ⟨cell3 BV_17.out, cell3 BW_17.out⟩ (fun hHeld => ?_)
      clear hK K
      refine norm_ (a' := ?_) ?_ ?_
      rotate_left
      · show Act.put _ (some 5) _ = _
        simp only [Act.put, List.setIfInBounds_toArray, List.set_cons_zero, List.set_cons_succ, i64_w, i32_w]
        rfl
      refine two_ (i := 1) (j := 5) (Ni := some 9) (Nj := some 6) #[true, true, true, false, true, false, false, false] #[true, false, true, false, true, true, false, false] rfl rfl rfl rfl (by kernel_rfl) (by decide) (by decide) (fun K hK => ?_) (fun K hK => ?_)
      · refine goes_ Tryd.func37 (by kernel_rfl) rfl #[vecV a b c] (by rfl) rfl rfl (by (try simp only [List.map_toArray, List.map_cons, List.map_nil]); first | done | rfl) ?_
        refine (parts_calls a b c _).mono ?_
        rintro e w18 ⟨rfl, hb⟩
        have HB18_ := Aside0.mk (below_then HB17_.out HB17_.out.size hb)
        have BV_18 := Aside0.mk (blk_below BV_17.out hb)
        have BW_18 := Aside0.mk (blk_below BW_17.out hb)
        have P5_18 := Aside0.mk (blk_below P5_17.out hb)
        clear hb
        refine ⟨_, rfl, ?_⟩
        refine hK.out _ _ ⟨cell3 BV_18.out, cell3 BW_18.out⟩ (fun hHeld => ?_)
        clear hK K
        refine norm_ (a' := ?_) ?_ ?_
        rotate_left
        · show Act.put _ (some 9) _ = _
          simp only [Act.put, List.setIfInBounds_toArray, List.set_cons_zero, List.set_cons_succ, i64_w, i32_w]
          rfl
        refine two_ (i := 3) (j := 5) (Ni := some 11) (Nj := some 6) #[true, true, true, true, true, false, false, false] #[true, true, true, false, true, true, false, false] rfl rfl rfl rfl (by kernel_rfl) (by decide) (by decide) (fun K hK => ?_) (fun K hK => ?_)
        · refine goes_ Tryd.func37 (by kernel_rfl) rfl #[vecV x y z] (by rfl) rfl rfl (by (try simp only [List.map_toArray, List.map_cons, List.map_nil]); first | done | rfl) ?_
          refine (parts_calls x y z _).mono ?_
          rintro e w19 ⟨rfl, hb⟩
          have HB19_ := Aside0.mk (below_then HB18_.out HB18_.out.size hb)
          have BV_19 := Aside0.mk (blk_below BV_18.out hb)
          have BW_19 := Aside0.mk (blk_below BW_18.out hb)
          have P5_19 := Aside0.mk (blk_below P5_18.out hb)
          clear hb
          refine ⟨_, rfl, ?_⟩
          refine hK.out _ _ ⟨cell3 BV_19.out, cell3 BW_19.out⟩ (fun hHeld => ?_)
          clear hK K
          refine norm_ (a' := ?_) ?_ ?_
          rotate_left
          · show Act.put _ (some 11) _ = _
            simp only [Act.put, List.setIfInBounds_toArray, List.set_cons_zero, List.set_cons_succ, i64_w, i32_w]
            rfl
          refine one_ (i := 5) (N := some 6) #[true, true, true, true, true, true, false, false] rfl rfl (by kernel_rfl) (by decide) (fun K hK => ?_)
          refine value_ (w1 := ?_) (v := ?_) (by rfl) rfl ?_ ?_
          rotate_left 2
          · go_simp
            constructor
            · rfl
            · rfl
          have HB20_ := Aside0.mk (below_alloc HB19_.out (.cells #[.int .i64 0, .int .i64 0, .int .i64 0] 51))
          have BV_20 := Aside0.mk (blk_alloc BV_19.out (.cells #[.int .i64 0, .int .i64 0, .int .i64 0] 51))
          have BW_20 := Aside0.mk (blk_alloc BW_19.out (.cells #[.int .i64 0, .int .i64 0, .int .i64 0] 51))
          have P5_20 := Aside0.mk (blk_alloc P5_19.out (.cells #[.int .i64 0, .int .i64 0, .int .i64 0] 51))
          have P6_20 := Aside0.mk (blk_new w19 (.cells #[.int .i64 0, .int .i64 0, .int .i64 0] 51))
          have P6L_20 := Aside0.mk (blk_lt BW_19.out)
          have NE_20 := Aside0.mk (show n17 ≠ w19.heap.size from fun h => by have := blk_lt P5_19.out; omega)
          obtain ⟨n20, hn20⟩ : ∃ n, w19.heap.size = n := ⟨_, rfl⟩
          obtain ⟨w20, hw20⟩ : ∃ w', w19.alloc (.cells #[.int .i64 0, .int .i64 0, .int .i64 0] 51) = w' := ⟨_, rfl⟩
          rw [hn20] at P6_20 P6L_20 NE_20 ⊢
          rw [hw20] at BV_20 BW_20 P5_20 P6_20 HB20_ ⊢
          clear hn20 hw20
          refine hK.out _ _ ⟨cell3 BV_20.out, cell3 BW_20.out⟩ (fun hHeld => ?_)
          clear hK K
          refine norm_ (a' := ?_) ?_ ?_
          rotate_left
          · show Act.put _ (some 6) _ = _
            simp only [Act.put, List.setIfInBounds_toArray, List.set_cons_zero, List.set_cons_succ, i64_w, i32_w]
            rfl
          refine norm_ (a' := putAll _ [(9, vecV a b c), (11, vecV x y z), (5, .pointer (some ⟨n17, 0, none⟩)), (6, .pointer (some ⟨n20, 0, none⟩))]) ?_ (hJ (n17, n20) w20 ⟨HB20_, ⟨NE_20.out⟩, P5L_17, P6L_20, P5_20, P6_20, BV_20, BW_20⟩)
          simp only [putAll, Act.put, List.setIfInBounds_toArray, List.set_cons_zero, List.set_cons_succ]
        · refine value_ (w1 := ?_) (v := ?_) (by rfl) rfl ?_ ?_
          rotate_left 2
          · go_simp
            constructor
            · rfl
            · rfl
          have HB21_ := Aside0.mk (below_alloc HB18_.out (.cells #[.int .i64 0, .int .i64 0, .int .i64 0] 51))
          have BV_21 := Aside0.mk (blk_alloc BV_18.out (.cells #[.int .i64 0, .int .i64 0, .int .i64 0] 51))
          have BW_21 := Aside0.mk (blk_alloc BW_18.out (.cells #[.int .i64 0, .int .i64 0, .int .i64 0] 51))
          have P5_21 := Aside0.mk (blk_alloc P5_18.out (.cells #[.int .i64 0, .int .i64 0, .int .i64 0] 51))
          have P6_21 := Aside0.mk (blk_new w18 (.cells #[.int .i64 0, .int .i64 0, .int .i64 0] 51))
          have P6L_21 := Aside0.mk (blk_lt BW_18.out)
          have NE_21 := Aside0.mk (show n17 ≠ w18.heap.size from fun h => by have := blk_lt P5_18.out; omega)
          obtain ⟨n21, hn21⟩ : ∃ n, w18.heap.size = n := ⟨_, rfl⟩
          obtain ⟨w21, hw21⟩ : ∃ w', w18.alloc (.cells #[.int .i64 0, .int .i64 0, .int .i64 0] 51) = w' := ⟨_, rfl⟩
          rw [hn21] at P6_21 P6L_21 NE_21 ⊢
          rw [hw21] at BV_21 BW_21 P5_21 P6_21 HB21_ ⊢
          clear hn21 hw21
          refine hK.out _ _ ⟨cell3 BV_21.out, cell3 BW_21.out⟩ (fun hHeld => ?_)
          clear hK K
          refine norm_ (a' := ?_) ?_ ?_
          rotate_left
          · show Act.put _ (some 6) _ = _
            simp only [Act.put, List.setIfInBounds_toArray, List.set_cons_zero, List.set_cons_succ, i64_w, i32_w]
            rfl
          refine one_ (i := 3) (N := some 11) #[true, true, true, true, true, true, false, false] rfl rfl (by kernel_rfl) (by decide) (fun K hK => ?_)
          refine goes_ Tryd.func37 (by kernel_rfl) rfl #[vecV x y z] (by rfl) rfl rfl (by (try simp only [List.map_toArray, List.map_cons, List.map_nil]); first | done | rfl) ?_
          refine (parts_calls x y z _).mono ?_
          rintro e w22 ⟨rfl, hb⟩
          have HB22_ := Aside0.mk (below_then HB21_.out HB21_.out.size hb)
          have BV_22 := Aside0.mk (blk_below BV_21.out hb)
          have BW_22 := Aside0.mk (blk_below BW_21.out hb)
          have P5_22 := Aside0.mk (blk_below P5_21.out hb)
          have P6_22 := Aside0.mk (blk_below P6_21.out hb)
          clear hb
          refine ⟨_, rfl, ?_⟩
          refine hK.out _ _ ⟨cell3 BV_22.out, cell3 BW_22.out⟩ (fun hHeld => ?_)
          clear hK K
          refine norm_ (a' := ?_) ?_ ?_
          rotate_left
          · show Act.put _ (some 11) _ = _
            simp only [Act.put, List.setIfInBounds_toArray, List.set_cons_zero, List.set_cons_succ, i64_w, i32_w]
            rfl
          refine norm_ (a' := putAll _ [(9, vecV a b c), (11, vecV x y z), (5, .pointer (some ⟨n17, 0, none⟩)), (6, .pointer (some ⟨n21, 0, none⟩))]) ?_ (hJ (n17, n21) w22 ⟨HB22_, ⟨NE_21.out⟩, P5L_17, P6L_21, P5_22, P6_22, BV_22, BW_22⟩)
          simp only [putAll, Act.put, List.setIfInBounds_toArray, List.set_cons_zero, List.set_cons_succ]
      · refine value_ (w1 := ?_) (v := ?_) (by rfl) rfl ?_ ?_
        rotate_left 2
        · go_simp
          constructor
          · rfl
          · rfl
        have HB23_ := Aside0.mk (below_alloc HB17_.out (.cells #[.int .i64 0, .int .i64 0, .int .i64 0] 51))
        have BV_23 := Aside0.mk (blk_alloc BV_17.out (.cells #[.int .i64 0, .int .i64 0, .int .i64 0] 51))
        have BW_23 := Aside0.mk (blk_alloc BW_17.out (.cells #[.int .i64 0, .int .i64 0, .int .i64 0] 51))
        have P5_23 := Aside0.mk (blk_alloc P5_17.out (.cells #[.int .i64 0, .int .i64 0, .int .i64 0] 51))
        have P6_23 := Aside0.mk (blk_new w17 (.cells #[.int .i64 0, .int .i64 0, .int .i64 0] 51))
        have P6L_23 := Aside0.mk (blk_lt BW_17.out)
        have NE_23 := Aside0.mk (show n17 ≠ w17.heap.size from fun h => by have := blk_lt P5_17.out; omega)
        obtain ⟨n23, hn23⟩ : ∃ n, w17.heap.size = n := ⟨_, rfl⟩
        obtain ⟨w23, hw23⟩ : ∃ w', w17.alloc (.cells #[.int .i64 0, .int .i64 0, .int .i64 0] 51) = w' := ⟨_, rfl⟩
        rw [hn23] at P6_23 P6L_23 NE_23 ⊢
        rw [hw23] at BV_23 BW_23 P5_23 P6_23 HB23_ ⊢
        clear hn23 hw23
        refine hK.out _ _ ⟨cell3 BV_23.out, cell3 BW_23.out⟩ (fun hHeld => ?_)
        clear hK K
        refine norm_ (a' := ?_) ?_ ?_
        rotate_left
        · show Act.put _ (some 6) _ = _
          simp only [Act.put, List.setIfInBounds_toArray, List.set_cons_zero, List.set_cons_succ, i64_w, i32_w]
          rfl
        refine one_ (i := 1) (N := some 9) #[true, true, true, false, true, true, false, false] rfl rfl (by kernel_rfl) (by decide) (fun K hK => ?_)
        refine goes_ Tryd.func37 (by kernel_rfl) rfl #[vecV a b c] (by rfl) rfl rfl (by (try simp only [List.map_toArray, List.map_cons, List.map_nil]); first | done | rfl) ?_
        refine (parts_calls a b c _).mono ?_
        rintro e w24 ⟨rfl, hb⟩
        have HB24_ := Aside0.mk (below_then HB23_.out HB23_.out.size hb)
        have BV_24 := Aside0.mk (blk_below BV_23.out hb)
        have BW_24 := Aside0.mk (blk_below BW_23.out hb)
        have P5_24 := Aside0.mk (blk_below P5_23.out hb)
        have P6_24 := Aside0.mk (blk_below P6_23.out hb)
        clear hb
        refine ⟨_, rfl, ?_⟩
        refine hK.out _ _ ⟨cell3 BV_24.out, cell3 BW_24.out⟩ (fun hHeld => ?_)
        clear hK K
        refine norm_ (a' := ?_) ?_ ?_
        rotate_left
        · show Act.put _ (some 9) _ = _
          simp only [Act.put, List.setIfInBounds_toArray, List.set_cons_zero, List.set_cons_succ, i64_w, i32_w]
          rfl
        refine one_ (i := 3) (N := some 11) #[true, true, true, true, true, true, false, false] rfl rfl (by kernel_rfl) (by decide) (fun K hK => ?_)
        refine goes_ Tryd.func37 (by kernel_rfl) rfl #[vecV x y z] (by rfl) rfl rfl (by (try simp only [List.map_toArray, List.map_cons, List.map_nil]); first | done | rfl) ?_
        refine (parts_calls x y z _).mono ?_
        rintro e w25 ⟨rfl, hb⟩
        have HB25_ := Aside0.mk (below_then HB24_.out HB24_.out.size hb)
        have BV_25 := Aside0.mk (blk_below BV_24.out hb)
        have BW_25 := Aside0.mk (blk_below BW_24.out hb)
        have P5_25 := Aside0.mk (blk_below P5_24.out hb)
        have P6_25 := Aside0.mk (blk_below P6_24.out hb)
        clear hb
        refine ⟨_, rfl, ?_⟩
        refine hK.out _ _ ⟨cell3 BV_25.out, cell3 BW_25.out⟩ (fun hHeld => ?_)
        clear hK K
        refine norm_ (a' := ?_) ?_ ?_
        rotate_left
        · show Act.put _ (some 11) _ = _
          simp only [Act.put, List.setIfInBounds_toArray, List.set_cons_zero, List.set_cons_succ, i64_w, i32_w]
          rfl
        refine norm_ (a' := putAll _ [(9, vecV a b c), (11, vecV x y z), (5, .pointer (some ⟨n17, 0, none⟩)), (6, .pointer (some ⟨n23, 0, none⟩))]) ?_ (hJ (n17, n23) w25 ⟨HB25_, ⟨NE_23.out⟩, P5L_17, P6L_23, P5_25, P6_25, BV_25, BW_25⟩)
        simp only [putAll, Act.put, List.setIfInBounds_toArray, List.set_cons_zero, List.set_cons_succ]
    · refine value_ (w1 := ?_) (v := ?_) (by rfl) rfl ?_ ?_
      rotate_left 2
      · go_simp
        constructor
        · rfl
        · rfl
      have HB26_ := Aside0.mk (below_alloc HB0.out (.cells #[.int .i64 0, .int .i64 0, .int .i64 0] 51))
      have BV_26 := Aside0.mk (blk_alloc BV.out (.cells #[.int .i64 0, .int .i64 0, .int .i64 0] 51))
      have BW_26 := Aside0.mk (blk_alloc BW.out (.cells #[.int .i64 0, .int .i64 0, .int .i64 0] 51))
      have P6_26 := Aside0.mk (blk_new wd (.cells #[.int .i64 0, .int .i64 0, .int .i64 0] 51))
      have P6L_26 := Aside0.mk (blk_lt BW.out)
      obtain ⟨n26, hn26⟩ : ∃ n, wd.heap.size = n := ⟨_, rfl⟩
      obtain ⟨w26, hw26⟩ : ∃ w', wd.alloc (.cells #[.int .i64 0, .int .i64 0, .int .i64 0] 51) = w' := ⟨_, rfl⟩
      rw [hn26] at P6_26 P6L_26 ⊢
      rw [hw26] at BV_26 BW_26 P6_26 HB26_ ⊢
      clear hn26 hw26
      refine hK.out _ _ ⟨cell3 BV_26.out, cell3 BW_26.out⟩ (fun hHeld => ?_)
      clear hK K
      refine norm_ (a' := ?_) ?_ ?_
      rotate_left
      · show Act.put _ (some 6) _ = _
        simp only [Act.put, List.setIfInBounds_toArray, List.set_cons_zero, List.set_cons_succ, i64_w, i32_w]
        rfl
      refine two_ (i := 1) (j := 4) (Ni := some 9) (Nj := some 5) #[true, true, true, false, false, true, false, false] #[true, false, true, false, true, true, false, false] rfl rfl rfl rfl (by kernel_rfl) (by decide) (by decide) (fun K hK => ?_) (fun K hK => ?_)
      · refine goes_ Tryd.func37 (by kernel_rfl) rfl #[vecV a b c] (by rfl) rfl rfl (by (try simp only [List.map_toArray, List.map_cons, List.map_nil]); first | done | rfl) ?_
        refine (parts_calls a b c _).mono ?_
        rintro e w27 ⟨rfl, hb⟩
        have HB27_ := Aside0.mk (below_then HB26_.out HB26_.out.size hb)
        have BV_27 := Aside0.mk (blk_below BV_26.out hb)
        have BW_27 := Aside0.mk (blk_below BW_26.out hb)
        have P6_27 := Aside0.mk (blk_below P6_26.out hb)
        clear hb
        refine ⟨_, rfl, ?_⟩
        refine hK.out _ _ ⟨cell3 BV_27.out, cell3 BW_27.out⟩ (fun hHeld => ?_)
        clear hK K
        refine norm_ (a' := ?_) ?_ ?_
        rotate_left
        · show Act.put _ (some 9) _ = _
          simp only [Act.put, List.setIfInBounds_toArray, List.set_cons_zero, List.set_cons_succ, i64_w, i32_w]
          rfl
        refine two_ (i := 3) (j := 4) (Ni := some 11) (Nj := some 5) #[true, true, true, true, false, true, false, false] #[true, true, true, false, true, true, false, false] rfl rfl rfl rfl (by kernel_rfl) (by decide) (by decide) (fun K hK => ?_) (fun K hK => ?_)
        · refine goes_ Tryd.func37 (by kernel_rfl) rfl #[vecV x y z] (by rfl) rfl rfl (by (try simp only [List.map_toArray, List.map_cons, List.map_nil]); first | done | rfl) ?_
          refine (parts_calls x y z _).mono ?_
          rintro e w28 ⟨rfl, hb⟩
          have HB28_ := Aside0.mk (below_then HB27_.out HB27_.out.size hb)
          have BV_28 := Aside0.mk (blk_below BV_27.out hb)
          have BW_28 := Aside0.mk (blk_below BW_27.out hb)
          have P6_28 := Aside0.mk (blk_below P6_27.out hb)
          clear hb
          refine ⟨_, rfl, ?_⟩
          refine hK.out _ _ ⟨cell3 BV_28.out, cell3 BW_28.out⟩ (fun hHeld => ?_)
          clear hK K
          refine norm_ (a' := ?_) ?_ ?_
          rotate_left
          · show Act.put _ (some 11) _ = _
            simp only [Act.put, List.setIfInBounds_toArray, List.set_cons_zero, List.set_cons_succ, i64_w, i32_w]
            rfl
          refine one_ (i := 4) (N := some 5) #[true, true, true, true, true, true, false, false] rfl rfl (by kernel_rfl) (by decide) (fun K hK => ?_)
          refine value_ (w1 := ?_) (v := ?_) (by rfl) rfl ?_ ?_
          rotate_left 2
          · go_simp
            constructor
            · rfl
            · rfl
          have HB29_ := Aside0.mk (below_alloc HB28_.out (.cells #[.int .i64 0, .int .i64 0, .int .i64 0] 51))
          have BV_29 := Aside0.mk (blk_alloc BV_28.out (.cells #[.int .i64 0, .int .i64 0, .int .i64 0] 51))
          have BW_29 := Aside0.mk (blk_alloc BW_28.out (.cells #[.int .i64 0, .int .i64 0, .int .i64 0] 51))
          have P6_29 := Aside0.mk (blk_alloc P6_28.out (.cells #[.int .i64 0, .int .i64 0, .int .i64 0] 51))
          have P5_29 := Aside0.mk (blk_new w28 (.cells #[.int .i64 0, .int .i64 0, .int .i64 0] 51))
          have P5L_29 := Aside0.mk (blk_lt BW_28.out)
          have NE_29 := Aside0.mk (show n26 ≠ w28.heap.size from fun h => by have := blk_lt P6_28.out; omega)
          obtain ⟨n29, hn29⟩ : ∃ n, w28.heap.size = n := ⟨_, rfl⟩
          obtain ⟨w29, hw29⟩ : ∃ w', w28.alloc (.cells #[.int .i64 0, .int .i64 0, .int .i64 0] 51) = w' := ⟨_, rfl⟩
          rw [hn29] at P5_29 P5L_29 NE_29 ⊢
          rw [hw29] at BV_29 BW_29 P6_29 P5_29 HB29_ ⊢
          clear hn29 hw29
          refine hK.out _ _ ⟨cell3 BV_29.out, cell3 BW_29.out⟩ (fun hHeld => ?_)
          clear hK K
          refine norm_ (a' := ?_) ?_ ?_
          rotate_left
          · show Act.put _ (some 5) _ = _
            simp only [Act.put, List.setIfInBounds_toArray, List.set_cons_zero, List.set_cons_succ, i64_w, i32_w]
            rfl
          refine norm_ (a' := putAll _ [(9, vecV a b c), (11, vecV x y z), (5, .pointer (some ⟨n29, 0, none⟩)), (6, .pointer (some ⟨n26, 0, none⟩))]) ?_ (hJ (n29, n26) w29 ⟨HB29_, ⟨(Ne.symm NE_29.out)⟩, P5L_29, P6L_26, P5_29, P6_29, BV_29, BW_29⟩)
          simp only [putAll, Act.put, List.setIfInBounds_toArray, List.set_cons_zero, List.set_cons_succ]
        · refine value_ (w1 := ?_) (v := ?_) (by rfl) rfl ?_ ?_
          rotate_left 2
          · go_simp
            constructor
            · rfl
            · rfl
          have HB30_ := Aside0.mk (below_alloc HB27_.out (.cells #[.int .i64 0, .int .i64 0, .int .i64 0] 51))
          have BV_30 := Aside0.mk (blk_alloc BV_27.out (.cells #[.int .i64 0, .int .i64 0, .int .i64 0] 51))
          have BW_30 := Aside0.mk (blk_alloc BW_27.out (.cells #[.int .i64 0, .int .i64 0, .int .i64 0] 51))
          have P6_30 := Aside0.mk (blk_alloc P6_27.out (.cells #[.int .i64 0, .int .i64 0, .int .i64 0] 51))
          have P5_30 := Aside0.mk (blk_new w27 (.cells #[.int .i64 0, .int .i64 0, .int .i64 0] 51))
          have P5L_30 := Aside0.mk (blk_lt BW_27.out)
          have NE_30 := Aside0.mk (show n26 ≠ w27.heap.size from fun h => by have := blk_lt P6_27.out; omega)
          obtain ⟨n30, hn30⟩ : ∃ n, w27.heap.size = n := ⟨_, rfl⟩
          obtain ⟨w30, hw30⟩ : ∃ w', w27.alloc (.cells #[.int .i64 0, .int .i64 0, .int .i64 0] 51) = w' := ⟨_, rfl⟩
          rw [hn30] at P5_30 P5L_30 NE_30 ⊢
          rw [hw30] at BV_30 BW_30 P6_30 P5_30 HB30_ ⊢
          clear hn30 hw30
          refine hK.out _ _ ⟨cell3 BV_30.out, cell3 BW_30.out⟩ (fun hHeld => ?_)
          clear hK K
          refine norm_ (a' := ?_) ?_ ?_
          rotate_left
          · show Act.put _ (some 5) _ = _
            simp only [Act.put, List.setIfInBounds_toArray, List.set_cons_zero, List.set_cons_succ, i64_w, i32_w]
            rfl
          refine one_ (i := 3) (N := some 11) #[true, true, true, true, true, true, false, false] rfl rfl (by kernel_rfl) (by decide) (fun K hK => ?_)
          refine goes_ Tryd.func37 (by kernel_rfl) rfl #[vecV x y z] (by rfl) rfl rfl (by (try simp only [List.map_toArray, List.map_cons, List.map_nil]); first | done | rfl) ?_
          refine (parts_calls x y z _).mono ?_
          rintro e w31 ⟨rfl, hb⟩
          have HB31_ := Aside0.mk (below_then HB30_.out HB30_.out.size hb)
          have BV_31 := Aside0.mk (blk_below BV_30.out hb)
          have BW_31 := Aside0.mk (blk_below BW_30.out hb)
          have P6_31 := Aside0.mk (blk_below P6_30.out hb)
          have P5_31 := Aside0.mk (blk_below P5_30.out hb)
          clear hb
          refine ⟨_, rfl, ?_⟩
          refine hK.out _ _ ⟨cell3 BV_31.out, cell3 BW_31.out⟩ (fun hHeld => ?_)
          clear hK K
          refine norm_ (a' := ?_) ?_ ?_
          rotate_left
          · show Act.put _ (some 11) _ = _
            simp only [Act.put, List.setIfInBounds_toArray, List.set_cons_zero, List.set_cons_succ, i64_w, i32_w]
            rfl
          refine norm_ (a' := putAll _ [(9, vecV a b c), (11, vecV x y z), (5, .pointer (some ⟨n30, 0, none⟩)), (6, .pointer (some ⟨n26, 0, none⟩))]) ?_ (hJ (n30, n26) w31 ⟨HB31_, ⟨(Ne.symm NE_30.out)⟩, P5L_30, P6L_26, P5_31, P6_31, BV_31, BW_31⟩)
          simp only [putAll, Act.put, List.setIfInBounds_toArray, List.set_cons_zero, List.set_cons_succ]
      · refine value_ (w1 := ?_) (v := ?_) (by rfl) rfl ?_ ?_
        rotate_left 2
        · go_simp
          constructor
          · rfl
          · rfl
        have HB32_ := Aside0.mk (below_alloc HB26_.out (.cells #[.int .i64 0, .int .i64 0, .int .i64 0] 51))
        have BV_32 := Aside0.mk (blk_alloc BV_26.out (.cells #[.int .i64 0, .int .i64 0, .int .i64 0] 51))
        have BW_32 := Aside0.mk (blk_alloc BW_26.out (.cells #[.int .i64 0, .int .i64 0, .int .i64 0] 51))
        have P6_32 := Aside0.mk (blk_alloc P6_26.out (.cells #[.int .i64 0, .int .i64 0, .int .i64 0] 51))
        have P5_32 := Aside0.mk (blk_new w26 (.cells #[.int .i64 0, .int .i64 0, .int .i64 0] 51))
        have P5L_32 := Aside0.mk (blk_lt BW_26.out)
        have NE_32 := Aside0.mk (show n26 ≠ w26.heap.size from fun h => by have := blk_lt P6_26.out; omega)
        obtain ⟨n32, hn32⟩ : ∃ n, w26.heap.size = n := ⟨_, rfl⟩
        obtain ⟨w32, hw32⟩ : ∃ w', w26.alloc (.cells #[.int .i64 0, .int .i64 0, .int .i64 0] 51) = w' := ⟨_, rfl⟩
        rw [hn32] at P5_32 P5L_32 NE_32 ⊢
        rw [hw32] at BV_32 BW_32 P6_32 P5_32 HB32_ ⊢
        clear hn32 hw32
        refine hK.out _ _ ⟨cell3 BV_32.out, cell3 BW_32.out⟩ (fun hHeld => ?_)
        clear hK K
        refine norm_ (a' := ?_) ?_ ?_
        rotate_left
        · show Act.put _ (some 5) _ = _
          simp only [Act.put, List.setIfInBounds_toArray, List.set_cons_zero, List.set_cons_succ, i64_w, i32_w]
          rfl
        refine one_ (i := 1) (N := some 9) #[true, true, true, false, true, true, false, false] rfl rfl (by kernel_rfl) (by decide) (fun K hK => ?_)
        refine goes_ Tryd.func37 (by kernel_rfl) rfl #[vecV a b c] (by rfl) rfl rfl (by (try simp only [List.map_toArray, List.map_cons, List.map_nil]); first | done | rfl) ?_
        refine (parts_calls a b c _).mono ?_
        rintro e w33 ⟨rfl, hb⟩
        have HB33_ := Aside0.mk (below_then HB32_.out HB32_.out.size hb)
        have BV_33 := Aside0.mk (blk_below BV_32.out hb)
        have BW_33 := Aside0.mk (blk_below BW_32.out hb)
        have P6_33 := Aside0.mk (blk_below P6_32.out hb)
        have P5_33 := Aside0.mk (blk_below P5_32.out hb)
        clear hb
        refine ⟨_, rfl, ?_⟩
        refine hK.out _ _ ⟨cell3 BV_33.out, cell3 BW_33.out⟩ (fun hHeld => ?_)
        clear hK K
        refine norm_ (a' := ?_) ?_ ?_
        rotate_left
        · show Act.put _ (some 9) _ = _
          simp only [Act.put, List.setIfInBounds_toArray, List.set_cons_zero, List.set_cons_succ, i64_w, i32_w]
          rfl
        refine one_ (i := 3) (N := some 11) #[true, true, true, true, true, true, false, false] rfl rfl (by kernel_rfl) (by decide) (fun K hK => ?_)
        refine goes_ Tryd.func37 (by kernel_rfl) rfl #[vecV x y z] (by rfl) rfl rfl (by (try simp only [List.map_toArray, List.map_cons, List.map_nil]); first | done | rfl) ?_
        refine (parts_calls x y z _).mono ?_
        rintro e w34 ⟨rfl, hb⟩
        have HB34_ := Aside0.mk (below_then HB33_.out HB33_.out.size hb)
        have BV_34 := Aside0.mk (blk_below BV_33.out hb)
        have BW_34 := Aside0.mk (blk_below BW_33.out hb)
        have P6_34 := Aside0.mk (blk_below P6_33.out hb)
        have P5_34 := Aside0.mk (blk_below P5_33.out hb)
        clear hb
        refine ⟨_, rfl, ?_⟩
        refine hK.out _ _ ⟨cell3 BV_34.out, cell3 BW_34.out⟩ (fun hHeld => ?_)
        clear hK K
        refine norm_ (a' := ?_) ?_ ?_
        rotate_left
        · show Act.put _ (some 11) _ = _
          simp only [Act.put, List.setIfInBounds_toArray, List.set_cons_zero, List.set_cons_succ, i64_w, i32_w]
          rfl
        refine norm_ (a' := putAll _ [(9, vecV a b c), (11, vecV x y z), (5, .pointer (some ⟨n32, 0, none⟩)), (6, .pointer (some ⟨n26, 0, none⟩))]) ?_ (hJ (n32, n26) w34 ⟨HB34_, ⟨(Ne.symm NE_32.out)⟩, P5L_32, P6L_26, P5_34, P6_34, BV_34, BW_34⟩)
        simp only [putAll, Act.put, List.setIfInBounds_toArray, List.set_cons_zero, List.set_cons_succ]
  rintro ⟨n5, n6⟩ w1 ⟨HB1, NE, L5, L6, P5, P6, BV1, BW1⟩
  refine norm_ (a' := ?_) ?_ ?_
  rotate_left
  · simp only [putAll, Act.put, List.setIfInBounds_toArray, List.set_cons_zero, List.set_cons_succ]
    rfl
  have hne : n5 ≠ n6 := NE.out
  obtain ⟨z50, z51, z52⟩ := cell3 P5.out
  have f5 := fun i => blk_frozen P5.out i
  obtain ⟨z60, z61, z62⟩ := cell3 P6.out
  have f6 := fun i => blk_frozen P6.out i
  refine one_ (i := 6) (N := none) #[true, true, true, true, true, true, true, false] rfl rfl (by kernel_rfl) (by decide) (fun K hK => ?_)
  refine skip_ (w1 := ?_) (by rfl) rfl ?_ ?_
  rotate_left
  · go_simp
    rfl
  refine hK.out _ _ ⟨cell3 (keep3 BV1.out (by have := L5.out; omega) _ _ _), cell3 (keep3 BW1.out (by have := L5.out; omega) _ _ _)⟩ (fun hHeld => ?_)
  clear hK K
  have HB2 := Aside0.mk (below3 HB1.out (show w.heap.size ≤ n5 by have := L5.out; omega) (.int .i64 a) (.int .i64 b) (.int .i64 c))
  have BV2 := Aside0.mk (keep3 BV1.out (show w.heap.size ≠ n5 by have := L5.out; omega) (.int .i64 a) (.int .i64 b) (.int .i64 c))
  have BW2 := Aside0.mk (keep3 BW1.out (show w.heap.size + 1 ≠ n5 by have := L5.out; omega) (.int .i64 a) (.int .i64 b) (.int .i64 c))
  have Q5 := Aside0.mk (put3 P5.out (.int .i64 a) (.int .i64 b) (.int .i64 c))
  have Q6 := Aside0.mk (keep3 P6.out (Ne.symm hne) (.int .i64 a) (.int .i64 b) (.int .i64 c))
  obtain ⟨w2, hw2⟩ : ∃ w2, ((w1.setCell ⟨n5, 0, none⟩ (.int .i64 a)).setCell ⟨n5, 1, none⟩ (.int .i64 b)).setCell ⟨n5, 2, none⟩ (.int .i64 c) = w2 := ⟨_, rfl⟩
  rw [hw2] at HB2 BV2 BW2 Q5 Q6 ⊢
  clear hw2 z50 z51 z52 z60 z61 z62 f5 f6
  obtain ⟨z60, z61, z62⟩ := cell3 Q6.out
  have f6 := fun i => blk_frozen Q6.out i
  refine one_ (i := 7) (N := none) #[true, true, true, true, true, true, true, true] rfl rfl (by kernel_rfl) (by decide) (fun K hK => ?_)
  refine skip_ (w1 := ?_) (by rfl) rfl ?_ ?_
  rotate_left
  · go_simp
    rfl
  refine hK.out _ _ ⟨cell3 (keep3 BV2.out (by have := L6.out; omega) _ _ _), cell3 (keep3 BW2.out (by have := L6.out; omega) _ _ _)⟩ (fun hHeld => ?_)
  clear hK K
  have HB3 := Aside0.mk (below3 HB2.out (show w.heap.size ≤ n6 by have := L6.out; omega) (.int .i64 x) (.int .i64 y) (.int .i64 z))
  have R5 := Aside0.mk (keep3 Q5.out hne (.int .i64 x) (.int .i64 y) (.int .i64 z))
  have R6 := Aside0.mk (put3 Q6.out (.int .i64 x) (.int .i64 y) (.int .i64 z))
  obtain ⟨w3, hw3⟩ : ∃ w3, ((w2.setCell ⟨n6, 0, none⟩ (.int .i64 x)).setCell ⟨n6, 1, none⟩ (.int .i64 y)).setCell ⟨n6, 2, none⟩ (.int .i64 z) = w3 := ⟨_, rfl⟩
  rw [hw3] at HB3 R5 R6 ⊢
  clear hw3 z60 z61 z62 f6 HB1 HB2 P5 P6 BV1 BW1 BV2 BW2 Q5 Q6
  refine done_ (by kernel_rfl) ?_
  go_wp2_with fail
  go_loopw [12] (fun v12 wr => ∃ k : Nat, k ≤ 3 ∧ v12 = .int .i64 k ∧ Aside0 (∀ j, j < k → pt a b c j ≤ pt x y z j) ∧ Aside0 (Below w.heap.size w wr) ∧ Aside0 (wr.heap[n5]? = some (.cells #[.int .i64 a, .int .i64 b, .int .i64 c] 51 (0, 0))) ∧ Aside0 (wr.heap[n6]? = some (.cells #[.int .i64 x, .int .i64 y, .int .i64 z] 51 (0, 0)))) (fun v12 _ => 3 - (intOf v12).toNat)
  case atStart => exact ⟨0, by omega, rfl, ⟨fun j hj => by omega⟩, HB3, R5, R6⟩
  case round =>
    clear HB3 R5 R6
    obtain ⟨k, hk, rfl, HF, HB, P5, P6⟩ := hrel
    by_cases hlt : k < 3
    · go_wp2_with fail
      refine start_ (n := 7) (S := fun w' => w'.cell? ⟨n5, k, none⟩ = some (.int .i64 (pt a b c k)) ∧ w'.cell? ⟨n6, k, none⟩ = some (.int .i64 (pt x y z k))) (ds := []) #[false, false, false, false, false, false, false] (by kernel_rfl) rfl rfl ⟨cellk P5.out k hlt, cellk P6.out k hlt⟩ (fun hHeld => ?_)
      refine pure_ (i := 0) (N := some 15) (v := ?_) (a' := ?_) #[true, false, false, false, false, false, false] rfl rfl (by kernel_rfl) (fun _ _ _ h => h) (Or.inl ⟨by rfl, ?_⟩) ?_ ?_
      rotate_left
      · intro w'
        go_simp
        with_reducible rfl
      rotate_left
      · simp only [Act.put, List.setIfInBounds_toArray, List.set_cons_zero, List.set_cons_succ, i64_w, i32_w]
        rfl
      refine pure_ (i := 1) (N := some 16) (v := ?_) (a' := ?_) #[true, true, false, false, false, false, false] rfl rfl (by kernel_rfl) (fun _ _ _ h => h) (Or.inl ⟨by rfl, ?_⟩) ?_ ?_
      rotate_left
      · intro w'
        go_simp
        with_reducible rfl
      rotate_left
      · simp only [Act.put, List.setIfInBounds_toArray, List.set_cons_zero, List.set_cons_succ, i64_w, i32_w]
        rfl
      refine take_ (i := 2) (N := some 17) (v := ?_) (a' := ?_) #[true, true, true, false, false, false, false] rfl rfl (by kernel_rfl) (fun _ _ _ h => h) (Or.inl ⟨by rfl, ?_⟩) hHeld ?_ ?_
      rotate_left
      · rintro w' ⟨s0, s1⟩
        go_simp
        with_reducible rfl
      rotate_left
      · simp only [Act.put, List.setIfInBounds_toArray, List.set_cons_zero, List.set_cons_succ, i64_w, i32_w]
        rfl
      refine pure_ (i := 3) (N := some 18) (v := ?_) (a' := ?_) #[true, true, true, true, false, false, false] rfl rfl (by kernel_rfl) (fun _ _ _ h => h) (Or.inl ⟨by rfl, ?_⟩) ?_ ?_
      rotate_left
      · intro w'
        go_simp
        with_reducible rfl
      rotate_left
      · simp only [Act.put, List.setIfInBounds_toArray, List.set_cons_zero, List.set_cons_succ, i64_w, i32_w]
        rfl
      refine pure_ (i := 4) (N := some 19) (v := ?_) (a' := ?_) #[true, true, true, true, true, false, false] rfl rfl (by kernel_rfl) (fun _ _ _ h => h) (Or.inl ⟨by rfl, ?_⟩) ?_ ?_
      rotate_left
      · intro w'
        go_simp
        with_reducible rfl
      rotate_left
      · simp only [Act.put, List.setIfInBounds_toArray, List.set_cons_zero, List.set_cons_succ, i64_w, i32_w]
        rfl
      refine take_ (i := 5) (N := some 20) (v := ?_) (a' := ?_) #[true, true, true, true, true, true, false] rfl rfl (by kernel_rfl) (fun _ _ _ h => h) (Or.inl ⟨by rfl, ?_⟩) hHeld ?_ ?_
      rotate_left
      · rintro w' ⟨s0, s1⟩
        go_simp
        with_reducible rfl
      rotate_left
      · simp only [Act.put, List.setIfInBounds_toArray, List.set_cons_zero, List.set_cons_succ, i64_w, i32_w]
        rfl
      refine pure_ (i := 6) (N := some 21) (v := ?_) (a' := ?_) #[true, true, true, true, true, true, true] rfl rfl (by kernel_rfl) (fun _ _ _ h => h) (Or.inl ⟨by rfl, ?_⟩) ?_ ?_
      rotate_left
      · intro w'
        go_simp
        with_reducible rfl
      rotate_left
      · simp only [Act.put, List.setIfInBounds_toArray, List.set_cons_zero, List.set_cons_succ, i64_w, i32_w]
        rfl
      refine done_ (by kernel_rfl) ?_
      have HBd := Aside0.mk (below_drew HB.out)
      have P5d := Aside0.mk (blk_drew P5.out)
      have P6d := Aside0.mk (blk_drew P6.out)
      by_cases hg : pt x y z k < pt a b c k
      · have HV := Aside0.mk (show fitsB a b c x y z = false from by
          cases h : fitsB a b c x y z with
          | false => rfl
          | true => have := (fitsB_k a b c x y z).1 h k hlt; omega)
        go_wp2
        go_ret
        exact ⟨by rw [HV.out]; rfl, HBd.out⟩
      · have HF' := Aside0.mk (show ∀ j, j < k + 1 → pt a b c j ≤ pt x y z j from fun j hj => by
          by_cases e : j = k
          · rw [e]; omega
          · exact HF.out j (by omega))
        go_wp2
        go_roundw
        case rel => exact ⟨k + 1, by omega, by simp, HF', HBd, P5d, P6d⟩
        case measure => simp [intOf]; omega
    · obtain rfl : k = 3 := by omega
      have HV := Aside0.mk (show fitsB a b c x y z = true from (fitsB_k a b c x y z).2 HF.out)
      go_wp2
      go_ret
      exact ⟨by rw [HV.out]; rfl, HB.out⟩
end Go.Proofs.YtcpikafmclfcfaaDoor.Vc
end
section
namespace Go.Proofs.YtcpikafmclfcfaaDoor.Vc
open Go.RowKit Go.Proofs.YtcpikafmclfcfaaDoorW.PrintWords Go.Proofs.YtcpikafmclfcfaaDoorW.PrintLast Go.Proofs.YtcpikafmclfcfaaDoorW.PrintMore Go.Proofs.YtcpikafmclfcfaaDoor.PV Go.Proofs.YtcpikafmclfcfaaDoor.Vl
set_option linter.unusedVariables false
set_option linter.unusedSimpArgs false
theorem results_ve {fn : Func} (p u : Tmp) (hf : fn.results = #[.cell p 23, .tmp u]) (tmps : Array Value) (b : Nat) (W : World) (x y z e : Int) (h2 : tmps[p]?.getD undef = .pointer (some ⟨b, 0, none⟩)) (h3 : tmps[u]?.getD undef = .int .i64 e)
    (hr : W.heap[b]? = some (.cells #[.int .i64 x, .int .i64 y, .int .i64 z] 23 (0, 0))) :
    (results fn tmps).run Tryd.prog W = .ok (.tuple #[vecV x y z, .int .i64 e]) W := by
  have hu23 := Tryd.underlying23
  obtain ⟨r0, r1, r2⟩ := cell3 hr
  simp [results, hf, go_sem, h2, h3, r0, r1, r2, hu23]
def madeV (x y z : Int) : Int × Int × Int × Int := if rightB x y z = true then (x, y, z, 0) else (0, 0, 0, 5)
set_option maxHeartbeats 2000000 in
set_option maxRecDepth 100000 in
theorem made_calls (x y z : Int) (w : World) : Calls Tryd.prog 65 #[vecV x y z, .int .i64 0] w fun e w' => e = .returned (.tuple #[vecV (madeV x y z).1 (madeV x y z).2.1 (madeV x y z).2.2.1, .int .i64 (madeV x y z).2.2.2]) ∧ Below w.heap.size w w' := by
  have hu23 := Tryd.underlying23
  have hu51 := Tryd.underlying51
  go_enter Tryd.func65, Tryd.ntmps65
  go_wp2_with fail
  obtain ⟨w1, hw1⟩ : ∃ w1, (w.alloc (.cells #[.int .i64 x, .int .i64 y, .int .i64 z] 51)).alloc (.cells #[.int .i64 0, .int .i64 0, .int .i64 0] 23) = w1 := ⟨_, rfl⟩
  have HB1 := Aside0.mk (below_alloc (below_alloc (Below.refl w.heap.size w) (.cells #[.int .i64 x, .int .i64 y, .int .i64 z] 51)) (.cells #[.int .i64 0, .int .i64 0, .int .i64 0] 23))
  have BV1 := Aside0.mk (blk_alloc (blk_new w (.cells #[.int .i64 x, .int .i64 y, .int .i64 z] 51)) (.cells #[.int .i64 0, .int .i64 0, .int .i64 0] 23))
  have BR1 := Aside0.mk (blk_new (w.alloc (.cells #[.int .i64 x, .int .i64 y, .int .i64 z] 51)) (.cells #[.int .i64 0, .int .i64 0, .int .i64 0] 23))
  rw [World.size_alloc] at BR1
  rw [hw1] at HB1 BV1 BR1 ⊢
  clear hw1
  refine (whole_calls x y z _).mono ?_
  rintro e w2 ⟨rfl, hb⟩
  have HB2 := Aside0.mk (below_then HB1.out HB1.out.size hb)
  have BV2 := Aside0.mk (blk_below BV1.out hb)
  have BR2 := Aside0.mk (blk_below BR1.out hb)
  clear hb HB1 BV1 BR1
  go_wp2_with fail
  refine (Right_calls x y z _).mono ?_
  rintro e w3 ⟨rfl, hb⟩
  have HB3 := Aside0.mk (below_then HB2.out HB2.out.size hb)
  have BV3 := Aside0.mk (blk_below BV2.out hb)
  have BR3 := Aside0.mk (blk_below BR2.out hb)
  clear hb HB2 BV2 BR2
  obtain ⟨c0, c1, c2⟩ := cell3 BV3.out
  obtain ⟨d0, d1, d2⟩ := cell3 BR3.out
  have df := fun i => blk_frozen BR3.out i
  cases hr : rightB x y z with
  | false =>
    have HV := Aside0.mk (show madeV x y z = (0, 0, 0, 5) from by unfold madeV; rw [hr]; rfl)
    go_wp2_with fail
    refine bodyPost_ret (results_ve 4 5 rfl _ (w.heap.size + 1) _ 0 0 0 5 rfl rfl (put3 BR3.out _ _ _)) rfl ⟨by rw [HV.out], below3 HB3.out (by omega) _ _ _⟩
  | true =>
    have HV := Aside0.mk (show madeV x y z = (x, y, z, 0) from by unfold madeV; rw [hr]; rfl)
    go_wp2_with fail
    refine (whole_calls x y z _).mono ?_
    rintro e w4 ⟨rfl, hb⟩
    have HB4 := Aside0.mk (below_then HB3.out HB3.out.size hb)
    have BR4 := Aside0.mk (blk_below BR3.out hb)
    clear hb HB3 BR3 c0 c1 c2 d0 d1 d2 df
    obtain ⟨d0, d1, d2⟩ := cell3 BR4.out
    have df := fun i => blk_frozen BR4.out i
    go_wp2_with fail
    refine bodyPost_ret (results_ve 4 5 rfl _ (w.heap.size + 1) _ x y z 0 rfl rfl (put3 BR4.out _ _ _)) rfl ⟨by rw [HV.out], below3 HB4.out (by omega) _ _ _⟩
theorem plus_calls (x y z : Int) (b : Nat) (k : Nat) (hk : k < 3) (n : Int) (w : World) (hb : w.heap[b]? = some (.cells #[.int .i64 x, .int .i64 y, .int .i64 z] 51 (0, 0))) :
    Calls Tryd.prog 46 #[.int .i64 k, .int .i64 n, .pointer (some ⟨b, 0, none⟩)] w fun e w' => e = .returned (.tuple #[.int .i64 (wrap64 (n + pt x y z k)), .int .i64 0]) ∧ Below w.heap.size w w' := by
  have hu51 := Tryd.underlying51
  have hc := cellk hb k hk
  clear hb
  go_enter Tryd.func46, Tryd.ntmps46
  go_wp2
  refine bodyPost_ret (v := .tuple #[.int .i64 (wrap64 (n + pt x y z k)), .int .i64 0]) (by simp [results, Tryd.results46, go_sem]) rfl ⟨rfl, Below.refl _ _⟩
theorem minus_calls (x y z : Int) (b : Nat) (k : Nat) (hk : k < 3) (n : Int) (w : World) (hb : w.heap[b]? = some (.cells #[.int .i64 x, .int .i64 y, .int .i64 z] 51 (0, 0))) :
    Calls Tryd.prog 47 #[.int .i64 k, .int .i64 n, .pointer (some ⟨b, 0, none⟩)] w fun e w' => e = .returned (.tuple #[.int .i64 (wrap64 (n - pt x y z k)), .int .i64 0]) ∧ Below w.heap.size w w' := by
  have hu51 := Tryd.underlying51
  have hc := cellk hb k hk
  clear hb
  go_enter Tryd.func47, Tryd.ntmps47
  go_wp2
  refine bodyPost_ret (v := .tuple #[.int .i64 (wrap64 (n - pt x y z k)), .int .i64 0]) (by simp [results, Tryd.results47, go_sem]) rfl ⟨rfl, Below.refl _ _⟩
end Go.Proofs.YtcpikafmclfcfaaDoor.Vc
end
section
namespace Go.Proofs.YtcpikafmclfcfaaDoor.Vc
open Go.RowKit Go.Proofs.YtcpikafmclfcfaaDoorW.PrintWords Go.Proofs.YtcpikafmclfcfaaDoorW.PrintLast Go.Proofs.YtcpikafmclfcfaaDoorW.PrintMore Go.Proofs.YtcpikafmclfcfaaDoor.PV Go.Proofs.YtcpikafmclfcfaaDoor.Vl
set_option linter.unusedVariables false
set_option linter.unusedSimpArgs false
def eachV (R E : Nat → Int) : Int × Int × Int × Int := if E 0 = 0 ∧ E 1 = 0 ∧ E 2 = 0 then madeV (R 0) (R 1) (R 2) else (0, 0, 0, 5)
def upd (R : Nat → Int) (p : Nat → Int) (k : Nat) : Nat → Int := fun j => if j < k then R j else p j
set_option maxHeartbeats 4000000 in
set_option maxRecDepth 100000 in
theorem each46_calls (a b c : Int) (q : Addr) (R E : Nat → Int) (w : World)
    (hdo : ∀ k : Nat, k < 3 → ∀ w', Below w.heap.size w w' → Calls Tryd.prog 46 #[.int .i64 k, .int .i64 (pt a b c k), .pointer (some q)] w' fun e w'' => e = .returned (.tuple #[.int .i64 (R k), .int .i64 (E k)]) ∧ Below w'.heap.size w' w'') :
    Calls Tryd.prog 45 #[vecV a b c, .func (.func 46) #[] #[.pointer (some q)]] w fun e w' => e = .returned (.tuple #[vecV (eachV R E).1 (eachV R E).2.1 (eachV R E).2.2.1, .int .i64 (eachV R E).2.2.2]) ∧ Below w.heap.size w w' := by
  have hu23 := Tryd.underlying23
  have hu51 := Tryd.underlying51
  have HDO := Aside0.mk hdo
  clear hdo
  go_enter Tryd.func45, Tryd.ntmps45
  go_wp2_with fail
  obtain ⟨w1, hw1⟩ : ∃ w1, (w.alloc (.cells #[.int .i64 a, .int .i64 b, .int .i64 c] 23)).alloc (.cells #[.int .i64 0, .int .i64 0, .int .i64 0] 23) = w1 := ⟨_, rfl⟩
  have HB1 := Aside0.mk (below_alloc (below_alloc (Below.refl w.heap.size w) (.cells #[.int .i64 a, .int .i64 b, .int .i64 c] 23)) (.cells #[.int .i64 0, .int .i64 0, .int .i64 0] 23))
  have BR1 := Aside0.mk (blk_new (w.alloc (.cells #[.int .i64 a, .int .i64 b, .int .i64 c] 23)) (.cells #[.int .i64 0, .int .i64 0, .int .i64 0] 23))
  rw [World.size_alloc] at BR1
  rw [hw1] at HB1 BR1 ⊢
  clear hw1
  refine (parts_calls a b c _).mono ?_
  rintro e w2 ⟨rfl, hb⟩
  have HB2 := Aside0.mk (below_then HB1.out HB1.out.size hb)
  have BR2 := Aside0.mk (blk_below BR1.out hb)
  clear hb HB1 BR1
  have HB3 := Aside0.mk (below_alloc HB2.out (.cells #[.int .i64 a, .int .i64 b, .int .i64 c] 51))
  have BR3 := Aside0.mk (blk_alloc BR2.out (.cells #[.int .i64 a, .int .i64 b, .int .i64 c] 51))
  have BP3 := Aside0.mk (blk_new w2 (.cells #[.int .i64 a, .int .i64 b, .int .i64 c] 51))
  have LP := Aside0.mk (Nat.le_trans (Nat.le_succ _) (blk_lt BR2.out))
  have NE := Aside0.mk (show w.heap.size + 1 ≠ w2.heap.size from fun h => by have := blk_lt BR2.out; omega)
  go_wp2_with fail
  obtain ⟨w3, hw3⟩ : ∃ w3, w2.alloc (.cells #[.int .i64 a, .int .i64 b, .int .i64 c] 51) = w3 := ⟨_, rfl⟩
  obtain ⟨b6, hb6⟩ : ∃ b6, w2.heap.size = b6 := ⟨_, rfl⟩
  rw [hw3] at HB3 BR3 BP3 ⊢
  rw [hb6] at BP3 LP NE ⊢
  clear hw3 hb6 HB2 BR2
  go_loopw [14] (fun v14 wr => ∃ k : Nat, k ≤ 3 ∧ v14 = .int .i64 k ∧ Aside0 (∀ j, j < k → E j = 0) ∧ Aside0 (Below w.heap.size w wr) ∧ Aside0 (wr.heap[w.heap.size + 1]? = some (.cells #[.int .i64 0, .int .i64 0, .int .i64 0] 23 (0, 0))) ∧
    Aside0 (wr.heap[b6]? = some (.cells #[.int .i64 (upd R (pt a b c) k 0), .int .i64 (upd R (pt a b c) k 1), .int .i64 (upd R (pt a b c) k 2)] 51 (0, 0)))) (fun v14 _ => 3 - (intOf v14).toNat)
  case atStart => exact ⟨0, by omega, rfl, ⟨fun j hj => by omega⟩, HB3, BR3, BP3⟩
  case round =>
    clear HB3 BR3 BP3
    obtain ⟨k, hk, rfl, HE, HB, BR, BP⟩ := hrel
    by_cases hlt : k < 3
    · have hix := pix a b c k hlt
      go_wp2_with fail
      refine (HDO.out k hlt _ HB.out).mono ?_
      rintro e w4 ⟨rfl, hb⟩
      have HB4 := Aside0.mk (below_then HB.out HB.out.size hb)
      have BR4 := Aside0.mk (blk_below BR.out hb)
      have BP4 := Aside0.mk (blk_below BP.out hb)
      clear hb HB BR BP
      by_cases he : E k = 0
      · rw [he]
        have HE4 := Aside0.mk (show ∀ j, j < k + 1 → E j = 0 from fun j hj => by
          by_cases h : j = k
          · rw [h]; exact he
          · exact HE.out j (by omega))
        clear he
        obtain ⟨d0, d1, d2⟩ := cell3 BP4.out
        have df := fun i => blk_frozen BP4.out i
        have : k = 0 ∨ k = 1 ∨ k = 2 := by omega
        rcases this with rfl | rfl | rfl
        · go_wp2
          go_roundw
          case rel => exact ⟨1, by omega, rfl, HE4, ⟨HB4.out.setCell (p := ⟨b6, 0, none⟩) (Nat.le_of_succ_le LP.out) _⟩, ⟨(Below.heap_setCell _ ⟨b6, 0, none⟩ _ _ NE.out).trans BR4.out⟩, ⟨blk_put BP4.out 0 _ rfl⟩⟩
          case measure => simp [intOf]
        · go_wp2
          go_roundw
          case rel => exact ⟨2, by omega, rfl, HE4, ⟨HB4.out.setCell (p := ⟨b6, 1, none⟩) (Nat.le_of_succ_le LP.out) _⟩, ⟨(Below.heap_setCell _ ⟨b6, 1, none⟩ _ _ NE.out).trans BR4.out⟩, ⟨blk_put BP4.out 1 _ rfl⟩⟩
          case measure => simp [intOf]
        · go_wp2
          go_roundw
          case rel => exact ⟨3, by omega, rfl, HE4, ⟨HB4.out.setCell (p := ⟨b6, 2, none⟩) (Nat.le_of_succ_le LP.out) _⟩, ⟨(Below.heap_setCell _ ⟨b6, 2, none⟩ _ _ NE.out).trans BR4.out⟩, ⟨blk_put BP4.out 2 _ rfl⟩⟩
          case measure => simp [intOf]
      · have hne : (E k != 0) = true := by simp [he]
        have HV := Aside0.mk (show eachV R E = (0, 0, 0, 5) from by
          unfold eachV; rw [if_neg]; rintro ⟨e0, e1, e2⟩
          have : k = 0 ∨ k = 1 ∨ k = 2 := by omega
          rcases this with rfl | rfl | rfl <;> exact he (by assumption))
        clear he
        obtain ⟨d0, d1, d2⟩ := cell3 BR4.out
        have df := fun i => blk_frozen BR4.out i
        go_wp2_with fail
        refine bodyPost_ret (results_ve 4 5 rfl _ (w.heap.size + 1) _ 0 0 0 5 rfl rfl (put3 BR4.out _ _ _)) rfl ⟨by rw [HV.out], below3 HB4.out (by omega) _ _ _⟩
    · obtain rfl : k = 3 := by omega
      have HV := Aside0.mk (show eachV R E = madeV (R 0) (R 1) (R 2) from by
        unfold eachV; rw [if_pos ⟨HE.out 0 (by omega), HE.out 1 (by omega), HE.out 2 (by omega)⟩])
      have BP' := Aside0.mk (show wr.heap[b6]? = some (.cells #[.int .i64 (R 0), .int .i64 (R 1), .int .i64 (R 2)] 51 (0, 0)) from BP.out)
      clear BP
      obtain ⟨d0, d1, d2⟩ := cell3 BP'.out
      go_wp2_with fail
      refine (made_calls (R 0) (R 1) (R 2) _).mono ?_
      rintro e w4 ⟨rfl, hb⟩
      have HB4 := Aside0.mk (below_then HB.out HB.out.size hb)
      have BR4 := Aside0.mk (blk_below BR.out hb)
      clear hb HB BR d0 d1 d2
      obtain ⟨d0, d1, d2⟩ := cell3 BR4.out
      have df := fun i => blk_frozen BR4.out i
      go_wp2_with fail
      refine bodyPost_ret (results_ve 4 5 rfl _ (w.heap.size + 1) _ (madeV (R 0) (R 1) (R 2)).1 (madeV (R 0) (R 1) (R 2)).2.1 (madeV (R 0) (R 1) (R 2)).2.2.1 (madeV (R 0) (R 1) (R 2)).2.2.2 rfl rfl (put3 BR4.out _ _ _)) rfl ⟨by rw [HV.out], below3 HB4.out (by omega) _ _ _⟩
set_option maxHeartbeats 4000000 in
set_option maxRecDepth 100000 in
theorem each47_calls (a b c : Int) (q : Addr) (R E : Nat → Int) (w : World)
    (hdo : ∀ k : Nat, k < 3 → ∀ w', Below w.heap.size w w' → Calls Tryd.prog 47 #[.int .i64 k, .int .i64 (pt a b c k), .pointer (some q)] w' fun e w'' => e = .returned (.tuple #[.int .i64 (R k), .int .i64 (E k)]) ∧ Below w'.heap.size w' w'') :
    Calls Tryd.prog 45 #[vecV a b c, .func (.func 47) #[] #[.pointer (some q)]] w fun e w' => e = .returned (.tuple #[vecV (eachV R E).1 (eachV R E).2.1 (eachV R E).2.2.1, .int .i64 (eachV R E).2.2.2]) ∧ Below w.heap.size w w' := by
  have hu23 := Tryd.underlying23
  have hu51 := Tryd.underlying51
  have HDO := Aside0.mk hdo
  clear hdo
  go_enter Tryd.func45, Tryd.ntmps45
  go_wp2_with fail
  obtain ⟨w1, hw1⟩ : ∃ w1, (w.alloc (.cells #[.int .i64 a, .int .i64 b, .int .i64 c] 23)).alloc (.cells #[.int .i64 0, .int .i64 0, .int .i64 0] 23) = w1 := ⟨_, rfl⟩
  have HB1 := Aside0.mk (below_alloc (below_alloc (Below.refl w.heap.size w) (.cells #[.int .i64 a, .int .i64 b, .int .i64 c] 23)) (.cells #[.int .i64 0, .int .i64 0, .int .i64 0] 23))
  have BR1 := Aside0.mk (blk_new (w.alloc (.cells #[.int .i64 a, .int .i64 b, .int .i64 c] 23)) (.cells #[.int .i64 0, .int .i64 0, .int .i64 0] 23))
  rw [World.size_alloc] at BR1
  rw [hw1] at HB1 BR1 ⊢
  clear hw1
  refine (parts_calls a b c _).mono ?_
  rintro e w2 ⟨rfl, hb⟩
  have HB2 := Aside0.mk (below_then HB1.out HB1.out.size hb)
  have BR2 := Aside0.mk (blk_below BR1.out hb)
  clear hb HB1 BR1
  have HB3 := Aside0.mk (below_alloc HB2.out (.cells #[.int .i64 a, .int .i64 b, .int .i64 c] 51))
  have BR3 := Aside0.mk (blk_alloc BR2.out (.cells #[.int .i64 a, .int .i64 b, .int .i64 c] 51))
  have BP3 := Aside0.mk (blk_new w2 (.cells #[.int .i64 a, .int .i64 b, .int .i64 c] 51))
  have LP := Aside0.mk (Nat.le_trans (Nat.le_succ _) (blk_lt BR2.out))
  have NE := Aside0.mk (show w.heap.size + 1 ≠ w2.heap.size from fun h => by have := blk_lt BR2.out; omega)
  go_wp2_with fail
  obtain ⟨w3, hw3⟩ : ∃ w3, w2.alloc (.cells #[.int .i64 a, .int .i64 b, .int .i64 c] 51) = w3 := ⟨_, rfl⟩
  obtain ⟨b6, hb6⟩ : ∃ b6, w2.heap.size = b6 := ⟨_, rfl⟩
  rw [hw3] at HB3 BR3 BP3 ⊢
  rw [hb6] at BP3 LP NE ⊢
  clear hw3 hb6 HB2 BR2
  go_loopw [14] (fun v14 wr => ∃ k : Nat, k ≤ 3 ∧ v14 = .int .i64 k ∧ Aside0 (∀ j, j < k → E j = 0) ∧ Aside0 (Below w.heap.size w wr) ∧ Aside0 (wr.heap[w.heap.size + 1]? = some (.cells #[.int .i64 0, .int .i64 0, .int .i64 0] 23 (0, 0))) ∧
    Aside0 (wr.heap[b6]? = some (.cells #[.int .i64 (upd R (pt a b c) k 0), .int .i64 (upd R (pt a b c) k 1), .int .i64 (upd R (pt a b c) k 2)] 51 (0, 0)))) (fun v14 _ => 3 - (intOf v14).toNat)
  case atStart => exact ⟨0, by omega, rfl, ⟨fun j hj => by omega⟩, HB3, BR3, BP3⟩
  case round =>
    clear HB3 BR3 BP3
    obtain ⟨k, hk, rfl, HE, HB, BR, BP⟩ := hrel
    by_cases hlt : k < 3
    · have hix := pix a b c k hlt
      go_wp2_with fail
      refine (HDO.out k hlt _ HB.out).mono ?_
      rintro e w4 ⟨rfl, hb⟩
      have HB4 := Aside0.mk (below_then HB.out HB.out.size hb)
      have BR4 := Aside0.mk (blk_below BR.out hb)
      have BP4 := Aside0.mk (blk_below BP.out hb)
      clear hb HB BR BP
      by_cases he : E k = 0
      · rw [he]
        have HE4 := Aside0.mk (show ∀ j, j < k + 1 → E j = 0 from fun j hj => by
          by_cases h : j = k
          · rw [h]; exact he
          · exact HE.out j (by omega))
        clear he
        obtain ⟨d0, d1, d2⟩ := cell3 BP4.out
        have df := fun i => blk_frozen BP4.out i
        have : k = 0 ∨ k = 1 ∨ k = 2 := by omega
        rcases this with rfl | rfl | rfl
        · go_wp2
          go_roundw
          case rel => exact ⟨1, by omega, rfl, HE4, ⟨HB4.out.setCell (p := ⟨b6, 0, none⟩) (Nat.le_of_succ_le LP.out) _⟩, ⟨(Below.heap_setCell _ ⟨b6, 0, none⟩ _ _ NE.out).trans BR4.out⟩, ⟨blk_put BP4.out 0 _ rfl⟩⟩
          case measure => simp [intOf]
        · go_wp2
          go_roundw
          case rel => exact ⟨2, by omega, rfl, HE4, ⟨HB4.out.setCell (p := ⟨b6, 1, none⟩) (Nat.le_of_succ_le LP.out) _⟩, ⟨(Below.heap_setCell _ ⟨b6, 1, none⟩ _ _ NE.out).trans BR4.out⟩, ⟨blk_put BP4.out 1 _ rfl⟩⟩
          case measure => simp [intOf]
        · go_wp2
          go_roundw
          case rel => exact ⟨3, by omega, rfl, HE4, ⟨HB4.out.setCell (p := ⟨b6, 2, none⟩) (Nat.le_of_succ_le LP.out) _⟩, ⟨(Below.heap_setCell _ ⟨b6, 2, none⟩ _ _ NE.out).trans BR4.out⟩, ⟨blk_put BP4.out 2 _ rfl⟩⟩
          case measure => simp [intOf]
      · have hne : (E k != 0) = true := by simp [he]
        have HV := Aside0.mk (show eachV R E = (0, 0, 0, 5) from by
          unfold eachV; rw [if_neg]; rintro ⟨e0, e1, e2⟩
          have : k = 0 ∨ k = 1 ∨ k = 2 := by omega
          rcases this with rfl | rfl | rfl <;> exact he (by assumption))
        clear he
        obtain ⟨d0, d1, d2⟩ := cell3 BR4.out
        have df := fun i => blk_frozen BR4.out i
        go_wp2_with fail
        refine bodyPost_ret (results_ve 4 5 rfl _ (w.heap.size + 1) _ 0 0 0 5 rfl rfl (put3 BR4.out _ _ _)) rfl ⟨by rw [HV.out], below3 HB4.out (by omega) _ _ _⟩
    · obtain rfl : k = 3 := by omega
      have HV := Aside0.mk (show eachV R E = madeV (R 0) (R 1) (R 2) from by
        unfold eachV; rw [if_pos ⟨HE.out 0 (by omega), HE.out 1 (by omega), HE.out 2 (by omega)⟩])
      have BP' := Aside0.mk (show wr.heap[b6]? = some (.cells #[.int .i64 (R 0), .int .i64 (R 1), .int .i64 (R 2)] 51 (0, 0)) from BP.out)
      clear BP
      obtain ⟨d0, d1, d2⟩ := cell3 BP'.out
      go_wp2_with fail
      refine (made_calls (R 0) (R 1) (R 2) _).mono ?_
      rintro e w4 ⟨rfl, hb⟩
      have HB4 := Aside0.mk (below_then HB.out HB.out.size hb)
      have BR4 := Aside0.mk (blk_below BR.out hb)
      clear hb HB BR d0 d1 d2
      obtain ⟨d0, d1, d2⟩ := cell3 BR4.out
      have df := fun i => blk_frozen BR4.out i
      go_wp2_with fail
      refine bodyPost_ret (results_ve 4 5 rfl _ (w.heap.size + 1) _ (madeV (R 0) (R 1) (R 2)).1 (madeV (R 0) (R 1) (R 2)).2.1 (madeV (R 0) (R 1) (R 2)).2.2.1 (madeV (R 0) (R 1) (R 2)).2.2.2 rfl rfl (put3 BR4.out _ _ _)) rfl ⟨by rw [HV.out], below3 HB4.out (by omega) _ _ _⟩
end Go.Proofs.YtcpikafmclfcfaaDoor.Vc
end
section
namespace Go.Proofs.YtcpikafmclfcfaaDoor.Vc
open Go.RowKit Go.Proofs.YtcpikafmclfcfaaDoorW.PrintWords Go.Proofs.YtcpikafmclfcfaaDoorW.PrintLast Go.Proofs.YtcpikafmclfcfaaDoorW.PrintMore Go.Proofs.YtcpikafmclfcfaaDoor.PV Go.Proofs.YtcpikafmclfcfaaDoor.Vl
set_option linter.unusedVariables false
set_option linter.unusedSimpArgs false
def subV (a b c x y z : Int) : Int × Int × Int × Int := if rightB a b c = true ∧ rightB x y z = true then eachV (fun k => wrap64 (pt a b c k - pt x y z k)) (fun _ => 0) else (0, 0, 0, 1)
set_option maxHeartbeats 2000000 in
set_option maxRecDepth 100000 in
theorem Sub_calls (a b c x y z : Int) (w : World) : Calls Tryd.prog 24 #[vecV a b c, vecV x y z] w fun e w' =>
    e = .returned (.tuple #[vecV (subV a b c x y z).1 (subV a b c x y z).2.1 (subV a b c x y z).2.2.1, .int .i64 (subV a b c x y z).2.2.2]) ∧ Below w.heap.size w w' := by
  have hu23 := Tryd.underlying23
  have hu51 := Tryd.underlying51
  go_enter Tryd.func24, Tryd.ntmps24
  go_wp2_with fail
  obtain ⟨w1, hw1⟩ : ∃ w1, ((w.alloc (.cells #[.int .i64 a, .int .i64 b, .int .i64 c] 23)).alloc (.cells #[.int .i64 x, .int .i64 y, .int .i64 z] 23)).alloc (.cells #[.int .i64 0, .int .i64 0, .int .i64 0] 23) = w1 := ⟨_, rfl⟩
  have HB1 := Aside0.mk (below_alloc (below_alloc (below_alloc (Below.refl w.heap.size w) (.cells #[.int .i64 a, .int .i64 b, .int .i64 c] 23)) (.cells #[.int .i64 x, .int .i64 y, .int .i64 z] 23)) (.cells #[.int .i64 0, .int .i64 0, .int .i64 0] 23))
  have BV1 := Aside0.mk (blk_alloc (blk_alloc (blk_new w (.cells #[.int .i64 a, .int .i64 b, .int .i64 c] 23)) (.cells #[.int .i64 x, .int .i64 y, .int .i64 z] 23)) (.cells #[.int .i64 0, .int .i64 0, .int .i64 0] 23))
  have BN1 := Aside0.mk (blk_alloc (blk_new (w.alloc (.cells #[.int .i64 a, .int .i64 b, .int .i64 c] 23)) (.cells #[.int .i64 x, .int .i64 y, .int .i64 z] 23)) (.cells #[.int .i64 0, .int .i64 0, .int .i64 0] 23))
  have BR1 := Aside0.mk (blk_new ((w.alloc (.cells #[.int .i64 a, .int .i64 b, .int .i64 c] 23)).alloc (.cells #[.int .i64 x, .int .i64 y, .int .i64 z] 23)) (.cells #[.int .i64 0, .int .i64 0, .int .i64 0] 23))
  rw [World.size_alloc] at BN1
  rw [World.size_alloc, World.size_alloc] at BR1
  rw [hw1] at HB1 BV1 BN1 BR1 ⊢
  clear hw1
  refine (Right_calls a b c _).mono ?_
  rintro e w2 ⟨rfl, hb⟩
  have HB2 := Aside0.mk (below_then HB1.out HB1.out.size hb)
  have BV2 := Aside0.mk (blk_below BV1.out hb)
  have BN2 := Aside0.mk (blk_below BN1.out hb)
  have BR2 := Aside0.mk (blk_below BR1.out hb)
  clear hb HB1 BV1 BN1 BR1
  cases hr : rightB a b c with
  | false =>
    have HV := Aside0.mk (show subV a b c x y z = (0, 0, 0, 1) from if_neg (by rw [hr]; simp))
    obtain ⟨d0, d1, d2⟩ := cell3 BR2.out
    have df := fun i => blk_frozen BR2.out i
    go_wp2_with fail
    refine bodyPost_ret (results_ve 4 5 rfl _ (w.heap.size + 1 + 1) _ 0 0 0 1 rfl rfl (put3 BR2.out _ _ _)) rfl ⟨by rw [HV.out], below3 HB2.out (by omega) _ _ _⟩
  | true =>
    obtain ⟨e0, e1, e2⟩ := cell3 BN2.out
    go_wp2_with fail
    refine (Right_calls x y z _).mono ?_
    rintro e w3 ⟨rfl, hb⟩
    have HB3 := Aside0.mk (below_then HB2.out HB2.out.size hb)
    have BV3 := Aside0.mk (blk_below BV2.out hb)
    have BN3 := Aside0.mk (blk_below BN2.out hb)
    have BR3 := Aside0.mk (blk_below BR2.out hb)
    clear hb HB2 BV2 BN2 BR2 e0 e1 e2
    obtain ⟨d0, d1, d2⟩ := cell3 BR3.out
    have df := fun i => blk_frozen BR3.out i
    cases hs : rightB x y z with
    | false =>
      have HV := Aside0.mk (show subV a b c x y z = (0, 0, 0, 1) from if_neg (by rw [hs]; simp))
      go_wp2_with fail
      refine bodyPost_ret (results_ve 4 5 rfl _ (w.heap.size + 1 + 1) _ 0 0 0 1 rfl rfl (put3 BR3.out _ _ _)) rfl ⟨by rw [HV.out], below3 HB3.out (by omega) _ _ _⟩
    | true =>
      have HV := Aside0.mk (show subV a b c x y z = eachV (fun k => wrap64 (pt a b c k - pt x y z k)) (fun _ => 0) from if_pos ⟨hr, hs⟩)
      obtain ⟨e0, e1, e2⟩ := cell3 BN3.out
      go_wp2_with fail
      refine (parts_calls x y z _).mono ?_
      rintro e w4 ⟨rfl, hb⟩
      have HB4 := Aside0.mk (below_then HB3.out HB3.out.size hb)
      have BV4 := Aside0.mk (blk_alloc (blk_below BV3.out hb) (.cells #[.int .i64 x, .int .i64 y, .int .i64 z] 51))
      have BR4 := Aside0.mk (blk_alloc (blk_below BR3.out hb) (.cells #[.int .i64 x, .int .i64 y, .int .i64 z] 51))
      have BP4 := Aside0.mk (blk_new w4 (.cells #[.int .i64 x, .int .i64 y, .int .i64 z] 51))
      have HB5 := Aside0.mk (below_alloc HB4.out (.cells #[.int .i64 x, .int .i64 y, .int .i64 z] 51))
      clear hb HB3 BV3 BN3 BR3 e0 e1 e2 d0 d1 d2 df
      obtain ⟨c0, c1, c2⟩ := cell3 BV4.out
      go_wp2_with fail
      obtain ⟨w5, hw5⟩ : ∃ w5, w4.alloc (.cells #[.int .i64 x, .int .i64 y, .int .i64 z] 51) = w5 := ⟨_, rfl⟩
      obtain ⟨b6, hb6⟩ : ∃ b6, w4.heap.size = b6 := ⟨_, rfl⟩
      rw [hw5] at BV4 BR4 BP4 HB5 ⊢
      rw [hb6] at BP4 ⊢
      clear hw5 hb6 HB4 c0 c1 c2
      refine (each47_calls a b c ⟨b6, 0, none⟩ (fun k => wrap64 (pt a b c k - pt x y z k)) (fun _ => 0) _ (fun k hk w' hb => minus_calls x y z b6 k hk (pt a b c k) w' (blk_below BP4.out hb))).mono ?_
      rintro e w6 ⟨rfl, hb⟩
      have HB6 := Aside0.mk (below_then HB5.out HB5.out.size hb)
      have BR6 := Aside0.mk (blk_below BR4.out hb)
      clear hb
      obtain ⟨d0, d1, d2⟩ := cell3 BR6.out
      have df := fun i => blk_frozen BR6.out i
      rw [← HV.out]
      clear HV
      go_wp2_with fail
      refine bodyPost_ret (results_ve 4 5 rfl _ (w.heap.size + 1 + 1) _ (subV a b c x y z).1 (subV a b c x y z).2.1 (subV a b c x y z).2.2.1 (subV a b c x y z).2.2.2 rfl rfl (put3 BR6.out _ _ _)) rfl ⟨rfl, below3 HB6.out (by omega) _ _ _⟩
end Go.Proofs.YtcpikafmclfcfaaDoor.Vc
end
section
namespace Go.Proofs.YtcpikafmclfcfaaDoor.Vc
open Go.RowKit Go.Proofs.YtcpikafmclfcfaaDoorW.PrintWords Go.Proofs.YtcpikafmclfcfaaDoorW.PrintLast Go.Proofs.YtcpikafmclfcfaaDoorW.PrintMore Go.Proofs.YtcpikafmclfcfaaDoor.PV Go.Proofs.YtcpikafmclfcfaaDoor.Vl
set_option linter.unusedVariables false
set_option linter.unusedSimpArgs false
end Go.Proofs.YtcpikafmclfcfaaDoor.Vc
end
section
namespace Go.Proofs.YtcpikafmclfcfaaDoor.PY
open Go.RowKit Go.Proofs.YtcpikafmclfcfaaDoorW.PrintWords Go.Proofs.YtcpikafmclfcfaaDoor.Vl Go.Proofs.YtcpikafmclfcfaaDoor.Vc
set_option linter.unusedVariables false
def vec_Fits.f (a b c x y z : Int) : Option Bool := some (fitsB a b c x y z)
theorem vec_Fits.calls (a b c x y z : Int) (r : Bool) (w : World) (h : vec_Fits.f a b c x y z = some r) :
    Calls Tryd.prog 17 #[.agg #[.int .i64 a, .int .i64 b, .int .i64 c], .agg #[.int .i64 x, .int .i64 y, .int .i64 z]] w fun e w' => e = .returned (.bool r) ∧ Below w.heap.size w w' := by
  cases h
  exact Fits_calls a b c x y z w
def vec_Sub.f (a b c x y z : Int) : Option (Int × Int × Int × Int) := some (subV a b c x y z)
theorem vec_Sub.calls (a b c x y z : Int) (r1 r2 r3 r4 : Int) (w : World) (h : vec_Sub.f a b c x y z = some (r1, r2, r3, r4)) :
    Calls Tryd.prog 24 #[.agg #[.int .i64 a, .int .i64 b, .int .i64 c], .agg #[.int .i64 x, .int .i64 y, .int .i64 z]] w fun e w' => e = .returned (.tuple #[.agg #[.int .i64 r1, .int .i64 r2, .int .i64 r3], .int .i64 r4]) ∧ Below w.heap.size w w' := by
  have h := Option.some.inj h
  have := Sub_calls a b c x y z w
  rw [h] at this
  exact this
end Go.Proofs.YtcpikafmclfcfaaDoor.PY
end
section
namespace Go.Proofs.YtcpikafmclfcfaaDoor.Vc
open Go.RowKit Go.Proofs.YtcpikafmclfcfaaDoorW.PrintWords Go.Proofs.YtcpikafmclfcfaaDoorW.PrintLast Go.Proofs.YtcpikafmclfcfaaDoorW.PrintMore Go.Proofs.YtcpikafmclfcfaaDoor.Vl
open Go.Proofs.YtcpikafmclfcfaaDoor.PY (S23 k23 rd_T23 at_T23 z23)
set_option linter.unusedVariables false
set_option linter.unusedSimpArgs false
def okS (x : S23) : Bool := rightB x.f0 x.f1 x.f2
set_option maxRecDepth 100000 in
theorem notRight_calls (a b c : Int) (w : World) : Calls Tryd.prog 44 #[vecV a b c] w fun e w' => e = .returned (.bool (!rightB a b c)) ∧ Below w.heap.size w w' := by
  have hu23 := Tryd.underlying23
  go_enter Tryd.func44, Tryd.ntmps44
  go_wp2_with fail
  refine (Right_calls a b c _).mono ?_
  rintro e w1 ⟨rfl, hb⟩
  have HB := Aside0.mk (below_then (below_alloc (Below.refl w.heap.size w) _) (below_alloc (Below.refl w.heap.size w) _).size hb)
  clear hb
  go_wp2
  go_ret
  exact ⟨rfl, HB.out⟩
theorem rd_nat23 (l : List S23) (k : Nat) (h : k < l.length) : rd_T23 l k = l[k] := by simp [rd_T23, h]
theorem index_calls (A : Option Addr) (c : Nat) (l : List S23) (w : World) (hr : Kd.C k23 w A l.length l) (hl : l.length ≤ 9223372036854775807) :
    Calls Tryd.prog 64 #[.slice A l.length c, .func (.func 44) #[] #[]] w fun e w' => (∃ i : Int, e = .returned (.int .i64 i) ∧ decide (i ≥ 0) = l.any (fun x => !okS x)) ∧ Below w.heap.size w w' := by
  have hu23 := Tryd.underlying23
  have hu38 := Tryd.underlying38
  have HR := Aside0.mk hr
  have HL := Aside0.mk hl
  clear hr hl
  go_enter Tryd.func64, Tryd.ntmps64
  go_wp2_with fail
  go_loopw [8] (fun v8 wr => ∃ k : Nat, k ≤ l.length ∧ v8 = .int .i64 k ∧ Aside0 (∀ x ∈ l.take k, okS x = true) ∧ Aside0 (Below w.heap.size w wr)) (fun v8 _ => l.length - (intOf v8).toNat)
  case atStart => exact ⟨0, Nat.zero_le _, rfl, ⟨fun x hx => by simp at hx⟩, ⟨Below.refl _ _⟩⟩
  case round =>
    obtain ⟨k, hk, rfl, HO, HB⟩ := hrel
    by_cases hlt : k < l.length
    · have hci : ((k : Int) < (l.length : Int)) := by omega
      obtain ⟨ad, rfl, e0, e1, e2⟩ := at_T23 (Kd.C_below HR.out HB.out) (k : Int) (by omega) (by omega)
      rw [rd_nat23 l k hlt] at e0 e1 e2
      simp only [Int.toNat_natCast] at e0 e1 e2
      have p0 : (0 ≤ (k : Int)) = True := eq_true (by omega)
      have q0 : ((k : Int) < (l.length : Int)) = True := eq_true hci
      have HK := Aside0.mk hci
      clear hci
      have HM := Aside0.mk (show l[k] ∈ l from List.getElem_mem _)
      go_wp2_with fail
      refine (notRight_calls l[k].f0 l[k].f1 l[k].f2 _).mono ?_
      rintro e w2 ⟨rfl, hb⟩
      have HB2 := Aside0.mk (below_then HB.out HB.out.size hb)
      clear hb
      cases hx : rightB l[k].f0 l[k].f1 l[k].f2 with
      | false =>
        have HA := Aside0.mk (show (l.any fun x => !okS x) = true from List.any_eq_true.2 ⟨l[k], HM.out, by show (!rightB l[k].f0 l[k].f1 l[k].f2) = true; rw [hx]; rfl⟩)
        clear hx
        go_wp2_with fail
        go_ret
        exact ⟨⟨_, rfl, by rw [HA.out]; simp⟩, HB2.out⟩
      | true =>
        have HO2 := Aside0.mk (show ∀ x ∈ l.take (k + 1), okS x = true from fun x hx' => by
          rw [List.take_succ_eq_append_getElem hlt] at hx'
          rcases List.mem_append.1 hx' with h | h
          · exact HO.out x h
          · rw [List.mem_singleton.1 h]; exact hx)
        have hw1 : wrap64 ((k : Int) + 1) = (k : Int) + 1 := by have := HL.out; unfold wrap64; omega
        clear hx
        go_wp2_with fail
        rw [hw1]
        exact ⟨⟨k + 1, by omega, rfl, HO2, HB2⟩, show l.length - (k + 1) < l.length - k by omega⟩
    · obtain rfl : k = l.length := by omega
      have HA := Aside0.mk (show (l.any fun x => !okS x) = false from by
        rw [List.any_eq_false]; intro x hx; rw [HO.out x (by rw [List.take_length]; exact hx)]; simp)
      go_wp2
      go_ret
      exact ⟨⟨-1, rfl, by rw [HA.out]; rfl⟩, HB.out⟩
theorem contains_calls (A : Option Addr) (c : Nat) (l : List S23) (w : World) (hr : Kd.C k23 w A l.length l) (hl : l.length ≤ 9223372036854775807) :
    Calls Tryd.prog 43 #[.slice A l.length c, .func (.func 44) #[] #[]] w fun e w' => e = .returned (.bool (l.any (fun x => !okS x))) ∧ Below w.heap.size w w' := by
  have hix := Aside0.mk (index_calls A c l w hr hl)
  clear hr hl
  go_enter Tryd.func43, Tryd.ntmps43
  go_wp2_with fail
  refine hix.out.mono ?_
  rintro e w1 ⟨⟨i, rfl, hi⟩, hb⟩
  have HI := Aside0.mk hi
  clear hi
  go_wp2
  go_ret
  exact ⟨by rw [← HI.out]; rfl, hb⟩
def addG (s : Int × Int × Int) : List S23 → Int × Int × Int × Int
  | [] => (s.1, s.2.1, s.2.2, 0)
  | v :: l => if (eachV (fun k => wrap64 (pt s.1 s.2.1 s.2.2 k + pt v.f0 v.f1 v.f2 k)) (fun _ => 0)).2.2.2 = 0 then addG ((eachV (fun k => wrap64 (pt s.1 s.2.1 s.2.2 k + pt v.f0 v.f1 v.f2 k)) (fun _ => 0)).1, (eachV (fun k => wrap64 (pt s.1 s.2.1 s.2.2 k + pt v.f0 v.f1 v.f2 k)) (fun _ => 0)).2.1, (eachV (fun k => wrap64 (pt s.1 s.2.1 s.2.2 k + pt v.f0 v.f1 v.f2 k)) (fun _ => 0)).2.2.1) l
    else (0, 0, 0, (eachV (fun k => wrap64 (pt s.1 s.2.1 s.2.2 k + pt v.f0 v.f1 v.f2 k)) (fun _ => 0)).2.2.2)
def addV (l : List S23) : Int × Int × Int × Int := if (l.any fun x => !okS x) = true then (0, 0, 0, 1) else addG (0, 0, 0) l
set_option maxHeartbeats 4000000 in
set_option maxRecDepth 100000 in
theorem Add_calls (A : Option Addr) (c : Nat) (l : List S23) (w : World) (hr : Kd.C k23 w A l.length l) (hl : l.length ≤ 9223372036854775807) :
    Calls Tryd.prog 23 #[.slice A l.length c] w fun e w' => e = .returned (.tuple #[vecV (addV l).1 (addV l).2.1 (addV l).2.2.1, .int .i64 (addV l).2.2.2]) ∧ Below w.heap.size w w' := by
  have hu23 := Tryd.underlying23
  have hu38 := Tryd.underlying38
  have hu51 := Tryd.underlying51
  have HR := Aside0.mk hr
  have HL := Aside0.mk hl
  clear hr hl
  go_enter Tryd.func23, Tryd.ntmps23
  go_wp2_with fail
  obtain ⟨w1, hw1⟩ : ∃ w1, w.alloc (.cells #[.int .i64 0, .int .i64 0, .int .i64 0] 23) = w1 := ⟨_, rfl⟩
  have HB1 := Aside0.mk (below_alloc (Below.refl w.heap.size w) (.cells #[.int .i64 0, .int .i64 0, .int .i64 0] 23))
  have BR1 := Aside0.mk (blk_new w (.cells #[.int .i64 0, .int .i64 0, .int .i64 0] 23))
  rw [hw1] at HB1 BR1 ⊢
  clear hw1
  refine (contains_calls A c l _ (Kd.C_below HR.out HB1.out) HL.out).mono ?_
  rintro e w2 ⟨rfl, hb⟩
  have HB2 := Aside0.mk (below_then HB1.out HB1.out.size hb)
  have BR2 := Aside0.mk (blk_below BR1.out hb)
  clear hb HB1 BR1
  cases hany : (l.any fun x => !okS x) with
  | true =>
    have HV := Aside0.mk (show addV l = (0, 0, 0, 1) from if_pos hany)
    obtain ⟨d0, d1, d2⟩ := cell3 BR2.out
    have df := fun i => blk_frozen BR2.out i
    clear hany
    go_wp2_with fail
    refine bodyPost_ret (results_ve 2 3 rfl _ w.heap.size _ 0 0 0 1 rfl rfl (put3 BR2.out _ _ _)) rfl ⟨by rw [HV.out], below3 HB2.out (by omega) _ _ _⟩
  | false =>
    have HV := Aside0.mk (show addV l = addG (0, 0, 0) l from if_neg (by rw [hany]; simp))
    clear hany
    have HB3 := Aside0.mk (below_alloc HB2.out (.cells #[.int .i64 0, .int .i64 0, .int .i64 0] 23))
    have BR3 := Aside0.mk (blk_alloc BR2.out (.cells #[.int .i64 0, .int .i64 0, .int .i64 0] 23))
    have BS3 := Aside0.mk (blk_new w2 (.cells #[.int .i64 0, .int .i64 0, .int .i64 0] 23))
    have LS := Aside0.mk (blk_lt BR2.out)
    go_wp2_with fail
    obtain ⟨w3, hw3⟩ : ∃ w3, w2.alloc (.cells #[.int .i64 0, .int .i64 0, .int .i64 0] 23) = w3 := ⟨_, rfl⟩
    obtain ⟨b4, hb4⟩ : ∃ b4, w2.heap.size = b4 := ⟨_, rfl⟩
    rw [hw3] at HB3 BR3 BS3 ⊢
    rw [hb4] at BS3 LS ⊢
    clear hw3 hb4 HB2 BR2
    go_loopw [15] (fun v15 wr => ∃ (k : Nat) (s : Int × Int × Int), k ≤ l.length ∧ v15 = .int .i64 k ∧ Aside0 (addG (0, 0, 0) l = addG s (l.drop k)) ∧ Aside0 (Below w.heap.size w wr) ∧ Aside0 (wr.heap[w.heap.size]? = some (.cells #[.int .i64 0, .int .i64 0, .int .i64 0] 23 (0, 0))) ∧
      Aside0 (wr.heap[b4]? = some (.cells #[.int .i64 s.1, .int .i64 s.2.1, .int .i64 s.2.2] 23 (0, 0)))) (fun v15 _ => l.length - (intOf v15).toNat)
    case atStart => exact ⟨0, (0, 0, 0), Nat.zero_le _, rfl, ⟨rfl⟩, HB3, BR3, BS3⟩
    case round =>
      clear HB3 BR3 BS3
      obtain ⟨k, s, hk, rfl, HG, HB, BR, BS⟩ := hrel
      by_cases hlt : k < l.length
      · have hci : ((k : Int) < (l.length : Int)) := by omega
        obtain ⟨ad, rfl, e0, e1, e2⟩ := at_T23 (Kd.C_below HR.out HB.out) (k : Int) (by omega) (by omega)
        rw [rd_nat23 l k hlt] at e0 e1 e2
        simp only [Int.toNat_natCast] at e0 e1 e2
        have p0 : (0 ≤ (k : Int)) = True := eq_true (by omega)
        have q0 : ((k : Int) < (l.length : Int)) = True := eq_true hci
        have HK := Aside0.mk hci
        clear hci
        obtain ⟨v, hv⟩ : ∃ v, l[k] = v := ⟨_, rfl⟩
        have HD := Aside0.mk (show l.drop k = v :: l.drop (k + 1) from by rw [← hv]; exact List.drop_eq_getElem_cons hlt)
        rw [hv] at e0 e1 e2
        clear hv
        go_wp2_with fail
        refine (parts_calls v.f0 v.f1 v.f2 _).mono ?_
        rintro e w5 ⟨rfl, hb⟩
        have HB5 := Aside0.mk (below_then (below_alloc HB.out (.cells #[.int .i64 v.f0, .int .i64 v.f1, .int .i64 v.f2] 23)) (below_alloc HB.out (.cells #[.int .i64 v.f0, .int .i64 v.f1, .int .i64 v.f2] 23)).size hb)
        have BR5 := Aside0.mk (blk_below (blk_alloc BR.out (.cells #[.int .i64 v.f0, .int .i64 v.f1, .int .i64 v.f2] 23)) hb)
        have BS5 := Aside0.mk (blk_below (blk_alloc BS.out (.cells #[.int .i64 v.f0, .int .i64 v.f1, .int .i64 v.f2] 23)) hb)
        clear hb HB BR BS e0 e1 e2
        have HB6 := Aside0.mk (below_alloc HB5.out (.cells #[.int .i64 v.f0, .int .i64 v.f1, .int .i64 v.f2] 51))
        have BR6 := Aside0.mk (blk_alloc BR5.out (.cells #[.int .i64 v.f0, .int .i64 v.f1, .int .i64 v.f2] 51))
        have BS6 := Aside0.mk (blk_alloc BS5.out (.cells #[.int .i64 v.f0, .int .i64 v.f1, .int .i64 v.f2] 51))
        have BP6 := Aside0.mk (blk_new w5 (.cells #[.int .i64 v.f0, .int .i64 v.f1, .int .i64 v.f2] 51))
        obtain ⟨f0, f1, f2⟩ := cell3 BS6.out
        go_wp2_with fail
        obtain ⟨w6, hw6⟩ : ∃ w6, w5.alloc (.cells #[.int .i64 v.f0, .int .i64 v.f1, .int .i64 v.f2] 51) = w6 := ⟨_, rfl⟩
        obtain ⟨b7, hb7⟩ : ∃ b7, w5.heap.size = b7 := ⟨_, rfl⟩
        rw [hw6] at HB6 BR6 BS6 BP6 ⊢
        rw [hb7] at BP6 ⊢
        clear hw6 hb7 HB5 BR5 BS5 f0 f1 f2
        refine (each46_calls s.1 s.2.1 s.2.2 ⟨b7, 0, none⟩ (fun k => wrap64 (pt s.1 s.2.1 s.2.2 k + pt v.f0 v.f1 v.f2 k)) (fun _ => 0) _ (fun k hk w' hb => plus_calls v.f0 v.f1 v.f2 b7 k hk (pt s.1 s.2.1 s.2.2 k) w' (blk_below BP6.out hb))).mono ?_
        rintro e w7 ⟨rfl, hb⟩
        have HB7 := Aside0.mk (below_then HB6.out HB6.out.size hb)
        have BR7 := Aside0.mk (blk_below BR6.out hb)
        have BS7 := Aside0.mk (blk_below BS6.out hb)
        clear hb HB6 BR6 BS6 BP6
        obtain ⟨⟨r0, r1, r2, r3⟩, hR⟩ : ∃ r, eachV (fun k => wrap64 (pt s.1 s.2.1 s.2.2 k + pt v.f0 v.f1 v.f2 k)) (fun _ => 0) = r := ⟨_, rfl⟩
        rw [hR]
        have HRR := Aside0.mk (show addG s (v :: l.drop (k + 1)) = if r3 = 0 then addG (r0, r1, r2) (l.drop (k + 1)) else (0, 0, 0, r3) from by simp only [addG]; rw [hR])
        clear hR
        have HB8 := Aside0.mk (below_alloc HB7.out (.cells #[.int .i64 r0, .int .i64 r1, .int .i64 r2] 23))
        have BR8 := Aside0.mk (blk_alloc BR7.out (.cells #[.int .i64 r0, .int .i64 r1, .int .i64 r2] 23))
        have BS8 := Aside0.mk (blk_alloc BS7.out (.cells #[.int .i64 r0, .int .i64 r1, .int .i64 r2] 23))
        obtain ⟨f0, f1, f2⟩ := cell3 BS8.out
        have ff := fun i => blk_frozen BS8.out i
        obtain ⟨d0, d1, d2⟩ := cell3 BR8.out
        have df := fun i => blk_frozen BR8.out i
        have hw1 : wrap64 ((k : Int) + 1) = (k : Int) + 1 := by have := HL.out; have := HK.out; unfold wrap64; omega
        by_cases h3 : r3 = 0
        · subst h3
          have HG2 := Aside0.mk (show addG (0, 0, 0) l = addG (r0, r1, r2) (l.drop (k + 1)) from by rw [HG.out, HD.out, HRR.out, if_pos rfl])
          go_wp2_with fail
          rw [hw1]
          exact ⟨⟨k + 1, (r0, r1, r2), by omega, rfl, HG2, ⟨below3 HB8.out (Nat.le_of_lt LS.out) _ _ _⟩, ⟨keep3 BR8.out (Nat.ne_of_lt LS.out) _ _ _⟩, ⟨put3 BS8.out _ _ _⟩⟩, show l.length - (k + 1) < l.length - k by omega⟩
        · have hne : (r3 != 0) = true := by simp [h3]
          have HV2 := Aside0.mk (show addV l = (0, 0, 0, r3) from by rw [HV.out, HG.out, HD.out, HRR.out, if_neg h3])
          clear h3
          go_wp2_with fail
          refine bodyPost_ret (results_ve 2 3 rfl _ w.heap.size _ 0 0 0 r3 rfl rfl (put3 BR8.out _ _ _)) rfl ⟨by rw [HV2.out], below3 HB8.out (Nat.le_refl _) _ _ _⟩
      · obtain rfl : k = l.length := by omega
        have HV2 := Aside0.mk (show addV l = (s.1, s.2.1, s.2.2, 0) from by rw [HV.out, HG.out, List.drop_length]; rfl)
        obtain ⟨d0, d1, d2⟩ := cell3 BR.out
        have df := fun i => blk_frozen BR.out i
        obtain ⟨f0, f1, f2⟩ := cell3 BS.out
        go_wp2_with fail
        refine bodyPost_ret (results_ve 2 3 rfl _ w.heap.size _ s.1 s.2.1 s.2.2 0 rfl rfl (put3 BR.out _ _ _)) rfl ⟨by rw [HV2.out], below3 HB.out (by omega) _ _ _⟩
end Go.Proofs.YtcpikafmclfcfaaDoor.Vc
end
section
namespace Go.Proofs.YtcpikafmclfcfaaDoor.PY
open Go.RowKit Go.Proofs.YtcpikafmclfcfaaDoorW.PrintWords Go.Proofs.YtcpikafmclfcfaaDoor.Vc
set_option linter.unusedVariables false
def vec_Add.f (l : List S23) : Option (Int × Int × Int × Int) := if l.length ≤ 9223372036854775807 then some (addV l) else none
theorem vec_Add.calls (A0 : Option Addr) (c0 : Nat) (l0 : List S23) (r1 r2 r3 r4 : Int) (w : World) (hr0 : Kd.C k23 w A0 l0.length l0) (hc0 : l0.length ≤ c0) (h : vec_Add.f l0 = some (r1, r2, r3, r4)) :
    Calls Tryd.prog 23 #[.slice A0 l0.length c0] w fun e w' => e = .returned (.tuple #[.agg #[.int .i64 r1, .int .i64 r2, .int .i64 r3], .int .i64 r4]) ∧ Below w.heap.size w w' := by
  unfold vec_Add.f at h
  split at h
  · rename_i hl
    have h := Option.some.inj h
    have := Add_calls A0 c0 l0 w hr0 hl
    rw [h] at this
    exact this
  · cases h
end Go.Proofs.YtcpikafmclfcfaaDoor.PY
end
