/- Part 6 of the proof. -/
import Derived.Test.YtfhnljmoilifnaaGreatDoorZ05
import Derived.Test.YtfhnljmoilifnaaGreatDoorProg
import Derived.Test.YtfhnljmoilifnaaGreatDoorZ02
import Derived.KernelRfl
import GoSem.Extern.BytealgIndexByte
namespace Go.Proofs.YtfhnljmoilifnaaGreatDoor.Jt
open Go Go.Proofs.YtfhnljmoilifnaaGreatDoor.Ae Go.RowKit Go.Proofs
set_option linter.unusedVariables false
set_option linter.unusedSimpArgs false
theorem names : (Tryz.prog.funcs.toList.all fun fn => fn.name != "runtime.NumGoroutine") = true := by kernel_rfl
theorem hN : ∀ (f : Nat) (fn : Func), Tryz.prog.funcs[f]? = some fn → fn.name ≠ "runtime.NumGoroutine" := by
  intro f fn h e
  have := List.all_eq_true.1 names fn (by
    rw [← Array.getElem?_toList] at h
    exact List.mem_of_getElem? h)
  rw [e] at this
  simp at this
theorem hm : Tryz.prog.follows .mixedOrders = true := by kernel_rfl
theorem idx_run (args : Array Value) (w : World) : (callFunc 257 args).run Tryz.prog w = (do pure (Next.value (← Extern.BytealgIndexByte.indexByte args)) : Sem Next).run Tryz.prog w := by kernel_rfl
noncomputable def joinV (sep : ByteArray) (xs : List ByteArray) : ByteArray := ⟨(Lib.join (xs.map (·.data.toList)) sep.data.toList).toArray⟩
noncomputable def joinQ (hp : Hp) : List Value → Option (Value × Hp)
  | [.slice (some ⟨b, o, none⟩) n c, .string sep] => match YtfhnljmoilifnaaGreatDoor.Ae.cellsIn hp 1 (.slice (some ⟨b, o, none⟩) n c) with
    | some (cs, _) => match strsA cs with
      | some xs => bif Nat.blt 0 n && Nat.ble n c && Nat.ble n 100000 && !Nat.beq b 1000000 && Nat.ble (Lib.join (xs.map (·.data.toList)) sep.data.toList).length 1000000 then some (.string (joinV sep xs), hp) else none
      | none => none
    | none => none
  | _ => none
noncomputable def idxQ (hp : Hp) : List Value → Option (Value × Hp)
  | [.string s, .int .u8 c] => match pureRun Tryz.prog (Extern.BytealgIndexByte.indexByte #[.string s, .int .u8 c]) with
    | some v => bif flat v then some (v, hp) else none
    | none => none
  | _ => none
noncomputable def X1 : CallF := fun f args hp => bif Nat.beq f 112 then joinQ hp args else bif Nat.beq f 257 then idxQ hp args else none
theorem strsA_eq : ∀ {cs : List Value} {xs : List ByteArray}, strsA cs = some xs → cs = xs.map Value.string
  | [], xs, h => by cases h; rfl
  | v :: vs, xs, h => by
    cases v <;> first | (simp [strsA] at h; done) | skip
    simp only [strsA] at h
    cases h1 : strsA vs with
    | none => rw [h1] at h; cases h
    | some ys =>
      rw [h1] at h
      cases h
      rw [strsA_eq h1]
      rfl
theorem flats_strs (xs : List ByteArray) : flats (xs.map Value.string) = true := by
  induction xs with
  | nil => rfl
  | cons x xs ih => simp only [List.map_cons, flats, flat, Bool.true_and]; exact ih
theorem X1_ok (G : Nat) (w0 : World) : CallOk Tryz.prog G w0 X1 := by
  intro f args hp v hp' h ρ args' w ha hR
  unfold X1 at h
  cases h1 : Nat.beq f 112 with
  | true =>
    rw [h1, cond_true] at h
    have h1 := eq_beq h1
    subst h1
    unfold joinQ at h
    split at h
    · rename_i b o n c sep
      obtain ⟨x', l1, rfl, hx, hl⟩ := ha.inv
      obtain ⟨s', l2, rfl, hs, hl⟩ := hl.inv
      have := hl.inv_nil
      subst this
      have := hs.string
      subst this
      cases hc : YtfhnljmoilifnaaGreatDoor.Ae.cellsIn hp 1 (.slice (some ⟨b, o, none⟩) n c) with
      | none => rw [hc] at h; cases h
      | some q =>
        obtain ⟨cs, k⟩ := q
        rw [hc] at h
        dsimp only at h
        cases hxs : strsA cs with
        | none => rw [hxs] at h; cases h
        | some xs =>
          rw [hxs] at h
          dsimp only at h
          cases hb : (Nat.blt 0 n && Nat.ble n c && Nat.ble n 100000 && !Nat.beq b 1000000 && Nat.ble (Lib.join (xs.map (·.data.toList)) sep.data.toList).length 1000000) with
          | false => rw [hb] at h; cases h
          | true =>
            rw [hb, cond_true] at h
            cases h
            simp only [Bool.and_eq_true, Bool.not_eq_true'] at hb
            obtain ⟨⟨⟨⟨p1, p2⟩, p3⟩, p4⟩, p5⟩ := hb
            have p1 := @Nat.le_of_ble_eq_true 1 n p1
            have p2 := Nat.le_of_ble_eq_true p2
            have p3 := Nat.le_of_ble_eq_true p3
            have p5 := Nat.le_of_ble_eq_true p5
            have hx2 := hx
            unfold VR at hx2
            rcases hx2 with ⟨q1, _⟩ | ⟨_, b', xt, c', q1, q2, q3, rfl⟩
            · cases q1; cases p4
            · rcases cellsIn_ok hR hc hx with ⟨cs', a', cp', e, g1, g2, g3⟩ | ⟨e, _, _⟩ | ⟨s, e, _⟩
              · cases e
                have hcs := strsA_eq hxs
                subst hcs
                have := flats_same _ _ (flats_strs xs) g1
                subst this
                have hlen : xs.length = n := by simpa using g2
                have hcell : ∀ (j : Nat) x, xs[j]? = some x → w.cell? ⟨b', o + j, none⟩ = some (.string x) := by
                  intro j x hj
                  have := g3 j (.string x) (by simp [hj])
                  rwa [add_mid] at this
                have hbk : b' < w.heap.size := (hR.bnd _ _ q1).2
                subst hlen
                refine .inr ⟨Tryz.call112 _ w, (Tryz.strings_Join b' o c' xs sep w hcell hbk (by omega) (by omega) (by omega)).mono ?_⟩
                rintro e w' ⟨rfl, hbel⟩
                exact ⟨_, rfl, ρ, Grow.refl _ _, hR.world hbel, by unfold VR; rfl⟩
              · cases e
              · cases e
    · cases h
  | false =>
    rw [h1, cond_false] at h
    cases h2 : Nat.beq f 257 with
    | false => rw [h2] at h; cases h
    | true =>
      rw [h2, cond_true] at h
      have h2 := eq_beq h2
      subst h2
      unfold idxQ at h
      split at h
      · rename_i s c
        obtain ⟨x', l1, rfl, hx, hl⟩ := ha.inv
        obtain ⟨s', l2, rfl, hs, hl⟩ := hl.inv
        have := hl.inv_nil
        subst this
        have := hx.string
        subst this
        have := hs.int
        subst this
        cases hr : pureRun Tryz.prog (Extern.BytealgIndexByte.indexByte #[.string s, .int .u8 c]) with
        | none => rw [hr] at h; cases h
        | some u =>
          rw [hr] at h
          dsimp only at h
          cases hf : flat u with
          | false => rw [hf] at h; cases h
          | true =>
            rw [hf, cond_true] at h
            cases h
            refine .inl ⟨v, w, ?_, ρ, Grow.refl _ _, hR, flat_self _ hf⟩
            rw [idx_run]
            simp only [Sem.run_bind]
            rw [pureRun_run _ _ w hr]
            rfl
      · cases h
noncomputable def rho0 : Rho := fun _ => none
theorem rel0 (w : World) : Rel Tryz.prog 0 w rho0 ⟨.nil, 0⟩ w :=
  ⟨fun b b' e => (nomatch e), fun b c q r e => (nomatch e), fun b b' e => (nomatch e), fun g hg => absurd hg (Nat.not_lt_zero g), fun b b' _ e => (nomatch e), Below.refl _ _, Nat.zero_le _, Nat.le_refl _⟩
noncomputable def okB : Option (Value × Hp) → Bool
  | some (.bool true, _) => true
  | _ => false
theorem okB_eq {x : Option (Value × Hp)} (h : okB x = true) : ∃ hp, x = some (.bool true, hp) := by
  unfold okB at h
  split at h
  · exact ⟨_, rfl⟩
  · cases h
theorem alive_run : okB (callA Tryz.prog X1 (runA Tryz.prog 0 X1 2000) 29 [] ⟨.nil, 0⟩) = true := by kernel_rfl
theorem alive_calls (w : World) : Calls Tryz.prog 29 #[] w fun e w' => e = .returned (.bool true) ∧ Below w.heap.size w w' := by
  obtain ⟨hp, h⟩ := okB_eq alive_run
  have := callA_ok hN (X1_ok 0 w) (runA_ok hN hm (X1_ok 0 w) 2000) 29 [] ⟨.nil, 0⟩ _ _ h rho0 [] w VRs.nil (rel0 w)
  rcases this with ⟨v, w', h1, _⟩ | ⟨_, h1⟩
  · rw [Tryz.call29] at h1
    cases h1
  · refine h1.mono ?_
    rintro e w' ⟨v, rfl, ρ', g1, g2, g3⟩
    exact ⟨by rw [g3.bool], g2.low⟩
end Go.Proofs.YtfhnljmoilifnaaGreatDoor.Jt
