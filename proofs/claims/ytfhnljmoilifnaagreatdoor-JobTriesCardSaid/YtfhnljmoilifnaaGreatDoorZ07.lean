/- Part 7 of the proof. -/
import Derived.Test.YtfhnljmoilifnaaGreatDoorZ06
namespace Go.Proofs.YtfhnljmoilifnaaGreatDoor.Jt
open Go Go.Proofs.YtfhnljmoilifnaaGreatDoor.Ae Go.RowKit Go.Proofs
set_option linter.unusedVariables false
set_option linter.unusedSimpArgs false
noncomputable def X2 : CallF := fun f args hp => bif Nat.beq f 29 then (match args with
  | [] => some (.bool true, hp)
  | _ => none) else X1 f args hp
theorem X2_ok (G : Nat) (w0 : World) : CallOk Tryz.prog G w0 X2 := by
  intro f args hp v hp' h ρ args' w ha hR
  unfold X2 at h
  cases h1 : Nat.beq f 29 with
  | true =>
    rw [h1, cond_true] at h
    have h1 := eq_beq h1
    subst h1
    split at h
    · cases h
      rw [ha.inv_nil]
      refine .inr ⟨Tryz.call29 _ w, (alive_calls w).mono ?_⟩
      rintro e w' ⟨rfl, hb⟩
      exact ⟨_, rfl, ρ, Grow.refl _ _, hR.world hb, by unfold VR; rfl⟩
    · cases h
  | false =>
    rw [h1, cond_false] at h
    exact X1_ok G w0 f args hp v hp' h ρ args' w ha hR
noncomputable def isTrue : Value → Bool
  | .bool true => true
  | _ => false
noncomputable def goodM (rs : List ResultVar) : Option (List (Ex × St)) → Bool
  | some l => answersM Tryz.prog rs isTrue l
  | none => false
theorem tries_run : goodM Tryz.f9.results.toList (runM Tryz.prog 0 (callA Tryz.prog X2 (runA Tryz.prog 0 X2 2000)) 2000 (Tryz.f9.body.getD .skip) ⟨argsT [anyI .u8] 0 .nil, Tryz.f9.ntmps, ⟨.nil, 0⟩⟩) = true := by kernel_rfl
theorem tries_calls (m : Int) (w : World) : Calls Tryz.prog 9 #[.int .u8 m] w fun e w' => e = .returned (.bool true) ∧ Below w.heap.size w w' := by
  have h := tries_run
  unfold goodM at h
  split at h
  · rename_i l hl
    have hb : Tryz.f9.body = some (Tryz.f9.body.getD .skip) := by kernel_rfl
    refine (callM_ok hm (callA_ok hN (X2_ok 0 w) (runA_ok hN hm (X2_ok 0 w) 2000)) Tryz.func9 hb (args := [anyI .u8]) (args' := [.int .u8 m]) (by rw [Tryz.ntmps9]; decide) (by rw [Tryz.ntmps9]; decide) hl h (VRs.cons (any_int _ _) VRs.nil) (rel0 w)).mono ?_
    rintro e w' ⟨v, v', ρ', rfl, g1, g2, g3⟩
    have hv : v = .bool true := by
      unfold isTrue at g1
      split at g1
      · rfl
      · cases g1
    subst hv
    exact ⟨by rw [g2.bool], g3⟩
  · cases h
end Go.Proofs.YtfhnljmoilifnaaGreatDoor.Jt
