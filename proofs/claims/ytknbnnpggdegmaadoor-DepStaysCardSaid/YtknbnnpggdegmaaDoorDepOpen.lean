/- The laws' arguments of dep, opened. -/
import Derived.Test.YtknbnnpggdegmaaDoorOpen
import Derived.Test.YtknbnnpggdegmaaDoorPDx0
namespace Go.Proofs.YtknbnnpggdegmaaDoor.At
open Go.RowKit Go.Proofs.YtknbnnpggdegmaaDoorW.PrintWords Go.Proofs.YtknbnnpggdegmaaDoor.PD Go.Proofs.YtknbnnpggdegmaaDoor.Op
abbrev wfI (y : Int) : Prop := (Lit.int .i64 y).wf = true
theorem ints_opens : Opens Tryd.prog 44 (Kd.slice 3 (Kd.int .i64)).K (fun l => l.length ≤ maxLen ∧ ∀ y ∈ l, wfI y) := opens_slice 3 Tryd.underlying44 (by kernel_rfl) (opens_int Tryd.underlying3)
theorem item_opens : Opens Tryd.prog 46 k46.K (fun x => wfI x.f0 ∧ x.f1.length ≤ maxLen ∧ ∀ y ∈ x.f1, wfI y) :=
  opens_iso (fun x : S46 => (x.f0, x.f1)) (fun p => ⟨p.1, p.2⟩) (fun _ => rfl) (opens_struct Tryd.underlying46 (by kernel_rfl) (opensF_cons 3 rfl rfl (by kernel_rfl) (opens_int Tryd.underlying3) (opensF_one 44 rfl rfl (by kernel_rfl) ints_opens)))
theorem items_opens : Opens Tryd.prog 22 (Kd.slice 46 k46).K (fun l => l.length ≤ maxLen ∧ ∀ x ∈ l, wfI x.f0 ∧ x.f1.length ≤ maxLen ∧ ∀ y ∈ x.f1, wfI y) := opens_slice 46 Tryd.underlying22 (by kernel_rfl) item_opens
theorem dep_opens : Opens Tryd.prog 24 (Kd.pair Kd.bool (Kd.slice 46 k46)).K (fun p => True ∧ p.2.length ≤ maxLen ∧ ∀ x ∈ p.2, wfI x.f0 ∧ x.f1.length ≤ maxLen ∧ ∀ y ∈ x.f1, wfI y) :=
  opens_struct (sz := 2) Tryd.underlying24 (by kernel_rfl) (opensF_cons (off := 0) (a := Kd.bool) (b := Kd.slice 46 k46) (Ga := fun _ => True) 4 rfl rfl (by kernel_rfl) (opens_bool Tryd.underlying4) (opensF_one 22 rfl rfl (by kernel_rfl) items_opens))
theorem job_opens : Opens Tryd.prog 48 k48.K (fun x => wfI x.f0 ∧ wfI x.f1) :=
  opens_iso (fun x : S48 => (x.f0, x.f1)) (fun p => ⟨p.1, p.2⟩) (fun _ => rfl) (opens_struct Tryd.underlying48 (by kernel_rfl) (opensF_cons 3 rfl rfl (by kernel_rfl) (opens_int Tryd.underlying3) (opensF_one 3 rfl rfl (by kernel_rfl) (opens_int Tryd.underlying3))))
theorem jobs_opens : Opens Tryd.prog 25 (Kd.slice 48 k48).K (fun l => l.length ≤ maxLen ∧ ∀ x ∈ l, wfI x.f0 ∧ wfI x.f1) := opens_slice 48 Tryd.underlying25 (by kernel_rfl) job_opens
end Go.Proofs.YtknbnnpggdegmaaDoor.At
