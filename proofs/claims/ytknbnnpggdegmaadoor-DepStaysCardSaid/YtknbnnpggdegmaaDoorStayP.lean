/- The law DepStays: what does not wait stays so. -/
import Derived.Test.YtknbnnpggdegmaaDoorOrdP
namespace Go.Proofs.YtknbnnpggdegmaaDoor.At
open Go.RowKit Go.Proofs.YtknbnnpggdegmaaDoor.Lib Go.Proofs.YtknbnnpggdegmaaDoorW.PrintWords Go.Proofs.YtknbnnpggdegmaaDoorW.PrintLast Go.Proofs.YtknbnnpggdegmaaDoorW.PrintMore Go.Proofs.YtknbnnpggdegmaaDoor.PD Go.Proofs.YtknbnnpggdegmaaDoor.Mp
set_option linter.unusedVariables false
set_option linter.unusedSimpArgs false

/-- A job's state later. -/
def laterS (next : List Int) (i : Nat) (s : Int) : Int :=
  if endedL s = false ∧ s ≠ 7 ∧ i < next.length then (if 0 ≤ rd next i ∧ rd next i ≤ 7 ∧ (s ≠ 2 ∨ (2 ≤ rd next i ∧ rd next i ≠ 7)) then rd next i else s) else s
def laterL (next : List Int) : Nat → List S48 → List S48
  | _, [] => []
  | i, x :: l => ⟨x.f0, laterS next i x.f1⟩ :: laterL next (i + 1) l
theorem laterL_length (next : List Int) : ∀ (l : List S48) (i : Nat), (laterL next i l).length = l.length
  | [], i => rfl
  | x :: l, i => by simp [laterL, laterL_length next l (i + 1)]
theorem laterL_get (next : List Int) : ∀ (l : List S48) (i j : Nat) (h : j < l.length), (laterL next i l)[j]'(by rw [laterL_length]; exact h) = ⟨l[j].f0, laterS next (i + j) l[j].f1⟩
  | x :: l, i, 0, h => rfl
  | x :: l, i, j + 1, h => by
    simp only [laterL, List.getElem_cons_succ]
    rw [laterL_get next l (i + 1) j (by simpa using h), show i + 1 + j = i + (j + 1) by omega]
theorem laterL_rd (next : List Int) (l : List S48) (i : Nat) (h : i < l.length) : rd_T48 (laterL next 0 l) i = ⟨(rd_T48 l i).f0, laterS next i (rd_T48 l i).f1⟩ := by
  rw [rd48 _ i (by rw [laterL_length]; exact h), laterL_get next l 0 i h, rd48 l i h, Nat.zero_add]
theorem one_later (kd : Int) (next : List Int) (i : Nat) (s : Int) (h : oneL kd s ≠ 0) : oneL kd (laterS next i s) = oneL kd s := by
  unfold laterS
  split
  · rename_i hc
    obtain ⟨he, h7, _⟩ := hc
    split
    · rename_i ht
      generalize rd next i = t at ht ⊢
      obtain ⟨h0, h1, h2⟩ := ht
      have hk : ¬(kd < 1 ∨ 4 < kd) := fun hk => h (by unfold oneL; rw [if_pos hk])
      have h7b : (s == 7) = false := beq_false_of_ne h7
      have hh : holdsL kd s = true := by
        cases hb : holdsL kd s
        · exact absurd (by unfold oneL; rw [if_neg hk, hb, he, h7b]; rfl) h
        · rfl
      have hkd : kd = 1 ∧ s = 2 := by
        unfold endedL at he
        unfold holdsL at hh
        have hne : ¬(3 ≤ s ∧ s ≤ 6) := by
          intro hs
          simp [hs.1, hs.2] at he
        by_cases k1 : kd = 1
        · rw [if_pos k1] at hh
          refine ⟨k1, ?_⟩
          unfold endedL at hh
          rw [he, Bool.or_false] at hh
          exact beq_iff_eq.1 hh
        · rw [if_neg k1] at hh
          by_cases k2 : kd = 2
          · rw [if_pos k2] at hh
            have := beq_iff_eq.1 hh
            omega
          · rw [if_neg k2] at hh
            by_cases k3 : kd = 3
            · rw [if_pos k3] at hh
              simp at hh
              omega
            · rw [if_neg k3] at hh
              unfold endedL at hh
              rw [he] at hh
              cases hh
      obtain ⟨rfl, rfl⟩ := hkd
      have ht : 2 ≤ t ∧ t ≠ 7 := by
        rcases h2 with h2 | h2
        · exact absurd rfl h2
        · exact h2
      have : t = 2 ∨ t = 3 ∨ t = 4 ∨ t = 5 ∨ t = 6 := by omega
      rcases this with rfl | rfl | rfl | rfl | rfl <;> rfl
    · rfl
  · rfl
theorem look_later (kd : Int) (next : List Int) (n : Int) : ∀ (l : List S48) (i : Nat), oneL kd ((lookF l n).getD 7) ≠ 0 → oneL kd ((lookF (laterL next i l) n).getD 7) = oneL kd ((lookF l n).getD 7)
  | [], i, h => rfl
  | x :: l, i, h => by
    simp only [laterL, lookF] at h ⊢
    by_cases e : x.f0 = n
    · rw [if_pos e] at h
      rw [if_pos e, if_pos e]
      exact one_later kd next i x.f1 h
    · rw [if_neg e] at h
      rw [if_neg e, if_neg e]
      exact look_later kd next n l (i + 1) h
theorem atL_later (look look' : Int → Option Int) (kd : Int) (js : List Int) (hl : ∀ n, oneL kd ((look n).getD 7) ≠ 0 → oneL kd ((look' n).getD 7) = oneL kd ((look n).getD 7)) (h : atL look kd js 1 ≠ 0) : atL look' kd js 1 = atL look kd js 1 := by
  rw [atL_any] at h ⊢
  rw [atL_any]
  by_cases h2 : (js.any fun n => oneL kd ((look n).getD 7) == 2) = true
  · rw [if_pos h2, if_pos]
    obtain ⟨n, hn, hv⟩ := List.any_eq_true.1 h2
    have hv := beq_iff_eq.1 hv
    exact List.any_eq_true.2 ⟨n, hn, by rw [hl n (by rw [hv]; decide), hv]; rfl⟩
  · rw [if_neg h2] at h
    by_cases h0 : (js.any fun n => oneL kd ((look n).getD 7) == 0) = true
    · rw [if_pos h0] at h
      exact absurd rfl h
    · rw [if_neg h2, if_neg h0]
      have hall : ∀ n ∈ js, oneL kd ((look' n).getD 7) = oneL kd ((look n).getD 7) := fun n hn => hl n (fun hz => h0 (List.any_eq_true.2 ⟨n, hn, by rw [hz]; rfl⟩))
      rw [if_neg, if_neg]
      · intro hx
        obtain ⟨n, hn, hv⟩ := List.any_eq_true.1 hx
        rw [hall n hn] at hv
        exact h0 (List.any_eq_true.2 ⟨n, hn, hv⟩)
      · intro hx
        obtain ⟨n, hn, hv⟩ := List.any_eq_true.1 hx
        rw [hall n hn] at hv
        exact h2 (List.any_eq_true.2 ⟨n, hn, hv⟩)
theorem cnt_pos (look : Int → Option Int) (al : Bool) (q : Int) (l : List S52) : 0 < cnt look al q l ↔ ∃ x ∈ l, atS look al x = q := by
  unfold cnt
  rw [List.length_pos_iff_exists_mem]
  simp [List.mem_filter]
theorem cnt_all (look : Int → Option Int) (al : Bool) (q : Int) (l : List S52) : cnt look al q l = l.length ↔ ∀ x ∈ l, atS look al x = q := by
  unfold cnt
  rw [List.length_filter_eq_length_iff]
  simp
theorem ask_later (look look' : Int → Option Int) (any al : Bool) (l : List S52) (hl : ∀ x ∈ l, atS look al x ≠ 0 → atS look' al x = atS look al x) (h : askF look any l al ≠ 0) : askF look' any l al = askF look any l al := by
  have key : ∀ q1 q2 : Int, q1 ≠ 0 → q2 ≠ 0 → q1 ≠ q2 → (if 0 < cnt look al q1 l then q1 else if cnt look al q2 l = l.length then q2 else 0) ≠ 0 →
      (if 0 < cnt look' al q1 l then q1 else if cnt look' al q2 l = l.length then q2 else 0) = (if 0 < cnt look al q1 l then q1 else if cnt look al q2 l = l.length then q2 else 0) := by
    intro q1 q2 n1 n2 n12 h
    by_cases h1 : 0 < cnt look al q1 l
    · rw [if_pos h1, if_pos]
      obtain ⟨x, hx, hv⟩ := (cnt_pos look al q1 l).1 h1
      exact (cnt_pos look' al q1 l).2 ⟨x, hx, by rw [hl x hx (by rw [hv]; exact n1), hv]⟩
    · rw [if_neg h1] at h
      by_cases h2 : cnt look al q2 l = l.length
      · have ha := (cnt_all look al q2 l).1 h2
        have hb : ∀ x ∈ l, atS look' al x = q2 := fun x hx => by rw [hl x hx (by rw [ha x hx]; exact n2), ha x hx]
        rw [if_neg h1, if_pos h2, if_neg, if_pos ((cnt_all look' al q2 l).2 hb)]
        intro hp
        obtain ⟨x, hx, hv⟩ := (cnt_pos look' al q1 l).1 hp
        rw [hb x hx] at hv
        exact n12 hv.symm
      · rw [if_neg h2] at h
        exact absurd rfl h
  unfold askF at h ⊢
  cases any
  · simp only [Bool.false_eq_true, ↓reduceIte] at h ⊢
    exact key 2 1 (by decide) (by decide) (by decide) h
  · simp only [↓reduceIte] at h ⊢
    exact key 1 2 (by decide) (by decide) (by decide) h
theorem stays (l : List S46) (l1 : List S48) (next : List Int) (any : Bool) (h5 : ∀ x ∈ l, x.f0 ≠ 5) (h : askF (lookF l1) any (l.map cv) false ≠ 0) : askF (lookF (laterL next 0 l1)) any (l.map cv) false = askF (lookF l1) any (l.map cv) false := by
  refine ask_later _ _ any false _ (fun x hx hne => ?_) h
  obtain ⟨z, hz, rfl⟩ := List.mem_map.1 hx
  have e5 : ¬(cv z).f0 = 5 := h5 z hz
  unfold atS atF at hne ⊢
  rw [if_neg e5] at hne
  rw [if_neg e5, if_neg e5]
  exact atL_later _ _ _ _ (fun n hn => look_later _ next n l1 0 hn) hne
theorem laterS_wf (next : List Int) (i : Nat) (s : Int) (hs : (Lit.int .i64 s).wf = true) (hn : ∀ y ∈ next, (Lit.int .i64 y).wf = true) : (Lit.int .i64 (laterS next i s)).wf = true := by
  unfold laterS
  split
  · rename_i hc
    split
    · have : rd next i = next[i]'(hc.2.2) := by simp [rd, hc.2.2]
      rw [this]
      exact hn _ (List.getElem_mem _)
    · exact hs
  · exact hs
end Go.Proofs.YtknbnnpggdegmaaDoor.At
