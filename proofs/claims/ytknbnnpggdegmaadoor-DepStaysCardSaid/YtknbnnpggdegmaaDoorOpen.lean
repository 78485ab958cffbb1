/- A law's arguments, opened: what the row tells of a value ('DataW.trod') as what the walks read ('Kd'). -/
import Derived.Test.YtknbnnpggdegmaaDoorLib
import Derived.Test.YtknbnnpggdegmaaDoorWFoot
import Derived.Test.YtknbnnpggdegmaaDoorWShare
import Derived.Test.YtknbnnpggdegmaaDoorWMore
import Derived.DataReads
import Derived.DataElems
import Derived.ChangeOld
namespace Go.Proofs.YtknbnnpggdegmaaDoor.Op
open Go.RowKit Go.Proofs.YtknbnnpggdegmaaDoorW.PrintWords Go.Proofs.YtknbnnpggdegmaaDoorW.PrintLast Go.Proofs.YtknbnnpggdegmaaDoorW.PrintMore
set_option linter.unusedVariables false
set_option linter.unusedSimpArgs false

/-- Whatever the row tells reads as something of this kind, of which G stands. -/
def Opens {α : Type} (P : Program) (t : TypeId) (K : World → α → List Value → Prop) (G : α → Prop) : Prop :=
  ∀ (H : Type) (enc : TypeId × Value → H) (w : World) (fuel : Nat) (cs : List Value) (d : DataW H) (ps : List MemPlace), DataW.trod enc P w 0 (fun _ => true) true fuel t cs = some (d, ps) → ∃ x, K w x cs ∧ G x

theorem opens_int {P : Program} {t : TypeId} {k : IntKind} (hu : P.underlying t = some (.int k)) : Opens P t (Kd.int k).K (fun n => (Lit.int k n).wf = true) := by
  intro H enc w fuel cs d ps h
  cases fuel with
  | zero => simp [DataW.trod] at h
  | succ m =>
    unfold DataW.trod at h
    simp only [hu] at h
    split at h <;> first | cases h; done | skip
    all_goals first
      | (rename_i k' n h1; injection h1 with h1; injection h1 with h1; subst h1; by_cases hc : k' = k ∧ (Lit.int k n).wf = true
         · obtain ⟨rfl, hw⟩ := hc
           exact ⟨_, rfl, hw⟩
         · rw [if_neg hc] at h
           cases h)
      | (rename_i k' n; by_cases hc : k' = k ∧ (Lit.int k n).wf = true
         · obtain ⟨rfl, hw⟩ := hc
           exact ⟨_, rfl, hw⟩
         · rw [if_neg hc] at h
           cases h)
      | (rename_i h1; cases h1)
      | (rename_i h1 h2; cases h1)
      | cases h
theorem opens_bool {P : Program} {t : TypeId} (hu : P.underlying t = some .bool) : Opens P t Kd.bool.K (fun _ => True) := by
  intro H enc w fuel cs d ps h
  cases fuel with
  | zero => simp [DataW.trod] at h
  | succ m =>
    unfold DataW.trod at h
    simp only [hu] at h
    split at h <;> first | cases h; done | skip
    all_goals first
      | exact ⟨_, rfl, trivial⟩
      | (rename_i h1; cases h1)
      | (rename_i h1 h2; cases h1)
      | cases h
theorem opens_string {P : Program} {t : TypeId} (hu : P.underlying t = some .string) : Opens P t Kd.string.K (fun s => s.size ≤ maxLen) := by
  intro H enc w fuel cs d ps h
  cases fuel with
  | zero => simp [DataW.trod] at h
  | succ m =>
    unfold DataW.trod at h
    simp only [hu] at h
    split at h <;> first | cases h; done | skip
    all_goals first
      | (split at h; · rename_i hc; exact ⟨_, rfl, hc⟩
         · cases h)
      | (rename_i h1; cases h1)
      | (rename_i h1 h2; cases h1)
      | cases h

theorem choose_list {α : Type} (Pr : Nat → α → Prop) : ∀ (n : Nat), (∀ i, i < n → ∃ x, Pr i x) → ∃ xs : List α, xs.length = n ∧ ∀ j x, xs[j]? = some x → Pr j x
  | 0, _ => ⟨[], rfl, fun j x h => by simp at h⟩
  | n + 1, h => by
    obtain ⟨xs, hl, hx⟩ := choose_list Pr n (fun i hi => h i (by omega))
    obtain ⟨y, hy⟩ := h n (by omega)
    refine ⟨xs ++ [y], by simp [hl], fun j x hj => ?_⟩
    rcases Nat.lt_or_ge j n with hlt | hge
    · rw [List.getElem?_append_left (by omega)] at hj
      exact hx j x hj
    · rw [List.getElem?_append_right (by omega)] at hj
      obtain rfl : j = n := by
        have : j - xs.length < 1 := by
          have := (List.getElem?_eq_some_iff.1 hj).1
          simpa using this
        omega
      rw [hl, Nat.sub_self] at hj
      simp only [List.getElem?_cons_zero, Option.some.injEq] at hj
      subst hj
      exact hy

theorem opens_slice {α : Type} {P : Program} {t e : TypeId} {d : Kd α} {G : α → Prop} (q : Nat) (hu : P.underlying t = some (.slice e)) (hz : P.cellsOf e = d.sz) (hd : Opens P e d.K G) :
    Opens P t (Kd.slice q d).K (fun l => l.length ≤ maxLen ∧ ∀ x ∈ l, G x) := by
  intro H enc w fuel cs dd ps h
  cases fuel with
  | zero => simp [DataW.trod] at h
  | succ m =>
    unfold DataW.trod at h
    simp only [hu] at h
    split at h
    case h_7 => exact ⟨[], ⟨none, 0, rfl, Nat.le_refl _, ⟨rfl, Nat.zero_le _, fun h => absurd h (Nat.lt_irrefl _)⟩⟩, Nat.zero_le _, fun x hx => absurd hx List.not_mem_nil⟩
    case h_8 _ e' a len cap h1 =>
      injection h1 with h1
      injection h1 with h1
      subst h1
      split at h
      case isFalse => cases h
      case isTrue hc =>
        obtain ⟨hb, hlc, hcm⟩ := hc
        obtain ⟨elems, hm, h⟩ := Option.bind_eq_some_iff.1 h
        have hel : ∀ i, i < len → ∃ x, (G x ∧ ∃ c, c.length = d.sz ∧ d.K w x c ∧ ∀ i' u, c[i']? = some u → w.cell? (a.add (i * d.sz + i')) = some u) := by
          intro i hi
          have hg := mapM_some_get hm i i (by simp [hi])
          have hln : elems.length = (List.range len).length := mapM_some_length hm
          simp only [List.length_range] at hln
          rw [List.getElem?_eq_getElem (by omega)] at hg
          obtain ⟨c, hc1, hc2⟩ := Option.bind_eq_some_iff.1 hg
          obtain ⟨x, hx, hGx⟩ := hd H enc w m c _ _ hc2
          rw [hz] at hc1
          unfold World.cells? at hc1
          split at hc1
          case isFalse => cases hc1
          case isTrue =>
            have hcl : c.length = (List.range d.sz).length := mapM_some_length hc1
            simp only [List.length_range] at hcl
            refine ⟨x, hGx, c, hcl, hx, fun i' u hu' => ?_⟩
            have hlt := (List.getElem?_eq_some_iff.1 hu').1
            have hg' := mapM_some_get hc1 i' i' (show (List.range d.sz)[i']? = some i' from List.getElem?_range (by omega))
            rw [hu'] at hg'
            rw [← hg', show (a.add (i * d.sz)).add i' = a.add (i * d.sz + i') from Addr.add_add _ _ _]
        obtain ⟨xs, hxl, hxs⟩ := choose_list _ len hel
        subst hxl
        refine ⟨xs, ⟨some a, cap, rfl, hlc, ⟨rfl, Nat.le_trans hlc (Nat.le_trans hcm (by decide)), fun _ => ⟨a, rfl, fun j p hj => ?_⟩⟩⟩, Nat.le_trans hlc hcm, fun x hx => ?_⟩
        · obtain ⟨_, c, h1, h2, h3⟩ := hxs j p hj
          exact ⟨c, h1, h2, h3⟩
        · obtain ⟨j, hj⟩ := List.getElem?_of_mem hx
          exact (hxs j x hj).1
    all_goals first | cases h; done | (rename_i h1 h2; cases h1; done) | (rename_i h1; cases h1; done) | skip

/-- The fields from a place on. -/
def OpensF {α : Type} (P : Program) (off sz : Nat) (fs : List Field) (K : World → α → List Value → Prop) (G : α → Prop) : Prop :=
  ∀ (H : Type) (enc : TypeId × Value → H) (w : World) (fuel : Nat) (cs : List Value) (xs : List (DataW H × List MemPlace)), cs.length = off + sz →
    fs.mapM (fun f => DataW.trod enc P w 0 (fun _ => true) true fuel f.type ((cs.drop f.offset).take (P.cellsOf f.type))) = some xs → ∃ x, K w x (cs.drop off) ∧ G x
theorem opensF_one {α : Type} {P : Program} {off sz : Nat} {f : Field} {K : World → α → List Value → Prop} {G : α → Prop} (t : TypeId) (ht : f.type = t) (ho : f.offset = off) (hz : P.cellsOf t = sz) (hd : Opens P t K G) : OpensF P off sz [f] K G := by
  intro H enc w fuel cs xs hl h
  subst ht
  rw [List.mapM_cons] at h
  obtain ⟨x, hx, h⟩ := Option.bind_eq_some_iff.1 h
  rw [ho, hz, List.take_of_length_le (by simp; omega)] at hx
  exact hd H enc w fuel _ x.1 x.2 hx
theorem opensF_cons {α β : Type} {P : Program} {off : Nat} {f : Field} {fs : List Field} {a : Kd α} {b : Kd β} {Ga : α → Prop} {Gb : β → Prop} (t : TypeId) (ht : f.type = t) (ho : f.offset = off) (hz : P.cellsOf t = a.sz) (hd : Opens P t a.K Ga)
    (hr : OpensF P (off + a.sz) b.sz fs b.K Gb) : OpensF P off (a.sz + b.sz) (f :: fs) (Kd.pair a b).K (fun x => Ga x.1 ∧ Gb x.2) := by
  intro H enc w fuel cs xs hl h
  subst ht
  rw [List.mapM_cons] at h
  obtain ⟨x, hx, h⟩ := Option.bind_eq_some_iff.1 h
  obtain ⟨ys, hy, _⟩ := Option.bind_eq_some_iff.1 h
  rw [ho, hz] at hx
  obtain ⟨u, hu, gu⟩ := hd H enc w fuel _ x.1 x.2 hx
  obtain ⟨v, hv, gv⟩ := hr H enc w fuel cs ys (by omega) hy
  refine ⟨(u, v), ⟨_, _, ?_, hu, hv⟩, gu, gv⟩
  rw [← List.drop_drop, List.take_append_drop]
theorem opens_struct {α : Type} {P : Program} {t : TypeId} {fs : Array Field} {sz : Nat} {K : World → α → List Value → Prop} {G : α → Prop} (hu : P.underlying t = some (.struct fs)) (hz : P.cellsOf t = sz) (hf : OpensF P 0 sz fs.toList K G) : Opens P t K G := by
  intro H enc w fuel cs d ps h
  cases fuel with
  | zero => simp [DataW.trod] at h
  | succ m =>
    unfold DataW.trod at h
    simp only [hu] at h
    split at h
    case isFalse => cases h
    case isTrue hl =>
      obtain ⟨xs, hx, _⟩ := Option.map_eq_some_iff.1 h
      obtain ⟨x, hk, hg⟩ := hf H enc w m cs xs (by omega) hx
      exact ⟨x, by simpa using hk, hg⟩
theorem opens_iso {α β : Type} {P : Program} {t : TypeId} {d : Kd α} {G : α → Prop} (f : β → α) (g : α → β) (hfg : ∀ x, f (g x) = x) (h : Opens P t d.K G) : Opens P t (Kd.iso d f).K (fun y => G (f y)) := by
  intro H enc w fuel cs dd ps hh
  obtain ⟨x, hx, gx⟩ := h H enc w fuel cs dd ps hh
  exact ⟨g x, by show d.K w (f (g x)) cs; rw [hfg]; exact hx, by show G (f (g x)); rw [hfg]; exact gx⟩
theorem opens_imp {α : Type} {P : Program} {t : TypeId} {K : World → α → List Value → Prop} {G G' : α → Prop} (h : Opens P t K G) (hg : ∀ x, G x → G' x) : Opens P t K G' := by
  intro H enc w fuel cs dd ps hh
  obtain ⟨x, hx, gx⟩ := h H enc w fuel cs dd ps hh
  exact ⟨x, hx, hg x gx⟩
theorem opens_arg {α : Type} {P : Program} {t : TypeId} {K : World → α → List Value → Prop} {G : α → Prop} (h : Opens P t K G) {H : Type} {enc : TypeId × Value → H} {w : World} {v : Value} {d : DataW H} {ps : List MemPlace} (ht : DataW.Trod enc P w 0 (fun _ => true) true t v d ps) :
    ∃ x, K w x v.cells.toList ∧ G x := by
  obtain ⟨fuel, hf⟩ := ht
  exact h H enc w fuel _ d ps hf
theorem agg_of {v : Value} {a b : Value} {l : List Value} (h : v.cells.toList = a :: b :: l) : v = .agg (a :: b :: l).toArray := by
  cases v <;> simp [Value.cells] at h
  rw [← h]
theorem trod_lt {H : Type} {enc : TypeId × Value → H} {P : Program} {w : World} {t : TypeId} {v : Value} {d : DataW H} {ps : List MemPlace} (ht : DataW.Trod enc P w 0 (fun _ => true) true t v d ps) : ∀ x ∈ ps, x.block < w.heap.size := by
  obtain ⟨m, hm⟩ := ht
  exact DataW.trod_lt m _ _ _ hm
end Go.Proofs.YtknbnnpggdegmaaDoor.Op
