/- What the document's answer to a dependency comes to. -/
import Derived.Test.YtknbnnpggdegmaaDoorStates
import Derived.Test.YtknbnnpggdegmaaDoorPDx7
import Derived.Test.YtknbnnpggdegmaaDoorTxt
namespace Go.Proofs.YtknbnnpggdegmaaDoor.At
open Go.RowKit Go.Proofs.YtknbnnpggdegmaaDoorW.PrintWords Go.Proofs.YtknbnnpggdegmaaDoorW.PrintLast Go.Proofs.YtknbnnpggdegmaaDoorW.PrintMore Go.Proofs.YtknbnnpggdegmaaDoor.PD Go.Proofs.YtknbnnpggdegmaaDoor.Mp
set_option linter.unusedVariables false
set_option linter.unusedSimpArgs false

theorem wrapN {p : Nat} (h : p + 1 ≤ 9223372036854775807) : wrap64 ((p : Int) + 1) = ((p + 1 : Nat) : Int) := by unfold wrap64; omega

theorem r_ended_f (s : Int) : marlinspikeref07_Ended.f s = some (endedL s) := by
  unfold marlinspikeref07_Ended.f endedL
  by_cases h : 3 ≤ s ∧ s ≤ 6
  · have : s = 3 ∨ s = 4 ∨ s = 5 ∨ s = 6 := by omega
    rcases this with rfl | rfl | rfl | rfl <;> rfl
  · rw [if_neg (by omega), if_neg (by omega), if_neg (by omega), if_neg (by omega)]
    simp
    omega
theorem r_one_j (k : Nat) (s : Int) (b : Bool) : marlinspikeref07_One.j0 (k + 1) s b = some (if b then 1 else if endedL s || s == 7 then 2 else 0) := by
  unfold marlinspikeref07_One.j0
  simp only [r_ended_f, Option.bind_some]
  cases b <;> cases h : endedL s <;> by_cases h7 : s = 7 <;> simp [h7]
theorem r_one_f (k : Nat) (kd s : Int) : marlinspikeref07_One.f (k + 1) kd s = some (oneL kd s) := by
  rw [← one_f k kd s]
  unfold marlinspikeref07_One.f dep_One.f
  simp only [one_j, r_one_j, ended_f, r_ended_f, Option.bind_some]

theorem r_one_f' (k : Nat) (h : 0 < k) (kd s : Int) : marlinspikeref07_One.f k kd s = some (oneL kd s) := by
  obtain ⟨q, rfl⟩ : ∃ q, k = q + 1 := ⟨k - 1, by omega⟩
  exact r_one_f q kd s

theorem r_state_l (l : List S48) (n : Int) (hl : l.length ≤ 9223372036854775807) : ∀ (m k i : Nat), i + m = l.length → m < k → marlinspikeref07_state.l0 k l n i = some ((lookF (l.drop i) n).getD 7) := by
  intro m
  induction m with
  | zero =>
    intro k i hi hk
    obtain ⟨k, rfl⟩ : ∃ q, k = q + 1 := ⟨k - 1, by omega⟩
    simp only [marlinspikeref07_state.l0]
    rw [if_neg (by omega), List.drop_eq_nil_of_le (by omega)]
    rfl
  | succ m ih =>
    intro k i hi hk
    obtain ⟨k, rfl⟩ : ∃ q, k = q + 1 := ⟨k - 1, by omega⟩
    simp only [marlinspikeref07_state.l0]
    rw [if_pos (by omega), if_pos (by omega), rd48 l i (by omega), List.drop_eq_getElem_cons (by omega)]
    simp only [lookF]
    by_cases h : l[i].f0 = n
    · rw [if_pos h, if_pos h]
      rfl
    · rw [if_neg h, if_neg h, wrapN (by omega), ih k (i + 1) (by omega) (by omega)]
theorem r_state_f (l : List S48) (n : Int) (hl : l.length ≤ 9223372036854775807) (k : Nat) (hk : l.length < k) : marlinspikeref07_state.f k l n = some ((lookF l n).getD 7) := r_state_l l n hl l.length k 0 (by omega) hk

theorem r_item_l (l : List S48) (kd : Int) (js : List Int) (hl : l.length ≤ 9223372036854775807) (hj : js.length ≤ 9223372036854775807) : ∀ (m k i : Nat) (o : Int), i + m = js.length → m + l.length + 1 < k →
    marlinspikeref07_item.l0 k l o i kd js = some (atL (lookF l) kd (js.drop i) o) := by
  intro m
  induction m with
  | zero =>
    intro k i o hi hk
    obtain ⟨k, rfl⟩ : ∃ q, k = q + 1 := ⟨k - 1, by omega⟩
    simp only [marlinspikeref07_item.l0]
    rw [if_neg (by omega), List.drop_eq_nil_of_le (by omega)]
    rfl
  | succ m ih =>
    intro k i o hi hk
    obtain ⟨k, rfl⟩ : ∃ q, k = q + 1 := ⟨k - 1, by omega⟩
    simp only [marlinspikeref07_item.l0]
    rw [if_pos (by omega), if_pos (by omega), r_state_f l _ hl k (by omega)]
    simp only [Option.bind_some]
    rw [r_one_f' k (by omega)]
    simp only [Option.bind_some]
    rw [rlist_int js i (by omega)]
    simp only [atL]
    by_cases h2 : oneL kd ((lookF l (rd js i)).getD 7) = 2
    · rw [if_pos h2, if_pos h2]
    · rw [if_neg h2, if_neg h2]
      by_cases h0 : oneL kd ((lookF l (rd js i)).getD 7) = 0
      · rw [if_pos h0, if_pos h0, wrapN (by omega), ih k (i + 1) 0 (by omega) (by omega)]
      · rw [if_neg h0, if_neg h0, wrapN (by omega), ih k (i + 1) o (by omega) (by omega)]
theorem r_item_f (l : List S48) (kd : Int) (js : List Int) (al : Bool) (hl : l.length ≤ 9223372036854775807) (hj : js.length ≤ 9223372036854775807) (k : Nat) (hk : js.length + l.length + 1 < k) :
    marlinspikeref07_item.f k kd js l al = some (atF (lookF l) kd js al) := by
  unfold marlinspikeref07_item.f atF
  by_cases h : kd = 5
  · rw [if_pos h, if_pos h]
    cases al <;> rfl
  · rw [if_neg h, if_neg h]
    exact r_item_l l kd js hl hj js.length k 0 1 (by omega) hk

def cv (x : S46) : S52 := ⟨x.f0, x.f1⟩
theorem rd46 (l : List S46) (i : Nat) (h : i < l.length) : rd_T46 l i = l[i] := by simp [rd_T46, h]
/-- How many jobs the items have. -/
def many (l : List S46) : Nat := (l.map fun x => x.f1.length).sum
theorem many_le {l : List S46} {x : S46} (h : x ∈ l) : x.f1.length ≤ many l := by
  unfold many
  induction l with
  | nil => cases h
  | cons y l ih =>
    simp only [List.map_cons, List.sum_cons]
    rcases List.mem_cons.1 h with rfl | h
    · omega
    · have := ih h; omega

theorem theirs_l (any : Bool) (l : List S46) (hl : l.length ≤ 4000000000) : ∀ (m k i : Nat), i + m = l.length → m < k →
    marlinspikelaw07_theirs.l0 k l (l.length : Int) i any ((l.take i).map cv) = some (any, l.map cv) := by
  intro m
  induction m with
  | zero =>
    intro k i hi hk
    obtain ⟨k, rfl⟩ : ∃ q, k = q + 1 := ⟨k - 1, by omega⟩
    simp only [marlinspikelaw07_theirs.l0]
    rw [if_neg (by omega), List.take_of_length_le (by omega)]
  | succ m ih =>
    intro k i hi hk
    obtain ⟨k, rfl⟩ : ∃ q, k = q + 1 := ⟨k - 1, by omega⟩
    simp only [marlinspikelaw07_theirs.l0]
    rw [if_pos (by omega), if_pos (by omega), if_pos (by omega), if_pos (by simp; omega), rd46 l i (by omega), wrapN (by omega)]
    have := ih k (i + 1) (by omega) (by omega)
    rw [List.take_succ_eq_append_getElem (by omega), List.map_append] at this
    exact this
theorem theirs_f (any : Bool) (l : List S46) (hl : l.length ≤ 4000000000) (k : Nat) (hk : l.length < k) : marlinspikelaw07_theirs.f k any l = some (any, l.map cv) := theirs_l any l hl l.length k 0 (by omega) hk

theorem much_l (any : Bool) (l ys : List S46) (hy : ys.length ≤ 100) : ∀ (m k i : Nat) (n : Int), i + m = ys.length → m < k → 0 ≤ n → n ≤ 1000 * i →
    ∃ b, marlinspikelaw07_much.l0 k n ys (ys.length : Int) i any l = some b ∧ (b = false → l.length ≤ 60) := by
  intro m
  induction m with
  | zero =>
    intro k i n hi hk h0 h1
    obtain ⟨k, rfl⟩ : ∃ q, k = q + 1 := ⟨k - 1, by omega⟩
    simp only [marlinspikelaw07_much.l0]
    rw [if_neg (by omega)]
    by_cases h : (l.length : Int) > 60
    · rw [if_pos h]
      exact ⟨true, rfl, fun h => by cases h⟩
    · rw [if_neg h]
      exact ⟨_, rfl, fun _ => by omega⟩
  | succ m ih =>
    intro k i n hi hk h0 h1
    obtain ⟨k, rfl⟩ : ∃ q, k = q + 1 := ⟨k - 1, by omega⟩
    simp only [marlinspikelaw07_much.l0]
    rw [if_pos (by omega), if_pos (by omega), if_pos (by omega), wrapN (by omega)]
    have hm : 0 ≤ mn ((rd_T46 ys i).f1.length : Int) 1000 ∧ mn ((rd_T46 ys i).f1.length : Int) 1000 ≤ 1000 := by unfold mn; split <;> omega
    have hw : wrap64 (n + mn ((rd_T46 ys i).f1.length : Int) 1000) = n + mn ((rd_T46 ys i).f1.length : Int) 1000 := by unfold wrap64; omega
    rw [hw]
    exact ih k (i + 1) _ (by omega) (by omega) (by omega) (by omega)
theorem much_f (any : Bool) (l : List S46) (k : Nat) (hk : 101 ≤ k) : ∃ b, marlinspikelaw07_much.f k any l = some b ∧ (b = false → l.length ≤ 60) := by
  unfold marlinspikelaw07_much.f
  have hm : 0 ≤ mn (l.length : Int) 100 ∧ mn (l.length : Int) 100 ≤ 100 ∧ mn (l.length : Int) 100 ≤ l.length := by unfold mn; split <;> omega
  rw [if_pos hm.1, if_pos hm.2.2]
  simp only [Option.bind_some]
  have hl : (l.take (mn (l.length : Int) 100).toNat).length ≤ 100 := by rw [List.length_take]; omega
  exact much_l any l _ hl (l.take (mn (l.length : Int) 100).toNat).length k 0 0 (by omega) (by omega) (by omega) (by omega)

theorem r_ask_j (k : Nat) (look : Int → Option Int) (any b : Bool) (l : List S46) (al : Bool) (c2 : Nat) :
    marlinspikeref07_Ask.j1 (k + 1) (c2 : Int) (l.length : Int) b any l = some (if b then 1 else if any then (if c2 = l.length then 2 else 0) else (if 0 < c2 then 2 else 0)) := by
  simp only [marlinspikeref07_Ask.j1]
  cases b
  · cases any
    · by_cases h : 0 < c2
      · simp [h]
      · simp [h]
    · by_cases h : c2 = l.length
      · simp [h]
      · have : ¬((c2 : Int) = (l.length : Int)) := by omega
        simp [h, this]
  · rfl
theorem r_ask_l (l1 : List S48) (any al : Bool) (l : List S46) (hl1 : l1.length ≤ 9223372036854775807) (hl : l.length ≤ 4000000000) (hj : ∀ x ∈ l, x.f1.length ≤ 9223372036854775807) : ∀ (m k i : Nat), i + m = l.length → m + many l + l1.length + 4 < k →
    marlinspikeref07_Ask.l0 k l1 al (cnt (lookF l1) al 1 ((l.map cv).take i) : Nat) (cnt (lookF l1) al 2 ((l.map cv).take i) : Nat) i any l = some (askF (lookF l1) any (l.map cv) al) := by
  intro m
  induction m with
  | zero =>
    intro k i hi hk
    obtain ⟨k, rfl⟩ : ∃ q, k = q + 1 + 1 := ⟨k - 2, by omega⟩
    simp only [marlinspikeref07_Ask.l0]
    rw [if_neg (by omega), List.take_of_length_le (by simp; omega)]
    have hc2 := cnt_le (lookF l1) al 2 (l.map cv)
    unfold askF
    rw [List.length_map]
    generalize cnt (lookF l1) al 1 (l.map cv) = c1
    generalize cnt (lookF l1) al 2 (l.map cv) = c2 at hc2 ⊢
    cases any
    · simp only [Bool.false_eq_true, ↓reduceIte]
      by_cases h : c2 = 0
      · subst h
        rw [if_pos (show ((0 : Nat) : Int) = 0 from rfl), r_ask_j k (lookF l1) false _ l al]
        simp only [Bool.false_eq_true, ↓reduceIte, Nat.lt_irrefl]
        by_cases h1 : c1 = l.length
        · subst h1
          simp
        · have : ¬((c1 : Int) = (l.length : Int)) := by omega
          simp [h1, this]
      · rw [if_neg (show ¬((c2 : Nat) : Int) = 0 by omega), r_ask_j k (lookF l1) false _ l al, if_pos (show 0 < c2 by omega)]
        simp only [Bool.false_eq_true, ↓reduceIte]
        rw [if_pos (show 0 < c2 by omega)]
    · simp only [↓reduceIte]
      by_cases h : 0 < c1
      · rw [if_pos (show (c1 : Int) > 0 by omega), r_ask_j k (lookF l1) true _ l al, if_pos rfl, if_pos h]
      · rw [if_neg (show ¬(c1 : Int) > 0 by omega), r_ask_j k (lookF l1) true _ l al, if_neg (by decide), if_pos rfl, if_neg h]
  | succ m ih =>
    intro k i hi hk
    obtain ⟨k, rfl⟩ : ∃ q, k = q + 1 := ⟨k - 1, by omega⟩
    simp only [marlinspikeref07_Ask.l0]
    have hlt : i < l.length := by omega
    have hmem : l[i] ∈ l := List.getElem_mem _
    rw [if_pos (by omega), if_pos (by omega), rd46 l i hlt, r_item_f l1 _ _ al hl1 (hj _ hmem) k (by have := many_le hmem; omega)]
    simp only [Option.bind_some]
    have s1 := cnt_snoc (lookF l1) al 1 (l.map cv) i (by simpa using hlt)
    have s2 := cnt_snoc (lookF l1) al 2 (l.map cv) i (by simpa using hlt)
    have b1 := cnt_take_le (lookF l1) al 1 (l.map cv) i
    have b2 := cnt_take_le (lookF l1) al 2 (l.map cv) i
    have hr : atS (lookF l1) al (rd_T52 (l.map cv) i) = atF (lookF l1) l[i].f0 l[i].f1 al := by rw [rd_getElem _ i (by simpa using hlt), List.getElem_map]; rfl
    rw [hr] at s1 s2
    have hI := ih k (i + 1) (by omega) (by omega)
    rw [s1, s2] at hI
    by_cases h1 : atF (lookF l1) l[i].f0 l[i].f1 al = 1
    · rw [if_pos h1, wrapN (by omega), wrapN (by omega)]
      rw [if_pos h1, if_neg (by omega)] at hI
      exact hI
    · rw [if_neg h1]
      by_cases h2 : atF (lookF l1) l[i].f0 l[i].f1 al = 2
      · rw [if_pos h2, wrapN (by omega), wrapN (by omega)]
        rw [if_neg h1, if_pos h2] at hI
        exact hI
      · rw [if_neg h2, wrapN (by omega)]
        rw [if_neg h1, if_neg h2] at hI
        exact hI
theorem r_ask_f (l1 : List S48) (any al : Bool) (l : List S46) (hl1 : l1.length ≤ 9223372036854775807) (hl : l.length ≤ 4000000000) (hj : ∀ x ∈ l, x.f1.length ≤ 9223372036854775807) (k : Nat) (hk : l.length + many l + l1.length + 4 < k) :
    marlinspikeref07_Ask.f k any l l1 al = some (askF (lookF l1) any (l.map cv) al) := r_ask_l l1 any al l hl1 hl hj l.length k 0 (by omega) (by omega)
end Go.Proofs.YtknbnnpggdegmaaDoor.At
