/- The law DepOrder: what is asked of items turned round is the same. -/
import Derived.Test.YtknbnnpggdegmaaDoorOrdW
namespace Go.Proofs.YtknbnnpggdegmaaDoor.At
open Go.RowKit Go.Proofs.YtknbnnpggdegmaaDoor.Lib Go.Proofs.YtknbnnpggdegmaaDoorW.PrintWords Go.Proofs.YtknbnnpggdegmaaDoorW.PrintLast Go.Proofs.YtknbnnpggdegmaaDoorW.PrintMore Go.Proofs.YtknbnnpggdegmaaDoor.PD Go.Proofs.YtknbnnpggdegmaaDoor.Mp
set_option linter.unusedVariables false
set_option linter.unusedSimpArgs false

def revI (x : S46) : S46 := ⟨x.f0, x.f1.reverse⟩
def revL (l : List S46) : List S46 := l.reverse.map revI

theorem atL_any (look : Int → Option Int) (kd : Int) : ∀ (l : List Int) (o : Int), atL look kd l o = if l.any (fun n => oneL kd ((look n).getD 7) == 2) then 2 else if l.any (fun n => oneL kd ((look n).getD 7) == 0) then 0 else o
  | [], o => rfl
  | n :: ns, o => by
    unfold atL
    by_cases h2 : oneL kd ((look n).getD 7) = 2
    · rw [if_pos h2]; simp [h2]
    · rw [if_neg h2]
      by_cases h0 : oneL kd ((look n).getD 7) = 0
      · rw [if_pos h0, atL_any look kd ns 0]; simp [h0]
      · rw [if_neg h0, atL_any look kd ns o]; simp [h2, h0]
theorem atF_rev (look : Int → Option Int) (kd : Int) (l : List Int) (al : Bool) : atF look kd l.reverse al = atF look kd l al := by
  unfold atF
  split
  · rfl
  · rw [atL_any, atL_any, List.any_reverse, List.any_reverse]
theorem cnt_map (look : Int → Option Int) (al : Bool) (q : Int) (l : List S52) : cnt look al q l = ((l.map (atS look al)).filter (fun v => v == q)).length := by
  unfold cnt
  rw [List.filter_map, List.length_map]
  rfl
theorem rev_map (look : Int → Option Int) (al : Bool) (l : List S46) : ((revL l).map cv).map (atS look al) = ((l.map cv).map (atS look al)).reverse := by
  unfold revL
  rw [List.map_map, List.map_map, List.map_map, ← List.map_reverse]
  congr 1
  funext x
  exact atF_rev look x.f0 x.f1 al
theorem cnt_rev (look : Int → Option Int) (al : Bool) (q : Int) (l : List S46) : cnt look al q ((revL l).map cv) = cnt look al q (l.map cv) := by
  rw [cnt_map, cnt_map, rev_map, List.filter_reverse, List.length_reverse]
theorem revL_length (l : List S46) : (revL l).length = l.length := by simp [revL]
theorem ask_rev (look : Int → Option Int) (any al : Bool) (l : List S46) : askF look any ((revL l).map cv) al = askF look any (l.map cv) al := by
  unfold askF
  simp only [cnt_rev, List.length_map, revL_length]

/-- How many jobs 'much' counts. -/
def msum (l : List S46) : Nat := (l.map fun x => min x.f1.length 1000).sum
theorem mn_nat (a : Nat) (b : Nat) : mn (a : Int) (b : Int) = ((min a b : Nat) : Int) := by unfold mn; split <;> omega
theorem mn1000 (a : Nat) : mn (a : Int) 1000 = ((min a 1000 : Nat) : Int) := mn_nat a 1000
theorem msum_mem {l : List S46} {x : S46} (h : x ∈ l) : min x.f1.length 1000 ≤ msum l := by
  unfold msum
  induction l with
  | nil => cases h
  | cons y l ih =>
    simp only [List.map_cons, List.sum_cons]
    rcases List.mem_cons.1 h with rfl | h
    · omega
    · have := ih h; omega
theorem much_l' (any : Bool) (l ys : List S46) (hy : ys.length ≤ 100) : ∀ (m k i n : Nat), i + m = ys.length → m < k → n ≤ 1000 * i →
    marlinspikelaw07_much.l0 k (n : Int) ys (ys.length : Int) i any l = some (if l.length > 60 then true else decide (n + msum (ys.drop i) > 300)) := by
  intro m
  induction m with
  | zero =>
    intro k i n hi hk h1
    obtain ⟨k, rfl⟩ : ∃ q, k = q + 1 := ⟨k - 1, by omega⟩
    simp only [marlinspikelaw07_much.l0]
    rw [if_neg (by omega), List.drop_eq_nil_of_le (by omega)]
    by_cases h : l.length > 60
    · rw [if_pos (by omega), if_pos h]
    · rw [if_neg (by omega), if_neg h]
      congr 1
      simp [msum]
      omega
  | succ m ih =>
    intro k i n hi hk h1
    obtain ⟨k, rfl⟩ : ∃ q, k = q + 1 := ⟨k - 1, by omega⟩
    simp only [marlinspikelaw07_much.l0]
    rw [if_pos (by omega), if_pos (by omega), if_pos (by omega), wrapN (by omega), rd46 ys i (by omega), mn1000]
    have hw : wrap64 ((n : Int) + ((min ys[i].f1.length 1000 : Nat) : Int)) = ((n + min ys[i].f1.length 1000 : Nat) : Int) := by unfold wrap64; omega
    rw [hw, ih k (i + 1) _ (by omega) (by omega) (by omega), List.drop_eq_getElem_cons (show i < ys.length by omega)]
    unfold msum
    simp only [List.map_cons, List.sum_cons, Nat.add_assoc]
theorem much_f' (any : Bool) (l : List S46) (k : Nat) (hk : 101 ≤ k) : marlinspikelaw07_much.f k any l = some (if l.length > 60 then true else decide (msum (l.take 100) > 300)) := by
  unfold marlinspikelaw07_much.f
  have hm : mn (l.length : Int) 100 = ((min l.length 100 : Nat) : Int) := mn_nat _ 100
  rw [hm, if_pos (by omega), if_pos (by omega)]
  simp only [Option.bind_some]
  have hl : (l.take (((min l.length 100 : Nat) : Int)).toNat).length ≤ 100 := by rw [List.length_take]; omega
  have := much_l' any l _ hl (l.take (((min l.length 100 : Nat) : Int)).toNat).length k 0 0 (by omega) (by omega) (by omega)
  rw [show ((0 : Nat) : Int) = 0 from rfl] at this
  rw [this, List.drop_zero, Nat.zero_add]
  congr 3
  rw [show (((min l.length 100 : Nat) : Int)).toNat = min l.length 100 by omega]
  by_cases h : l.length ≤ 100
  · rw [List.take_of_length_le (by omega), List.take_of_length_le (by omega)]
  · rw [show min l.length 100 = 100 by omega]
theorem much_false {l : List S46} (h : (if l.length > 60 then true else decide (msum (l.take 100) > 300)) = false) : l.length ≤ 60 ∧ ∀ x ∈ l, x.f1.length ≤ 300 := by
  by_cases h6 : l.length > 60
  · rw [if_pos h6] at h; cases h
  · rw [if_neg h6] at h
    refine ⟨by omega, fun x hx => ?_⟩
    rw [List.take_of_length_le (by omega)] at h
    have := msum_mem hx
    have := of_decide_eq_false h
    omega

theorem wrapM (m : Nat) (h : m ≤ 9223372036854775807) : wrap64 ((m : Int) - 1) = (m : Int) - 1 := by unfold wrap64; omega
theorem ord_l1 (any : Bool) (l : List S46) (hl : l.length ≤ 60) (i : Nat) (hi : i < l.length) (hj : l[i].f1.length ≤ 300) (acc : List S46) (hacc : acc.length ≤ 60) (kd : Int) : ∀ (j k : Nat) (js : List Int), j ≤ l[i].f1.length → js.length + j ≤ 300 → 
    order.l1 (k + j + 1) (i : Int) ((j : Int) - 1) any l any acc kd js = order.l0 k ((i : Int) - 1) any l any (acc ++ [⟨kd, js ++ (l[i].f1.take j).reverse⟩])
  | 0, k, js, h1, h2 => by
    simp only [order.l1, Nat.add_zero]
    rw [if_neg (by omega), if_pos (by omega), wrapM i (by omega)]
    simp
  | j + 1, k, js, h1, h2 => by
    obtain ⟨K, hK⟩ : ∃ K, k + j + 1 = K := ⟨_, rfl⟩
    rw [show k + (j + 1) + 1 = K + 1 by omega]
    simp only [order.l1]
    subst hK
    rw [rd46 l i hi, if_pos (by omega), if_pos (by omega), if_pos (by omega), if_pos (by omega), if_pos (by omega), if_pos (by omega)]
    have e : (((j + 1 : Nat) : Int) - 1) = (j : Int) := by omega
    rw [e, wrapM j (by omega), ord_l1 any l hl i hi hj acc hacc kd j k _ (by omega) (by simp; omega)]
    congr 2
    have hr : rd l[i].f1 (j : Int) = l[i].f1[j] := by simp [rd, show j < l[i].f1.length by omega]
    rw [hr, List.take_succ_eq_append_getElem (by omega), List.reverse_append]
    simp
theorem ord_l0 (any : Bool) (l : List S46) (hl : l.length ≤ 60) (hj : ∀ x ∈ l, x.f1.length ≤ 300) : ∀ (m k : Nat) (acc : List S46), m ≤ l.length → acc.length + m ≤ 60 → 
    ∃ n, order.l0 (k + n) ((m : Int) - 1) any l any acc = some (acc ++ revL (l.take m))
  | 0, k, acc, h1, h2 => ⟨1, by simp only [order.l0]; rw [if_neg (by omega)]; simp [revL]⟩
  | m + 1, k, acc, h1, h2 => by
    have hlt : m < l.length := by omega
    obtain ⟨n, hn⟩ := ord_l0 any l hl hj m k (acc ++ [revI l[m]]) (by omega) (by simp; omega)
    refine ⟨n + l[m].f1.length + 1 + 1, ?_⟩
    rw [show k + (n + l[m].f1.length + 1 + 1) = (k + n + l[m].f1.length + 1) + 1 by omega]
    simp only [order.l0]
    have e : (((m + 1 : Nat) : Int) - 1) = (m : Int) := by omega
    have hjm := hj l[m] (List.getElem_mem _)
    rw [e, if_pos (by omega), if_pos (by omega), if_pos (by omega), rd46 l m hlt, wrapM _ (by omega), ord_l1 any l hl m hlt hjm acc (by omega) _ l[m].f1.length (k + n) [] (by omega) (by simpa using hjm)]
    rw [List.take_length, List.nil_append]
    rw [show (⟨l[m].f0, l[m].f1.reverse⟩ : S46) = revI l[m] from rfl, hn, List.take_succ_eq_append_getElem hlt]
    unfold revL
    rw [List.reverse_append, List.map_append, List.append_assoc]
    rfl
theorem ord_f (any : Bool) (l : List S46) (l1 : List S48) (al : Bool) (hm : (if l.length > 60 then true else decide (msum (l.take 100) > 300)) = false) (h1 : l1.length ≤ 200) : ∃ k, order.f k any l l1 al = some (revL l) := by
  obtain ⟨hl, hj⟩ := much_false hm
  obtain ⟨n, hn⟩ := ord_l0 any l hl hj l.length 101 [] (Nat.le_refl _) (by simpa using hl)
  refine ⟨101 + n + 1, ?_⟩
  unfold order.f
  rw [much_f' any l _ (by omega), hm]
  simp only [Option.bind_some, Bool.false_eq_true, ↓reduceIte]
  simp only [order.j0]
  rw [if_neg (by simp; omega), wrapM _ (by omega), hn, List.take_length, List.nil_append]
theorem revL_wf {l : List S46} {l1 : List S48} (h : Fit l l1) : ∀ x ∈ (revL l).map cv, ∀ y ∈ x.f1, (Lit.int .i64 y).wf = true := by
  intro x hx y hy
  obtain ⟨z, hz, rfl⟩ := List.mem_map.1 hx
  obtain ⟨u, hu, rfl⟩ := List.mem_map.1 hz
  exact h.wf u (List.mem_reverse.1 hu) y (by simpa [cv, revI] using hy)

set_option maxHeartbeats 4000000 in
set_option maxRecDepth 100000 in
theorem order_calls (any : Bool) (A : Option Addr) (c : Nat) (l : List S46) (A1 : Option Addr) (c1 : Nat) (l1 : List S48) (al : Bool) (w : World) (hr : Kd.C k46 w A l.length l) (hc : l.length ≤ c) (hr1 : Kd.C k48 w A1 l1.length l1) (hc1 : l1.length ≤ c1) (hfit : Fit l l1) (hG : Glob w) :
    Calls Tryd.prog 6 #[.agg #[.bool any, .slice A l.length c], .slice A1 l1.length c1, .bool al] w fun e w' => e = .returned (.bool true) ∧ Below w.heap.size w w' := by
  obtain ⟨b, hb⟩ : ∃ b, (if l.length > 60 then true else decide (msum (l.take 100) > 300)) = b := ⟨_, rfl⟩
  by_cases h : b = false ∧ l1.length ≤ 200
  · obtain ⟨rfl, h2⟩ := h
    obtain ⟨k, hk⟩ := ord_f any l l1 al hb h2
    obtain ⟨hl, _⟩ := much_false hb
    exact order.walk k any A c l A1 c1 l1 al (revL l) w hr hc hr1 hc1 hk hfit (by omega) (by rw [revL_length]; omega) (revL_wf hfit) (ask_rev _ any al l) hG
  · have MU := Aside0.mk (show marlinspikelaw07_much.f 101 any l = some b by rw [much_f' any l 101 (Nat.le_refl _), hb])
    have HR := Aside0.mk hr
    have HC := Aside0.mk hc
    have HG := Aside0.mk hG
    have hu24 := Tryd.underlying24
    have hd : b = true ∨ (b = false ∧ 200 < l1.length) := by
      cases b
      · exact .inr ⟨rfl, by have := h; simp at this; omega⟩
      · exact .inl rfl
    clear hr hc hr1 hc1 hfit hG hb h
    go_enter Tryd.func6, Tryd.ntmps6
    go_wp2_with fail
    refine (marlinspikelaw07_much.calls 101 any A c l b _ ?r1 HC.out MU.out).mono ?_
    case r1 => exact Kd.C_alloc HR.out _
    rintro e w1 ⟨rfl, hb⟩
    have HB := Aside0.mk (below_then (below_alloc (Below.refl w.heap.size w) _) (below_alloc (Below.refl w.heap.size w) _).size hb)
    clear hb
    rcases hd with rfl | ⟨rfl, h200⟩
    · go_wp2_with fail
      refine (alive_calls _ (HG.out.below HB.out)).mono ?_
      rintro e w2 ⟨rfl, hb⟩
      have HB2 := Aside0.mk (below_then HB.out HB.out.size hb)
      clear hb
      go_wp2
      go_ret
      exact ⟨rfl, HB2.out⟩
    · have d200 : decide (200 < l1.length) = true := decide_eq_true h200
      have e200 : ((200 : Int) < (l1.length : Int)) := by omega
      go_wp2_with fail
      all_goals try (exfalso; omega)
      all_goals
        refine (alive_calls _ (HG.out.below HB.out)).mono ?_
        rintro e w2 ⟨rfl, hb⟩
        have HB2 := Aside0.mk (below_then HB.out HB.out.size hb)
        clear hb
        go_wp2
        go_ret
        exact ⟨rfl, HB2.out⟩
end Go.Proofs.YtknbnnpggdegmaaDoor.At
