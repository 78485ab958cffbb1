/- What is formatted is parsed: the plain law of DepBack. -/
import Derived.Test.YtknbnnpggdegmaaDoorText
import Derived.Test.YtknbnnpggdegmaaDoorPDx11
namespace Go.Proofs.YtknbnnpggdegmaaDoor.Tx
open Go.RowKit Go.Proofs.YtknbnnpggdegmaaDoorW.PrintWords Go.Proofs.YtknbnnpggdegmaaDoor.PD Go.Proofs.YtknbnnpggdegmaaDoor.Lib Go.Proofs.YtknbnnpggdegmaaDoor.Num Go.Proofs.YtknbnnpggdegmaaDoor.Txt
set_option linter.unusedVariables false
set_option linter.unusedSimpArgs false

/-- Items by their kinds and jobs. -/
abbrev It := Nat × List Nat
def mkI (x : It) : S52 := ⟨(x.1 : Int), x.2.map Int.ofNat⟩
def txt (x : It) : List UInt8 := itemL x.1 x.2
def sep (any : Bool) : UInt8 := if any then 63 else 44
def goodI (x : It) : Prop := 1 ≤ x.1 ∧ x.1 ≤ 5 ∧ x.2.length ≤ 32 ∧ ∀ n ∈ x.2, n < 1000000
def behind (any : Bool) (l : List It) : List UInt8 := l.flatMap fun x => txt x ++ [sep any]

theorem join_behind (any : Bool) (l : List It) (x : It) : Go.Lib.join ((l ++ [x]).map txt) [sep any] = behind any l ++ txt x := by
  unfold Go.Lib.join behind
  induction l with
  | nil => simp [List.intercalate]
  | cons y l ih =>
    cases l with
    | nil => simp [List.intercalate]
    | cons z l =>
      have : ∀ (a b : List UInt8) (r : List (List UInt8)), [sep any].intercalate (a :: b :: r) = a ++ sep any :: [sep any].intercalate (b :: r) := by
        intro a b r; simp [List.intercalate]
      simp only [List.cons_append, List.map_cons, this]
      simp only [List.cons_append, List.map_cons] at ih
      rw [ih]; simp

theorem behind_any (a b : Bool) (l : List It) (h : l = [] ∨ a = b) : behind a l = behind b l := by
  rcases h with rfl | rfl <;> rfl

/-- What parsing comes to. -/
def parsed (s : ByteArray) (any : Bool) (items : List S52) (y t : Int) : Prop :=
  (y ≠ 0 ∧ items = [] ∧ any = false) ∨ (y = 0 ∧ t = 0 ∧ ∃ l : List It, items = l.map mkI ∧ (∀ x ∈ l, goodI x) ∧ L s = Go.Lib.join (l.map txt) [sep any] ∧ l.length ≤ 32)

theorem ne_empty (s : ByteArray) (h : 0 < s.size) : ¬ s.toList = ([] : List UInt8) := by
  intro e
  rw [toList_L] at e
  have := L_length s
  rw [e] at this
  simp at this; omega

theorem parse_l0 (s : ByteArray) (hs : s.size ≤ 100000) (h0 : 0 < s.size) : ∀ (d p k : Nat) (any : Bool) (l : List It), s.size - p = d → 2 * d + s.size + 300 ≤ k → p ≤ s.size → (∀ x ∈ l, goodI x) → l.length ≤ 32 → (L s).take p = behind any l →
    ∃ any' items' y t, dep_Parse.l0 k s any (l.map mkI) s p 0 0 = some (any', items', y, t) ∧ parsed s any' items' y t := by
  intro d
  induction d using Nat.strongRecOn with
  | _ d ih =>
  intro p k any l hd hk hp hg hl ht
  obtain ⟨k, rfl⟩ : ∃ m, k = m + 2 := ⟨k - 2, by omega⟩
  simp only [dep_Parse.l0]
  rw [if_neg (ne_empty s h0)]
  by_cases h32 : l.length = 32
  · rw [if_pos (by simp [h32])]
    exact ⟨_, _, _, _, rfl, .inl ⟨by decide, rfl, rfl⟩⟩
  · rw [if_neg (by simp; omega)]
    rcases item_f s hs p (k + 1) (by omega) hp with ⟨kd, a, c, y, t, hy, e⟩ | ⟨kd, q, m, e, hk1, hk5, hm5, hm, hn, hpq, hq, htq⟩
    · rw [e]
      simp only [Option.bind_some]
      rw [if_pos (by simp; omega)]
      simp only [Option.bind_some, dep_reader_well.f]
      rw [if_neg (by simp [hy])]
      exact ⟨_, _, _, _, rfl, .inl ⟨hy, rfl, rfl⟩⟩
    · rw [e]
      simp only [Option.bind_some]
      rw [if_pos (by simp; omega)]
      simp only [Option.bind_some, dep_reader_well.f]
      rw [if_pos (by rfl), next_f s q 0 0 hq]
      simp only [Option.bind_some]
      have hI : l.map mkI ++ [(⟨(kd : Int), m.map Int.ofNat⟩ : S52)] = (l ++ [(kd, m)]).map mkI := by simp [mkI]
      rw [hI]
      have hg' : ∀ x ∈ l ++ [(kd, m)], goodI x := by
        intro x hx
        rcases List.mem_append.1 hx with hx | hx
        · exact hg x hx
        · rw [List.mem_singleton.1 hx]; exact ⟨hk1, hk5, hm, hn⟩
      have htq' : (L s).take q = behind any l ++ txt (kd, m) := by rw [htq, ht]; rfl
      have hlen : (l ++ [(kd, m)]).length ≤ 32 := by simp; omega
      by_cases hend : q = s.size
      · rw [nx_end s q (by omega), if_pos (by rfl)]
        simp only [dep_Parse.j1]
        rw [if_pos (by simp [hend])]
        refine ⟨_, _, _, _, rfl, .inr ⟨rfl, rfl, l ++ [(kd, m)], rfl, hg', ?_, hlen⟩⟩
        rw [join_behind, ← htq', hend, ← L_length, List.take_length]
      · have hlt : q < s.size := by omega
        have hql : q < (L s).length := by rw [L_length]; exact hlt
        have hnx := nx_lt s q hlt
        have e2 : ∀ (c : UInt8) (b : Bool), (L s)[q] = c → sep b = c → (l = [] ∨ any = b) → (L s).take (q + 1) = behind b (l ++ [(kd, m)]) := by
          intro c b h1 h2 h3
          rw [List.take_succ_eq_append_getElem hql, htq', h1, behind_any any b l h3, ← h2]
          simp [behind]
        have again : ∀ b : Bool, (L s).take (q + 1) = behind b (l ++ [(kd, m)]) → ∃ any' items' y t, dep_Parse.l0 k s b ((l ++ [(kd, m)]).map mkI) s (wrap64 ((q : Int) + 1)) 0 0 = some (any', items', y, t) ∧ parsed s any' items' y t := by
          intro b hb
          rw [wrap_nat (by omega)]
          exact ih (s.size - (q + 1)) (by omega) (q + 1) k b _ rfl (by omega) (by omega) hg' hlen hb
        have wr : ∀ x3 : Int, ∃ any' items' y t, ((dep_reader_wrong.f s q 0 0 x3).bind fun bt179 => some (false, ([] : List S52), bt179.2.2.1, bt179.2.2.2)) = some (any', items', y, t) ∧ parsed s any' items' y t := by
          intro x3
          obtain ⟨y, hy, hw⟩ := wrong_f s q x3
          rw [hw]
          exact ⟨_, _, _, _, rfl, .inl ⟨hy, rfl, rfl⟩⟩
        have fin : ∃ any' items' y t, dep_Parse.j1 (k + 1) s (nx s q) false any ((l ++ [(kd, m)]).map mkI) s q 0 0 = some (any', items', y, t) ∧ parsed s any' items' y t := by
          simp only [dep_Parse.j1]
          rw [if_neg (by simp)]
          by_cases h44 : nx s q = 44
          · rw [if_pos (by omega)]
            have hc : (L s)[q] = 44 := UInt8.toNat_inj.1 (by rw [← hnx, h44]; rfl)
            have hb : ((nx s q : Int) == 63) = false := by rw [h44]; rfl
            by_cases h1 : (((l ++ [(kd, m)]).map mkI).length : Int) > 1
            · rw [if_pos h1, hb]
              cases any
              · rw [if_neg (by simp)]
                exact again false (e2 44 false hc rfl (.inr rfl))
              · rw [if_pos (by rfl)]
                exact wr _
            · rw [if_neg h1, hb]
              have : l = [] := by cases l with | nil => rfl | cons a r => simp at h1; omega
              exact again false (e2 44 false hc rfl (.inl this))
          · rw [if_neg (by omega)]
            by_cases h63 : nx s q = 63
            · rw [if_pos (by omega)]
              have hc : (L s)[q] = 63 := UInt8.toNat_inj.1 (by rw [← hnx, h63]; rfl)
              have hb : ((nx s q : Int) == 63) = true := by rw [h63]; rfl
              by_cases h1 : (((l ++ [(kd, m)]).map mkI).length : Int) > 1
              · rw [if_pos h1, hb]
                cases any
                · rw [if_pos (by rfl)]
                  exact wr _
                · rw [if_neg (by simp)]
                  exact again true (e2 63 true hc rfl (.inr rfl))
              · rw [if_neg h1, hb]
                have : l = [] := by cases l with | nil => rfl | cons a r => simp at h1; omega
                exact again true (e2 63 true hc rfl (.inl this))
            · rw [if_neg (by omega)]
              exact wr _
        by_cases hz : (nx s q : Int) = 0
        · rw [if_pos hz, show ((q : Int) == (s.size : Int)) = false from by simp; omega]
          exact fin
        · rw [if_neg hz]
          exact fin

theorem parse_f (s : ByteArray) (hs : s.size ≤ 100000) (k : Nat) (hk : 3 * s.size + 300 ≤ k) : ∃ any items y t, dep_Parse.f k s = some (any, items, y, t) ∧ parsed s any items y t := by
  unfold dep_Parse.f
  by_cases h0 : s.size = 0
  · obtain ⟨k, rfl⟩ : ∃ m, k = m + 1 := ⟨k - 1, by omega⟩
    have hl : L s = [] := by have := L_length s; rw [h0] at this; exact List.length_eq_zero_iff.1 this
    simp only [dep_Parse.l0]
    rw [if_pos (by rw [toList_L, hl])]
    exact ⟨_, _, _, _, rfl, .inr ⟨rfl, rfl, [], rfl, by simp, by rw [hl]; rfl, by simp⟩⟩
  · exact parse_l0 s hs (by omega) s.size 0 k false [] (by omega) (by omega) (by omega) (by simp) (by simp) (by simp [behind])

def mkB (l : List UInt8) : ByteArray := ⟨l.toArray⟩
theorem L_mkB (l : List UInt8) : L (mkB l) = l := L_mk l
theorem mkB_size (l : List UInt8) : (mkB l).size = l.length := by rw [← L_length, L_mkB]
theorem mkB_append (a b : List UInt8) : mkB a ++ mkB b = mkB (a ++ b) := L_inj (by rw [L_append, L_mkB, L_mkB, L_mkB])
theorem itoa_nat (n : Nat) : Go.Lib.itoa (n : Int) = Go.Lib.decDigits n := by
  unfold Go.Lib.itoa; rw [if_neg (by omega)]; simp
theorem itoa_f (n : Nat) (h : n < 1000000) : strconv_Itoa.f (n : Int) = some (mkB (Go.Lib.decDigits n)) := by
  unfold strconv_Itoa.f
  rw [if_pos (by omega), itoa_nat]; rfl
theorem rd_map (m : List Nat) (i : Nat) (h : i < m.length) : rd (m.map Int.ofNat) i = (m[i] : Int) := by
  simp [rd, h]
theorem nDigits_le : ∀ (k n : Nat), n < 10 ^ (k + 1) → Go.Lib.nDigits n ≤ k + 1
  | 0, n, h => by rw [Go.Lib.nDigits_small (by simpa using h)]; omega
  | k + 1, n, h => by
    by_cases hn : n < 10
    · rw [Go.Lib.nDigits_small hn]; omega
    · rw [Go.Lib.nDigits_big hn]
      have := nDigits_le k (n / 10) (by rw [Nat.pow_succ] at h; omega)
      omega
theorem dec_len (n : Nat) (h : n < 1000000) : (Go.Lib.decDigits n).length ≤ 7 := by
  rw [Go.Lib.decDigits_length]
  exact nDigits_le 6 n (by omega)

theorem fmt_l1 (x3 : List ByteArray) (items its2 : List S52) (n1 : Int) (i0 : Int) (any : Bool) (m : List Nat) (hm : ∀ n ∈ m, n < 1000000) (hml : m.length ≤ 32) (hx : x3.length ≤ 64) :
    ∀ (d i : Nat) (u : List UInt8) (k : Nat), m.length - i = d → i ≤ m.length → u.length + d * 8 ≤ 1000000 →
    dep_Format.l1 (k + d + 1) x3 (mkB u) items n1 i0 (m.map Int.ofNat) (m.length : Int) i any its2 = dep_Format.l0 k (x3 ++ [mkB (u ++ jobsL (m.drop i))]) items n1 (wrap64 (i0 + 1)) any its2 := by
  intro d
  induction d with
  | zero =>
    intro i u k hd hi hu
    simp only [dep_Format.l1]
    rw [if_neg (by omega), if_pos (by omega), List.drop_eq_nil_of_le (by omega)]
    simp [jobsL]
  | succ d ih =>
    intro i u k hd hi hu
    have hlt : i < m.length := by omega
    have hn := hm m[i] (List.getElem_mem _)
    have hdl := dec_len m[i] hn
    obtain ⟨K, hK⟩ : ∃ K, k + d + 1 = K := ⟨_, rfl⟩
    rw [show k + (d + 1) + 1 = (k + d + 1) + 1 by omega, hK]
    simp only [dep_Format.l1]
    rw [if_pos (by omega), if_pos (by omega), if_pos (by simp; omega), rd_map m i hlt, if_neg (by omega), itoa_f _ hn]
    simp only [Option.bind_some]
    rw [show (⟨#[58]⟩ : ByteArray) = mkB [58] from rfl, mkB_append, mkB_append, mkB_size, mkB_size, mkB_size, if_pos (by omega), if_pos (by simp; omega), wrap_nat (by omega), ← hK,
      ih (i + 1) _ k (by omega) (by omega) (by simp; omega), List.drop_eq_getElem_cons hlt, show jobsL (m[i] :: m.drop (i + 1)) = 58 :: (Go.Lib.decDigits m[i] ++ jobsL (m.drop (i + 1))) from rfl]
    simp [List.append_assoc]

theorem fmt_l0 (items : List S52) (its : List It) (he : items = its.map mkI) (hg : ∀ x ∈ its, goodI x) (any : Bool) (hl : its.length ≤ 32) :
    ∀ (d i : Nat) (x3 : List ByteArray) (k : Nat), its.length - i = d → i ≤ its.length → x3.length = i → 40 * d + 1 ≤ k →
    dep_Format.l0 k x3 items (its.length : Int) i any items = strings_Join.f (x3 ++ (its.drop i).map fun x => mkB (txt x)) (mkB [sep any]) := by
  intro d
  induction d with
  | zero =>
    intro i x3 k hd hi hx hk
    obtain ⟨k, rfl⟩ : ∃ m, k = m + 1 := ⟨k - 1, by omega⟩
    simp only [dep_Format.l0]
    rw [if_neg (by omega), List.drop_eq_nil_of_le (by omega)]
    cases any <;> simp [sep, mkB]
  | succ d ih =>
    intro i x3 k hd hi hx hk
    obtain ⟨k, rfl⟩ : ∃ m, k = m + 2 := ⟨k - 2, by omega⟩
    have hlt : i < its.length := by omega
    have hrd : rd_T52 items i = ⟨(its[i].1 : Int), its[i].2.map Int.ofNat⟩ := by subst he; simp [rd_T52, hlt, mkI]
    obtain ⟨g1, g5, gl, gn⟩ := hg its[i] (List.getElem_mem _)
    obtain ⟨w, hw, hwl⟩ := word_f its[i].1 g1 g5
    have hwB : w = mkB (wordL its[i].1) := L_inj (by rw [hwl, L_mkB])
    simp only [dep_Format.l0]
    rw [if_pos (by omega), if_pos (by omega), if_pos (by rw [he]; simp; omega), hrd]
    dsimp only
    rw [hw]
    simp only [Option.bind_some]
    rw [if_pos (show ((its[i].1 : Nat) : Int) ≥ 1 by omega)]
    simp only [dep_Format.j1]
    have hwl10 : (wordL its[i].1).length ≤ 10 := by
      have : its[i].1 = 1 ∨ its[i].1 = 2 ∨ its[i].1 = 3 ∨ its[i].1 = 4 ∨ its[i].1 = 5 := by omega
      rcases this with h | h | h | h | h <;> rw [h] <;> decide
    by_cases h5 : its[i].1 < 5
    · rw [if_pos (by simp; omega), hwB]
      obtain ⟨k2, hk2⟩ : ∃ k2, k = k2 + its[i].2.length + 1 := ⟨k - its[i].2.length - 1, by omega⟩
      subst hk2
      rw [show (((its[i].2.map Int.ofNat).length : Nat) : Int) = (its[i].2.length : Int) by simp]
      have := fmt_l1 x3 items items (its.length : Int) i any its[i].2 gn gl (by omega) its[i].2.length 0 (wordL its[i].1) k2 (by omega) (by omega) (by omega)
      rw [show ((0 : Nat) : Int) = 0 from rfl] at this
      rw [this, wrap_nat (by omega), ih (i + 1) _ k2 (by omega) (by omega) (by simp; omega) (by omega), List.drop_eq_getElem_cons hlt, List.map_cons, show txt its[i] = wordL its[i].1 ++ jobsL (its[i].2.drop 0) from by unfold txt itemL; rw [if_pos h5]; rfl, List.append_assoc, List.singleton_append]
    · rw [if_neg (by simp; omega), if_pos (by omega), hwB, wrap_nat (by omega), ih (i + 1) _ k (by omega) (by omega) (by simp; omega) (by omega), List.drop_eq_getElem_cons hlt, List.map_cons, show txt its[i] = wordL its[i].1 from by unfold txt itemL; rw [if_neg h5, List.append_nil], List.append_assoc, List.singleton_append]

theorem DepBack : ∀ (a0 : ByteArray), a0.size ≤ 140737488351232 → ∃ k, marlinspikelaw07_DepBack.f k a0 = some true := by
  intro s hs
  unfold marlinspikelaw07_DepBack.f
  by_cases h : (s.size : Int) > 5000
  · exact ⟨0, by rw [if_pos h]; rfl⟩
  · refine ⟨3 * s.size + 2000, ?_⟩
    rw [if_neg h]
    obtain ⟨any, items, y, t, e, hp⟩ := parse_f s (by omega) (3 * s.size + 2000) (by omega)
    rw [e]
    simp only [Option.bind_some]
    rcases hp with ⟨hy, rfl, rfl⟩ | ⟨rfl, rfl, its, he, hg, hL, hlen⟩
    · rw [if_pos (by simp [hy])]
      simp [marlinspikelaw07_alive.f]
    · rw [if_neg (by simp)]
      have := fmt_l0 items its he hg any hlen its.length 0 [] (3 * s.size + 2000) (by omega) (by omega) rfl (by omega)
      unfold dep_Format.f
      rw [show ((items.length : Nat) : Int) = (its.length : Int) by rw [he]; simp]
      rw [show ((0 : Nat) : Int) = 0 from rfl] at this
      rw [this]
      have hj : Go.Lib.join (((([] : List ByteArray) ++ (its.drop 0).map fun x => mkB (txt x))).map (·.data.toList)) (mkB [sep any]).data.toList = L s := by
        rw [hL]
        simp only [List.nil_append, List.drop_zero, List.map_map]
        congr 1
      unfold strings_Join.f
      rw [hj, if_pos (by rw [L_length]; simp; omega)]
      simp only [Option.bind_some]
      rw [if_pos (by rw [toList_L, toList_L, L_mk])]
      rfl
end Go.Proofs.YtknbnnpggdegmaaDoor.Tx
