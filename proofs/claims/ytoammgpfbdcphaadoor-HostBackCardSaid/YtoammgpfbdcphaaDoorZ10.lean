/- Part 10 of the proof of HostBackCardSaid. -/
import Derived.Test.YtoammgpfbdcphaaDoorZ08
import Derived.Test.YtoammgpfbdcphaaDoorZ09
import Derived.Test.YtoammgpfbdcphaaDoorZ03
import Derived.Test.YtoammgpfbdcphaaDoorZ07
section
namespace Go.Proofs.YtoammgpfbdcphaaDoor.Hx
open Go.RowKit Go.Proofs.YtoammgpfbdcphaaDoor.Lib Go.Proofs.YtoammgpfbdcphaaDoor.PH Go.Proofs.YtoammgpfbdcphaaDoor.Txt Go.Proofs.YtoammgpfbdcphaaDoor.Num Go.Proofs.YtoammgpfbdcphaaDoor.Hn Go.Proofs.YtoammgpfbdcphaaDoorW.PrintWords Go.Proofs.YtoammgpfbdcphaaDoorW.PrintLast Go.Proofs.YtoammgpfbdcphaaDoorW.PrintMore
set_option linter.unusedVariables false
set_option linter.unusedSimpArgs false
def NumR (x : ByteArray) (r : ByteArray × Int × Int × Bool) : Prop :=
  r = (x, 0, 0, false) ∨ ∃ i : Nat, 0 < i ∧ i < x.size ∧ x.size - i ≤ 6 ∧ Digs ((L x).drop i) ∧ r = (x.extract 0 i, (valD ((L x).drop i) : Int), ((x.size - i : Nat) : Int), true)
theorem ext_tail (x : ByteArray) (i : Nat) : L (x.extract i x.size) = (L x).drop i := by
  rw [extract_L]
  exact List.take_of_length_le (by rw [List.length_drop, L_length]; exact Nat.le_refl _)
def numD (x : ByteArray) (i : Nat) : ByteArray × Int × Int × Bool := if i = 0 ∨ i = x.size then (x, 0, 0, false) else (x.extract 0 i, (valD ((L x).drop i) : Int), ((x.size - i : Nat) : Int), true)
theorem num_done (x : ByteArray) (hs : x.size ≤ 9000000000) (i : Nat) (hi : i ≤ x.size) (h6 : x.size - i ≤ 6) (hd : Digs ((L x).drop i)) :
    (if (i : Int) = 0 then (some (x, (0 : Int), (0 : Int), false)) else (if (i : Int) = (x.size : Int) then (some (x, 0, 0, false)) else (if 0 ≤ (i : Int) then (if (i : Int) ≤ (x.size : Int) then ((strconv_Atoi.f (x.extract (i : Int).toNat x.size)).bind fun bt => (some (x.extract 0 (i : Int).toNat, bt.1, wrap64 ((x.size : Int) - (i : Int)), true))) else (none)) else (none)))) = some (numD x i) := by
  unfold numD
  by_cases h0 : i = 0
  · rw [if_pos (by omega), if_pos (.inl h0)]
  · by_cases h1 : i = x.size
    · rw [if_neg (by omega), if_pos (by omega), if_pos (.inr h1)]
    · have hl : ((L x).drop i).length = x.size - i := by rw [List.length_drop, L_length]
      rw [if_neg (by omega), if_neg (by omega), if_pos (by omega), if_pos (by omega), if_neg (by omega), Int.toNat_natCast, atoi_f _ (by rw [ext_tail]; exact hd) (by rw [ext_tail]; intro h; rw [h] at hl; simp at hl; omega) (by rw [ext_tail]; omega), ext_tail]
      simp only [Option.bind_some]
      rw [wrap_sub hi (by omega)]
theorem numD_R (x : ByteArray) (i : Nat) (hi : i ≤ x.size) (h6 : x.size - i ≤ 6) (hd : Digs ((L x).drop i)) : NumR x (numD x i) := by
  unfold numD
  split
  · exact .inl rfl
  · exact .inr ⟨i, by omega, by omega, h6, hd, rfl⟩
theorem num_l0 (x : ByteArray) (hs : x.size ≤ 9000000000) : ∀ (i : Nat), i ≤ x.size → x.size - i ≤ 6 → Digs ((L x).drop i) → ∃ r, Ev (fun k => host_Number.l0 k x (i : Int)) r ∧ NumR x r := by
  intro i
  induction i with
  | zero =>
    intro hi h6 hd
    refine ⟨numD x 0, Ev.shift ⟨0, fun k hk => ?_⟩, numD_R x 0 hi h6 hd⟩
    simp only [host_Number.l0]
    rw [if_neg (by omega)]
    exact num_done x hs 0 hi h6 hd
  | succ i ih =>
    intro hi h6 hd
    by_cases h5 : x.size - (i + 1) < 6
    · have hl : i < (L x).length := by rw [L_length]; omega
      by_cases hc : isDig (L x)[i] = true
      · obtain ⟨r, ⟨K, hK⟩, hR⟩ := ih (by omega) (by omega) (by
          rw [List.drop_eq_getElem_cons hl]
          intro c hc2
          rcases List.mem_cons.1 hc2 with rfl | hc2
          · exact hc
          · exact hd c hc2)
        dsimp only at hK
        refine ⟨r, Ev.shift ⟨K, fun k hk => ?_⟩, hR⟩
        simp only [host_Number.l0]
        have e : wrap64 (((i + 1 : Nat) : Int) - 1) = (i : Int) := by unfold wrap64; omega
        rw [if_pos (by omega), wrap_sub hi (by omega), if_pos (by omega), e, if_pos (by omega), if_pos (by omega), bt_L x i (by omega), digit_f]
        simp only [Option.bind_some]
        rw [if_pos hc]
        exact hK k hk
      · refine ⟨numD x (i + 1), Ev.shift ⟨0, fun k hk => ?_⟩, numD_R x (i + 1) hi h6 hd⟩
        simp only [host_Number.l0]
        have e : wrap64 (((i + 1 : Nat) : Int) - 1) = (i : Int) := by unfold wrap64; omega
        rw [if_pos (by omega), wrap_sub hi (by omega), if_pos (by omega), e, if_pos (by omega), if_pos (by omega), bt_L x i (by omega), digit_f]
        simp only [Option.bind_some]
        rw [if_neg hc]
        have := num_done x hs (i + 1) hi h6 hd
        rw [wrap_sub hi (by omega)] at this
        exact this
    · refine ⟨numD x (i + 1), Ev.shift ⟨0, fun k hk => ?_⟩, numD_R x (i + 1) hi h6 hd⟩
      simp only [host_Number.l0]
      rw [if_pos (by omega), wrap_sub hi (by omega), if_neg (by omega)]
      have := num_done x hs (i + 1) hi h6 hd
      rw [wrap_sub hi (by omega)] at this
      exact this
theorem number_ev (x : ByteArray) (hs : x.size ≤ 9000000000) : ∃ r, Ev (fun k => host_Number.f k x) r ∧ NumR x r :=
  num_l0 x hs x.size (Nat.le_refl _) (by omega) (by rw [← L_length, List.drop_length]; intro c hc; cases hc)
theorem rdN (xs : List ByteArray) (i : Nat) (h : i < xs.length) : rdOf ByteArray.empty xs (i : Int) = xs[i] := by
  unfold rdOf
  rw [Int.toNat_natCast, List.getD_eq_getElem?_getD, List.getElem?_eq_getElem h]; rfl
theorem ext_le (a : ByteArray) (i j : Nat) : (a.extract i j).size ≤ a.size := by rw [ByteArray.size_extract]; omega
def grp (x0 : List ByteArray) (P : ByteArray) (m : Nat) : ByteArray :=
  if m = 1 then rdOf ByteArray.empty x0 0
  else ((((P ++ (⟨#[91]⟩ : ByteArray)) ++ ((rdOf ByteArray.empty x0 0).extract P.size (rdOf ByteArray.empty x0 0).size)) ++ (⟨#[45]⟩ : ByteArray)) ++ ((rdOf ByteArray.empty x0 ((m - 1 : Nat) : Int)).extract P.size (rdOf ByteArray.empty x0 ((m - 1 : Nat) : Int)).size)) ++ (⟨#[93]⟩ : ByteArray)
theorem one_sz (c : UInt8) : (⟨#[c]⟩ : ByteArray).size = 1 := rfl
theorem finish (x0 out : List ByteArray) (P : ByteArray) (n : Int) (ok : Bool) (m : Nat) (a b c : Int) (h1 : 1 ≤ m) (hm : m ≤ x0.length) (hl : x0.length ≤ 1000) (ho : out.length ≤ 1000) (hP : P.size ≤ 20000) (hx : ∀ y ∈ x0, y.size ≤ 20000)
    (hle : m ≠ 1 → P.size ≤ (rdOf ByteArray.empty x0 0).size ∧ P.size ≤ (rdOf ByteArray.empty x0 ((m - 1 : Nat) : Int)).size) (r : ByteArray) (hr : Ev (fun k => host_Compress.l0 k (x0.drop m) (out ++ [grp x0 P m])) r) :
    Ev (fun k => host_Compress.j4 k x0 out P n ok (m : Int) false a b c) r := by
  obtain ⟨K, hK⟩ := hr
  dsimp only at hK
  refine Ev.shift ⟨K, fun k hk => ?_⟩
  have h2 := hK k hk
  simp only [host_Compress.j4]
  rw [if_neg (by decide)]
  unfold grp at h2
  by_cases e : m = 1
  · rw [if_pos e] at h2
    rw [if_pos (by omega), if_pos (by omega), if_pos (by omega), if_pos (by omega), if_pos (by omega), Int.toNat_natCast]
    exact h2
  · rw [if_neg e] at h2
    obtain ⟨l1, l2⟩ := hle e
    have hA : (rdOf ByteArray.empty x0 0).size ≤ 20000 := by rw [show (0 : Int) = ((0 : Nat) : Int) from rfl, rdN x0 0 (by omega)]; exact hx _ (List.getElem_mem _)
    have hB : (rdOf ByteArray.empty x0 ((m - 1 : Nat) : Int)).size ≤ 20000 := by rw [rdN x0 (m - 1) (by omega)]; exact hx _ (List.getElem_mem _)
    have ew : wrap64 ((m : Int) - 1) = ((m - 1 : Nat) : Int) := by unfold wrap64; omega
    rw [ew]
    generalize rdOf ByteArray.empty x0 0 = A at *
    generalize rdOf ByteArray.empty x0 ((m - 1 : Nat) : Int) = B at *
    have e1 := ext_le A P.size A.size
    have e2 := ext_le B P.size B.size
    simp only [Int.toNat_natCast, ByteArray.size_append, one_sz]
    rw [if_neg (by omega), if_pos (by omega), if_pos (by omega), if_pos (by omega), if_pos (by omega), if_pos (by omega), if_pos (by omega), if_pos (by omega), if_pos (by omega), if_pos (by omega), if_pos (by omega), if_pos (by omega), if_pos (by omega), if_pos (by omega), if_pos (by omega)]
    exact h2
theorem finish_ne (x0 out : List ByteArray) (P : ByteArray) (n : Int) (ok : Bool) (m : Nat) (a b c : Int) (h1 : 1 ≤ m) (hm : m < x0.length) (hl : x0.length ≤ 1000) (ho : out.length ≤ 1000) (hP : P.size ≤ 20000) (hx : ∀ y ∈ x0, y.size ≤ 20000)
    (hle : m ≠ 1 → P.size ≤ (rdOf ByteArray.empty x0 0).size ∧ P.size ≤ (rdOf ByteArray.empty x0 ((m - 1 : Nat) : Int)).size) (q : ByteArray × Int × Int × Bool) (hq : Ev (fun k => host_Number.f k x0[m]) q) (hne : L q.1 ≠ L P)
    (r : ByteArray) (hr : Ev (fun k => host_Compress.l0 k (x0.drop m) (out ++ [grp x0 P m])) r) :
    Ev (fun k => host_Compress.j4 k x0 out P n ok (m : Int) true a b c) r := by
  obtain ⟨K, hK⟩ := hr
  dsimp only at hK
  obtain ⟨K1, hK1⟩ := hq
  dsimp only at hK1
  refine Ev.shift ⟨K + K1, fun k hk => ?_⟩
  have h2 := hK k (by omega)
  simp only [host_Compress.j4]
  rw [if_pos (by first | rfl | trivial), if_pos (by omega), if_pos (by omega), rdN x0 m hm, hK1 k (by omega)]
  simp only [Option.bind_some]
  rw [if_neg (by rw [toList_L, toList_L]; exact hne)]
  unfold grp at h2
  by_cases e : m = 1
  · rw [if_pos e] at h2
    rw [if_pos (by omega), if_pos (by omega), if_pos (by omega), if_pos (by omega), Int.toNat_natCast]
    exact h2
  · rw [if_neg e] at h2
    obtain ⟨l1, l2⟩ := hle e
    have hA : (rdOf ByteArray.empty x0 0).size ≤ 20000 := by rw [show (0 : Int) = ((0 : Nat) : Int) from rfl, rdN x0 0 (by omega)]; exact hx _ (List.getElem_mem _)
    have hB : (rdOf ByteArray.empty x0 ((m - 1 : Nat) : Int)).size ≤ 20000 := by rw [rdN x0 (m - 1) (by omega)]; exact hx _ (List.getElem_mem _)
    have ew : wrap64 ((m : Int) - 1) = ((m - 1 : Nat) : Int) := by unfold wrap64; omega
    rw [ew]
    generalize rdOf ByteArray.empty x0 0 = A at *
    generalize rdOf ByteArray.empty x0 ((m - 1 : Nat) : Int) = B at *
    have e1 := ext_le A P.size A.size
    have e2 := ext_le B P.size B.size
    simp only [Int.toNat_natCast, ByteArray.size_append, one_sz]
    rw [if_neg (by omega), if_pos (by omega), if_pos (by omega), if_pos (by omega), if_pos (by omega), if_pos (by omega), if_pos (by omega), if_pos (by omega), if_pos (by omega), if_pos (by omega), if_pos (by omega), if_pos (by omega), if_pos (by omega), if_pos (by omega)]
    exact h2
def Grp (x0 : List ByteArray) (P : ByteArray) (w n m : Nat) : Prop := ∀ j (h : j < x0.length), j < m → L x0[j] = L P ++ padL w (n + j) ∧ (padL w (n + j)).length ≤ 6 ∧ n + j < 1000000
theorem text_i (w n : Nat) (hw : w ≤ 6) (hn : n < 1000000) : host_span_text.f 0 0 (w : Int) (n : Int) = some (mkB (padL w n)) := text_f 0 0 w n hw hn
theorem group_l1 (x0 out : List ByteArray) (P : ByteArray) (w n : Nat) (hw : w ≤ 6) (hl : x0.length ≤ 1000) (ho : out.length ≤ 1000) (hP : P.size ≤ 20000) (hx : ∀ y ∈ x0, y.size ≤ 20000) :
    ∀ (d m : Nat), x0.length - m = d → 1 ≤ m → m ≤ x0.length → Grp x0 P w n m → n < 1000000 →
      ∃ m', 1 ≤ m' ∧ m' ≤ x0.length ∧ Grp x0 P w n m' ∧ ∀ r, Ev (fun k => host_Compress.l0 k (x0.drop m') (out ++ [grp x0 P m'])) r → Ev (fun k => host_Compress.l1 k x0 out P (n : Int) true (m : Int) 0 0 (w : Int)) r := by
  intro d
  induction d with
  | zero =>
    intro m hd h1 hm hg hn
    refine ⟨m, h1, hm, hg, fun r hr => ?_⟩
    obtain ⟨K, hK⟩ := finish x0 out P (n : Int) true m 0 0 (w : Int) h1 hm hl ho hP hx (fun hne => by
      rw [show (0 : Int) = ((0 : Nat) : Int) from rfl, rdN x0 0 (by omega), rdN x0 (m - 1) (by omega)]
      have g0 := congrArg List.length (hg 0 (by omega) (by omega)).1
      have g1 := congrArg List.length (hg (m - 1) (by omega) (by omega)).1
      rw [L_length, List.length_append, L_length] at g0 g1
      omega) r hr
    dsimp only at hK
    refine Ev.shift ⟨K, fun k hk => ?_⟩
    simp only [host_Compress.l1]
    rw [if_pos (by first | rfl | trivial), if_neg (by omega)]
    exact hK k hk
  | succ d ih =>
    intro m hd h1 hm hg hn
    have hlt : m < x0.length := by omega
    have hle : m ≠ 1 → P.size ≤ (rdOf ByteArray.empty x0 0).size ∧ P.size ≤ (rdOf ByteArray.empty x0 ((m - 1 : Nat) : Int)).size := fun hne => by
      rw [show (0 : Int) = ((0 : Nat) : Int) from rfl, rdN x0 0 (by omega), rdN x0 (m - 1) (by omega)]
      have g0 := congrArg List.length (hg 0 (by omega) (by omega)).1
      have g1 := congrArg List.length (hg (m - 1) (by omega) (by omega)).1
      rw [L_length, List.length_append, L_length] at g0 g1
      omega
    have ew : wrap64 ((n : Int) + (m : Int)) = ((n + m : Nat) : Int) := by unfold wrap64; omega
    by_cases hnm : n + m < 1000000
    · have hpl := pad_le6 w (n + m) hw hnm
      have hsz : P.size + (mkB (padL w (n + m))).size ≤ 9223372036854775807 := by rw [mkB_size]; omega
      have hin : ∀ b : Bool, b = ((rdOf ByteArray.empty x0 (m : Int)).toList == (P ++ mkB (padL w (n + m))).toList) → ∀ r, Ev (fun k => host_Compress.j4 k x0 out P (n : Int) true (m : Int) b 0 0 (w : Int)) r → Ev (fun k => host_Compress.l1 k x0 out P (n : Int) true (m : Int) 0 0 (w : Int)) r := by
        intro b hb r hr
        obtain ⟨K, hK⟩ := hr
        dsimp only at hK
        refine Ev.shift ⟨K, fun k hk => ?_⟩
        simp only [host_Compress.l1]
        rw [if_pos (by first | rfl | trivial), if_pos (by omega), ew, if_pos (by omega), if_pos (by omega), text_i w (n + m) hw hnm]
        simp only [Option.bind_some]
        rw [if_pos hsz, ← hb]
        exact hK k hk
      rw [rdN x0 m hlt, toList_L, toList_L, L_append, L_mkB] at hin
      by_cases he : L x0[m] = L P ++ padL w (n + m)
      · have hb : true = (L x0[m] == L P ++ padL w (n + m)) := by rw [he]; exact (beq_self_eq_true _).symm
        obtain ⟨q, hq, hR⟩ := number_ev x0[m] (by have := hx x0[m] (List.getElem_mem hlt); omega)
        by_cases hqe : L q.1 = L P
        · obtain ⟨m', h2, h3, h4, h5⟩ := ih (m + 1) (by omega) (by omega) (by omega) (by
            intro j hj hjm
            by_cases hjm2 : j < m
            · exact hg j hj hjm2
            · obtain rfl : j = m := by omega
              refine ⟨he, ?_, hnm⟩
              exact hpl) hn
          refine ⟨m', h2, h3, h4, fun r hr => hin true hb r ?_⟩
          obtain ⟨K, hK⟩ := h5 r hr
          obtain ⟨K1, hK1⟩ := hq
          dsimp only at hK hK1
          refine Ev.shift ⟨K + K1, fun k hk => ?_⟩
          simp only [host_Compress.j4]
          rw [if_pos (by first | rfl | trivial), if_pos (by omega), if_pos (by omega), rdN x0 m hlt, hK1 k (by omega)]
          simp only [Option.bind_some]
          rw [if_pos (by rw [toList_L, toList_L]; exact hqe), wrap_nat (by omega)]
          exact hK k (by omega)
        · exact ⟨m, h1, hm, hg, fun r hr => hin true hb r (finish_ne x0 out P (n : Int) true m 0 0 (w : Int) h1 hlt hl ho hP hx hle q hq hqe r hr)⟩
      · have hb : false = (L x0[m] == L P ++ padL w (n + m)) := by rw [eq_comm, beq_eq_false_iff_ne]; exact he
        exact ⟨m, h1, hm, hg, fun r hr => hin false hb r (finish x0 out P (n : Int) true m 0 0 (w : Int) h1 hm hl ho hP hx hle r hr)⟩
    · refine ⟨m, h1, hm, hg, fun r hr => ?_⟩
      obtain ⟨K, hK⟩ := finish x0 out P (n : Int) true m 0 0 (w : Int) h1 hm hl ho hP hx hle r hr
      dsimp only at hK
      refine Ev.shift ⟨K, fun k hk => ?_⟩
      simp only [host_Compress.l1]
      rw [if_pos (by first | rfl | trivial), if_pos (by omega), ew, if_neg (by omega)]
      exact hK k hk
theorem grp_one (b : ByteArray) (r : List ByteArray) (P : ByteArray) (m : Nat) (hb : gN m b) : Rep (L (grp (b :: r) P 1)) [b] := by
  obtain ⟨h1, h2, h3⟩ := hb
  have e : grp (b :: r) P 1 = b := by unfold grp; rw [if_pos rfl]; rfl
  rw [e]
  exact .inl ⟨fun h => h1 (by rw [← L_length, h]; rfl), h3, by rw [mkB_L]⟩
theorem ext_pre (A : ByteArray) (P d : List UInt8) (h : L A = P ++ d) : L (A.extract P.length A.size) = d := by
  rw [ext_tail, h, List.drop_left]
theorem grp_many (x0 : List ByteArray) (P : ByteArray) (d : List UInt8) (m mx : Nat) (hm : 1 < m) (hml : m ≤ x0.length) (hP : P.size ≠ 0) (hd : Digs d) (hd0 : d ≠ []) (hd6 : d.length ≤ 6) (hb : ∀ y ∈ x0, gN mx y) (hg : Grp x0 P (widthOf d) (valD d) m) :
    Rep (L (grp x0 P m)) (x0.take m) := by
  obtain ⟨a1, a2, a3⟩ := hg 0 (by omega) (by omega)
  obtain ⟨b1, b2, b3⟩ := hg (m - 1) (by omega) (by omega)
  rw [Nat.add_zero, text_val d hd hd0] at a1
  have hbare : Bare (L P) := by
    intro c hc
    have := (hb x0[0] (List.getElem_mem _)).2.2
    exact this c (by rw [a1]; exact List.mem_append_left _ hc)
  refine .inr ⟨L P, d, padL (widthOf d) (valD d + (m - 1)), fun h => hP (by rw [← L_length, h]; rfl), hbare, hd, hd0, hd6, pad_digs _ _, pad_ne _ _, b2, by rw [pad_valD]; omega, ?_, ?_⟩
  · unfold grp
    rw [if_neg (by omega), show (0 : Int) = ((0 : Nat) : Int) from rfl, rdN x0 0 (by omega), rdN x0 (m - 1) (by omega)]
    have e1 := ext_pre _ _ _ a1
    have e2 := ext_pre _ _ _ b1
    rw [L_length] at e1 e2
    simp only [L_append]
    rw [e1, e2]
    show L P ++ [91] ++ d ++ [45] ++ _ ++ [93] = _
    simp
  · unfold namesS cntS
    simp only
    rw [pad_valD, show valD d + (m - 1) + 1 - valD d = m by omega]
    apply List.ext_getElem
    · simp; omega
    · intro i h1 h2
      simp only [List.length_take] at h1
      rw [List.getElem_take, List.getElem_map, List.getElem_range]
      obtain ⟨c1, _⟩ := hg i (by omega) (by omega)
      rw [← c1, mkB_L]
theorem widthOf_pos {d : List UInt8} (h : 1 < d.length ∧ d.head? = some 48) : widthOf d = d.length := by unfold widthOf; rw [if_pos h]
theorem widthOf_neg {d : List UInt8} (h : ¬ (1 < d.length ∧ d.head? = some 48)) : widthOf d = 0 := by unfold widthOf; rw [if_neg h]
theorem group (b : ByteArray) (rest out : List ByteArray) (hl : (b :: rest).length ≤ 1000) (ho : out.length ≤ 1000) (hg : ∀ y ∈ b :: rest, gN 20000 y) :
    ∃ (m : Nat) (T : ByteArray), 1 ≤ m ∧ m ≤ (b :: rest).length ∧ Rep (L T) ((b :: rest).take m) ∧ T.size ≤ 60010 ∧ ∀ r, Ev (fun k => host_Compress.l0 k ((b :: rest).drop m) (out ++ [T])) r → Ev (fun k => host_Compress.l0 k (b :: rest) out) r := by
  have hx : ∀ y ∈ b :: rest, y.size ≤ 20000 := fun y hy => (hg y hy).2.1
  have hb := hg b (by simp)
  have hbs := hx b (by simp)
  obtain ⟨q, hq, hR⟩ := number_ev b (by omega)
  have e0 : rdOf ByteArray.empty (b :: rest) 0 = b := rfl
  have hlen0 : (0 : Int) < ((b :: rest).length : Int) := by rw [List.length_cons]; omega
  rcases hR with rfl | ⟨i, hi0, hi, hi6, hd, rfl⟩
  · refine ⟨1, grp (b :: rest) b 1, by omega, by simp, by rw [List.take_succ_cons, List.take_zero]; exact grp_one b rest b _ hb, by unfold grp; rw [if_pos rfl, e0]; omega, fun r hr => ?_⟩
    obtain ⟨K, hK⟩ := finish (b :: rest) out b 0 false 1 0 0 0 (by omega) (by simp) hl ho hbs hx (fun h => absurd rfl h) r hr
    obtain ⟨K1, hK1⟩ := hq
    dsimp only at hK hK1
    refine Ev.shift ⟨K + K1 + 3, fun k hk => ?_⟩
    simp only [host_Compress.l0]
    rw [if_pos hlen0, if_pos hlen0, e0, hK1 k (by omega)]
    simp only [Option.bind_some]
    rw [if_neg (by decide)]
    obtain ⟨m, rfl⟩ : ∃ m, k = m + 3 := ⟨k - 3, by omega⟩
    simp only [host_Compress.j1]
    rw [if_neg (by decide)]
    simp only [host_Compress.j2, host_Compress.l1]
    rw [if_neg (by decide)]
    exact hK m (by omega)
  · have hPL : L (b.extract 0 i) = (L b).take i := by rw [extract_L]; simp
    have hPs : (b.extract 0 i).size = i := by rw [← L_length, hPL, List.length_take, L_length]; omega
    have hdl : ((L b).drop i).length = b.size - i := by rw [List.length_drop, L_length]
    have hd0 : (L b).drop i ≠ [] := fun h => by rw [h] at hdl; simp at hdl; omega
    have hsplit : L b = L (b.extract 0 i) ++ (L b).drop i := by rw [hPL, List.take_append_drop]
    generalize hdd : (L b).drop i = d at *
    have hw6 : widthOf d ≤ 6 := by have := width_le d; omega
    obtain ⟨m, h1, hm, hG, hcont⟩ := group_l1 (b :: rest) out (b.extract 0 i) (widthOf d) (valD d) hw6 hl ho (by omega) hx _ 1 rfl (by omega) (by simp) (by
      intro j hj hj1
      obtain rfl : j = 0 := by omega
      rw [Nat.add_zero, text_val d hd hd0]
      exact ⟨hsplit, by omega, valD_six d hd (by omega)⟩) (valD_six d hd (by omega))
    have hrep : Rep (L (grp (b :: rest) (b.extract 0 i) m)) ((b :: rest).take m) := by
      by_cases hm1 : m = 1
      · subst hm1
        rw [List.take_succ_cons, List.take_zero]; exact grp_one b rest _ _ hb
      · exact grp_many (b :: rest) (b.extract 0 i) d m 20000 (by omega) hm (by omega) hd hd0 (by omega) hg hG
    refine ⟨m, grp (b :: rest) (b.extract 0 i) m, h1, hm, hrep, ?_, fun r hr => ?_⟩
    · have hB : (rdOf ByteArray.empty (b :: rest) ((m - 1 : Nat) : Int)).size ≤ 20000 := by rw [rdN (b :: rest) (m - 1) (by omega)]; exact hx _ (List.getElem_mem _)
      clear hcont hrep hG hq
      unfold grp
      split
      · rw [e0]; omega
      · rw [e0]
        generalize rdOf ByteArray.empty (b :: rest) ((m - 1 : Nat) : Int) = B at *
        have e1 := ext_le b (b.extract 0 i).size b.size
        have e2 := ext_le B (b.extract 0 i).size B.size
        simp only [ByteArray.size_append, one_sz]
        omega
    · obtain ⟨K, hK⟩ := hcont r hr
      obtain ⟨K1, hK1⟩ := hq
      dsimp only at hK hK1
      refine Ev.shift ⟨K + K1 + 3, fun k hk => ?_⟩
      simp only [host_Compress.l0]
      rw [if_pos hlen0, if_pos hlen0, e0, hK1 k (by omega)]
      simp only [Option.bind_some]
      rw [if_pos (by first | rfl | trivial)]
      obtain ⟨k, rfl⟩ : ∃ m, k = m + 2 := ⟨k - 2, by omega⟩
      have hbt : ((bt b ((b.extract 0 i).size : Int)) == 48) = decide (d.head? = some 48) := by
        rw [hPs, bt_L b i hi]
        have hil : i < (L b).length := by rw [L_length]; exact hi
        rw [← hdd, List.head?_drop, List.getElem?_eq_getElem hil]
        by_cases c : (L b)[i] = 48
        · rw [c]; rfl
        · rw [decide_eq_false (by intro h2; exact c (by injection h2))]
          have : ((L b)[i]).toNat ≠ 48 := fun h2 => c (UInt8.toNat_inj.1 h2)
          simp; omega
      have hfin : ∀ bb : Bool, bb = decide (1 < d.length ∧ d.head? = some 48) → host_Compress.j1 (k + 2) (b :: rest) out (b.extract 0 i) (valD d : Int) ((b.size - i : Nat) : Int) true bb 0 0 0 = some r := by
        intro bb hbb
        simp only [host_Compress.j1]
        by_cases hc : 1 < d.length ∧ d.head? = some 48
        · rw [hbb, if_pos (decide_eq_true hc), ← hdl, ← widthOf_pos hc]
          simp only [host_Compress.j2]
          exact hK k (by omega)
        · rw [hbb, if_neg (by simpa using hc)]
          have h2 := hK k (by omega)
          rw [widthOf_neg hc] at h2
          simp only [host_Compress.j2]
          exact h2
      by_cases hw : 1 < d.length
      · rw [if_pos (by omega), if_pos (by omega), if_pos (by omega), hbt]
        exact hfin _ (by simp [hw])
      · rw [if_neg (by omega)]
        exact hfin _ (by simp [hw])
theorem join_le (l : List (List UInt8)) (h : ∀ x ∈ l, x.length ≤ 60010) : (Go.Lib.join l [44]).length ≤ l.length * 60011 := by
  unfold Go.Lib.join
  induction l with
  | nil => simp [List.intercalate]
  | cons x l ih =>
    have hx := h x (by simp)
    have ih2 := ih (fun y hy => h y (by simp [hy]))
    cases l with
    | nil => simp [List.intercalate]; omega
    | cons y l =>
      have e : ([44] : List UInt8).intercalate (x :: y :: l) = x ++ 44 :: ([44] : List UInt8).intercalate (y :: l) := by simp [List.intercalate]
      rw [e, List.length_append, List.length_cons]
      simp only [List.length_cons] at ih2 ⊢
      omega
theorem comp_l0 : ∀ (n : Nat) (x0 : List ByteArray) (ps : List (ByteArray × List ByteArray)), x0.length = n → (∀ b ∈ x0, gN 20000 b) → ps.length + x0.length ≤ 1000 → (∀ x ∈ ps, Rep (L x.1) x.2 ∧ x.1.size ≤ 60010) →
    ∃ qs : List (ByteArray × List ByteArray), Ev (fun k => host_Compress.l0 k x0 (ps.map (·.1))) (mkB (Go.Lib.join (qs.map fun x => L x.1) [44])) ∧ (∀ x ∈ qs, Rep (L x.1) x.2 ∧ x.1.size ≤ 60010) ∧ qs.flatMap (·.2) = ps.flatMap (·.2) ++ x0 ∧ qs.length ≤ 1000 := by
  intro n
  induction n using Nat.strongRecOn with
  | _ n ih =>
    intro x0 ps hn hg hl hp
    cases x0 with
    | nil =>
      refine ⟨ps, Ev.shift ⟨0, fun k hk => ?_⟩, hp, by simp, by omega⟩
      simp only [host_Compress.l0]
      rw [if_neg (by simp)]
      have e : ((ps.map (·.1)).map fun s => s.data.toList) = ps.map fun x => L x.1 := by rw [List.map_map]; rfl
      have hj := join_le (ps.map fun x => L x.1) (by
        intro y hy
        obtain ⟨z, hz, rfl⟩ := List.mem_map.1 hy
        rw [L_length]; exact (hp z hz).2)
      rw [List.length_map] at hj
      have hm : ps.length * 60011 ≤ 1000 * 60011 := Nat.mul_le_mul_right _ (by omega)
      unfold strings_Join.f
      rw [e, show (⟨#[44]⟩ : ByteArray).data.toList = [44] from rfl, if_pos ⟨by rw [List.length_map]; omega, by omega⟩]
      rfl
    | cons b rest =>
      obtain ⟨m, T, h1, hm, hrep, hT, hcont⟩ := group b rest (ps.map (·.1)) (by omega) (by rw [List.length_map]; omega) hg
      have hdl : ((b :: rest).drop m).length = (b :: rest).length - m := List.length_drop
      obtain ⟨qs, hE, h2, h3, h4⟩ := ih _ (by rw [← hn, hdl]; omega) ((b :: rest).drop m) (ps ++ [(T, (b :: rest).take m)]) rfl (fun y hy => hg y (List.mem_of_mem_drop hy)) (by rw [List.length_append, hdl]; simp at hl hm ⊢; omega) (by
        intro x hx
        rcases List.mem_append.1 hx with hx | hx
        · exact hp x hx
        · rw [List.mem_singleton.1 hx]; exact ⟨hrep, hT⟩)
      refine ⟨qs, hcont _ (by rw [List.map_append] at hE; exact hE), h2, ?_, h4⟩
      rw [h3, List.flatMap_append, List.append_assoc]
      simp
theorem Rep.ne {t : List UInt8} {ns : List ByteArray} (h : Rep t ns) : t ≠ [] := by
  rcases h with ⟨h, _⟩ | ⟨P, a, b, hP, _, _, _, _, _, _, _, _, rfl, _⟩
  · exact h
  · intro e; exact hP (List.append_eq_nil_iff.1 e).1
theorem back (l : List ByteArray) (hg : ∀ b ∈ l, gN 20000 b) (hl : l.length ≤ 256) : ∃ t, Ev (fun k => host_Compress.f k l) t ∧ Ev (fun k => host_Expand.f k t) (l, 0, 0) := by
  obtain ⟨qs, hE, hq, hf, hql⟩ := comp_l0 l.length l [] rfl hg (by simp; omega) (by simp)
  rw [List.flatMap_nil, List.nil_append] at hf
  refine ⟨_, hE, ?_⟩
  have hj := join_le (qs.map fun x => L x.1) (by
    intro y hy
    obtain ⟨z, hz, rfl⟩ := List.mem_map.1 hy
    rw [L_length]; exact (hq z hz).2)
  rw [List.length_map] at hj
  have hm : qs.length * 60011 ≤ 1000 * 60011 := Nat.mul_le_mul_right _ hql
  cases hqs : qs with
  | nil =>
    rw [hqs] at hf
    simp only [List.flatMap_nil] at hf
    rw [← hf]
    exact expand_nil _ (by rw [L_mkB]; rfl)
  | cons x r =>
    rw [← hqs]
    have hsz : (mkB (Go.Lib.join (qs.map fun x => L x.1) [44])).size ≠ 0 := by
      rw [mkB_size]
      intro h0
      have h1 := (hq x (by rw [hqs]; simp)).1.ne
      have h2 := List.length_eq_zero_iff.1 h0
      rw [hqs] at h2
      cases r with
      | nil => simp [Go.Lib.join, List.intercalate] at h2; exact h1 h2
      | cons y r => simp [Go.Lib.join, List.intercalate] at h2
    have h := parts_ev (mkB (Go.Lib.join (qs.map fun x => L x.1) [44])) (by rw [mkB_size]; omega) (qs.map fun x => (L x.1, x.2)) [] 0 (by omega) (by rw [hqs]; simp) (by
      intro y hy
      obtain ⟨z, hz, rfl⟩ := List.mem_map.1 hy
      exact (hq z hz).1) (by rw [List.flatMap_map]; simp only [List.length_nil, Nat.zero_add]; rw [hf]; exact hl) (by rw [List.drop_zero, L_mkB, List.map_map]; rfl)
    rw [List.flatMap_map, List.nil_append] at h
    rw [← hf]
    exact expand_f _ hsz _ h
end Go.Proofs.YtoammgpfbdcphaaDoor.Hx
end
section
namespace Go.Proofs.YtoammgpfbdcphaaDoor.PH
open Go.RowKit Go.Proofs.YtoammgpfbdcphaaDoor.Lib Go.Proofs.YtoammgpfbdcphaaDoorW.PrintWords Go.Proofs.YtoammgpfbdcphaaDoorW.PrintLast Go.Proofs.YtoammgpfbdcphaaDoorW.PrintMore
attribute [local go_sem] max2_int min2_int max_two min_two max_three min_three max_four min_four   
set_option linter.unusedVariables false
set_option linter.unusedSimpArgs false
def marlinspikeref05_digit.f (a0 : Int) : Option (Bool) := if a0 ≥ 48 then (some (decide (a0 ≤ 57))) else (some false)
set_option maxHeartbeats 8000000 in
set_option maxRecDepth 100000 in
theorem marlinspikeref05_digit.calls (a0 : Int) (r : Bool) (w : World) (h : marlinspikeref05_digit.f a0 = some r) :
  Calls Tryd.prog 32 #[.int .u8 a0] w fun e w' => e = .returned (.bool r)∧Drawn0 w w':=by
 (have H : (if a0 ≥ 48 then (some (decide (a0 ≤ 57))) else (some false)) = some r:=h);(clear h);(by_cases c2 : a0 ≥ 48);·(rw [if_pos c2] at H);(have c2b0 : decide (48 ≤ a0) = true:=decide_eq_true c2);(clear c2);(obtain rfl:=Option.some.inj H);(go_enter Tryd.func32,Tryd.ntmps32);(go_wp2);(go_ret);(exact ⟨by first|rfl|(simp;done)|(simp [*];done),by repeat (first|exact Drawn0.refl _|apply Drawn0.step)⟩)
 ·(rw [if_neg c2] at H);(have c2b0 : decide (48 ≤ a0) = false:=decide_eq_false c2);(clear c2);(obtain rfl:=Option.some.inj H);(go_enter Tryd.func32,Tryd.ntmps32);(go_wp2);(go_ret);(exact ⟨by first|rfl|(simp;done)|(simp [*];done),by repeat (first|exact Drawn0.refl _|apply Drawn0.step)⟩)
def marlinspikeref05_bare.f (a0 : Int) : Option (Bool) := (marlinspikeref05_digit.f a0).bind fun t272 => (if t272 = true then (some true) else (if a0 ≥ 97 then (if a0 ≤ 122 then (some true) else (if a0 ≥ 65 then (if a0 ≤ 90 then (some true) else (if a0 = 45 then (some true) else (if a0 = 95 then (some true) else (some (a0 == 46))))) else (if a0 = 45 then (some true) else (if a0 = 95 then (some true) else (some (a0 == 46)))))) else (if a0 ≥ 65 then (if a0 ≤ 90 then (some true) else (if a0 = 45 then (some true) else (if a0 = 95 then (some true) else (some (a0 == 46))))) else (if a0 = 45 then (some true) else (if a0 = 95 then (some true) else (some (a0 == 46)))))))
set_option maxHeartbeats 8000000 in
set_option maxRecDepth 100000 in
theorem marlinspikeref05_bare.calls (a0 : Int) (r : Bool) (w : World) (h : marlinspikeref05_bare.f a0 = some r) :
  Calls Tryd.prog 19 #[.int .u8 a0] w fun e w' => e = .returned (.bool r)∧Drawn0 w w':=by
 (have H : ((marlinspikeref05_digit.f a0).bind fun t272 => (if t272 = true then (some true) else (if a0 ≥ 97 then (if a0 ≤ 122 then (some true) else (if a0 ≥ 65 then (if a0 ≤ 90 then (some true) else (if a0 = 45 then (some true) else (if a0 = 95 then (some true) else (some (a0 == 46))))) else (if a0 = 45 then (some true) else (if a0 = 95 then (some true) else (some (a0 == 46)))))) else (if a0 ≥ 65 then (if a0 ≤ 90 then (some true) else (if a0 = 45 then (some true) else (if a0 = 95 then (some true) else (some (a0 == 46))))) else (if a0 = 45 then (some true) else (if a0 = 95 then (some true) else (some (a0 == 46)))))))) = some r:=h);(clear h);(replace H:=Option.bind_eq_some_iff.mp H);(obtain ⟨t272,A20,H⟩:=H);(replace H : (if t272 = true then (some true) else (if a0 ≥ 97 then (if a0 ≤ 122 then (some true) else (if a0 ≥ 65 then (if a0 ≤ 90 then (some true) else (if a0 = 45 then (some true) else (if a0 = 95 then (some true) else (some (a0 == 46))))) else (if a0 = 45 then (some true) else (if a0 = 95 then (some true) else (some (a0 == 46)))))) else (if a0 ≥ 65 then (if a0 ≤ 90 then (some true) else (if a0 = 45 then (some true) else (if a0 = 95 then (some true) else (some (a0 == 46))))) else (if a0 = 45 then (some true) else (if a0 = 95 then (some true) else (some (a0 == 46))))))) = some r:=H);(have A2:=Aside0.mk A20);(clear A20);(by_cases c3 : t272 = true);·(subst c3);(have H1 : (some true) = some r:=by rw [if_pos rfl] at H;exact H);(clear H);(have H:=H1);(clear H1);(obtain rfl:=Option.some.inj H);(go_enter Tryd.func19,Tryd.ntmps19);(go_wp2_with (first|((with_reducible refine gate_callee (f:=32) rfl ?_);refine goesL_ (some 4) rfl rfl Tryd.func32 (by kernel_rfl) rfl #[.int .u8 a0] rfl (by (try simp only [List.map_toArray,List.map_cons,List.map_nil]);first|done|rfl|(simp only [List.length_drop,List.length_take];rfl)) ?_;(with_reducible refine (marlinspikeref05_digit.calls a0 true _ A2.out).mono ?_);rintro e w' ⟨rfl,⟨nd,rfl⟩⟩;refine ⟨_,rfl,?_⟩)));(go_ret);(exact ⟨by first|rfl|(simp;done)|(simp [*];done),by repeat (first|exact Drawn0.refl _|apply Drawn0.step)⟩)
 ·(replace c3:=Bool.eq_false_iff.mpr c3);(subst c3);(have H1 : (if a0 ≥ 97 then (if a0 ≤ 122 then (some true) else (if a0 ≥ 65 then (if a0 ≤ 90 then (some true) else (if a0 = 45 then (some true) else (if a0 = 95 then (some true) else (some (a0 == 46))))) else (if a0 = 45 then (some true) else (if a0 = 95 then (some true) else (some (a0 == 46)))))) else (if a0 ≥ 65 then (if a0 ≤ 90 then (some true) else (if a0 = 45 then (some true) else (if a0 = 95 then (some true) else (some (a0 == 46))))) else (if a0 = 45 then (some true) else (if a0 = 95 then (some true) else (some (a0 == 46)))))) = some r:=by rw [if_neg (show ¬ (false = true) by decide)] at H;exact H);(clear H);(have H:=H1);(clear H1);(by_cases c4 : a0 ≥ 97)
  ·(rw [if_pos c4] at H);(have c4b0 : decide (97 ≤ a0) = true:=decide_eq_true c4);(clear c4);(by_cases c5 : a0 ≤ 122)
   ·(rw [if_pos c5] at H);(have c5b0 : decide (a0 ≤ 122) = true:=decide_eq_true c5);(clear c5);(obtain rfl:=Option.some.inj H);(go_enter Tryd.func19,Tryd.ntmps19);(go_wp2_with (first|((with_reducible refine gate_callee (f:=32) rfl ?_);refine goesL_ (some 4) rfl rfl Tryd.func32 (by kernel_rfl) rfl #[.int .u8 a0] rfl (by (try simp only [List.map_toArray,List.map_cons,List.map_nil]);first|done|rfl|(simp only [List.length_drop,List.length_take];rfl)) ?_;(with_reducible refine (marlinspikeref05_digit.calls a0 false _ A2.out).mono ?_);rintro e w' ⟨rfl,⟨nd,rfl⟩⟩;refine ⟨_,rfl,?_⟩)));(go_ret);(exact ⟨by first|rfl|(simp;done)|(simp [*];done),by repeat (first|exact Drawn0.refl _|apply Drawn0.step)⟩)
   ·(rw [if_neg c5] at H);(have c5b0 : decide (a0 ≤ 122) = false:=decide_eq_false c5);(clear c5);(by_cases c6 : a0 ≥ 65)
    ·(rw [if_pos c6] at H);(have c6b0 : decide (65 ≤ a0) = true:=decide_eq_true c6);(clear c6);(by_cases c7 : a0 ≤ 90)
     ·(rw [if_pos c7] at H);(have c7b0 : decide (a0 ≤ 90) = true:=decide_eq_true c7);(clear c7);(obtain rfl:=Option.some.inj H);(go_enter Tryd.func19,Tryd.ntmps19);(go_wp2_with (first|((with_reducible refine gate_callee (f:=32) rfl ?_);refine goesL_ (some 4) rfl rfl Tryd.func32 (by kernel_rfl) rfl #[.int .u8 a0] rfl (by (try simp only [List.map_toArray,List.map_cons,List.map_nil]);first|done|rfl|(simp only [List.length_drop,List.length_take];rfl)) ?_;(with_reducible refine (marlinspikeref05_digit.calls a0 false _ A2.out).mono ?_);rintro e w' ⟨rfl,⟨nd,rfl⟩⟩;refine ⟨_,rfl,?_⟩)));(go_ret);(exact ⟨by first|rfl|(simp;done)|(simp [*];done),by repeat (first|exact Drawn0.refl _|apply Drawn0.step)⟩)
     ·(rw [if_neg c7] at H);(have c7b0 : decide (a0 ≤ 90) = false:=decide_eq_false c7);(clear c7);(by_cases c8 : a0 = 45)
      ·(rw [if_pos c8] at H);(have c8b0 : (a0 == 45) = true:=beq_iff_eq.mpr c8);(have c8b1 : (a0 != 45) = false:=bne_eq_false_iff_eq.mpr c8);(clear c8);(obtain rfl:=Option.some.inj H);(go_enter Tryd.func19,Tryd.ntmps19);(go_wp2_with (first|((with_reducible refine gate_callee (f:=32) rfl ?_);refine goesL_ (some 4) rfl rfl Tryd.func32 (by kernel_rfl) rfl #[.int .u8 a0] rfl (by (try simp only [List.map_toArray,List.map_cons,List.map_nil]);first|done|rfl|(simp only [List.length_drop,List.length_take];rfl)) ?_;(with_reducible refine (marlinspikeref05_digit.calls a0 false _ A2.out).mono ?_);rintro e w' ⟨rfl,⟨nd,rfl⟩⟩;refine ⟨_,rfl,?_⟩)));(go_ret);(exact ⟨by first|rfl|(simp;done)|(simp [*];done),by repeat (first|exact Drawn0.refl _|apply Drawn0.step)⟩)
      ·(rw [if_neg c8] at H);(have c8b0 : (a0 == 45) = false:=beq_eq_false_iff_ne.mpr c8);(have c8b1 : (a0 != 45) = true:=bne_iff_ne.mpr c8);(by_cases c9 : a0 = 95)
       ·(rw [if_pos c9] at H);(have c9b0 : (a0 == 95) = true:=beq_iff_eq.mpr c9);(have c9b1 : (a0 != 95) = false:=bne_eq_false_iff_eq.mpr c9);(clear c9);(obtain rfl:=Option.some.inj H);(go_enter Tryd.func19,Tryd.ntmps19);(go_wp2_with (first|((with_reducible refine gate_callee (f:=32) rfl ?_);refine goesL_ (some 4) rfl rfl Tryd.func32 (by kernel_rfl) rfl #[.int .u8 a0] rfl (by (try simp only [List.map_toArray,List.map_cons,List.map_nil]);first|done|rfl|(simp only [List.length_drop,List.length_take];rfl)) ?_;(with_reducible refine (marlinspikeref05_digit.calls a0 false _ A2.out).mono ?_);rintro e w' ⟨rfl,⟨nd,rfl⟩⟩;refine ⟨_,rfl,?_⟩)));(go_ret);(exact ⟨by first|rfl|(simp;done)|(simp [*];done),by repeat (first|exact Drawn0.refl _|apply Drawn0.step)⟩)
       ·(rw [if_neg c9] at H);(have c9b0 : (a0 == 95) = false:=beq_eq_false_iff_ne.mpr c9);(have c9b1 : (a0 != 95) = true:=bne_iff_ne.mpr c9);(obtain rfl:=Option.some.inj H);(go_enter Tryd.func19,Tryd.ntmps19);(go_wp2_with (first|((with_reducible refine gate_callee (f:=32) rfl ?_);refine goesL_ (some 4) rfl rfl Tryd.func32 (by kernel_rfl) rfl #[.int .u8 a0] rfl (by (try simp only [List.map_toArray,List.map_cons,List.map_nil]);first|done|rfl|(simp only [List.length_drop,List.length_take];rfl)) ?_;(with_reducible refine (marlinspikeref05_digit.calls a0 false _ A2.out).mono ?_);rintro e w' ⟨rfl,⟨nd,rfl⟩⟩;refine ⟨_,rfl,?_⟩)));(go_ret);(exact ⟨by first|rfl|(simp;done)|(simp [*];done),by repeat (first|exact Drawn0.refl _|apply Drawn0.step)⟩)
    ·(rw [if_neg c6] at H);(have c6b0 : decide (65 ≤ a0) = false:=decide_eq_false c6);(clear c6);(by_cases c10 : a0 = 45)
     ·(rw [if_pos c10] at H);(have c10b0 : (a0 == 45) = true:=beq_iff_eq.mpr c10);(have c10b1 : (a0 != 45) = false:=bne_eq_false_iff_eq.mpr c10);(clear c10);(obtain rfl:=Option.some.inj H);(go_enter Tryd.func19,Tryd.ntmps19);(go_wp2_with (first|((with_reducible refine gate_callee (f:=32) rfl ?_);refine goesL_ (some 4) rfl rfl Tryd.func32 (by kernel_rfl) rfl #[.int .u8 a0] rfl (by (try simp only [List.map_toArray,List.map_cons,List.map_nil]);first|done|rfl|(simp only [List.length_drop,List.length_take];rfl)) ?_;(with_reducible refine (marlinspikeref05_digit.calls a0 false _ A2.out).mono ?_);rintro e w' ⟨rfl,⟨nd,rfl⟩⟩;refine ⟨_,rfl,?_⟩)));(go_ret);(exact ⟨by first|rfl|(simp;done)|(simp [*];done),by repeat (first|exact Drawn0.refl _|apply Drawn0.step)⟩)
     ·(rw [if_neg c10] at H);(have c10b0 : (a0 == 45) = false:=beq_eq_false_iff_ne.mpr c10);(have c10b1 : (a0 != 45) = true:=bne_iff_ne.mpr c10);(by_cases c11 : a0 = 95)
      ·(rw [if_pos c11] at H);(have c11b0 : (a0 == 95) = true:=beq_iff_eq.mpr c11);(have c11b1 : (a0 != 95) = false:=bne_eq_false_iff_eq.mpr c11);(clear c11);(obtain rfl:=Option.some.inj H);(go_enter Tryd.func19,Tryd.ntmps19);(go_wp2_with (first|((with_reducible refine gate_callee (f:=32) rfl ?_);refine goesL_ (some 4) rfl rfl Tryd.func32 (by kernel_rfl) rfl #[.int .u8 a0] rfl (by (try simp only [List.map_toArray,List.map_cons,List.map_nil]);first|done|rfl|(simp only [List.length_drop,List.length_take];rfl)) ?_;(with_reducible refine (marlinspikeref05_digit.calls a0 false _ A2.out).mono ?_);rintro e w' ⟨rfl,⟨nd,rfl⟩⟩;refine ⟨_,rfl,?_⟩)));(go_ret);(exact ⟨by first|rfl|(simp;done)|(simp [*];done),by repeat (first|exact Drawn0.refl _|apply Drawn0.step)⟩)
      ·(rw [if_neg c11] at H);(have c11b0 : (a0 == 95) = false:=beq_eq_false_iff_ne.mpr c11);(have c11b1 : (a0 != 95) = true:=bne_iff_ne.mpr c11);(obtain rfl:=Option.some.inj H);(go_enter Tryd.func19,Tryd.ntmps19);(go_wp2_with (first|((with_reducible refine gate_callee (f:=32) rfl ?_);refine goesL_ (some 4) rfl rfl Tryd.func32 (by kernel_rfl) rfl #[.int .u8 a0] rfl (by (try simp only [List.map_toArray,List.map_cons,List.map_nil]);first|done|rfl|(simp only [List.length_drop,List.length_take];rfl)) ?_;(with_reducible refine (marlinspikeref05_digit.calls a0 false _ A2.out).mono ?_);rintro e w' ⟨rfl,⟨nd,rfl⟩⟩;refine ⟨_,rfl,?_⟩)));(go_ret);(exact ⟨by first|rfl|(simp;done)|(simp [*];done),by repeat (first|exact Drawn0.refl _|apply Drawn0.step)⟩)
  ·(rw [if_neg c4] at H);(have c4b0 : decide (97 ≤ a0) = false:=decide_eq_false c4);(clear c4);(by_cases c12 : a0 ≥ 65)
   ·(rw [if_pos c12] at H);(have c12b0 : decide (65 ≤ a0) = true:=decide_eq_true c12);(clear c12);(by_cases c13 : a0 ≤ 90)
    ·(rw [if_pos c13] at H);(have c13b0 : decide (a0 ≤ 90) = true:=decide_eq_true c13);(clear c13);(obtain rfl:=Option.some.inj H);(go_enter Tryd.func19,Tryd.ntmps19);(go_wp2_with (first|((with_reducible refine gate_callee (f:=32) rfl ?_);refine goesL_ (some 4) rfl rfl Tryd.func32 (by kernel_rfl) rfl #[.int .u8 a0] rfl (by (try simp only [List.map_toArray,List.map_cons,List.map_nil]);first|done|rfl|(simp only [List.length_drop,List.length_take];rfl)) ?_;(with_reducible refine (marlinspikeref05_digit.calls a0 false _ A2.out).mono ?_);rintro e w' ⟨rfl,⟨nd,rfl⟩⟩;refine ⟨_,rfl,?_⟩)));(go_ret);(exact ⟨by first|rfl|(simp;done)|(simp [*];done),by repeat (first|exact Drawn0.refl _|apply Drawn0.step)⟩)
    ·(rw [if_neg c13] at H);(have c13b0 : decide (a0 ≤ 90) = false:=decide_eq_false c13);(clear c13);(by_cases c14 : a0 = 45)
     ·(rw [if_pos c14] at H);(have c14b0 : (a0 == 45) = true:=beq_iff_eq.mpr c14);(have c14b1 : (a0 != 45) = false:=bne_eq_false_iff_eq.mpr c14);(clear c14);(obtain rfl:=Option.some.inj H);(go_enter Tryd.func19,Tryd.ntmps19);(go_wp2_with (first|((with_reducible refine gate_callee (f:=32) rfl ?_);refine goesL_ (some 4) rfl rfl Tryd.func32 (by kernel_rfl) rfl #[.int .u8 a0] rfl (by (try simp only [List.map_toArray,List.map_cons,List.map_nil]);first|done|rfl|(simp only [List.length_drop,List.length_take];rfl)) ?_;(with_reducible refine (marlinspikeref05_digit.calls a0 false _ A2.out).mono ?_);rintro e w' ⟨rfl,⟨nd,rfl⟩⟩;refine ⟨_,rfl,?_⟩)));(go_ret);(exact ⟨by first|rfl|(simp;done)|(simp [*];done),by repeat (first|exact Drawn0.refl _|apply Drawn0.step)⟩)
     ·(rw [if_neg c14] at H);(have c14b0 : (a0 == 45) = false:=beq_eq_false_iff_ne.mpr c14);(have c14b1 : (a0 != 45) = true:=bne_iff_ne.mpr c14);(by_cases c15 : a0 = 95)
      ·(rw [if_pos c15] at H);(have c15b0 : (a0 == 95) = true:=beq_iff_eq.mpr c15);(have c15b1 : (a0 != 95) = false:=bne_eq_false_iff_eq.mpr c15);(clear c15);(obtain rfl:=Option.some.inj H);(go_enter Tryd.func19,Tryd.ntmps19);(go_wp2_with (first|((with_reducible refine gate_callee (f:=32) rfl ?_);refine goesL_ (some 4) rfl rfl Tryd.func32 (by kernel_rfl) rfl #[.int .u8 a0] rfl (by (try simp only [List.map_toArray,List.map_cons,List.map_nil]);first|done|rfl|(simp only [List.length_drop,List.length_take];rfl)) ?_;(with_reducible refine (marlinspikeref05_digit.calls a0 false _ A2.out).mono ?_);rintro e w' ⟨rfl,⟨nd,rfl⟩⟩;refine ⟨_,rfl,?_⟩)));(go_ret);(exact ⟨by first|rfl|(simp;done)|(simp [*];done),by repeat (first|exact Drawn0.refl _|apply Drawn0.step)⟩)
      ·(rw [if_neg c15] at H);(have c15b0 : (a0 == 95) = false:=beq_eq_false_iff_ne.mpr c15);(have c15b1 : (a0 != 95) = true:=bne_iff_ne.mpr c15);(obtain rfl:=Option.some.inj H);(go_enter Tryd.func19,Tryd.ntmps19);(go_wp2_with (first|((with_reducible refine gate_callee (f:=32) rfl ?_);refine goesL_ (some 4) rfl rfl Tryd.func32 (by kernel_rfl) rfl #[.int .u8 a0] rfl (by (try simp only [List.map_toArray,List.map_cons,List.map_nil]);first|done|rfl|(simp only [List.length_drop,List.length_take];rfl)) ?_;(with_reducible refine (marlinspikeref05_digit.calls a0 false _ A2.out).mono ?_);rintro e w' ⟨rfl,⟨nd,rfl⟩⟩;refine ⟨_,rfl,?_⟩)));(go_ret);(exact ⟨by first|rfl|(simp;done)|(simp [*];done),by repeat (first|exact Drawn0.refl _|apply Drawn0.step)⟩)
   ·(rw [if_neg c12] at H);(have c12b0 : decide (65 ≤ a0) = false:=decide_eq_false c12);(clear c12);(by_cases c16 : a0 = 45)
    ·(rw [if_pos c16] at H);(have c16b0 : (a0 == 45) = true:=beq_iff_eq.mpr c16);(have c16b1 : (a0 != 45) = false:=bne_eq_false_iff_eq.mpr c16);(clear c16);(obtain rfl:=Option.some.inj H);(go_enter Tryd.func19,Tryd.ntmps19);(go_wp2_with (first|((with_reducible refine gate_callee (f:=32) rfl ?_);refine goesL_ (some 4) rfl rfl Tryd.func32 (by kernel_rfl) rfl #[.int .u8 a0] rfl (by (try simp only [List.map_toArray,List.map_cons,List.map_nil]);first|done|rfl|(simp only [List.length_drop,List.length_take];rfl)) ?_;(with_reducible refine (marlinspikeref05_digit.calls a0 false _ A2.out).mono ?_);rintro e w' ⟨rfl,⟨nd,rfl⟩⟩;refine ⟨_,rfl,?_⟩)));(go_ret);(exact ⟨by first|rfl|(simp;done)|(simp [*];done),by repeat (first|exact Drawn0.refl _|apply Drawn0.step)⟩)
    ·(rw [if_neg c16] at H);(have c16b0 : (a0 == 45) = false:=beq_eq_false_iff_ne.mpr c16);(have c16b1 : (a0 != 45) = true:=bne_iff_ne.mpr c16);(by_cases c17 : a0 = 95)
     ·(rw [if_pos c17] at H);(have c17b0 : (a0 == 95) = true:=beq_iff_eq.mpr c17);(have c17b1 : (a0 != 95) = false:=bne_eq_false_iff_eq.mpr c17);(clear c17);(obtain rfl:=Option.some.inj H);(go_enter Tryd.func19,Tryd.ntmps19);(go_wp2_with (first|((with_reducible refine gate_callee (f:=32) rfl ?_);refine goesL_ (some 4) rfl rfl Tryd.func32 (by kernel_rfl) rfl #[.int .u8 a0] rfl (by (try simp only [List.map_toArray,List.map_cons,List.map_nil]);first|done|rfl|(simp only [List.length_drop,List.length_take];rfl)) ?_;(with_reducible refine (marlinspikeref05_digit.calls a0 false _ A2.out).mono ?_);rintro e w' ⟨rfl,⟨nd,rfl⟩⟩;refine ⟨_,rfl,?_⟩)));(go_ret);(exact ⟨by first|rfl|(simp;done)|(simp [*];done),by repeat (first|exact Drawn0.refl _|apply Drawn0.step)⟩)
     ·(rw [if_neg c17] at H);(have c17b0 : (a0 == 95) = false:=beq_eq_false_iff_ne.mpr c17);(have c17b1 : (a0 != 95) = true:=bne_iff_ne.mpr c17);(obtain rfl:=Option.some.inj H);(go_enter Tryd.func19,Tryd.ntmps19);(go_wp2_with (first|((with_reducible refine gate_callee (f:=32) rfl ?_);refine goesL_ (some 4) rfl rfl Tryd.func32 (by kernel_rfl) rfl #[.int .u8 a0] rfl (by (try simp only [List.map_toArray,List.map_cons,List.map_nil]);first|done|rfl|(simp only [List.length_drop,List.length_take];rfl)) ?_;(with_reducible refine (marlinspikeref05_digit.calls a0 false _ A2.out).mono ?_);rintro e w' ⟨rfl,⟨nd,rfl⟩⟩;refine ⟨_,rfl,?_⟩)));(go_ret);(exact ⟨by first|rfl|(simp;done)|(simp [*];done),by repeat (first|exact Drawn0.refl _|apply Drawn0.step)⟩)
def IsS42 (w0 W : World) (g : Nat) (f0 : ByteArray) (f1 : Int) (f2 : Int) (f3 : Int) : Prop := W.heap[g]? = some (.cells #[.string f0, .int .i64 f1, .int .i64 f2, .int .i64 f3] 42 (0, 0)) ∧ w0.heap.size ≤ g
theorem IsS42.grown {w0 W : World} {g : Nat} {f0 : ByteArray} {f1 : Int} {f2 : Int} {f3 : Int} {W1 : World} {row : Option Nat} (h : IsS42 w0 W g f0 f1 f2 f3) (hw : W.grownBy W1 row) (hne : some g ≠ row) : IsS42 w0 W1 g f0 f1 f2 f3:=by
 (obtain ⟨hb,hg⟩:=h);(exact ⟨blk_grown hb hw hne,hg⟩)
theorem IsS42.kept {w0 W : World} {g : Nat} {f0 : ByteArray} {f1 : Int} {f2 : Int} {f3 : Int} {W1 : World} {S : Nat → Prop} (h : IsS42 w0 W g f0 f1 f2 f3) (hk : Kept W W1 S) (hne : ¬ S g) : IsS42 w0 W1 g f0 f1 f2 f3:=by
 (obtain ⟨hb,hg⟩:=h);(exact ⟨blk_kept hb hk hne,hg⟩)
theorem IsS42.below {w0 W : World} {g : Nat} {f0 : ByteArray} {f1 : Int} {f2 : Int} {f3 : Int} {W1 : World} (h : IsS42 w0 W g f0 f1 f2 f3) (hw : Below W.heap.size W W1) : IsS42 w0 W1 g f0 f1 f2 f3:=h.grown (grown_of_below hw none) (by simp)
theorem IsS42.alloc {w0 W : World} {g : Nat} {f0 : ByteArray} {f1 : Int} {f2 : Int} {f3 : Int} (h : IsS42 w0 W g f0 f1 f2 f3) (o : Obj) : IsS42 w0 (W.alloc o) g f0 f1 f2 f3:=h.below (below_alloc (Below.refl _ _) o)
theorem IsS42.drewN {w0 W : World} {g : Nat} {f0 : ByteArray} {f1 : Int} {f2 : Int} {f3 : Int} (h : IsS42 w0 W g f0 f1 f2 f3) (m : Nat) : IsS42 w0 (W.drewN m) g f0 f1 f2 f3:=h
theorem IsS42.drew {w0 W : World} {g : Nat} {f0 : ByteArray} {f1 : Int} {f2 : Int} {f3 : Int} (h : IsS42 w0 W g f0 f1 f2 f3) : IsS42 w0 W.drew g f0 f1 f2 f3:=h
theorem IsS42.at_ {w0 W : World} {g : Nat} {f0 : ByteArray} {f1 : Int} {f2 : Int} {f3 : Int} {w' : World} {m : Nat} (hq : W.drewN m = w') (h : IsS42 w0 W g f0 f1 f2 f3) : IsS42 w0 w' g f0 f1 f2 f3:=by subst hq;exact IsS42.drewN h m
theorem IsS42.apart {w0 W : World} {g : Nat} {f0 : ByteArray} {f1 : Int} {f2 : Int} {f3 : Int} {α : Type} {d : Kd α} {e : Nat} {base : Nat} {ok : Nat → Prop} {v : Value} {xs : List α} (h : IsS42 w0 W g f0 f1 f2 f3) (ho : d.R e W base ok v xs) (ht : ∀ q,q ∈ e :: d.E → q ≠ 42) : d.R e W base (fun k => ok k∧k ≠ g) v xs:=by
 (obtain ⟨hb,hg⟩:=h);(exact Kd.R_types ho hb ht)
theorem IsS42.own_ne {w0 W : World} {g : Nat} {f0 : ByteArray} {f1 : Int} {f2 : Int} {f3 : Int} {α : Type} {d : Kd α} {e : Nat} {base : Nat} {ok : Nat → Prop} {v : Value} {xs : List α} (h : IsS42 w0 W g f0 f1 f2 f3) (ho : d.R e W base ok v xs) (ht : e ≠ 42) : some g ≠ v.ownBlock:=by
 (obtain ⟨hb,hg⟩:=h);(exact Kd.R_ne ho hb ht)
theorem IsS42.lt {w0 W : World} {g : Nat} {f0 : ByteArray} {f1 : Int} {f2 : Int} {f3 : Int} (h : IsS42 w0 W g f0 f1 f2 f3) : g < W.heap.size:=by
 (obtain ⟨hb,hg⟩:=h);(exact blk_lt hb)
theorem IsS42.ge {w0 W : World} {g : Nat} {f0 : ByteArray} {f1 : Int} {f2 : Int} {f3 : Int} (h : IsS42 w0 W g f0 f1 f2 f3) : w0.heap.size ≤ g:=by
 (obtain ⟨hb,hg⟩:=h);(exact hg)
theorem IsS42.far {w0 W : World} {g : Nat} {f0 : ByteArray} {f1 : Int} {f2 : Int} {f3 : Int} {p : Addr} (h : IsS42 w0 W g f0 f1 f2 f3) (hne : g ≠ p.block) (u : Value) : IsS42 w0 (W.setCell p u) g f0 f1 f2 f3:=by
 (obtain ⟨hb,hg⟩:=h);(exact ⟨blk_far hb hne u,hg⟩)
theorem cellS42_0 {W : World} {g : Nat} {f0 : ByteArray} {f1 : Int} {f2 : Int} {f3 : Int} (h : W.heap[g]? = some (.cells #[.string f0,.int .i64 f1,.int .i64 f2,.int .i64 f3] 42 (0,0))) : W.cell? ⟨g,0,none⟩ = some (.string f0):=(blk_cell h 0).trans rfl
theorem IsS42.set_0 {w0 W : World} {g : Nat} {f0 : ByteArray} {f1 : Int} {f2 : Int} {f3 : Int} (h : IsS42 w0 W g f0 f1 f2 f3) (x : ByteArray) : IsS42 w0 (W.setCell ⟨g,0,none⟩ (.string x)) g x f1 f2 f3:=by
 (obtain ⟨hb,hg⟩:=h);(exact ⟨by simpa using blk_set hb 0 (.string x),hg⟩)
theorem cellS42_1 {W : World} {g : Nat} {f0 : ByteArray} {f1 : Int} {f2 : Int} {f3 : Int} (h : W.heap[g]? = some (.cells #[.string f0,.int .i64 f1,.int .i64 f2,.int .i64 f3] 42 (0,0))) : W.cell? ⟨g,1,none⟩ = some (.int .i64 f1):=(blk_cell h 1).trans rfl
theorem IsS42.set_1 {w0 W : World} {g : Nat} {f0 : ByteArray} {f1 : Int} {f2 : Int} {f3 : Int} (h : IsS42 w0 W g f0 f1 f2 f3) (x : Int) : IsS42 w0 (W.setCell ⟨g,1,none⟩ (.int .i64 x)) g f0 x f2 f3:=by
 (obtain ⟨hb,hg⟩:=h);(exact ⟨by simpa using blk_set hb 1 (.int .i64 x),hg⟩)
theorem cellS42_2 {W : World} {g : Nat} {f0 : ByteArray} {f1 : Int} {f2 : Int} {f3 : Int} (h : W.heap[g]? = some (.cells #[.string f0,.int .i64 f1,.int .i64 f2,.int .i64 f3] 42 (0,0))) : W.cell? ⟨g,2,none⟩ = some (.int .i64 f2):=(blk_cell h 2).trans rfl
theorem IsS42.set_2 {w0 W : World} {g : Nat} {f0 : ByteArray} {f1 : Int} {f2 : Int} {f3 : Int} (h : IsS42 w0 W g f0 f1 f2 f3) (x : Int) : IsS42 w0 (W.setCell ⟨g,2,none⟩ (.int .i64 x)) g f0 f1 x f3:=by
 (obtain ⟨hb,hg⟩:=h);(exact ⟨by simpa using blk_set hb 2 (.int .i64 x),hg⟩)
theorem cellS42_3 {W : World} {g : Nat} {f0 : ByteArray} {f1 : Int} {f2 : Int} {f3 : Int} (h : W.heap[g]? = some (.cells #[.string f0,.int .i64 f1,.int .i64 f2,.int .i64 f3] 42 (0,0))) : W.cell? ⟨g,3,none⟩ = some (.int .i64 f3):=(blk_cell h 3).trans rfl
theorem IsS42.set_3 {w0 W : World} {g : Nat} {f0 : ByteArray} {f1 : Int} {f2 : Int} {f3 : Int} (h : IsS42 w0 W g f0 f1 f2 f3) (x : Int) : IsS42 w0 (W.setCell ⟨g,3,none⟩ (.int .i64 x)) g f0 f1 f2 x:=by
 (obtain ⟨hb,hg⟩:=h);(exact ⟨by simpa using blk_set hb 3 (.int .i64 x),hg⟩)
def marlinspikeref05_reader_peek.f (s0_0 : ByteArray) (s0_1 : Int) (s0_2 : Int) (s0_3 : Int) : Option (Int × ByteArray × Int × Int × Int) := if s0_1 ≥ (s0_0.size : Int) then (some (0, s0_0, s0_1, s0_2, s0_3)) else (if s0_2 = 0 then (if 0 ≤ s0_1 then (if s0_1 < (s0_0.size : Int) then (some (bt s0_0 s0_1, s0_0, s0_1, s0_2, s0_3)) else (none)) else (none)) else (some (0, s0_0, s0_1, s0_2, s0_3)))
set_option maxHeartbeats 8000000 in
set_option maxRecDepth 100000 in
theorem marlinspikeref05_reader_peek.calls (g : Nat) (s0_0 : ByteArray) (s0_1 : Int) (s0_2 : Int) (s0_3 : Int) (r1 : Int) (r2 : ByteArray) (r3 : Int) (r4 : Int) (r5 : Int) (w0 w : World) (hI : IsS42 w0 w g s0_0 s0_1 s0_2 s0_3) (hB : Below w0.heap.size w0 w) (h : marlinspikeref05_reader_peek.f s0_0 s0_1 s0_2 s0_3 = some (r1,r2,r3,r4,r5)) :
  Calls Tryd.prog 20 #[.pointer (some ⟨g,0,none⟩)] w fun e w' => e = .returned (.int .u8 r1)∧IsS42 w0 w' g r2 r3 r4 r5∧Below w0.heap.size w0 w'∧KeepBut w w' g none:=by
 (have HI0:=Aside0.mk hI);(have HK:=Aside0.mk (KeepBut.refl w g none));(have HL:=Aside0.mk hB.size);(clear hI);(have HW0:=Aside0.mk hB.size);(have HB:=Aside0.mk hB);(clear hB);(have H : (if s0_1 ≥ (s0_0.size : Int) then (some (0,s0_0,s0_1,s0_2,s0_3)) else (if s0_2 = 0 then (if 0 ≤ s0_1 then (if s0_1 < (s0_0.size : Int) then (some (bt s0_0 s0_1,s0_0,s0_1,s0_2,s0_3)) else (none)) else (none)) else (some (0,s0_0,s0_1,s0_2,s0_3)))) = some (r1,r2,r3,r4,r5):=h);(clear h);(by_cases c2 : s0_1 ≥ (s0_0.size : Int))
 ·(rw [if_pos c2] at H);(have c2b0 : decide ((s0_0.size : Int) ≤ s0_1) = true:=decide_eq_true c2);(clear c2);(simp only [Option.some.injEq,Prod.mk.injEq] at H);(obtain ⟨rfl,rfl,rfl,rfl,rfl⟩:=H);(obtain ⟨HGz3,hgz3⟩:=HI0.out);(have hcz3_0:=cellS42_0 HGz3);(have hcz3_1:=cellS42_1 HGz3);(have hcz3_2:=cellS42_2 HGz3);(have hcz3_3:=cellS42_3 HGz3);(have hfz3_0:=blk_frozen HGz3 0);(have hfz3_1:=blk_frozen HGz3 1);(have hfz3_2:=blk_frozen HGz3 2);(have hfz3_3:=blk_frozen HGz3 3);(clear HGz3 hgz3);(go_enter Tryd.func20,Tryd.ntmps20);(go_wp2)
  repeat (go_quiet (fail);try go_wp2)
  (go_ret);(exact ⟨by first|rfl|(simp [errW_none,errW_some] <;> rfl)|(simp [*,errW_none,errW_some] <;> rfl),by repeat (first|(with_reducible first|exact HI0.out|apply IsS42.alloc|apply IsS42.drewN|apply IsS42.drew|apply IsS42.set_0|apply IsS42.set_1|apply IsS42.set_2|apply IsS42.set_3)|exact HI0.out),by repeat (first|(with_reducible first|exact HB.out|apply below_alloc|apply pw_below_drewN|apply below_drew1|refine below_set ?_ (IsS42.ge HI0.out))|exact HB.out),by repeat (first|(with_reducible first|exact HK.out|apply KeepBut.set_|apply keep_drewN|apply keep_drew|apply keep_alloc)|exact HK.out)⟩)
 ·(rw [if_neg c2] at H);(have c2b0 : decide ((s0_0.size : Int) ≤ s0_1) = false:=decide_eq_false c2);(clear c2);(by_cases c4 : s0_2 = 0)
  ·(rw [if_pos c4] at H);(have c4b0 : (s0_2 == 0) = true:=beq_iff_eq.mpr c4);(have c4b1 : (s0_2 != 0) = false:=bne_eq_false_iff_eq.mpr c4);(clear c4);(by_cases c5 : 0 ≤ s0_1)
   ·(rw [if_pos c5] at H);(have c5b0 : decide (0 ≤ s0_1) = true:=decide_eq_true c5);(clear c5);(by_cases c6 : s0_1 < (s0_0.size : Int))
    ·(rw [if_pos c6] at H);(have c6b0 : decide (s0_1 < (s0_0.size : Int)) = true:=decide_eq_true c6);(clear c6);(simp only [Option.some.injEq,Prod.mk.injEq] at H);(obtain ⟨rfl,rfl,rfl,rfl,rfl⟩:=H);(obtain ⟨HGz8,hgz8⟩:=HI0.out);(have hcz8_0:=cellS42_0 HGz8);(have hcz8_1:=cellS42_1 HGz8);(have hcz8_2:=cellS42_2 HGz8);(have hcz8_3:=cellS42_3 HGz8);(have hfz8_0:=blk_frozen HGz8 0);(have hfz8_1:=blk_frozen HGz8 1);(have hfz8_2:=blk_frozen HGz8 2);(have hfz8_3:=blk_frozen HGz8 3);(clear HGz8 hgz8);(have p7 : 0 ≤ (s0_1 : Int):=of_decide_eq_true (by first|(with_reducible assumption)|assumption));(have q7 : s0_1 < (s0_0.size : Int):=of_decide_eq_true (by first|(with_reducible assumption)|assumption));(have hx7:=bt_at s0_0 s0_1);(replace p7:=eq_true p7);(replace q7:=eq_true q7);(go_enter Tryd.func20,Tryd.ntmps20);(go_wp2)
     repeat (go_quiet (fail);try go_wp2)
     (go_ret);(exact ⟨by first|rfl|(simp [errW_none,errW_some] <;> rfl)|(simp [*,errW_none,errW_some] <;> rfl),by repeat (first|(with_reducible first|exact HI0.out|apply IsS42.alloc|apply IsS42.drewN|apply IsS42.drew|apply IsS42.set_0|apply IsS42.set_1|apply IsS42.set_2|apply IsS42.set_3)|exact HI0.out),by repeat (first|(with_reducible first|exact HB.out|apply below_alloc|apply pw_below_drewN|apply below_drew1|refine below_set ?_ (IsS42.ge HI0.out))|exact HB.out),by repeat (first|(with_reducible first|exact HK.out|apply KeepBut.set_|apply keep_drewN|apply keep_drew|apply keep_alloc)|exact HK.out)⟩)
    ·(rw [if_neg c6] at H);(exact absurd H (by simp))
   ·(rw [if_neg c5] at H);(exact absurd H (by simp))
  ·(rw [if_neg c4] at H);(have c4b0 : (s0_2 == 0) = false:=beq_eq_false_iff_ne.mpr c4);(have c4b1 : (s0_2 != 0) = true:=bne_iff_ne.mpr c4);(simp only [Option.some.injEq,Prod.mk.injEq] at H);(obtain ⟨rfl,rfl,rfl,rfl,rfl⟩:=H);(obtain ⟨HGz9,hgz9⟩:=HI0.out);(have hcz9_0:=cellS42_0 HGz9);(have hcz9_1:=cellS42_1 HGz9);(have hcz9_2:=cellS42_2 HGz9);(have hcz9_3:=cellS42_3 HGz9);(have hfz9_0:=blk_frozen HGz9 0);(have hfz9_1:=blk_frozen HGz9 1);(have hfz9_2:=blk_frozen HGz9 2);(have hfz9_3:=blk_frozen HGz9 3);(clear HGz9 hgz9);(go_enter Tryd.func20,Tryd.ntmps20);(go_wp2)
   repeat (go_quiet (fail);try go_wp2)
   (go_ret);(exact ⟨by first|rfl|(simp [errW_none,errW_some] <;> rfl)|(simp [*,errW_none,errW_some] <;> rfl),by repeat (first|(with_reducible first|exact HI0.out|apply IsS42.alloc|apply IsS42.drewN|apply IsS42.drew|apply IsS42.set_0|apply IsS42.set_1|apply IsS42.set_2|apply IsS42.set_3)|exact HI0.out),by repeat (first|(with_reducible first|exact HB.out|apply below_alloc|apply pw_below_drewN|apply below_drew1|refine below_set ?_ (IsS42.ge HI0.out))|exact HB.out),by repeat (first|(with_reducible first|exact HK.out|apply KeepBut.set_|apply keep_drewN|apply keep_drew|apply keep_alloc)|exact HK.out)⟩)
def marlinspikeref05_reader_wrong.f (s0_0 : ByteArray) (s0_1 : Int) (s0_2 : Int) (s0_3 : Int) (a1 : Int) : Option (ByteArray × Int × Int × Int) := if s0_2 = 0 then (if a1 ≥ (s0_0.size : Int) then (some (s0_0, s0_1, 4, a1)) else (some (s0_0, s0_1, 3, a1))) else (some (s0_0, s0_1, s0_2, s0_3))
set_option maxHeartbeats 8000000 in
set_option maxRecDepth 100000 in
theorem marlinspikeref05_reader_wrong.calls (g : Nat) (s0_0 : ByteArray) (s0_1 : Int) (s0_2 : Int) (s0_3 : Int) (a1 : Int) (r1 : ByteArray) (r2 : Int) (r3 : Int) (r4 : Int) (w0 w : World) (hI : IsS42 w0 w g s0_0 s0_1 s0_2 s0_3) (hB : Below w0.heap.size w0 w) (h : marlinspikeref05_reader_wrong.f s0_0 s0_1 s0_2 s0_3 a1 = some (r1,r2,r3,r4)) :
  Calls Tryd.prog 21 #[.pointer (some ⟨g,0,none⟩),.int .i64 a1] w fun e w' => e = .returned (.tuple #[])∧IsS42 w0 w' g r1 r2 r3 r4∧Below w0.heap.size w0 w'∧KeepBut w w' g none:=by
 (have hu27:=Tryd.underlying27);(have HI0:=Aside0.mk hI);(have HK:=Aside0.mk (KeepBut.refl w g none));(have HL:=Aside0.mk hB.size);(clear hI);(have HW0:=Aside0.mk hB.size);(have HB:=Aside0.mk hB);(clear hB);(have H : (if s0_2 = 0 then (if a1 ≥ (s0_0.size : Int) then (some (s0_0,s0_1,4,a1)) else (some (s0_0,s0_1,3,a1))) else (some (s0_0,s0_1,s0_2,s0_3))) = some (r1,r2,r3,r4):=h);(clear h);(by_cases c3 : s0_2 = 0)
 ·(rw [if_pos c3] at H);(have c3b0 : (s0_2 == 0) = true:=beq_iff_eq.mpr c3);(have c3b1 : (s0_2 != 0) = false:=bne_eq_false_iff_eq.mpr c3);(clear c3);(by_cases c4 : a1 ≥ (s0_0.size : Int))
  ·(rw [if_pos c4] at H);(have c4b0 : decide ((s0_0.size : Int) ≤ a1) = true:=decide_eq_true c4);(clear c4);(simp only [Option.some.injEq,Prod.mk.injEq] at H);(obtain ⟨rfl,rfl,rfl,rfl⟩:=H);(obtain ⟨HGz5,hgz5⟩:=HI0.out);(have hcz5_0:=cellS42_0 HGz5);(have hcz5_1:=cellS42_1 HGz5);(have hcz5_2:=cellS42_2 HGz5);(have hcz5_3:=cellS42_3 HGz5);(have hfz5_0:=blk_frozen HGz5 0);(have hfz5_1:=blk_frozen HGz5 1);(have hfz5_2:=blk_frozen HGz5 2);(have hfz5_3:=blk_frozen HGz5 3);(clear HGz5 hgz5);(go_enter Tryd.func21,Tryd.ntmps21);(go_wp2)
   first|go_end0|((try simp only [Exit.inBlock,Exit.then]);refine bodyPost_ret (results_none rfl _ _ _) rfl ?_)
   (exact ⟨by first|rfl|(simp [errW_none,errW_some] <;> rfl)|(simp [*,errW_none,errW_some] <;> rfl),by repeat (first|(with_reducible first|exact HI0.out|apply IsS42.alloc|apply IsS42.drewN|apply IsS42.drew|apply IsS42.set_0|apply IsS42.set_1|apply IsS42.set_2|apply IsS42.set_3)|exact HI0.out),by repeat (first|(with_reducible first|exact HB.out|apply below_alloc|apply pw_below_drewN|apply below_drew1|refine below_set ?_ (IsS42.ge HI0.out))|exact HB.out),by repeat (first|(with_reducible first|exact HK.out|apply KeepBut.set_|apply keep_drewN|apply keep_drew|apply keep_alloc)|exact HK.out)⟩)
  ·(rw [if_neg c4] at H);(have c4b0 : decide ((s0_0.size : Int) ≤ a1) = false:=decide_eq_false c4);(clear c4);(simp only [Option.some.injEq,Prod.mk.injEq] at H);(obtain ⟨rfl,rfl,rfl,rfl⟩:=H);(obtain ⟨HGz6,hgz6⟩:=HI0.out);(have hcz6_0:=cellS42_0 HGz6);(have hcz6_1:=cellS42_1 HGz6);(have hcz6_2:=cellS42_2 HGz6);(have hcz6_3:=cellS42_3 HGz6);(have hfz6_0:=blk_frozen HGz6 0);(have hfz6_1:=blk_frozen HGz6 1);(have hfz6_2:=blk_frozen HGz6 2);(have hfz6_3:=blk_frozen HGz6 3);(clear HGz6 hgz6);(go_enter Tryd.func21,Tryd.ntmps21);(go_wp2)
   first|go_end0|((try simp only [Exit.inBlock,Exit.then]);refine bodyPost_ret (results_none rfl _ _ _) rfl ?_)
   (exact ⟨by first|rfl|(simp [errW_none,errW_some] <;> rfl)|(simp [*,errW_none,errW_some] <;> rfl),by repeat (first|(with_reducible first|exact HI0.out|apply IsS42.alloc|apply IsS42.drewN|apply IsS42.drew|apply IsS42.set_0|apply IsS42.set_1|apply IsS42.set_2|apply IsS42.set_3)|exact HI0.out),by repeat (first|(with_reducible first|exact HB.out|apply below_alloc|apply pw_below_drewN|apply below_drew1|refine below_set ?_ (IsS42.ge HI0.out))|exact HB.out),by repeat (first|(with_reducible first|exact HK.out|apply KeepBut.set_|apply keep_drewN|apply keep_drew|apply keep_alloc)|exact HK.out)⟩)
 ·(rw [if_neg c3] at H);(have c3b0 : (s0_2 == 0) = false:=beq_eq_false_iff_ne.mpr c3);(have c3b1 : (s0_2 != 0) = true:=bne_iff_ne.mpr c3);(simp only [Option.some.injEq,Prod.mk.injEq] at H);(obtain ⟨rfl,rfl,rfl,rfl⟩:=H);(obtain ⟨HGz7,hgz7⟩:=HI0.out);(have hcz7_0:=cellS42_0 HGz7);(have hcz7_1:=cellS42_1 HGz7);(have hcz7_2:=cellS42_2 HGz7);(have hcz7_3:=cellS42_3 HGz7);(have hfz7_0:=blk_frozen HGz7 0);(have hfz7_1:=blk_frozen HGz7 1);(have hfz7_2:=blk_frozen HGz7 2);(have hfz7_3:=blk_frozen HGz7 3);(clear HGz7 hgz7);(go_enter Tryd.func21,Tryd.ntmps21);(go_wp2)
  first|go_end0|((try simp only [Exit.inBlock,Exit.then]);refine bodyPost_ret (results_none rfl _ _ _) rfl ?_)
  (exact ⟨by first|rfl|(simp [errW_none,errW_some] <;> rfl)|(simp [*,errW_none,errW_some] <;> rfl),by repeat (first|(with_reducible first|exact HI0.out|apply IsS42.alloc|apply IsS42.drewN|apply IsS42.drew|apply IsS42.set_0|apply IsS42.set_1|apply IsS42.set_2|apply IsS42.set_3)|exact HI0.out),by repeat (first|(with_reducible first|exact HB.out|apply below_alloc|apply pw_below_drewN|apply below_drew1|refine below_set ?_ (IsS42.ge HI0.out))|exact HB.out),by repeat (first|(with_reducible first|exact HK.out|apply KeepBut.set_|apply keep_drewN|apply keep_drew|apply keep_alloc)|exact HK.out)⟩)
mutual
def marlinspikeref05_Digits.l0 : Nat → Int → Int → ByteArray → Bool → Option (ByteArray)
 | 0, _, _, _, _ => none
 | k + 1, x0, x1, x5, x6 => if x6 = true then ((some (([(wrap64 (48 + (Int.tmod x0 10))) % 256] : List Int) : List Int)).bind fun y273 => (if (strOfNums y273).size + x5.size ≤ 9223372036854775807 then (marlinspikeref05_Digits.l0 k (wrap64 (Int.tdiv x0 10)) x1 ((strOfNums y273) ++ x5) false) else (none))) else (if x0 > 0 then ((some (([(wrap64 (48 + (Int.tmod x0 10))) % 256] : List Int) : List Int)).bind fun y276 => (if (strOfNums y276).size + x5.size ≤ 9223372036854775807 then (marlinspikeref05_Digits.l0 k (wrap64 (Int.tdiv x0 10)) x1 ((strOfNums y276) ++ x5) false) else (none))) else (marlinspikeref05_Digits.l1 k x1 x5))
def marlinspikeref05_Digits.l1 : Nat → Int → ByteArray → Option (ByteArray)
 | 0, _, _ => none
 | k + 1, x1, x5 => if (x5.size : Int) < x1 then (if 1 + x5.size ≤ 9223372036854775807 then (marlinspikeref05_Digits.l1 k x1 ((⟨#[48]⟩ : ByteArray) ++ x5)) else (none)) else (some x5)
end
def marlinspikeref05_Digits.f (k : Nat) (a0 : Int) (a1 : Int) : Option (ByteArray) := marlinspikeref05_Digits.l0 k a0 a1 (⟨#[]⟩ : ByteArray) true
theorem marlinspikeref05_Digits.mono_l : ∀ k,(∀ y0 y1 y2 y3,LeO (marlinspikeref05_Digits.l0 k y0 y1 y2 y3) (marlinspikeref05_Digits.l0 (k + 1) y0 y1 y2 y3))∧(∀ y0 y1,LeO (marlinspikeref05_Digits.l1 k y0 y1) (marlinspikeref05_Digits.l1 (k + 1) y0 y1))
|0 => ⟨fun _ _ _ _ r h => by simp [marlinspikeref05_Digits.l0] at h,fun _ _ r h => by simp [marlinspikeref05_Digits.l1] at h⟩
|k + 1 => by
  obtain ⟨ih0,ih1⟩:=marlinspikeref05_Digits.mono_l k
  refine ⟨?_,?_⟩
  ·intro y0 y1 y2 y3
   unfold marlinspikeref05_Digits.l0
   repeat' first
  |(with_reducible exact ih0 _ _ _ _)
  |(with_reducible exact ih1 _ _)
  |(with_reducible exact LeO.refl _)
  |(with_reducible exact LeO.none _)
  |(with_reducible refine LeO.ite ?_ ?_)
  |(with_reducible refine LeO.bind ?_ (fun _ => ?_))
  |exact ih0 _ _ _ _
  |exact ih1 _ _
  |exact LeO.none _
  |refine LeO.ite ?_ ?_
  |refine LeO.bind ?_ (fun _ => ?_)
  ·intro y0 y1
   unfold marlinspikeref05_Digits.l1
   repeat' first
  |(with_reducible exact ih0 _ _ _ _)
  |(with_reducible exact ih1 _ _)
  |(with_reducible exact LeO.refl _)
  |(with_reducible exact LeO.none _)
  |(with_reducible refine LeO.ite ?_ ?_)
  |(with_reducible refine LeO.bind ?_ (fun _ => ?_))
  |exact ih0 _ _ _ _
  |exact ih1 _ _
  |exact LeO.none _
  |refine LeO.ite ?_ ?_
  |refine LeO.bind ?_ (fun _ => ?_)
theorem marlinspikeref05_Digits.mono : ∀ a0 a1 k,LeO (marlinspikeref05_Digits.f k a0 a1) (marlinspikeref05_Digits.f (k + 1) a0 a1):=by
 (intro a0 a1 k);(obtain ⟨ih0,ih1⟩:=marlinspikeref05_Digits.mono_l k);(unfold marlinspikeref05_Digits.f)
 repeat' first
  |(with_reducible exact ih0 _ _ _ _)
  |(with_reducible exact ih1 _ _)
  |(with_reducible exact LeO.refl _)
  |(with_reducible exact LeO.none _)
  |(with_reducible refine LeO.ite ?_ ?_)
  |(with_reducible refine LeO.bind ?_ (fun _ => ?_))
  |exact ih0 _ _ _ _
  |exact ih1 _ _
  |exact LeO.none _
  |refine LeO.ite ?_ ?_
  |refine LeO.bind ?_ (fun _ => ?_)
set_option maxHeartbeats 8000000 in
set_option maxRecDepth 100000 in
theorem marlinspikeref05_Digits.calls (k : Nat) (a0 : Int) (a1 : Int) (r : ByteArray) (w : World) (h : marlinspikeref05_Digits.f k a0 a1 = some r) :
  Calls Tryd.prog 14 #[.int .i64 a0,.int .i64 a1] w fun e w' => e = .returned (.string r)∧Below w.heap.size w w':=by
 (have HB:=Aside0.mk (Below.refl w.heap.size w));(have H : (marlinspikeref05_Digits.l0 k a0 a1 (⟨#[]⟩ : ByteArray) true) = some r:=h);(clear h);(have H':=Aside0.mk H);(clear H);(go_enter Tryd.func14,Tryd.ntmps14);(go_wp2);(go_loopg [0,5,6] k (fun kq v0 v5 v6 w' => ∃ (x0_1 : Int) (x5_1 : ByteArray) (x6_1 : Bool),v0 = .int .i64 x0_1∧v5 = .string x5_1∧v6 = .bool x6_1∧Aside0 (marlinspikeref05_Digits.l0 kq x0_1 a1 x5_1 x6_1 = some r)∧Aside0 (kq ≤ k)∧Aside0 (Below w.heap.size w w')))
 case atStart => exact ⟨(a0),((⟨#[]⟩ : ByteArray)),(true),(by first|rfl|(simp;done)|(simp [*];done)),(by first|rfl|(simp;done)|(simp [*];done)),(by first|rfl|(simp;done)|(simp [*];done)),H',⟨Nat.le_refl _⟩,⟨by repeat (first|(with_reducible first|exact HB.out|apply below_alloc|apply pw_below_drewN|apply below_drew1)|exact HB.out)⟩⟩
 case round =>
  (clear H');(try clear c1);(try clear p2);(obtain ⟨x0_1,x5_1,x6_1,rfl,rfl,rfl,HA,HK1,HB⟩:=hrel)
  cases gk with
 |zero => exact absurd HA.out (by simp [marlinspikeref05_Digits.l0])
 |succ k1 =>
   (have H:=HA.out);(clear HA);(simp only [marlinspikeref05_Digits.l0] at H);(by_cases c3 : x6_1 = true)
   ·(subst c3);(have H1 : ((some (([(wrap64 (48 + (Int.tmod x0_1 10))) % 256] : List Int) : List Int)).bind fun y273 => (if (strOfNums y273).size + x5_1.size ≤ 9223372036854775807 then (marlinspikeref05_Digits.l0 k1 (wrap64 (Int.tdiv x0_1 10)) a1 ((strOfNums y273) ++ x5_1) false) else (none))) = some r:=by rw [if_pos rfl] at H;exact H);(clear H);(have H:=H1);(clear H1);(obtain ⟨y273,hy273⟩ : ∃ y_ : List Int,y_ = (([(wrap64 (48 + (Int.tmod x0_1 10))) % 256] : List Int)):=⟨_,rfl⟩);(replace H : (if (strOfNums y273).size + x5_1.size ≤ 9223372036854775807 then (marlinspikeref05_Digits.l0 k1 (wrap64 (Int.tdiv x0_1 10)) a1 ((strOfNums y273) ++ x5_1) false) else (none)) = some r:=by first|(rw [hy273];with_reducible exact H)|(have H2_:=(Option.bind_some _ _).symm.trans H;rw [hy273];with_reducible exact H2_)|(have H2_:=(Option.bind_some _ _).symm.trans H;with_reducible exact H2_)|with_reducible exact H|(rw [hy273];exact H)|exact H);(have Ny273:=Aside0.mk hy273);(clear hy273);(by_cases c4 : (strOfNums y273).size + x5_1.size ≤ 9223372036854775807)
    ·(rw [if_pos c4] at H);(have c4b0:=eq_true c4);(have c4b1 : decide ((strOfNums y273).size + x5_1.size ≤ 9223372036854775807) = true:=decide_eq_true c4);(try have c4b2 : (9223372036854775807 < (strOfNums y273).size + x5_1.size) = False:=eq_false (Nat.not_lt.2 c4));(have H':=Aside0.mk H);(clear H);(go_wp2_with (first|((with_reducible refine gate_dst (N:=16) rfl ?_);refine Kd.R_lit (Kd.int .u8) _ 5 ?hg (N:=16) ?hd (xs:=([(wrap64 (48 + (Int.tmod x0_1 10))) % 256] : List Int)) (inner:=[.int .u8 ((wrap64 (48 + (Int.tmod x0_1 10))) % 256)]) (ok:=fun _ => True) (okp:=fun _ => True) ?hr ?hp (fun _ hk => hk) trivial (Below.refl _ _) (Nat.le_refl _) (by simp) ?_;(case hd => rfl);(case hg => rfl);(case hr => first|(go_simp;done)|(go_simp;rfl));(case hp => exact (Reps.one (show Kd.M (Kd.int .u8) _ _ _ ((wrap64 (48 + (Int.tmod x0_1 10))) % 256) [.int .u8 ((wrap64 (48 + (Int.tmod x0_1 10))) % 256)] from rfl) (Reps.none _ _)));intro v274 w5 ho6 hb hg_ hnew_;clear hg_ hnew_;(first|rw [← Ny273.out] at ho6|(simp only [Int.reduceToNat] at ho6;rw [← Ny273.out] at ho6));have n0_:=Aside0.mk (Kd.R_lower ho6 (below_size (by repeat (first|(with_reducible first|exact HB.out|apply below_alloc|apply pw_below_drewN|apply below_drew1)|exact HB.out))));have n1_:=Aside0.mk (below_step (by repeat (first|(with_reducible first|exact HB.out|apply below_alloc|apply pw_below_drewN|apply below_drew1)|exact HB.out)) hb);clear HB;have HO275:=n0_;have HB:=n1_;clear n0_ n1_;clear hb ho6;have hcv7:=own_string (P:=Tryd.prog) Tryd.underlying57 Tryd.underlying5 Tryd.underlying9 (Kd.own_of_R HO275.out))));(go_roundg k1)
     case measure => have:=HK1.out;omega
     case rel => exact ⟨(wrap64 (Int.tdiv x0_1 10)),((strOfNums y273) ++ x5_1),(false),(by first|rfl|(simp;done)|(simp [*];done)),(by first|rfl|(simp;done)|(simp [*];done)),(by first|rfl|(simp;done)|(simp [*];done)),H',⟨by have:=HK1.out;omega⟩,⟨by repeat (first|(with_reducible first|exact HB.out|apply below_alloc|apply pw_below_drewN|apply below_drew1)|exact HB.out)⟩⟩
    ·(rw [if_neg c4] at H);(exact absurd H (by simp))
   ·(replace c3:=Bool.eq_false_iff.mpr c3);(subst c3);(have H1 : (if x0_1 > 0 then ((some (([(wrap64 (48 + (Int.tmod x0_1 10))) % 256] : List Int) : List Int)).bind fun y276 => (if (strOfNums y276).size + x5_1.size ≤ 9223372036854775807 then (marlinspikeref05_Digits.l0 k1 (wrap64 (Int.tdiv x0_1 10)) a1 ((strOfNums y276) ++ x5_1) false) else (none))) else (marlinspikeref05_Digits.l1 k1 a1 x5_1)) = some r:=by rw [if_neg (show ¬ (false = true) by decide)] at H;exact H);(clear H);(have H:=H1);(clear H1);(by_cases c8 : x0_1 > 0)
    ·(rw [if_pos c8] at H);(have c8b0 : decide (0 < x0_1) = true:=decide_eq_true c8);(clear c8);(obtain ⟨y276,hy276⟩ : ∃ y_ : List Int,y_ = (([(wrap64 (48 + (Int.tmod x0_1 10))) % 256] : List Int)):=⟨_,rfl⟩);(replace H : (if (strOfNums y276).size + x5_1.size ≤ 9223372036854775807 then (marlinspikeref05_Digits.l0 k1 (wrap64 (Int.tdiv x0_1 10)) a1 ((strOfNums y276) ++ x5_1) false) else (none)) = some r:=by first|(rw [hy276];with_reducible exact H)|(have H2_:=(Option.bind_some _ _).symm.trans H;rw [hy276];with_reducible exact H2_)|(have H2_:=(Option.bind_some _ _).symm.trans H;with_reducible exact H2_)|with_reducible exact H|(rw [hy276];exact H)|exact H);(have Ny276:=Aside0.mk hy276);(clear hy276);(by_cases c9 : (strOfNums y276).size + x5_1.size ≤ 9223372036854775807)
     ·(rw [if_pos c9] at H);(have c9b0:=eq_true c9);(have c9b1 : decide ((strOfNums y276).size + x5_1.size ≤ 9223372036854775807) = true:=decide_eq_true c9);(try have c9b2 : (9223372036854775807 < (strOfNums y276).size + x5_1.size) = False:=eq_false (Nat.not_lt.2 c9));(have H':=Aside0.mk H);(clear H);(go_wp2_with (first|((with_reducible refine gate_dst (N:=16) rfl ?_);refine Kd.R_lit (Kd.int .u8) _ 5 ?hg (N:=16) ?hd (xs:=([(wrap64 (48 + (Int.tmod x0_1 10))) % 256] : List Int)) (inner:=[.int .u8 ((wrap64 (48 + (Int.tmod x0_1 10))) % 256)]) (ok:=fun _ => True) (okp:=fun _ => True) ?hr ?hp (fun _ hk => hk) trivial (Below.refl _ _) (Nat.le_refl _) (by simp) ?_;(case hd => rfl);(case hg => rfl);(case hr => first|(go_simp;done)|(go_simp;rfl));(case hp => exact (Reps.one (show Kd.M (Kd.int .u8) _ _ _ ((wrap64 (48 + (Int.tmod x0_1 10))) % 256) [.int .u8 ((wrap64 (48 + (Int.tmod x0_1 10))) % 256)] from rfl) (Reps.none _ _)));intro v277 w10 ho11 hb hg_ hnew_;clear hg_ hnew_;(first|rw [← Ny276.out] at ho11|(simp only [Int.reduceToNat] at ho11;rw [← Ny276.out] at ho11));have n0_:=Aside0.mk (Kd.R_lower ho11 (below_size (by repeat (first|(with_reducible first|exact HB.out|apply below_alloc|apply pw_below_drewN|apply below_drew1)|exact HB.out))));have n1_:=Aside0.mk (below_step (by repeat (first|(with_reducible first|exact HB.out|apply below_alloc|apply pw_below_drewN|apply below_drew1)|exact HB.out)) hb);clear HB;have HO278:=n0_;have HB:=n1_;clear n0_ n1_;clear hb ho11;have hcv12:=own_string (P:=Tryd.prog) Tryd.underlying57 Tryd.underlying5 Tryd.underlying9 (Kd.own_of_R HO278.out))));(go_roundg k1)
      case measure => have:=HK1.out;omega
      case rel => exact ⟨(wrap64 (Int.tdiv x0_1 10)),((strOfNums y276) ++ x5_1),(false),(by first|rfl|(simp;done)|(simp [*];done)),(by first|rfl|(simp;done)|(simp [*];done)),(by first|rfl|(simp;done)|(simp [*];done)),H',⟨by have:=HK1.out;omega⟩,⟨by repeat (first|(with_reducible first|exact HB.out|apply below_alloc|apply pw_below_drewN|apply below_drew1)|exact HB.out)⟩⟩
     ·(rw [if_neg c9] at H);(exact absurd H (by simp))
    ·(rw [if_neg c8] at H);(have c8b0 : decide (0 < x0_1) = false:=decide_eq_false c8);(clear c8);(have H':=Aside0.mk H);(clear H);(go_wp2);(go_loopg [5] k1 (fun kq v5 w' => ∃ (x5_2 : ByteArray),v5 = .string x5_2∧Aside0 (marlinspikeref05_Digits.l1 kq a1 x5_2 = some r)∧Aside0 (kq ≤ k1)∧Aside0 (Below w.heap.size w w')))
     case atStart => exact ⟨(x5_1),(by first|rfl|(simp;done)|(simp [*];done)),H',⟨Nat.le_refl _⟩,⟨by repeat (first|(with_reducible first|exact HB.out|apply below_alloc|apply pw_below_drewN|apply below_drew1)|exact HB.out)⟩⟩
     case round =>
      (clear H');(try clear c1);(try clear hcv1);(try clear p2);(try clear c3);(try clear c4);(try clear c4b0);(try clear c4b1);(try clear c4b2);(try clear p6);(try clear hcv7);(try clear c8);(try clear c8b0);(try clear c9);(try clear c9b0);(try clear c9b1);(try clear c9b2);(try clear hcv12);(try clear p2);(obtain ⟨x5_2,rfl,HA,HK2,HB⟩:=hrel)
      cases gk with
     |zero => exact absurd HA.out (by simp [marlinspikeref05_Digits.l1])
     |succ k2 =>
       (have H:=HA.out);(clear HA);(simp only [marlinspikeref05_Digits.l1] at H);(by_cases c13 : (x5_2.size : Int) < a1)
       ·(rw [if_pos c13] at H);(have c13b0 : decide ((x5_2.size : Int) < a1) = true:=decide_eq_true c13);(clear c13);(by_cases c14 : 1 + x5_2.size ≤ 9223372036854775807)
        ·(rw [if_pos c14] at H);(have c14b0:=eq_true c14);(have c14b1 : decide (1 + x5_2.size ≤ 9223372036854775807) = true:=decide_eq_true c14);(try have c14b2 : (9223372036854775807 < 1 + x5_2.size) = False:=eq_false (Nat.not_lt.2 c14));(have H':=Aside0.mk H);(clear H);(go_wp2);(go_roundg k2)
         case measure => have:=HK1.out;have:=HK2.out;omega
         case rel => exact ⟨((⟨#[48]⟩ : ByteArray) ++ x5_2),(by first|rfl|(simp;done)|(simp [*];done)),H',⟨by have:=HK1.out;have:=HK2.out;omega⟩,⟨by repeat (first|(with_reducible first|exact HB.out|apply below_alloc|apply pw_below_drewN|apply below_drew1)|exact HB.out)⟩⟩
        ·(rw [if_neg c14] at H);(exact absurd H (by simp))
       ·(rw [if_neg c13] at H);(have c13b0 : decide ((x5_2.size : Int) < a1) = false:=decide_eq_false c13);(clear c13);(obtain rfl:=Option.some.inj H);(go_wp2);(go_ret);(exact ⟨by first|rfl|(simp [errW_none,errW_some] <;> rfl)|(simp [*,errW_none,errW_some] <;> rfl),by repeat (first|(with_reducible first|exact HB.out|apply below_alloc|apply pw_below_drewN|apply below_drew1)|exact HB.out)⟩)
def marlinspikeref05_value.l0 : Nat → ByteArray → Int → Int → Option (Int)
 | 0, _, _, _ => none
 | k + 1, x0, x3, x4 => if x4 < (x0.size : Int) then (if 0 ≤ x4 then (marlinspikeref05_value.l0 k x0 (wrap64 ((wrap64 (x3 * 10)) + (((bt x0 x4) - 48) % 256))) (wrap64 (x4 + 1))) else (none)) else (some x3)
def marlinspikeref05_value.f (k : Nat) (a0 : ByteArray) : Option (Int) := marlinspikeref05_value.l0 k a0 0 0
theorem marlinspikeref05_value.mono_l : ∀ k,(∀ y0 y1 y2,LeO (marlinspikeref05_value.l0 k y0 y1 y2) (marlinspikeref05_value.l0 (k + 1) y0 y1 y2))
|0 => fun _ _ _ r h => by simp [marlinspikeref05_value.l0] at h
|k + 1 => by
  have ih0:=marlinspikeref05_value.mono_l k
  ·intro y0 y1 y2
   unfold marlinspikeref05_value.l0
   repeat' first
  |(with_reducible exact ih0 _ _ _)
  |(with_reducible exact LeO.refl _)
  |(with_reducible exact LeO.none _)
  |(with_reducible refine LeO.ite ?_ ?_)
  |(with_reducible refine LeO.bind ?_ (fun _ => ?_))
  |exact ih0 _ _ _
  |exact LeO.none _
  |refine LeO.ite ?_ ?_
  |refine LeO.bind ?_ (fun _ => ?_)
theorem marlinspikeref05_value.mono : ∀ a0 k,LeO (marlinspikeref05_value.f k a0) (marlinspikeref05_value.f (k + 1) a0):=by
 (intro a0 k);(have ih0:=marlinspikeref05_value.mono_l k);(unfold marlinspikeref05_value.f)
 repeat' first
  |(with_reducible exact ih0 _ _ _)
  |(with_reducible exact LeO.refl _)
  |(with_reducible exact LeO.none _)
  |(with_reducible refine LeO.ite ?_ ?_)
  |(with_reducible refine LeO.bind ?_ (fun _ => ?_))
  |exact ih0 _ _ _
  |exact LeO.none _
  |refine LeO.ite ?_ ?_
  |refine LeO.bind ?_ (fun _ => ?_)
set_option maxHeartbeats 8000000 in
set_option maxRecDepth 100000 in
theorem marlinspikeref05_value.calls (k : Nat) (a0 : ByteArray) (r : Int) (w : World) (h : marlinspikeref05_value.f k a0 = some r) :
  Calls Tryd.prog 33 #[.string a0] w fun e w' => e = .returned (.int .i64 r)∧Drawn0 w w':=by
 (have H : (marlinspikeref05_value.l0 k a0 0 0) = some r:=h);(clear h);(have H':=Aside0.mk H);(clear H);(go_enter Tryd.func33,Tryd.ntmps33);(go_wp2);(go_loopg [3,4] k (fun kq v3 v4 w' => ∃ (x3_1 : Int) (x4_1 : Int),v3 = .int .i64 x3_1∧v4 = .int .i64 x4_1∧Aside0 (marlinspikeref05_value.l0 kq a0 x3_1 x4_1 = some r)∧Aside0 (kq ≤ k)∧Drawn0 w w'))
 case atStart => exact ⟨(0),(0),(by first|rfl|(simp;done)|(simp [*];done)),(by first|rfl|(simp;done)|(simp [*];done)),H',⟨Nat.le_refl _⟩,by repeat (first|exact Drawn0.refl _|apply Drawn0.step)⟩
 case round =>
  (clear H');(obtain ⟨x3_1,x4_1,rfl,rfl,HA,HK1,⟨m1,rfl⟩⟩:=hrel)
  cases gk with
 |zero => exact absurd HA.out (by simp [marlinspikeref05_value.l0])
 |succ k1 =>
   (have H:=HA.out);(clear HA);(simp only [marlinspikeref05_value.l0] at H);(by_cases c2 : x4_1 < (a0.size : Int))
   ·(rw [if_pos c2] at H);(have c2b0 : decide (x4_1 < (a0.size : Int)) = true:=decide_eq_true c2);(clear c2);(by_cases c3 : 0 ≤ x4_1)
    ·(rw [if_pos c3] at H);(have c3b0 : decide (0 ≤ x4_1) = true:=decide_eq_true c3);(clear c3);(have H':=Aside0.mk H);(clear H);(have p4 : 0 ≤ (x4_1 : Int):=of_decide_eq_true (by first|(with_reducible assumption)|assumption));(have q4 : x4_1 < (a0.size : Int):=of_decide_eq_true (by first|(with_reducible assumption)|assumption));(have hx4:=bt_at a0 x4_1);(replace p4:=eq_true p4);(replace q4:=eq_true q4);(go_wp2);(go_roundg k1)
     case measure => have:=HK1.out;omega
     case rel => exact ⟨(wrap64 ((wrap64 (x3_1 * 10)) + (((bt a0 x4_1) - 48) % 256))),(wrap64 (x4_1 + 1)),(by first|rfl|(simp;done)|(simp [*];done)),(by first|rfl|(simp;done)|(simp [*];done)),H',⟨by have:=HK1.out;omega⟩,by repeat (first|exact Drawn0.refl _|apply Drawn0.step)⟩
    ·(rw [if_neg c3] at H);(exact absurd H (by simp))
   ·(rw [if_neg c2] at H);(have c2b0 : decide (x4_1 < (a0.size : Int)) = false:=decide_eq_false c2);(clear c2);(obtain rfl:=Option.some.inj H);(go_wp2);(go_ret);(exact ⟨by first|rfl|(simp;done)|(simp [*];done),by repeat (first|exact Drawn0.refl _|apply Drawn0.step)⟩)
end Go.Proofs.YtoammgpfbdcphaaDoor.PH
end
section
namespace Go.Proofs.YtoammgpfbdcphaaDoor.PH
open Go.RowKit Go.Proofs.YtoammgpfbdcphaaDoor.Lib Go.Proofs.YtoammgpfbdcphaaDoorW.PrintWords Go.Proofs.YtoammgpfbdcphaaDoorW.PrintLast Go.Proofs.YtoammgpfbdcphaaDoorW.PrintMore
attribute [local go_sem] max2_int min2_int max_two min_two max_three min_three max_four min_four   
set_option linter.unusedVariables false
set_option linter.unusedSimpArgs false
attribute [local go_sem high] eqA27
def marlinspikeref05_Same.l0 : Nat → List ByteArray → List ByteArray → Int → Option (Bool)
 | 0, _, _, _ => none
 | k + 1, x0, x1, x5 => if x5 < (x0.length : Int) then (if 0 ≤ x5 then (if x5 < (x1.length : Int) then (if (rdOf ByteArray.empty x0 x5).toList = (rdOf ByteArray.empty x1 x5).toList then (marlinspikeref05_Same.l0 k x0 x1 (wrap64 (x5 + 1))) else (some false)) else (none)) else (none)) else (some true)
def marlinspikeref05_Same.f (k : Nat) (l0 : List ByteArray) (l1 : List ByteArray) : Option (Bool) := if (l0.length : Int) = (l1.length : Int) then (marlinspikeref05_Same.l0 k l0 l1 0) else (some false)
theorem marlinspikeref05_Same.mono_l : ∀ k,(∀ y0 y1 y2,LeO (marlinspikeref05_Same.l0 k y0 y1 y2) (marlinspikeref05_Same.l0 (k + 1) y0 y1 y2))
|0 => fun _ _ _ r h => by simp [marlinspikeref05_Same.l0] at h
|k + 1 => by
  have ih0:=marlinspikeref05_Same.mono_l k
  ·intro y0 y1 y2
   unfold marlinspikeref05_Same.l0
   repeat' first
  |(with_reducible exact ih0 _ _ _)
  |(with_reducible exact LeO.refl _)
  |(with_reducible exact LeO.none _)
  |(with_reducible refine LeO.ite ?_ ?_)
  |(with_reducible refine LeO.bind ?_ (fun _ => ?_))
  |exact ih0 _ _ _
  |exact LeO.none _
  |refine LeO.ite ?_ ?_
  |refine LeO.bind ?_ (fun _ => ?_)
theorem marlinspikeref05_Same.mono : ∀ a0 a1 k,LeO (marlinspikeref05_Same.f k a0 a1) (marlinspikeref05_Same.f (k + 1) a0 a1):=by
 (intro a0 a1 k);(have ih0:=marlinspikeref05_Same.mono_l k);(unfold marlinspikeref05_Same.f)
 repeat' first
  |(with_reducible exact ih0 _ _ _)
  |(with_reducible exact LeO.refl _)
  |(with_reducible exact LeO.none _)
  |(with_reducible refine LeO.ite ?_ ?_)
  |(with_reducible refine LeO.bind ?_ (fun _ => ?_))
  |exact ih0 _ _ _
  |exact LeO.none _
  |refine LeO.ite ?_ ?_
  |refine LeO.bind ?_ (fun _ => ?_)
set_option maxHeartbeats 8000000 in
set_option maxRecDepth 100000 in
theorem marlinspikeref05_Same.calls (k : Nat) (A0 : Option Addr) (c0 : Nat) (l0 : List ByteArray) (A1 : Option Addr) (c1 : Nat) (l1 : List ByteArray) (r : Bool) (w : World) (hr0 : Kd.C Kd.string w A0 l0.length l0) (hc0 : l0.length ≤ c0) (hr1 : Kd.C Kd.string w A1 l1.length l1) (hc1 : l1.length ≤ c1) (h : marlinspikeref05_Same.f k l0 l1 = some r) :
  Calls Tryd.prog 13 #[.slice A0 l0.length c0,.slice A1 l1.length c1] w fun e w' => e = .returned (.bool r)∧Drawn0 w w':=by
 (have HR0:=Aside0.mk hr0);(have HC0:=Aside0.mk hc0);(clear hr0 hc0);(have HR1:=Aside0.mk hr1);(have HC1:=Aside0.mk hc1);(clear hr1 hc1);(have H : (if (l0.length : Int) = (l1.length : Int) then (marlinspikeref05_Same.l0 k l0 l1 0) else (some false)) = some r:=h);(clear h);(by_cases c3 : (l0.length : Int) = (l1.length : Int))
 ·(rw [if_pos c3] at H);(have c3b0 : ((l0.length : Int) == (l1.length : Int)) = true:=beq_iff_eq.mpr c3);(have c3b1 : ((l0.length : Int) != (l1.length : Int)) = false:=bne_eq_false_iff_eq.mpr c3);(have c3b2 : (l0.length == l1.length) = true:=by first|simpa using c3|(simp at c3 ⊢;omega));(clear c3);(have H':=Aside0.mk H);(clear H);(go_enter Tryd.func13,Tryd.ntmps13);(go_wp2)
  repeat (go_quiet (fail);try go_wp2)
  (go_loopg [5] k (fun kq v5 w' => ∃ (x5_1 : Int),v5 = .int .i64 x5_1∧Aside0 (marlinspikeref05_Same.l0 kq l0 l1 x5_1 = some r)∧Aside0 (kq ≤ k)∧Drawn0 w w'))
  case atStart => exact ⟨(0),(by first|rfl|(simp;done)|(simp [*];done)),H',⟨Nat.le_refl _⟩,by repeat (first|exact Drawn0.refl _|apply Drawn0.step)⟩
  case round =>
   (clear H');(try clear c1);(try clear p2);(try clear c3);(try clear c3b0);(try clear c3b1);(try clear c3b2);(obtain ⟨x5_1,rfl,HA,HK1,⟨m1,rfl⟩⟩:=hrel)
   cases gk with
  |zero => exact absurd HA.out (by simp [marlinspikeref05_Same.l0])
  |succ k1 =>
    (have H:=HA.out);(clear HA);(simp only [marlinspikeref05_Same.l0] at H);(by_cases c4 : x5_1 < (l0.length : Int))
    ·(rw [if_pos c4] at H);(have c4b0 : decide (x5_1 < (l0.length : Int)) = true:=decide_eq_true c4);(clear c4);(by_cases c5 : 0 ≤ x5_1)
     ·(rw [if_pos c5] at H);(have c5b0 : decide (0 ≤ x5_1) = true:=decide_eq_true c5);(clear c5);(by_cases c6 : x5_1 < (l1.length : Int))
      ·(rw [if_pos c6] at H);(have c6b0 : decide (x5_1 < (l1.length : Int)) = true:=decide_eq_true c6);(clear c6);(by_cases c7 : (rdOf ByteArray.empty l0 x5_1).toList = (rdOf ByteArray.empty l1 x5_1).toList)
       ·(rw [if_pos c7] at H);(have c7b0 : ((rdOf ByteArray.empty l0 x5_1).toList == (rdOf ByteArray.empty l1 x5_1).toList) = true:=beq_iff_eq.mpr c7);(have c7b1 : ((rdOf ByteArray.empty l0 x5_1).toList != (rdOf ByteArray.empty l1 x5_1).toList) = false:=bne_eq_false_iff_eq.mpr c7);(clear c7);(have H':=Aside0.mk H);(clear H);(have p360 : 0 ≤ (x5_1 : Int):=of_decide_eq_true (by first|(with_reducible assumption)|assumption));(have q360 : x5_1 < (l0.length : Int):=of_decide_eq_true (by first|(with_reducible assumption)|assumption));(obtain ⟨ad360,e360,hx360_0⟩:=Kd.at_string HR0.out x5_1 p360 q360)
        cases e360
        (replace p360:=eq_true p360);(replace q360:=eq_true q360);(have p361 : 0 ≤ (x5_1 : Int):=of_decide_eq_true (by first|(with_reducible assumption)|assumption));(have q361 : x5_1 < (l1.length : Int):=of_decide_eq_true (by first|(with_reducible assumption)|assumption));(obtain ⟨ad361,e361,hx361_0⟩:=Kd.at_string HR1.out x5_1 p361 q361)
        cases e361
        (replace p361:=eq_true p361);(replace q361:=eq_true q361);(go_wp2)
        repeat (go_quiet (fail);try go_wp2)
        (go_roundg k1)
        case measure => have:=HK1.out;omega
        case rel => exact ⟨(wrap64 (x5_1 + 1)),(by first|rfl|(simp;done)|(simp [*];done)),H',⟨by have:=HK1.out;omega⟩,by repeat (first|exact Drawn0.refl _|apply Drawn0.step)⟩
       ·(rw [if_neg c7] at H);(have c7b0 : ((rdOf ByteArray.empty l0 x5_1).toList == (rdOf ByteArray.empty l1 x5_1).toList) = false:=beq_eq_false_iff_ne.mpr c7);(have c7b1 : ((rdOf ByteArray.empty l0 x5_1).toList != (rdOf ByteArray.empty l1 x5_1).toList) = true:=bne_iff_ne.mpr c7);(obtain rfl:=Option.some.inj H);(have p360 : 0 ≤ (x5_1 : Int):=of_decide_eq_true (by first|(with_reducible assumption)|assumption));(have q360 : x5_1 < (l0.length : Int):=of_decide_eq_true (by first|(with_reducible assumption)|assumption));(obtain ⟨ad360,e360,hx360_0⟩:=Kd.at_string HR0.out x5_1 p360 q360)
        cases e360
        (replace p360:=eq_true p360);(replace q360:=eq_true q360);(have p361 : 0 ≤ (x5_1 : Int):=of_decide_eq_true (by first|(with_reducible assumption)|assumption));(have q361 : x5_1 < (l1.length : Int):=of_decide_eq_true (by first|(with_reducible assumption)|assumption));(obtain ⟨ad361,e361,hx361_0⟩:=Kd.at_string HR1.out x5_1 p361 q361)
        cases e361
        (replace p361:=eq_true p361);(replace q361:=eq_true q361);(go_wp2)
        repeat (go_quiet (fail);try go_wp2)
        (go_ret);(exact ⟨by first|rfl|(simp;done)|(simp [*];done),by repeat (first|exact Drawn0.refl _|apply Drawn0.step)⟩)
      ·(rw [if_neg c6] at H);(exact absurd H (by simp))
     ·(rw [if_neg c5] at H);(exact absurd H (by simp))
    ·(rw [if_neg c4] at H);(have c4b0 : decide (x5_1 < (l0.length : Int)) = false:=decide_eq_false c4);(clear c4);(obtain rfl:=Option.some.inj H);(go_wp2)
     repeat (go_quiet (fail);try go_wp2)
     (go_ret);(exact ⟨by first|rfl|(simp;done)|(simp [*];done),by repeat (first|exact Drawn0.refl _|apply Drawn0.step)⟩)
 ·(rw [if_neg c3] at H);(have c3b0 : ((l0.length : Int) == (l1.length : Int)) = false:=beq_eq_false_iff_ne.mpr c3);(have c3b1 : ((l0.length : Int) != (l1.length : Int)) = true:=bne_iff_ne.mpr c3);(have c3b2 : (l0.length == l1.length) = false:=by first|simpa using c3|(simp at c3 ⊢;omega));(obtain rfl:=Option.some.inj H);(go_enter Tryd.func13,Tryd.ntmps13);(go_wp2)
  repeat (go_quiet (fail);try go_wp2)
  (go_ret);(exact ⟨by first|rfl|(simp;done)|(simp [*];done),by repeat (first|exact Drawn0.refl _|apply Drawn0.step)⟩)
def marlinspikelaw05_long.l0 : Nat → List ByteArray → List ByteArray → Int → Int → Option (Bool)
 | 0, _, _, _, _ => none
 | k + 1, x0, x5, x6, x7 => if x7 < x6 then (if 0 ≤ x7 then (if x7 < (x5.length : Int) then (if ((rdOf ByteArray.empty x5 x7).size : Int) > 300 then (some true) else (marlinspikelaw05_long.l0 k x0 x5 x6 (wrap64 (x7 + 1)))) else (none)) else (none)) else (some (decide ((x0.length : Int) > 300)))
def marlinspikelaw05_long.f (k : Nat) (l0 : List ByteArray) : Option (Bool) := marlinspikelaw05_long.l0 k l0 l0 (l0.length : Int) 0
theorem marlinspikelaw05_long.mono_l : ∀ k,(∀ y0 y1 y2 y3,LeO (marlinspikelaw05_long.l0 k y0 y1 y2 y3) (marlinspikelaw05_long.l0 (k + 1) y0 y1 y2 y3))
|0 => fun _ _ _ _ r h => by simp [marlinspikelaw05_long.l0] at h
|k + 1 => by
  have ih0:=marlinspikelaw05_long.mono_l k
  ·intro y0 y1 y2 y3
   unfold marlinspikelaw05_long.l0
   repeat' first
  |(with_reducible exact ih0 _ _ _ _)
  |(with_reducible exact LeO.refl _)
  |(with_reducible exact LeO.none _)
  |(with_reducible refine LeO.ite ?_ ?_)
  |(with_reducible refine LeO.bind ?_ (fun _ => ?_))
  |exact ih0 _ _ _ _
  |exact LeO.none _
  |refine LeO.ite ?_ ?_
  |refine LeO.bind ?_ (fun _ => ?_)
theorem marlinspikelaw05_long.mono : ∀ a0 k,LeO (marlinspikelaw05_long.f k a0) (marlinspikelaw05_long.f (k + 1) a0):=by
 (intro a0 k);(have ih0:=marlinspikelaw05_long.mono_l k);(unfold marlinspikelaw05_long.f)
 repeat' first
  |(with_reducible exact ih0 _ _ _ _)
  |(with_reducible exact LeO.refl _)
  |(with_reducible exact LeO.none _)
  |(with_reducible refine LeO.ite ?_ ?_)
  |(with_reducible refine LeO.bind ?_ (fun _ => ?_))
  |exact ih0 _ _ _ _
  |exact LeO.none _
  |refine LeO.ite ?_ ?_
  |refine LeO.bind ?_ (fun _ => ?_)
set_option maxHeartbeats 8000000 in
set_option maxRecDepth 100000 in
theorem marlinspikelaw05_long.calls (k : Nat) (A0 : Option Addr) (c0 : Nat) (l0 : List ByteArray) (r : Bool) (w : World) (hr0 : Kd.C Kd.string w A0 l0.length l0) (hc0 : l0.length ≤ c0) (h : marlinspikelaw05_long.f k l0 = some r) :
  Calls Tryd.prog 8 #[.slice A0 l0.length c0] w fun e w' => e = .returned (.bool r)∧Drawn0 w w':=by
 (have HR0:=Aside0.mk hr0);(have HC0:=Aside0.mk hc0);(clear hr0 hc0);(have H : (marlinspikelaw05_long.l0 k l0 l0 (l0.length : Int) 0) = some r:=h);(clear h);(have H':=Aside0.mk H);(clear H);(go_enter Tryd.func8,Tryd.ntmps8);(go_wp2);(go_loopg [7] k (fun kq v7 w' => ∃ (x7_1 : Int),v7 = .int .i64 x7_1∧Aside0 (marlinspikelaw05_long.l0 kq l0 l0 (l0.length : Int) x7_1 = some r)∧Aside0 (kq ≤ k)∧Drawn0 w w'))
 case atStart => exact ⟨(0),(by first|rfl|(simp;done)|(simp [*];done)),H',⟨Nat.le_refl _⟩,by repeat (first|exact Drawn0.refl _|apply Drawn0.step)⟩
 case round =>
  (clear H');(obtain ⟨x7_1,rfl,HA,HK1,⟨m1,rfl⟩⟩:=hrel)
  cases gk with
 |zero => exact absurd HA.out (by simp [marlinspikelaw05_long.l0])
 |succ k1 =>
   (have H:=HA.out);(clear HA);(simp only [marlinspikelaw05_long.l0] at H);(by_cases c2 : x7_1 < (l0.length : Int))
   ·(rw [if_pos c2] at H);(have c2b0 : decide (x7_1 < (l0.length : Int)) = true:=decide_eq_true c2);(clear c2);(by_cases c3 : 0 ≤ x7_1)
    ·(rw [if_pos c3] at H);(have c3b0 : decide (0 ≤ x7_1) = true:=decide_eq_true c3);(clear c3);(by_cases c4 : x7_1 < (l0.length : Int))
     ·(rw [if_pos c4] at H);(have c4b0 : decide (x7_1 < (l0.length : Int)) = true:=decide_eq_true c4);(clear c4);(by_cases c5 : ((rdOf ByteArray.empty l0 x7_1).size : Int) > 300)
      ·(rw [if_pos c5] at H);(have c5b0 : decide (300 < ((rdOf ByteArray.empty l0 x7_1).size : Int)) = true:=decide_eq_true c5);(have c5b1 : decide (300 < (rdOf ByteArray.empty l0 x7_1).size) = true:=decide_eq_true (by omega));(clear c5);(obtain rfl:=Option.some.inj H);(have p366 : 0 ≤ (x7_1 : Int):=of_decide_eq_true (by first|(with_reducible assumption)|assumption));(have q366 : x7_1 < (l0.length : Int):=of_decide_eq_true (by first|(with_reducible assumption)|assumption));(obtain ⟨ad366,e366,hx366_0⟩:=Kd.at_string HR0.out x7_1 p366 q366)
       cases e366
       (replace p366:=eq_true p366);(replace q366:=eq_true q366);(go_wp2);(go_ret);(exact ⟨by first|rfl|(simp;done)|(simp [*];done),by repeat (first|exact Drawn0.refl _|apply Drawn0.step)⟩)
      ·(rw [if_neg c5] at H);(have c5b0 : decide (300 < ((rdOf ByteArray.empty l0 x7_1).size : Int)) = false:=decide_eq_false c5);(have c5b1 : decide (300 < (rdOf ByteArray.empty l0 x7_1).size) = false:=decide_eq_false (by omega));(clear c5);(have H':=Aside0.mk H);(clear H);(have p366 : 0 ≤ (x7_1 : Int):=of_decide_eq_true (by first|(with_reducible assumption)|assumption));(have q366 : x7_1 < (l0.length : Int):=of_decide_eq_true (by first|(with_reducible assumption)|assumption));(obtain ⟨ad366,e366,hx366_0⟩:=Kd.at_string HR0.out x7_1 p366 q366)
       cases e366
       (replace p366:=eq_true p366);(replace q366:=eq_true q366);(go_wp2);(go_roundg k1)
       case measure => have:=HK1.out;omega
       case rel => exact ⟨(wrap64 (x7_1 + 1)),(by first|rfl|(simp;done)|(simp [*];done)),H',⟨by have:=HK1.out;omega⟩,by repeat (first|exact Drawn0.refl _|apply Drawn0.step)⟩
     ·(rw [if_neg c4] at H);(exact absurd H (by simp))
    ·(rw [if_neg c3] at H);(exact absurd H (by simp))
   ·(rw [if_neg c2] at H);(have c2b0 : decide (x7_1 < (l0.length : Int)) = false:=decide_eq_false c2);(clear c2);(obtain rfl:=Option.some.inj H);(go_wp2);(go_ret);(exact ⟨by first|rfl|(simp;done)|(simp [*];done),by repeat (first|exact Drawn0.refl _|apply Drawn0.step)⟩)
def marlinspikelaw05_alive.f (k : Nat)  : Option (Bool) := (host_Expand.f k (⟨#[110, 91, 49, 45, 51, 44, 48, 55, 45, 48, 56, 93, 44, 109]⟩ : ByteArray)).bind fun bt367 => (if (bt367.2.1 == 0 && (bt367.2.2 == 0)) = true then ((marlinspikeref05_Same.f k bt367.1 (([(⟨#[110, 49]⟩ : ByteArray), (⟨#[110, 50]⟩ : ByteArray), (⟨#[110, 51]⟩ : ByteArray), (⟨#[110, 48, 55]⟩ : ByteArray), (⟨#[110, 48, 56]⟩ : ByteArray), (⟨#[109]⟩ : ByteArray)] : List ByteArray))).bind fun t376 => (if t376 = true then ((host_Compress.f k bt367.1).bind fun t377 => (some (t377.toList == ([110, 91, 49, 45, 51, 93, 44, 110, 91, 48, 55, 45, 48, 56, 93, 44, 109] : List UInt8)))) else (some false))) else (some false))
theorem marlinspikelaw05_alive.mono : ∀ k,LeO (marlinspikelaw05_alive.f k ) (marlinspikelaw05_alive.f (k + 1) ):=by
 (intro  k);(unfold marlinspikelaw05_alive.f)
 repeat' first
  |(with_reducible exact host_Compress.mono _ _)
  |(with_reducible exact host_Expand.mono _ _)
  |(with_reducible exact marlinspikeref05_Same.mono _ _ _)
  |(with_reducible exact LeO.refl _)
  |(with_reducible exact LeO.none _)
  |(with_reducible refine LeO.ite ?_ ?_)
  |(with_reducible refine LeO.bind ?_ (fun _ => ?_))
  |exact host_Compress.mono _ _
  |exact host_Expand.mono _ _
  |exact marlinspikeref05_Same.mono _ _ _
  |exact LeO.none _
  |refine LeO.ite ?_ ?_
  |refine LeO.bind ?_ (fun _ => ?_)
set_option maxHeartbeats 8000000 in
set_option maxRecDepth 100000 in
theorem marlinspikelaw05_alive.calls (k : Nat)  (r : Bool) (w : World) (h : marlinspikelaw05_alive.f k  = some r) (hG_ : Glob w) :
  Calls Tryd.prog 9 #[] w fun e w' => e = .returned (.bool r)∧Below w.heap.size w w':=by
 (have HG_:=Aside0.mk hG_);(clear hG_);(have hu27:=Tryd.underlying27);(have HB:=Aside0.mk (Below.refl w.heap.size w));(have H : ((host_Expand.f k (⟨#[110,91,49,45,51,44,48,55,45,48,56,93,44,109]⟩ : ByteArray)).bind fun bt367 => (if (bt367.2.1 == 0 && (bt367.2.2 == 0)) = true then ((marlinspikeref05_Same.f k bt367.1 (([(⟨#[110,49]⟩ : ByteArray),(⟨#[110,50]⟩ : ByteArray),(⟨#[110,51]⟩ : ByteArray),(⟨#[110,48,55]⟩ : ByteArray),(⟨#[110,48,56]⟩ : ByteArray),(⟨#[109]⟩ : ByteArray)] : List ByteArray))).bind fun t376 => (if t376 = true then ((host_Compress.f k bt367.1).bind fun t377 => (some (t377.toList == ([110,91,49,45,51,93,44,110,91,48,55,45,48,56,93,44,109] : List UInt8)))) else (some false))) else (some false))) = some r:=h);(clear h);(replace H:=Option.bind_eq_some_iff.mp H);(obtain ⟨⟨t367,t370,t371⟩,A10,H⟩:=H);(replace H : (if (t370 == 0 && (t371 == 0)) = true then ((marlinspikeref05_Same.f k t367 (([(⟨#[110,49]⟩ : ByteArray),(⟨#[110,50]⟩ : ByteArray),(⟨#[110,51]⟩ : ByteArray),(⟨#[110,48,55]⟩ : ByteArray),(⟨#[110,48,56]⟩ : ByteArray),(⟨#[109]⟩ : ByteArray)] : List ByteArray))).bind fun t376 => (if t376 = true then ((host_Compress.f k t367).bind fun t377 => (some (t377.toList == ([110,91,49,45,51,93,44,110,91,48,55,45,48,56,93,44,109] : List UInt8)))) else (some false))) else (some false)) = some r:=H);(have A1:=Aside0.mk A10);(clear A10);(by_cases c2 : (t370 == 0 && (t371 == 0)) = true)
 ·(rw [if_pos c2] at H);(have c2b0 : (t370 == 0 && (t371 == 0)) = true:=c2);((try (have c2b1 : decide (t370 = 0 && (t371 == 0)) = true:=by simpa using c2)));((try (have c2b2 : (t370 == 0 && (t371 == 0)) = true:=by simpa using c2)));(clear c2);(obtain ⟨y373,hy373⟩ : ∃ y_ : List ByteArray,y_ = (([(⟨#[110,49]⟩ : ByteArray),(⟨#[110,50]⟩ : ByteArray),(⟨#[110,51]⟩ : ByteArray),(⟨#[110,48,55]⟩ : ByteArray),(⟨#[110,48,56]⟩ : ByteArray),(⟨#[109]⟩ : ByteArray)] : List ByteArray)):=⟨_,rfl⟩);(replace H : ((marlinspikeref05_Same.f k t367 y373).bind fun t376 => (if t376 = true then ((host_Compress.f k t367).bind fun t377 => (some (t377.toList == ([110,91,49,45,51,93,44,110,91,48,55,45,48,56,93,44,109] : List UInt8)))) else (some false))) = some r:=by first|(rw [hy373];with_reducible exact H)|(have H2_:=(Option.bind_some _ _).symm.trans H;rw [hy373];with_reducible exact H2_)|(have H2_:=(Option.bind_some _ _).symm.trans H;with_reducible exact H2_)|with_reducible exact H|(rw [hy373];exact H)|exact H);(have Ny373:=Aside0.mk hy373);(clear hy373);(replace H:=Option.bind_eq_some_iff.mp H);(obtain ⟨t376,A30,H⟩:=H);(replace H : (if t376 = true then ((host_Compress.f k t367).bind fun t377 => (some (t377.toList == ([110,91,49,45,51,93,44,110,91,48,55,45,48,56,93,44,109] : List UInt8)))) else (some false)) = some r:=H);(have A3:=Aside0.mk A30);(clear A30);(by_cases c4 : t376 = true)
  ·(subst c4);(have H1 : ((host_Compress.f k t367).bind fun t377 => (some (t377.toList == ([110,91,49,45,51,93,44,110,91,48,55,45,48,56,93,44,109] : List UInt8)))) = some r:=by rw [if_pos rfl] at H;exact H);(clear H);(have H:=H1);(clear H1);(replace H:=Option.bind_eq_some_iff.mp H);(obtain ⟨t377,A50,H⟩:=H);(replace H : (some (t377.toList == ([110,91,49,45,51,93,44,110,91,48,55,45,48,56,93,44,109] : List UInt8))) = some r:=H);(have A5:=Aside0.mk A50);(clear A50);(obtain rfl:=Option.some.inj H);(go_enter Tryd.func9,Tryd.ntmps9);(go_wp2_with (first|((with_reducible refine gate_callee (f:=11) rfl ?_);refine goesL_ (some 4) rfl rfl Tryd.func11 (by kernel_rfl) rfl #[.string (⟨#[110,91,49,45,51,44,48,55,45,48,56,93,44,109]⟩ : ByteArray)] rfl (by (try simp only [List.map_toArray,List.map_cons,List.map_nil]);first|done|rfl|(simp only [List.length_drop,List.length_take];rfl)) ?_;(with_reducible refine (host_Expand.calls k (⟨#[110,91,49,45,51,44,48,55,45,48,56,93,44,109]⟩ : ByteArray) t367 t370 t371 _ A1.out (HG_.out.below (by repeat (first|(with_reducible first|exact HB.out|apply below_alloc|apply pw_below_drewN|apply below_drew1)|exact HB.out)))).mono ?_);rintro e w6 ⟨v368,rfl,ho0,hb⟩;refine ⟨_,rfl,?_⟩;have n0_:=Aside0.mk (Kd.R_lower ho0 (below_size (by repeat (first|(with_reducible first|exact HB.out|apply below_alloc|apply pw_below_drewN|apply below_drew1)|exact HB.out))));have n1_:=Aside0.mk (below_step (by repeat (first|(with_reducible first|exact HB.out|apply below_alloc|apply pw_below_drewN|apply below_drew1)|exact HB.out)) hb);clear HB;have HO369:=n0_;have HB:=n1_;clear n0_ n1_;(try clear hb);(try clear hb2);(try clear hk);(try clear hi);(try clear ho0))|((with_reducible refine gate_dst (N:=2) rfl ?_);(try (refine gate_guard (by rfl) ?_;dsimp only));refine box_event ?hg (N:=2) ?hd (cs:=#[.int .i64 0,.int .i64 0]) (t:=27) ?hr ?_;(case hd => rfl);(case hg => rfl);(case hr => first|(go_simp;done)|(go_simp;rfl));intro gb372 hg w7 hbox hb;have n0_:=Aside0.mk (Kd.R_below (by (with_reducible repeat (first|apply Kd.R_alloc|apply Kd.R_drewN|apply Kd.R_drew));exact HO369.out) hb);have n1_:=Aside0.mk (below_step (by repeat (first|(with_reducible first|exact HB.out|apply below_alloc|apply pw_below_drewN|apply below_drew1)|exact HB.out)) hb);have n2_:=Aside0.mk (hbox);have n3_:=Aside0.mk ((by rw [hg];exact (below_size (by repeat (first|(with_reducible first|exact HB.out|apply below_alloc|apply pw_below_drewN|apply below_drew1)|exact HB.out))) : w.heap.size ≤ gb372));have n4_:=Aside0.mk ((by rw [hg];exact (below_size (by repeat (first|(with_reducible first|exact HB.out|apply below_alloc|apply pw_below_drewN|apply below_drew1)|exact HB.out))) : w.heap.size ≤ gb372));clear HO369;clear HB;have HO369:=n0_;have HB:=n1_;have BK372:=n2_;have GW372:=n3_;have GE372:=n4_;clear n0_ n1_ n2_ n3_ n4_;clear hb hbox hg;have hcz8_0 : w7.cell? ⟨gb372,0,none⟩ = some (.int .i64 0):=(blk_cell BK372.out 0).trans rfl;have hcz8_1 : w7.cell? ⟨gb372,1,none⟩ = some (.int .i64 0):=(blk_cell BK372.out 1).trans rfl;have hfz8_0:=blk_frozen BK372.out 0;have hfz8_1:=blk_frozen BK372.out 1)|((with_reducible refine gate_dst (N:=12) rfl ?_);(try (refine gate_guard (by rfl) ?_;dsimp only));refine Kd.R_lit Kd.string _ 9 ?hg (N:=12) ?hd (xs:=([(⟨#[110,49]⟩ : ByteArray),(⟨#[110,50]⟩ : ByteArray),(⟨#[110,51]⟩ : ByteArray),(⟨#[110,48,55]⟩ : ByteArray),(⟨#[110,48,56]⟩ : ByteArray),(⟨#[109]⟩ : ByteArray)] : List ByteArray)) (inner:=[.string (⟨#[110,49]⟩ : ByteArray),.string (⟨#[110,50]⟩ : ByteArray),.string (⟨#[110,51]⟩ : ByteArray),.string (⟨#[110,48,55]⟩ : ByteArray),.string (⟨#[110,48,56]⟩ : ByteArray),.string (⟨#[109]⟩ : ByteArray)]) (ok:=fun _ => True) (okp:=fun _ => True) ?hr ?hp (fun _ hk => hk) trivial (Below.refl _ _) (Nat.le_refl _) (by simp) ?_;(case hd => rfl);(case hg => rfl);(case hr => first|(go_simp;done)|(go_simp;rfl));(case hp => exact (Reps.one (show Kd.M Kd.string _ _ _ (⟨#[110,49]⟩ : ByteArray) [.string (⟨#[110,49]⟩ : ByteArray)] from rfl) (Reps.one (show Kd.M Kd.string _ _ _ (⟨#[110,50]⟩ : ByteArray) [.string (⟨#[110,50]⟩ : ByteArray)] from rfl) (Reps.one (show Kd.M Kd.string _ _ _ (⟨#[110,51]⟩ : ByteArray) [.string (⟨#[110,51]⟩ : ByteArray)] from rfl) (Reps.one (show Kd.M Kd.string _ _ _ (⟨#[110,48,55]⟩ : ByteArray) [.string (⟨#[110,48,55]⟩ : ByteArray)] from rfl) (Reps.one (show Kd.M Kd.string _ _ _ (⟨#[110,48,56]⟩ : ByteArray) [.string (⟨#[110,48,56]⟩ : ByteArray)] from rfl) (Reps.one (show Kd.M Kd.string _ _ _ (⟨#[109]⟩ : ByteArray) [.string (⟨#[109]⟩ : ByteArray)] from rfl) (Reps.none _ _))))))));intro v374 w9 ho10 hb hg_ hnew_;clear hg_ hnew_;(first|rw [← Ny373.out] at ho10|(simp only [Int.reduceToNat] at ho10;rw [← Ny373.out] at ho10));have n0_:=Aside0.mk (Kd.R_elder' (by (with_reducible repeat (first|apply Kd.R_alloc|apply Kd.R_drewN|apply Kd.R_drew));exact (Kd.R_mono (Kd.R_far (p:=⟨gb372,1,none⟩) (Kd.R_far (p:=⟨gb372,0,none⟩) (Kd.R_types HO369.out BK372.out (by decide)) (fun _ hk => hk.2) (.int .i64 t370)) (fun _ hk => hk.2) (.int .i64 t371)) (fun _ h_ => h_.1))) (Kd.R_base ho10) hb);have n1_:=Aside0.mk (Kd.R_lower (Kd.R_new' ho10 (Kd.R_lt (by (with_reducible repeat (first|apply Kd.R_alloc|apply Kd.R_drewN|apply Kd.R_drew));exact (Kd.R_mono (Kd.R_far (p:=⟨gb372,1,none⟩) (Kd.R_far (p:=⟨gb372,0,none⟩) (Kd.R_types HO369.out BK372.out (by decide)) (fun _ hk => hk.2) (.int .i64 t370)) (fun _ hk => hk.2) (.int .i64 t371)) (fun _ h_ => h_.1))))) (below_size (by repeat (first|(with_reducible first|exact HB.out|apply below_alloc|apply pw_below_drewN|apply below_drew1|refine below_set ?_ GE372.out)|exact HB.out))));have n2_:=Aside0.mk (blk_below (g:=gb372) (o:=.cells #[.int .i64 t370,.int .i64 t371] 27 (0,0)) (by (with_reducible repeat (first|refine blk_drewN ?_ _|refine blk_drew ?_|refine blk_alloc ?_ _));refine blk_put (cs:=#[.int .i64 t370,.int .i64 0]) ?_ 1 _ rfl;(with_reducible repeat (first|refine blk_drewN ?_ _|refine blk_drew ?_|refine blk_alloc ?_ _));refine blk_put (cs:=#[.int .i64 0,.int .i64 0]) ?_ 0 _ rfl;(with_reducible repeat (first|refine blk_drewN ?_ _|refine blk_drew ?_|refine blk_alloc ?_ _));exact BK372.out) hb);have n3_:=Aside0.mk (below_step (by repeat (first|(with_reducible first|exact HB.out|apply below_alloc|apply pw_below_drewN|apply below_drew1|refine below_set ?_ GE372.out)|exact HB.out)) hb);clear HO369;clear BK372;clear HB;have HO369:=n0_;have HO375:=n1_;have BK372:=n2_;have HB:=n3_;clear n0_ n1_ n2_ n3_;clear hb ho10;obtain ⟨Ao11,co11,eo11⟩:=Kd.R_slice HO369.out;subst eo11;obtain ⟨Ao12,co12,eo12⟩:=Kd.R_slice HO375.out;subst eo12)|(go_at_call 13;(with_reducible refine (marlinspikeref05_Same.calls k _ _ t367 _ _ y373 true _ ?side1 ?side2 ?side3 ?side4 A3.out).mono ?_);(case side1 => repeat (first|exact (Kd.R_reads' HO369.out).2.2|(with_reducible refine Kd.C_alloc ?_ _)|(with_reducible refine Kd.C_drewN ?_ _)|(with_reducible refine Kd.C_drew ?_)));(case side2 => exact (Kd.R_reads' HO369.out).2.1);(case side3 => repeat (first|exact (Kd.R_reads' HO375.out).2.2|(with_reducible refine Kd.C_alloc ?_ _)|(with_reducible refine Kd.C_drewN ?_ _)|(with_reducible refine Kd.C_drew ?_)));(case side4 => exact (Kd.R_reads' HO375.out).2.1);rintro e w' ⟨rfl,⟨nd,rfl⟩⟩)|(go_at_call 12;(with_reducible refine (host_Compress.calls k (fun k_ => some k_ = (.slice Ao11 t367.length co11 : Value).ownBlock) _ _ t367 t377 _ ?side1 A5.out (HG_.out.below (by repeat (first|(with_reducible first|exact HB.out|apply below_alloc|apply pw_below_drewN|apply below_drew1|refine below_set ?_ GE372.out)|exact HB.out)))).mono ?_);(case side1 => exact Kd.R_V (Kd.R_tight rfl (Kd.R_types (HO369.out) BK372.out (by decide))));rintro e w13 ⟨rfl,hb⟩;have n0_:=Aside0.mk (Kd.R_below (by (with_reducible repeat (first|apply Kd.R_alloc|apply Kd.R_drewN|apply Kd.R_drew));exact HO369.out) hb);have n1_:=Aside0.mk (Kd.R_below (by (with_reducible repeat (first|apply Kd.R_alloc|apply Kd.R_drewN|apply Kd.R_drew));exact HO375.out) hb);have n2_:=Aside0.mk (blk_below (g:=gb372) (o:=.cells #[.int .i64 t370,.int .i64 t371] 27 (0,0)) (by (with_reducible repeat (first|refine blk_drewN ?_ _|refine blk_drew ?_|refine blk_alloc ?_ _));exact BK372.out) hb);have n3_:=Aside0.mk (below_step (by repeat (first|(with_reducible first|exact HB.out|apply below_alloc|apply pw_below_drewN|apply below_drew1|refine below_set ?_ GE372.out)|exact HB.out)) hb);clear HO369;clear HO375;clear BK372;clear HB;have HO369:=n0_;have HO375:=n1_;have BK372:=n2_;have HB:=n3_;clear n0_ n1_ n2_ n3_;(try clear hb);(try clear hb2);(try clear hk);(try clear hi))));(go_ret);(exact ⟨by first|rfl|(simp [errW_none,errW_some] <;> rfl)|(simp [*,errW_none,errW_some] <;> rfl),by repeat (first|(with_reducible first|exact HB.out|apply below_alloc|apply pw_below_drewN|apply below_drew1|refine below_set ?_ GE372.out)|exact HB.out)⟩)
  ·(replace c4:=Bool.eq_false_iff.mpr c4);(subst c4);(have H1 : (some false) = some r:=by rw [if_neg (show ¬ (false = true) by decide)] at H;exact H);(clear H);(have H:=H1);(clear H1);(obtain rfl:=Option.some.inj H);(go_enter Tryd.func9,Tryd.ntmps9);(go_wp2_with (first|((with_reducible refine gate_callee (f:=11) rfl ?_);refine goesL_ (some 4) rfl rfl Tryd.func11 (by kernel_rfl) rfl #[.string (⟨#[110,91,49,45,51,44,48,55,45,48,56,93,44,109]⟩ : ByteArray)] rfl (by (try simp only [List.map_toArray,List.map_cons,List.map_nil]);first|done|rfl|(simp only [List.length_drop,List.length_take];rfl)) ?_;(with_reducible refine (host_Expand.calls k (⟨#[110,91,49,45,51,44,48,55,45,48,56,93,44,109]⟩ : ByteArray) t367 t370 t371 _ A1.out (HG_.out.below (by repeat (first|(with_reducible first|exact HB.out|apply below_alloc|apply pw_below_drewN|apply below_drew1)|exact HB.out)))).mono ?_);rintro e w14 ⟨v368,rfl,ho0,hb⟩;refine ⟨_,rfl,?_⟩;have n0_:=Aside0.mk (Kd.R_lower ho0 (below_size (by repeat (first|(with_reducible first|exact HB.out|apply below_alloc|apply pw_below_drewN|apply below_drew1)|exact HB.out))));have n1_:=Aside0.mk (below_step (by repeat (first|(with_reducible first|exact HB.out|apply below_alloc|apply pw_below_drewN|apply below_drew1)|exact HB.out)) hb);clear HB;have HO369:=n0_;have HB:=n1_;clear n0_ n1_;(try clear hb);(try clear hb2);(try clear hk);(try clear hi);(try clear ho0))|((with_reducible refine gate_dst (N:=2) rfl ?_);(try (refine gate_guard (by rfl) ?_;dsimp only));refine box_event ?hg (N:=2) ?hd (cs:=#[.int .i64 0,.int .i64 0]) (t:=27) ?hr ?_;(case hd => rfl);(case hg => rfl);(case hr => first|(go_simp;done)|(go_simp;rfl));intro gb372 hg w15 hbox hb;have n0_:=Aside0.mk (Kd.R_below (by (with_reducible repeat (first|apply Kd.R_alloc|apply Kd.R_drewN|apply Kd.R_drew));exact HO369.out) hb);have n1_:=Aside0.mk (below_step (by repeat (first|(with_reducible first|exact HB.out|apply below_alloc|apply pw_below_drewN|apply below_drew1)|exact HB.out)) hb);have n2_:=Aside0.mk (hbox);have n3_:=Aside0.mk ((by rw [hg];exact (below_size (by repeat (first|(with_reducible first|exact HB.out|apply below_alloc|apply pw_below_drewN|apply below_drew1)|exact HB.out))) : w.heap.size ≤ gb372));have n4_:=Aside0.mk ((by rw [hg];exact (below_size (by repeat (first|(with_reducible first|exact HB.out|apply below_alloc|apply pw_below_drewN|apply below_drew1)|exact HB.out))) : w.heap.size ≤ gb372));clear HO369;clear HB;have HO369:=n0_;have HB:=n1_;have BK372:=n2_;have GW372:=n3_;have GE372:=n4_;clear n0_ n1_ n2_ n3_ n4_;clear hb hbox hg;have hcz16_0 : w15.cell? ⟨gb372,0,none⟩ = some (.int .i64 0):=(blk_cell BK372.out 0).trans rfl;have hcz16_1 : w15.cell? ⟨gb372,1,none⟩ = some (.int .i64 0):=(blk_cell BK372.out 1).trans rfl;have hfz16_0:=blk_frozen BK372.out 0;have hfz16_1:=blk_frozen BK372.out 1)|((with_reducible refine gate_dst (N:=12) rfl ?_);(try (refine gate_guard (by rfl) ?_;dsimp only));refine Kd.R_lit Kd.string _ 9 ?hg (N:=12) ?hd (xs:=([(⟨#[110,49]⟩ : ByteArray),(⟨#[110,50]⟩ : ByteArray),(⟨#[110,51]⟩ : ByteArray),(⟨#[110,48,55]⟩ : ByteArray),(⟨#[110,48,56]⟩ : ByteArray),(⟨#[109]⟩ : ByteArray)] : List ByteArray)) (inner:=[.string (⟨#[110,49]⟩ : ByteArray),.string (⟨#[110,50]⟩ : ByteArray),.string (⟨#[110,51]⟩ : ByteArray),.string (⟨#[110,48,55]⟩ : ByteArray),.string (⟨#[110,48,56]⟩ : ByteArray),.string (⟨#[109]⟩ : ByteArray)]) (ok:=fun _ => True) (okp:=fun _ => True) ?hr ?hp (fun _ hk => hk) trivial (Below.refl _ _) (Nat.le_refl _) (by simp) ?_;(case hd => rfl);(case hg => rfl);(case hr => first|(go_simp;done)|(go_simp;rfl));(case hp => exact (Reps.one (show Kd.M Kd.string _ _ _ (⟨#[110,49]⟩ : ByteArray) [.string (⟨#[110,49]⟩ : ByteArray)] from rfl) (Reps.one (show Kd.M Kd.string _ _ _ (⟨#[110,50]⟩ : ByteArray) [.string (⟨#[110,50]⟩ : ByteArray)] from rfl) (Reps.one (show Kd.M Kd.string _ _ _ (⟨#[110,51]⟩ : ByteArray) [.string (⟨#[110,51]⟩ : ByteArray)] from rfl) (Reps.one (show Kd.M Kd.string _ _ _ (⟨#[110,48,55]⟩ : ByteArray) [.string (⟨#[110,48,55]⟩ : ByteArray)] from rfl) (Reps.one (show Kd.M Kd.string _ _ _ (⟨#[110,48,56]⟩ : ByteArray) [.string (⟨#[110,48,56]⟩ : ByteArray)] from rfl) (Reps.one (show Kd.M Kd.string _ _ _ (⟨#[109]⟩ : ByteArray) [.string (⟨#[109]⟩ : ByteArray)] from rfl) (Reps.none _ _))))))));intro v374 w17 ho18 hb hg_ hnew_;clear hg_ hnew_;(first|rw [← Ny373.out] at ho18|(simp only [Int.reduceToNat] at ho18;rw [← Ny373.out] at ho18));have n0_:=Aside0.mk (Kd.R_elder' (by (with_reducible repeat (first|apply Kd.R_alloc|apply Kd.R_drewN|apply Kd.R_drew));exact (Kd.R_mono (Kd.R_far (p:=⟨gb372,1,none⟩) (Kd.R_far (p:=⟨gb372,0,none⟩) (Kd.R_types HO369.out BK372.out (by decide)) (fun _ hk => hk.2) (.int .i64 t370)) (fun _ hk => hk.2) (.int .i64 t371)) (fun _ h_ => h_.1))) (Kd.R_base ho18) hb);have n1_:=Aside0.mk (Kd.R_lower (Kd.R_new' ho18 (Kd.R_lt (by (with_reducible repeat (first|apply Kd.R_alloc|apply Kd.R_drewN|apply Kd.R_drew));exact (Kd.R_mono (Kd.R_far (p:=⟨gb372,1,none⟩) (Kd.R_far (p:=⟨gb372,0,none⟩) (Kd.R_types HO369.out BK372.out (by decide)) (fun _ hk => hk.2) (.int .i64 t370)) (fun _ hk => hk.2) (.int .i64 t371)) (fun _ h_ => h_.1))))) (below_size (by repeat (first|(with_reducible first|exact HB.out|apply below_alloc|apply pw_below_drewN|apply below_drew1|refine below_set ?_ GE372.out)|exact HB.out))));have n2_:=Aside0.mk (blk_below (g:=gb372) (o:=.cells #[.int .i64 t370,.int .i64 t371] 27 (0,0)) (by (with_reducible repeat (first|refine blk_drewN ?_ _|refine blk_drew ?_|refine blk_alloc ?_ _));refine blk_put (cs:=#[.int .i64 t370,.int .i64 0]) ?_ 1 _ rfl;(with_reducible repeat (first|refine blk_drewN ?_ _|refine blk_drew ?_|refine blk_alloc ?_ _));refine blk_put (cs:=#[.int .i64 0,.int .i64 0]) ?_ 0 _ rfl;(with_reducible repeat (first|refine blk_drewN ?_ _|refine blk_drew ?_|refine blk_alloc ?_ _));exact BK372.out) hb);have n3_:=Aside0.mk (below_step (by repeat (first|(with_reducible first|exact HB.out|apply below_alloc|apply pw_below_drewN|apply below_drew1|refine below_set ?_ GE372.out)|exact HB.out)) hb);clear HO369;clear BK372;clear HB;have HO369:=n0_;have HO375:=n1_;have BK372:=n2_;have HB:=n3_;clear n0_ n1_ n2_ n3_;clear hb ho18;obtain ⟨Ao19,co19,eo19⟩:=Kd.R_slice HO369.out;subst eo19;obtain ⟨Ao20,co20,eo20⟩:=Kd.R_slice HO375.out;subst eo20)|(go_at_call 13;(with_reducible refine (marlinspikeref05_Same.calls k _ _ t367 _ _ y373 false _ ?side1 ?side2 ?side3 ?side4 A3.out).mono ?_);(case side1 => repeat (first|exact (Kd.R_reads' HO369.out).2.2|(with_reducible refine Kd.C_alloc ?_ _)|(with_reducible refine Kd.C_drewN ?_ _)|(with_reducible refine Kd.C_drew ?_)));(case side2 => exact (Kd.R_reads' HO369.out).2.1);(case side3 => repeat (first|exact (Kd.R_reads' HO375.out).2.2|(with_reducible refine Kd.C_alloc ?_ _)|(with_reducible refine Kd.C_drewN ?_ _)|(with_reducible refine Kd.C_drew ?_)));(case side4 => exact (Kd.R_reads' HO375.out).2.1);rintro e w' ⟨rfl,⟨nd,rfl⟩⟩)));(go_ret);(exact ⟨by first|rfl|(simp [errW_none,errW_some] <;> rfl)|(simp [*,errW_none,errW_some] <;> rfl),by repeat (first|(with_reducible first|exact HB.out|apply below_alloc|apply pw_below_drewN|apply below_drew1|refine below_set ?_ GE372.out)|exact HB.out)⟩)
 ·(rw [if_neg c2] at H);(have c2b0 : (t370 == 0 && (t371 == 0)) = false:=by simpa using c2);((try (have c2b1 : decide (t370 = 0 && (t371 == 0)) = false:=by simpa using c2)));((try (have c2b2 : (t370 == 0 && (t371 == 0)) = false:=by simpa using c2)));((try (have c2b3 : ¬ (t370 = 0 && (t371 == 0)):=by simpa using c2)));(clear c2);(obtain rfl:=Option.some.inj H);(go_enter Tryd.func9,Tryd.ntmps9);(go_wp2_with (first|((with_reducible refine gate_callee (f:=11) rfl ?_);refine goesL_ (some 4) rfl rfl Tryd.func11 (by kernel_rfl) rfl #[.string (⟨#[110,91,49,45,51,44,48,55,45,48,56,93,44,109]⟩ : ByteArray)] rfl (by (try simp only [List.map_toArray,List.map_cons,List.map_nil]);first|done|rfl|(simp only [List.length_drop,List.length_take];rfl)) ?_;(with_reducible refine (host_Expand.calls k (⟨#[110,91,49,45,51,44,48,55,45,48,56,93,44,109]⟩ : ByteArray) t367 t370 t371 _ A1.out (HG_.out.below (by repeat (first|(with_reducible first|exact HB.out|apply below_alloc|apply pw_below_drewN|apply below_drew1)|exact HB.out)))).mono ?_);rintro e w21 ⟨v368,rfl,ho0,hb⟩;refine ⟨_,rfl,?_⟩;have n0_:=Aside0.mk (Kd.R_lower ho0 (below_size (by repeat (first|(with_reducible first|exact HB.out|apply below_alloc|apply pw_below_drewN|apply below_drew1)|exact HB.out))));have n1_:=Aside0.mk (below_step (by repeat (first|(with_reducible first|exact HB.out|apply below_alloc|apply pw_below_drewN|apply below_drew1)|exact HB.out)) hb);clear HB;have HO369:=n0_;have HB:=n1_;clear n0_ n1_;(try clear hb);(try clear hb2);(try clear hk);(try clear hi);(try clear ho0))|((with_reducible refine gate_dst (N:=2) rfl ?_);(try (refine gate_guard (by rfl) ?_;dsimp only));refine box_event ?hg (N:=2) ?hd (cs:=#[.int .i64 0,.int .i64 0]) (t:=27) ?hr ?_;(case hd => rfl);(case hg => rfl);(case hr => first|(go_simp;done)|(go_simp;rfl));intro gb372 hg w22 hbox hb;have n0_:=Aside0.mk (Kd.R_below (by (with_reducible repeat (first|apply Kd.R_alloc|apply Kd.R_drewN|apply Kd.R_drew));exact HO369.out) hb);have n1_:=Aside0.mk (below_step (by repeat (first|(with_reducible first|exact HB.out|apply below_alloc|apply pw_below_drewN|apply below_drew1)|exact HB.out)) hb);have n2_:=Aside0.mk (hbox);have n3_:=Aside0.mk ((by rw [hg];exact (below_size (by repeat (first|(with_reducible first|exact HB.out|apply below_alloc|apply pw_below_drewN|apply below_drew1)|exact HB.out))) : w.heap.size ≤ gb372));have n4_:=Aside0.mk ((by rw [hg];exact (below_size (by repeat (first|(with_reducible first|exact HB.out|apply below_alloc|apply pw_below_drewN|apply below_drew1)|exact HB.out))) : w.heap.size ≤ gb372));clear HO369;clear HB;have HO369:=n0_;have HB:=n1_;have BK372:=n2_;have GW372:=n3_;have GE372:=n4_;clear n0_ n1_ n2_ n3_ n4_;clear hb hbox hg;have hcz23_0 : w22.cell? ⟨gb372,0,none⟩ = some (.int .i64 0):=(blk_cell BK372.out 0).trans rfl;have hcz23_1 : w22.cell? ⟨gb372,1,none⟩ = some (.int .i64 0):=(blk_cell BK372.out 1).trans rfl;have hfz23_0:=blk_frozen BK372.out 0;have hfz23_1:=blk_frozen BK372.out 1)));(go_ret);(exact ⟨by first|rfl|(simp [errW_none,errW_some] <;> rfl)|(simp [*,errW_none,errW_some] <;> rfl),by repeat (first|(with_reducible first|exact HB.out|apply below_alloc|apply pw_below_drewN|apply below_drew1|refine below_set ?_ GE372.out)|exact HB.out)⟩)
end Go.Proofs.YtoammgpfbdcphaaDoor.PH
end
section
namespace Go.Proofs.YtoammgpfbdcphaaDoor.PH
open Go.RowKit Go.Proofs.YtoammgpfbdcphaaDoor.Lib Go.Proofs.YtoammgpfbdcphaaDoorW.PrintWords Go.Proofs.YtoammgpfbdcphaaDoorW.PrintLast Go.Proofs.YtoammgpfbdcphaaDoorW.PrintMore
attribute [local go_sem] max2_int min2_int max_two min_two max_three min_three max_four min_four   
set_option linter.unusedVariables false
set_option linter.unusedSimpArgs false
attribute [local go_sem high] eqA27
end Go.Proofs.YtoammgpfbdcphaaDoor.PH
end
section
namespace Go.Proofs.YtoammgpfbdcphaaDoor.Hx
open Go.RowKit Go.Proofs.YtoammgpfbdcphaaDoor.Lib Go.Proofs.YtoammgpfbdcphaaDoor.PH Go.Proofs.YtoammgpfbdcphaaDoor.Txt Go.Proofs.YtoammgpfbdcphaaDoor.Num Go.Proofs.YtoammgpfbdcphaaDoor.Hn Go.Proofs.YtoammgpfbdcphaaDoorW.PrintWords Go.Proofs.YtoammgpfbdcphaaDoorW.PrintLast Go.Proofs.YtoammgpfbdcphaaDoorW.PrintMore
set_option linter.unusedVariables false
set_option linter.unusedSimpArgs false
theorem alive_ev : Ev (fun k => marlinspikelaw05_alive.f k) true := Ev.of (fun k => marlinspikelaw05_alive.mono k) (k := 60) (by kernel_rfl)
theorem same_l0 (l : List ByteArray) (hl : l.length ≤ 9000000000) : ∀ (d i : Nat), l.length - i = d → i ≤ l.length → Ev (fun k => marlinspikeref05_Same.l0 k l l (i : Int)) true := by
  intro d
  induction d with
  | zero =>
    intro i hd hi
    refine Ev.shift ⟨0, fun k hk => ?_⟩
    simp only [marlinspikeref05_Same.l0]
    rw [if_neg (by omega)]
  | succ d ih =>
    intro i hd hi
    obtain ⟨K, hK⟩ := ih (i + 1) (by omega) (by omega)
    dsimp only at hK
    refine Ev.shift ⟨K, fun k hk => ?_⟩
    simp only [marlinspikeref05_Same.l0]
    rw [if_pos (by omega), if_pos (by omega), if_pos (by omega), if_pos (by first | rfl | trivial), wrap_nat (by omega)]
    exact hK k hk
theorem same_ev (l : List ByteArray) (hl : l.length ≤ 9000000000) : Ev (fun k => marlinspikeref05_Same.f k l l) true := by
  obtain ⟨K, hK⟩ := same_l0 l hl _ 0 rfl (by omega)
  refine ⟨K, fun k hk => ?_⟩
  simp only [marlinspikeref05_Same.f]
  rw [if_pos (by first | rfl | trivial)]
  exact hK k hk
theorem one_num (n : Nat) : strOfNums [wrap64 (48 + Int.tmod (n : Int) 10) % 256] = mkB [UInt8.ofNat (48 + n % 10)] := by
  have e : wrap64 (48 + Int.tmod (n : Int) 10) % 256 = ((48 + n % 10 : Nat) : Int) := by
    rw [Int.tmod_eq_emod_of_nonneg (by omega)]; unfold wrap64; omega
  rw [e]; rfl
theorem tdiv_ten (n : Nat) (h : n ≤ 9000000000) : wrap64 (Int.tdiv (n : Int) 10) = ((n / 10 : Nat) : Int) := by
  rw [Int.tdiv_eq_ediv_of_nonneg (by omega)]; unfold wrap64; omega
theorem digits_l1 (w : Nat) (hw : w ≤ 1000) : ∀ (d : Nat) (acc : ByteArray), w - acc.size = d → Ev (fun k => marlinspikeref05_Digits.l1 k (w : Int) acc) (mkB (List.replicate (w - acc.size) 48 ++ L acc)) := by
  intro d
  induction d with
  | zero =>
    intro acc hd
    refine Ev.shift ⟨0, fun k hk => ?_⟩
    simp only [marlinspikeref05_Digits.l1]
    rw [if_neg (by omega), hd, List.replicate_zero, List.nil_append, mkB_L]
  | succ d ih =>
    intro acc hd
    have hz : ((⟨#[48]⟩ : ByteArray) ++ acc).size = acc.size + 1 := by rw [ByteArray.size_append, one_sz]; omega
    obtain ⟨K, hK⟩ := ih ((⟨#[48]⟩ : ByteArray) ++ acc) (by rw [hz]; omega)
    dsimp only at hK
    refine Ev.shift ⟨K, fun k hk => ?_⟩
    simp only [marlinspikeref05_Digits.l1]
    rw [if_pos (by omega), if_pos (by omega)]
    have h2 := hK k hk
    rw [hz, L_append, show L (⟨#[48]⟩ : ByteArray) = [48] from rfl, ← List.append_assoc, show w - (acc.size + 1) = d by omega, ← List.replicate_succ'] at h2
    rw [hd]
    exact h2
theorem digits_l0 (w : Nat) (r : ByteArray) : ∀ (n : Nat) (first : Bool) (acc : ByteArray), n ≤ 9000000000 → acc.size + n ≤ 18000000000 → (first = false → 0 < n) →
    Ev (fun k => marlinspikeref05_Digits.l1 k (w : Int) (mkB (Go.Lib.decDigits n ++ L acc))) r → Ev (fun k => marlinspikeref05_Digits.l0 k (n : Int) (w : Int) acc first) r := by
  intro n
  induction n using Nat.strongRecOn with
  | _ n ih =>
    intro first acc hn ha hf hr
    have key : Ev (fun k => marlinspikeref05_Digits.l0 k ((n / 10 : Nat) : Int) (w : Int) (mkB [UInt8.ofNat (48 + n % 10)] ++ acc) false) r := by
      by_cases h : n < 10
      · rw [Go.Lib.decDigits, dif_pos h] at hr
        obtain ⟨K, hK⟩ := hr
        dsimp only at hK
        refine Ev.shift ⟨K, fun k hk => ?_⟩
        simp only [marlinspikeref05_Digits.l0]
        rw [if_neg (by decide), if_neg (by omega), show n % 10 = n by omega]
        have e : mkB [UInt8.ofNat (48 + n)] ++ acc = mkB ([UInt8.ofNat (48 + n)] ++ L acc) := L_inj (by rw [L_append, L_mkB, L_mkB])
        rw [e]
        exact hK k hk
      · rw [Go.Lib.decDigits, dif_neg h] at hr
        refine ih (n / 10) (by omega) false _ (by omega) (by rw [ByteArray.size_append, mkB_size]; simp; omega) (fun _ => by omega) ?_
        rw [L_append, L_mkB, ← List.append_assoc]
        exact hr
    obtain ⟨K, hK⟩ := key
    dsimp only at hK
    refine Ev.shift ⟨K, fun k hk => ?_⟩
    have hz : (mkB [UInt8.ofNat (48 + n % 10)]).size = 1 := mkB_size _
    simp only [marlinspikeref05_Digits.l0]
    rw [tdiv_ten n hn]
    simp only [Option.bind_some]
    cases first with
    | true => rw [if_pos (by first | rfl | trivial), one_num, hz, if_pos (by omega)]; exact hK k hk
    | false => rw [if_neg (by decide), if_pos (by have := hf rfl; omega), one_num, hz, if_pos (by omega)]; exact hK k hk
theorem digits_ev (n w : Nat) (hn : n ≤ 9000000000) (hw : w ≤ 1000) : Ev (fun k => marlinspikeref05_Digits.f k (n : Int) (w : Int)) (mkB (padL w n)) := by
  have h1 := digits_l1 w hw _ (mkB (Go.Lib.decDigits n)) rfl
  rw [mkB_size, L_mkB] at h1
  have h2 := digits_l0 w _ n true (⟨#[]⟩ : ByteArray) hn (by show 0 + n ≤ _; omega) (fun h => by cases h) (by rw [show L (⟨#[]⟩ : ByteArray) = [] from rfl, List.append_nil]; exact h1)
  exact h2
end Go.Proofs.YtoammgpfbdcphaaDoor.Hx
end
