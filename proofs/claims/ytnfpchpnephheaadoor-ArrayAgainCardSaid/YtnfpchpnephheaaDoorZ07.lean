/- Every text that the program takes as an array gives an array that may be, and its own text reads back to the same array. -/
import Derived.Test.YtnfpchpnephheaaDoorZ04
import Derived.Test.YtnfpchpnephheaaDoorZ05
import Derived.Test.YtnfpchpnephheaaDoorZ06
import Derived.Test.YtnfpchpnephheaaDoorRows
import Derived.Test.YtnfpchpnephheaaDoorCards
import Derived.Test.YtnfpchpnephheaaDoorTie
import Derived.Test.YtnfpchpnephheaaDoorZ03
import Derived.Test.YtnfpchpnephheaaDoorZ02
import Derived.Lay
import Derived.WalkKit
import Derived.ProofKit
import Derived.OpenShut
import Derived.ShutString
import Derived.ChangeOld
import Derived.Below
import Derived.Carry
import Derived.SizedLaws
import Derived.Deep.DeepHandedRow
import Derived.Deep.DeepWitnessRowRef
import Derived.Stop.LaidErr
import Derived.Lib.LaidTab
import Derived.LaidMore
section
namespace Go.Proofs.YtnfpchpnephheaaDoor.Ar
open Go.RowKit Go.Proofs.YtnfpchpnephheaaDoor.Lib Go.Proofs.YtnfpchpnephheaaDoor.PA Go.Proofs.YtnfpchpnephheaaDoor.Txt Go.Proofs.YtnfpchpnephheaaDoor.Num Go.Proofs.YtnfpchpnephheaaDoor.Hn Go.Proofs.YtnfpchpnephheaaDoorW.PrintWords Go.Proofs.YtnfpchpnephheaaDoorW.PrintLast Go.Proofs.YtnfpchpnephheaaDoorW.PrintMore
set_option linter.unusedVariables false
set_option linter.unusedSimpArgs false
theorem good_incr : ∀ (l : List Int) (last : Int), (∀ x ∈ l, x ≤ 999999) → l.Pairwise (· < ·) → (∀ x ∈ l, last < x) → incr last l = true
  | [], _, _, _, _ => rfl
  | x :: l, last, h1, h2, h3 => by
    obtain ⟨p1, p2⟩ := List.pairwise_cons.1 h2
    simp only [incr]
    rw [good_incr l x (fun y hy => h1 y (by simp [hy])) p2 p1, decide_eq_true (h3 x (by simp)), decide_eq_true (h1 x (by simp))]
    rfl
theorem sound_right (xs : List Int) (lim : Int) (h : Sound xs) (h1 : 0 < xs.length) (hl : 0 ≤ lim ∧ lim ≤ 999999) : rightB (sortL xs) lim = true := by
  have hp : (sortL xs).Perm xs := List.mergeSort_perm xs _
  have hlen := hp.length_eq
  have hmem : ∀ x ∈ sortL xs, 0 ≤ x ∧ x ≤ 999999 := fun x hx => h.1 x (hp.mem_iff.1 hx)
  have hnd : (sortL xs).Nodup := hp.nodup_iff.2 h.2.1
  have hle : (sortL xs).Pairwise (fun x y => decide (x ≤ y) = true) := List.pairwise_mergeSort (fun a b c h1 h2 => by simp only [decide_eq_true_eq] at *; omega) (fun a b => by simp only [Bool.or_eq_true, decide_eq_true_eq]; omega) xs
  have hlt : (sortL xs).Pairwise (· < ·) := by
    have := List.Pairwise.and hle hnd
    exact this.imp (fun h => by
      obtain ⟨h1, h2⟩ := h
      simp only [decide_eq_true_eq] at h1
      omega)
  have hi := good_incr (sortL xs) (-1) (fun x hx => (hmem x hx).2) hlt (fun x hx => by have := (hmem x hx).1; omega)
  have h256 := h.2.2
  unfold rightB
  rw [hi, decide_eq_true (show 1 ≤ (sortL xs).length by omega), decide_eq_true (show (sortL xs).length ≤ 256 by omega), decide_eq_true hl.1, decide_eq_true hl.2]
  rfl
def Answer (r : Option PR) : Prop := ∃ xs lim y z, r = some (xs, lim, y, z) ∧ ((y = 0 ∧ z = 0 ∧ rightB xs lim = true) ∨ (¬ (y = 0 ∧ z = 0) ∧ xs = [] ∧ lim = 0))
theorem out_any (s : ByteArray) (xs : List Int) (lim : Int) (p y z : Int) (h : (y = 0 ∧ z = 0) → Sound xs ∧ 0 < xs.length ∧ 0 ≤ lim ∧ lim ≤ 999999) : Answer (parse_out xs lim (s, p, y, z)) := by
  unfold parse_out
  by_cases c : wellB (s, p, y, z) = true
  · have hyz : y = 0 ∧ z = 0 := by simpa [wellB] using c
    rw [if_pos c]
    obtain ⟨h1, h2, h3⟩ := h hyz
    exact ⟨_, _, _, _, rfl, .inl ⟨rfl, rfl, sound_right xs lim h1 h2 h3⟩⟩
  · rw [if_neg c]
    exact ⟨_, _, _, _, rfl, .inr ⟨by rintro ⟨rfl, rfl⟩; exact c rfl, rfl, rfl⟩⟩
theorem fin_any (s : ByteArray) (xs : List Int) (lim : Int) (p y z : Int) (h : (y = 0 ∧ z = 0) → Sound xs ∧ 0 < xs.length ∧ 0 ≤ lim ∧ lim ≤ 999999) : Answer (parse_fin s xs lim (s, p, y, z)) := by
  unfold parse_fin
  dsimp only
  split
  · obtain ⟨y', z', hw, hne⟩ := wrong_any s p y z p
    rw [hw, Option.bind_some]
    exact out_any s xs lim p y' z' (fun h => absurd h hne)
  · exact out_any s xs lim p y z h
theorem parse_all (s : ByteArray) (hs : s.size ≤ 5000) : Answer (array_Parse.f s) := by
  obtain ⟨xs, p, y, z, e, hp, hS, _, hw⟩ := parse_any s (by omega) (s.size + 2) [] 0 0 0 true (by omega) (by omega) (fun _ => by omega) ⟨by simp, List.nodup_nil, by simp⟩
  have e' : parse_l (s.size + 2) [] (s, 0, 0, 0) true = some (xs, (s, (p : Int), y, z)) := e
  have h256 := hS.2.2
  unfold array_Parse.f array_Parse.g
  rw [e', Option.bind_some]
  dsimp only
  rw [if_pos (by omega)]
  unfold parse_end
  obtain ⟨b, q, e2, l2, m2, w2⟩ := next_any s p hp (by omega) y z 37
  have e2' : pNext (s, (p : Int), y, z) 37 = some (b, (s, (q : Int), y, z)) := e2
  rw [e2', Option.bind_some]
  dsimp only
  cases b with
  | false =>
    rw [if_neg (by decide)]
    exact fin_any s xs 0 q y z (fun h => ⟨hS, (hw h).2 rfl, by omega, by omega⟩)
  | true =>
    rw [if_pos rfl]
    obtain ⟨u, p5, y5, z5, e5, l5, m5, u0, w5⟩ := num_any s q m2 (by omega) y z 1 (by omega)
    have e5' : pNum (s, (q : Int), y, z) 1 = some (u, (s, (p5 : Int), y5, z5)) := e5
    rw [e5', Option.bind_some]
    dsimp only
    exact fin_any s xs u p5 y5 z5 (fun h => by
      obtain ⟨q1, q2, v1, v2, v3⟩ := w5 h
      exact ⟨hS, (hw ⟨q1, q2⟩).2 rfl, by omega, v2⟩)
theorem alive_ev : Ev (fun k => marlinspikelaw08_alive.f k) true := Ev.of (fun k => marlinspikelaw08_alive.mono k) (k := 100) alive_t
theorem again_law (s : ByteArray) : ∃ k, marlinspikelaw08_ArrayAgain.f k s = some true := by
  obtain ⟨KA, hA⟩ := alive_ev
  dsimp only at hA
  by_cases hs : (s.size : Int) > 5000
  · refine ⟨KA, ?_⟩
    simp only [marlinspikelaw08_ArrayAgain.f]
    rw [if_pos hs, hA KA (Nat.le_refl _)]
    rfl
  · obtain ⟨xs, lim, y, z, e, h⟩ := parse_all s (by omega)
    rcases h with ⟨rfl, rfl, hr⟩ | ⟨hn, rfl, rfl⟩
    · obtain ⟨K1, h1⟩ := format_ev xs lim
      obtain ⟨K2, h2⟩ := right_ev xs lim
      obtain ⟨K3, h3⟩ := ints_ev xs (by have := (right_good hr).2.1; omega)
      dsimp only at h1 h2 h3
      have hpt := parse_text xs lim hr
      have hf : fmtOf xs lim = (mkB (textOf xs lim), 0) := by unfold fmtOf; rw [if_pos hr]
      refine ⟨KA + K1 + K2 + K3, ?_⟩
      simp only [marlinspikelaw08_ArrayAgain.f]
      rw [if_neg hs, e, Option.bind_some]
      dsimp only
      rw [if_neg (by decide), h1 _ (by omega), hf, Option.bind_some]
      dsimp only
      rw [hpt, Option.bind_some]
      dsimp only
      rw [h2 _ (by omega), Option.bind_some, if_pos hr, if_pos rfl, if_pos (by decide), h3 _ (by omega), Option.bind_some, if_pos rfl, if_pos rfl, hA _ (by omega)]
      rfl
    · refine ⟨KA, ?_⟩
      have hc : (!(y == 0) || (!(z == 0))) = true := by
        by_cases h0 : y = 0
        · have : ¬ z = 0 := fun h => hn ⟨h0, h⟩
          simp [this]
        · simp [h0]
      simp only [marlinspikelaw08_ArrayAgain.f]
      rw [if_neg hs, e, Option.bind_some]
      dsimp only
      rw [if_pos hc, if_pos (by rfl), if_pos rfl, hA KA (Nat.le_refl _)]
      rfl
end Go.Proofs.YtnfpchpnephheaaDoor.Ar
end
section
namespace Go.Proofs.YtnfpchpnephheaaDoor.arrayAgain
open Go.ChangeShapes Go.WideShapes Go.ChangeAt Go.RowKit
open Go.ChangeMaps (open_string shut_string)
open Go.Proofs.YtnfpchpnephheaaDoorW.PrintWords 
set_option linter.unusedVariables false
set_option maxRecDepth 100000
theorem own : ownKnob Tryd.prog.godebug = none := by kernel_rfl
theorem laidOut : laidOutB Tryd.prog = true := by kernel_rfl
theorem laid_met (os : Os) : laidMet Tryd.prog Rows.arrayAgainRow.laid ((World.laidAll Tryd.prog os Rows.arrayAgainRow.laid).forCall (fun _ _ => 0) ⟨#[], #[.string ⟨#[]⟩], []⟩).memory :=
  laidMet_laidAll _ (by kernel_rfl) (by kernel_rfl)
theorem witness_row (os : Os) {H : Type} (enc : TypeId × Value → H) :
    (OpenSpec.ofChange Rows.arrayAgainSpec).preRow enc Tryd.prog Tryd.f5 Rows.arrayAgainRow.domain false Rows.arrayAgainRow.laid ((World.laidAll Tryd.prog os Rows.arrayAgainRow.laid).forCall (fun _ _ => 0) ⟨#[], #[.string ⟨#[]⟩], []⟩).memory #[.string ⟨#[]⟩] := by
  have hw : (DataW.whole enc Tryd.prog ((World.laidAll Tryd.prog os Rows.arrayAgainRow.laid).forCall (fun _ _ => 0) ⟨#[], #[.string ⟨#[]⟩], []⟩).memory Tryd.f5.params.toList (OpenSpec.ofChange Rows.arrayAgainSpec).vars false #[.string ⟨#[]⟩].toList 8).map (fun x => (x.1, x.2.1)) =
      some ([.lit (.string [])], []) := by kernel_rfl
  obtain ⟨⟨x1, x2, x3⟩, hx, hx1⟩ := Option.map_eq_some_iff.1 hw
  simp only [Prod.mk.injEq] at hx1
  obtain ⟨rfl, rfl⟩ := hx1
  exact OpenSpec.preRow_of_cond 8 hx (by kernel_rfl) (fun k hk => by cases hk) (by kernel_rfl) (laid_met os)
theorem star : "*" ++ "errors.errorString" = "*errors.errorString" := by decide
theorem row_err (u : TypeId) (h : Tryd.prog.typeName? 3 u = some "*errors.errorString") : u = 143 :=
  typeName_ptr_named (nm := "errors.errorString") (by rw [star]; kernel_rfl) (by kernel_rfl) (by decide) u (by rw [star]; exact h)
theorem glob {W : World} (h : laidMetH Tryd.prog Rows.arrayAgainRow.laid W) : Lib.Glob W := by
  rw [MakeChecks.laidMetH_plain _ _ _ (by kernel_rfl)] at h
  have h0 : laidMet Tryd.prog Rows.arrayAgainRow.laid W := h
  have h1 : laidMet Tryd.prog [("math/bits.deBruijn64tab", Rows.laid_math_bits_deBruijn64tab), ("internal/strconv.uint64pow10", Rows.laid_internal_strconv_uint64pow10), ("unicode/utf8.acceptRanges", Rows.laid_unicode_utf8_acceptRanges), ("strconv.ErrRange", Rows.laid_strconv_ErrRange), ("strconv.ErrSyntax", Rows.laid_strconv_ErrSyntax), ("unicode/utf8.first", Rows.laid_unicode_utf8_first)] W := laidMet.tail h0
  have h2 : laidMet Tryd.prog [("internal/strconv.uint64pow10", Rows.laid_internal_strconv_uint64pow10), ("unicode/utf8.acceptRanges", Rows.laid_unicode_utf8_acceptRanges), ("strconv.ErrRange", Rows.laid_strconv_ErrRange), ("strconv.ErrSyntax", Rows.laid_strconv_ErrSyntax), ("unicode/utf8.first", Rows.laid_unicode_utf8_first)] W := laidMet.tail h1
  have h3 : laidMet Tryd.prog [("unicode/utf8.acceptRanges", Rows.laid_unicode_utf8_acceptRanges), ("strconv.ErrRange", Rows.laid_strconv_ErrRange), ("strconv.ErrSyntax", Rows.laid_strconv_ErrSyntax), ("unicode/utf8.first", Rows.laid_unicode_utf8_first)] W := laidMet.tail h2
  have h4 : laidMet Tryd.prog [("strconv.ErrRange", Rows.laid_strconv_ErrRange), ("strconv.ErrSyntax", Rows.laid_strconv_ErrSyntax), ("unicode/utf8.first", Rows.laid_unicode_utf8_first)] W := laidMet.tail h3
  have h5 : laidMet Tryd.prog [("strconv.ErrSyntax", Rows.laid_strconv_ErrSyntax), ("unicode/utf8.first", Rows.laid_unicode_utf8_first)] W := laidMet.tail h4
  have h6 : laidMet Tryd.prog [("unicode/utf8.first", Rows.laid_unicode_utf8_first)] W := laidMet.tail h5
  have h7 : laidMet Tryd.prog [] W := laidMet.tail h6
  obtain ⟨a1, s1, v1, _⟩ := laid_sentinel (g := 2) h5 (by kernel_rfl) (by kernel_rfl) Tryd.underlying68 row_err Tryd.underlying143 Tryd.underlying145 rfl rfl Tryd.underlying9 (by kernel_rfl) (by kernel_rfl)
  obtain ⟨a2, s2, v2, _⟩ := laid_sentinel (g := 3) h4 (by kernel_rfl) (by kernel_rfl) Tryd.underlying68 row_err Tryd.underlying143 Tryd.underlying145 rfl rfl Tryd.underlying9 (by kernel_rfl) (by kernel_rfl)
  refine ⟨Go.Lib.tabIs_of_head Lib.g_tab (by kernel_rfl) Tryd.underlying124 Tryd.underlying100 (by kernel_rfl) (by kernel_rfl) h2, ⟨_, _, v1⟩, ⟨_, _, v2⟩⟩
set_option maxHeartbeats 4000000 in
theorem lifted (os : Os) (started : os.Started) (H : Type) (enc : TypeId × Value → H) (F : Stop.Interp) :
    ReturnsInHanded {} Tryd.checked os 5 .any ((OpenSpec.ofChange Rows.arrayAgainSpec).preRow enc Tryd.prog Tryd.f5 Rows.arrayAgainRow.domain false Rows.arrayAgainRow.laid) (((OpenSpec.ofChange Rows.arrayAgainSpec).at F).post enc Tryd.prog Tryd.f5 false true false false) := by
  refine returnsInHanded_of_row (C := Tryd.checked) (s := (OpenSpec.ofChange Rows.arrayAgainSpec)) own started (by kernel_rfl) Tryd.func5
    (witness_row_atRef (enc := enc) (C := Tryd.checked) false (World.laidAll Tryd.prog os Rows.arrayAgainRow.laid) #[.string ⟨#[]⟩] (World.laidAll_os _ _ _) (by kernel_rfl) (by kernel_rfl) (by kernel_rfl) (witness_row os enc)) ?_
  intro W base args ds gs before hval0 hW _ _ hsz0 hL _ _
  have hsz : (DataW.weightsEach Tryd.prog (Tryd.f5.params.toList ++ (OpenSpec.ofChange Rows.arrayAgainSpec).bare.plain.varTypes Tryd.prog) (ds ++ gs)).all (· ≤ reachBytes) = true := hsz0
  have hval : ∀ (j : Nat) t v, Tryd.f5.params[j]? = some t → args[j]? = some v → Value.okWide Tryd.prog W .any base t v := hval0
  have hG := glob hL
  have hW' := hW
  obtain ⟨p, q, hA0, hV, rfl, hfz, hnd⟩ := hW
  have hA : DataW.TrodAll enc Tryd.prog W 0 (fun _ => true) true Tryd.f5.params.toList args.toList ds p := hA0
  rw [Tryd.params5] at hA hval hsz
  obtain ⟨v0, vs0, d0, ds0, p0, q0, hargs, rfl, rfl, t0, r0⟩ := trodAll_cons hA
  obtain ⟨rfl, rfl, rfl⟩ := trodAll_nil r0
  obtain rfl : args = #[v0] := by cases args; simp_all
  obtain ⟨rfl, rfl⟩ := trodVars_none hV
  have k0 := t0
  have y0 := hval 0 9 v0 rfl rfl
  obtain ⟨z0, rfl, rfl, rfl, yy0⟩ := open_string Tryd.underlying9 y0 t0
  have wz0 : z0.size ≤ 140737488351232 := by
    have z := sized_string hsz (j := 0) (t := 9) rfl rfl
    rw [Array.length_toList] at z
    exact z
  clear hA0 hval0 hsz0 hsz
  refine (PA.marlinspikelaw08_ArrayAgain.calls _ z0 true W (Ar.again_law z0).choose_spec hG).mono fun e W' ⟨he, bel⟩ => ?_
  subst he
  exact ⟨_, rfl, _, _, _, [], _, [], hW', trodAll_mk1 (shut_bool Tryd.underlying4 _), (trodAll_cons_mk (Below.trod laidOut (by kernel_rfl) (of_decide_eq_true (by kernel_rfl)) k0 bel (Op.trod_lt k0)) trodAll_mk0), rfl, bel.frame _, fun h => by cases h⟩
theorem said : Rows.ArrayAgainSaid :=
  OpenClaim.holds_of_cond 5 Tryd.f5 rfl rfl rfl rfl rfl rfl rfl ⟨rfl, rfl, rfl, rfl, rfl⟩ rfl rfl rfl rfl rfl (by kernel_rfl) Tryd.func5 (by kernel_rfl)
    (of_decide_eq_true (by kernel_rfl)) (by unfold Func.isWrapper; first | (rw [if_pos (by decide +kernel)]; kernel_rfl) | (rw [if_neg (by decide +kernel)]; exact ⟨rfl, rfl⟩))
    (fun os started H enc _ F => by rw [OpenClaim.pre_eq_preRow]; exact lifted os started H enc F)
theorem plain (f : FuncId) (fn : Func) (hf : Tryd.pinned.checked.prog.funcNamed "marlinspike/marlinspikelaw08.ArrayAgain" = some f) (hfn : Tryd.pinned.checked.prog.funcs[f]? = some fn) :
    true = Tryd.pinned.checked.prog.looks [] ∧ ∀ (j : Nat) t, fn.params[j]? = some t → Tryd.pinned.checked.prog.wantsStandIn t = false := by
  obtain rfl : f = 5 := Option.some.inj ((show Tryd.prog.funcNamed "marlinspike/marlinspikelaw08.ArrayAgain" = some 5 by kernel_rfl).symm.trans hf) |>.symm
  obtain rfl : fn = Tryd.f5 := (Option.some.inj (Tryd.func5.symm.trans hfn)).symm
  refine ⟨by kernel_rfl, fun j t ht => ?_⟩
  rw [Tryd.params5] at ht
  have := Array.mem_of_getElem? ht
  have all : (#[9] : Array TypeId).all (fun t => Tryd.prog.wantsStandIn t = false) = true := by kernel_rfl
  exact of_decide_eq_true (Array.all_eq_true_iff_forall_mem.1 all t this)
theorem card : Rows.ArrayAgainCardSaid :=
  Claim7.holds_tied_plain_at .later [] _ _ _ _ said (fun _ h => by cases h) (by kernel_rfl) (fun _ h => by cases h) arrayAgain_row_tie rfl ⟨rfl, rfl⟩ (by kernel_rfl) rfl plain (by kernel_rfl)
#print axioms card
end Go.Proofs.YtnfpchpnephheaaDoor.arrayAgain
namespace Go.Proofs.YtnfpchpnephheaaDoor
theorem arrayAgain_card : Rows.ArrayAgainCardSaid := arrayAgain.card
end Go.Proofs.YtnfpchpnephheaaDoor
end
