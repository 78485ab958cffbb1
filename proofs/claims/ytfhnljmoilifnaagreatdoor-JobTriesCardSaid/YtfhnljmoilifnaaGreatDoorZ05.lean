/- Part 5 of the proof. -/
import Derived.Test.YtfhnljmoilifnaaGreatDoorZ04
import Derived.LoopN
import Derived.Scope
section
namespace Go.Proofs.YtfhnljmoilifnaaGreatDoor.Ae
open Go
open Go.RowKit
set_option linter.unusedVariables false
set_option linter.unusedSimpArgs false
section
variable {P : Program} {G : Nat} {w0 : World} {ops : Array Oper} {s0 : St}
theorem readyA_spec {done : List Nat} {i : Nat} (h : readyA ops done i = true) : i ∉ done ∧ ∃ o, ops[i]? = some o ∧ ∀ e ∈ dirs o, e ∈ done := by
  unfold readyA at h
  simp only [Bool.and_eq_true, Bool.not_eq_true'] at h
  obtain ⟨h1, h2⟩ := h
  refine ⟨fun c => (by rw [List.contains_iff_mem.2 c] at h1; cases h1), ?_⟩
  cases ho : ops[i]? with
  | none => rw [ho] at h2; cases h2
  | some o =>
    rw [ho] at h2
    exact ⟨o, rfl, fun e he => List.contains_iff_mem.1 (List.all_eq_true.1 h2 e he)⟩
structure More (P : Program) (G : Nat) (w0 : World) (ops : Array Oper) (d d1 : Dn) (val val1 : Nat → Value) (lid lid1 : Nat → Option Nat) : Prop where mk ::
  old : ∀ i ∈ d.done, i ∈ d1.done ∧ val1 i = val i ∧ lid1 i = lid i
  new : ∀ i ∈ d1.done, i ∉ d.done → actsAt ops i = false ∧ ∀ b, lid1 i = some b → d.s.hp.n ≤ b
  rel : ∀ ρ w, Rel P G w0 ρ d.s.hp w → Rel P G w0 ρ d1.s.hp w
  n : d.s.hp.n ≤ d1.s.hp.n
theorem More.refl (d : Dn) (val : Nat → Value) (lid : Nat → Option Nat) : More P G w0 ops d d val val lid lid :=
  ⟨fun i hi => ⟨hi, rfl, rfl⟩, fun i hi hn => absurd hi hn, fun _ _ h => h, Nat.le_refl _⟩
theorem More.trans {d d1 d2 : Dn} {v v1 v2 : Nat → Value} {l l1 l2 : Nat → Option Nat} (h : More P G w0 ops d d1 v v1 l l1) (k : More P G w0 ops d1 d2 v1 v2 l1 l2) : More P G w0 ops d d2 v v2 l l2 := by
  refine ⟨fun i hi => ?_, fun i hi hn => ?_, fun ρ w hr => k.rel ρ w (h.rel ρ w hr), Nat.le_trans h.n k.n⟩
  · obtain ⟨a, b, c⟩ := h.old i hi
    obtain ⟨a', b', c'⟩ := k.old i a
    exact ⟨a', b'.trans b, c'.trans c⟩
  · by_cases h1 : i ∈ d1.done
    · obtain ⟨a, b⟩ := h.new i h1 hn
      obtain ⟨_, _, c⟩ := k.old i h1
      exact ⟨a, fun x hx => b x (by rw [← c]; exact hx)⟩
    · obtain ⟨a, b⟩ := k.new i hi h1
      exact ⟨a, fun x hx => Nat.le_trans h.n (b x hx)⟩
theorem satA_ok (hreg : regOk ops = true) (hs0 : s0.sz ≤ 1000) : ∀ (is : List Nat) (d d1 : Dn) (val : Nat → Value) (lid : Nat → Option Nat), satA P G ops is d = some d1 → CInv P G ops s0 d val lid →
    ∃ val1 lid1, CInv P G ops s0 d1 val1 lid1 ∧ More P G w0 ops d d1 val val1 lid lid1
  | [], d, d1, val, lid, h, hc => by
    cases h
    exact ⟨val, lid, hc, More.refl _ _ _⟩
  | i :: is, d, d1, val, lid, h, hc => by
    simp only [satA] at h
    cases hr : readyA ops d.done i with
    | false =>
      rw [hr, Bool.not_false, cond_true] at h
      exact satA_ok hreg hs0 is d d1 val lid h hc
    | true =>
      rw [hr, Bool.not_true, cond_false] at h
      obtain ⟨hno, o, ho, hdir⟩ := readyA_spec hr
      rw [ho] at h
      dsimp only at h
      cases ha : actsOp o.op with
      | true =>
        rw [ha, cond_true] at h
        exact satA_ok hreg hs0 is d d1 val lid h hc
      | false =>
        rw [ha, cond_false] at h
        have hact : actsAt ops i = false := by unfold actsAt; rw [ho]; exact ha
        have step : ∀ {v : Value} {hp2 : Hp} {s2 : St} {rds2 : List Rd} {li : Option Nat}, d.s.to o.dst v hp2 = some s2 → d.s.hp.n ≤ hp2.n → (∀ r ∈ d.rds, r ∈ rds2) → (∀ b, li = some b → d.s.hp.n ≤ b ∧ b < hp2.n) → (∀ ρ w, Rel P G w0 ρ d.s.hp w → Rel P G w0 ρ hp2 w) →
            guardOk ops o d.s.t = true ∧ ((wantA ops o d.s.t = false ∧ v = undef ∧ li = none) ∨ (wantA ops o d.s.t = true ∧ ∃ r ∈ rds2, r.i = i ∧ r.o = o ∧ r.t = d.s.t ∧ r.v = v ∧
              ((∃ ob mk b, r.b = some (b, ob) ∧ layOf P G o.op d.s.t = some (ob, mk) ∧ v = mk b ∧ li = some b) ∨ (r.b = none ∧ layOf P G o.op d.s.t = none ∧ li = none)))) →
            satA P G ops is ⟨i :: d.done, rds2, s2⟩ = some d1 → ∃ val1 lid1, CInv P G ops s0 d1 val1 lid1 ∧ More P G w0 ops d d1 val val1 lid lid1 := by
          intro v hp2 s2 rds2 li hto hn hrds hli hrel hhow hsat
          have hc2 := hc.add hreg hs0 ho hno hdir hto hn hrds hli (fun _ => hhow)
          obtain ⟨val1, lid1, h1, h2⟩ := satA_ok hreg hs0 is _ d1 _ _ hsat hc2
          refine ⟨val1, lid1, h1, More.trans ⟨fun j hj => ?_, fun j hj hn => ?_, fun ρ w hw => ?_, ?_⟩ h2⟩
          · have hji : j ≠ i := fun e => hno (e ▸ hj)
            exact ⟨List.mem_cons_of_mem _ hj, upd_ne _ _ _ hji, upd_ne _ _ _ hji⟩
          · rcases List.mem_cons.1 hj with rfl | hj
            · exact ⟨hact, fun b hb => by rw [upd_at] at hb; exact (hli b hb).1⟩
            · exact absurd hj hn
          · rw [(to_eq hto).1]; exact hrel ρ w hw
          · rw [(to_eq hto).1]; exact hn
        cases hgd : guardOk ops o d.s.t with
        | false => rw [hgd] at h; cases h
        | true =>
        rw [hgd, Bool.not_true, cond_false] at h
        cases hw : wantA ops o d.s.t with
        | false =>
          rw [hw, Bool.not_false, cond_true] at h
          cases hto : d.s.to o.dst undef d.s.hp with
          | none => rw [hto] at h; cases h
          | some s2 =>
            rw [hto] at h
            exact step hto (Nat.le_refl _) (fun _ hr => hr) (li := none) (fun b hb => by cases hb) (fun _ _ hr => hr) ⟨hgd, .inl ⟨hw, rfl, rfl⟩⟩ h
        | true =>
          rw [hw, Bool.not_true, cond_false] at h
          cases hl : layOf P G o.op d.s.t with
          | some q =>
            obtain ⟨ob, mk⟩ := q
            rw [hl] at h
            dsimp only at h
            cases hnew : d.s.hp.new ob with
            | none => rw [hnew] at h; cases h
            | some q =>
              obtain ⟨b, hp2⟩ := q
              rw [hnew] at h
              dsimp only at h
              obtain ⟨hb, _, hn2, _⟩ := Hp.new_eq hnew
              cases hto : d.s.to o.dst (mk b) hp2 with
              | none => rw [hto] at h; cases h
              | some s2 =>
                rw [hto] at h
                exact step hto (by omega) (fun r hr => List.mem_cons_of_mem _ hr) (li := some b) (fun b' hb' => by cases hb'; omega) (fun ρ w hr => hr.ahead hnew)
                  ⟨hgd, .inr ⟨hw, _, List.mem_cons_self .., rfl, rfl, rfl, rfl, .inl ⟨ob, mk, b, rfl, hl, rfl, rfl⟩⟩⟩ h
          | none =>
            rw [hl] at h
            dsimp only at h
            cases hb : bOp P G o d.s.t d.s.hp with
            | none => rw [hb] at h; cases h
            | some q =>
              obtain ⟨v, hp2⟩ := q
              rw [hb] at h
              dsimp only at h
              cases hto : d.s.to o.dst v d.s.hp with
              | none => rw [hto] at h; cases h
              | some s2 =>
                rw [hto] at h
                exact step hto (Nat.le_refl _) (fun r hr => List.mem_cons_of_mem _ hr) (li := none) (fun b hb => by cases hb) (fun _ _ hr => hr)
                  ⟨hgd, .inr ⟨hw, _, List.mem_cons_self .., rfl, rfl, rfl, rfl, .inr ⟨rfl, hl, rfl⟩⟩⟩ h
def Ls (listed : Array Bool) (i : Nat) : Prop := listed.getD i false = true
structure LInv (P : Program) (G : Nat) (w0 : World) (ops : Array Oper) (s0 : St) (ρ0 : Rho) (d : Dn) (val : Nat → Value) (lid : Nat → Option Nat) (listed : Array Bool) (a : Act) (w : World) (ρ : Rho) (tL : Tm) : Prop where mk ::
  size : listed.size = ops.size
  sub : ∀ i, Ls listed i → i ∈ d.done
  acts : ∀ i ∈ d.done, actsAt ops i = true → Ls listed i
  down : ∀ j o, Ls listed j → ops[j]? = some o → ∀ e ∈ dirs o, Ls listed e
  tr : TR ρ ⟨tL, s0.sz, d.s.hp⟩ a
  tmp : ∀ u, (tL.get DT u).getD undef = wr ops val s0.t (Ls listed) ops.size u
  rel : Rel P G w0 ρ d.s.hp w
  grow : Grow s0.hp d.s.hp ρ0 ρ
  unborn : ∀ i ∈ d.done, ¬ Ls listed i → ∀ b, lid i = some b → ρ b = none
theorem LInv.more {ρ0 ρ : Rho} {d d1 : Dn} {val val1 : Nat → Value} {lid lid1 : Nat → Option Nat} {listed : Array Bool} {a : Act} {w : World} {tL : Tm} (h : LInv P G w0 ops s0 ρ0 d val lid listed a w ρ tL) (m : More P G w0 ops d d1 val val1 lid lid1) :
    LInv P G w0 ops s0 ρ0 d1 val1 lid1 listed a w ρ tL := by
  refine ⟨h.size, fun i hi => (m.old i (h.sub i hi)).1, fun i hi ha => ?_, h.down, ⟨h.tr.sz, h.tr.le, h.tr.val, h.tr.df⟩, fun u => (h.tmp u).trans (wr_same _ (fun k _ _ => ⟨Iff.rfl, fun hk => ((m.old k (h.sub k hk)).2.1).symm⟩)), m.rel ρ w h.rel, h.grow.trans (Grow.same m.n ρ), fun i hi hn b hb => ?_⟩
  · by_cases hd : i ∈ d.done
    · exact h.acts i hd ha
    · have := (m.new i hi hd).1
      rw [ha] at this
      cases this
  · by_cases hd : i ∈ d.done
    · rw [(m.old i hd).2.2] at hb
      exact h.unborn i hd hn b hb
    · exact h.rel.fresh ((m.new i hi hd).2 b hb)
theorem ready_spec {listed : Array Bool} {i : Nat} (hsz : listed.size = ops.size) (h : i ∈ Region.ready .any ops listed) : ¬ Ls listed i ∧ i < ops.size ∧ ∃ o, ops[i]? = some o ∧ ∀ e ∈ dirs o, Ls listed e := by
  unfold Region.ready at h
  simp only [List.mem_filter, List.mem_range, Bool.and_eq_true, Bool.not_eq_true'] at h
  obtain ⟨hlt, h1, h2⟩ := h
  refine ⟨?_, hlt, ?_⟩
  · unfold Ls
    intro c
    have hlt' : i < listed.size := by omega
    simp [Array.getD, hlt'] at h1 c
    rw [h1] at c
    cases c
  · obtain ⟨o, ho⟩ : ∃ o, ops[i]? = some o := ⟨ops[i], by simp [hlt]⟩
    rw [ho] at h2
    simp only [Option.map_some, Option.getD_some] at h2
    refine ⟨o, ho, fun e he => ?_⟩
    unfold dirs at he
    simp only [List.mem_filterMap] at he
    obtain ⟨ed, hed, he⟩ := he
    cases hb : Region.binds .any ed with
    | false => rw [hb] at he; cases he
    | true =>
      rw [hb, cond_true] at he
      cases he
      have := (Array.all_eq_true_iff_forall_mem.1 h2) ed (by simpa using hed)
      rw [hb] at this
      simpa [Ls] using this
theorem ls_set {listed : Array Bool} {i : Nat} (hi : i < listed.size) (j : Nat) : Ls (listed.setIfInBounds i true) j ↔ (j = i ∨ Ls listed j) := by
  unfold Ls
  simp only [Array.getD_eq_getD_getElem?]
  by_cases h : i = j
  · subst h
    simp [hi]
  · rw [Array.getElem?_setIfInBounds_ne h]
    constructor
    · exact .inr
    · rintro (e | e)
      · exact absurd e.symm h
      · exact e
theorem put_ok {ρ : Rho} {tL : Tm} {sz : Nat} {hp hp2 : Hp} {a : Act} {dst : Option Tmp} {v v' : Value} (hT : TR ρ ⟨tL, sz, hp⟩ a) (hd : ∀ u, dst = some u → u < sz) (hv : VR ρ v v') :
    ∃ t2 : Tm, TR ρ ⟨t2, sz, hp2⟩ (a.put dst v') ∧ ∀ u, (t2.get DT u).getD undef = if dst = some u then v else (tL.get DT u).getD undef := by
  have hle : sz ≤ 1000 := hT.le
  have hto : ∃ s', (St.mk tL sz hp).to dst v hp2 = some s' := by
    rw [St.to_eq]
    cases dst with
    | none => exact ⟨_, rfl⟩
    | some u =>
      have : Nat.blt u sz = true := Nat.ble_eq_true_of_le (hd u rfl)
      dsimp only
      rw [this]
      exact ⟨_, rfl⟩
  obtain ⟨s', hto⟩ := hto
  obtain ⟨h1, h2⟩ := hT.put hto hv
  obtain ⟨_, e2, _, e4⟩ := to_eq hto
  refine ⟨s'.t, ⟨h1.sz.trans e2, hT.le, h1.val, h1.df⟩, e4 hle⟩
theorem LInv.put (hreg : regOk ops = true) {ρ0 ρ ρ' : Rho} {d d2 : Dn} {val val2 : Nat → Value} {lid lid2 : Nat → Option Nat} {listed : Array Bool} {a : Act} {w w2 : World} {tL : Tm} (h : LInv P G w0 ops s0 ρ0 d val lid listed a w ρ tL)
    {i : Nat} {o : Oper} (ho : ops[i]? = some o) (hno : ¬ Ls listed i) (hdir : ∀ e ∈ dirs o, Ls listed e) {v v' : Value} (hg : Grow d.s.hp d2.s.hp ρ ρ' ∨ (ρ.le ρ' ∧ d2.s.hp = d.s.hp ∧ ∀ b, b < d.s.hp.n → ρ' b = ρ b ∨ (lid i = some b ∧ s0.hp.n ≤ b)))
    (hR : Rel P G w0 ρ' d2.s.hp w2) (hv : VR ρ' v v') (hdst : ∀ u, o.dst = some u → u < s0.sz) (hd2 : ∀ j, j ∈ d2.done ↔ (j = i ∨ j ∈ d.done)) (hval : val2 i = v) (hval' : ∀ j, Ls listed j → val2 j = val j) (hlid2 : ∀ j ∈ d.done, j ≠ i → lid2 j = lid j) (hlids : ∀ j ∈ d.done, ∀ b, lid j = some b → b < d.s.hp.n)
    (hlone : ∀ j ∈ d.done, j ≠ i → ∀ b, lid j = some b → lid i = some b → i ∈ d.done → False) (hact : ∀ j ∈ d2.done, actsAt ops j = true → j = i ∨ j ∈ d.done) (hin : i ∈ d.done ∨ (Grow d.s.hp d2.s.hp ρ ρ')) :
    ∃ t2, LInv P G w0 ops s0 ρ0 d2 val2 lid2 (listed.setIfInBounds i true) (a.put o.dst v') w2 ρ' t2 := by
  have hlt : i < ops.size := by
    rcases Nat.lt_or_ge i ops.size with h | h
    · exact h
    · rw [Array.getElem?_eq_none h] at ho; cases ho
  have hls := fun j => ls_set (i := i) (listed := listed) (by rw [h.size]; exact hlt) j
  have hle : ρ.le ρ' := by rcases hg with hg | hg <;> exact hg.1
  obtain ⟨t2, ht2, hget⟩ := put_ok (hp2 := d2.s.hp) (h.tr.mono hle) hdst hv
  have hnle : d.s.hp.n ≤ d2.s.hp.n := by
    rcases hg with hg | hg
    · exact hg.2.2
    · rw [hg.2.1]; exact Nat.le_refl _
  refine ⟨t2, ⟨by simp [h.size], fun j hj => ?_, fun j hj ha => ?_, fun j p hj hp e he => ?_, ht2, fun u => ?_, hR, ⟨Rho.le_trans h.grow.1 hle, fun b hb => ?_, Nat.le_trans h.grow.2.2 hnle⟩, fun j hj hnj b hb => ?_⟩⟩
  · rcases (hls j).1 hj with rfl | hj
    · exact (hd2 j).2 (.inl rfl)
    · exact (hd2 j).2 (.inr (h.sub j hj))
  · rcases hact j hj ha with rfl | hj
    · exact (hls j).2 (.inl rfl)
    · exact (hls j).2 (.inr (h.acts j hj ha))
  · refine (hls e).2 (.inr ?_)
    rcases (hls j).1 hj with rfl | hj
    · rw [ho] at hp; cases hp
      exact hdir e he
    · exact h.down j p hj hp e he
  · rw [hget u]
    by_cases hd : o.dst = some u
    · rw [if_pos hd, wr_put (i := i) ((hls i).2 (.inl rfl)) ((dstAt_eq ho).trans hd) ops.size hlt (fun k h1 h2 h3 h4 => ?_), hval]
      rcases (hls k).1 h4 with rfl | h4
      · omega
      · have := (agree hreg h.down ho hdir hno h3 (dst_in hd)).1 h4
        omega
    · rw [if_neg hd, h.tmp u]
      refine wr_same _ (fun k _ hk => ⟨⟨fun hkd => (hls k).2 (.inr hkd), fun hkd => ?_⟩, fun hkd => (hval' k hkd).symm⟩)
      rcases (hls k).1 hkd with rfl | hkd
      · exact absurd ((dstAt_eq ho).symm.trans hk) hd
      · exact hkd
  · rcases hg with hg | ⟨_, _, hg⟩
    · rw [hg.2.1 b (Nat.lt_of_lt_of_le hb h.grow.2.2)]
      exact h.grow.2.1 b hb
    · rcases hg b (Nat.lt_of_lt_of_le hb h.grow.2.2) with e | e
      · rw [e]; exact h.grow.2.1 b hb
      · have := e.2; omega
  · have hji : j ≠ i := fun e => hnj ((hls j).2 (.inl e))
    have hjd : j ∈ d.done := by
      rcases (hd2 j).1 hj with e | e
      · exact absurd e hji
      · exact e
    have hjl : ¬ Ls listed j := fun c => hnj ((hls j).2 (.inr c))
    rw [hlid2 j hjd hji] at hb
    have hb0 := h.unborn j hjd hjl b hb
    have hbn := hlids j hjd b hb
    rcases hg with hg | ⟨_, _, hg⟩
    · rw [hg.2.1 b hbn]; exact hb0
    · rcases hg b hbn with e | e
      · rw [e]; exact hb0
      · rcases hin with hin | hin
        · exact (hlone j hjd hji b hb e.1 hin).elim
        · rw [hin.2.1 b hbn]; exact hb0
theorem min_unlisted {listed : Array Bool} (h : ∃ i, i < ops.size ∧ ¬ Ls listed i) : ∃ i, (i < ops.size ∧ ¬ Ls listed i) ∧ ∀ j, j < i → Ls listed j := by
  obtain ⟨i, hi⟩ := h
  induction i using Nat.strongRecOn with
  | _ i ih =>
    by_cases hj : ∃ j, j < i ∧ ¬ Ls listed j
    · obtain ⟨j, h1, h2⟩ := hj
      exact ih j h1 ⟨by omega, h2⟩
    · exact ⟨i, hi, fun j hj' => Classical.byContradiction fun c => hj ⟨j, hj', c⟩⟩
theorem all_of_none (hd : ∀ j o, ops[j]? = some o → ∀ e ∈ dirs o, e < j) {listed : Array Bool} (hsz : listed.size = ops.size) (h : Region.ready .any ops listed = []) : ∀ i, i < ops.size → Ls listed i := by
  intro i hi
  apply Classical.byContradiction
  intro hc
  obtain ⟨j, ⟨h1, h2⟩, h3⟩ := min_unlisted (ops := ops) (listed := listed) ⟨i, hi, hc⟩
  have hm : j ∈ Region.ready .any ops listed := by
    unfold Region.ready
    simp only [List.mem_filter, List.mem_range, Bool.and_eq_true, Bool.not_eq_true']
    have hlt : j < listed.size := by omega
    refine ⟨h1, ?_, ?_⟩
    · unfold Ls at h2
      simp [Array.getD, hlt] at h2 ⊢
      exact h2
    · obtain ⟨o, ho⟩ : ∃ o, ops[j]? = some o := ⟨ops[j], by simp [h1]⟩
      rw [ho]
      simp only [Option.map_some, Option.getD_some]
      refine Array.all_eq_true_iff_forall_mem.2 (fun ed hed => ?_)
      cases hb : Region.binds .any ed with
      | false => rfl
      | true =>
        have : ed.on ∈ dirs o := by
          unfold dirs
          simp only [List.mem_filterMap]
          exact ⟨ed, by simpa using hed, by rw [hb]; rfl⟩
        have := h3 ed.on (hd j o ho ed.on this)
        unfold Ls at this
        simp [this]
  rw [h] at hm
  cases hm
theorem draw_ok {cf : CallF} (hcf : CallOk P G w0 cf) (hreg : regOk ops = true) (hs0 : s0.sz ≤ 1000) (hG0 : G ≤ s0.hp.n) {ρ0 : Rho} {sF : St} {Q : Exit → Act → World → Prop} (hQ : Leads P G w0 ρ0 s0.hp sF (Q .normal)) :
    ∀ (fuel m : Nat) (d : Dn) (val : Nat → Value) (lid : Nat → Option Nat) (listed : Array Bool) (a : Act) (w : World) (ρ : Rho) (tL : Tm), contA P G cf ops (drawGo P G cf ops m) d = some sF → d.rds.all (staysA P G ops d.done d.s.hp) = true → CInv P G ops s0 d val lid → (∀ i ∈ d.done, actsAt ops i = true → lid i = none) →
      LInv P G w0 ops s0 ρ0 d val lid listed a w ρ tL → ((List.range ops.size).filter fun i => !listed.getD i false).length ≤ fuel → wpAny P .any ops Q fuel listed a w := by
  obtain ⟨hd, _⟩ := regOk_spec hreg
  have fin : ∀ (m : Nat) (d : Dn) (val : Nat → Value) (lid : Nat → Option Nat) (listed : Array Bool) (a : Act) (w : World) (ρ : Rho) (tL : Tm), contA P G cf ops (drawGo P G cf ops m) d = some sF → CInv P G ops s0 d val lid → LInv P G w0 ops s0 ρ0 d val lid listed a w ρ tL → (∀ i, i < ops.size → Ls listed i) → Q .normal a w := by
    intro m d val lid listed a w ρ tL h hc hl hall
    have hdone : ∀ i, i < ops.size → i ∈ d.done := fun i hi => hl.sub i (hall i hi)
    have hnil : (List.range ops.size).filter (readyA ops d.done) = [] := by
      rw [List.filter_eq_nil_iff]
      intro i hi hc'
      exact (readyA_spec hc').1 (hdone i (List.mem_range.1 hi))
    unfold contA at h
    rw [hnil] at h
    dsimp only at h
    cases hb : Nat.beq d.done.length ops.size with
    | false => rw [hb] at h; cases h
    | true =>
      rw [hb] at h
      cases h
      refine hQ ρ a w hl.grow ⟨hl.tr.sz.trans hc.sz.symm, by rw [hc.sz]; exact hs0, fun u => ?_, hl.tr.df⟩ hl.rel
      have h1 := hl.tr.val u
      dsimp only at h1
      rw [hl.tmp u] at h1
      rw [hc.tmp u]
      rwa [wr_same (L := (· ∈ d.done)) (L' := Ls listed) ops.size (fun k hk _ => ⟨⟨fun _ => hall k hk, fun _ => hdone k hk⟩, fun _ => rfl⟩)]
  intro fuel
  induction fuel with
  | zero =>
    intro m d val lid listed a w ρ tL h hst hc hla hl hf
    have hall : ∀ i, i < ops.size → Ls listed i := by
      intro i hi
      apply Classical.byContradiction
      intro hcn
      have : i ∈ (List.range ops.size).filter fun i => !listed.getD i false := by
        rw [List.mem_filter]
        refine ⟨List.mem_range.2 hi, ?_⟩
        unfold Ls at hcn
        cases hx : listed.getD i false
        · rfl
        · exact absurd hx hcn
      have := List.length_pos_of_mem this
      omega
    refine ⟨?_, fin m d val lid listed a w ρ tL h hc hl hall⟩
    rw [List.eq_nil_iff_forall_not_mem]
    intro i hi
    obtain ⟨h1, h2, _⟩ := ready_spec hl.size hi
    exact h1 (hall i h2)
  | succ fuel ih =>
    intro m d val lid listed a w ρ tL h hst hc hla hl hf
    refine ⟨fun hn => fin m d val lid listed a w ρ tL h hc hl (all_of_none hd hl.size hn), fun i hi => ?_⟩
    obtain ⟨hno, hlt, o, ho, hdir⟩ := ready_spec hl.size hi
    have hfuel : ((List.range ops.size).filter fun j => !(listed.setIfInBounds i true).getD j false).length ≤ fuel := by
      have hsub : ((List.range ops.size).filter fun j => !(listed.setIfInBounds i true).getD j false).length < ((List.range ops.size).filter fun j => !listed.getD j false).length := by
        have hle : ∀ l : List Nat, (l.filter fun j => !(listed.setIfInBounds i true).getD j false).length ≤ (l.filter fun j => !listed.getD j false).length ∧ (i ∈ l → (l.filter fun j => !(listed.setIfInBounds i true).getD j false).length < (l.filter fun j => !listed.getD j false).length) := by
          intro l
          induction l with
          | nil => exact ⟨Nat.le_refl _, fun h => by cases h⟩
          | cons x xs ihx =>
            have hx := ls_set (listed := listed) (i := i) (by rw [hl.size]; exact hlt) x
            unfold Ls at hx
            simp only [List.filter_cons]
            by_cases hxi : x = i
            · have h1 : (listed.setIfInBounds i true).getD x false = true := hx.2 (.inl hxi)
              have h2 : listed.getD x false = false := by
                cases hb : listed.getD x false
                · rfl
                · exact absurd (show Ls listed i by unfold Ls; rw [← hxi]; exact hb) hno
              rw [h1, h2]
              simp only [Bool.not_true, Bool.not_false, Bool.false_eq_true, if_false, if_true, List.length_cons]
              exact ⟨by have := ihx.1; omega, fun _ => by have := ihx.1; omega⟩
            · have h1 : (listed.setIfInBounds i true).getD x false = listed.getD x false := by
                cases hb : listed.getD x false
                · cases hb2 : (listed.setIfInBounds i true).getD x false
                  · rfl
                  · rcases hx.1 hb2 with e | e
                    · exact absurd e hxi
                    · rw [hb] at e; cases e
                · exact hx.2 (.inr hb)
              rw [h1]
              cases hb : listed.getD x false
              · simp only [Bool.not_false, if_true, List.length_cons]
                refine ⟨by omega, fun hm => ?_⟩
                rcases List.mem_cons.1 hm with e | e
                · exact absurd e.symm hxi
                · have := ihx.2 e; omega
              · simp only [Bool.not_true, Bool.false_eq_true, if_false]
                refine ⟨ihx.1, fun hm => ?_⟩
                rcases List.mem_cons.1 hm with e | e
                · exact absurd e.symm hxi
                · exact ihx.2 e
        exact (hle _).2 (List.mem_range.2 hlt)
      omega
    have hagree : ∀ u ∈ tmpsOf ops o, (tL.get DT u).getD undef = wr ops val s0.t (· < i) ops.size u := fun u hu =>
      (hl.tmp u).trans (wr_same _ (fun k _ hk => ⟨agree hreg hl.down ho hdir hno hk hu, fun _ => rfl⟩))
    unfold wpOp
    rw [ho]
    dsimp only
    by_cases hid : i ∈ d.done
    · 
      have hact : actsOp o.op = false := by
        cases hx : actsOp o.op with
        | false => rfl
        | true => exact absurd (hl.acts i hid (by unfold actsAt; rw [ho]; exact hx)) hno
      obtain ⟨t, ht, hgd, hw⟩ := hc.how i hid o ho hact
      have heq : ∀ u ∈ tmpsOf ops o, (tL.get DT u).getD undef = (t.get DT u).getD undef := fun u hu => (hagree u hu).trans (ht u hu).symm
      have hwant := want_ok (ops := ops) (o := o) hl.tr (by rw [guard_congr heq]; exact hgd)
      have hwc := want_congr (ops := ops) (o := o) heq
      have hev := ev_congr (ops := ops) (o := o) heq
      have next : ∀ {v' : Value} {ρ' : Rho} {w2 : World}, (Grow d.s.hp d.s.hp ρ ρ' ∨ (ρ.le ρ' ∧ d.s.hp = d.s.hp ∧ ∀ b, b < d.s.hp.n → ρ' b = ρ b ∨ (lid i = some b ∧ s0.hp.n ≤ b))) → Rel P G w0 ρ' d.s.hp w2 → VR ρ' (val i) v' →
          wpAny P .any ops Q fuel (listed.setIfInBounds i true) (a.put o.dst v') w2 := by
        intro v' ρ' w2 hg hR hv
        obtain ⟨t2, hl2⟩ := hl.put hreg (d2 := d) (val2 := val) (lid2 := lid) ho hno hdir hg hR hv (hc.dst i hid o ho) (fun j => ⟨.inr, fun e => (by rcases e with rfl | e; exact hid; exact e)⟩) rfl (fun _ _ => rfl) (fun _ _ _ => rfl)
          (fun j hj b hb => (hc.lids j hj b hb).2) (fun j hj hji b h1 h2 h3 => hji (hc.lone j hj i h3 b h1 h2)) (fun j hj _ => .inr hj) (.inl hid)
        exact ih m d val lid _ _ _ _ _ h hst hc hla hl2 hfuel
      have notForced : (d.done.any (fun e => actsAt ops e && ahead ops e i)) = false := by
        cases hx : d.done.any (fun e => actsAt ops e && ahead ops e i) with
        | false => rfl
        | true =>
          exfalso
          obtain ⟨e, he, hb⟩ := List.any_eq_true.1 hx
          simp only [Bool.and_eq_true] at hb
          have hel := hl.acts e he hb.1
          have hlt' := hc.rng e he
          obtain ⟨p, hp⟩ : ∃ p, ops[e]? = some p := ⟨ops[e]'hlt', by simp [hlt']⟩
          exact hno (ahead_closed hd hl.down e p hp (hl.down e p hel hp) i hb.2)
      rcases hw with ⟨g1, g2, g3⟩ | ⟨g1, r, hr, r1, r2, r3, r4, g2⟩
      · rw [hwant, hwc, g1, if_neg (by decide)]
        exact next (.inl (Grow.refl _ _)) hl.rel (by rw [g2]; exact VR.undef)
      · rw [hwant, hwc, g1, if_pos rfl]
        left
        have hs := List.all_eq_true.1 hst r hr
        unfold staysA at hs
        rw [r1, notForced, Bool.false_or] at hs
        rcases g2 with ⟨ob, mk, b, k1, k2, k3, k4⟩ | ⟨k1, k2, k3⟩
        · rw [k1] at hs
          dsimp only at hs
          have hob := eqO_eq hs
          have hlay : layOf P G o.op tL = some (ob, mk) := by rw [layOf_congr hev]; exact k2
          obtain ⟨v', w1, x, e1, e2⟩ := lay_ok (s := ⟨tL, s0.sz, d.s.hp⟩) hl.rel hl.tr hlay
          have hbl := hc.lids i hid b k4
          obtain ⟨q1, q2, q3⟩ := e2.late hl.rel (hl.unborn i hid hno b k4) hbl.2 (Nat.le_trans hG0 hbl.1) hob
          unfold Oper.wp
          rw [e1]
          refine next (.inr ⟨q1, rfl, fun c hc' => ?_⟩) q2 (by rw [k3]; exact q3)
          by_cases hcb : c = b
          · subst hcb; exact .inr ⟨k4, hbl.1⟩
          · left; unfold Rho.put; rw [if_neg hcb]
        · rw [k1] at hs
          dsimp only at hs
          cases hb : bOp P G r.o r.t d.s.hp with
          | none => rw [hb] at hs; cases hs
          | some q =>
            obtain ⟨v, hp2⟩ := q
            rw [hb] at hs
            dsimp only at hs
            have hvv := eqV_eq _ _ hs
            rw [r2, r3, ← bOp_congr hev] at hb
            have hpp := bOp_same hact hb
            subst hpp
            obtain ⟨nx, v', w', ρ', e1, e2, e3, e4, e5⟩ := bOp_ok (s := ⟨tL, s0.sz, d.s.hp⟩) hl.rel hl.tr hb
            unfold Oper.wp
            rw [e1]
            rw [hvv, r4] at e5
            rcases e2 with rfl | ⟨rfl, rfl⟩
            · exact next (.inl e3) e4 e5
            · exact next (.inl e3) e4 e5
    · 
      have hready : readyA ops d.done i = true := by
        unfold readyA
        simp only [Bool.and_eq_true, Bool.not_eq_true']
        refine ⟨?_, ?_⟩
        · cases hx : d.done.contains i with
          | false => rfl
          | true => exact absurd (List.contains_iff_mem.1 hx) hid
        · rw [ho]
          exact List.all_eq_true.2 (fun e he => List.contains_iff_mem.2 (hl.sub e (hdir e he)))
      have hmem : i ∈ (List.range ops.size).filter (readyA ops d.done) := List.mem_filter.2 ⟨List.mem_range.2 hlt, hready⟩
      unfold contA at h
      split at h
      · rename_i hnil
        rw [hnil] at hmem
        cases hmem
      · rename_i e he
        rw [he] at hmem
        have hie : i = e := by simpa using hmem
        subst hie
        rw [ho] at h
        dsimp only at h
        cases hact : actsOp o.op with
        | false => rw [hact] at h; cases h
        | true =>
          rw [hact, Bool.not_true, cond_false] at h
          cases hdo : doOp P G cf ops o d.s with
          | none => rw [hdo] at h; cases h
          | some s1 =>
            rw [hdo] at h
            dsimp only at h
            unfold doOp at hdo
            cases hrun : runOp P G cf ops o d.s.t d.s.hp with
            | none => rw [hrun] at hdo; cases hdo
            | some q =>
              obtain ⟨v, hp2⟩ := q
              rw [hrun] at hdo
              dsimp only at hdo
              have hdirD : ∀ e ∈ dirs o, e ∈ d.done := fun e he => hl.sub e (hdir e he)
              have heq : ∀ u ∈ tmpsOf ops o, (tL.get DT u).getD undef = (d.s.t.get DT u).getD undef := fun u hu =>
                (hagree u hu).trans (((hc.tmp u).trans (wr_same _ (fun k _ hk => ⟨agree hreg hc.down ho hdirD hid hk hu, fun _ => rfl⟩))).symm)
              rw [← runOp_congr heq] at hrun
              refine runOp_ok (s := ⟨tL, s0.sz, d.s.hp⟩) hcf hrun hl.tr hl.rel Q (fun v' ρ' w2 e1 e2 e3 => ?_)
              cases m with
              | zero => cases h
              | succ m =>
                simp only [drawGo] at h
                cases hsat : satA P G ops (List.range ops.size) ⟨i :: d.done, d.rds, s1⟩ with
                | none => rw [hsat] at h; cases h
                | some d2 =>
                  rw [hsat] at h
                  dsimp only at h
                  cases hst2 : d2.rds.all (staysA P G ops d2.done d2.s.hp) with
                  | false => rw [hst2] at h; cases h
                  | true =>
                    rw [hst2, Bool.not_true, cond_false] at h
                    have hc2 := hc.add hreg hs0 ho hid hdirD hdo e1.2.2 (rds2 := d.rds) (fun _ hr => hr) (li := none) (fun b hb => by cases hb) (fun hx => by rw [hact] at hx; cases hx)
                    obtain ⟨f1, _, f3, _⟩ := to_eq hdo
                    have hne : ∀ j ∈ d.done, j ≠ i := fun j hj e => hid (e ▸ hj)
                    obtain ⟨t2, hl2⟩ := hl.put hreg (d2 := ⟨i :: d.done, d.rds, s1⟩) (val2 := upd val i v) (lid2 := upd lid i none) (ρ' := ρ') (v' := v') ho hno hdir (.inl (by dsimp only; rw [f1]; exact e1)) (by dsimp only; rw [f1]; exact e2) e3 (fun u hu => by rw [← hc.sz]; exact f3 u hu) (fun j => List.mem_cons) (upd_at _ _ _) (fun j hj => upd_ne _ _ _ (hne j (hl.sub j hj))) (fun j hj hji => upd_ne _ _ _ hji)
                      (fun j hj b hb => (hc.lids j hj b hb).2) (fun j hj hji b h1 h2 h3 => hid h3) (fun j hj _ => List.mem_cons.1 hj) (.inr (by dsimp only; rw [f1]; exact e1))
                    obtain ⟨val1, lid1, g1, g2⟩ := satA_ok (w0 := w0) hreg hs0 _ _ d2 _ _ hsat hc2
                    refine ih m d2 val1 lid1 _ _ _ _ _ h hst2 g1 (fun j hj ha => ?_) (hl2.more g2) hfuel
                    by_cases hj2 : j ∈ i :: d.done
                    · rw [(g2.old j hj2).2.2]
                      rcases List.mem_cons.1 hj2 with rfl | hjd
                      · exact upd_at _ _ _
                      · rw [upd_ne _ _ _ (hne j hjd)]
                        exact hla j hjd ha
                    · have := (g2.new j hj hj2).1
                      rw [ha] at this
                      cases this
      · cases h
theorem drawA_ok {cf : CallF} (hcf : CallOk P G w0 cf) (hm : P.follows .mixedOrders = true) {id : Nat} {s s' : St} (h : drawA P G cf ops s = some s') {ρ : Rho} {a : Act} {w : World} (hT : TR ρ s a) (hR : Rel P G w0 ρ s.hp w) (Q : Exit → Act → World → Prop)
    (hQ : Leads P G w0 ρ s.hp s' (Q .normal)) : (Code.region id ops true).wp P Q a w := by
  unfold drawA at h
  cases hreg : regOk ops with
  | false => rw [hreg] at h; cases h
  | true =>
    rw [hreg, cond_true] at h
    have hT1 := hT
    obtain ⟨hd, _⟩ := regOk_spec hreg
    simp only [drawGo] at h
    cases hsat : satA P G ops (List.range ops.size) ⟨[], [], s⟩ with
    | none => rw [hsat] at h; cases h
    | some d =>
      rw [hsat] at h
      dsimp only at h
      cases hst : d.rds.all (staysA P G ops d.done d.s.hp) with
      | false => rw [hst] at h; cases h
      | true =>
        rw [hst, Bool.not_true, cond_false] at h
        have hw0 : ∀ (val : Nat → Value) (n : Nat) (u : Tmp) (L : Nat → Prop), (∀ k, ¬ L k) → wr ops val s.t L n u = (s.t.get DT u).getD undef := by
          intro val n u L hL
          induction n with
          | zero => rfl
          | succ n ih => simp only [wr]; rw [if_neg (fun c => hL n c.1)]; exact ih
        have hc0 : CInv P G ops s ⟨[], [], s⟩ (fun _ => undef) (fun _ => none) :=
          ⟨fun i hi => (nomatch hi), List.nodup_nil, fun j o hj => (nomatch hj), fun u => (hw0 _ _ _ _ (fun k hk => (nomatch hk))).symm, rfl, fun i hi => (nomatch hi), fun i hi => (nomatch hi), fun i hi => (nomatch hi), fun i hi => (nomatch hi), Nat.le_refl _⟩
        have hnl : ∀ k, ¬ Ls (Array.replicate ops.size false) k := by
          intro k hk
          unfold Ls at hk
          rw [Array.getD_eq_getD_getElem?, Array.getElem?_replicate] at hk
          split at hk <;> cases hk
        have hl0 : LInv P G w0 ops s ρ ⟨[], [], s⟩ (fun _ => undef) (fun _ => none) (Array.replicate ops.size false) a { w with drawn := w.drawn + 1 } ρ s.t :=
          ⟨by simp, fun i hi => absurd hi (hnl i), fun i hi => (nomatch hi), fun j o hj => absurd hj (hnl j), ⟨hT.sz, hT.le, hT.val, hT.df⟩, fun u => (hw0 _ _ _ _ hnl).symm, hR.world ⟨rfl, rfl, rfl, Nat.le_refl _, fun _ _ => rfl⟩, Grow.refl _ _, fun i hi => (nomatch hi)⟩
        obtain ⟨val1, lid1, g1, g2⟩ := satA_ok (w0 := w0) hreg hT.le _ _ d _ _ hsat hc0
        refine wp_region_any hm (draw_ok hcf hreg hT.le hR.gle hQ ops.size ops.size d val1 lid1 _ a _ ρ s.t h hst g1 (fun j hj ha => ?_) (hl0.more g2) ?_)
        · have := (g2.new j hj (fun c => (nomatch c))).1
          rw [ha] at this
          cases this
        · exact Nat.le_trans (List.length_filter_le _ _) (by simp)
end
end Go.Proofs.YtfhnljmoilifnaaGreatDoor.Ae
end
section
namespace Go.Proofs.YtfhnljmoilifnaaGreatDoor.Ae
open Go
open Go.RowKit
set_option linter.unusedVariables false
set_option linter.unusedSimpArgs false
section
variable {P : Program} {G : Nat} {w0 : World}
def Ex.exit' : Ex → Exit
  | .normal => .normal
  | .exit id => .exit id
  | .ret => .ret
def CodeOk (P : Program) (G : Nat) (w0 : World) (rec : Code → St → Option (Ex × St)) : Prop := ∀ c s x s', rec c s = some (x, s') → ∀ ρ a w, TR ρ s a → Rel P G w0 ρ s.hp w → ∀ Q : Exit → Act → World → Prop, Leads P G w0 ρ s.hp s' (Q x.exit') → c.wp P Q a w
def resF (a : Act) : ResultVar → Sem Value
  | .tmp t => pure (a.tmps.getD t undef)
  | .cell a' t => do loadVar t (← asAddr (a.tmps.getD a' undef))
theorem results_run {fn : Func} {a : Act} {w : World} {vs' : List Value} (h : (fn.results.toList.mapM (resF a)).run P w = .ok vs' w) : (results fn a.tmps).run P w = .ok (if h : vs'.toArray.size = 1 then vs'.toArray[0] else .tuple vs'.toArray) w := by
  have e : results fn a.tmps = (do let vs ← fn.results.mapM (resF a); pure (if h : vs.size = 1 then vs[0] else .tuple vs)) := rfl
  rw [e, Array.mapM_eq_mapM_toList]
  simp only [Sem.run_bind, Sem.run_map, h, Result.andThen_ok, Sem.run_pure]
theorem results_ok {ρ : Rho} {s : St} {a : Act} {w : World} (hT : TR ρ s a) (hR : Rel P G w0 ρ s.hp w) : ∀ {rs : List ResultVar} {vs : List Value}, resA P s rs = some vs → ∃ vs', (rs.mapM (resF a)).run P w = .ok vs' w ∧ VRs ρ vs vs'
  | [], vs, h => by
    simp only [resA, Option.some.injEq] at h
    subst h
    exact ⟨[], rfl, VRs.nil⟩
  | .tmp i :: rs, vs, h => by
    simp only [resA] at h
    cases h1 : resA P s rs with
    | none => rw [h1] at h; cases h
    | some us =>
      rw [h1] at h
      cases h
      obtain ⟨us', g1, g2⟩ := results_ok hT hR h1
      refine ⟨_, ?_, VRs.cons (hT.val i) g2⟩
      rw [List.mapM_cons]
      simp only [resF, Sem.run_bind, Sem.run_pure, Result.andThen_ok, g1]
  | .cell ad t :: rs, vs, h => by
    simp only [resA] at h
    cases h0 : loadA P s.hp t ((s.t.get DT ad).getD undef) with
    | none => rw [h0] at h; cases h
    | some u =>
      cases h1 : resA P s rs with
      | none => rw [h0, h1] at h; cases h
      | some us =>
        rw [h0, h1] at h
        cases h
        obtain ⟨us', g1, g2⟩ := results_ok hT hR h1
        have hv := hT.val ad
        obtain ⟨u', k1, k2⟩ := load_ok hR h0 hv
        have hp : ∃ q, a.tmps.getD ad undef = .pointer (some q) := by
          unfold loadA at h0
          cases hq : addrOf ((s.t.get DT ad).getD undef) with
          | none => rw [hq] at h0; cases h0
          | some q =>
            rw [addrOf_eq hq] at hv
            obtain ⟨q, _, e⟩ := hv.ptr
            exact ⟨_, e⟩
        obtain ⟨q, hq⟩ := hp
        refine ⟨_, ?_, VRs.cons k2 g2⟩
        rw [List.mapM_cons]
        rw [hq] at k1
        have k1' : (loadVar t q).run P w = .ok u' w := by
          simpa only [Instr.loadAt, Instr.sureAddr, Sem.run_bind, Sem.run_pure, Result.andThen_ok] using k1
        simp only [resF, hq, asAddr, Sem.run_bind, Sem.run_pure, Result.andThen_ok, k1', g1]
theorem oneOr_ok {ρ : Rho} {vs vs' : List Value} (h : VRs ρ vs vs') : VR ρ (oneOr vs) (if h : vs'.toArray.size = 1 then vs'.toArray[0] else .tuple vs'.toArray) := by
  cases vs with
  | nil =>
    rw [h.inv_nil]
    exact VR.mkTuple VRs.nil
  | cons v vs =>
    cases vs with
    | nil =>
      obtain ⟨v', l, rfl, h1, h2⟩ := h.inv
      rw [h2.inv_nil]
      exact h1
    | cons u us =>
      obtain ⟨v', l, rfl, h1, h2⟩ := h.inv
      obtain ⟨u', l', rfl, h3, h4⟩ := h2.inv
      rw [dif_neg (by simp)]
      exact VR.mkTuple (VRs.cons h1 (VRs.cons h3 h4))
theorem args_get : ∀ (l : List Value) (i : Nat) (t : Tm), i + l.length ≤ 1000 → ∀ j, (argsT l i t).get DT j = if i ≤ j ∧ j < i + l.length then l[j - i]? else t.get DT j
  | [], i, t, h, j => by simp [argsT]; omega
  | v :: vs, i, t, h, j => by
    simp only [List.length_cons] at h
    simp only [argsT]
    rw [args_get vs (i + 1) _ (by omega) j, Tr.get_set v DT t i j (by unfold DT; omega)]
    by_cases h1 : i + 1 ≤ j ∧ j < i + 1 + vs.length
    · rw [if_pos h1, if_pos (by simp only [List.length_cons]; omega)]
      rw [show j - i = (j - (i + 1)) + 1 by omega, List.getElem?_cons_succ]
    · rw [if_neg h1]
      by_cases h2 : i = j
      · subst h2
        rw [if_pos rfl, if_pos (by simp only [List.length_cons]; omega), Nat.sub_self]
        rfl
      · rw [if_neg h2, if_neg (by simp only [List.length_cons]; omega)]
theorem enter_ok {ρ : Rho} {args args' : List Value} (h : VRs ρ args args') (n : Nat) (hn : n ≤ 1000) (hm1 : args.length ≤ n) (hp : Hp) : TR ρ ⟨argsT args 0 .nil, n, hp⟩ { tmps := args'.toArray ++ Array.replicate (n - args'.toArray.size) undef, defers := [] } := by
  have hl := h.length
  refine ⟨?_, hn, fun i => ?_, rfl⟩
  · simp only [Array.size_append, Array.size_replicate, List.size_toArray, hl]
    omega
  · dsimp only
    rw [args_get args 0 .nil (by omega) i, Tr.get_nil]
    simp only [Nat.zero_le, true_and, Nat.zero_add, Nat.sub_zero]
    by_cases hi : i < args.length
    · rw [if_pos hi]
      obtain ⟨v', g1, g2⟩ := h.get i args[i] (by simp [hi])
      have hi' : i < args'.length := by omega
      have e2 : (args'.toArray ++ Array.replicate (n - args'.toArray.size) undef).getD i undef = v' := by
        rw [Array.getD_eq_getD_getElem?, Array.getElem?_append_left (by simpa using hi')]
        simp [g1]
      rw [e2]
      simpa [hi] using g2
    · rw [if_neg hi]
      have e2 : (args'.toArray ++ Array.replicate (n - args'.toArray.size) undef).getD i undef = undef := by
        rw [Array.getD_eq_getD_getElem?, Array.getElem?_append_right (by simp; omega)]
        rw [Array.getElem?_replicate]
        split <;> rfl
      rw [e2]
      exact VR.undef
theorem callA_ok (hN : ∀ (f : Nat) (fn : Func), P.funcs[f]? = some fn → fn.name ≠ "runtime.NumGoroutine") {X : CallF} (hX : CallOk P G w0 X) {rec : Code → St → Option (Ex × St)} (hrec : CodeOk P G w0 rec) : CallOk P G w0 (callA P X rec) := by
  intro f args hp v hp' h ρ args' w ha hR
  unfold callA at h
  cases hx : X f args hp with
  | some r =>
    rw [hx] at h
    cases h
    exact hX f args hp v hp' hx ρ args' w ha hR
  | none =>
    rw [hx] at h
    dsimp only at h
    cases hf : P.funcs[f]? with
    | none => rw [hf] at h; cases h
    | some fn =>
      rw [hf] at h
      dsimp only at h
      cases hb : fn.body with
      | none => rw [hb] at h; cases h
      | some body =>
        rw [hb] at h
        dsimp only at h
        cases hsz : (Nat.ble fn.ntmps 1000 && Nat.ble args.length fn.ntmps) with
        | false => rw [hsz] at h; cases h
        | true =>
          rw [hsz, Bool.not_true, cond_false] at h
          simp only [Bool.and_eq_true] at hsz
          have hsz1 := Nat.le_of_ble_eq_true hsz.1
          have hsz2 := Nat.le_of_ble_eq_true hsz.2
          cases hr : rec body ⟨argsT args 0 .nil, fn.ntmps, hp⟩ with
          | none => rw [hr] at h; cases h
          | some q =>
            obtain ⟨x, s1⟩ := q
            rw [hr] at h
            have hx2 : (x = .normal ∨ x = .ret) ∧ ∃ vs, resA P s1 fn.results.toList = some vs ∧ v = oneOr vs ∧ hp' = s1.hp := by
              cases x with
              | exit id => cases h
              | normal =>
                dsimp only at h
                cases h1 : resA P s1 fn.results.toList with
                | none => rw [h1] at h; cases h
                | some vs => rw [h1] at h; cases h; exact ⟨.inl rfl, vs, rfl, rfl, rfl⟩
              | ret =>
                dsimp only at h
                cases h1 : resA P s1 fn.results.toList with
                | none => rw [h1] at h; cases h
                | some vs => rw [h1] at h; cases h; exact ⟨.inr rfl, vs, rfl, rfl, rfl⟩
            obtain ⟨hx3, vs, hvs, rfl, rfl⟩ := hx2
            refine .inr ⟨?_, ?_⟩
            · unfold callFunc
              have hne : (fn.name == "runtime.NumGoroutine") = false := by
                have := hN f fn hf
                simpa using this
              simp only [Sem.run_bind, run_program, Result.andThen_ok, hf]
              rw [if_neg (by rw [hne]; decide), if_neg (by rw [hb]; simp)]
              rfl
            · refine calls_of_wp hf hb ?_
              refine hrec body _ x s1 hr ρ _ w (enter_ok ha fn.ntmps hsz1 hsz2 hp) hR _ ?_
              intro ρ' a' w' g1 hT' hR'
              obtain ⟨vs', k1, k2⟩ := results_ok hT' hR' hvs
              have hres := results_run k1
              rcases hx3 with rfl | rfl <;> exact ⟨hT'.df, _, hres, _, rfl, ρ', g1, hR', oneOr_ok k2⟩
theorem loopA_ok {rec : Code → St → Option (Ex × St)} (hrec : CodeOk P G w0 rec) (c : Code) : ∀ (m : Nat) (s : St) (x : Ex) (s' : St), loopA rec c m s = some (x, s') → ∀ ρ a w, TR ρ s a → Rel P G w0 ρ s.hp w → ∀ Q : Exit → Act → World → Prop, Leads P G w0 ρ s.hp s' (Q x.exit') → Code.rounds P c Q m a w
  | 0, s, x, s', h, ρ, a, w, hT, hR, Q, hQ => by cases h
  | m + 1, s, x, s', h, ρ, a, w, hT, hR, Q, hQ => by
    simp only [loopA] at h
    rw [rounds_succ]
    cases hr : rec c s with
    | none => rw [hr] at h; cases h
    | some q =>
      obtain ⟨y, s1⟩ := q
      rw [hr] at h
      refine hrec c s y s1 hr ρ a w hT hR _ ?_
      intro ρ' a' w' g1 hT' hR'
      cases y with
      | normal => exact loopA_ok hrec c m s1 x s' h ρ' a' w' hT' hR' Q (fun ρ2 a2 w2 h2 => hQ ρ2 a2 w2 (g1.trans h2))
      | exit id => cases h; exact hQ ρ' a' w' g1 hT' hR'
      | ret => cases h; exact hQ ρ' a' w' g1 hT' hR'
theorem codeA_ok (hN : ∀ (f : Nat) (fn : Func), P.funcs[f]? = some fn → fn.name ≠ "runtime.NumGoroutine") (hm : P.follows .mixedOrders = true) {X : CallF} (hX : CallOk P G w0 X) {rec : Code → St → Option (Ex × St)} (hrec : CodeOk P G w0 rec) : CodeOk P G w0 (codeA P G X rec) := by
  intro c s x s' h ρ a w hT hR Q hQ
  have hcall := callA_ok hN hX hrec
  cases c with
  | skip => cases h; exact wp_skip (hQ ρ a w (Grow.refl _ _) hT hR)
  | label l => cases h; exact wp_label (hQ ρ a w (Grow.refl _ _) hT hR)
  | exit id => cases h; exact wp_exit (hQ ρ a w (Grow.refl _ _) hT hR)
  | ret => cases h; exact wp_ret (hQ ρ a w (Grow.refl _ _) hT hR)
  | region id ops draw =>
    simp only [codeA] at h
    cases draw with
    | true =>
      rw [cond_true] at h
      cases hd : drawA P G (callA P X rec) ops s with
      | none => rw [hd] at h; cases h
      | some s1 =>
        rw [hd] at h
        cases h
        exact drawA_ok hcall hm hd hT hR Q hQ
    | false =>
      rw [cond_false] at h
      cases hd : doOps P G (callA P X rec) ops ops.toList s with
      | none => rw [hd] at h; cases h
      | some s1 =>
        rw [hd] at h
        cases h
        refine wp_region ?_
        have := wpOps_eq_wpList (P := P) (ops := ops) (Q := Q) ops.toList 0 (fun j => by simp)
        rw [List.range_eq_range']
        have e : ops.toList.length = ops.size := by simp
        rw [← e, this]
        exact doOps_ok hcall Q ops.toList s s' ρ a w hd hT hR hQ
  | seq c1 c2 =>
    simp only [codeA] at h
    cases hr : rec c1 s with
    | none => rw [hr] at h; cases h
    | some q =>
      obtain ⟨y, s1⟩ := q
      rw [hr] at h
      refine wp_seq (hrec c1 s y s1 hr ρ a w hT hR _ ?_)
      intro ρ' a' w' g1 hT' hR'
      cases y with
      | normal => exact hrec c2 s1 x s' h ρ' a' w' hT' hR' Q (fun ρ2 a2 w2 h2 => hQ ρ2 a2 w2 (g1.trans h2))
      | exit id => cases h; exact hQ ρ' a' w' g1 hT' hR'
      | ret => cases h; exact hQ ρ' a' w' g1 hT' hR'
  | cond c1 x1 y1 =>
    simp only [codeA] at h
    cases hc : ev s.t c1 with
    | bool b =>
      rw [hc] at h
      have he : a.eval c1 = .bool b := (ev_flat hT (by rw [hc]; rfl)).trans hc
      refine wp_cond he ?_
      cases b with
      | true => exact hrec x1 s x s' h ρ a w hT hR Q hQ
      | false => exact hrec y1 s x s' h ρ a w hT hR Q hQ
    | _ => rw [hc] at h; cases h
  | block id c1 =>
    simp only [codeA] at h
    cases hr : rec c1 s with
    | none => rw [hr] at h; cases h
    | some q =>
      obtain ⟨y, s1⟩ := q
      rw [hr] at h
      refine wp_block (hrec c1 s y s1 hr ρ a w hT hR _ ?_)
      intro ρ' a' w' g1 hT' hR'
      cases y with
      | normal => cases h; exact hQ ρ' a' w' g1 hT' hR'
      | ret => cases h; exact hQ ρ' a' w' g1 hT' hR'
      | exit i =>
        dsimp only at h
        show if i = id then Q .normal a' w' else Q (.exit i) a' w'
        cases hb : Nat.beq i id with
        | true =>
          rw [hb] at h
          cases h
          rw [if_pos (eq_beq hb)]
          exact hQ ρ' a' w' g1 hT' hR'
        | false =>
          rw [hb] at h
          cases h
          rw [if_neg (fun e => by rw [beqT e] at hb; cases hb)]
          exact hQ ρ' a' w' g1 hT' hR'
  | loop c1 =>
    simp only [codeA] at h
    exact wp_loop_rounds 100000 (loopA_ok hrec c1 100000 s x s' h ρ a w hT hR Q hQ)
  | scope c1 =>
    simp only [codeA] at h
    refine wp_scope_straight (hrec c1 s x s' h ρ a w hT hR _ ?_)
    intro ρ' a' w' g1 hT' hR'
    cases x <;> exact hQ ρ' a' w' g1 hT' hR'
  | _ => cases h
theorem runA_ok (hN : ∀ (f : Nat) (fn : Func), P.funcs[f]? = some fn → fn.name ≠ "runtime.NumGoroutine") (hm : P.follows .mixedOrders = true) {X : CallF} (hX : CallOk P G w0 X) : ∀ n, CodeOk P G w0 (runA P G X n)
  | 0 => fun c s x s' h => by cases h
  | n + 1 => codeA_ok hN hm hX (runA_ok hN hm hX n)
end
end Go.Proofs.YtfhnljmoilifnaaGreatDoor.Ae
end
section
namespace Go.Proofs.YtfhnljmoilifnaaGreatDoor.Ae
open Go
open Go.RowKit
set_option linter.unusedVariables false
set_option linter.unusedSimpArgs false
noncomputable section
def eachM (f : Ex × St → Option (List (Ex × St))) : List (Ex × St) → Option (List (Ex × St))
  | [] => some []
  | q :: qs => match f q with
    | none => none
    | some l => match eachM f qs with
      | none => none
      | some m => some (l ++ m)
def thenM (f : St → Option (List (Ex × St))) (q : Ex × St) : Option (List (Ex × St)) := match q with
  | (.normal, s) => f s
  | q => some [q]
def blockM (id : Nat) (q : Ex × St) : Ex × St := match q with
  | (.exit i, s) => (bif Nat.beq i id then .normal else .exit i, s)
  | q => q
def loopM (rec : Code → St → Option (List (Ex × St))) (c : Code) : Nat → St → Option (List (Ex × St))
  | 0, _ => none
  | m + 1, s => match rec c s with
    | none => none
    | some l => eachM (thenM (loopM rec c m)) l
def isAny : Value → Bool
  | .chan (some 1) => true
  | _ => false
def isTmp : Operand → Bool
  | .tmp _ => true
  | _ => false
def codeM (P : Program) (G : Nat) (cf : CallF) (rec : Code → St → Option (List (Ex × St))) (c : Code) (s : St) : Option (List (Ex × St)) :=
  match c with
  | .skip | .label _ => some [(.normal, s)]
  | .exit id => some [(.exit id, s)]
  | .ret => some [(.ret, s)]
  | .region _ ops draw => (bif draw then drawA P G cf ops s else doOps P G cf ops ops.toList s).map (fun s => [(.normal, s)])
  | .seq a b => match rec a s with
    | none => none
    | some l => eachM (thenM (rec b)) l
  | .cond c x y => match ev s.t c with
    | .bool b => rec (bif b then x else y) s
    | v => bif isAny v && isTmp c then (match rec x s with
      | none => none
      | some l => match rec y s with
        | none => none
        | some m => some (l ++ m)) else none
  | .block id c => (rec c s).map (List.map (blockM id))
  | .loop c => loopM rec c 1000 s
  | .scope c => rec c s
  | _ => none
def runM (P : Program) (G : Nat) (cf : CallF) : Nat → Code → St → Option (List (Ex × St))
  | 0, _, _ => none
  | n + 1, c, s => codeM P G cf (runM P G cf n) c s
section
variable {P : Program} {G : Nat} {w0 : World}
def AllL (P : Program) (G : Nat) (w0 : World) (ρ : Rho) (hp : Hp) (l : List (Ex × St)) (Q : Exit → Act → World → Prop) : Prop := ∀ q ∈ l, Leads P G w0 ρ hp q.2 (Q q.1.exit')
def CodeMOk (P : Program) (G : Nat) (w0 : World) (rec : Code → St → Option (List (Ex × St))) : Prop := ∀ c s l, rec c s = some l → ∀ ρ a w, TR ρ s a → Rel P G w0 ρ s.hp w → ∀ Q : Exit → Act → World → Prop, AllL P G w0 ρ s.hp l Q → c.wp P Q a w
theorem eachM_ok {f : Ex × St → Option (List (Ex × St))} : ∀ {qs l : List (Ex × St)}, eachM f qs = some l → ∀ q ∈ qs, ∃ m, f q = some m ∧ ∀ r ∈ m, r ∈ l
  | [], l, h, q, hq => by cases hq
  | p :: qs, l, h, q, hq => by
    simp only [eachM] at h
    cases h1 : f p with
    | none => rw [h1] at h; cases h
    | some a =>
      rw [h1] at h
      dsimp only at h
      cases h2 : eachM f qs with
      | none => rw [h2] at h; cases h
      | some b =>
        rw [h2] at h
        cases h
        rcases List.mem_cons.1 hq with rfl | hq
        · exact ⟨a, h1, fun r hr => List.mem_append_left _ hr⟩
        · obtain ⟨m, g1, g2⟩ := eachM_ok h2 q hq
          exact ⟨m, g1, fun r hr => List.mem_append_right _ (g2 r hr)⟩
theorem loopM_ok {rec : Code → St → Option (List (Ex × St))} (hrec : CodeMOk P G w0 rec) (c : Code) : ∀ (m : Nat) (s : St) (l : List (Ex × St)), loopM rec c m s = some l → ∀ ρ a w, TR ρ s a → Rel P G w0 ρ s.hp w → ∀ Q : Exit → Act → World → Prop, AllL P G w0 ρ s.hp l Q → Code.rounds P c Q m a w
  | 0, s, l, h, ρ, a, w, hT, hR, Q, hQ => by cases h
  | m + 1, s, l, h, ρ, a, w, hT, hR, Q, hQ => by
    simp only [loopM] at h
    rw [rounds_succ]
    cases hr : rec c s with
    | none => rw [hr] at h; cases h
    | some l1 =>
      rw [hr] at h
      refine hrec c s l1 hr ρ a w hT hR _ ?_
      intro q hq ρ' a' w' g1 hT' hR'
      obtain ⟨l2, k1, k2⟩ := eachM_ok h q hq
      obtain ⟨y, s1⟩ := q
      cases y with
      | normal => exact loopM_ok hrec c m s1 l2 k1 ρ' a' w' hT' hR' Q (fun r hr ρ2 a2 w2 h2 => hQ r (k2 r hr) ρ2 a2 w2 (g1.trans h2))
      | exit id => cases k1; exact hQ (.exit id, s1) (k2 _ (by simp)) ρ' a' w' g1 hT' hR'
      | ret => cases k1; exact hQ (.ret, s1) (k2 _ (by simp)) ρ' a' w' g1 hT' hR'
theorem codeM_ok (hm : P.follows .mixedOrders = true) {cf : CallF} (hcf : CallOk P G w0 cf) {rec : Code → St → Option (List (Ex × St))} (hrec : CodeMOk P G w0 rec) : CodeMOk P G w0 (codeM P G cf rec) := by
  intro c s l h ρ a w hT hR Q hQ
  cases c with
  | skip => cases h; exact wp_skip (hQ (.normal, s) (by simp) ρ a w (Grow.refl _ _) hT hR)
  | label i => cases h; exact wp_label (hQ (.normal, s) (by simp) ρ a w (Grow.refl _ _) hT hR)
  | exit id => cases h; exact wp_exit (hQ (.exit id, s) (by simp) ρ a w (Grow.refl _ _) hT hR)
  | ret => cases h; exact wp_ret (hQ (.ret, s) (by simp) ρ a w (Grow.refl _ _) hT hR)
  | region id ops draw =>
    simp only [codeM] at h
    cases draw with
    | true =>
      rw [cond_true] at h
      cases hd : drawA P G cf ops s with
      | none => rw [hd] at h; cases h
      | some s1 =>
        rw [hd] at h
        cases h
        exact drawA_ok hcf hm hd hT hR Q (hQ (.normal, s1) (by simp))
    | false =>
      rw [cond_false] at h
      cases hd : doOps P G cf ops ops.toList s with
      | none => rw [hd] at h; cases h
      | some s1 =>
        rw [hd] at h
        cases h
        refine wp_region ?_
        have := wpOps_eq_wpList (P := P) (ops := ops) (Q := Q) ops.toList 0 (fun j => by simp)
        rw [List.range_eq_range']
        have e : ops.toList.length = ops.size := by simp
        rw [← e, this]
        exact doOps_ok hcf Q ops.toList s s1 ρ a w hd hT hR (hQ (.normal, s1) (by simp))
  | seq c1 c2 =>
    simp only [codeM] at h
    cases hr : rec c1 s with
    | none => rw [hr] at h; cases h
    | some l1 =>
      rw [hr] at h
      refine wp_seq (hrec c1 s l1 hr ρ a w hT hR _ ?_)
      intro q hq ρ' a' w' g1 hT' hR'
      obtain ⟨l2, k1, k2⟩ := eachM_ok h q hq
      obtain ⟨y, s1⟩ := q
      cases y with
      | normal => exact hrec c2 s1 l2 k1 ρ' a' w' hT' hR' Q (fun r hr ρ2 a2 w2 h2 => hQ r (k2 r hr) ρ2 a2 w2 (g1.trans h2))
      | exit id => cases k1; exact hQ (.exit id, s1) (k2 _ (by simp)) ρ' a' w' g1 hT' hR'
      | ret => cases k1; exact hQ (.ret, s1) (k2 _ (by simp)) ρ' a' w' g1 hT' hR'
  | cond c1 x1 y1 =>
    simp only [codeM] at h
    by_cases hb : ∃ b, ev s.t c1 = .bool b
    · obtain ⟨b, hc⟩ := hb
      rw [hc] at h
      have he : a.eval c1 = .bool b := (ev_flat hT (by rw [hc]; rfl)).trans hc
      refine wp_cond he ?_
      cases b with
      | true => exact hrec x1 s l h ρ a w hT hR Q hQ
      | false => exact hrec y1 s l h ρ a w hT hR Q hQ
    · have h2 : (bif isAny (ev s.t c1) && isTmp c1 then (match rec x1 s with
          | none => none
          | some l => match rec y1 s with
            | none => none
            | some m => some (l ++ m)) else none) = some l := by
        split at h
        · rename_i b hv; exact absurd ⟨b, hv⟩ hb
        · exact h
      cases ha : (isAny (ev s.t c1) && isTmp c1) with
      | false => rw [ha] at h2; cases h2
      | true =>
        rw [ha, cond_true] at h2
        simp only [Bool.and_eq_true] at ha
        obtain ⟨ha, htmp⟩ := ha
        have hev : ev s.t c1 = .chan (some 1) := by
          unfold isAny at ha
          split at ha
          · assumption
          · cases ha
        have he : ∃ b, a.eval c1 = .bool b := by
          cases c1 with
          | tmp i =>
            have hv := hT.val i
            have e : (s.t.get DT i).getD undef = .chan (some 1) := hev
            rw [e] at hv
            unfold VR at hv
            exact hv.2.1 rfl
          | const v => cases htmp
          | global g => cases hev
          | func f => cases hev
        obtain ⟨b, he⟩ := he
        cases hx : rec x1 s with
        | none => rw [hx] at h2; cases h2
        | some lx =>
          rw [hx] at h2
          dsimp only at h2
          cases hy : rec y1 s with
          | none => rw [hy] at h2; cases h2
          | some ly =>
            rw [hy] at h2
            cases h2
            refine wp_cond he ?_
            cases b with
            | true => exact hrec x1 s lx hx ρ a w hT hR Q (fun q hq => hQ q (List.mem_append_left _ hq))
            | false => exact hrec y1 s ly hy ρ a w hT hR Q (fun q hq => hQ q (List.mem_append_right _ hq))
  | block id c1 =>
    simp only [codeM] at h
    cases hr : rec c1 s with
    | none => rw [hr] at h; cases h
    | some l1 =>
      rw [hr] at h
      cases h
      refine wp_block (hrec c1 s l1 hr ρ a w hT hR _ ?_)
      intro q hq ρ' a' w' g1 hT' hR'
      have hq' := hQ (blockM id q) (List.mem_map.2 ⟨q, hq, rfl⟩)
      obtain ⟨y, s1⟩ := q
      cases y with
      | normal => exact hq' ρ' a' w' g1 hT' hR'
      | ret => exact hq' ρ' a' w' g1 hT' hR'
      | exit i =>
        show if i = id then Q .normal a' w' else Q (.exit i) a' w'
        unfold blockM at hq'
        dsimp only at hq'
        cases hb : Nat.beq i id with
        | true =>
          rw [hb] at hq'
          rw [if_pos (eq_beq hb)]
          exact hq' ρ' a' w' g1 hT' hR'
        | false =>
          rw [hb] at hq'
          rw [if_neg (fun e => by rw [beqT e] at hb; cases hb)]
          exact hq' ρ' a' w' g1 hT' hR'
  | loop c1 =>
    simp only [codeM] at h
    exact wp_loop_rounds 1000 (loopM_ok hrec c1 1000 s l h ρ a w hT hR Q hQ)
  | scope c1 =>
    simp only [codeM] at h
    refine wp_scope_straight (hrec c1 s l h ρ a w hT hR _ ?_)
    intro q hq ρ' a' w' g1 hT' hR'
    have hq' := hQ q hq ρ' a' w' g1 hT' hR'
    obtain ⟨y, s1⟩ := q
    cases y <;> exact hq'
  | _ => cases h
theorem runM_ok (hm : P.follows .mixedOrders = true) {cf : CallF} (hcf : CallOk P G w0 cf) : ∀ n, CodeMOk P G w0 (runM P G cf n)
  | 0 => fun c s l h => by cases h
  | n + 1 => codeM_ok hm hcf (runM_ok hm hcf n)
def answersM (P : Program) (rs : List ResultVar) (good : Value → Bool) : List (Ex × St) → Bool
  | [] => true
  | (.exit _, _) :: _ => false
  | (_, s) :: qs => (match resA P s rs with
    | some vs => good (oneOr vs)
    | none => false) && answersM P rs good qs
theorem answersM_ok {rs : List ResultVar} {good : Value → Bool} : ∀ {l : List (Ex × St)}, answersM P rs good l = true → ∀ q ∈ l, (q.1 = .normal ∨ q.1 = .ret) ∧ ∃ vs, resA P q.2 rs = some vs ∧ good (oneOr vs) = true
  | [], h, q, hq => by cases hq
  | (x, s) :: qs, h, q, hq => by
    cases x with
    | exit i => cases h
    | normal =>
      simp only [answersM, Bool.and_eq_true] at h
      rcases List.mem_cons.1 hq with rfl | hq
      · cases hr : resA P s rs with
        | none => rw [hr] at h; cases h.1
        | some vs => rw [hr] at h; exact ⟨.inl rfl, vs, rfl, h.1⟩
      · exact answersM_ok h.2 q hq
    | ret =>
      simp only [answersM, Bool.and_eq_true] at h
      rcases List.mem_cons.1 hq with rfl | hq
      · cases hr : resA P s rs with
        | none => rw [hr] at h; cases h.1
        | some vs => rw [hr] at h; exact ⟨.inr rfl, vs, rfl, h.1⟩
      · exact answersM_ok h.2 q hq
theorem callM_ok (hm : P.follows .mixedOrders = true) {cf : CallF} (hcf : CallOk P G w0 cf) {f : FuncId} {fn : Func} {body : Code} (hf : P.funcs[f]? = some fn) (hb : fn.body = some body) {n : Nat} {args args' : List Value} {hp : Hp} {l : List (Ex × St)} (h1 : fn.ntmps ≤ 1000) (h2 : args.length ≤ fn.ntmps)
    (h : runM P G cf n body ⟨argsT args 0 .nil, fn.ntmps, hp⟩ = some l) {good : Value → Bool} (hg : answersM P fn.results.toList good l = true) {ρ : Rho} {w : World} (ha : VRs ρ args args') (hR : Rel P G w0 ρ hp w) :
    Calls P f args'.toArray w fun e w' => ∃ v v' ρ', e = .returned v' ∧ good v = true ∧ VR ρ' v v' ∧ Below w0.heap.size w0 w' := by
  refine calls_of_wp hf hb ?_
  refine runM_ok hm hcf n body _ l h ρ _ w (enter_ok ha fn.ntmps h1 h2 hp) hR _ ?_
  intro q hq ρ' a' w' g1 hT' hR'
  obtain ⟨hx, vs, hvs, hgood⟩ := answersM_ok hg q hq
  obtain ⟨x, s1⟩ := q
  obtain ⟨vs', k1, k2⟩ := results_ok hT' hR' hvs
  have hres := results_run k1
  rcases hx with hx | hx <;> (dsimp only at hx; subst hx; exact ⟨hT'.df, _, hres, _, _, ρ', rfl, hgood, oneOr_ok k2, hR'.low⟩)
end
end
end Go.Proofs.YtfhnljmoilifnaaGreatDoor.Ae
end
