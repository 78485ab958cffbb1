/- Part 4 of the proof. -/
import Derived.Test.YtfhnljmoilifnaaGreatDoorZ03
section
namespace Go.Proofs.YtfhnljmoilifnaaGreatDoor.Ae
open Go
open Go.RowKit
set_option linter.unusedVariables false
set_option linter.unusedSimpArgs false
section
variable {P : Program} {G : Nat} {w0 : World} {ρ : Rho}
theorem append_ok {hp hp' : Hp} {w : World} (hR : Rel P G w0 ρ hp w) {ts : Array TypeId} {ty : TypeId} {args args' : List Value} {v : Value} (h : appendA P G hp ts args = some (v, hp')) (ha : VRs ρ args args') :
    ∃ v' w' ρ', (Builtin.append_ ts ty args'.toArray).run P w = .ok v' w' ∧ Grow hp hp' ρ ρ' ∧ Rel P G w0 ρ' hp' w' ∧ VR ρ' v v' := by
  unfold appendA at h
  split at h
  · rename_i st xt s x hts
    have e0 : ts = #[st, xt] := by
      apply Array.toList_inj.1
      simpa using hts
    subst e0
    obtain ⟨s', l1, rfl, hs, hl⟩ := ha.inv
    obtain ⟨x', l2, rfl, hx, hl⟩ := hl.inv
    have := hl.inv_nil
    subst this
    split at h
    · rename_i e xd hu hux
      cases hi : P.info? e with
      | none => rw [hi] at h; cases h
      | some i =>
        rw [hi] at h
        dsimp only at h
        split at h
        · rename_i z new k hz hc
          cases hb : (Nat.ble 1 i.size && Nat.ble i.bytes 100000 && Nat.beq z.cells.size i.size && srcOk xd x i.size && new.all scal && Nat.ble k 1000000) with
          | false => rw [hb, cond_false] at h; cases h
          | true =>
            rw [hb, cond_true] at h
            simp only [Bool.and_eq_true] at hb
            obtain ⟨⟨⟨⟨⟨p1, p2⟩, p3⟩, p4⟩, p5⟩, p6⟩ := hb
            obtain ⟨c', g1, g2, g3⟩ := src_ok hR hc hx hux p4 p5
            exact appendTo_ok hR hu hi hz (Nat.le_of_ble_eq_true p1) (Nat.le_of_ble_eq_true p2) (eq_beq p3) g1 g2 g3 (Nat.le_of_ble_eq_true p6) h hs
        · cases h
    · cases h
  · cases h
theorem entsR.length : ∀ {a b : List MapEntry}, entsR ρ a b → b.length = a.length
  | [], b, h => by rw [show b = [] from h]
  | x :: xs, b, h => by
    obtain ⟨_, _, rfl, _, _, _, _, h⟩ := h
    simp [entsR.length h]
theorem len_ok {hp : Hp} {w : World} (hR : Rel P G w0 ρ hp w) {ts : Array TypeId} {ty : TypeId} {args args' : List Value} {v : Value} (h : lenA P hp ts args = some v) (ha : VRs ρ args args') :
    (Builtin.len_ ts ty args'.toArray).run P w = .ok v w ∧ VR ρ v v := by
  unfold lenA at h
  split at h
  · rename_i t x hts
    obtain ⟨x', l1, rfl, hx, hl⟩ := ha.inv
    have := hl.inv_nil
    subst this
    have hf : ∀ n : Int, VR ρ (goInt n) (goInt n) := fun n => flat_self _ rfl
    unfold Builtin.len_
    split at h
    · rename_i s hu
      cases h
      have := hx.string
      subst this
      exact ⟨by simp [hts, und_run hu], hf _⟩
    · rename_i n e hu
      cases h
      exact ⟨by simp [hts, und_run hu], hf _⟩
    · rename_i e a n cp hu
      cases h
      unfold VR at hx
      cases a with
      | none =>
        obtain ⟨rfl, rfl, rfl⟩ := hx
        exact ⟨by simp [hts, und_run hu], hf _⟩
      | some a =>
        rcases hx with ⟨_, rfl, _, a', c', rfl⟩ | ⟨_, b', xt, c', _, _, _, rfl⟩ <;> exact ⟨by simp [hts, und_run hu], hf _⟩
    · rename_i k e hu
      cases h
      unfold VR at hx
      subst hx
      exact ⟨by simp [hts, und_run hu], hf _⟩
    · rename_i k e r hu
      cases hm : mapOf hp (.map (some r)) with
      | none => rw [hm] at h; cases h
      | some q =>
        obtain ⟨r2, es, ck⟩ := q
        rw [hm] at h
        cases h
        obtain ⟨q, hq, rfl⟩ := hx.map
        unfold mapOf at hm
        dsimp only at hm
        cases hob : hp.get r with
        | map es2 ck2 =>
          rw [hob] at hm
          cases hm
          have hl := hR.live _ _ hq
          rw [hob] at hl
          obtain ⟨es', g1, g2⟩ := hl
          have := entsR.length g2
          rw [Array.length_toList] at this
          exact ⟨by simp [hts, und_run hu, getObj, Sem.run, g1, this], hf _⟩
        | _ => rw [hob] at hm; cases hm
    · cases h
  · cases h
theorem find_ok (d : TypeDesc) (k : Value) : ∀ (es es' : List MapEntry) (i : Nat) (r : Option (Nat × Value)), entsR ρ es es' → Instr.findNow d k es i = some r →
    (r = none ∧ Instr.findNow d k es' i = some none) ∨ ∃ m e e', r = some (i + m, e.val) ∧ es[m]? = some e ∧ es'[m]? = some e' ∧ Instr.findNow d k es' i = some (some (i + m, e'.val)) ∧ VR ρ e.val e'.val ∧ Instr.sameNow d k e'.key = some true
  | [], es', i, r, hr, h => by
    rw [show es' = [] from hr]
    simp only [Instr.findNow, Option.some.injEq] at h
    exact .inl ⟨h.symm, rfl⟩
  | e :: es, es', i, r, hr, h => by
    obtain ⟨e', es', rfl, hk, hk', hb, hv, hr⟩ := hr
    simp only [Instr.findNow] at h ⊢
    rw [hk']
    cases hs : Instr.sameNow d k e.key with
    | none => rw [hs] at h; cases h
    | some q =>
      rw [hs] at h
      cases q with
      | true =>
        cases h
        exact .inr ⟨0, e, e', rfl, rfl, rfl, rfl, hv, by rw [hk', hs]⟩
      | false =>
        dsimp only at h ⊢
        rcases find_ok d k es es' (i + 1) r hr h with ⟨rfl, h2⟩ | ⟨m, f, f', rfl, h1, h2, h3, h4, h5⟩
        · exact .inl ⟨rfl, h2⟩
        · exact .inr ⟨m + 1, f, f', by congr 2; omega, by simpa using h1, by simpa using h2, by rw [h3]; congr 3; omega, h4, h5⟩
theorem key_run {kt : TypeId} {k : Value} (h : keyOk P kt k = true) (b : Bool) (w : World) : (Instr.checkKey b 10000 kt k).run P w = .ok () w := by
  unfold keyOk at h
  unfold Instr.checkKey
  split at h
  · rename_i hu; simp [und_run hu]
  · rename_i hu; simp [und_run hu]
  · rename_i hu; simp [und_run hu]
  · cases h
theorem key_flat {kt : TypeId} {k : Value} (h : keyOk P kt k = true) : flat k = true := by
  unfold keyOk at h
  split at h <;> first | rfl | cases h
theorem lookup_ok {hp : Hp} {w : World} (hR : Rel P G w0 ρ hp w) {t : TypeId} {x k v x' : Value} {ok : Bool} (h : lookupA P hp t x k ok = some v) (hx : VR ρ x x') :
    ∃ v', (Instr.lookup t x' k ok).run P w = .ok v' w ∧ VR ρ v v' := by
  unfold lookupA at h
  split at h
  · rename_i kt e hu
    cases hk : keyOk P kt k with
    | false => rw [hk] at h; cases h
    | true =>
      rw [hk, Bool.not_true, cond_false] at h
      split at h
      · rename_i d z hud hz
        cases hes : esOf hp x with
        | none => rw [hes] at h; cases h
        | some es =>
        rw [hes] at h
        dsimp only at h
        obtain ⟨es', h2, h3⟩ : ∃ es' : List MapEntry, entsR ρ es es' ∧ ((x' = .map none ∧ es' = []) ∨ ∃ r ck, x' = .map (some r) ∧ w.heap[r]? = some (.map es'.toArray ck)) := by
          unfold esOf at hes
          split at hes
          · cases hes
            unfold VR at hx
            exact ⟨[], rfl, .inl ⟨hx, rfl⟩⟩
          · rename_i r
            obtain ⟨q, hq, rfl⟩ := hx.map
            cases hob : hp.get r with
            | map es2 ck2 =>
              rw [hob] at hes
              cases hes
              have hl := hR.live _ _ hq
              rw [hob] at hl
              obtain ⟨es', g1, g2⟩ := hl
              exact ⟨es'.toList, g2, .inr ⟨q.1, ck2, rfl, by simpa using g1⟩⟩
            | _ => rw [hob] at hes; cases hes
          · cases hes
        cases hf : Instr.findNow d k es 0 with
        | none => rw [hf] at h; cases h
        | some r =>
          rw [hf] at h
          dsimp only at h
          have hrun0 : Instr.findNow d k es' 0 = some none → (Instr.lookup t x' k ok).run P w = .ok (if ok = true then .tuple #[z, .bool false] else z) w := by
            intro hr
            unfold Instr.lookup
            rcases h3 with ⟨rfl, rfl⟩ | ⟨r', ck, rfl, hh⟩
            · simp only [Sem.run_bind, und_run hu, Result.andThen_ok, Sem.run_pure, key_run hk, Instr.findKey, und_run hud]
              rw [hr]
              simp only [Sem.run_bind, Sem.run_pure, Result.andThen_ok, zero_run hz]
            · simp only [Sem.run_bind, und_run hu, Result.andThen_ok, Sem.run_pure, getObj, Sem.run, hh, key_run hk, Instr.findKey, und_run hud]
              rw [hr]
              simp only [Sem.run_bind, Sem.run_pure, Result.andThen_ok, zero_run hz]
          have hrun1 : ∀ (i : Nat) (v : Value), Instr.findNow d k es' 0 = some (some (i, v)) → (Instr.lookup t x' k ok).run P w = .ok (if ok = true then .tuple #[v, .bool true] else v) w := by
            intro i v hr
            unfold Instr.lookup
            rcases h3 with ⟨rfl, rfl⟩ | ⟨r', ck, rfl, hh⟩
            · simp only [Sem.run_bind, und_run hu, Result.andThen_ok, Sem.run_pure, key_run hk, Instr.findKey, und_run hud]
              rw [hr]
              simp only [Sem.run_bind, Sem.run_pure, Result.andThen_ok]
            · simp only [Sem.run_bind, und_run hu, Result.andThen_ok, Sem.run_pure, getObj, Sem.run, hh, key_run hk, Instr.findKey, und_run hud]
              rw [hr]
              simp only [Sem.run_bind, Sem.run_pure, Result.andThen_ok]
          rcases find_ok d k es es' 0 r h2 hf with ⟨rfl, g1⟩ | ⟨m, f, f', rfl, g0, g0', g1, g2, _⟩
          · dsimp only at h
            cases hfz : flat z with
            | false => rw [hfz] at h; cases h
            | true =>
              rw [hfz, cond_true] at h
              cases h
              refine ⟨_, hrun0 g1, ?_⟩
              cases ok
              · exact flat_self z hfz
              · exact VR.mkTuple (VRs.cons (flat_self z hfz) (VRs.cons (flat_self _ rfl) VRs.nil))
          · cases h
            refine ⟨_, hrun1 _ _ g1, ?_⟩
            cases ok
            · exact g2
            · exact VR.mkTuple (VRs.cons g2 (VRs.cons (flat_self _ rfl) VRs.nil))
      · cases h
  · cases h
end
end Go.Proofs.YtfhnljmoilifnaaGreatDoor.Ae
end
section
namespace Go.Proofs.YtfhnljmoilifnaaGreatDoor.Ae
open Go
open Go.RowKit
set_option linter.unusedVariables false
set_option linter.unusedSimpArgs false
section
variable {P : Program} {G : Nat} {w0 : World} {ρ : Rho}
theorem mapOf_eq {hp : Hp} {m : Value} {r ck : Nat} {es : List MapEntry} (h : mapOf hp m = some (r, es, ck)) : m = .map (some r) ∧ hp.get r = .map es ck := by
  unfold mapOf at h
  split at h
  · rename_i r'
    cases hob : hp.get r' with
    | map es2 ck2 =>
      rw [hob] at h
      cases h
      exact ⟨rfl, hob⟩
    | _ => rw [hob] at h; cases h
  · cases h
theorem bytes_same (a b : ByteArray) : (a == b) = true ↔ a = b := by
  obtain ⟨x⟩ := a
  obtain ⟨y⟩ := b
  constructor
  · intro h
    have e : x = y := by simpa using (show (x == y) = true from h)
    rw [e]
  · intro h
    cases h
    exact (show (x == x) = true by simp)
theorem same_bits {d : TypeDesc} {k k' : Value} (h : Instr.sameNow d k k' = some true) : Instr.sameBits 10000 k' k = true := by
  unfold Instr.sameNow at h
  split at h
  · rename_i j a j' b
    by_cases hj : j = j'
    · rw [if_pos hj] at h
      subst hj
      simp only [Option.some.injEq, beq_iff_eq] at h
      subst h
      simp [Instr.sameBits]
    · rw [if_neg hj] at h; cases h
  · simp only [Option.some.injEq] at h
    have h := (bytes_same _ _).1 h
    subst h
    exact (bytes_same _ _).2 rfl
  · simp only [Option.some.injEq, beq_iff_eq] at h
    subst h
    simp [Instr.sameBits]
  · cases h
theorem entsR.modify {k v v' : Value} (hk : flat k = true) (hv : VR ρ v v') : ∀ {es es' : List MapEntry} (m : Nat), entsR ρ es es' → entsR ρ (es.modify m fun e => ⟨k, v, e.born⟩) (es'.modify m fun e => { e with key := k, val := v' })
  | [], es', m, h => by
    rw [show es' = [] from h]
    cases m <;> exact rfl
  | e :: es, es', m, h => by
    obtain ⟨e', es', rfl, h1, h2, h3, h4, h5⟩ := h
    cases m with
    | zero => exact ⟨_, _, rfl, hk, rfl, h3, hv, h5⟩
    | succ m => exact ⟨_, _, rfl, h1, h2, h3, h4, entsR.modify hk hv m h5⟩
theorem entsR.push {k v v' : Value} {ck : Nat} (hk : flat k = true) (hv : VR ρ v v') : ∀ {es es' : List MapEntry}, entsR ρ es es' → entsR ρ (es ++ [⟨k, v, ck⟩]) (es' ++ [⟨k, v', ck⟩])
  | [], es', h => by
    rw [show es' = [] from h]
    exact ⟨_, _, rfl, hk, rfl, rfl, hv, rfl⟩
  | e :: es, es', h => by
    obtain ⟨e', es', rfl, h1, h2, h3, h4, h5⟩ := h
    exact ⟨_, _, rfl, h1, h2, h3, h4, entsR.push hk hv h5⟩
theorem update_ok {hp hp' : Hp} {w : World} (hR : Rel P G w0 ρ hp w) {t : TypeId} {m k v m' v' : Value} (h : updateA P G hp t m k v = some hp') (hm : VR ρ m m') (hv : VR ρ v v') :
    ∃ w', (Instr.mapUpdate t m' k v').run P w = .ok () w' ∧ Rel P G w0 ρ hp' w' := by
  unfold updateA at h
  split at h
  · rename_i kt e hu
    cases hk : keyOk P kt k with
    | false => rw [hk] at h; cases h
    | true =>
      rw [hk, Bool.not_true, cond_false] at h
      split at h
      · rename_i d r es ck hud hmo
        cases hG : Nat.blt r G with
        | true => rw [hG, cond_true] at h; cases h
        | false =>
          rw [hG, cond_false] at h
          have hGr : G ≤ r := by
            rcases Nat.lt_or_ge r G with h1 | h1
            · have : Nat.blt r G = true := Nat.ble_eq_true_of_le h1
              rw [this] at hG; cases hG
            · exact h1
          obtain ⟨rfl, hob⟩ := mapOf_eq hmo
          obtain ⟨q, hq, rfl⟩ := hm.map
          have hl := hR.live _ _ hq
          rw [hob] at hl
          obtain ⟨es', g1, g2⟩ := hl
          have hkf := key_flat hk
          have hsz : q.1 < w.heap.size := (hR.bnd _ _ hq).2
          have hturn : ∀ (esn : List MapEntry) (esn' : Array MapEntry) (c : Nat), entsR ρ esn esn'.toList → Rel P G w0 ρ (hp.put r (.map esn c)) { w with heap := w.heap.setIfInBounds q.1 (.map esn' c) } := by
            intro esn esn' c hr
            refine hR.turn hq (by rw [hob]; intro hc; cases hc) hGr (by simp) rfl rfl rfl (fun j hj => ?_) ⟨esn', by simp [hsz], hr⟩ (by intro hc; cases hc)
            exact Array.getElem?_setIfInBounds_ne (Ne.symm hj)
          cases hf : Instr.findNow d k es 0 with
          | none => rw [hf] at h; cases h
          | some x =>
            rw [hf] at h
            rcases find_ok d k es es'.toList 0 x g2 hf with ⟨rfl, f1⟩ | ⟨j, f, f', rfl, f0, f0', f1, f2, f3⟩
            · cases h
              refine ⟨_, ?_, hturn _ (es'.push ⟨k, v', ck⟩) (ck + 1) (by simpa using entsR.push hkf hv g2)⟩
              unfold Instr.mapUpdate
              simp only [Sem.run_bind, und_run hu, Result.andThen_ok, getObj, Sem.run, g1, key_run hk, Instr.findKey, und_run hud]
              rw [f1]
              simp [setObj, Sem.run, g1]
            · cases h
              refine ⟨_, ?_, hturn _ (es'.modify (0 + j) fun e => { e with key := k, val := v' }) ck (by simpa using entsR.modify hkf hv (0 + j) g2)⟩
              unfold Instr.mapUpdate
              simp only [Sem.run_bind, und_run hu, Result.andThen_ok, getObj, Sem.run, g1, key_run hk, Instr.findKey, und_run hud]
              rw [f1]
              have hkey : ((es'[0 + j]?).map (·.key)).getD k = f'.key := by
                rw [← Array.getElem?_toList, Nat.zero_add, f0']
                rfl
              simp only [Sem.run_pure, Result.andThen_ok, Sem.run_bind, Instr.keyThatStays]
              rw [hkey, same_bits f3]
              simp [setObj, Sem.run, g1]
      · cases h
  · cases h
theorem assert_ok {hp : Hp} {w : World} {x x' v : Value} {xt at_ : TypeId} {ok : Bool} (h : assertA P x xt at_ ok = some v) (hx : VR ρ x x') : ∃ v', (Instr.typeAssert x' xt at_ ok).run P w = .ok v' w ∧ VR ρ v v' := by
  have holds : ∀ {y y' : Value}, VR ρ y y' → some (bif ok then Value.tuple #[y, .bool true] else y) = some v → ∃ v', (if ok = true then Value.tuple #[y', .bool true] else y') = v' ∧ VR ρ v v' := by
    intro y y' hy hv
    cases hv
    cases ok
    · exact ⟨_, rfl, hy⟩
    · exact ⟨_, rfl, VR.mkTuple (VRs.cons hy (VRs.cons (flat_self _ rfl) VRs.nil))⟩
  have fails : (bif !ok then none else match zeroT P at_ with
      | some z => bif flat z then some (Value.tuple #[z, .bool false]) else none
      | none => none) = some v → ok = true ∧ ∃ z, zeroT P at_ = some z ∧ VR ρ v (.tuple #[z, .bool false]) := by
    intro hv
    cases ok with
    | false => cases hv
    | true =>
      simp only [Bool.not_true, cond_false] at hv
      cases hz : zeroT P at_ with
      | none => rw [hz] at hv; cases hv
      | some z =>
        rw [hz] at hv
        dsimp only at hv
        cases hf : flat z with
        | false => rw [hf] at hv; cases hv
        | true =>
          rw [hf] at hv
          cases hv
          exact ⟨rfl, z, rfl, VR.mkTuple (VRs.cons (flat_self z hf) (VRs.cons (flat_self _ rfl) VRs.nil))⟩
  unfold assertA at h
  dsimp only at h
  split at h
  · rename_i m hu
    have hx' : x' = .nilIface := by unfold VR at hx; exact hx
    subst hx'
    obtain ⟨rfl, z, hz, hv⟩ := fails h
    exact ⟨_, by simp [Instr.typeAssert, und_run hu, zero_run hz], hv⟩
  · rename_i want t y hu
    obtain ⟨y', rfl, hy⟩ := hx.iface
    cases hi : P.info? t with
    | none => rw [hi] at h; cases h
    | some i =>
      rw [hi] at h
      dsimp only at h
      cases hm : Instr.missingMethod want i.methods with
      | none =>
        rw [hm] at h
        obtain ⟨v', g1, g2⟩ := holds (y' := .iface t y') (by unfold VR; exact ⟨y', rfl, hy⟩) h
        exact ⟨v', by simp [Instr.typeAssert, und_run hu, typeInfo, hi, hm, g1], g2⟩
      | some mm =>
        rw [hm] at h
        obtain ⟨rfl, z, hz, hv⟩ := fails h
        exact ⟨_, by simp [Instr.typeAssert, und_run hu, typeInfo, hi, hm, zero_run hz], hv⟩
  · rename_i d hni hu
    have hx' : x' = .nilIface := by unfold VR at hx; exact hx
    subst hx'
    obtain ⟨rfl, z, hz, hv⟩ := fails h
    refine ⟨_, ?_, hv⟩
    unfold Instr.typeAssert
    simp only [Sem.run_bind, und_run hu, Result.andThen_ok]
    cases d <;> first | exact absurd rfl (hni _) | simp [zero_run hz]
  · rename_i d t y hni hu
    obtain ⟨y', rfl, hy⟩ := hx.iface
    cases ht : Nat.beq t at_ with
    | true =>
      rw [ht, cond_true] at h
      have ht := eq_beq ht
      subst ht
      obtain ⟨v', g1, g2⟩ := holds hy h
      refine ⟨v', ?_, g2⟩
      unfold Instr.typeAssert
      simp only [Sem.run_bind, und_run hu, Result.andThen_ok]
      cases d <;> first | exact absurd rfl (hni _) | simp [g1]
    | false =>
      rw [ht, cond_false] at h
      have hne : ¬ t = at_ := fun e => by rw [beqT e] at ht; cases ht
      obtain ⟨rfl, z, hz, hv⟩ := fails h
      refine ⟨_, ?_, hv⟩
      unfold Instr.typeAssert
      simp only [Sem.run_bind, und_run hu, Result.andThen_ok]
      cases d <;> first | exact absurd rfl (hni _) | simp [zero_run hz, hne]
  · cases h
end
end Go.Proofs.YtfhnljmoilifnaaGreatDoor.Ae
end
section
namespace Go.Proofs.YtfhnljmoilifnaaGreatDoor.Ae
open Go
open Go.RowKit
set_option linter.unusedVariables false
set_option linter.unusedSimpArgs false
section
variable {P : Program} {G : Nat} {w0 : World} {ρ : Rho}
theorem equalIn_ok {d : Nat} {t : TypeId} {x y x' y' : Value} {q : Bool} (hk : eqKind P t x = true) (hk2 : eqKind P t y = true) (h : eqA x y = some q) (hx : VR ρ x x') (hy : VR ρ y y') (w : World) : (Op.equalIn (d + 1) t x' y').run P w = .ok q w := by
  rw [Op.equalIn]
  unfold eqKind at hk hk2
  unfold eqA at h
  split at h
  · 
    rename_i a
    cases h
    unfold VR at hx hy
    obtain ⟨b', xt, _, _, rfl⟩ := hx
    subst hy
    cases hu : P.underlying t with
    | none => rw [hu] at hk; cases hk
    | some dd => rw [hu] at hk; cases dd <;> first | (cases hk; done) | simp [und_run hu]
  · rename_i a
    cases h
    unfold VR at hx hy
    obtain ⟨b', xt, _, _, rfl⟩ := hy
    subst hx
    cases hu : P.underlying t with
    | none => rw [hu] at hk; cases hk
    | some dd => rw [hu] at hk; cases dd <;> first | (cases hk; done) | simp [und_run hu]
  · cases h
    have hx' : ∃ a n c, x' = .slice (some a) n c := by
      unfold VR at hx
      rcases hx with ⟨_, _, _, a', c', rfl⟩ | ⟨_, b', xt, c', _, _, _, rfl⟩ <;> exact ⟨_, _, _, rfl⟩
    obtain ⟨a', n', c', rfl⟩ := hx'
    unfold VR at hy
    obtain ⟨rfl, rfl, rfl⟩ := hy
    cases hu : P.underlying t with
    | none => rw [hu] at hk; cases hk
    | some dd => rw [hu] at hk; cases dd <;> first | (cases hk; done) | simp [und_run hu]
  · cases h
    have hx' : ∃ a n c, y' = .slice (some a) n c := by
      unfold VR at hy
      rcases hy with ⟨_, _, _, a', c', rfl⟩ | ⟨_, b', xt, c', _, _, _, rfl⟩ <;> exact ⟨_, _, _, rfl⟩
    obtain ⟨a', n', c', rfl⟩ := hx'
    unfold VR at hx
    obtain ⟨rfl, rfl, rfl⟩ := hx
    cases hu : P.underlying t with
    | none => rw [hu] at hk; cases hk
    | some dd => rw [hu] at hk; cases dd <;> first | (cases hk; done) | simp [und_run hu]
  · cases h
    obtain ⟨q, _, rfl⟩ := hx.map
    unfold VR at hy
    subst hy
    cases hu : P.underlying t with
    | none => rw [hu] at hk; cases hk
    | some dd => rw [hu] at hk; cases dd <;> first | (cases hk; done) | simp [und_run hu]
  · cases h
    obtain ⟨q, _, rfl⟩ := hy.map
    unfold VR at hx
    subst hx
    cases hu : P.underlying t with
    | none => rw [hu] at hk; cases hk
    | some dd => rw [hu] at hk; cases dd <;> first | (cases hk; done) | simp [und_run hu]
  · rename_i f a c
    cases h
    have hx' : ∃ f a c, x' = .func f a c := by
      cases f <;> (unfold VR at hx; first | exact hx.elim | (obtain ⟨_, _, rfl, _, _⟩ := hx; exact ⟨_, _, _, rfl⟩))
    obtain ⟨_, _, _, rfl⟩ := hx'
    unfold VR at hy
    subst hy
    cases hu : P.underlying t with
    | none => rw [hu] at hk; cases hk
    | some dd => rw [hu] at hk; cases dd <;> first | (cases hk; done) | simp [und_run hu]
  · rename_i f a c
    cases h
    have hx' : ∃ f a c, y' = .func f a c := by
      cases f <;> (unfold VR at hy; first | exact hy.elim | (obtain ⟨_, _, rfl, _, _⟩ := hy; exact ⟨_, _, _, rfl⟩))
    obtain ⟨_, _, _, rfl⟩ := hx'
    unfold VR at hx
    subst hx
    cases hu : P.underlying t with
    | none => rw [hu] at hk; cases hk
    | some dd => rw [hu] at hk; cases dd <;> first | (cases hk; done) | simp [und_run hu]
  · cases h
    obtain ⟨_, rfl, _⟩ := hx.iface
    unfold VR at hy
    subst hy
    cases hu : P.underlying t with
    | none => rw [hu] at hk; cases hk
    | some dd => rw [hu] at hk; cases dd <;> first | (cases hk; done) | simp [und_run hu]
  · cases h
    obtain ⟨_, rfl, _⟩ := hy.iface
    unfold VR at hx
    subst hx
    cases hu : P.underlying t with
    | none => rw [hu] at hk; cases hk
    | some dd => rw [hu] at hk; cases dd <;> first | (cases hk; done) | simp [und_run hu]
  · rename_i b o c p
    cases hb : Nat.beq b c with
    | false => rw [hb] at h; cases h
    | true =>
      rw [hb] at h
      cases h
      have hb := eq_beq hb
      subst hb
      obtain ⟨q1, h1, rfl⟩ := hx.ptr
      obtain ⟨q2, h2, rfl⟩ := hy.ptr
      rw [h1] at h2
      cases h2
      cases hu : P.underlying t with
      | none => rw [hu] at hk; cases hk
      | some dd =>
        rw [hu] at hk
        cases dd <;> first | (cases hk; done) | skip
        rename_i e
        dsimp only at hk
        cases hs : sizeT P e with
        | none => rw [hs] at hk; cases hk
        | some n =>
          rw [hs] at hk
          have hn : n ≠ 0 := by
            have := @Nat.le_of_ble_eq_true 1 n hk
            omega
          have hbeq : ((⟨q1.1, o, none⟩ : Addr) == ⟨q1.1, p, none⟩) = Nat.beq o p := by
            by_cases e : o = p
            · subst e; rw [beqT rfl]; simp
            · rw [beqF e]; simp [e]
          simp only [Sem.run_bind, und_run hu, Result.andThen_ok, size_run hs, Sem.run_ite, hn, ne_eq, not_false_eq_true, if_true]
          unfold sameAddr
          simp [hbeq]
  · rename_i tx vx ty vy
    cases hb : Nat.beq tx ty with
    | true => rw [hb] at h; cases h
    | false =>
      rw [hb] at h
      cases h
      have hne : tx ≠ ty := fun e => by rw [beqT e] at hb; cases hb
      obtain ⟨_, rfl, _⟩ := hx.iface
      obtain ⟨_, rfl, _⟩ := hy.iface
      cases hu : P.underlying t with
      | none => rw [hu] at hk; cases hk
      | some dd => rw [hu] at hk; cases dd <;> first | (cases hk; done) | simp [und_run hu, hne]
  · cases h
theorem bytesA_eq : ∀ (c : List Value) (acc s : ByteArray), bytesA c acc = some s → ∃ ns : List Int, c = ns.map (Value.int .u8) ∧ s = ns.foldl (fun r n => r.push (UInt8.ofNat n.toNat)) acc
  | [], acc, s, h => by
    simp only [bytesA, Option.some.injEq] at h
    exact ⟨[], rfl, h.symm⟩
  | v :: c, acc, s, h => by
    cases v <;> first | (simp [bytesA] at h; done) | skip
    rename_i k n
    cases k <;> first | (simp [bytesA] at h; done) | skip
    simp only [bytesA] at h
    obtain ⟨ns, h1, h2⟩ := bytesA_eq c _ s h
    exact ⟨n :: ns, by rw [h1]; rfl, h2⟩
theorem flats_ints (ns : List Int) : flats (ns.map (Value.int .u8)) = true := by
  induction ns with
  | nil => rfl
  | cons a l ih => simp only [List.map_cons, flats, flat, Bool.true_and]; exact ih
theorem byteRow_born {w : World} {src dst : TypeId} {x : Value} {ob : AObj} {mk : Nat → Value} (h : byteRow P dst x = some (ob, mk)) (hus : ∃ d, P.underlying src = some d) :
    ∃ v' w1 q, (convert src dst x).run P w = .ok v' w1 ∧ Born P ρ w w1 ob q mk v' := by
  obtain ⟨d, hus⟩ := hus
  unfold byteRow at h
  split at h
  · rename_i e s hud
    split at h
    · rename_i hue hsz
      cases h
      have hge := grownCap_ge w s.size 0 e
      have hsf : flats (s.data.toList.map fun b => Value.int .u8 b.toNat) = true := by
        induction s.data.toList with
        | nil => rfl
        | cons a l ih => simp only [List.map_cons, flats, flat, Bool.true_and]; exact ih
      generalize hgc : grownCap w s.size 0 e = gc at hge
      let cs : Array Value := (s.data.map fun b => Value.int .u8 b.toNat) ++ Array.replicate (gc - s.size) (.int .u8 0)
      let w1 : World := (w.drew.alloc (.cells cs e)).freeze ⟨w.heap.size, cs.size, none⟩ 1
      have hcsz : cs.size = gc := by
        have : s.data.size = s.size := rfl
        simp only [cs, Array.size_append, Array.size_map, Array.size_replicate]
        omega
      have hbel : Below w.heap.size w w1 := by
        refine ⟨rfl, rfl, rfl, ?_, fun k hk => ?_⟩
        · show w.heap.size ≤ ((w.heap.push _).modify _ _).size
          rw [Array.size_modify, Array.size_push]; omega
        · show ((w.heap.push _).modify _ _)[k]? = _
          rw [Array.getElem?_modify]
          rw [if_neg (by dsimp only; omega)]
          rw [Array.getElem?_push]
          rw [if_neg (by omega)]
      have hat : w1.heap[w.heap.size]? = some (.cells cs e (cs.size, cs.size + 1)) := by
        show ((w.heap.push (.cells cs e)).modify w.heap.size _)[w.heap.size]? = _
        rw [Array.getElem?_modify, if_pos rfl, Array.getElem?_push_size]
        rfl
      refine ⟨.slice (some ⟨w.heap.size, 0, none⟩) s.size gc, w1, gc - s.size, ?_, born_row (flats_self _ hsf) (cs := cs) (d2 := List.replicate (gc - s.size) (.int .u8 0)) (fz := (cs.size, cs.size + 1)) (by simp [cs]) hbel hat (fun i hi h => by omega) (x := gc - s.size) (n := 1) hsz (by simp) hge (by omega)⟩
      unfold convert
      simp only [Sem.run_bind, und_run hus, und_run hud, Result.andThen_ok]
      have hconv : (Conv.stringToBytes e s).run P w = .ok (.slice (some ⟨w.heap.size, 0, none⟩) s.size gc) w1 := by
        unfold Conv.stringToBytes
        have hch : (choose (.appendCap s.size 0 e)).run P w = .ok gc w.drew := by
          rw [← hgc]
          rfl
        simp only [Sem.run_bind, hch, Result.andThen_ok, newRow_run]
        have hsh : (w.drew.alloc (.cells cs e)).shape? w.heap.size = some (e, cs.size) := by
          unfold World.shape?
          show (match (w.heap.push (.cells cs e))[w.heap.size]? with | some (.cells c elem _) => some (elem, c.size) | _ => none) = _
          rw [Array.getElem?_push_size]
        unfold markStringish
        have hsh' : (w.drew.alloc (.cells ((s.data.map fun b => Value.int .u8 b.toNat) ++ Array.replicate (gc - s.size) (.int .u8 0)) e)).shape? w.drew.heap.size = some (e, cs.size) := hsh
        simp only [Sem.run_bind, shape, Sem.run, hsh', Result.andThen_ok, freeze, Sem.run_pure]
        rfl
      cases d <;> simp only [und_run hue, Result.andThen_ok, Sem.run_bind] <;> exact hconv
    · cases h
  · cases h
theorem convert_ok {hp : Hp} {w : World} (hR : Rel P G w0 ρ hp w) {src dst : TypeId} {x x' v : Value} (h : convertA P hp src dst x = some v) (hx : VR ρ x x') : (convert src dst x').run P w = .ok v w ∧ flat v = true := by
  unfold convertA at h
  split at h
  · rename_i e b o len cp hus hud
    split at h
    · rename_i c k hue hc
      cases hb : bytesA c ByteArray.empty with
      | none => rw [hb] at h; cases h
      | some s =>
        rw [hb] at h
        cases h
        obtain ⟨ns, rfl, rfl⟩ := bytesA_eq _ _ _ hb
        rcases cellsIn_ok hR hc hx with ⟨c', a', cp', rfl, h1, h2, h3⟩ | ⟨rfl, _, _⟩ | ⟨s, hs, _, _, _⟩
        · have hc' := flats_same _ _ (flats_ints ns) h1
          subst hc'
          have hl : (loadCells a' k).run P w = .ok (ns.map (Value.int .u8)).toArray w := by
            have := run_loadCells_list (P := P) w a' (ns.map (Value.int .u8)) h3
            rwa [h2, Nat.mul_one] at this
          refine ⟨?_, rfl⟩
          unfold convert
          simp only [Sem.run_bind, und_run hus, und_run hud, Result.andThen_ok, und_run hue]
          exact run_bytesToString w a' k cp' ns hl
        · unfold VR at hx
          rcases hx with ⟨_, _, _, _, _, hx⟩ | ⟨_, _, _, _, _, _, _, hx⟩ <;> cases hx
        · cases hs
    · cases h
  · cases h
end
end Go.Proofs.YtfhnljmoilifnaaGreatDoor.Ae
end
section
namespace Go.Proofs.YtfhnljmoilifnaaGreatDoor.Ae
open Go
open Go.RowKit
set_option linter.unusedVariables false
set_option linter.unusedSimpArgs false
section
variable {P : Program} {G : Nat} {w0 : World} {ρ : Rho}
theorem copy_ok {hp hp' : Hp} {w : World} (hR : Rel P G w0 ρ hp w) {ts : Array TypeId} {ty : TypeId} {args args' : List Value} {v : Value} (h : copyA P G hp ts args = some (v, hp')) (ha : VRs ρ args args') :
    ∃ w', (Builtin.copy_ ts ty args'.toArray).run P w = .ok v w' ∧ Rel P G w0 ρ hp' w' ∧ VR ρ v v ∧ hp.n ≤ hp'.n := by
  unfold copyA at h
  split at h
  · rename_i dt d x hts
    obtain ⟨d', l1, rfl, hd, hl⟩ := ha.inv
    obtain ⟨x', l2, rfl, hx, hl⟩ := hl.inv
    have := hl.inv_nil
    subst this
    split at h
    · rename_i e hu
      cases hs : sizeT P e with
      | none => rw [hs] at h; cases h
      | some n =>
        rw [hs] at h
        dsimp only at h
        split at h
        · rename_i c k b o len cp hc
          cases hb : ((!isStr x || Nat.beq n 1) && !Nat.beq b 1000000) with
          | false => rw [hb] at h; cases h
          | true =>
            rw [hb, cond_true] at h
            simp only [Bool.and_eq_true] at hb
            cases hst : storeCellsA hp G b o (c.take (Nat.min k len * n)) with
            | none => rw [hst] at h; cases h
            | some hp1 =>
              rw [hst] at h
              cases h
              unfold VR at hd
              rcases hd with ⟨q1, _⟩ | ⟨_, b', xt, c', q1, _, _, rfl⟩
              · exfalso
                cases q1
                simp at hb
              · have hgen : ∀ (cc : List Value), VRs ρ c cc → (Builtin.lenOf x').run P w = .ok k w → (Builtin.firstCells n (Nat.min k len) x').run P w = .ok (cc.take (Nat.min k len * n)).toArray w →
                    ∃ w', (Builtin.copy_ ts ty #[.slice (some ⟨b', o, none⟩) len c', x']).run P w = .ok (goInt (Nat.min k len)) w' ∧ Rel P G w0 ρ hp' w' := by
                  intro cc hcc hlen hfc
                  obtain ⟨g1, g2, g3⟩ := storeCells_ok hR hst q1 (hcc.take (Nat.min k len * n))
                  have hsc := run_storeCells_cells (P := P) b' o (cc.take (Nat.min k len * n)) 0 w (fun j hj => by simpa using (g1 j hj).1) (fun j hj => by simpa using (g1 j hj).2) g2
                  simp only [Nat.add_zero] at hsc
                  refine ⟨_, ?_, g3⟩
                  unfold Builtin.copy_
                  simp only [hts, List.getElem?_toArray]
                  simp only [List.getElem?_cons_zero, List.getElem?_cons_succ, Sem.run_bind, und_run hu, Result.andThen_ok, hlen, size_run hs, hfc, hsc, Sem.run_pure]
                rcases cellsIn_ok hR hc hx with ⟨cc, a', cp', rfl, h1, h2, h3⟩ | ⟨rfl, rfl, rfl⟩ | ⟨s, rfl, rfl, rfl, rfl⟩
                · obtain ⟨w', k1, k2⟩ := hgen cc h1 rfl (by
                    have hlt : (cc.take (Nat.min k len * n)).length = Nat.min k len * n := by
                      rw [List.length_take, h2]
                      exact Nat.min_eq_left (Nat.mul_le_mul_right _ (Nat.min_le_left _ _))
                    have := run_loadCells_list (P := P) w a' (cc.take (Nat.min k len * n)) (fun j u hj => by
                      have hj' : j < Nat.min k len * n := by
                        have := (List.getElem?_eq_some_iff.1 hj).1
                        omega
                      rw [List.getElem?_take_of_lt hj'] at hj
                      exact h3 j u hj)
                    rw [hlt] at this
                    exact this)
                  exact ⟨w', k1, k2, flat_self _ rfl, storeCells_n hst⟩
                · obtain ⟨w', k1, k2⟩ := hgen [] VRs.nil rfl (by simp [Builtin.firstCells])
                  exact ⟨w', k1, k2, flat_self _ rfl, storeCells_n hst⟩
                · have hn1 : n = 1 := by simpa [isStr] using hb.1
                  subst hn1
                  have hbf : VRs ρ (byteCells s) (byteCells s) := by
                    refine flats_self _ ?_
                    unfold byteCells
                    induction s.data.toList with
                    | nil => rfl
                    | cons a l ih => simp only [List.map_cons, flats, flat, Bool.true_and]; exact ih
                  obtain ⟨w', k1, k2⟩ := hgen (byteCells s) hbf rfl (by
                    unfold Builtin.firstCells byteCells
                    simp only [Sem.run_pure, Nat.mul_one]
                    congr 1
                    apply Array.ext'
                    simp [List.map_take])
                  exact ⟨w', k1, k2, flat_self _ rfl, storeCells_n hst⟩
        · cases h
    · cases h
  · cases h
theorem range_ok {hp hp' : Hp} {w : World} (hR : Rel P G w0 ρ hp w) {t : TypeId} {x x' v : Value} (h : rangeA P hp t x = some (v, hp')) (hx : VR ρ x x') :
    ∃ v' w' ρ', (Instr.range t x').run P w = .ok v' w' ∧ Grow hp hp' ρ ρ' ∧ Rel P G w0 ρ' hp' w' ∧ VR ρ' v v' := by
  unfold rangeA at h
  split at h
  · rename_i s hu
    have := hx.string
    subst this
    cases hn : hp.new (.sit s 0) with
    | none => rw [hn] at h; cases h
    | some q =>
      obtain ⟨b, hp1⟩ := q
      rw [hn] at h
      cases h
      have hbel := Below.alloc (Below.refl w.heap.size w) (Nat.le_refl _) (.stringIter s 0)
      obtain ⟨h1, h2⟩ := hR.lay (b' := (w.heap.size, 0)) hn hbel (by show w.heap.size < (w.heap.push _).size; rw [Array.size_push]; omega) (Nat.le_refl _) (show (w.heap.push _)[w.heap.size]? = _ from Array.getElem?_push_size)
      refine ⟨.pointer (some ⟨w.heap.size, 0, none⟩), _, _, ?_, h1, h2, VR.mkPtr (q := (w.heap.size, 0)) (Rho.put_at _ _ _)⟩
      unfold Instr.range
      simp only [Sem.run_bind, und_run hu, Result.andThen_ok, Sem.run_pure, newObj, Sem.run]
      rfl
  · cases h
theorem next_ok {hp hp' : Hp} {w : World} (hR : Rel P G w0 ρ hp w) {it it' v : Value} {b : Bool} {ty : TypeId} (h : nextA G hp it b = some (v, hp')) (hx : VR ρ it it') :
    ∃ w', (Instr.next it' b ty).run P w = .ok v w' ∧ Rel P G w0 ρ hp' w' ∧ VR ρ v v ∧ hp.n ≤ hp'.n := by
  unfold nextA at h
  split at h
  · rename_i r ha
    have := addrOf_eq ha
    subst this
    obtain ⟨q, hq, rfl⟩ := hx.ptr
    cases hob : hp.get r with
    | sit s pos =>
      rw [hob] at h
      dsimp only at h
      cases hbG : (!b || Nat.blt r G) with
      | true => rw [hbG] at h; cases h
      | false =>
        rw [hbG, cond_false] at h
        simp only [Bool.or_eq_false_iff, Bool.not_eq_false'] at hbG
        obtain ⟨rfl, hG⟩ := hbG
        have hGr : G ≤ r := by
          rcases Nat.lt_or_ge r G with h1 | h1
          · have : Nat.blt r G = true := Nat.ble_eq_true_of_le h1
            rw [this] at hG; cases hG
          · exact h1
        have hl := hR.live _ _ hq
        rw [hob] at hl
        have hl : w.heap[q.1]? = some (.stringIter s pos) := hl
        have hsz := (hR.bnd _ _ hq).2
        cases hp2 : Nat.blt pos s.size with
        | true =>
          rw [hp2, cond_true] at h
          cases h
          have hlt := @Nat.le_of_ble_eq_true (pos + 1) s.size hp2
          refine ⟨{ w with heap := w.heap.setIfInBounds q.1 (.stringIter s (pos + (Utf8.decode s pos).2)) }, ?_, ?_, VR.mkTuple (VRs.cons (flat_self _ rfl) (VRs.cons (flat_self _ rfl) (VRs.cons (flat_self _ rfl) VRs.nil))), Nat.le_refl _⟩
          · unfold Instr.next
            have : pos < s.size := hlt
            simp [getObj, setObj, Sem.run, hl, this]
          · refine hR.turn hq (by rw [hob]; intro hc; cases hc) hGr (by simp) rfl rfl rfl (fun j hj => Array.getElem?_setIfInBounds_ne (Ne.symm hj)) ?_ (by intro hc; cases hc)
            show (w.heap.setIfInBounds q.1 _)[q.1]? = _
            simp [hsz]
        | false =>
          rw [hp2, cond_false] at h
          cases h
          have hge : ¬ pos < s.size := fun hc => by have : Nat.blt pos s.size = true := Nat.ble_eq_true_of_le hc; rw [this] at hp2; cases hp2
          refine ⟨w, ?_, hR, VR.mkTuple (VRs.cons (flat_self _ rfl) VRs.nil), Nat.le_refl _⟩
          unfold Instr.next
          simp [getObj, Sem.run, hl, hge]
    | _ => rw [hob] at h; cases h
  · cases h
theorem map_born {w : World} : Born P ρ w (w.alloc (.map #[] 0)) (.map [] 0) 0 (fun b => .map (some b)) (.map (some w.heap.size)) :=
  ⟨Below.alloc (Below.refl w.heap.size w) (Nat.le_refl _) _, push_lt _ _, fun ρ' hle => ⟨#[], (show (w.heap.push _)[w.heap.size]? = _ from Array.getElem?_push_size), rfl⟩, fun ρ' b hb => VR.mkMap (q := (w.heap.size, 0)) hb⟩
theorem kind_ok {x x' : Value} {k : IntKind} (h : intKind x = some k) (hx : VR ρ x x') : ∃ n, x' = .int k n := by
  unfold intKind at h
  split at h
  · cases h
    exact ⟨_, hx.int⟩
  · unfold VR at hx
    exact hx.2.2 k h
  · cases h
theorem any_int (k : IntKind) (n : Int) : VR ρ (anyI k) (.int k n) := by
  unfold anyI VR
  refine ⟨rfl, fun e => (by cases k <;> cases e), fun k' e => ?_⟩
  cases k <;> (cases e; exact ⟨_, rfl⟩)
theorem any_bool (b : Bool) : VR ρ anyB (.bool b) := by
  unfold anyB VR
  exact ⟨rfl, fun _ => ⟨b, rfl⟩, fun k e => (by cases e)⟩
theorem any_ok {op : BinOp} {x y x' y' v : Value} (h : anyQ op x y = some v) (hx : VR ρ x x') (hy : VR ρ y y') (t : TypeId) (w : World) : (∃ k a b, x' = .int k a ∧ y' = .int k b) ∧ ∃ v', (binOp op t x' y').run P w = .ok v' w ∧ VR ρ v v' := by
  unfold anyQ at h
  split at h
  · rename_i k k' h1 h2
    cases hk : decide (k = k') with
    | false => rw [hk] at h; cases h
    | true =>
      rw [hk, Bool.not_true, cond_false] at h
      have hk := of_decide_eq_true hk
      subst hk
      obtain ⟨a, rfl⟩ := kind_ok h1 hx
      obtain ⟨b, rfl⟩ := kind_ok h2 hy
      refine ⟨⟨k, a, b, rfl, rfl⟩, ?_⟩
      cases op <;> dsimp only at h <;> first | (cases h; done) | skip
      case rem =>
        split at h
        · rename_i k3 n
          cases hn : decide (0 < n) with
          | false => rw [hn] at h; cases h
          | true =>
            rw [hn, cond_true] at h
            cases h
            have hn := of_decide_eq_true hn
            cases hy.int
            refine ⟨.int k (a.tmod b), ?_, any_int k _⟩
            unfold binOp Op.intDiv
            simp only [ne_eq, not_true_eq_false, if_false]
            rw [if_neg (by omega)]
            rfl
        · cases h
      all_goals
        cases h
        first
          | exact ⟨_, by unfold binOp; simp only [ne_eq, not_true_eq_false, if_false]; rfl, any_int k _⟩
          | exact ⟨_, by unfold binOp; simp only [ne_eq, not_true_eq_false, if_false]; rfl, any_bool _⟩
  · cases h
theorem anyC_ok {s d : TypeId} {x x' v : Value} (h : anyC P s d x = some v) (hx : VR ρ x x') (w : World) : ∃ v', (convert s d x').run P w = .ok v' w ∧ VR ρ v v' := by
  unfold anyC at h
  split at h
  · rename_i n
    split at h
    · rename_i k0 ds k hk hs hd
      cases h
      unfold VR at hx
      obtain ⟨i, rfl⟩ := hx.2.2 k0 hk
      refine ⟨.int k (k.wrap i), ?_, any_int k _⟩
      unfold convert
      simp only [Sem.run_bind, und_run hs, und_run hd, Result.andThen_ok]
      rfl
    · cases h
  · cases h
theorem guard_ok (op : BinOp) (t : TypeId) (x y : Operand) (a b : Value) (h1 : ¬ (a = .nilIface ∧ b = .nilIface)) (h2 : ∀ c, a ≠ .agg c) (w : World) : (eqGuard op t x y a b).run P w = .ok () w := by
  unfold eqGuard
  split
  · rw [if_neg (by decide)]
    split
    · exact absurd ⟨rfl, rfl⟩ h1
    · exact absurd rfl (h2 _)
    · rfl
  · rw [if_neg (by decide)]
    split
    · exact absurd ⟨rfl, rfl⟩ h1
    · exact absurd rfl (h2 _)
    · rfl
  · rw [if_pos (by decide)]
    rfl
def Done (P : Program) (G : Nat) (w0 : World) (ρ : Rho) (a : Act) (o : Oper) (w : World) (hp : Hp) (v : Value) (hp' : Hp) : Prop :=
  ∃ nx v' w' ρ', (execOp a.eval o).run P w = .ok nx w' ∧ (nx = .value v' ∨ nx = .skip ∧ v' = undef) ∧ Grow hp hp' ρ ρ' ∧ Rel P G w0 ρ' hp' w' ∧ VR ρ' v v'
theorem lay_ok {o : Oper} {s : St} {a : Act} {hp : Hp} {w : World} {ob : AObj} {mk : Nat → Value} (hR : Rel P G w0 ρ hp w) (hT : TR ρ s a) (h : layOf P G o.op s.t = some (ob, mk)) :
    ∃ v' w1 x, (execOp a.eval o).run P w = .ok (.value v') w1 ∧ Born P ρ w w1 ob x mk v' := by
  have value : ∀ {S : Sem Value}, execOp a.eval o = (do pure (.value (← S))) → (∃ v' w1 x, S.run P w = .ok v' w1 ∧ Born P ρ w w1 ob x mk v') → ∃ v' w1 x, (execOp a.eval o).run P w = .ok (.value v') w1 ∧ Born P ρ w w1 ob x mk v' := by
    rintro S he ⟨v', w1, x, h1, h2⟩
    refine ⟨v', w1, x, ?_, h2⟩
    rw [he]
    simp only [Sem.run_bind, h1, Result.andThen_ok, Sem.run_pure]
  unfold layOf at h
  cases ho : o.op <;> rw [ho] at h <;> (try dsimp only at h) <;> try (cases h; done)
  case alloc e =>
    unfold lAlloc at h
    cases hz : zeroT P e with
    | none => rw [hz] at h; cases h
    | some z =>
      rw [hz] at h
      dsimp only at h
      cases hf : flat z with
      | false => rw [hf] at h; cases h
      | true =>
        rw [hf, cond_true] at h
        cases h
        exact value (by unfold execOp; rw [ho]) ⟨_, _, 0, alloc_born hz, born_cells (flats_self _ (flats_cells hf))⟩
  case box e x =>
    unfold lBox at h
    cases h1 : opd G s.t x with
    | none => rw [h1] at h; cases h
    | some u =>
      rw [h1] at h
      cases h
      have hv := (opd_ok hR hT h1).1
      exact value (by unfold execOp; rw [ho]) ⟨_, _, 0, box_born hv, born_cells hv.cells⟩
  case buildSlice t n ps =>
    unfold lSlice at h
    cases h1 : partsA G s.t ps.toList with
    | none => rw [h1] at h; cases h
    | some us =>
      rw [h1] at h
      dsimp only at h
      refine value (S := Instr.buildSlice t n (ps.map fun (i, x) => (i, a.eval x))) (by unfold execOp; rw [ho]) ?_
      have : (ps.map fun (i, x) => (i, a.eval x)) = (ps.toList.map fun p => (p.1, a.eval p.2)).toArray := by
        apply Array.ext'
        simp
      rw [this]
      exact buildSlice_born h (parts_ok hR hT h1)
  case convert src dst x =>
    unfold lBytes at h
    cases hu : P.underlying src with
    | none => rw [hu] at h; cases h
    | some d =>
      rw [hu] at h
      dsimp only at h
      have he : a.eval x = ev s.t x := by
        refine ev_flat hT ?_
        unfold byteRow at h
        split at h
        · rename_i hx; rw [hx]; rfl
        · cases h
      exact value (S := convert src dst (a.eval x)) (by unfold execOp; rw [ho]) (by rw [he]; exact byteRow_born h ⟨d, hu⟩)
  case makeMap t r =>
    unfold lMap at h
    cases r with
    | none =>
      cases h
      exact value (S := Instr.makeMap t none) (by unfold execOp; rw [ho]; rfl) ⟨_, _, 0, by unfold Instr.makeMap; simp only [Sem.run_bind, Sem.run_pure, Result.andThen_ok]; rfl, map_born⟩
    | some x =>
      dsimp only at h
      split at h
      · rename_i k n kt e hx hu
        cases h
        have hxe := ev_int hT hx
        exact value (S := Instr.makeMap t (some (a.eval x))) (by unfold execOp; rw [ho]; rfl) ⟨_, _, 0, by unfold Instr.makeMap; simp only [Sem.run_bind, Sem.run_pure, Result.andThen_ok, und_run hu, hxe, asInt, asIntOf]; rfl, map_born⟩
      · cases h
  case makeSlice t l c =>
    have hlc : (∃ k n, ev s.t l = .int k n) ∧ ∃ k n, ev s.t c = .int k n := by
      unfold makeSliceA at h
      split at h
      · rename_i h1 h2; exact ⟨⟨_, _, h1⟩, ⟨_, _, h2⟩⟩
      · cases h
    obtain ⟨⟨k1, n1, e1⟩, k2, n2, e2⟩ := hlc
    refine value (S := Instr.makeSlice t (a.eval l) (a.eval c)) (by unfold execOp; rw [ho]) ?_
    rw [ev_int hT e1, ev_int hT e2, ← e1, ← e2]
    exact makeSlice_born h
theorem update_n {hp hp' : Hp} {t : TypeId} {m k v : Value} (h : updateA P G hp t m k v = some hp') : hp.n ≤ hp'.n := by
  unfold updateA at h
  split at h
  · rename_i kt e hu
    cases hk : keyOk P kt k with
    | false => rw [hk] at h; cases h
    | true =>
      rw [hk, Bool.not_true, cond_false] at h
      split at h
      · rename_i d r es ck hud hmo
        cases hG : Nat.blt r G with
        | true => rw [hG] at h; cases h
        | false =>
          rw [hG, cond_false] at h
          split at h <;> cases h <;> exact Nat.le_refl _
      · cases h
  · cases h
theorem store_n {hp hp' : Hp} {t : TypeId} {a x : Value} (h : storeA P G hp t a x = some hp') : hp.n ≤ hp'.n := by
  unfold storeA at h
  split at h
  · rename_i b o n ha hs
    cases hb : Nat.beq x.cells.size n with
    | false => rw [hb] at h; cases h
    | true => rw [hb, cond_true] at h; exact storeCells_n h
  · cases h
theorem bOp_ok {o : Oper} {s : St} {a : Act} {hp hp' : Hp} {w : World} {v : Value} (hR : Rel P G w0 ρ hp w) (hT : TR ρ s a) (h : bOp P G o s.t hp = some (v, hp')) : Done P G w0 ρ a o w hp v hp' := by
  have value : ∀ {S : Sem Value} {v' : Value} {w' : World} {ρ' : Rho}, execOp a.eval o = (do pure (.value (← S))) → S.run P w = .ok v' w' → Grow hp hp' ρ ρ' → Rel P G w0 ρ' hp' w' → VR ρ' v v' → Done P G w0 ρ a o w hp v hp' := by
    intro S v' w' ρ' he hS hle hR' hv
    refine ⟨.value v', v', w', ρ', ?_, .inl rfl, hle, hR', hv⟩
    rw [he]
    simp only [Sem.run_bind, hS, Result.andThen_ok, Sem.run_pure]
  have stays : ∀ {S : Sem Value} {v' : Value}, hp' = hp → execOp a.eval o = (do pure (.value (← S))) → S.run P w = .ok v' w → VR ρ v v' → Done P G w0 ρ a o w hp v hp' := by
    intro S v' hh he hS hv
    subst hh
    exact value he hS (Grow.refl _ _) hR hv
  have unit : ∀ {S : Sem Unit} {w' : World}, execOp a.eval o = (do S; pure .skip) → S.run P w = .ok () w' → Rel P G w0 ρ hp' w' → hp.n ≤ hp'.n → v = undef → Done P G w0 ρ a o w hp v hp' := by
    intro S w' he hS hR' hn hv
    subst hv
    refine ⟨.skip, undef, w', ρ, ?_, .inr ⟨rfl, rfl⟩, Grow.same hn ρ, hR', VR.undef⟩
    rw [he]
    simp only [Sem.run_bind, hS, Result.andThen_ok, Sem.run_pure]
  unfold bOp at h
  cases hso : sOp P G o.op s.t hp with
  | none =>
    rw [hso] at h
    dsimp only at h
    unfold pureOp at h
    cases hfl : (o.op.operands.toList.all (fun x => flat (ev s.t x)) && purely o.op) with
    | true =>
      rw [hfl, cond_true] at h
      simp only [Bool.and_eq_true] at hfl
      have hcg : execOp a.eval o = execOp (ev s.t) o := by
        refine execOp_congr o (fun cs b e => ?_) (fun x hx => ev_flat hT (List.all_eq_true.1 hfl.1 x (by simpa using hx)))
        rw [e] at hfl
        cases hfl.2
      split at h
      · rename_i x hx
        cases hf : flat x with
        | false => rw [hf] at h; cases h
        | true =>
          rw [hf, cond_true] at h
          cases h
          refine ⟨.value v, v, w, ρ, ?_, .inl rfl, Grow.refl _ _, hR, flat_self _ hf⟩
          rw [hcg]
          exact pureRun_run _ _ w hx
      · cases h
    | false => rw [hfl] at h; cases h
  | some q =>
    rw [hso] at h
    cases h
    have h := hso
    clear hso
    unfold sOp at h
    cases ho : o.op <;> rw [ho] at h <;> (try dsimp only at h) <;> try (cases h; done)
    case move x =>
      cases h1 : opd G s.t x <;> rw [h1] at h <;> cases h
      exact ⟨_, _, w, ρ, by unfold execOp; rw [ho]; rfl, .inl rfl, Grow.refl _ _, hR, (opd_ok hR hT h1).1⟩
    case assign x =>
      cases h1 : opd G s.t x <;> rw [h1] at h <;> cases h
      exact ⟨_, _, w, ρ, by unfold execOp; rw [ho]; rfl, .inl rfl, Grow.refl _ _, hR, (opd_ok hR hT h1).1⟩
    case pick c x y =>
      unfold bPick at h
      split at h
      · rename_i q vx vy hc h1 h2
        cases h
        have hce : a.eval c = .bool q := (ev_flat hT (by rw [hc]; rfl)).trans hc
        refine ⟨.value (if q then a.eval x else a.eval y), _, w, ρ, by unfold execOp; rw [ho]; simp [hce, asBool], .inl rfl, Grow.refl _ _, hR, ?_⟩
        cases q
        · exact (opd_ok hR hT h2).1
        · exact (opd_ok hR hT h1).1
      · cases h
    case build t ps =>
      unfold bBuild at h
      cases h1 : partsA G s.t ps.toList with
      | none => rw [h1] at h; cases h
      | some us =>
        rw [h1] at h
        dsimp only at h
        cases h2 : buildA P t us with
        | none => rw [h2] at h; cases h
        | some u =>
          rw [h2] at h
          cases h
          obtain ⟨v', g1, g2⟩ := build_ok h2 (parts_ok hR hT h1) w
          refine stays rfl (S := Instr.build t (ps.map fun (i, x) => (i, a.eval x))) (by unfold execOp; rw [ho]) ?_ g2
          have : (ps.map fun (i, x) => (i, a.eval x)) = (ps.toList.map fun p => (p.1, a.eval p.2)).toArray := by
            apply Array.ext'
            simp
          rw [this]
          exact g1
    case insert t m k x =>
      unfold bUpdate at h
      split at h
      · rename_i vm vx h1 h2
        cases h3 : updateA P G hp t vm (ev s.t k) vx with
        | none => rw [h3] at h; cases h
        | some hp1 =>
          rw [h3] at h
          cases h
          have hk : a.eval k = ev s.t k := by
            refine ev_flat hT ?_
            unfold updateA at h3
            split at h3
            · rename_i kt e hu
              cases hk : keyOk P kt (ev s.t k) with
              | false => rw [hk] at h3; cases h3
              | true => exact key_flat hk
            · cases h3
          obtain ⟨w', g1, g2⟩ := update_ok hR h3 (opd_ok hR hT h1).1 (opd_ok hR hT h2).1
          exact unit (S := Instr.mapUpdate t (a.eval m) (a.eval k) (a.eval x)) (by unfold execOp; rw [ho]) (by rw [hk]; exact g1) g2 (update_n h3) rfl
      · cases h
    case load t x =>
      unfold bLoad at h
      cases h1 : opd G s.t x with
      | none => rw [h1] at h; cases h
      | some u =>
        rw [h1] at h
        dsimp only at h
        cases h2 : loadA P hp t u with
        | none => rw [h2] at h; cases h
        | some y =>
          rw [h2] at h
          cases h
          obtain ⟨v', g1, g2⟩ := load_ok hR h2 (opd_ok hR hT h1).1
          exact stays rfl (by unfold execOp; rw [ho]) g1 g2
    case store t x y =>
      unfold bStore at h
      split at h
      · rename_i vx vy h1 h2
        cases h3 : storeA P G hp t vx vy with
        | none => rw [h3] at h; cases h
        | some hp1 =>
          rw [h3] at h
          cases h
          obtain ⟨w', g1, g2⟩ := store_ok hR h3 (opd_ok hR hT h1).1 (opd_ok hR hT h2).1
          exact unit (by unfold execOp; rw [ho]) g1 g2 (store_n h3) rfl
      · cases h
    case nilCheck x =>
      unfold bNil at h
      split at h
      · rename_i ad h1
        cases h
        have hv := (opd_ok hR hT h1).1
        have hv2 := hv
        unfold VR at hv2
        obtain ⟨b', xt, _, _, e⟩ := hv2
        exact ⟨.value (a.eval x), _, w, ρ, by unfold execOp; rw [ho]; simp [e], .inl rfl, Grow.refl _ _, hR, hv⟩
      · rename_i f a1 a2 h1
        cases h
        have hv := (opd_ok hR hT h1).1
        obtain ⟨a', c', e, _, _⟩ := hv.func
        exact ⟨.value (a.eval x), _, w, ρ, by unfold execOp; rw [ho]; simp [e], .inl rfl, Grow.refl _ _, hR, hv⟩
      · rename_i t y h1
        cases h
        have hv := (opd_ok hR hT h1).1
        obtain ⟨y', e, _⟩ := hv.iface
        exact ⟨.value (a.eval x), _, w, ρ, by unfold execOp; rw [ho]; simp [e], .inl rfl, Grow.refl _ _, hR, hv⟩
      · cases h
    case binOp op t x y yt =>
      unfold bBin at h
      split at h
      · rename_i k1 n1 k2 n2 h1 h2
        have hx := (opd_ok hR hT h1).1.int
        have hy := (opd_ok hR hT h2).1.int
        cases hk : decide (k1 = k2) with
        | false => rw [hk] at h; cases h
        | true =>
          rw [hk, cond_true] at h
          have hk := of_decide_eq_true hk
          subst hk
          cases hq : intQ op k1 n1 n2 with
          | none => rw [hq] at h; cases h
          | some u =>
            rw [hq] at h
            cases h
            have hguard : (eqGuard op t x y (a.eval x) (a.eval y)).run P w = .ok () w := by
              rw [hx, hy]
              exact guard_ok op t x y _ _ (fun e => by cases e.1) (fun c e => by cases e) w
            refine stays rfl (S := do eqGuard op t x y (a.eval x) (a.eval y); binOp op t (a.eval x) (a.eval y)) (v' := v) (by unfold execOp; rw [ho]) ?_ ?_
            · simp only [Sem.run_bind, hguard, Result.andThen_ok]
              rw [hx, hy]
              cases op <;> simp only [intQ, Option.some.injEq] at hq <;> first | (cases hq; done) | skip
              all_goals
                subst hq
                unfold binOp
                simp only [ne_eq, not_true_eq_false, if_false]
                first
                  | rfl
                  | (simp [Op.intCmp, beq_eq_decide, bne])
            · cases op <;> simp only [intQ, Option.some.injEq] at hq <;> first | (cases hq; done) | (subst hq; exact flat_self _ rfl)
      · rename_i vx vy _ h1 h2
        cases hany : anyQ op vx vy with
        | some u =>
          rw [hany] at h
          cases h
          obtain ⟨⟨k, n1, n2, hx, hy⟩, v', g1, g2⟩ := any_ok (P := P) hany (opd_ok hR hT h1).1 (opd_ok hR hT h2).1 t w
          have hguard : (eqGuard op t x y (a.eval x) (a.eval y)).run P w = .ok () w := by
            rw [hx, hy]
            exact guard_ok op t x y _ _ (fun e => by cases e.1) (fun c e => by cases e) w
          refine stays rfl (S := do eqGuard op t x y (a.eval x) (a.eval y); binOp op t (a.eval x) (a.eval y)) (v' := v') (by unfold execOp; rw [ho]) ?_ g2
          simp only [Sem.run_bind, hguard, Result.andThen_ok, g1]
        | none =>
        rw [hany] at h
        dsimp only at h
        unfold eqQ at h
        have hvx := (opd_ok hR hT h1).1
        have hvy := (opd_ok hR hT h2).1
        cases hk : (eqKind P t vx && eqKind P t vy) with
        | false => rw [hk] at h; cases h
        | true =>
          rw [hk, cond_true] at h
          simp only [Bool.and_eq_true] at hk
          cases hq : eqA vx vy with
          | none => rw [hq] at h; cases op <;> cases h
          | some q =>
            rw [hq] at h
            have heq : (Op.equal t (a.eval x) (a.eval y)).run P w = .ok q w := equalIn_ok (d := 9999) hk.1 hk.2 hq hvx hvy w
            have shape : (∃ ad, a.eval x = .pointer ad) ∨ (∃ ad n c, a.eval x = .slice ad n c) ∨ (∃ r, a.eval x = .map r) ∨ (∃ f b c, a.eval x = .func f b c) ∨ a.eval x = .nilFunc ∨ (∃ t y, a.eval x = .iface t y) ∨ a.eval x = .nilIface := by
              unfold eqKind at hk
              cases vx with
              | pointer ad => cases ad <;> (unfold VR at hvx; first | exact .inl ⟨_, hvx⟩ | (obtain ⟨_, _, _, _, e⟩ := hvx; exact .inl ⟨_, e⟩))
              | slice ad n c =>
                cases ad with
                | none => unfold VR at hvx; exact .inr (.inl ⟨_, _, _, hvx.2.2⟩)
                | some ad =>
                  unfold VR at hvx
                  rcases hvx with ⟨_, _, _, _, _, e⟩ | ⟨_, _, _, _, _, _, _, e⟩ <;> exact .inr (.inl ⟨_, _, _, e⟩)
              | map r => cases r <;> (unfold VR at hvx; first | exact .inr (.inr (.inl ⟨_, hvx⟩)) | (obtain ⟨_, _, _, e⟩ := hvx; exact .inr (.inr (.inl ⟨_, e⟩))))
              | func f b c => cases f <;> (unfold VR at hvx; first | exact hvx.elim | (obtain ⟨_, _, e, _, _⟩ := hvx; exact .inr (.inr (.inr (.inl ⟨_, _, _, e⟩)))))
              | nilFunc => unfold VR at hvx; exact .inr (.inr (.inr (.inr (.inl hvx))))
              | iface t y => obtain ⟨_, e, _⟩ := hvx.iface; exact .inr (.inr (.inr (.inr (.inr (.inl ⟨_, _, e⟩)))))
              | nilIface => unfold VR at hvx; exact .inr (.inr (.inr (.inr (.inr (.inr hvx)))))
              | _ =>
                exfalso
                cases hu : P.underlying t with
                | none => rw [hu] at hk; cases hk.1
                | some dd => rw [hu] at hk; cases dd <;> cases hk.1
            have shapeY : (∃ ad, a.eval y = .pointer ad) ∨ (∃ ad n c, a.eval y = .slice ad n c) ∨ (∃ r, a.eval y = .map r) ∨ (∃ f b c, a.eval y = .func f b c) ∨ a.eval y = .nilFunc ∨ (∃ t y', a.eval y = .iface t y') ∨ a.eval y = .nilIface := by
              unfold eqKind at hk
              cases vy with
              | pointer ad => cases ad <;> (unfold VR at hvy; first | exact .inl ⟨_, hvy⟩ | (obtain ⟨_, _, _, _, e⟩ := hvy; exact .inl ⟨_, e⟩))
              | slice ad n c =>
                cases ad with
                | none => unfold VR at hvy; exact .inr (.inl ⟨_, _, _, hvy.2.2⟩)
                | some ad =>
                  unfold VR at hvy
                  rcases hvy with ⟨_, _, _, _, _, e⟩ | ⟨_, _, _, _, _, _, _, e⟩ <;> exact .inr (.inl ⟨_, _, _, e⟩)
              | map r => cases r <;> (unfold VR at hvy; first | exact .inr (.inr (.inl ⟨_, hvy⟩)) | (obtain ⟨_, _, _, e⟩ := hvy; exact .inr (.inr (.inl ⟨_, e⟩))))
              | func f b c => cases f <;> (unfold VR at hvy; first | exact hvy.elim | (obtain ⟨_, _, e, _, _⟩ := hvy; exact .inr (.inr (.inr (.inl ⟨_, _, _, e⟩)))))
              | nilFunc => unfold VR at hvy; exact .inr (.inr (.inr (.inr (.inl hvy))))
              | iface t y => obtain ⟨_, e, _⟩ := hvy.iface; exact .inr (.inr (.inr (.inr (.inr (.inl ⟨_, _, e⟩)))))
              | nilIface => unfold VR at hvy; exact .inr (.inr (.inr (.inr (.inr (.inr hvy)))))
              | _ =>
                exfalso
                cases hu : P.underlying t with
                | none => rw [hu] at hk; cases hk.2
                | some dd => rw [hu] at hk; cases dd <;> cases hk.2
            have notboth : ¬ (a.eval x = .nilIface ∧ a.eval y = .nilIface) := by
              rintro ⟨e1, e2⟩
              rw [e1] at hvx
              rw [e2] at hvy
              have f1 : vx = .nilIface := by
                cases vx with
                | pointer ad => cases ad <;> (unfold VR at hvx; first | cases hvx; done | (obtain ⟨_, _, _, _, e⟩ := hvx; cases e))
                | slice ad n c => cases ad <;> (unfold VR at hvx; first | (obtain ⟨_, _, e⟩ := hvx; cases e; done) | (rcases hvx with ⟨_, _, _, _, _, e⟩ | ⟨_, _, _, _, _, _, _, e⟩ <;> cases e))
                | map r => cases r <;> (unfold VR at hvx; first | cases hvx; done | (obtain ⟨_, _, _, e⟩ := hvx; cases e))
                | chan r =>
                  exfalso
                  unfold eqKind at hk
                  cases hu : P.underlying t with
                  | none => rw [hu] at hk; cases hk.1
                  | some dd => rw [hu] at hk; cases dd <;> cases hk.1
                | func f b c => cases f <;> (unfold VR at hvx; first | exact hvx.elim | (obtain ⟨_, _, e, _, _⟩ := hvx; cases e))
                | iface t y => obtain ⟨_, e, _⟩ := hvx.iface; cases e
                | agg c => obtain ⟨_, e, _⟩ := hvx.agg; cases e
                | tuple c => obtain ⟨_, e, _⟩ := hvx.tuple; cases e
                | nilIface => rfl
                | _ => unfold VR at hvx; cases hvx
              subst f1
              cases vy <;> first | (simp [eqA] at hq; done) | skip
              all_goals (obtain ⟨_, e, _⟩ := hvy.iface; cases e)
            have hguard : (eqGuard op t x y (a.eval x) (a.eval y)).run P w = .ok () w := by
              refine guard_ok op t x y _ _ notboth (fun c hc => ?_) w
              rcases shape with ⟨_, e⟩ | ⟨_, _, _, e⟩ | ⟨_, e⟩ | ⟨_, _, _, e⟩ | e | ⟨_, _, e⟩ | e <;> rw [e] at hc <;> cases hc
            have fin : ∀ bb, (binOp op t (a.eval x) (a.eval y)).run P w = .ok (.bool bb) w → v = .bool bb → hp' = hp → Done P G w0 ρ a o w hp v hp' := by
              intro bb hb hv hh
              subst hv
              refine stays hh (S := do eqGuard op t x y (a.eval x) (a.eval y); binOp op t (a.eval x) (a.eval y)) (v' := .bool bb) (by unfold execOp; rw [ho]) ?_ (flat_self _ rfl)
              simp only [Sem.run_bind, hguard, Result.andThen_ok, hb]
            cases op <;> first | (cases h; done) | skip
            · cases h
              refine fin q ?_ rfl rfl
              have : binOp .eql t (a.eval x) (a.eval y) = (do pure (.bool (← Op.equal t (a.eval x) (a.eval y)))) := by
                rcases shape with ⟨_, e⟩ | ⟨_, _, _, e⟩ | ⟨_, e⟩ | ⟨_, _, _, e⟩ | e | ⟨_, _, e⟩ | e <;> rw [e] <;> rcases shapeY with ⟨_, e'⟩ | ⟨_, _, _, e'⟩ | ⟨_, e'⟩ | ⟨_, _, _, e'⟩ | e' | ⟨_, _, e'⟩ | e' <;> rw [e'] <;> rfl
              rw [this]
              simp only [Sem.run_bind, heq, Result.andThen_ok, Sem.run_pure]
            · cases h
              refine fin (!q) ?_ rfl rfl
              have : binOp .neq t (a.eval x) (a.eval y) = (do pure (.bool (!(← Op.equal t (a.eval x) (a.eval y))))) := by
                rcases shape with ⟨_, e⟩ | ⟨_, _, _, e⟩ | ⟨_, e⟩ | ⟨_, _, _, e⟩ | e | ⟨_, _, e⟩ | e <;> rw [e] <;> rcases shapeY with ⟨_, e'⟩ | ⟨_, _, _, e'⟩ | ⟨_, e'⟩ | ⟨_, _, _, e'⟩ | e' | ⟨_, _, e'⟩ | e' <;> rw [e'] <;> rfl
              rw [this]
              simp only [Sem.run_bind, heq, Result.andThen_ok, Sem.run_pure]
      · cases h
    case convert src dst x =>
      unfold bConv at h
      cases h1 : opd G s.t x with
      | none => rw [h1] at h; cases h
      | some u =>
        rw [h1] at h
        dsimp only at h
        have hv := (opd_ok hR hT h1).1
        cases h2 : convertA P hp src dst u with
        | some r =>
          rw [h2] at h
          cases h
          obtain ⟨g1, g2⟩ := convert_ok hR h2 hv
          exact stays rfl (S := convert src dst (a.eval x)) (by unfold execOp; rw [ho]) g1 (flat_self _ g2)
        | none =>
          rw [h2] at h
          dsimp only at h
          cases hac : anyC P src dst u with
          | some r =>
            rw [hac] at h
            cases h
            obtain ⟨v', g1, g2⟩ := anyC_ok hac hv w
            exact stays rfl (S := convert src dst (a.eval x)) (by unfold execOp; rw [ho]) g1 g2
          | none =>
          rw [hac] at h
          dsimp only at h
          cases hf : flat u with
          | false => rw [hf] at h; cases h
          | true =>
            rw [hf, cond_true] at h
            have he := flat_same _ _ hf hv
            cases h3 : pureRun P (convert src dst u) with
            | none => rw [h3] at h; cases h
            | some y =>
              rw [h3] at h
              dsimp only at h
              cases hfy : flat y with
              | false => rw [hfy] at h; cases h
              | true =>
                rw [hfy, cond_true] at h
                cases h
                exact stays rfl (S := convert src dst (a.eval x)) (by unfold execOp; rw [ho]) (by rw [he]; exact pureRun_run _ _ w h3) (flat_self _ hfy)
    case makeInterface t x =>
      unfold bIface at h
      split at h
      · cases h
      · rename_i d u hni hu h1
        cases h
        refine stays rfl (S := Instr.makeInterface t (a.eval x)) (v' := .iface t (a.eval x)) (by unfold execOp; rw [ho]) ?_ (by unfold VR; exact ⟨_, rfl, (opd_ok hR hT h1).1⟩)
        unfold Instr.makeInterface
        simp only [Sem.run_bind, und_run hu, Result.andThen_ok]
        cases d <;> first | exact absurd rfl (hni _) | rfl
      · cases h
    case makeFunc fn a1 a2 =>
      cases fn <;> dsimp only at h <;> try (cases h; done)
      rename_i f
      unfold bFunc at h
      split at h
      · rename_i u1 u2 h1 h2
        cases h
        refine stays rfl (S := Instr.makeFunc (.func f) (a1.map a.eval) (a2.map a.eval)) (v' := .func (.func f) (a1.map a.eval) (a2.map a.eval)) (by unfold execOp; rw [ho]) rfl ?_
        unfold VR
        exact ⟨_, _, rfl, by simpa using opds_ok hR hT h1, by simpa using opds_ok hR hT h2⟩
      · cases h
    case slice t x lo hi mx =>
      unfold bSlice at h
      cases h1 : opd G s.t x with
      | none => rw [h1] at h; cases h
      | some u =>
        rw [h1] at h
        dsimp only at h
        cases h2 : sliceA P t u (lo.map (ev s.t)) (hi.map (ev s.t)) (mx.map (ev s.t)) with
        | none => rw [h2] at h; cases h
        | some y =>
          rw [h2] at h
          cases h
          have hb : ∀ {q : Option Operand} {d n : Nat}, boundA (q.map (ev s.t)) d = some n → q.map a.eval = q.map (ev s.t) := by
            intro q d n hq
            cases q with
            | none => rfl
            | some z =>
              simp only [Option.map_some] at hq ⊢
              cases hz : ev s.t z <;> rw [hz] at hq <;> simp [boundA] at hq
              rw [ev_int hT hz]
          have hall : lo.map a.eval = lo.map (ev s.t) ∧ hi.map a.eval = hi.map (ev s.t) ∧ mx.map a.eval = mx.map (ev s.t) := by
            unfold sliceA at h2
            split at h2
            · rename_i e b o len cp _
              cases q1 : sizeT P e <;> cases q2 : boundA (lo.map (ev s.t)) 0 <;> cases q3 : boundA (hi.map (ev s.t)) len <;> cases q4 : boundA (mx.map (ev s.t)) cp <;> rw [q1, q2, q3, q4] at h2 <;> first | (cases h2; done) | (simp at h2; done) | exact ⟨hb q2, hb q3, hb q4⟩
            · rename_i e _
              cases q1 : sizeT P e <;> cases q2 : boundA (lo.map (ev s.t)) 0 <;> cases q3 : boundA (hi.map (ev s.t)) 0 <;> cases q4 : boundA (mx.map (ev s.t)) 0 <;> rw [q1, q2, q3, q4] at h2 <;> first | (cases h2; done) | (simp at h2; done) | exact ⟨hb q2, hb q3, hb q4⟩
            · rename_i k e b o _
              cases q1 : sizeT P e <;> cases q2 : boundA (lo.map (ev s.t)) 0 <;> cases q3 : boundA (hi.map (ev s.t)) k <;> cases q4 : boundA (mx.map (ev s.t)) k <;> rw [q1, q2, q3, q4] at h2 <;> first | (cases h2; done) | (simp at h2; done) | exact ⟨hb q2, hb q3, hb q4⟩
            · cases h2
          obtain ⟨v', g1, g2⟩ := slice_ok hR h2 (opd_ok hR hT h1).1
          refine stays rfl (S := Instr.sliceAt t (a.eval x) (lo.map a.eval) (hi.map a.eval) (mx.map a.eval)) (by unfold execOp; rw [ho]) ?_ g2
          rw [hall.1, hall.2.1, hall.2.2]
          exact g1
    case fieldAddr t x f =>
      unfold bFieldAddr at h
      cases h1 : opd G s.t x with
      | none => rw [h1] at h; cases h
      | some u =>
        rw [h1] at h
        dsimp only at h
        cases h2 : fieldAddrA P t u f with
        | none => rw [h2] at h; cases h
        | some y =>
          rw [h2] at h
          cases h
          obtain ⟨v', g1, g2⟩ := fieldAddr_ok hR h2 (opd_ok hR hT h1).1
          exact stays rfl (by unfold execOp; rw [ho]) g1 g2
    case field t x f =>
      unfold bField at h
      cases h1 : opd G s.t x with
      | none => rw [h1] at h; cases h
      | some u =>
        rw [h1] at h
        dsimp only at h
        cases h2 : fieldA P t u f with
        | none => rw [h2] at h; cases h
        | some y =>
          rw [h2] at h
          cases h
          obtain ⟨v', g1, g2⟩ := field_ok h2 (opd_ok hR hT h1).1 w
          exact stays rfl (by unfold execOp; rw [ho]) g1 g2
    case indexAddr t x i =>
      unfold bIndexAddr at h
      cases h1 : opd G s.t x with
      | none => rw [h1] at h; cases h
      | some u =>
        rw [h1] at h
        dsimp only at h
        cases h2 : indexAddrA P t u (ev s.t i) with
        | none => rw [h2] at h; cases h
        | some y =>
          rw [h2] at h
          cases h
          have hi : a.eval i = ev s.t i := by
            unfold indexAddrA at h2
            split at h2
            · rename_i hi; rw [hi]; exact ev_int hT hi
            · rename_i hi; rw [hi]; exact ev_int hT hi
            · cases h2
          obtain ⟨v', g1, g2⟩ := indexAddr_ok hR h2 (opd_ok hR hT h1).1
          exact stays rfl (S := Instr.indexAt t (a.eval x) (a.eval i)) (by unfold execOp; rw [ho]) (by rw [hi]; exact g1) g2
    case index t x i =>
      unfold bIndex at h
      cases h1 : opd G s.t x with
      | none => rw [h1] at h; cases h
      | some u =>
        rw [h1] at h
        dsimp only at h
        cases h2 : indexA P t u (ev s.t i) with
        | none => rw [h2] at h; cases h
        | some y =>
          rw [h2] at h
          cases h
          have hi : a.eval i = ev s.t i := by
            unfold indexA at h2
            split at h2
            · rename_i hi; rw [hi]; exact ev_int hT hi
            · cases h2
          obtain ⟨v', g1, g2⟩ := index_ok h2 (opd_ok hR hT h1).1 w
          exact stays rfl (S := Instr.index t (a.eval x) (a.eval i)) (by unfold execOp; rw [ho]) (by rw [hi]; exact g1) g2
    case lookup t x k ok =>
      unfold bLookup at h
      cases h1 : opd G s.t x with
      | none => rw [h1] at h; cases h
      | some u =>
        rw [h1] at h
        dsimp only at h
        cases h2 : lookupA P hp t u (ev s.t k) ok with
        | none => rw [h2] at h; cases h
        | some y =>
          rw [h2] at h
          cases h
          have hk : a.eval k = ev s.t k := by
            refine ev_flat hT ?_
            unfold lookupA at h2
            split at h2
            · rename_i kt e hu
              cases hk : keyOk P kt (ev s.t k) with
              | false => rw [hk] at h2; cases h2
              | true => exact key_flat hk
            · cases h2
          obtain ⟨v', g1, g2⟩ := lookup_ok hR h2 (opd_ok hR hT h1).1
          exact stays rfl (S := Instr.lookup t (a.eval x) (a.eval k) ok) (by unfold execOp; rw [ho]) (by rw [hk]; exact g1) g2
    case mapUpdate t m k x =>
      unfold bUpdate at h
      split at h
      · rename_i vm vx h1 h2
        cases h3 : updateA P G hp t vm (ev s.t k) vx with
        | none => rw [h3] at h; cases h
        | some hp1 =>
          rw [h3] at h
          cases h
          have hk : a.eval k = ev s.t k := by
            refine ev_flat hT ?_
            unfold updateA at h3
            split at h3
            · rename_i kt e hu
              cases hk : keyOk P kt (ev s.t k) with
              | false => rw [hk] at h3; cases h3
              | true => exact key_flat hk
            · cases h3
          obtain ⟨w', g1, g2⟩ := update_ok hR h3 (opd_ok hR hT h1).1 (opd_ok hR hT h2).1
          exact unit (S := Instr.mapUpdate t (a.eval m) (a.eval k) (a.eval x)) (by unfold execOp; rw [ho]) (by rw [hk]; exact g1) g2 (update_n h3) rfl
      · cases h
    case range t x =>
      unfold bRange at h
      cases h1 : opd G s.t x with
      | none => rw [h1] at h; cases h
      | some u =>
        rw [h1] at h
        obtain ⟨v', w', ρ', g1, g2, g3, g4⟩ := range_ok hR h (opd_ok hR hT h1).1
        exact value (by unfold execOp; rw [ho]) g1 g2 g3 g4
    case next it b =>
      unfold bNext at h
      cases h1 : opd G s.t it with
      | none => rw [h1] at h; cases h
      | some u =>
        rw [h1] at h
        obtain ⟨w', g1, g2, g3, g4⟩ := next_ok (ty := o.type) hR h (opd_ok hR hT h1).1
        exact value (by unfold execOp; rw [ho]) g1 (Grow.same g4 _) g2 g3
    case typeAssert x t1 t2 ok =>
      unfold bAssert at h
      cases h1 : opd G s.t x with
      | none => rw [h1] at h; cases h
      | some u =>
        rw [h1] at h
        dsimp only at h
        cases h2 : assertA P u t1 t2 ok with
        | none => rw [h2] at h; cases h
        | some y =>
          rw [h2] at h
          cases h
          obtain ⟨v', g1, g2⟩ := assert_ok (hp := hp) (w := w) h2 (opd_ok hR hT h1).1
          exact stays rfl (by unfold execOp; rw [ho]) g1 g2
    case extract x i =>
      unfold bExtract at h
      split at h
      · rename_i vs h1
        cases h2 : vs[i]? with
        | none => rw [h2] at h; cases h
        | some y =>
          rw [h2] at h
          cases h
          obtain ⟨vs', e, hvs⟩ := (opd_ok hR hT h1).1.tuple
          obtain ⟨y', g1, g2⟩ := hvs.get i v (by simpa using h2)
          refine stays rfl (S := Instr.extract (a.eval x) i) (v' := y') (by unfold execOp; rw [ho]) ?_ g2
          unfold Instr.extract
          rw [e]
          have : vs'[i]? = some y' := by simpa using g1
          simp [this]
      · cases h
    case call c =>
      unfold bCall at h
      have hres : ∀ bi, c.callee = .builtin bi → execOp a.eval o = builtin bi c.argTypes o.type (c.args.map fun | .const _ => true | _ => false) (c.args.map a.eval) := by
        intro bi hc
        unfold execOp
        rw [ho]
        show (do let d ← resolve a.eval c o.type; invoke d.target d.args) = _
        unfold resolve
        rw [hc]
        rfl
      have hargs : ∀ args', c.args.toList.map a.eval = args' → c.args.map a.eval = args'.toArray := by
        intro args' he
        subst he
        apply Array.ext'
        simp
      split at h
      · rename_i args hc h1
        obtain ⟨v', w', ρ', g1, g2, g3, g4⟩ := append_ok (ty := o.type) hR h (opds_ok hR hT h1)
        refine value (S := Builtin.append_ c.argTypes o.type (c.args.map a.eval)) (by rw [hres _ hc]; rfl) ?_ g2 g3 g4
        rw [hargs _ rfl]
        exact g1
      · rename_i args hc h1
        obtain ⟨w', g1, g2, g3, g4⟩ := copy_ok (ty := o.type) hR h (opds_ok hR hT h1)
        refine value (S := Builtin.copy_ c.argTypes o.type (c.args.map a.eval)) (by rw [hres _ hc]; rfl) ?_ (Grow.same g4 _) g2 g3
        rw [hargs _ rfl]
        exact g1
      · rename_i args hc h1
        cases h2 : lenA P hp c.argTypes args with
        | none => rw [h2] at h; cases h
        | some y =>
          rw [h2] at h
          cases h
          obtain ⟨g1, g2⟩ := len_ok (ty := o.type) hR h2 (opds_ok hR hT h1)
          refine stays rfl (S := Builtin.len_ c.argTypes o.type (c.args.map a.eval)) (by rw [hres _ hc]; rfl) ?_ g2
          rw [hargs _ rfl]
          exact g1
      · cases h
theorem aOp_ok {o : Oper} {s : St} {a : Act} {hp hp' : Hp} {w : World} {v : Value} (hR : Rel P G w0 ρ hp w) (hT : TR ρ s a) (h : aOp P G o s.t hp = some (v, hp')) : Done P G w0 ρ a o w hp v hp' := by
  unfold aOp at h
  cases hl : layOf P G o.op s.t with
  | none =>
    rw [hl] at h
    exact bOp_ok hR hT h
  | some q =>
    obtain ⟨ob, mk⟩ := q
    rw [hl] at h
    dsimp only at h
    cases hn : hp.new ob with
    | none => rw [hn] at h; cases h
    | some q =>
      obtain ⟨b, hp1⟩ := q
      rw [hn] at h
      cases h
      obtain ⟨v', w1, x, h1, h2⟩ := lay_ok hR hT hl
      obtain ⟨k1, k2, k3⟩ := h2.lay hR hn
      exact ⟨_, _, _, _, h1, .inl rfl, k1, k2, k3⟩
end
end Go.Proofs.YtfhnljmoilifnaaGreatDoor.Ae
end
section
namespace Go.Proofs.YtfhnljmoilifnaaGreatDoor.Ae
open Go
open Go.RowKit
set_option linter.unusedVariables false
set_option linter.unusedSimpArgs false
section
variable {P : Program} {G : Nat} {w0 : World}
def Runs (P : Program) (f : FuncId) (args : Array Value) (w : World) (R : Value → World → Prop) : Prop :=
  (∃ v w', (callFunc f args).run P w = .ok (.value v) w' ∧ R v w') ∨ ((callFunc f args).run P w = .ok (.enter f args) w ∧ Calls P f args w fun e w' => ∃ v, e = .returned v ∧ R v w')
def CallOk (P : Program) (G : Nat) (w0 : World) (cf : CallF) : Prop := ∀ f args hp v hp', cf f args hp = some (v, hp') → ∀ ρ args' w, VRs ρ args args' → Rel P G w0 ρ hp w →
  Runs P f args'.toArray w fun v' w' => ∃ ρ', Grow hp hp' ρ ρ' ∧ Rel P G w0 ρ' hp' w' ∧ VR ρ' v v'
theorem VR.to_bool {ρ : Rho} {v : Value} {b : Bool} (h : VR ρ v (.bool b)) (hc : ∀ c, v ≠ .chan (some c)) : v = .bool b := by
  cases v with
  | bool c => cases h.bool; rfl
  | pointer a => cases a <;> (unfold VR at h; first | (cases h; done) | (obtain ⟨_, _, _, _, e⟩ := h; cases e))
  | slice a n c => cases a <;> (unfold VR at h; first | (obtain ⟨_, _, e⟩ := h; cases e; done) | (rcases h with ⟨_, _, _, _, _, e⟩ | ⟨_, _, _, _, _, _, _, e⟩ <;> cases e))
  | map r => cases r <;> (unfold VR at h; first | (cases h; done) | (obtain ⟨_, _, _, e⟩ := h; cases e))
  | chan r => cases r <;> first | exact absurd rfl (hc _) | (unfold VR at h; cases h; done)
  | func f a c => cases f <;> (unfold VR at h; first | exact h.elim | (obtain ⟨_, _, e, _, _⟩ := h; cases e))
  | iface t y => obtain ⟨_, e, _⟩ := h.iface; cases e
  | agg c => obtain ⟨_, e, _⟩ := h.agg; cases e
  | tuple c => obtain ⟨_, e, _⟩ := h.tuple; cases e
  | _ => unfold VR at h; cases h
theorem want_ok {ρ : Rho} {ops : Array Oper} {o : Oper} {s : St} {a : Act} (hT : TR ρ s a) (hg : guardOk ops o s.t = true) : Region.wanted o (yielded ops a.tmps) = wantA ops o s.t := by
  unfold Region.wanted wantA
  unfold guardOk at hg
  cases hgd : o.guard with
  | none => rfl
  | some q =>
    obtain ⟨j, b⟩ := q
    rw [hgd] at hg
    dsimp only at hg ⊢
    unfold yielded
    cases hd : (ops[j]?).bind (·.dst) with
    | none => rfl
    | some d =>
      have hv := hT.val d
      simp only [Option.bind_some]
      have hget : ∀ v, a.tmps[d]? = some v → a.tmps.getD d undef = v := by
        intro v hv
        simp [Array.getD_eq_getD_getElem?, hv]
      rw [hd] at hg
      dsimp only at hg
      generalize hu : (s.t.get DT d).getD undef = u at hv hg
      have hnc : ∀ c, u ≠ .chan (some c) := fun c e => by rw [e] at hg; cases hg
      have other : ∀ c, a.tmps[d]? = some (.bool c) → u = .bool c := by
        intro c hx
        rw [hget _ hx] at hv
        exact hv.to_bool hnc
      cases hx : a.tmps[d]? with
      | none =>
        have hn : a.tmps.getD d undef = undef := by simp [Array.getD_eq_getD_getElem?, hx]
        rw [hn] at hv
        by_cases hb : ∃ c, u = .bool c
        · obtain ⟨c, rfl⟩ := hb
          have := hv.bool
          cases this
        · cases u <;> first | rfl | exact absurd ⟨_, rfl⟩ hb
      | some v =>
        rw [hget v hx] at hv
        by_cases hb : ∃ c, v = .bool c
        · obtain ⟨c, rfl⟩ := hb
          rw [other c hx]
          cases c <;> cases b <;> rfl
        · have h1 : ∀ c, u ≠ .bool c := fun c e => by subst e; exact hb ⟨c, hv.bool⟩
          cases v <;> cases u <;> first | rfl | exact absurd rfl (h1 _) | exact absurd ⟨_, rfl⟩ hb
theorem runOp_ok {cf : CallF} (hcf : CallOk P G w0 cf) {ops : Array Oper} {o : Oper} {s : St} {hp hp' : Hp} {v : Value} {ρ : Rho} {a : Act} {w : World} (h : runOp P G cf ops o s.t hp = some (v, hp')) (hT : TR ρ s a) (hR : Rel P G w0 ρ hp w) {K : Act → World → Prop} (Q : Exit → Act → World → Prop)
    (hK : ∀ v' ρ' w', Grow hp hp' ρ ρ' → Rel P G w0 ρ' hp' w' → VR ρ' v v' → K (a.put o.dst v') w') :
    if Region.wanted o (yielded ops a.tmps) then o.wp P a w K Q ∨ (o.asks P a w ∧ LetsOut Q) else K (a.put o.dst undef) w := by
  unfold runOp at h
  cases hgd : guardOk ops o s.t with
  | false => rw [hgd] at h; cases h
  | true =>
  rw [hgd, Bool.not_true, cond_false] at h
  rw [want_ok hT hgd]
  cases hw : wantA ops o s.t with
  | false =>
    rw [hw, cond_false] at h
    rw [if_neg (by decide)]
    cases h
    exact hK undef ρ w (Grow.refl _ _) hR VR.undef
  | true =>
    rw [hw, cond_true] at h
    rw [if_pos rfl]
    left
    cases hc : isCall o.op with
    | none =>
      rw [hc] at h
      dsimp only at h
      obtain ⟨nx, v', w', ρ', g1, g2, g3, g4, g5⟩ := aOp_ok hR hT h
      unfold Oper.wp
      rw [g1]
      rcases g2 with rfl | ⟨rfl, rfl⟩
      · exact hK v' ρ' w' g3 g4 g5
      · exact hK undef ρ' w' g3 g4 g5
    | some q =>
      obtain ⟨f, aq⟩ := q
      rw [hc] at h
      dsimp only at h
      have hop : ∃ ts, o.op = .call { callee := .value f, args := aq, argTypes := ts } := by
        unfold isCall at hc
        split at hc
        · rename_i f' aq' ts hop
          cases hc
          exact ⟨ts, hop⟩
        · cases hc
      obtain ⟨ts, hop⟩ := hop
      split at h
      · rename_i g first cap args h1 h2
        obtain ⟨first', cap', e, hf, hcp⟩ := (opd_ok hR hT h1).1.func
        have hargs := opds_ok hR hT h2
        have hrun : execOp a.eval o = callFunc g (first' ++ aq.map a.eval ++ cap') := by
          unfold execOp
          rw [hop]
          show (do let d ← resolve a.eval _ o.type; invoke d.target d.args) = _
          unfold resolve
          dsimp only
          rw [e]
          rfl
        have heq : (first'.toList ++ aq.toList.map a.eval ++ cap'.toList).toArray = first' ++ aq.map a.eval ++ cap' := by
          apply Array.ext'
          simp
        have hruns := hcf g _ _ _ _ h ρ (first'.toList ++ aq.toList.map a.eval ++ cap'.toList) w ((hf.append hargs).append hcp) hR
        rw [heq] at hruns
        unfold Oper.wp
        rw [hrun]
        rcases hruns with ⟨v', w', g1, ρ', g3, g4, g5⟩ | ⟨g1, g2⟩
        · rw [g1]
          exact hK v' ρ' w' g3 g4 g5
        · rw [g1, Oper.upon_enter]
          refine g2.mono fun e w' he => ?_
          obtain ⟨v', rfl, ρ', g3, g4, g5⟩ := he
          exact hK v' ρ' w' g3 g4 g5
      · cases h
def Leads (P : Program) (G : Nat) (w0 : World) (ρ : Rho) (hp : Hp) (s' : St) (K : Act → World → Prop) : Prop := ∀ ρ' a' w', Grow hp s'.hp ρ ρ' → TR ρ' s' a' → Rel P G w0 ρ' s'.hp w' → K a' w'
theorem doOp_ok {cf : CallF} (hcf : CallOk P G w0 cf) {ops : Array Oper} {o : Oper} {s s' : St} {ρ : Rho} {a : Act} {w : World} (h : doOp P G cf ops o s = some s') (hT : TR ρ s a) (hR : Rel P G w0 ρ s.hp w) {K : Act → World → Prop} (Q : Exit → Act → World → Prop) (hK : Leads P G w0 ρ s.hp s' K) :
    if Region.wanted o (yielded ops a.tmps) then o.wp P a w K Q ∨ (o.asks P a w ∧ LetsOut Q) else K (a.put o.dst undef) w := by
  unfold doOp at h
  cases hr : runOp P G cf ops o s.t s.hp with
  | none => rw [hr] at h; cases h
  | some q =>
    obtain ⟨v, hp'⟩ := q
    rw [hr] at h
    dsimp only at h
    refine runOp_ok hcf hr hT hR Q (fun v' ρ' w' g1 g2 g3 => ?_)
    obtain ⟨hT', hh⟩ := (hT.mono g1.1).put h (v' := v') g3
    exact hK ρ' _ _ (by rw [hh]; exact g1) hT' (by rw [hh]; exact g2)
theorem doOps_ok {cf : CallF} (hcf : CallOk P G w0 cf) {ops : Array Oper} (Q : Exit → Act → World → Prop) : ∀ (l : List Oper) (s s' : St) (ρ : Rho) (a : Act) (w : World), doOps P G cf ops l s = some s' → TR ρ s a → Rel P G w0 ρ s.hp w → Leads P G w0 ρ s.hp s' (Q .normal) → wpList P ops Q l a w
  | [], s, s', ρ, a, w, h, hT, hR, hQ => by
    simp only [doOps, Option.some.injEq] at h
    subst h
    exact hQ ρ a w (Grow.refl _ _) hT hR
  | o :: os, s, s', ρ, a, w, h, hT, hR, hQ => by
    simp only [doOps] at h
    cases h1 : doOp P G cf ops o s with
    | none => rw [h1] at h; cases h
    | some s1 =>
      rw [h1] at h
      dsimp only at h
      have := doOp_ok hcf h1 hT hR (K := wpList P ops Q os) Q (fun ρ' a' w' hle hT' hR' => doOps_ok hcf Q os s1 s' ρ' a' w' h hT' hR' (fun ρ2 a2 w2 h2 => hQ ρ2 a2 w2 (hle.trans h2)))
      simp only [wpList]
      exact this
end
end Go.Proofs.YtfhnljmoilifnaaGreatDoor.Ae
end
section
namespace Go.Proofs.YtfhnljmoilifnaaGreatDoor.Ae
open Go
open Go.RowKit
set_option linter.unusedVariables false
set_option linter.unusedSimpArgs false
mutual
theorem eqV_eq : ∀ a b, eqV a b = true → a = b
  | .bool a, b, h => by cases b <;> simp [eqV] at h; rw [h]
  | .int j a, b, h => by cases b <;> simp [eqV] at h; rw [h.1, h.2]
  | .float j a, b, h => by cases b <;> simp [eqV] at h; rw [h.1, h.2]
  | .string a, b, h => by
    cases b <;> simp [eqV] at h
    rw [(bytes_same _ _).1 h]
  | .pointer a, b, h => by cases b <;> simp [eqV] at h; rw [h]
  | .slice a n c, b, h => by
    cases b <;> simp [eqV] at h
    rw [h.1.1, h.1.2, h.2]
  | .map a, b, h => by cases b <;> simp [eqV] at h; rw [h]
  | .func (.func f) a c, .func (.func g) a' c', h => by
    simp only [eqV, Bool.and_eq_true] at h
    rw [eq_beq h.1.1, Array.toList_inj.1 (eqVs_eq a.toList a'.toList h.1.2), Array.toList_inj.1 (eqVs_eq c.toList c'.toList h.2)]
  | .nilFunc, b, h => by cases b <;> simp [eqV] at h; rfl
  | .nilIface, b, h => by cases b <;> simp [eqV] at h; rfl
  | .iface t v, .iface u w, h => by
    simp only [eqV, Bool.and_eq_true] at h
    rw [eq_beq h.1, eqV_eq v w h.2]
  | .agg a, .agg b, h => by
    simp only [eqV] at h
    rw [Array.toList_inj.1 (eqVs_eq a.toList b.toList h)]
  | .tuple a, .tuple b, h => by
    simp only [eqV] at h
    rw [Array.toList_inj.1 (eqVs_eq a.toList b.toList h)]
  | .complex _ _ _, b, h => by cases b <;> simp [eqV] at h
  | .chan _, b, h => by cases b <;> simp [eqV] at h
  | .func (.method _) _ _, b, h => by cases b <;> simp [eqV] at h
  | .func (.methodOf _ _) _ _, b, h => by cases b <;> simp [eqV] at h
  | .func (.via _ _ _ _) _ _, b, h => by cases b <;> simp [eqV] at h
  | .func (.yield _) _ _, b, h => by cases b <;> simp [eqV] at h
  | .func (.func f) a c, .func (.method _) _ _, h => by simp [eqV] at h
  | .func (.func f) a c, .func (.methodOf _ _) _ _, h => by simp [eqV] at h
  | .func (.func f) a c, .func (.via _ _ _ _) _ _, h => by simp [eqV] at h
  | .func (.func f) a c, .func (.yield _) _ _, h => by simp [eqV] at h
  | .func (.func f) a c, .bool _, h => by simp [eqV] at h
  | .func (.func f) a c, .int _ _, h => by simp [eqV] at h
  | .func (.func f) a c, .float _ _, h => by simp [eqV] at h
  | .func (.func f) a c, .complex _ _ _, h => by simp [eqV] at h
  | .func (.func f) a c, .string _, h => by simp [eqV] at h
  | .func (.func f) a c, .pointer _, h => by simp [eqV] at h
  | .func (.func f) a c, .slice _ _ _, h => by simp [eqV] at h
  | .func (.func f) a c, .map _, h => by simp [eqV] at h
  | .func (.func f) a c, .chan _, h => by simp [eqV] at h
  | .func (.func f) a c, .nilFunc, h => by simp [eqV] at h
  | .func (.func f) a c, .iface _ _, h => by simp [eqV] at h
  | .func (.func f) a c, .nilIface, h => by simp [eqV] at h
  | .func (.func f) a c, .agg _, h => by simp [eqV] at h
  | .func (.func f) a c, .tuple _, h => by simp [eqV] at h
  | .iface t v, .bool _, h => by simp [eqV] at h
  | .iface t v, .int _ _, h => by simp [eqV] at h
  | .iface t v, .float _ _, h => by simp [eqV] at h
  | .iface t v, .complex _ _ _, h => by simp [eqV] at h
  | .iface t v, .string _, h => by simp [eqV] at h
  | .iface t v, .pointer _, h => by simp [eqV] at h
  | .iface t v, .slice _ _ _, h => by simp [eqV] at h
  | .iface t v, .map _, h => by simp [eqV] at h
  | .iface t v, .chan _, h => by simp [eqV] at h
  | .iface t v, .func _ _ _, h => by simp [eqV] at h
  | .iface t v, .nilFunc, h => by simp [eqV] at h
  | .iface t v, .nilIface, h => by simp [eqV] at h
  | .iface t v, .agg _, h => by simp [eqV] at h
  | .iface t v, .tuple _, h => by simp [eqV] at h
  | .agg a, .bool _, h => by simp [eqV] at h
  | .agg a, .int _ _, h => by simp [eqV] at h
  | .agg a, .float _ _, h => by simp [eqV] at h
  | .agg a, .complex _ _ _, h => by simp [eqV] at h
  | .agg a, .string _, h => by simp [eqV] at h
  | .agg a, .pointer _, h => by simp [eqV] at h
  | .agg a, .slice _ _ _, h => by simp [eqV] at h
  | .agg a, .map _, h => by simp [eqV] at h
  | .agg a, .chan _, h => by simp [eqV] at h
  | .agg a, .func _ _ _, h => by simp [eqV] at h
  | .agg a, .nilFunc, h => by simp [eqV] at h
  | .agg a, .nilIface, h => by simp [eqV] at h
  | .agg a, .iface _ _, h => by simp [eqV] at h
  | .agg a, .tuple _, h => by simp [eqV] at h
  | .tuple a, .bool _, h => by simp [eqV] at h
  | .tuple a, .int _ _, h => by simp [eqV] at h
  | .tuple a, .float _ _, h => by simp [eqV] at h
  | .tuple a, .complex _ _ _, h => by simp [eqV] at h
  | .tuple a, .string _, h => by simp [eqV] at h
  | .tuple a, .pointer _, h => by simp [eqV] at h
  | .tuple a, .slice _ _ _, h => by simp [eqV] at h
  | .tuple a, .map _, h => by simp [eqV] at h
  | .tuple a, .chan _, h => by simp [eqV] at h
  | .tuple a, .func _ _ _, h => by simp [eqV] at h
  | .tuple a, .nilFunc, h => by simp [eqV] at h
  | .tuple a, .nilIface, h => by simp [eqV] at h
  | .tuple a, .iface _ _, h => by simp [eqV] at h
  | .tuple a, .agg _, h => by simp [eqV] at h
theorem eqVs_eq : ∀ a b, eqVs a b = true → a = b
  | [], b, h => by cases b <;> simp [eqVs] at h; rfl
  | v :: vs, b, h => by
    cases b with
    | nil => simp [eqVs] at h
    | cons w ws =>
      simp only [eqVs, Bool.and_eq_true] at h
      rw [eqV_eq v w h.1, eqVs_eq vs ws h.2]
end
theorem eqO_eq {a b : AObj} (h : eqO a b = true) : a = b := by
  cases a with
  | cells c e =>
    cases b <;> simp only [eqO] at h <;> try (cases h; done)
    simp only [Bool.and_eq_true] at h
    rw [eqVs_eq _ _ h.1, eq_beq h.2]
  | row c e =>
    cases b <;> simp only [eqO] at h <;> try (cases h; done)
    simp only [Bool.and_eq_true] at h
    rw [eqVs_eq _ _ h.1, eq_beq h.2]
  | map es ck =>
    cases b <;> simp only [eqO] at h <;> try (cases h; done)
    simp only [Bool.and_eq_true, List.isEmpty_iff] at h
    rw [h.1.1, h.1.2, eq_beq h.2]
  | _ => cases b <;> simp [eqO] at h
section
variable {P : Program} {G : Nat}
theorem opd_congr {t t' : Tm} {x : Operand} (h : ev t x = ev t' x) : opd G t x = opd G t' x := by
  cases x with
  | tmp i => simp only [ev] at h; simp only [opd, h]
  | _ => rfl
theorem opds_congr {t t' : Tm} : ∀ {xs : List Operand}, (∀ x ∈ xs, ev t x = ev t' x) → opds G t xs = opds G t' xs
  | [], h => rfl
  | x :: xs, h => by simp only [opds, opd_congr (G := G) (h x (by simp)), opds_congr (xs := xs) fun y hy => h y (by simp [hy])]
theorem partsA_congr {t t' : Tm} : ∀ {xs : List (Nat × Operand)}, (∀ x ∈ xs, ev t x.2 = ev t' x.2) → partsA G t xs = partsA G t' xs
  | [], h => rfl
  | (i, x) :: xs, h => by simp only [partsA, opd_congr (G := G) (h (i, x) (by simp)), partsA_congr (xs := xs) fun y hy => h y (by simp [hy])]
theorem layOf_congr {o : Op} {t t' : Tm} (h : ∀ x ∈ o.operands, ev t x = ev t' x) : layOf P G o t = layOf P G o t' := by
  cases o <;> simp only [layOf]
  case box e x => unfold lBox; rw [opd_congr (h x (by simp [Op.operands]))]
  case buildSlice t n ps => unfold lSlice; rw [partsA_congr (fun x hx => h x.2 (by simp [Op.operands]; exact ⟨x.1, by simpa using hx⟩))]
  case convert s d x => unfold lBytes; rw [h x (by simp [Op.operands])]
  case makeMap t r =>
    unfold lMap
    cases r with
    | none => rfl
    | some x => simp only; rw [h x (by simp [Op.operands])]
  case makeSlice T l c => rw [h l (by simp [Op.operands]), h c (by simp [Op.operands])]
theorem pureOp_congr {o : Oper} {t t' : Tm} {hp : Hp} (h : ∀ x ∈ o.op.operands, ev t x = ev t' x) : pureOp P o t hp = pureOp P o t' hp := by
  have hall : o.op.operands.toList.all (fun x => flat (ev t x)) = o.op.operands.toList.all (fun x => flat (ev t' x)) := by
    have : ∀ l : List Operand, (∀ x ∈ l, ev t x = ev t' x) → l.all (fun x => flat (ev t x)) = l.all (fun x => flat (ev t' x)) := by
      intro l
      induction l with
      | nil => intro _; rfl
      | cons x xs ih => intro hl; simp only [List.all_cons, hl x (by simp), ih (fun y hy => hl y (by simp [hy]))]
    exact this _ (fun x hx => h x (by simpa using hx))
  unfold pureOp
  rw [hall]
  cases hp1 : (o.op.operands.toList.all (fun x => flat (ev t' x)) && purely o.op) with
  | true =>
    simp only [cond_true]
    simp only [Bool.and_eq_true] at hp1
    rw [execOp_congr o (fun cs b e => by rw [e] at hp1; cases hp1.2) h]
  | false => rfl
theorem sOp_congr {o : Op} {t t' : Tm} {hp : Hp} (h : ∀ x ∈ o.operands, ev t x = ev t' x) : sOp P G o t hp = sOp P G o t' hp := by
  cases o <;> try rfl
  all_goals unfold sOp
  case move x => simp only [opd_congr (G := G) (h x (by simp [Op.operands]))]
  case assign x => simp only [opd_congr (G := G) (h x (by simp [Op.operands]))]
  case pick c a b => simp only [bPick, h c (by simp [Op.operands]), opd_congr (G := G) (h a (by simp [Op.operands])), opd_congr (G := G) (h b (by simp [Op.operands]))]
  case build T ps => simp only [bBuild, partsA_congr (G := G) (xs := ps.toList) (fun x hx => h x.2 (by simp [Op.operands]; exact ⟨x.1, by simpa using hx⟩))]
  case load T a => simp only [bLoad, opd_congr (G := G) (h a (by simp [Op.operands]))]
  case store T a x => simp only [bStore, opd_congr (G := G) (h a (by simp [Op.operands])), opd_congr (G := G) (h x (by simp [Op.operands]))]
  case nilCheck x => simp only [bNil, opd_congr (G := G) (h x (by simp [Op.operands]))]
  case binOp op T x y yt => simp only [bBin, opd_congr (G := G) (h x (by simp [Op.operands])), opd_congr (G := G) (h y (by simp [Op.operands]))]
  case convert s d x => simp only [bConv, opd_congr (G := G) (h x (by simp [Op.operands]))]
  case makeInterface T x => simp only [bIface, opd_congr (G := G) (h x (by simp [Op.operands]))]
  case makeFunc fn a b =>
    cases fn <;> try rfl
    simp only [bFunc, opds_congr (G := G) (xs := a.toList) (fun x hx => h x (by simp [Op.operands]; left; simpa using hx)), opds_congr (G := G) (xs := b.toList) (fun x hx => h x (by simp [Op.operands]; right; simpa using hx))]
  case slice T x l hi m =>
    have hl : ∀ q : Option Operand, (∀ z, q = some z → ev t z = ev t' z) → q.map (ev t) = q.map (ev t') := by
      intro q hq
      cases q with
      | none => rfl
      | some z => simp only [Option.map_some, hq z rfl]
    simp only [bSlice, opd_congr (G := G) (h x (by simp [Op.operands])), hl l (fun z e => h z (by simp [Op.operands, e])), hl hi (fun z e => h z (by simp [Op.operands, e])), hl m (fun z e => h z (by simp [Op.operands, e]))]
  case fieldAddr T x f => simp only [bFieldAddr, opd_congr (G := G) (h x (by simp [Op.operands]))]
  case field T x f => simp only [bField, opd_congr (G := G) (h x (by simp [Op.operands]))]
  case indexAddr T x i => simp only [bIndexAddr, opd_congr (G := G) (h x (by simp [Op.operands])), h i (by simp [Op.operands])]
  case index T x i => simp only [bIndex, opd_congr (G := G) (h x (by simp [Op.operands])), h i (by simp [Op.operands])]
  case lookup T x k ok => simp only [bLookup, opd_congr (G := G) (h x (by simp [Op.operands])), h k (by simp [Op.operands])]
  case mapUpdate T m k x => simp only [bUpdate, opd_congr (G := G) (h m (by simp [Op.operands])), opd_congr (G := G) (h x (by simp [Op.operands])), h k (by simp [Op.operands])]
  case insert T m k x => simp only [bUpdate, opd_congr (G := G) (h m (by simp [Op.operands])), opd_congr (G := G) (h x (by simp [Op.operands])), h k (by simp [Op.operands])]
  case range T x => simp only [bRange, opd_congr (G := G) (h x (by simp [Op.operands]))]
  case next it s => simp only [bNext, opd_congr (G := G) (h it (by simp [Op.operands]))]
  case typeAssert x a b ok => simp only [bAssert, opd_congr (G := G) (h x (by simp [Op.operands]))]
  case extract x i => simp only [bExtract, opd_congr (G := G) (h x (by simp [Op.operands]))]
  case call c => simp only [bCall, opds_congr (G := G) (xs := c.args.toList) (fun x hx => h x (by simp [Op.operands, Call.operands]; right; simpa using hx))]
theorem bOp_congr {o : Oper} {t t' : Tm} {hp : Hp} (h : ∀ x ∈ o.op.operands, ev t x = ev t' x) : bOp P G o t hp = bOp P G o t' hp := by
  unfold bOp
  rw [sOp_congr h, pureOp_congr h]
theorem want_congr {ops : Array Oper} {o : Oper} {t t' : Tm} (h : ∀ u ∈ tmpsOf ops o, (t.get DT u).getD undef = (t'.get DT u).getD undef) : wantA ops o t = wantA ops o t' := by
  unfold wantA
  cases hg : o.guard with
  | none => rfl
  | some q =>
    obtain ⟨j, w⟩ := q
    dsimp only
    cases hd : (ops[j]?).bind (·.dst) with
    | none => rfl
    | some d =>
      dsimp only
      rw [h d (by unfold tmpsOf; rw [hg]; dsimp only; rw [hd]; simp)]
theorem guard_congr {ops : Array Oper} {o : Oper} {t t' : Tm} (h : ∀ u ∈ tmpsOf ops o, (t.get DT u).getD undef = (t'.get DT u).getD undef) : guardOk ops o t = guardOk ops o t' := by
  unfold guardOk
  cases hg : o.guard with
  | none => rfl
  | some q =>
    obtain ⟨j, w⟩ := q
    dsimp only
    cases hd : (ops[j]?).bind (·.dst) with
    | none => rfl
    | some d =>
      dsimp only
      rw [h d (by unfold tmpsOf; rw [hg]; dsimp only; rw [hd]; simp)]
theorem ev_congr {ops : Array Oper} {o : Oper} {t t' : Tm} (h : ∀ u ∈ tmpsOf ops o, (t.get DT u).getD undef = (t'.get DT u).getD undef) : ∀ x ∈ o.op.operands, ev t x = ev t' x := by
  intro x hx
  cases x with
  | tmp i =>
    refine h i ?_
    unfold tmpsOf
    simp only [List.mem_append, List.mem_filterMap]
    left; right
    exact ⟨.tmp i, by simpa using hx, rfl⟩
  | _ => rfl
theorem runOp_congr {cf : CallF} {ops : Array Oper} {o : Oper} {t t' : Tm} {hp : Hp} (h : ∀ u ∈ tmpsOf ops o, (t.get DT u).getD undef = (t'.get DT u).getD undef) : runOp P G cf ops o t hp = runOp P G cf ops o t' hp := by
  have he := ev_congr h
  unfold runOp
  rw [want_congr h, guard_congr h]
  cases hc : isCall o.op with
  | none =>
    dsimp only
    unfold aOp
    rw [layOf_congr he, bOp_congr he]
  | some q =>
    obtain ⟨f, aq⟩ := q
    dsimp only
    have hop : ∃ ts, o.op = .call { callee := .value f, args := aq, argTypes := ts } := by
      unfold isCall at hc
      split at hc
      · rename_i f' aq' ts hop
        cases hc
        exact ⟨ts, hop⟩
      · cases hc
    obtain ⟨ts, hop⟩ := hop
    rw [hop] at he
    rw [opd_congr (G := G) (he f (by simp [Op.operands, Call.operands])), opds_congr (G := G) (xs := aq.toList) (fun x hx => he x (by simp [Op.operands, Call.operands]; right; simpa using hx))]
theorem bOp_same {o : Oper} {t : Tm} {hp hp' : Hp} {v : Value} (ha : actsOp o.op = false) (h : bOp P G o t hp = some (v, hp')) : hp' = hp := by
  unfold bOp at h
  cases hso : sOp P G o.op t hp with
  | none =>
    rw [hso] at h
    dsimp only at h
    unfold pureOp at h
    cases hp1 : (o.op.operands.toList.all (fun x => flat (ev t x)) && purely o.op) with
    | true =>
      rw [hp1, cond_true] at h
      split at h
      · rename_i x _
        cases hf : flat x <;> rw [hf] at h <;> cases h
        rfl
      · cases h
    | false => rw [hp1] at h; cases h
  | some q =>
    rw [hso] at h
    cases h
    have h := hso
    clear hso
    unfold sOp at h
    have hmap : ∀ {q : Option Value}, q.map (·, hp) = some (v, hp') → hp' = hp := by
      intro q hq
      cases q with
      | none => cases hq
      | some x => cases hq; rfl
    cases ho : o.op <;> rw [ho] at h ha <;> (try dsimp only at h) <;> try (cases h; done)
    case move x => exact hmap h
    case assign x => exact hmap h
    case pick c a b => unfold bPick at h; split at h <;> cases h; rfl
    case build T ps => unfold bBuild at h; split at h <;> first | exact hmap h | cases h
    case load T a => unfold bLoad at h; split at h <;> first | exact hmap h | cases h
    case store => cases ha
    case nilCheck x => unfold bNil at h; split at h <;> cases h <;> rfl
    case binOp op T x y yt =>
      unfold bBin at h
      split at h
      · rename_i k1 n1 k2 n2 _ _
        cases hk : decide (k1 = k2) <;> rw [hk] at h
        · cases h
        · rw [cond_true] at h
          exact hmap h
      · rename_i x' y' _ _ _
        split at h
        · cases h; rfl
        unfold eqQ at h
        cases hk : (eqKind P T x' && eqKind P T y') <;> rw [hk] at h
        · cases h
        · rw [cond_true] at h
          split at h <;> cases h <;> rfl
      · cases h
    case convert s d x =>
      unfold bConv at h
      split at h
      · rename_i v' _
        split at h
        · cases h; rfl
        split at h
        · cases h; rfl
        · cases hf : flat v' <;> rw [hf] at h
          · cases h
          · rw [cond_true] at h
            split at h
            · rename_i y _
              cases hfy : flat y <;> rw [hfy] at h <;> cases h
              rfl
            · cases h
      · cases h
    case makeInterface T x => unfold bIface at h; split at h <;> cases h; rfl
    case makeFunc fn a b =>
      cases fn <;> dsimp only at h <;> try (cases h; done)
      unfold bFunc at h
      split at h <;> cases h; rfl
    case slice T x l hi m => unfold bSlice at h; split at h <;> first | exact hmap h | cases h
    case fieldAddr T x f => unfold bFieldAddr at h; split at h <;> first | exact hmap h | cases h
    case field T x f => unfold bField at h; split at h <;> first | exact hmap h | cases h
    case indexAddr T x i => unfold bIndexAddr at h; split at h <;> first | exact hmap h | cases h
    case index T x i => unfold bIndex at h; split at h <;> first | exact hmap h | cases h
    case lookup T x k ok => unfold bLookup at h; split at h <;> first | exact hmap h | cases h
    case insert => cases ha
    case mapUpdate => cases ha
    case range => cases ha
    case next => cases ha
    case typeAssert x a b ok => unfold bAssert at h; split at h <;> first | exact hmap h | cases h
    case extract x i =>
      unfold bExtract at h
      split at h
      · split at h <;> cases h; rfl
      · cases h
    case call c =>
      unfold bCall at h
      obtain ⟨cal, aq, ts⟩ := c
      cases cal with
      | value f => dsimp only at h; cases h
      | invoke r m => dsimp only at h; cases h
      | builtin b =>
        cases b <;> first | (cases ha; done) | skip
        all_goals
          dsimp only at h
          first
            | (cases h; done)
            | (split at h <;> first | exact hmap h | (cases h; done) | (rename_i he _; cases he))
end
end Go.Proofs.YtfhnljmoilifnaaGreatDoor.Ae
end
section
namespace Go.Proofs.YtfhnljmoilifnaaGreatDoor.Ae
open Go
open Go.RowKit
set_option linter.unusedVariables false
set_option linter.unusedSimpArgs false
theorem bit_fold (A : List Nat) (i : Nat) : ∀ (ds : List Nat) (s : Nat), (ds.foldl (fun s e => s ||| 2 ^ e ||| A.getD e 0) s).testBit i = true → s.testBit i = true ∨ ∃ e ∈ ds, e = i ∨ (A.getD e 0).testBit i = true
  | [], s, h => .inl h
  | e :: ds, s, h => by
    simp only [List.foldl_cons] at h
    rcases bit_fold A i ds _ h with h | ⟨e', h1, h2⟩
    · simp only [Nat.testBit_or, Bool.or_eq_true, Nat.testBit_two_pow, decide_eq_true_eq] at h
      rcases h with (h | h) | h
      · exact .inl h
      · exact .inr ⟨e, by simp, .inl h⟩
      · exact .inr ⟨e, by simp, .inr h⟩
    · exact .inr ⟨e', by simp [h1], h2⟩
theorem befGo_len : ∀ (l : List Oper) (acc : List Nat), (befGo l acc).length = acc.length + l.length
  | [], acc => by simp [befGo]
  | o :: os, acc => by simp only [befGo, befGo_len os, List.length_append, List.length_cons, List.length_nil]; omega
theorem befGo_old : ∀ (l : List Oper) (acc : List Nat) (k : Nat), k < acc.length → (befGo l acc).getD k 0 = acc.getD k 0
  | [], acc, k, h => rfl
  | o :: os, acc, k, h => by
    simp only [befGo]
    rw [befGo_old os _ k (by simp; omega)]
    simp [List.getD, List.getElem?_append_left h]
theorem befGo_new : ∀ (l : List Oper) (acc : List Nat) (k : Nat) (o : Oper), l[k]? = some o → (befGo l acc).getD (acc.length + k) 0 = (dirs o).foldl (fun s e => s ||| 2 ^ e ||| ((befGo l acc).take (acc.length + k)).getD e 0) 0
  | [], acc, k, o, h => by simp at h
  | p :: os, acc, 0, o, h => by
    obtain rfl : p = o := by simpa using h
    simp only [befGo, Nat.add_zero]
    have htake : (befGo os (acc ++ [(dirs p).foldl (fun s e => s ||| 2 ^ e ||| acc.getD e 0) 0])).take acc.length = acc := by
      apply List.ext_getElem?
      intro j
      by_cases hj : j < acc.length
      · rw [List.getElem?_take_of_lt hj]
        have h1 := befGo_old os (acc ++ [(dirs p).foldl (fun s e => s ||| 2 ^ e ||| acc.getD e 0) 0]) j (by simp; omega)
        have hl : j < (befGo os (acc ++ [(dirs p).foldl (fun s e => s ||| 2 ^ e ||| acc.getD e 0) 0])).length := by rw [befGo_len]; simp; omega
        generalize (dirs p).foldl (fun s e => s ||| 2 ^ e ||| acc.getD e 0) 0 = c at h1 hl ⊢
        rw [List.getD_eq_getElem?_getD, List.getD_eq_getElem?_getD, List.getElem?_append_left hj] at h1
        cases hx : (befGo os (acc ++ [c]))[j]? with
        | none => have := List.getElem?_eq_none_iff.1 hx; omega
        | some y =>
          rw [hx, List.getElem?_eq_getElem hj] at h1
          rw [List.getElem?_eq_getElem hj]
          exact congrArg some h1
      · rw [List.getElem?_eq_none (by simp; omega), List.getElem?_eq_none (by omega)]
    rw [htake, befGo_old os _ acc.length (by simp)]
    simp [List.getD]
  | p :: os, acc, k + 1, o, h => by
    have := befGo_new os (acc ++ [(dirs p).foldl (fun s e => s ||| 2 ^ e ||| acc.getD e 0) 0]) k o (by simpa using h)
    simp only [befGo]
    simp only [List.length_append, List.length_cons, List.length_nil] at this
    rw [show acc.length + (k + 1) = acc.length + (0 + 1) + k by omega]
    exact this
theorem ahead_closed {ops : Array Oper} (hd : ∀ j o, ops[j]? = some o → ∀ e ∈ dirs o, e < j) {S : Nat → Prop} (hS : ∀ j o, S j → ops[j]? = some o → ∀ e ∈ dirs o, S e) :
    ∀ (j : Nat) (o : Oper), ops[j]? = some o → (∀ e ∈ dirs o, S e) → ∀ i, ahead ops j i = true → S i := by
  intro j
  induction j using Nat.strongRecOn with
  | _ j ih =>
    intro o ho hdo i hi
    unfold ahead befs at hi
    have hn := befGo_new ops.toList [] j o (by simpa using ho)
    simp only [List.length_nil, Nat.zero_add] at hn
    rw [hn] at hi
    rcases bit_fold _ i _ _ hi with h | ⟨e, h1, h2⟩
    · simp at h
    · have hej := hd j o ho e h1
      rcases h2 with rfl | h2
      · exact hdo _ h1
      · have hlt : e < ops.size := by
          have : j < ops.size := by
            rcases Nat.lt_or_ge j ops.size with h | h
            · exact h
            · rw [Array.getElem?_eq_none h] at ho; cases ho
          omega
        obtain ⟨p, hp⟩ : ∃ p, ops[e]? = some p := ⟨ops[e], by simp [hlt]⟩
        refine ih e hej p hp (hS e p (hdo e h1) hp) i ?_
        unfold ahead befs
        have : ((befGo ops.toList []).take j).getD e 0 = (befGo ops.toList []).getD e 0 := by
          simp [List.getD, List.getElem?_take_of_lt hej]
        rw [this] at h2
        exact h2
def dstAt (ops : Array Oper) (k : Nat) : Option Tmp := (ops[k]?).bind (·.dst)
open Classical in
noncomputable def wr (ops : Array Oper) (val : Nat → Value) (t0 : Tm) (L : Nat → Prop) : Nat → Tmp → Value
  | 0, u => (t0.get DT u).getD undef
  | k + 1, u => if L k ∧ dstAt ops k = some u then val k else wr ops val t0 L k u
theorem wr_same {ops : Array Oper} {val val' : Nat → Value} {t0 : Tm} {L L' : Nat → Prop} {u : Tmp} : ∀ n, (∀ k, k < n → dstAt ops k = some u → (L k ↔ L' k) ∧ (L k → val k = val' k)) → wr ops val t0 L n u = wr ops val' t0 L' n u
  | 0, h => rfl
  | n + 1, h => by
    simp only [wr]
    have ih := wr_same (ops := ops) (val := val) (val' := val') (t0 := t0) (L := L) (L' := L') (u := u) n (fun k hk => h k (by omega))
    by_cases hd : dstAt ops n = some u
    · obtain ⟨h1, h2⟩ := h n (by omega) hd
      by_cases hL : L n
      · rw [if_pos ⟨hL, hd⟩, if_pos ⟨h1.1 hL, hd⟩, h2 hL]
      · rw [if_neg (fun c => hL c.1), if_neg (fun c => hL (h1.2 c.1)), ih]
    · rw [if_neg (fun c => hd c.2), if_neg (fun c => hd c.2), ih]
theorem wr_put {ops : Array Oper} {val : Nat → Value} {t0 : Tm} {L : Nat → Prop} {u : Tmp} {i : Nat} (hL : L i) (hd : dstAt ops i = some u) : ∀ n, i < n → (∀ k, i < k → k < n → dstAt ops k = some u → ¬ L k) → wr ops val t0 L n u = val i
  | 0, h, _ => by omega
  | n + 1, h, hk => by
    simp only [wr]
    by_cases e : i = n
    · subst e; rw [if_pos ⟨hL, hd⟩]
    · rw [if_neg (fun c => hk n (by omega) (by omega) c.2 c.1)]
      exact wr_put hL hd n (by omega) (fun k h1 h2 => hk k h1 (by omega))
section
variable {ops : Array Oper}
theorem regOk_spec (h : regOk ops = true) : (∀ j o, ops[j]? = some o → ∀ e ∈ dirs o, e < j) ∧ ∀ i j o p, i < j → ops[j]? = some o → ops[i]? = some p → ahead ops j i = true ∨ ((∀ d, p.dst = some d → d ∉ tmpsOf ops o) ∧ (∀ d, o.dst = some d → d ∉ tmpsOf ops p)) := by
  unfold regOk at h
  have h := List.all_eq_true.1 h
  have hlt : ∀ j o, ops[j]? = some o → j < ops.size := by
    intro j o ho
    rcases Nat.lt_or_ge j ops.size with h | h
    · exact h
    · rw [Array.getElem?_eq_none h] at ho; cases ho
  constructor
  · intro j o ho e he
    have := h j (by simpa using hlt j o ho)
    rw [ho] at this
    simp only [Bool.and_eq_true] at this
    exact @Nat.le_of_ble_eq_true (e + 1) j (List.all_eq_true.1 this.1 e he)
  · intro i j o p hij ho hp
    have := h j (by simpa using hlt j o ho)
    rw [ho] at this
    simp only [Bool.and_eq_true] at this
    have := List.all_eq_true.1 this.2 i (by simpa using hij)
    rw [hp] at this
    simp only [Bool.or_eq_true, Bool.and_eq_true] at this
    rcases this with h1 | ⟨h1, h2⟩
    · exact .inl h1
    · refine .inr ⟨fun d hd => ?_, fun d hd => ?_⟩
      · rw [hd] at h1; simpa using h1
      · rw [hd] at h2; simpa using h2
theorem agree (hr : regOk ops = true) {L : Nat → Prop} (hL : ∀ j o, L j → ops[j]? = some o → ∀ e ∈ dirs o, L e) {i : Nat} {o : Oper} (ho : ops[i]? = some o) (hdir : ∀ e ∈ dirs o, L e) (hno : ¬ L i) {k : Nat} {u : Tmp} (hk : dstAt ops k = some u) (hu : u ∈ tmpsOf ops o) : L k ↔ k < i := by
  obtain ⟨hd, hpair⟩ := regOk_spec hr
  obtain ⟨p, hp, hpd⟩ : ∃ p, ops[k]? = some p ∧ p.dst = some u := by
    unfold dstAt at hk
    cases hp : ops[k]? with
    | none => rw [hp] at hk; cases hk
    | some p => rw [hp] at hk; exact ⟨p, rfl, hk⟩
  rcases Nat.lt_trichotomy k i with h | h | h
  · refine ⟨fun _ => h, fun _ => ?_⟩
    rcases hpair k i o p h ho hp with h1 | ⟨h1, _⟩
    · exact ahead_closed hd hL i o ho hdir k h1
    · exact absurd hu (h1 u hpd)
  · subst h
    exact ⟨fun c => absurd c hno, fun c => by omega⟩
  · refine ⟨fun c => ?_, fun c => by omega⟩
    rcases hpair i k p o h hp ho with h1 | ⟨_, h1⟩
    · exact absurd (ahead_closed hd hL k p hp (hL k p c hp) i h1) hno
    · exact absurd hu (h1 u hpd)
theorem dst_in {o : Oper} {u : Tmp} (h : o.dst = some u) : u ∈ tmpsOf ops o := by
  unfold tmpsOf
  rw [h]
  simp
theorem dstAt_eq {i : Nat} {o : Oper} (h : ops[i]? = some o) : dstAt ops i = o.dst := by unfold dstAt; rw [h]; rfl
end
def upd {α : Type} (f : Nat → α) (i : Nat) (x : α) : Nat → α := fun j => if j = i then x else f j
theorem upd_at {α : Type} (f : Nat → α) (i : Nat) (x : α) : upd f i x i = x := by unfold upd; rw [if_pos rfl]
theorem upd_ne {α : Type} (f : Nat → α) (i : Nat) (x : α) {j : Nat} (h : j ≠ i) : upd f i x j = f j := by unfold upd; rw [if_neg h]
theorem to_eq {s s' : St} {d : Option Tmp} {v : Value} {hp : Hp} (h : s.to d v hp = some s') : s'.hp = hp ∧ s'.sz = s.sz ∧ (∀ u, d = some u → u < s.sz) ∧ (s.sz ≤ 1000 → ∀ u, (s'.t.get DT u).getD undef = if d = some u then v else (s.t.get DT u).getD undef) := by
  rw [St.to_eq] at h
  cases d with
  | none => cases h; exact ⟨rfl, rfl, fun u hu => (by cases hu), fun _ u => (by rw [if_neg (by simp)])⟩
  | some i =>
    dsimp only at h
    cases hc : Nat.blt i s.sz with
    | false => rw [hc] at h; cases h
    | true =>
      rw [hc] at h
      cases h
      have hlt := @Nat.le_of_ble_eq_true (i + 1) s.sz hc
      refine ⟨rfl, rfl, fun u hu => (by cases hu; exact hlt), fun hle u => ?_⟩
      dsimp only
      rw [Tr.get_set v DT s.t i u (by unfold DT; omega)]
      by_cases e : i = u
      · subst e; rw [if_pos rfl, if_pos rfl]; rfl
      · rw [if_neg e, if_neg (by simpa using e)]
section
variable (P : Program) (G : Nat) (w0 : World) (ops : Array Oper) (s0 : St)
structure CInv (d : Dn) (val : Nat → Value) (lid : Nat → Option Nat) : Prop where mk ::
  rng : ∀ i ∈ d.done, i < ops.size
  nodup : d.done.Nodup
  down : ∀ j o, j ∈ d.done → ops[j]? = some o → ∀ e ∈ dirs o, e ∈ d.done
  tmp : ∀ u, (d.s.t.get DT u).getD undef = wr ops val s0.t (· ∈ d.done) ops.size u
  sz : d.s.sz = s0.sz
  dst : ∀ i ∈ d.done, ∀ o, ops[i]? = some o → ∀ u, o.dst = some u → u < s0.sz
  how : ∀ i ∈ d.done, ∀ o, ops[i]? = some o → actsOp o.op = false → ∃ t : Tm, (∀ u ∈ tmpsOf ops o, (t.get DT u).getD undef = wr ops val s0.t (· < i) ops.size u) ∧ guardOk ops o t = true ∧
    ((wantA ops o t = false ∧ val i = undef ∧ lid i = none) ∨ (wantA ops o t = true ∧ ∃ r ∈ d.rds, r.i = i ∧ r.o = o ∧ r.t = t ∧ r.v = val i ∧
      ((∃ ob mk b, r.b = some (b, ob) ∧ layOf P G o.op t = some (ob, mk) ∧ val i = mk b ∧ lid i = some b) ∨ (r.b = none ∧ layOf P G o.op t = none ∧ lid i = none))))
  lids : ∀ i ∈ d.done, ∀ b, lid i = some b → s0.hp.n ≤ b ∧ b < d.s.hp.n
  lone : ∀ i ∈ d.done, ∀ j ∈ d.done, ∀ b, lid i = some b → lid j = some b → i = j
  ge : s0.hp.n ≤ d.s.hp.n
variable {P G w0 ops s0}
theorem CInv.add (hreg : regOk ops = true) (hs0 : s0.sz ≤ 1000) {d : Dn} {val : Nat → Value} {lid : Nat → Option Nat} (h : CInv P G ops s0 d val lid) {i : Nat} {o : Oper} (ho : ops[i]? = some o) (hno : i ∉ d.done) (hdir : ∀ e ∈ dirs o, e ∈ d.done)
    {v : Value} {hp2 : Hp} {s2 : St} (hto : d.s.to o.dst v hp2 = some s2) (hn : d.s.hp.n ≤ hp2.n) {rds2 : List Rd} (hrds : ∀ r ∈ d.rds, r ∈ rds2) {li : Option Nat} (hli : ∀ b, li = some b → d.s.hp.n ≤ b ∧ b < hp2.n)
    (hhow : actsOp o.op = false → guardOk ops o d.s.t = true ∧ ((wantA ops o d.s.t = false ∧ v = undef ∧ li = none) ∨ (wantA ops o d.s.t = true ∧ ∃ r ∈ rds2, r.i = i ∧ r.o = o ∧ r.t = d.s.t ∧ r.v = v ∧
      ((∃ ob mk b, r.b = some (b, ob) ∧ layOf P G o.op d.s.t = some (ob, mk) ∧ v = mk b ∧ li = some b) ∨ (r.b = none ∧ layOf P G o.op d.s.t = none ∧ li = none))))) :
    CInv P G ops s0 ⟨i :: d.done, rds2, s2⟩ (upd val i v) (upd lid i li) := by
  obtain ⟨e1, e2, e3, e4⟩ := to_eq hto
  have hlt : i < ops.size := by
    rcases Nat.lt_or_ge i ops.size with h | h
    · exact h
    · rw [Array.getElem?_eq_none h] at ho; cases ho
  have hne : ∀ j ∈ d.done, j ≠ i := fun j hj e => hno (e ▸ hj)
  have hpost : ∀ k u, i < k → dstAt ops k = some u → u ∈ tmpsOf ops o → k ∉ d.done := by
    intro k u hik hk hu hkd
    have := (agree hreg h.down ho hdir hno hk hu).1 hkd
    omega
  have hpre : ∀ u ∈ tmpsOf ops o, wr ops val s0.t (· ∈ d.done) ops.size u = wr ops (upd val i v) s0.t (· < i) ops.size u := by
    intro u hu
    refine wr_same _ (fun k _ hk => ⟨agree hreg h.down ho hdir hno hk hu, fun hkd => (upd_ne _ _ _ (hne k hkd)).symm⟩)
  refine ⟨fun j hj => ?_, List.nodup_cons.2 ⟨hno, h.nodup⟩, fun j p hj hp e he => ?_, fun u => ?_, e2.trans h.sz, fun j hj p hp u hu => ?_, fun j hj p hp ha => ?_, fun j hj b hb => ?_, fun j hj k hk b hb1 hb2 => ?_, by rw [e1]; exact Nat.le_trans h.ge hn⟩
  · rcases List.mem_cons.1 hj with rfl | hj
    · exact hlt
    · exact h.rng j hj
  · rcases List.mem_cons.1 hj with rfl | hj
    · rw [ho] at hp; cases hp
      exact List.mem_cons_of_mem _ (hdir e he)
    · exact List.mem_cons_of_mem _ (h.down j p hj hp e he)
  · dsimp only
    rw [e4 (by rw [h.sz]; exact hs0) u]
    by_cases hd : o.dst = some u
    · rw [if_pos hd]
      rw [wr_put (i := i) (List.mem_cons_self ..) ((dstAt_eq ho).trans hd) ops.size hlt (fun k h1 h2 h3 h4 => ?_), upd_at]
      rcases List.mem_cons.1 h4 with rfl | h4
      · omega
      · exact hpost k u h1 h3 (dst_in hd) h4
    · rw [if_neg hd, h.tmp u]
      refine wr_same _ (fun k _ hk => ⟨⟨fun hkd => List.mem_cons_of_mem _ hkd, fun hkd => ?_⟩, fun hkd => (upd_ne _ _ _ (hne k hkd)).symm⟩)
      rcases List.mem_cons.1 hkd with rfl | hkd
      · exact absurd ((dstAt_eq ho).symm.trans hk) hd
      · exact hkd
  · rcases List.mem_cons.1 hj with rfl | hj
    · rw [ho] at hp; cases hp
      rw [← h.sz]
      exact e3 u hu
    · exact h.dst j hj p hp u hu
  · rcases List.mem_cons.1 hj with rfl | hj
    · rw [ho] at hp; cases hp
      obtain ⟨hgd, hhow⟩ := hhow ha
      refine ⟨d.s.t, fun u hu => (h.tmp u).trans (hpre u hu), hgd, ?_⟩
      rcases hhow with ⟨g1, g2, g3⟩ | ⟨g1, r, hr, g2, g3, g4, g5, g6⟩
      · exact .inl ⟨g1, by rw [upd_at]; exact g2, by rw [upd_at]; exact g3⟩
      · refine .inr ⟨g1, r, hr, g2, g3, g4, by rw [upd_at]; exact g5, ?_⟩
        rcases g6 with ⟨ob, mk, b, k1, k2, k3, k4⟩ | ⟨k1, k2, k3⟩
        · exact .inl ⟨ob, mk, b, k1, k2, by rw [upd_at]; exact k3, by rw [upd_at]; exact k4⟩
        · exact .inr ⟨k1, k2, by rw [upd_at]; exact k3⟩
    · obtain ⟨t, ht, hgd, hw⟩ := h.how j hj p hp ha
      have hji := hne j hj
      refine ⟨t, fun u hu => (ht u hu).trans (wr_same _ (fun k _ hk => ⟨Iff.rfl, fun hkj => ?_⟩)), hgd, ?_⟩
      · have hkd : k ∈ d.done := by
          obtain ⟨hd, hpair⟩ := regOk_spec hreg
          obtain ⟨q, hq, hqd⟩ : ∃ q, ops[k]? = some q ∧ q.dst = some u := by
            unfold dstAt at hk
            cases hq : ops[k]? with
            | none => rw [hq] at hk; cases hk
            | some q => rw [hq] at hk; exact ⟨q, rfl, hk⟩
          rcases hpair k j p q hkj hp hq with h1 | ⟨h1, _⟩
          · exact ahead_closed hd h.down j p hp (h.down j p hj hp) k h1
          · exact absurd hu (h1 u hqd)
        exact (upd_ne _ _ _ (hne k hkd)).symm
      · rw [upd_ne _ _ _ hji, upd_ne _ _ _ hji]
        rcases hw with hw | ⟨g1, r, hr, hw⟩
        · exact .inl hw
        · exact .inr ⟨g1, r, hrds r hr, hw⟩
  · dsimp only
    rw [e1]
    by_cases hji : j = i
    · subst hji
      rw [upd_at] at hb
      have := hli b hb
      exact ⟨Nat.le_trans h.ge this.1, this.2⟩
    · rw [upd_ne _ _ _ hji] at hb
      have hj : j ∈ d.done := by
        rcases List.mem_cons.1 hj with h | h
        · exact absurd h hji
        · exact h
      have := h.lids j hj b hb
      exact ⟨this.1, by omega⟩
  · by_cases hji : j = i
    · by_cases hki : k = i
      · rw [hji, hki]
      · have hk : k ∈ d.done := by
          rcases List.mem_cons.1 hk with h | h
          · exact absurd h hki
          · exact h
        rw [hji, upd_at] at hb1
        rw [upd_ne _ _ _ hki] at hb2
        have h1 := hli b hb1
        have h2 := h.lids k hk b hb2
        omega
    · have hj : j ∈ d.done := by
        rcases List.mem_cons.1 hj with h | h
        · exact absurd h hji
        · exact h
      rw [upd_ne _ _ _ hji] at hb1
      by_cases hki : k = i
      · rw [hki, upd_at] at hb2
        have h1 := hli b hb2
        have h2 := h.lids j hj b hb1
        omega
      · have hk : k ∈ d.done := by
          rcases List.mem_cons.1 hk with h | h
          · exact absurd h hki
          · exact h
        rw [upd_ne _ _ _ hki] at hb2
        exact h.lone j hj k hk b hb1 hb2
end
end Go.Proofs.YtfhnljmoilifnaaGreatDoor.Ae
end
