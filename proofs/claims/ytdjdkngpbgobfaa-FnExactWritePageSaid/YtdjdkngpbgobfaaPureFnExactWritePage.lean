/- FnExactWritePage: the pure statement of the law, over the printed functions. No condition beyond the statement's own. -/
import Derived.Test.YtdjdkngpbgobfaaSFnExactWritePagex8
import Derived.Test.YtdjdkngpbgobfaaLib
import Derived.Test.YtdjdkngpbgobfaaOpens
namespace Go.Proofs.Ytdjdkngpbgobfaa.Pure
open Go.RowKit Go.Proofs.Ytdjdkngpbgobfaa.PFnExactWritePage Go.Proofs.YtdjdkngpbgobfaaW.PrintWords Go.Proofs.YtdjdkngpbgobfaaW.PrintLast Go.Proofs.Ytdjdkngpbgobfaa.Lib Go.Proofs.Ytdjdkngpbgobfaa.Opens
set_option linter.unusedVariables false
set_option linter.unusedSimpArgs false
namespace FnExactWritePagePf
theorem szPageS_eq (l : List S79) (a : Int) (hl : l.length ≤ maxLen) (h0 : 0 ≤ a) (h1 : a ≤ 1048576) : laws_szPageS.f l a = some (if a - (l.length : Int) < 0 then -1 else a - (l.length : Int)) := by
  have h : wrap64 (a - (l.length : Int)) = a - (l.length : Int) := wrap_id (by unfold maxLen at hl; omega) (by omega)
  simp only [laws_szPageS.f, h]
  split <;> rfl
def cvPage (x : S79) : S44 := ⟨x.f0, x.f1, x.f2, x.f3⟩
theorem toPageS_ev (l : List S79) (hl : l.length ≤ 1048576) : Ev (fun k => laws_toPageS.f k l) (l.map cvPage) := by
  have h := map_loop (fun k out i => laws_toPageS.l0 k l out i) l cvPage z44 (by omega)
    (fun k out => by simp only [laws_toPageS.l0]; rw [if_neg (by omega)])
    (fun k out i x hx ho hw => by
      have hi := lt_of_get hx
      have hr : rd_T79 l (i : Int) = x := getD_of z79 hx
      simp only [laws_toPageS.l0, laws_toPage.f, Option.bind_some, hr, hw]
      rw [if_pos (by omega), if_pos (by omega), if_pos (by omega), Int.toNat_natCast]; rfl)
  refine Ev.congr (fun k => ?_) h
  simp only [laws_toPageS.f, Int.toNat_natCast]
  rw [if_pos (by omega), if_pos (by omega)]
theorem eqPage_self (a0 : Int) (a1 : Int) (a2 : Int) (a3 : Int) : laws_eqPage.f a0 a1 a2 a3 a0 a1 a2 a3 = some true := by
  simp [laws_eqPage.f]
theorem eqPageS_ev (l : List S44) (hl : l.length ≤ 4611686018427387904) : Ev (fun k => laws_eqPageS.f k l l) true := by
  have h := count_loop (fun k i => laws_eqPageS.l0 k l l i) l.length true hl
    (fun k => by simp only [laws_eqPageS.l0]; rw [if_neg (by omega)])
    (fun k i hi hw => by simp only [laws_eqPageS.l0, hw]; rw [if_pos (by omega), if_pos (by omega), if_pos (by omega)]; simp only [eqPage_self, Option.bind_some, if_true])
  refine Ev.congr (fun k => ?_) h
  simp only [laws_eqPageS.f, if_true]
def mkPage (m : Int) : S44 := ⟨m, m + 1, m + 2, m + 3⟩
theorem markPageS_at (l : List S44) (m0 : Nat) (hm : m0 ≤ 1099511627776) (hl : l.length ≤ 2097152) : Ev (fun k => laws_markPageS.f k l (m0 : Int)) (((m0 + 4 * l.length : Nat) : Int), marksAt mkPage 4 m0 l.length) := by
  refine mark_loopAt (fun k xs m i => laws_markPageS.l0 k xs m i) mkPage 4 m0 l.length (by omega) (by omega) l rfl
    (fun k xs m hx => by simp only [laws_markPageS.l0]; rw [if_neg (by omega)])
    (fun k xs m i hx hi h0 h1 hw => by
      have w1 : wrap64 (m + 1) = m + 1 := wrap_id (by omega) (by omega)
      have w2 : wrap64 (m + 2) = m + 2 := wrap_id (by omega) (by omega)
      have w3 : wrap64 (m + 3) = m + 3 := wrap_id (by omega) (by omega)
      have w4 : wrap64 (m + 4) = m + 4 := wrap_id (by omega) (by omega)
      have e1 : m + 1 + 1 = m + 2 := by omega
      have e2 : m + 2 + 1 = m + 3 := by omega
      have e3 : m + 3 + 1 = m + 4 := by omega
      have hg : ∀ (ys : List S44) (y : S44), ys.length = l.length → rd_T44 (ys.set i y) (i : Int) = y := fun ys y hy => by simp [rd_T44, List.getD_eq_getElem?_getD, hy, hi]
      simp only [laws_markPageS.l0, Option.bind_some, Int.toNat_natCast, hw]
      rw [if_pos (by omega), if_pos (by omega)]
      simp only [hg _ _ hx, hg _ _ ((List.length_set ..).trans hx), List.set_set, w1, w2, w3, w4, e1, e2, e3]
      rfl)
theorem markPageS_ev (l : List S44) (hl : l.length ≤ 2097152) : Ev (fun k => laws_markPageS.f k l 1) (1 + ((4 * l.length : Nat) : Int), marks mkPage 4 l.length) := by
  have h := markPageS_at l 1 (by omega) hl
  rw [show (((1 + 4 * l.length : Nat) : Int)) = 1 + ((4 * l.length : Nat) : Int) from by omega] at h
  exact h
theorem heldPageS_ev (n : Nat) (hn : n ≤ 2097152) : Ev (fun k => laws_heldPageS.f k (marks mkPage 4 n) 1) (1 + ((4 * n : Nat) : Int)) := by
  have hlen : (marks mkPage 4 n).length = n := marks_len ..
  refine held_loop (fun k m i => laws_heldPageS.l0 k (marks mkPage 4 n) m i) mkPage 4 n (by omega) (by omega)
    (fun k m => by simp only [laws_heldPageS.l0]; rw [if_neg (by omega)])
    (fun k m i hx hi h0 h1 hw => by
      have hr : rd_T44 (marks mkPage 4 n) (i : Int) = mkPage m := getD_of z44 hx
      have w1 : wrap64 (m + 1) = m + 1 := wrap_id (by omega) (by omega)
      have w2 : wrap64 (m + 2) = m + 2 := wrap_id (by omega) (by omega)
      have w3 : wrap64 (m + 3) = m + 3 := wrap_id (by omega) (by omega)
      have w4 : wrap64 (m + 4) = m + 4 := wrap_id (by omega) (by omega)
      have e1 : m + 1 + 1 = m + 2 := by omega
      have e2 : m + 2 + 1 = m + 3 := by omega
      have e3 : m + 3 + 1 = m + 4 := by omega
      simp only [laws_heldPageS.l0, hr, hw, w1, w2, w3, w4, e1, e2, e3]
      rw [if_pos (by omega), if_pos (by omega)]
      simp [mkPage])
theorem l1In_eq (a b c : Int) : spec_l1In.f a b c = some (decide (b ≤ a ∧ a ≤ c)) := by
  unfold spec_l1In.f
  by_cases h : a ≥ b
  · rw [if_pos h]; simp [h]
  · rw [if_neg h]; simp [show ¬ (b ≤ a) from by omega]
theorem InRange_eq (a b c : Int) : impl_InRange.f a b c = some (decide (b ≤ a ∧ a ≤ c)) := by
  unfold impl_InRange.f
  by_cases h : b ≤ a
  · rw [if_pos h]; simp [h]
  · rw [if_neg h]; simp [h]
def modM (v : Int) : Int := Int.tmod (wrap64 (Int.tmod v 2147483647 + 2147483647)) 2147483647
def hashOne (s v : Int) : Int := Int.tmod (wrap64 (wrap64 (wrap64 (s * 1000003) + modM v) + 13)) 2147483647
def stepHash : Nat → Int → Int → Int ⊕ Int := fun _ s x => .inr (hashOne s x)
def mHash (l : List Int) : Int := run stepHash id 0 11 l
theorem specMod_eq (v : Int) : spec_Mod.f v 2147483647 = some (modM v) := by
  unfold spec_Mod.f
  simp only [l1In_eq, Option.bind_some]
  rw [if_pos (by decide), if_neg (by decide)]
  rfl
theorem implMod_eq (v : Int) : impl_Mod.f v 2147483647 = some (modM v) := by
  unfold impl_Mod.f
  simp only [InRange_eq, Option.bind_some]
  rw [if_pos (by decide), if_neg (by decide)]
  rfl
theorem specHash_at (l : List Int) (hl : l.length ≤ 4611686018427387904) : ∀ k, l.length < k → spec_Hash.f k l = some (mHash l) :=
  at_loop0 (fun k s i => spec_Hash.l0 k l s i) l stepHash id hl 11
    (fun k s => by simp only [spec_Hash.l0]; rw [if_neg (by omega)]; rfl)
    (fun k s i x hx hw => by
      have hi := lt_of_get hx
      have hr : rd l (i : Int) = x := getD_of 0 hx
      simp only [spec_Hash.l0, hr, hw, specMod_eq, Option.bind_some]; rw [if_pos (by omega), if_pos (by omega)]
      rfl)
theorem implHash_at (l : List Int) (hl : l.length ≤ 4611686018427387904) : ∀ k, l.length < k → impl_Hash.f k l = some (mHash l) :=
  at_loop0 (fun k s i => impl_Hash.l0 k s l (l.length : Int) i) l stepHash id hl 11
    (fun k s => by simp only [impl_Hash.l0]; rw [if_neg (by omega)]; rfl)
    (fun k s i x hx hw => by
      have hi := lt_of_get hx
      have hr : rd l (i : Int) = x := getD_of 0 hx
      simp only [impl_Hash.l0, hr, hw, implMod_eq, Option.bind_some]; rw [if_pos (by omega), if_pos (by omega), if_pos (by omega)]
      rfl)
def mSeal (b day cell food : Int) : Int := mHash [b, day, cell, food]
theorem specSeal_at (b d c f s : Int) : ∀ k, 4 < k → spec_l21Seal.f k b d c f s = some (mSeal b d c f) := fun k hk => by
  simp only [spec_l21Seal.f, specHash_at [b, d, c, f] (by simp) k (by simpa using hk), Option.bind_some, mSeal]
theorem implSeal_at (b d c f s : Int) : ∀ k, 4 < k → impl_sealOf.f k b d c f s = some (mSeal b d c f) := fun k hk => by
  simp only [impl_sealOf.f, implHash_at [b, d, c, f] (by simp) k (by simpa using hk), Option.bind_some, mSeal]
def okPage (s : Int × Int) (x : S44) : Prop := (s.2 + 1 ≤ x.f0 ∧ x.f0 ≤ 10000) ∧ (0 ≤ x.f1 ∧ x.f1 ≤ 63) ∧ (0 ≤ x.f2 ∧ x.f2 ≤ 10000) ∧ x.f3 = mSeal s.1 x.f0 x.f1 x.f2
instance (s : Int × Int) (x : S44) : Decidable (okPage s x) := by unfold okPage; infer_instance
def stepJ : Nat → Int × Int → S44 → Bool ⊕ (Int × Int) := fun _ s x => if okPage s x then .inr (x.f3, x.f0) else .inl false
def mIsJournal (l : List S44) : Bool := run stepJ (fun _ => decide ((l.length : Int) ≤ 100)) 0 (0, -1) l
theorem implJ_at (l : List S44) (hl : l.length ≤ 4611686018427387904) : ∀ k, l.length + 5 < k → impl_IsJournal.f k l = some (mIsJournal l) :=
  at_loopI (fun k s i => impl_IsJournal.l0 k l s.1 s.2 l (l.length : Int) i) l stepJ _ (fun _ s => -1 ≤ s.2 ∧ s.2 ≤ 10000) hl (0, -1) ⟨by decide, by decide⟩ 5
    (fun k s _ _ => by simp only [impl_IsJournal.l0]; rw [if_neg (by omega)])
    (fun s i x s' hI _ he => by
      simp only [stepJ] at he
      split at he
      · rename_i h
        injection he with he
        subst he
        have h1 := h.1
        exact ⟨by show -1 ≤ x.f0; omega, h1.2⟩
      · cases he)
    (fun k s i x hk hI hx hw => by
      have hi := lt_of_get hx
      have hr : rd_T44 l (i : Int) = x := getD_of z44 hx
      have hw2 : wrap64 (s.2 + 1) = s.2 + 1 := wrap_id (by omega) (by omega)
      simp only [impl_IsJournal.l0, hr, hw, hw2, InRange_eq, implSeal_at _ _ _ _ _ k (by omega), Option.bind_some, decide_eq_true_eq]; rw [if_pos (by omega), if_pos (by omega), if_pos (by omega)]
      simp only [stepJ]
      by_cases c1 : s.2 + 1 ≤ x.f0 ∧ x.f0 ≤ 10000
      · by_cases c2 : 0 ≤ x.f1 ∧ x.f1 ≤ 63
        · by_cases c3 : 0 ≤ x.f2 ∧ x.f2 ≤ 10000
          · rw [if_pos c1, if_pos c2, if_pos c3]
            by_cases c4 : x.f3 = mSeal s.1 x.f0 x.f1 x.f2
            · rw [if_pos c4, if_pos (show okPage s x from ⟨c1, c2, c3, c4⟩)]; rfl
            · rw [if_neg c4, if_neg (show ¬ okPage s x from fun h => c4 h.2.2.2)]; rfl
          · rw [if_pos c1, if_pos c2, if_neg c3, if_neg (show ¬ okPage s x from fun h => c3 h.2.2.1)]; rfl
        · rw [if_pos c1, if_neg c2, if_neg (show ¬ okPage s x from fun h => c2 h.2.1)]; rfl
      · rw [if_neg c1, if_neg (show ¬ okPage s x from fun h => c1 h.1)]; rfl)
theorem run_false {σ α : Type} (f : Nat → σ → α → Bool ⊕ σ) (h : ∀ i s x r, f i s x = .inl r → r = false) : ∀ (t : List α) (i : Nat) (s : σ), run f (fun _ => false) i s t = false
  | [], _, _ => rfl
  | x :: t, i, s => by
    cases hf : f i s x with
    | inl r => rw [run_inl hf]; exact h i s x r hf
    | inr s' => rw [run_inr hf]; exact run_false f h t (i + 1) s'
theorem stepJ_inl (i : Nat) (s : Int × Int) (x : S44) (r : Bool) (h : stepJ i s x = .inl r) : r = false := by
  simp only [stepJ] at h
  split at h
  · cases h
  · injection h with h
    exact h.symm
theorem specJ_down (l : List S44) (hl : l.length ≤ 100) : ∀ (t d : List S44) (s day : Int), l = d ++ t → (d.length = 0 ∧ day = -1 ∨ 0 < d.length ∧ (l.getD (d.length - 1) z44).f0 = day ∧ 0 ≤ day) →
    Ev (fun k => spec_IsJournal.l0 k l s (d.length : Int)) (run stepJ (fun _ => decide ((l.length : Int) ≤ 100)) d.length (s, day) t)
  | [], d, s, day, h, _ => by
    have hlen : l.length = d.length := by rw [h]; simp
    refine Ev.step (f := fun k => spec_IsJournal.j1 k l s (d.length : Int) false) (fun k => ?_) (Ev.step (f := fun _ => some (decide ((l.length : Int) ≤ 100))) (fun k => ?_) (Ev.now _))
    · simp only [spec_IsJournal.l0]
      rw [if_neg (by omega)]
    · simp only [spec_IsJournal.j1, Bool.false_eq_true, if_false]
  | x :: t, d, s, day, h, hday => by
    have hlen : l.length = d.length + (t.length + 1) := by rw [h]; simp
    have hx : l[d.length]? = some x := by rw [h]; simp
    have hr : rd_T44 l (d.length : Int) = x := getD_of z44 hx
    refine Ev.step (f := fun k => spec_IsJournal.j1 k l s (d.length : Int) true) (fun k => ?_) ?_
    · simp only [spec_IsJournal.l0]
      rw [if_pos (by omega), decide_eq_true (by omega)]
    have hbad : ∀ {k : Nat}, some false = (fun (_ : Nat) => some false) k := rfl
    refine Ev.step (f := fun k => (spec_l21Seal.f k s x.f0 x.f1 x.f2 x.f3).bind fun t128 => (spec_l1In.f x.f0 0 10000).bind fun t129 => if t129 = true then (spec_l1In.f x.f1 0 63).bind fun t130 => if t130 = true then (spec_l1In.f x.f2 0 10000).bind fun t131 => if t131 = true then if x.f3 = t128 then if (d.length : Int) > 0 then if 0 ≤ wrap64 ((d.length : Int) - 1) then if wrap64 ((d.length : Int) - 1) < (l.length : Int) then if (rd_T44 l (wrap64 ((d.length : Int) - 1))).f0 ≥ x.f0 then some false else spec_IsJournal.l0 k l t128 (wrap64 ((d.length : Int) + 1)) else none else none else spec_IsJournal.l0 k l t128 (wrap64 ((d.length : Int) + 1)) else some false else some false else some false else some false) (fun k => ?_) ?_
    · simp only [spec_IsJournal.j1, hr, if_true]
      rw [if_pos (by omega), if_pos (by omega)]
    refine Ev.bind (ev_at (specSeal_at s x.f0 x.f1 x.f2 x.f3)) ?_
    simp only [l1In_eq, Option.bind_some, decide_eq_true_eq]
    have stop : (¬ okPage (s, day) x) → run stepJ (fun _ => decide ((l.length : Int) ≤ 100)) d.length (s, day) (x :: t) = false := fun hn => run_inl (if_neg hn)
    by_cases c1 : 0 ≤ x.f0 ∧ x.f0 ≤ 10000
    · simp only [if_pos c1]
      by_cases c2 : 0 ≤ x.f1 ∧ x.f1 ≤ 63
      · simp only [if_pos c2]
        by_cases c3 : 0 ≤ x.f2 ∧ x.f2 ≤ 10000
        · simp only [if_pos c3]
          by_cases c4 : x.f3 = mSeal s x.f0 x.f1 x.f2
          · simp only [if_pos c4]
            have ih := specJ_down l hl t (d ++ [x]) x.f3 x.f0 (by rw [h]; simp) (.inr ⟨by simp, by simp [List.getD_eq_getElem?_getD, hx], c1.1⟩)
            rw [List.length_append, List.length_singleton, show ((d.length + 1 : Nat) : Int) = (d.length : Int) + 1 from by omega, c4] at ih
            simp only [wrapi d.length (by omega)]
            rcases hday with ⟨h0, hd⟩ | ⟨h0, hd, hd0⟩
            · simp only [show ¬ ((d.length : Int) > 0) from by omega, if_false]
              rw [run_inr (show stepJ d.length (s, day) x = .inr (x.f3, x.f0) from if_pos ⟨⟨by show day + 1 ≤ x.f0; omega, c1.2⟩, c2, c3, c4⟩), c4]
              exact ih
            · have e1 : rd_T44 l ((d.length - 1 : Nat) : Int) = l.getD (d.length - 1) z44 := getD_nat ..
              simp only [show ((d.length : Int) > 0) from by omega, if_true, wrapd d.length h0 (by omega), show (0 : Int) ≤ ((d.length - 1 : Nat) : Int) from by omega, show ((d.length - 1 : Nat) : Int) < (l.length : Int) from by omega, e1, hd]
              by_cases c5 : day ≥ x.f0
              · simp only [if_pos c5]
                rw [stop (fun h => by have := h.1.1; simp only at this; omega)]
                exact Ev.now _
              · simp only [if_neg c5]
                rw [run_inr (show stepJ d.length (s, day) x = .inr (x.f3, x.f0) from if_pos ⟨⟨by show day + 1 ≤ x.f0; omega, c1.2⟩, c2, c3, c4⟩), c4]
                exact ih
          · simp only [if_neg c4]
            rw [stop (fun h => c4 h.2.2.2)]
            exact Ev.now _
        · simp only [if_neg c3]
          rw [stop (fun h => c3 h.2.2.1)]
          exact Ev.now _
      · simp only [if_neg c2]
        rw [stop (fun h => c2 h.2.1)]
        exact Ev.now _
    · simp only [if_neg c1]
      rw [stop (fun h => c1 ⟨by have := h.1.1; simp only at this; rcases hday with ⟨_, hd⟩ | ⟨_, _, hd⟩ <;> omega, h.1.2⟩)]
      exact Ev.now _
theorem specJ_ev (l : List S44) (hl : l.length ≤ 4611686018427387904) : Ev (fun k => spec_IsJournal.f k l) (mIsJournal l) := by
  by_cases h : l.length ≤ 100
  · exact specJ_down l h l [] 0 (-1) rfl (.inl ⟨rfl, rfl⟩)
  · have e : mIsJournal l = false := by
      unfold mIsJournal
      rw [show (fun _ : Int × Int => decide ((l.length : Int) ≤ 100)) = fun _ => false from funext fun _ => decide_eq_false (by omega)]
      exact run_false stepJ stepJ_inl l 0 (0, -1)
    rw [e]
    unfold spec_IsJournal.f
    refine Ev.step (f := fun k => spec_IsJournal.j1 k l 0 0 false) (fun k => ?_) (Ev.step (f := fun _ => some false) (fun k => ?_) (Ev.now _))
    · simp only [spec_IsJournal.l0]
      rw [if_pos (by omega), decide_eq_false (by omega)]
    · simp only [spec_IsJournal.j1, Bool.false_eq_true, if_false]
      rw [decide_eq_false (by omega)]
theorem implJ_ev (l : List S44) (hl : l.length ≤ 4611686018427387904) : Ev (fun k => impl_IsJournal.f k l) (mIsJournal l) := ev_at (implJ_at l hl)
def mWrite (l : List S44) (day cell food : Int) : List S44 × Bool :=
  let s := if 0 < l.length then (l.getD (l.length - 1) z44).f3 else 0
  if mIsJournal (l ++ [⟨day, cell, food, mSeal s day cell food⟩]) = true then (l ++ [⟨day, cell, food, mSeal s day cell food⟩], true) else (l, false)
theorem mWrite_len (l : List S44) (d c f : Int) : (mWrite l d c f).1.length ≤ l.length + 1 := by
  simp only [mWrite]
  generalize (if 0 < l.length then (l.getD (l.length - 1) z44).f3 else 0) = s
  split <;> simp
theorem specWrite_j (l : List S44) (s d c f : Int) (hl : l.length ≤ 2097152) : Ev (fun k => spec_WritePage.j0 k l s d c f 0) (if mIsJournal (l ++ [⟨d, c, f, mSeal s d c f⟩]) = true then (l ++ [⟨d, c, f, mSeal s d c f⟩], true) else (l, false)) := by
  have h1 : (l ++ [(⟨d, c, f, mSeal s d c f⟩ : S44)]).length ≤ 4611686018427387904 := by simp; omega
  have h2 : ([] ++ l : List S44).length + [(⟨d, c, f, mSeal s d c f⟩ : S44)].length < 4398046511104 := by simp; omega
  refine Ev.step (f := fun k => (spec_l21Seal.f k s d c f 0).bind fun t135 => ((some (([] : List (S44)) : List (S44))).bind fun y136 => (if y136.length + l.length < 4398046511104 then ((some (y136 ++ l : List (S44))).bind fun y139 => ((some (([(⟨d, c, f, t135⟩ : S44)] : List (S44)) : List (S44))).bind fun y142 => (if y139.length + y142.length < 4398046511104 then ((some (y139 ++ y142 : List (S44))).bind fun y145 => ((spec_IsJournal.f k y145).bind fun t148 => (if t148 = true then (some (y145, true)) else ((some (([] : List (S44)) : List (S44))).bind fun y149 => (if y149.length + l.length < 4398046511104 then (some ((y149 ++ l), false)) else (none)))))) else (none)))) else (none)))) (fun k => by simp only [spec_WritePage.j0]) ?_
  refine Ev.bind (ev_at (specSeal_at s d c f 0)) ?_
  have h3 : ([] : List S44).length + l.length < 4398046511104 := by simp; omega
  simp only [Option.bind_some, h2, h3, if_true]
  refine Ev.bind (by simpa only [List.nil_append] using specJ_ev _ h1) ?_
  by_cases h : mIsJournal (l ++ [(⟨d, c, f, mSeal s d c f⟩ : S44)]) = true
  · simp only [h, if_true, List.nil_append]; exact Ev.now _
  · simp only [h, if_false, List.nil_append]; exact Ev.now _
theorem implWrite_j (l : List S44) (s d c f : Int) (hl : l.length ≤ 2097152) : Ev (fun k => impl_WritePage.j0 k l s d c f 0) (if mIsJournal (l ++ [⟨d, c, f, mSeal s d c f⟩]) = true then (l ++ [⟨d, c, f, mSeal s d c f⟩], true) else (l, false)) := by
  have h1 : (l ++ [(⟨d, c, f, mSeal s d c f⟩ : S44)]).length ≤ 4611686018427387904 := by simp; omega
  have h2 : ([] ++ l : List S44).length + [(⟨d, c, f, mSeal s d c f⟩ : S44)].length < 4398046511104 := by simp; omega
  refine Ev.step (f := fun k => (impl_sealOf.f k s d c f 0).bind fun t135 => ((some (([] : List (S44)) : List (S44))).bind fun y136 => (if y136.length + l.length < 4398046511104 then ((some (y136 ++ l : List (S44))).bind fun y139 => ((some (([(⟨d, c, f, t135⟩ : S44)] : List (S44)) : List (S44))).bind fun y142 => (if y139.length + y142.length < 4398046511104 then ((some (y139 ++ y142 : List (S44))).bind fun y145 => ((impl_IsJournal.f k y145).bind fun t148 => (if t148 = true then (some (y145, true)) else ((some (([] : List (S44)) : List (S44))).bind fun y149 => (if y149.length + l.length < 4398046511104 then (some ((y149 ++ l), false)) else (none)))))) else (none)))) else (none)))) (fun k => by simp only [impl_WritePage.j0]) ?_
  refine Ev.bind (ev_at (implSeal_at s d c f 0)) ?_
  have h3 : ([] : List S44).length + l.length < 4398046511104 := by simp; omega
  simp only [Option.bind_some, h2, h3, if_true]
  refine Ev.bind (by simpa only [List.nil_append] using implJ_ev _ h1) ?_
  by_cases h : mIsJournal (l ++ [(⟨d, c, f, mSeal s d c f⟩ : S44)]) = true
  · simp only [h, if_true, List.nil_append]; exact Ev.now _
  · simp only [h, if_false, List.nil_append]; exact Ev.now _
theorem specWrite_ev (l : List S44) (d c f : Int) (hl : l.length ≤ 2097152) : Ev (fun k => spec_WritePage.f k l d c f) (mWrite l d c f) := by
  unfold spec_WritePage.f mWrite
  by_cases h : 0 < l.length
  · have e1 : rd_T44 l ((l.length - 1 : Nat) : Int) = l.getD (l.length - 1) z44 := getD_nat ..
    simp only [show (l.length : Int) > 0 from by omega, if_true, wrapd l.length h (by omega), e1, h]
    simp only [show (0 : Int) ≤ ((l.length - 1 : Nat) : Int) from by omega, show ((l.length - 1 : Nat) : Int) < (l.length : Int) from by omega, if_true]
    exact specWrite_j l _ d c f hl
  · simp only [show ¬ (l.length : Int) > 0 from by omega, if_false, h]
    exact specWrite_j l _ d c f hl
theorem implWrite_ev (l : List S44) (d c f : Int) (hl : l.length ≤ 2097152) : Ev (fun k => impl_WritePage.f k l d c f) (mWrite l d c f) := by
  unfold impl_WritePage.f mWrite
  by_cases h : 0 < l.length
  · have e1 : rd_T44 l ((l.length - 1 : Nat) : Int) = l.getD (l.length - 1) z44 := getD_nat ..
    simp only [show (l.length : Int) > 0 from by omega, if_true, wrapd l.length h (by omega), e1, h]
    simp only [show (0 : Int) ≤ ((l.length - 1 : Nat) : Int) from by omega, show ((l.length - 1 : Nat) : Int) < (l.length : Int) from by omega, if_true]
    exact implWrite_j l _ d c f hl
  · simp only [show ¬ (l.length : Int) > 0 from by omega, if_false, h]
    exact implWrite_j l _ d c f hl
theorem writePage_j2 (n : Nat) (hn : n ≤ 2097152) : Ev (fun k => laws_FnExactWritePage.j2 k (marks mkPage 4 n) (1 + ((4 * n : Nat) : Int)) false) true := by
  refine Ev.step (f := fun k => (laws_heldPageS.f k (marks mkPage 4 n) 1).bind fun t233 => if t233 < 0 then some false else if t233 = 1 + ((4 * n : Nat) : Int) then some true else some false) (fun k => by simp only [laws_FnExactWritePage.j2, Bool.false_eq_true, if_false]) ?_
  refine Ev.bind (heldPageS_ev n hn) ?_
  have q1 : ¬ (1 + ((4 * n : Nat) : Int) < 0) := by omega
  simp only [q1, if_true, if_false]
  exact Ev.now _
theorem writePage_j1 (l0 : List S79) (a1 a2 a3 : Int) (hl : l0.length ≤ 1048576) (r : List S44 × Bool) (hr : r = mWrite (l0.map cvPage) a1 a2 a3) : Ev (fun k => laws_FnExactWritePage.j1 k l0 a1 a2 a3 r.1 r.2 r.1 false) true := by
  have hlen : (l0.map cvPage).length = l0.length := List.length_map ..
  have hn : r.1.length ≤ 2097152 := by rw [hr]; have := mWrite_len (l0.map cvPage) a1 a2 a3; omega
  refine Ev.step (f := fun k => (laws_markPageS.f k r.1 1).bind fun bt222 => ((laws_heldPageS.f k bt222.2 1).bind fun t224 => (if t224 < 0 then (some false) else (if t224 = bt222.1 then ((laws_toPageS.f k l0).bind fun t225 => ((impl_WritePage.f k t225 a1 a2 a3).bind fun bt228 => ((laws_eqPageS.f k bt228.1 r.1).bind fun t232 => (if t232 = true then (laws_FnExactWritePage.j2 k bt222.2 bt222.1 (bt228.2 != r.2)) else (laws_FnExactWritePage.j2 k bt222.2 bt222.1 true))))) else (some false))))) (fun k => by simp only [laws_FnExactWritePage.j1, Bool.false_eq_true, if_false]) ?_
  refine Ev.bind (markPageS_ev r.1 (by omega)) ?_
  refine Ev.bind (heldPageS_ev r.1.length (by omega)) ?_
  have q1 : ¬ (1 + ((4 * r.1.length : Nat) : Int) < 0) := by omega
  simp only [q1, if_true, if_false]
  refine Ev.bind (toPageS_ev l0 (by omega)) ?_
  refine Ev.bind (implWrite_ev _ a1 a2 a3 (by omega)) ?_
  rw [← hr]
  refine Ev.bind (eqPageS_ev _ (by omega)) ?_
  simp only [if_true, bne_self_eq_false]
  exact writePage_j2 _ (by omega)
theorem writePage_j0 (l0 : List S79) (a1 a2 a3 : Int) (hl : l0.length ≤ 1048576) (r : List S44 × Bool) (hr : r = mWrite (l0.map cvPage) a1 a2 a3) : Ev (fun k => laws_FnExactWritePage.j0 k l0 a1 a2 a3 r.1 r.2 (l0.map cvPage) r.1 r.2 false) true := by
  have hlen : (l0.map cvPage).length = l0.length := List.length_map ..
  have hn : r.1.length ≤ 2097152 := by rw [hr]; have := mWrite_len (l0.map cvPage) a1 a2 a3; omega
  refine Ev.step (f := fun k => (laws_toPageS.f k l0).bind fun t215 => ((laws_eqPageS.f k (l0.map cvPage) t215).bind fun t218 => (if t218 = true then ((laws_markPageS.f k (l0.map cvPage) 1).bind fun bt219 => (if bt219.1 < 0 then (laws_FnExactWritePage.j1 k l0 a1 a2 a3 r.1 r.2 r.1 true) else ((laws_eqPageS.f k r.1 r.1).bind fun t221 => (if t221 = true then (laws_FnExactWritePage.j1 k l0 a1 a2 a3 r.1 r.2 r.1 (r.2 != r.2)) else (laws_FnExactWritePage.j1 k l0 a1 a2 a3 r.1 r.2 r.1 true))))) else (some false)))) (fun k => by simp only [laws_FnExactWritePage.j0, Bool.false_eq_true, if_false]) ?_
  refine Ev.bind (toPageS_ev l0 (by omega)) ?_
  refine Ev.bind (eqPageS_ev _ (by omega)) ?_
  simp only [if_true]
  refine Ev.bind (markPageS_ev _ (by omega)) ?_
  have q1 : ¬ (1 + ((4 * (l0.map cvPage).length : Nat) : Int) < 0) := by omega
  simp only [q1, if_false]
  refine Ev.bind (eqPageS_ev _ (by omega)) ?_
  simp only [if_true, bne_self_eq_false]
  exact writePage_j1 l0 a1 a2 a3 hl r hr
end FnExactWritePagePf
open FnExactWritePagePf
theorem FnExactWritePage : ∀ (l0 : List S79) (a1 : Int) (a2 : Int) (a3 : Int), l0.length ≤ maxLen → (∀ y ∈ l0, (I64 y.f0 ∧ I64 y.f1 ∧ I64 y.f2 ∧ I64 y.f3)) → I64 a1 → I64 a2 → I64 a3 → ∃ k, laws_FnExactWritePage.f k l0 a1 a2 a3 = some true := by
  intro l0 a1 a2 a3 hl _ _ _ _
  apply Ev.rounds (g := fun k => laws_FnExactWritePage.f k l0 a1 a2 a3)
  unfold laws_FnExactWritePage.f
  simp only [szPageS_eq l0 1048576 hl (by omega) (by omega), Option.bind_some]
  by_cases h : (1048576 : Int) - (l0.length : Int) < 0
  · simp only [if_pos h]; exact Ev.now _
  · simp only [if_neg h]
    have hlen : (l0.map cvPage).length = l0.length := List.length_map ..
    have hm := mWrite_len (l0.map cvPage) a1 a2 a3
    refine Ev.bind (toPageS_ev l0 (by omega)) ?_
    refine Ev.bind (specWrite_ev _ a1 a2 a3 (by omega)) ?_
    refine Ev.bind (toPageS_ev l0 (by omega)) ?_
    refine Ev.bind (implWrite_ev _ a1 a2 a3 (by omega)) ?_
    refine Ev.bind (eqPageS_ev _ (by omega)) ?_
    simp only [if_true, bne_self_eq_false]
    exact writePage_j0 l0 a1 a2 a3 (by omega) _ rfl
end Go.Proofs.Ytdjdkngpbgobfaa.Pure
