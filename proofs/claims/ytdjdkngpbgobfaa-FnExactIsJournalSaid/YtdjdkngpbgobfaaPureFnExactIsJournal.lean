/- FnExactIsJournal: the pure statement of the law, over the printed functions. No condition beyond the statement's own. -/
import Derived.Test.YtdjdkngpbgobfaaPFnExactIsJournalx5
import Derived.Test.YtdjdkngpbgobfaaLib
import Derived.Test.YtdjdkngpbgobfaaOpens
namespace Go.Proofs.Ytdjdkngpbgobfaa.Pure
open Go.RowKit Go.Proofs.Ytdjdkngpbgobfaa.PFnExactIsJournal Go.Proofs.YtdjdkngpbgobfaaW.PrintWords Go.Proofs.YtdjdkngpbgobfaaW.PrintLast Go.Proofs.Ytdjdkngpbgobfaa.Lib Go.Proofs.Ytdjdkngpbgobfaa.Opens
set_option linter.unusedVariables false
set_option linter.unusedSimpArgs false
namespace FnExactIsJournalPf
theorem szPageS_eq (l : List S79) (a : Int) (hl : l.length ≤ maxLen) (h0 : 0 ≤ a) (h1 : a ≤ 1048576) : laws_szPageS.f l a = some (if a - (l.length : Int) < 0 then -1 else a - (l.length : Int)) := by
  have h : wrap64 (a - (l.length : Int)) = a - (l.length : Int) := wrap_id (by unfold maxLen at hl; omega) (by omega)
  simp only [laws_szPageS.f, h]
  split <;> rfl
def cvPage (x : S79) : S44 := ⟨x.f0, x.f1, x.f2, x.f3⟩
theorem toPageS_ev (l : List S79) (hl : l.length ≤ 1048576) : Ev (fun k => laws_toPageS.f k l) (l.map cvPage) := by
  have h := map_loop (fun k out i => laws_toPageS.l0 k l out i) l cvPage z44 (by omega)
    (fun k out => by simp only [laws_toPageS.l0]; rw [if_neg (by omega)])
    (fun k out i x hx ho hw => by
      have hi := lt_of_get hx
      have hr : rd_T79 l (i : Int) = x := getD_of z79 hx
      simp only [laws_toPageS.l0, laws_toPage.f, Option.bind_some, hr, hw]
      rw [if_pos (by omega), if_pos (by omega), if_pos (by omega), Int.toNat_natCast]; rfl)
  refine Ev.congr (fun k => ?_) h
  simp only [laws_toPageS.f, Int.toNat_natCast]
  rw [if_pos (by omega), if_pos (by omega)]
theorem eqPage_self (a0 : Int) (a1 : Int) (a2 : Int) (a3 : Int) : laws_eqPage.f a0 a1 a2 a3 a0 a1 a2 a3 = some true := by
  simp [laws_eqPage.f]
theorem eqPageS_ev (l : List S44) (hl : l.length ≤ 4611686018427387904) : Ev (fun k => laws_eqPageS.f k l l) true := by
  have h := count_loop (fun k i => laws_eqPageS.l0 k l l i) l.length true hl
    (fun k => by simp only [laws_eqPageS.l0]; rw [if_neg (by omega)])
    (fun k i hi hw => by simp only [laws_eqPageS.l0, hw]; rw [if_pos (by omega), if_pos (by omega), if_pos (by omega)]; simp only [eqPage_self, Option.bind_some, if_true])
  refine Ev.congr (fun k => ?_) h
  simp only [laws_eqPageS.f, if_true]
theorem l1In_eq (a b c : Int) : spec_l1In.f a b c = some (decide (b ≤ a ∧ a ≤ c)) := by
  unfold spec_l1In.f
  by_cases h : a ≥ b
  · rw [if_pos h]; simp [h]
  · rw [if_neg h]; simp [show ¬ (b ≤ a) from by omega]
theorem InRange_eq (a b c : Int) : impl_InRange.f a b c = some (decide (b ≤ a ∧ a ≤ c)) := by
  unfold impl_InRange.f
  by_cases h : b ≤ a
  · rw [if_pos h]; simp [h]
  · rw [if_neg h]; simp [h]
def modM (v : Int) : Int := Int.tmod (wrap64 (Int.tmod v 2147483647 + 2147483647)) 2147483647
def hashOne (s v : Int) : Int := Int.tmod (wrap64 (wrap64 (wrap64 (s * 1000003) + modM v) + 13)) 2147483647
def stepHash : Nat → Int → Int → Int ⊕ Int := fun _ s x => .inr (hashOne s x)
def mHash (l : List Int) : Int := run stepHash id 0 11 l
theorem specMod_eq (v : Int) : spec_Mod.f v 2147483647 = some (modM v) := by
  unfold spec_Mod.f
  simp only [l1In_eq, Option.bind_some]
  rw [if_pos (by decide), if_neg (by decide)]
  rfl
theorem implMod_eq (v : Int) : impl_Mod.f v 2147483647 = some (modM v) := by
  unfold impl_Mod.f
  simp only [InRange_eq, Option.bind_some]
  rw [if_pos (by decide), if_neg (by decide)]
  rfl
theorem specHash_at (l : List Int) (hl : l.length ≤ 4611686018427387904) : ∀ k, l.length < k → spec_Hash.f k l = some (mHash l) :=
  at_loop0 (fun k s i => spec_Hash.l0 k l s i) l stepHash id hl 11
    (fun k s => by simp only [spec_Hash.l0]; rw [if_neg (by omega)]; rfl)
    (fun k s i x hx hw => by
      have hi := lt_of_get hx
      have hr : rd l (i : Int) = x := getD_of 0 hx
      simp only [spec_Hash.l0, hr, hw, specMod_eq, Option.bind_some]; rw [if_pos (by omega), if_pos (by omega)]
      rfl)
theorem implHash_at (l : List Int) (hl : l.length ≤ 4611686018427387904) : ∀ k, l.length < k → impl_Hash.f k l = some (mHash l) :=
  at_loop0 (fun k s i => impl_Hash.l0 k s l (l.length : Int) i) l stepHash id hl 11
    (fun k s => by simp only [impl_Hash.l0]; rw [if_neg (by omega)]; rfl)
    (fun k s i x hx hw => by
      have hi := lt_of_get hx
      have hr : rd l (i : Int) = x := getD_of 0 hx
      simp only [impl_Hash.l0, hr, hw, implMod_eq, Option.bind_some]; rw [if_pos (by omega), if_pos (by omega), if_pos (by omega)]
      rfl)
def mSeal (b day cell food : Int) : Int := mHash [b, day, cell, food]
theorem specSeal_at (b d c f s : Int) : ∀ k, 4 < k → spec_l21Seal.f k b d c f s = some (mSeal b d c f) := fun k hk => by
  simp only [spec_l21Seal.f, specHash_at [b, d, c, f] (by simp) k (by simpa using hk), Option.bind_some, mSeal]
theorem implSeal_at (b d c f s : Int) : ∀ k, 4 < k → impl_sealOf.f k b d c f s = some (mSeal b d c f) := fun k hk => by
  simp only [impl_sealOf.f, implHash_at [b, d, c, f] (by simp) k (by simpa using hk), Option.bind_some, mSeal]
def okPage (s : Int × Int) (x : S44) : Prop := (s.2 + 1 ≤ x.f0 ∧ x.f0 ≤ 10000) ∧ (0 ≤ x.f1 ∧ x.f1 ≤ 63) ∧ (0 ≤ x.f2 ∧ x.f2 ≤ 10000) ∧ x.f3 = mSeal s.1 x.f0 x.f1 x.f2
instance (s : Int × Int) (x : S44) : Decidable (okPage s x) := by unfold okPage; infer_instance
def stepJ : Nat → Int × Int → S44 → Bool ⊕ (Int × Int) := fun _ s x => if okPage s x then .inr (x.f3, x.f0) else .inl false
def mIsJournal (l : List S44) : Bool := run stepJ (fun _ => decide ((l.length : Int) ≤ 100)) 0 (0, -1) l
theorem implJ_at (l : List S44) (hl : l.length ≤ 4611686018427387904) : ∀ k, l.length + 5 < k → impl_IsJournal.f k l = some (mIsJournal l) :=
  at_loopI (fun k s i => impl_IsJournal.l0 k l s.1 s.2 l (l.length : Int) i) l stepJ _ (fun _ s => -1 ≤ s.2 ∧ s.2 ≤ 10000) hl (0, -1) ⟨by decide, by decide⟩ 5
    (fun k s _ _ => by simp only [impl_IsJournal.l0]; rw [if_neg (by omega)])
    (fun s i x s' hI _ he => by
      simp only [stepJ] at he
      split at he
      · rename_i h
        injection he with he
        subst he
        have h1 := h.1
        exact ⟨by show -1 ≤ x.f0; omega, h1.2⟩
      · cases he)
    (fun k s i x hk hI hx hw => by
      have hi := lt_of_get hx
      have hr : rd_T44 l (i : Int) = x := getD_of z44 hx
      have hw2 : wrap64 (s.2 + 1) = s.2 + 1 := wrap_id (by omega) (by omega)
      simp only [impl_IsJournal.l0, hr, hw, hw2, InRange_eq, implSeal_at _ _ _ _ _ k (by omega), Option.bind_some, decide_eq_true_eq]; rw [if_pos (by omega), if_pos (by omega), if_pos (by omega)]
      simp only [stepJ]
      by_cases c1 : s.2 + 1 ≤ x.f0 ∧ x.f0 ≤ 10000
      · by_cases c2 : 0 ≤ x.f1 ∧ x.f1 ≤ 63
        · by_cases c3 : 0 ≤ x.f2 ∧ x.f2 ≤ 10000
          · rw [if_pos c1, if_pos c2, if_pos c3]
            by_cases c4 : x.f3 = mSeal s.1 x.f0 x.f1 x.f2
            · rw [if_pos c4, if_pos (show okPage s x from ⟨c1, c2, c3, c4⟩)]; rfl
            · rw [if_neg c4, if_neg (show ¬ okPage s x from fun h => c4 h.2.2.2)]; rfl
          · rw [if_pos c1, if_pos c2, if_neg c3, if_neg (show ¬ okPage s x from fun h => c3 h.2.2.1)]; rfl
        · rw [if_pos c1, if_neg c2, if_neg (show ¬ okPage s x from fun h => c2 h.2.1)]; rfl
      · rw [if_neg c1, if_neg (show ¬ okPage s x from fun h => c1 h.1)]; rfl)
theorem run_false {σ α : Type} (f : Nat → σ → α → Bool ⊕ σ) (h : ∀ i s x r, f i s x = .inl r → r = false) : ∀ (t : List α) (i : Nat) (s : σ), run f (fun _ => false) i s t = false
  | [], _, _ => rfl
  | x :: t, i, s => by
    cases hf : f i s x with
    | inl r => rw [run_inl hf]; exact h i s x r hf
    | inr s' => rw [run_inr hf]; exact run_false f h t (i + 1) s'
theorem stepJ_inl (i : Nat) (s : Int × Int) (x : S44) (r : Bool) (h : stepJ i s x = .inl r) : r = false := by
  simp only [stepJ] at h
  split at h
  · cases h
  · injection h with h
    exact h.symm
theorem specJ_down (l : List S44) (hl : l.length ≤ 100) : ∀ (t d : List S44) (s day : Int), l = d ++ t → (d.length = 0 ∧ day = -1 ∨ 0 < d.length ∧ (l.getD (d.length - 1) z44).f0 = day ∧ 0 ≤ day) →
    Ev (fun k => spec_IsJournal.l0 k l s (d.length : Int)) (run stepJ (fun _ => decide ((l.length : Int) ≤ 100)) d.length (s, day) t)
  | [], d, s, day, h, _ => by
    have hlen : l.length = d.length := by rw [h]; simp
    refine Ev.step (f := fun k => spec_IsJournal.j1 k l s (d.length : Int) false) (fun k => ?_) (Ev.step (f := fun _ => some (decide ((l.length : Int) ≤ 100))) (fun k => ?_) (Ev.now _))
    · simp only [spec_IsJournal.l0]
      rw [if_neg (by omega)]
    · simp only [spec_IsJournal.j1, Bool.false_eq_true, if_false]
  | x :: t, d, s, day, h, hday => by
    have hlen : l.length = d.length + (t.length + 1) := by rw [h]; simp
    have hx : l[d.length]? = some x := by rw [h]; simp
    have hr : rd_T44 l (d.length : Int) = x := getD_of z44 hx
    refine Ev.step (f := fun k => spec_IsJournal.j1 k l s (d.length : Int) true) (fun k => ?_) ?_
    · simp only [spec_IsJournal.l0]
      rw [if_pos (by omega), decide_eq_true (by omega)]
    have hbad : ∀ {k : Nat}, some false = (fun (_ : Nat) => some false) k := rfl
    refine Ev.step (f := fun k => (spec_l21Seal.f k s x.f0 x.f1 x.f2 x.f3).bind fun t128 => (spec_l1In.f x.f0 0 10000).bind fun t129 => if t129 = true then (spec_l1In.f x.f1 0 63).bind fun t130 => if t130 = true then (spec_l1In.f x.f2 0 10000).bind fun t131 => if t131 = true then if x.f3 = t128 then if (d.length : Int) > 0 then if 0 ≤ wrap64 ((d.length : Int) - 1) then if wrap64 ((d.length : Int) - 1) < (l.length : Int) then if (rd_T44 l (wrap64 ((d.length : Int) - 1))).f0 ≥ x.f0 then some false else spec_IsJournal.l0 k l t128 (wrap64 ((d.length : Int) + 1)) else none else none else spec_IsJournal.l0 k l t128 (wrap64 ((d.length : Int) + 1)) else some false else some false else some false else some false) (fun k => ?_) ?_
    · simp only [spec_IsJournal.j1, hr, if_true]
      rw [if_pos (by omega), if_pos (by omega)]
    refine Ev.bind (ev_at (specSeal_at s x.f0 x.f1 x.f2 x.f3)) ?_
    simp only [l1In_eq, Option.bind_some, decide_eq_true_eq]
    have stop : (¬ okPage (s, day) x) → run stepJ (fun _ => decide ((l.length : Int) ≤ 100)) d.length (s, day) (x :: t) = false := fun hn => run_inl (if_neg hn)
    by_cases c1 : 0 ≤ x.f0 ∧ x.f0 ≤ 10000
    · simp only [if_pos c1]
      by_cases c2 : 0 ≤ x.f1 ∧ x.f1 ≤ 63
      · simp only [if_pos c2]
        by_cases c3 : 0 ≤ x.f2 ∧ x.f2 ≤ 10000
        · simp only [if_pos c3]
          by_cases c4 : x.f3 = mSeal s x.f0 x.f1 x.f2
          · simp only [if_pos c4]
            have ih := specJ_down l hl t (d ++ [x]) x.f3 x.f0 (by rw [h]; simp) (.inr ⟨by simp, by simp [List.getD_eq_getElem?_getD, hx], c1.1⟩)
            rw [List.length_append, List.length_singleton, show ((d.length + 1 : Nat) : Int) = (d.length : Int) + 1 from by omega, c4] at ih
            simp only [wrapi d.length (by omega)]
            rcases hday with ⟨h0, hd⟩ | ⟨h0, hd, hd0⟩
            · simp only [show ¬ ((d.length : Int) > 0) from by omega, if_false]
              rw [run_inr (show stepJ d.length (s, day) x = .inr (x.f3, x.f0) from if_pos ⟨⟨by show day + 1 ≤ x.f0; omega, c1.2⟩, c2, c3, c4⟩), c4]
              exact ih
            · have e1 : rd_T44 l ((d.length - 1 : Nat) : Int) = l.getD (d.length - 1) z44 := getD_nat ..
              simp only [show ((d.length : Int) > 0) from by omega, if_true, wrapd d.length h0 (by omega), show (0 : Int) ≤ ((d.length - 1 : Nat) : Int) from by omega, show ((d.length - 1 : Nat) : Int) < (l.length : Int) from by omega, e1, hd]
              by_cases c5 : day ≥ x.f0
              · simp only [if_pos c5]
                rw [stop (fun h => by have := h.1.1; simp only at this; omega)]
                exact Ev.now _
              · simp only [if_neg c5]
                rw [run_inr (show stepJ d.length (s, day) x = .inr (x.f3, x.f0) from if_pos ⟨⟨by show day + 1 ≤ x.f0; omega, c1.2⟩, c2, c3, c4⟩), c4]
                exact ih
          · simp only [if_neg c4]
            rw [stop (fun h => c4 h.2.2.2)]
            exact Ev.now _
        · simp only [if_neg c3]
          rw [stop (fun h => c3 h.2.2.1)]
          exact Ev.now _
      · simp only [if_neg c2]
        rw [stop (fun h => c2 h.2.1)]
        exact Ev.now _
    · simp only [if_neg c1]
      rw [stop (fun h => c1 ⟨by have := h.1.1; simp only at this; rcases hday with ⟨_, hd⟩ | ⟨_, _, hd⟩ <;> omega, h.1.2⟩)]
      exact Ev.now _
theorem specJ_ev (l : List S44) (hl : l.length ≤ 4611686018427387904) : Ev (fun k => spec_IsJournal.f k l) (mIsJournal l) := by
  by_cases h : l.length ≤ 100
  · exact specJ_down l h l [] 0 (-1) rfl (.inl ⟨rfl, rfl⟩)
  · have e : mIsJournal l = false := by
      unfold mIsJournal
      rw [show (fun _ : Int × Int => decide ((l.length : Int) ≤ 100)) = fun _ => false from funext fun _ => decide_eq_false (by omega)]
      exact run_false stepJ stepJ_inl l 0 (0, -1)
    rw [e]
    unfold spec_IsJournal.f
    refine Ev.step (f := fun k => spec_IsJournal.j1 k l 0 0 false) (fun k => ?_) (Ev.step (f := fun _ => some false) (fun k => ?_) (Ev.now _))
    · simp only [spec_IsJournal.l0]
      rw [if_pos (by omega), decide_eq_false (by omega)]
    · simp only [spec_IsJournal.j1, Bool.false_eq_true, if_false]
      rw [decide_eq_false (by omega)]
theorem implJ_ev (l : List S44) (hl : l.length ≤ 4611686018427387904) : Ev (fun k => impl_IsJournal.f k l) (mIsJournal l) := ev_at (implJ_at l hl)
end FnExactIsJournalPf
open FnExactIsJournalPf
theorem FnExactIsJournal : ∀ (l0 : List S79) , l0.length ≤ maxLen → (∀ y ∈ l0, (I64 y.f0 ∧ I64 y.f1 ∧ I64 y.f2 ∧ I64 y.f3)) →  ∃ k, laws_FnExactIsJournal.f k l0  = some true := by
  intro l0  hl _ 
  apply Ev.rounds (g := fun k => laws_FnExactIsJournal.f k l0 )
  unfold laws_FnExactIsJournal.f
  simp only [szPageS_eq l0 1048576 hl (by omega) (by omega), Option.bind_some]
  by_cases h : (1048576 : Int) - (l0.length : Int) < 0
  · simp only [if_pos h]; exact Ev.now _
  · simp only [if_neg h]
    have hlen : (l0.map cvPage).length = l0.length := List.length_map ..
    refine Ev.bind (toPageS_ev l0 (by omega)) ?_
    refine Ev.bind (specJ_ev _  (by omega)) ?_
    refine Ev.bind (toPageS_ev l0 (by omega)) ?_
    refine Ev.bind (implJ_ev _  (by omega)) ?_
    simp only [bne_self_eq_false, Bool.false_eq_true, if_false]
    refine Ev.bind (toPageS_ev l0 (by omega)) ?_
    refine Ev.bind (eqPageS_ev _ (by omega)) ?_
    exact Ev.now _
end Go.Proofs.Ytdjdkngpbgobfaa.Pure
