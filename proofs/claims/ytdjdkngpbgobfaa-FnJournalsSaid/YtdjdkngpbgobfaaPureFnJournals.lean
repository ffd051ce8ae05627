/- FnJournals: the pure statement of the law, over the printed functions. No condition beyond the statement's own. -/
import Derived.Test.YtdjdkngpbgobfaaSFnJournalsx11
import Derived.Test.YtdjdkngpbgobfaaLib
import Derived.Test.YtdjdkngpbgobfaaOpens
namespace Go.Proofs.Ytdjdkngpbgobfaa.Pure
open Go.RowKit Go.Proofs.Ytdjdkngpbgobfaa.PFnJournals Go.Proofs.YtdjdkngpbgobfaaW.PrintWords Go.Proofs.YtdjdkngpbgobfaaW.PrintLast Go.Proofs.Ytdjdkngpbgobfaa.Lib Go.Proofs.Ytdjdkngpbgobfaa.Opens
set_option linter.unusedVariables false
set_option linter.unusedSimpArgs false
namespace FnJournalsPf
theorem l1In_eq (a b c : Int) : spec_l1In.f a b c = some (decide (b ≤ a ∧ a ≤ c)) := by
  unfold spec_l1In.f
  by_cases h : a ≥ b
  · rw [if_pos h]; simp [h]
  · rw [if_neg h]; simp [show ¬ (b ≤ a) from by omega]
theorem InRange_eq (a b c : Int) : impl_InRange.f a b c = some (decide (b ≤ a ∧ a ≤ c)) := by
  unfold impl_InRange.f
  by_cases h : b ≤ a
  · rw [if_pos h]; simp [h]
  · rw [if_neg h]; simp [h]
def modM (v : Int) : Int := Int.tmod (wrap64 (Int.tmod v 2147483647 + 2147483647)) 2147483647
def hashOne (s v : Int) : Int := Int.tmod (wrap64 (wrap64 (wrap64 (s * 1000003) + modM v) + 13)) 2147483647
def stepHash : Nat → Int → Int → Int ⊕ Int := fun _ s x => .inr (hashOne s x)
def mHash (l : List Int) : Int := run stepHash id 0 11 l
theorem specMod_eq (v : Int) : spec_Mod.f v 2147483647 = some (modM v) := by
  unfold spec_Mod.f
  simp only [l1In_eq, Option.bind_some]
  rw [if_pos (by decide), if_neg (by decide)]
  rfl
theorem implMod_eq (v : Int) : impl_Mod.f v 2147483647 = some (modM v) := by
  unfold impl_Mod.f
  simp only [InRange_eq, Option.bind_some]
  rw [if_pos (by decide), if_neg (by decide)]
  rfl
theorem specHash_at (l : List Int) (hl : l.length ≤ 4611686018427387904) : ∀ k, l.length < k → spec_Hash.f k l = some (mHash l) :=
  at_loop0 (fun k s i => spec_Hash.l0 k l s i) l stepHash id hl 11
    (fun k s => by simp only [spec_Hash.l0]; rw [if_neg (by omega)]; rfl)
    (fun k s i x hx hw => by
      have hi := lt_of_get hx
      have hr : rd l (i : Int) = x := getD_of 0 hx
      simp only [spec_Hash.l0, hr, hw, specMod_eq, Option.bind_some]; rw [if_pos (by omega), if_pos (by omega)]
      rfl)
theorem implHash_at (l : List Int) (hl : l.length ≤ 4611686018427387904) : ∀ k, l.length < k → impl_Hash.f k l = some (mHash l) :=
  at_loop0 (fun k s i => impl_Hash.l0 k s l (l.length : Int) i) l stepHash id hl 11
    (fun k s => by simp only [impl_Hash.l0]; rw [if_neg (by omega)]; rfl)
    (fun k s i x hx hw => by
      have hi := lt_of_get hx
      have hr : rd l (i : Int) = x := getD_of 0 hx
      simp only [impl_Hash.l0, hr, hw, implMod_eq, Option.bind_some]; rw [if_pos (by omega), if_pos (by omega), if_pos (by omega)]
      rfl)
def mSeal (b day cell food : Int) : Int := mHash [b, day, cell, food]
theorem specSeal_at (b d c f s : Int) : ∀ k, 4 < k → spec_l21Seal.f k b d c f s = some (mSeal b d c f) := fun k hk => by
  simp only [spec_l21Seal.f, specHash_at [b, d, c, f] (by simp) k (by simpa using hk), Option.bind_some, mSeal]
theorem implSeal_at (b d c f s : Int) : ∀ k, 4 < k → impl_sealOf.f k b d c f s = some (mSeal b d c f) := fun k hk => by
  simp only [impl_sealOf.f, implHash_at [b, d, c, f] (by simp) k (by simpa using hk), Option.bind_some, mSeal]
def okPage (s : Int × Int) (x : S44) : Prop := (s.2 + 1 ≤ x.f0 ∧ x.f0 ≤ 10000) ∧ (0 ≤ x.f1 ∧ x.f1 ≤ 63) ∧ (0 ≤ x.f2 ∧ x.f2 ≤ 10000) ∧ x.f3 = mSeal s.1 x.f0 x.f1 x.f2
instance (s : Int × Int) (x : S44) : Decidable (okPage s x) := by unfold okPage; infer_instance
def stepJ : Nat → Int × Int → S44 → Bool ⊕ (Int × Int) := fun _ s x => if okPage s x then .inr (x.f3, x.f0) else .inl false
def mIsJournal (l : List S44) : Bool := run stepJ (fun _ => decide ((l.length : Int) ≤ 100)) 0 (0, -1) l
theorem implJ_at (l : List S44) (hl : l.length ≤ 4611686018427387904) : ∀ k, l.length + 5 < k → impl_IsJournal.f k l = some (mIsJournal l) :=
  at_loopI (fun k s i => impl_IsJournal.l0 k l s.1 s.2 l (l.length : Int) i) l stepJ _ (fun _ s => -1 ≤ s.2 ∧ s.2 ≤ 10000) hl (0, -1) ⟨by decide, by decide⟩ 5
    (fun k s _ _ => by simp only [impl_IsJournal.l0]; rw [if_neg (by omega)])
    (fun s i x s' hI _ he => by
      simp only [stepJ] at he
      split at he
      · rename_i h
        injection he with he
        subst he
        have h1 := h.1
        exact ⟨by show -1 ≤ x.f0; omega, h1.2⟩
      · cases he)
    (fun k s i x hk hI hx hw => by
      have hi := lt_of_get hx
      have hr : rd_T44 l (i : Int) = x := getD_of z44 hx
      have hw2 : wrap64 (s.2 + 1) = s.2 + 1 := wrap_id (by omega) (by omega)
      simp only [impl_IsJournal.l0, hr, hw, hw2, InRange_eq, implSeal_at _ _ _ _ _ k (by omega), Option.bind_some, decide_eq_true_eq]; rw [if_pos (by omega), if_pos (by omega), if_pos (by omega)]
      simp only [stepJ]
      by_cases c1 : s.2 + 1 ≤ x.f0 ∧ x.f0 ≤ 10000
      · by_cases c2 : 0 ≤ x.f1 ∧ x.f1 ≤ 63
        · by_cases c3 : 0 ≤ x.f2 ∧ x.f2 ≤ 10000
          · rw [if_pos c1, if_pos c2, if_pos c3]
            by_cases c4 : x.f3 = mSeal s.1 x.f0 x.f1 x.f2
            · rw [if_pos c4, if_pos (show okPage s x from ⟨c1, c2, c3, c4⟩)]; rfl
            · rw [if_neg c4, if_neg (show ¬ okPage s x from fun h => c4 h.2.2.2)]; rfl
          · rw [if_pos c1, if_pos c2, if_neg c3, if_neg (show ¬ okPage s x from fun h => c3 h.2.2.1)]; rfl
        · rw [if_pos c1, if_neg c2, if_neg (show ¬ okPage s x from fun h => c2 h.2.1)]; rfl
      · rw [if_neg c1, if_neg (show ¬ okPage s x from fun h => c1 h.1)]; rfl)
theorem run_false {σ α : Type} (f : Nat → σ → α → Bool ⊕ σ) (h : ∀ i s x r, f i s x = .inl r → r = false) : ∀ (t : List α) (i : Nat) (s : σ), run f (fun _ => false) i s t = false
  | [], _, _ => rfl
  | x :: t, i, s => by
    cases hf : f i s x with
    | inl r => rw [run_inl hf]; exact h i s x r hf
    | inr s' => rw [run_inr hf]; exact run_false f h t (i + 1) s'
theorem stepJ_inl (i : Nat) (s : Int × Int) (x : S44) (r : Bool) (h : stepJ i s x = .inl r) : r = false := by
  simp only [stepJ] at h
  split at h
  · cases h
  · injection h with h
    exact h.symm
theorem specJ_down (l : List S44) (hl : l.length ≤ 100) : ∀ (t d : List S44) (s day : Int), l = d ++ t → (d.length = 0 ∧ day = -1 ∨ 0 < d.length ∧ (l.getD (d.length - 1) z44).f0 = day ∧ 0 ≤ day) →
    Ev (fun k => spec_IsJournal.l0 k l s (d.length : Int)) (run stepJ (fun _ => decide ((l.length : Int) ≤ 100)) d.length (s, day) t)
  | [], d, s, day, h, _ => by
    have hlen : l.length = d.length := by rw [h]; simp
    refine Ev.step (f := fun k => spec_IsJournal.j1 k l s (d.length : Int) false) (fun k => ?_) (Ev.step (f := fun _ => some (decide ((l.length : Int) ≤ 100))) (fun k => ?_) (Ev.now _))
    · simp only [spec_IsJournal.l0]
      rw [if_neg (by omega)]
    · simp only [spec_IsJournal.j1, Bool.false_eq_true, if_false]
  | x :: t, d, s, day, h, hday => by
    have hlen : l.length = d.length + (t.length + 1) := by rw [h]; simp
    have hx : l[d.length]? = some x := by rw [h]; simp
    have hr : rd_T44 l (d.length : Int) = x := getD_of z44 hx
    refine Ev.step (f := fun k => spec_IsJournal.j1 k l s (d.length : Int) true) (fun k => ?_) ?_
    · simp only [spec_IsJournal.l0]
      rw [if_pos (by omega), decide_eq_true (by omega)]
    have hbad : ∀ {k : Nat}, some false = (fun (_ : Nat) => some false) k := rfl
    refine Ev.step (f := fun k => (spec_l21Seal.f k s x.f0 x.f1 x.f2 x.f3).bind fun t128 => (spec_l1In.f x.f0 0 10000).bind fun t129 => if t129 = true then (spec_l1In.f x.f1 0 63).bind fun t130 => if t130 = true then (spec_l1In.f x.f2 0 10000).bind fun t131 => if t131 = true then if x.f3 = t128 then if (d.length : Int) > 0 then if 0 ≤ wrap64 ((d.length : Int) - 1) then if wrap64 ((d.length : Int) - 1) < (l.length : Int) then if (rd_T44 l (wrap64 ((d.length : Int) - 1))).f0 ≥ x.f0 then some false else spec_IsJournal.l0 k l t128 (wrap64 ((d.length : Int) + 1)) else none else none else spec_IsJournal.l0 k l t128 (wrap64 ((d.length : Int) + 1)) else some false else some false else some false else some false) (fun k => ?_) ?_
    · simp only [spec_IsJournal.j1, hr, if_true]
      rw [if_pos (by omega), if_pos (by omega)]
    refine Ev.bind (ev_at (specSeal_at s x.f0 x.f1 x.f2 x.f3)) ?_
    simp only [l1In_eq, Option.bind_some, decide_eq_true_eq]
    have stop : (¬ okPage (s, day) x) → run stepJ (fun _ => decide ((l.length : Int) ≤ 100)) d.length (s, day) (x :: t) = false := fun hn => run_inl (if_neg hn)
    by_cases c1 : 0 ≤ x.f0 ∧ x.f0 ≤ 10000
    · simp only [if_pos c1]
      by_cases c2 : 0 ≤ x.f1 ∧ x.f1 ≤ 63
      · simp only [if_pos c2]
        by_cases c3 : 0 ≤ x.f2 ∧ x.f2 ≤ 10000
        · simp only [if_pos c3]
          by_cases c4 : x.f3 = mSeal s x.f0 x.f1 x.f2
          · simp only [if_pos c4]
            have ih := specJ_down l hl t (d ++ [x]) x.f3 x.f0 (by rw [h]; simp) (.inr ⟨by simp, by simp [List.getD_eq_getElem?_getD, hx], c1.1⟩)
            rw [List.length_append, List.length_singleton, show ((d.length + 1 : Nat) : Int) = (d.length : Int) + 1 from by omega, c4] at ih
            simp only [wrapi d.length (by omega)]
            rcases hday with ⟨h0, hd⟩ | ⟨h0, hd, hd0⟩
            · simp only [show ¬ ((d.length : Int) > 0) from by omega, if_false]
              rw [run_inr (show stepJ d.length (s, day) x = .inr (x.f3, x.f0) from if_pos ⟨⟨by show day + 1 ≤ x.f0; omega, c1.2⟩, c2, c3, c4⟩), c4]
              exact ih
            · have e1 : rd_T44 l ((d.length - 1 : Nat) : Int) = l.getD (d.length - 1) z44 := getD_nat ..
              simp only [show ((d.length : Int) > 0) from by omega, if_true, wrapd d.length h0 (by omega), show (0 : Int) ≤ ((d.length - 1 : Nat) : Int) from by omega, show ((d.length - 1 : Nat) : Int) < (l.length : Int) from by omega, e1, hd]
              by_cases c5 : day ≥ x.f0
              · simp only [if_pos c5]
                rw [stop (fun h => by have := h.1.1; simp only at this; omega)]
                exact Ev.now _
              · simp only [if_neg c5]
                rw [run_inr (show stepJ d.length (s, day) x = .inr (x.f3, x.f0) from if_pos ⟨⟨by show day + 1 ≤ x.f0; omega, c1.2⟩, c2, c3, c4⟩), c4]
                exact ih
          · simp only [if_neg c4]
            rw [stop (fun h => c4 h.2.2.2)]
            exact Ev.now _
        · simp only [if_neg c3]
          rw [stop (fun h => c3 h.2.2.1)]
          exact Ev.now _
      · simp only [if_neg c2]
        rw [stop (fun h => c2 h.2.1)]
        exact Ev.now _
    · simp only [if_neg c1]
      rw [stop (fun h => c1 ⟨by have := h.1.1; simp only at this; rcases hday with ⟨_, hd⟩ | ⟨_, _, hd⟩ <;> omega, h.1.2⟩)]
      exact Ev.now _
theorem specJ_ev (l : List S44) (hl : l.length ≤ 4611686018427387904) : Ev (fun k => spec_IsJournal.f k l) (mIsJournal l) := by
  by_cases h : l.length ≤ 100
  · exact specJ_down l h l [] 0 (-1) rfl (.inl ⟨rfl, rfl⟩)
  · have e : mIsJournal l = false := by
      unfold mIsJournal
      rw [show (fun _ : Int × Int => decide ((l.length : Int) ≤ 100)) = fun _ => false from funext fun _ => decide_eq_false (by omega)]
      exact run_false stepJ stepJ_inl l 0 (0, -1)
    rw [e]
    unfold spec_IsJournal.f
    refine Ev.step (f := fun k => spec_IsJournal.j1 k l 0 0 false) (fun k => ?_) (Ev.step (f := fun _ => some false) (fun k => ?_) (Ev.now _))
    · simp only [spec_IsJournal.l0]
      rw [if_pos (by omega), decide_eq_false (by omega)]
    · simp only [spec_IsJournal.j1, Bool.false_eq_true, if_false]
      rw [decide_eq_false (by omega)]
theorem implJ_ev (l : List S44) (hl : l.length ≤ 4611686018427387904) : Ev (fun k => impl_IsJournal.f k l) (mIsJournal l) := ev_at (implJ_at l hl)
def mWrite (l : List S44) (day cell food : Int) : List S44 × Bool :=
  let s := if 0 < l.length then (l.getD (l.length - 1) z44).f3 else 0
  if mIsJournal (l ++ [⟨day, cell, food, mSeal s day cell food⟩]) = true then (l ++ [⟨day, cell, food, mSeal s day cell food⟩], true) else (l, false)
theorem mWrite_len (l : List S44) (d c f : Int) : (mWrite l d c f).1.length ≤ l.length + 1 := by
  simp only [mWrite]
  generalize (if 0 < l.length then (l.getD (l.length - 1) z44).f3 else 0) = s
  split <;> simp
theorem specWrite_j (l : List S44) (s d c f : Int) (hl : l.length ≤ 2097152) : Ev (fun k => spec_WritePage.j0 k l s d c f 0) (if mIsJournal (l ++ [⟨d, c, f, mSeal s d c f⟩]) = true then (l ++ [⟨d, c, f, mSeal s d c f⟩], true) else (l, false)) := by
  have h1 : (l ++ [(⟨d, c, f, mSeal s d c f⟩ : S44)]).length ≤ 4611686018427387904 := by simp; omega
  have h2 : ([] ++ l : List S44).length + [(⟨d, c, f, mSeal s d c f⟩ : S44)].length < 4398046511104 := by simp; omega
  refine Ev.step (f := fun k => (spec_l21Seal.f k s d c f 0).bind fun t135 => ((some (([] : List (S44)) : List (S44))).bind fun y136 => (if y136.length + l.length < 4398046511104 then ((some (y136 ++ l : List (S44))).bind fun y139 => ((some (([(⟨d, c, f, t135⟩ : S44)] : List (S44)) : List (S44))).bind fun y142 => (if y139.length + y142.length < 4398046511104 then ((some (y139 ++ y142 : List (S44))).bind fun y145 => ((spec_IsJournal.f k y145).bind fun t148 => (if t148 = true then (some (y145, true)) else ((some (([] : List (S44)) : List (S44))).bind fun y149 => (if y149.length + l.length < 4398046511104 then (some ((y149 ++ l), false)) else (none)))))) else (none)))) else (none)))) (fun k => by simp only [spec_WritePage.j0]) ?_
  refine Ev.bind (ev_at (specSeal_at s d c f 0)) ?_
  have h3 : ([] : List S44).length + l.length < 4398046511104 := by simp; omega
  simp only [Option.bind_some, h2, h3, if_true]
  refine Ev.bind (by simpa only [List.nil_append] using specJ_ev _ h1) ?_
  by_cases h : mIsJournal (l ++ [(⟨d, c, f, mSeal s d c f⟩ : S44)]) = true
  · simp only [h, if_true, List.nil_append]; exact Ev.now _
  · simp only [h, if_false, List.nil_append]; exact Ev.now _
theorem implWrite_j (l : List S44) (s d c f : Int) (hl : l.length ≤ 2097152) : Ev (fun k => impl_WritePage.j0 k l s d c f 0) (if mIsJournal (l ++ [⟨d, c, f, mSeal s d c f⟩]) = true then (l ++ [⟨d, c, f, mSeal s d c f⟩], true) else (l, false)) := by
  have h1 : (l ++ [(⟨d, c, f, mSeal s d c f⟩ : S44)]).length ≤ 4611686018427387904 := by simp; omega
  have h2 : ([] ++ l : List S44).length + [(⟨d, c, f, mSeal s d c f⟩ : S44)].length < 4398046511104 := by simp; omega
  refine Ev.step (f := fun k => (impl_sealOf.f k s d c f 0).bind fun t135 => ((some (([] : List (S44)) : List (S44))).bind fun y136 => (if y136.length + l.length < 4398046511104 then ((some (y136 ++ l : List (S44))).bind fun y139 => ((some (([(⟨d, c, f, t135⟩ : S44)] : List (S44)) : List (S44))).bind fun y142 => (if y139.length + y142.length < 4398046511104 then ((some (y139 ++ y142 : List (S44))).bind fun y145 => ((impl_IsJournal.f k y145).bind fun t148 => (if t148 = true then (some (y145, true)) else ((some (([] : List (S44)) : List (S44))).bind fun y149 => (if y149.length + l.length < 4398046511104 then (some ((y149 ++ l), false)) else (none)))))) else (none)))) else (none)))) (fun k => by simp only [impl_WritePage.j0]) ?_
  refine Ev.bind (ev_at (implSeal_at s d c f 0)) ?_
  have h3 : ([] : List S44).length + l.length < 4398046511104 := by simp; omega
  simp only [Option.bind_some, h2, h3, if_true]
  refine Ev.bind (by simpa only [List.nil_append] using implJ_ev _ h1) ?_
  by_cases h : mIsJournal (l ++ [(⟨d, c, f, mSeal s d c f⟩ : S44)]) = true
  · simp only [h, if_true, List.nil_append]; exact Ev.now _
  · simp only [h, if_false, List.nil_append]; exact Ev.now _
theorem specWrite_ev (l : List S44) (d c f : Int) (hl : l.length ≤ 2097152) : Ev (fun k => spec_WritePage.f k l d c f) (mWrite l d c f) := by
  unfold spec_WritePage.f mWrite
  by_cases h : 0 < l.length
  · have e1 : rd_T44 l ((l.length - 1 : Nat) : Int) = l.getD (l.length - 1) z44 := getD_nat ..
    simp only [show (l.length : Int) > 0 from by omega, if_true, wrapd l.length h (by omega), e1, h]
    simp only [show (0 : Int) ≤ ((l.length - 1 : Nat) : Int) from by omega, show ((l.length - 1 : Nat) : Int) < (l.length : Int) from by omega, if_true]
    exact specWrite_j l _ d c f hl
  · simp only [show ¬ (l.length : Int) > 0 from by omega, if_false, h]
    exact specWrite_j l _ d c f hl
theorem implWrite_ev (l : List S44) (d c f : Int) (hl : l.length ≤ 2097152) : Ev (fun k => impl_WritePage.f k l d c f) (mWrite l d c f) := by
  unfold impl_WritePage.f mWrite
  by_cases h : 0 < l.length
  · have e1 : rd_T44 l ((l.length - 1 : Nat) : Int) = l.getD (l.length - 1) z44 := getD_nat ..
    simp only [show (l.length : Int) > 0 from by omega, if_true, wrapd l.length h (by omega), e1, h]
    simp only [show (0 : Int) ≤ ((l.length - 1 : Nat) : Int) from by omega, show ((l.length - 1 : Nat) : Int) < (l.length : Int) from by omega, if_true]
    exact implWrite_j l _ d c f hl
  · simp only [show ¬ (l.length : Int) > 0 from by omega, if_false, h]
    exact implWrite_j l _ d c f hl
def mEaten (l : List S44) (i k : Int) : Int := if mIsJournal l = true ∧ (0 ≤ i ∧ i ≤ (l.length : Int) - 1) ∧ (0 ≤ k ∧ k ≤ (l.length : Int) - 1) then wrap64 ((rd_T44 l i).f2 - (rd_T44 l k).f2) else 0
theorem implE_ev (l : List S44) (a b : Int) (hl : l.length ≤ 1048576) : Ev (fun k => impl_EatenBetween.f k l a b) (mEaten l a b) := by
  unfold impl_EatenBetween.f mEaten
  have hw : wrap64 ((l.length : Int) - 1) = (l.length : Int) - 1 := wrap_id (by omega) (by omega)
  refine Ev.bind (implJ_ev l (by omega)) ?_
  simp only [InRange_eq, Option.bind_some, decide_eq_true_eq, hw]
  cases mIsJournal l with
  | false => simp; exact Ev.now _
  | true =>
    by_cases c1 : 0 ≤ a ∧ a ≤ (l.length : Int) - 1
    · by_cases c2 : 0 ≤ b ∧ b ≤ (l.length : Int) - 1
      · simp only [if_true, c1, c2, and_self, show a < (l.length : Int) from by omega, show b < (l.length : Int) from by omega]
        exact Ev.now _
      · simp only [if_pos c1, if_neg c2, if_true]
        rw [if_neg (fun h => c2 h.2.2)]
        exact Ev.now _
    · simp only [if_neg c1, if_true]
      rw [if_neg (fun h => c1 h.2.1)]
      exact Ev.now _
def stepCO (day : Int) : Nat → Int → S44 → Int ⊕ Int := fun _ s x => .inr (if x.f0 ≤ day then x.f1 else s)
def mCellOn (l : List S44) (day : Int) : Int := if mIsJournal l = true then run (stepCO day) id 0 (-1) l else -1
theorem implCO_ev (l : List S44) (day : Int) (hl : l.length ≤ 1048576) : Ev (fun k => impl_CellOn.f k l day) (mCellOn l day) := by
  have h := at_loop (fun k s i => impl_CellOn.l0 k l day s l (l.length : Int) i) l (fun i s x => if mIsJournal l = true then stepCO day i s x else .inr s) id (by omega) (-1) (l.length + 6)
    (fun k s _ => by simp only [impl_CellOn.l0]; rw [if_neg (by omega)]; rfl)
    (fun k s i x hk hx hw => by
      have hi := lt_of_get hx
      have hr : rd_T44 l (i : Int) = x := getD_of z44 hx
      simp only [impl_CellOn.l0, hr, hw, implJ_at l (by omega) k (by omega), Option.bind_some]; rw [if_pos (by omega), if_pos (by omega), if_pos (by omega)]
      by_cases c : mIsJournal l = true
      · rw [if_pos c, if_pos c]
        simp only [stepCO, Sum.elim_inr]
        split <;> rfl
      · rw [if_neg c, if_neg c]
        rfl)
  have e : run (fun i s x => if mIsJournal l = true then stepCO day i s x else .inr s) id 0 (-1) l = mCellOn l day := by
    unfold mCellOn
    by_cases c : mIsJournal l = true
    · rw [if_pos c]
      simp only [if_pos c]
    · rw [if_neg c]
      simp only [if_neg c]
      have : ∀ (t : List S44) (i : Nat), run (fun (_ : Nat) (s : Int) (_ : S44) => (.inr s : Int ⊕ Int)) id i (-1) t = -1 := by
        intro t
        induction t with
        | nil => intro i; rfl
        | cons x t ih => intro i; rw [run_inr rfl]; exact ih (i + 1)
      exact this l 0
  rw [e] at h
  exact ev_at h
def stepC (b : List S44) : Nat → Unit → S44 → Int ⊕ Unit := fun i _ x => match b[i]? with
  | none => .inl (i : Int)
  | some y => if x.f3 = y.f3 then .inr () else .inl (i : Int)
def mSame (a b : List S44) : Int := run (stepC b) (fun _ => (a.length : Int)) 0 () a
theorem implSame_ev (a b : List S44) (hl : a.length ≤ 4611686018427387904) : Ev (fun k => impl_SamePages.f k a b) (mSame a b) :=
  ev_loop0 (fun k _ i => impl_SamePages.l0 k a b i) a (stepC b) (fun _ => (a.length : Int)) hl ()
    (fun k s => by simp only [impl_SamePages.l0]; rw [if_neg (by omega)])
    (fun k s i x hx hw => by
      have hi := lt_of_get hx
      have hr : rd_T44 a (i : Int) = x := getD_of z44 hx
      simp only [impl_SamePages.l0, hr, hw]; rw [if_pos (by omega)]
      simp only [stepC]
      cases hb : b[i]? with
      | none =>
        have := List.getElem?_eq_none_iff.1 hb
        rw [if_neg (by omega)]
        rfl
      | some y =>
        have hj := lt_of_get hb
        have hr' : rd_T44 b (i : Int) = y := getD_of z44 hb
        rw [if_pos (by omega), if_pos (by omega)]
        simp only [hr']
        split <;> rfl)
/-- How far two journals are the same: up to the first page whose seals differ, or the end of one. -/
def com : List S44 → List S44 → Nat
  | x :: t, y :: u => if x.f3 = y.f3 then com t u + 1 else 0
  | _, _ => 0
theorem com_comm : ∀ (a b : List S44), com a b = com b a
  | [], [] => rfl
  | [], _ :: _ => rfl
  | _ :: _, [] => rfl
  | x :: t, y :: u => by
    show (if x.f3 = y.f3 then com t u + 1 else 0) = (if y.f3 = x.f3 then com u t + 1 else 0)
    by_cases h : x.f3 = y.f3
    · rw [if_pos h, if_pos h.symm, com_comm t u]
    · rw [if_neg h, if_neg (fun e => h e.symm)]
theorem run_com (b : List S44) (n : Int) : ∀ (t d u : List S44), b = d ++ u ∨ (u = [] ∧ b.length ≤ d.length) → n = (d.length : Int) + t.length → run (stepC b) (fun _ => n) d.length () t = (d.length : Int) + com t u
  | [], d, u, _, hn => by
    rw [run_nil]
    have : com ([] : List S44) u = 0 := by cases u <;> rfl
    rw [this, hn]
    simp
  | x :: t, d, [], hb, hn => by
    have hg : b[d.length]? = none := by
      rcases hb with rfl | ⟨_, h⟩
      · simp
      · exact List.getElem?_eq_none_iff.2 h
    rw [run_inl (r := (d.length : Int)) (by simp only [stepC, hg])]
    show (d.length : Int) = (d.length : Int) + (0 : Nat)
    omega
  | x :: t, d, y :: u, hb, hn => by
    have hb : b = d ++ y :: u := by
      rcases hb with h | ⟨h, _⟩
      · exact h
      · cases h
    have hg : b[d.length]? = some y := by rw [hb]; simp
    show _ = (d.length : Int) + ((if x.f3 = y.f3 then com t u + 1 else 0 : Nat) : Int)
    by_cases h : x.f3 = y.f3
    · rw [run_inr (s' := ()) (by simp only [stepC, hg, if_pos h]), if_pos h]
      have ih := run_com b n t (d ++ [y]) u (.inl (by rw [hb]; simp)) (by rw [hn]; simp; omega)
      rw [List.length_append, List.length_singleton] at ih
      rw [ih]
      omega
    · rw [run_inl (r := (d.length : Int)) (by simp only [stepC, hg, if_neg h]), if_neg h]
      simp
theorem mSame_eq (a b : List S44) : mSame a b = (com a b : Int) := by
  have := run_com b (a.length : Int) a [] b (.inl rfl) (by simp)
  unfold mSame
  rw [List.length_nil] at this
  rw [this]
  simp
theorem com_prefix : ∀ (a b : List S44), com (a ++ b) a = a.length
  | [], b => by cases b <;> rfl
  | x :: t, b => by
    show (if x.f3 = x.f3 then com (t ++ b) t + 1 else 0) = t.length + 1
    rw [if_pos rfl, com_prefix t b]
theorem modM_of (v : Int) (h : 0 ≤ v ∧ v < 2147483647) : modM v = v := by
  unfold modM
  rw [Int.tmod_eq_emod_of_nonneg h.1, Int.emod_eq_of_lt h.1 h.2, wrap_id (by omega) (by omega), Int.tmod_eq_emod_of_nonneg (by omega)]
  omega
theorem modM_range (v : Int) : 0 ≤ modM v ∧ modM v < 2147483647 := by
  unfold modM
  have h1 : -2147483647 < Int.tmod v 2147483647 ∧ Int.tmod v 2147483647 < 2147483647 := by
    have := Int.tmod_lt_of_pos v (show (0 : Int) < 2147483647 by decide)
    have := Int.lt_tmod_of_pos v (show (0 : Int) < 2147483647 by decide)
    omega
  rw [wrap_id (by omega) (by omega), Int.tmod_eq_emod_of_nonneg (by omega)]
  omega
theorem hashOne_eq (s v : Int) (hs : 0 ≤ s ∧ s < 2147483647) : hashOne s v = (s * 1000003 + modM v + 13) % 2147483647 := by
  have hm := modM_range v
  unfold hashOne
  rw [wrap_id (n := s * 1000003) (by omega) (by omega), wrap_id (n := s * 1000003 + modM v) (by omega) (by omega), wrap_id (by omega) (by omega), Int.tmod_eq_emod_of_nonneg (by omega)]
theorem hashOne_range (s v : Int) (hs : 0 ≤ s ∧ s < 2147483647) : 0 ≤ hashOne s v ∧ hashOne s v < 2147483647 := by
  rw [hashOne_eq s v hs]
  omega
theorem mSeal_eq (b d c f : Int) : mSeal b d c f = hashOne (hashOne (hashOne (hashOne 11 b) d) c) f := rfl
/-- The seals of two pages with one seal before are told apart, where one is the page (500, 1, 1) and the other is as draws go. -/
theorem seal_apart (s d c f : Int) (hd : (0 ≤ d ∧ d ≤ 25) ∨ d = 10000) (hc : 0 ≤ c ∧ c ≤ 63) (hf : 0 ≤ f ∧ f ≤ 59) : mSeal s d c f ≠ mSeal s 500 1 1 := by
  rw [mSeal_eq, mSeal_eq]
  have h0 := hashOne_range 11 s (by omega)
  generalize hashOne 11 s = k at h0
  have a1 := hashOne_range k d h0
  have b1 := hashOne_range k 500 h0
  have a2 := hashOne_range _ c a1
  have b2 := hashOne_range _ 1 b1
  rw [hashOne_eq _ f a2, hashOne_eq _ 1 b2, hashOne_eq _ c a1, hashOne_eq _ 1 b1, hashOne_eq k d h0, hashOne_eq k 500 h0]
  rw [modM_of d (by omega), modM_of c (by omega), modM_of f (by omega), modM_of 500 (by omega), modM_of 1 (by omega)]
  clear a1 b1 a2 b2
  intro h
  have key : ∃ K : Int, (d - 500) * 1000006000009 + (c - 1) * 1000003 + (f - 1) = K * 2147483647 := by
    generalize e1 : (k * 1000003 + d + 13) % 2147483647 = x1 at h
    generalize e2 : (k * 1000003 + 500 + 13) % 2147483647 = x2 at h
    generalize e3 : (x1 * 1000003 + c + 13) % 2147483647 = y1 at h
    generalize e4 : (x2 * 1000003 + 1 + 13) % 2147483647 = y2 at h
    refine ⟨((y1 * 1000003 + f + 13) / 2147483647 - (y2 * 1000003 + 1 + 13) / 2147483647) + 1000003 * ((x1 * 1000003 + c + 13) / 2147483647 - (x2 * 1000003 + 1 + 13) / 2147483647) + 1000006000009 * ((k * 1000003 + d + 13) / 2147483647 - (k * 1000003 + 500 + 13) / 2147483647), ?_⟩
    omega
  obtain ⟨K, hK⟩ := key
  have hd' : d = 0 ∨ d = 1 ∨ d = 2 ∨ d = 3 ∨ d = 4 ∨ d = 5 ∨ d = 6 ∨ d = 7 ∨ d = 8 ∨ d = 9 ∨ d = 10 ∨ d = 11 ∨ d = 12 ∨ d = 13 ∨ d = 14 ∨ d = 15 ∨ d = 16 ∨ d = 17 ∨ d = 18 ∨ d = 19 ∨ d = 20 ∨ d = 21 ∨ d = 22 ∨ d = 23 ∨ d = 24 ∨ d = 25 ∨ d = 10000 := by omega
  have k1 : K * 2147483647 ≤ (d - 500) * 1000006000009 + 62000244 := by omega
  have k2 : (d - 500) * 1000006000009 - 1000004 ≤ K * 2147483647 := by omega
  clear h hd h0 hK
  rcases hd' with rfl | rfl | rfl | rfl | rfl | rfl | rfl | rfl | rfl | rfl | rfl | rfl | rfl | rfl | rfl | rfl | rfl | rfl | rfl | rfl | rfl | rfl | rfl | rfl | rfl | rfl | rfl <;> omega
/-! What a draw gives: that it ends, and the range of what it tells. -/
def Gets {ρ : Type} (P : ρ → Prop) (g : Nat → Option ρ) : Prop := ∃ r, P r ∧ Ev g r
theorem Gets.bind {α β : Type} {P : α → Prop} {Q : β → Prop} {f : Nat → Option α} {g : Nat → α → Option β} (hf : Gets P f) (hg : ∀ r, P r → Gets Q (fun k => g k r)) : Gets Q (fun k => (f k).bind (g k)) := by
  obtain ⟨r, hr, he⟩ := hf
  obtain ⟨s, hs, he'⟩ := hg r hr
  exact ⟨s, hs, Ev.bind he he'⟩
theorem Gets.ev {α β : Type} {P : α → Prop} {f : Nat → Option α} {g : Nat → α → Option β} {b : β} (hf : Gets P f) (hg : ∀ r, P r → Ev (fun k => g k r) b) : Ev (fun k => (f k).bind (g k)) b := by
  obtain ⟨r, hr, he⟩ := hf
  exact Ev.bind he (hg r hr)
theorem Gets.now {ρ : Type} {P : ρ → Prop} {r : ρ} (h : P r) : Gets P (fun _ => some r) := ⟨r, h, Ev.now _⟩
theorem Gets.step {ρ : Type} {P : ρ → Prop} {f g : Nat → Option ρ} (h : ∀ k, g (k + 1) = f k) (hf : Gets P f) : Gets P g := by
  obtain ⟨r, hr, he⟩ := hf
  exact ⟨r, hr, Ev.step h he⟩
theorem Gets.congr {ρ : Type} {P : ρ → Prop} {f g : Nat → Option ρ} (h : ∀ k, g k = f k) (hf : Gets P f) : Gets P g := by
  have e : g = f := funext h
  rw [e]; exact hf
theorem Gets.mono {ρ : Type} {P Q : ρ → Prop} {f : Nat → Option ρ} (h : ∀ r, P r → Q r) (hf : Gets P f) : Gets Q f := by
  obtain ⟨r, hr, he⟩ := hf
  exact ⟨r, h r hr, he⟩
def OkC (b : List Int) (i : Int) : Prop := b.length ≤ 1048576 ∧ 0 ≤ i ∧ i ≤ 1048576
theorem and255 (x : Int) : 0 ≤ Go.bits .and .i64 x 255 ∧ Go.bits .and .i64 x 255 ≤ 255 := by
  have h : ((BitVec.ofInt 64 x) &&& (BitVec.ofInt 64 255)).toNat ≤ 255 := by
    rw [BitVec.toNat_and]
    exact Nat.le_trans Nat.and_le_right (by decide)
  have e : Go.bits .and .i64 x 255 = wrap64 (((BitVec.ofInt 64 x) &&& (BitVec.ofInt 64 255)).toNat : Int) := by simp only [Go.bits, i64_w]; rfl
  rw [e, wrap_id (by omega) (by omega)]
  omega
theorem byte_ok (b : List Int) (i h : Int) (hc : OkC b i) : ∃ v i' h', spec_l1Byte.f b i h = some (v, i', h') ∧ 0 ≤ v ∧ v ≤ 255 ∧ OkC b i' := by
  obtain ⟨h1, h2, h3⟩ := hc
  unfold spec_l1Byte.f
  by_cases c : i < (b.length : Int)
  · rw [if_pos c, if_pos h2, wrap_id (n := i + 1) (by omega) (by omega)]
    exact ⟨_, _, _, rfl, (and255 _).1, (and255 _).2, h1, by omega, by omega⟩
  · rw [if_neg c]
    exact ⟨_, _, _, rfl, (and255 _).1, (and255 _).2, h1, h2, h3⟩
theorem tmod_range (a n : Int) (ha : 0 ≤ a) (hn : 0 < n) : 0 ≤ Int.tmod a n ∧ Int.tmod a n < n := by
  rw [Int.tmod_eq_emod_of_nonneg ha]
  exact ⟨Int.emod_nonneg _ (by omega), Int.emod_lt_of_pos _ hn⟩
theorem below_ok (b : List Int) (i h n : Int) (hc : OkC b i) : ∃ v i' h', spec_l1Below.f b i h n = some (v, i', h') ∧ 0 ≤ v ∧ (0 < n → v < n) ∧ OkC b i' := by
  unfold spec_l1Below.f
  by_cases c : n ≤ 0
  · rw [if_pos c]
    exact ⟨_, _, _, rfl, by omega, by omega, hc⟩
  · rw [if_neg c]
    by_cases c2 : n ≤ 256
    · obtain ⟨v, i', h', e, h0, h1, hc'⟩ := byte_ok b i h hc
      rw [if_pos c2, e]
      simp only [Option.bind_some]
      rw [if_neg (by omega)]
      have := tmod_range v n h0 (by omega)
      exact ⟨_, _, _, rfl, this.1, fun _ => this.2, hc'⟩
    · obtain ⟨v1, i1, h1, e1, a1, b1, hc1⟩ := byte_ok b i h hc
      obtain ⟨v2, i2, h2, e2, a2, b2, hc2⟩ := byte_ok b i1 h1 hc1
      obtain ⟨v3, i3, h3, e3, a3, b3, hc3⟩ := byte_ok b i2 h2 hc2
      rw [if_neg c2, e1]
      simp only [Option.bind_some, e2, e3]
      rw [if_neg (by omega), wrap_id (n := v1 * 65536) (by omega) (by omega), wrap_id (n := v2 * 256) (by omega) (by omega), wrap_id (n := v1 * 65536 + v2 * 256) (by omega) (by omega), wrap_id (by omega) (by omega)]
      have := tmod_range (v1 * 65536 + v2 * 256 + v3) n (by omega) (by omega)
      exact ⟨_, _, _, rfl, this.1, fun _ => this.2, hc3⟩
theorem once_ok (b : List Int) (i h n : Int) (hc : OkC b i) : ∃ v i' h', spec_l1Once.f b i h n = some (v, i', h') ∧ OkC b i' := by
  obtain ⟨v, i', h', e, _, _, hc'⟩ := below_ok b i h n hc
  unfold spec_l1Once.f
  rw [e]
  exact ⟨_, _, _, rfl, hc'⟩
theorem int_ok (b : List Int) (i h : Int) (l : List Int) (hl : 0 < l.length) (hc : OkC b i) : ∃ v i' h', spec_l1Int.f b i h l = some (v, i', h') ∧ v ∈ l ∧ OkC b i' := by
  obtain ⟨v, i', h', e, h0, h1, hc'⟩ := below_ok b i h (l.length : Int) hc
  have h1 := h1 (by omega)
  unfold spec_l1Int.f
  rw [e]
  simp only [Option.bind_some]
  rw [if_pos h0, if_pos h1]
  refine ⟨_, _, _, rfl, ?_, hc'⟩
  have : v.toNat < l.length := by omega
  simp only [rd, List.getD_eq_getElem?_getD, List.getElem?_eq_getElem this, Option.getD_some]
  exact List.getElem_mem _
theorem new_down (b : List Int) (hb : b.length ≤ 1048576) : ∀ (n i : Nat) (h : Int), i + n = b.length → ∃ h', Ev (fun k => spec_l1New.l0 k b h (i : Int)) (b, 0, h')
  | 0, i, h, hi => ⟨h, Ev.step (f := fun _ => some (b, 0, h)) (fun k => by simp only [spec_l1New.l0]; rw [if_neg (by omega)]) (Ev.now _)⟩
  | n + 1, i, h, hi => by
    by_cases c : (i : Int) < 4000
    · obtain ⟨h', ih⟩ := new_down b hb n (i + 1) (Go.bits .and .i64 (wrap64 ((wrap64 ((wrap64 (h * 137)) + (wrap64 (rd b (i : Int))))) + 11)) 1073741823) (by omega)
      refine ⟨h', Ev.step (f := fun k => spec_l1New.l0 k b (Go.bits .and .i64 (wrap64 ((wrap64 ((wrap64 (h * 137)) + (wrap64 (rd b (i : Int))))) + 11)) 1073741823) ((i + 1 : Nat) : Int)) (fun k => ?_) ih⟩
      simp only [spec_l1New.l0, wrapi i (by omega)]
      rw [if_pos (by omega), if_pos c, if_pos (by omega), Int.natCast_add, Int.natCast_one]
    · refine ⟨h, Ev.step (f := fun _ => some (b, 0, h)) (fun k => ?_) (Ev.now _)⟩
      simp only [spec_l1New.l0]
      rw [if_pos (by omega), if_neg c]
theorem new_ok (b : List Int) (hb : b.length ≤ 1048576) : Gets (fun r => r.1 = b ∧ OkC r.1 r.2.1) (fun k => spec_l1New.f k b) := by
  obtain ⟨h', he⟩ := new_down b hb b.length 0 (wrap64 (193017 + (b.length : Int))) (by omega)
  exact ⟨(b, 0, h'), ⟨rfl, hb, Int.le_refl 0, show (0 : Int) ≤ 1048576 by decide⟩, he⟩
/-- A page as draws go. -/
def RPage (p : S44) : Prop := ((0 ≤ p.f0 ∧ p.f0 ≤ 25) ∨ p.f0 = -1 ∨ p.f0 = 10000 ∨ p.f0 = 10001) ∧ ((0 ≤ p.f1 ∧ p.f1 ≤ 63) ∨ p.f1 = -1 ∨ p.f1 = 64) ∧ (0 ≤ p.f2 ∧ p.f2 ≤ 59)
theorem rpage_set {xs : List S44} (h : ∀ p ∈ xs, RPage p) (j : Nat) (q : S44) (hq : RPage q) : ∀ p ∈ xs.set j q, RPage p := fun p hp => by
  rcases List.mem_or_eq_of_mem_set hp with h1 | rfl
  · exact h p h1
  · exact hq
theorem mWrite_cases (l : List S44) (d c f : Int) : (mWrite l d c f).1 = l ∨ ∃ s, (mWrite l d c f).1 = l ++ [⟨d, c, f, s⟩] := by
  simp only [mWrite]
  generalize (if 0 < l.length then (l.getD (l.length - 1) z44).f3 else 0) = s
  split
  · exact .inr ⟨_, rfl⟩
  · exact .inl rfl
theorem pages_down (b : List Int) : ∀ (n : Nat) (xs : List S44) (d i h : Int), xs.length + n ≤ 7 → 0 ≤ d → d + 3 * n ≤ 25 → (∀ p ∈ xs, RPage p) → OkC b i →
    Gets (fun r => (r.1.length ≤ 7 ∧ ∀ p ∈ r.1, RPage p) ∧ OkC b r.2.1) (fun k => spec_l21Any.l0 k xs d (n : Int) b i h)
  | 0, xs, d, i, h, hn, h0, hd, hx, hc => by
    by_cases c0 : (xs.length : Int) > 0
    · obtain ⟨v2, i2, h2, e2, a2, b2, hc2⟩ := below_ok b i h (xs.length : Int) hc
      have b2 := b2 (by omega)
      obtain ⟨v4, i4, h4, e4, a4, b4, hc4⟩ := below_ok b i2 h2 10 hc2
      have hmem : RPage (rd_T44 xs v2) := by
        have hlt : v2.toNat < xs.length := by omega
        have : rd_T44 xs v2 = xs[v2.toNat] := by simp only [rd_T44, List.getD_eq_getElem?_getD, List.getElem?_eq_getElem hlt, Option.getD_some]
        rw [this]
        exact hx _ (List.getElem_mem _)
      generalize hz : rd_T44 xs v2 = z at hmem
      by_cases q0 : v4 = 0
      · obtain ⟨w, i5, h5, e5, hw, hc5⟩ := int_ok b i4 h4 [-1, 10000, 10001] (by decide) hc4
        refine Gets.step (f := fun _ => some (xs.set v2.toNat (⟨w, z.f1, z.f2, z.f3⟩ : S44), i5, h5)) (fun k => ?_) (Gets.now ⟨⟨by rw [List.length_set]; omega, rpage_set hx _ _ ⟨by simp at hw; rcases hw with rfl | rfl | rfl <;> simp, hmem.2⟩⟩, hc5⟩)
        simp only [spec_l21Any.l0, e2, e4, Option.bind_some, hz]
        rw [if_neg (by omega), if_pos c0, if_pos q0, e5]
        simp only [Option.bind_some, if_pos a2, if_pos b2]
      · by_cases q1 : v4 = 1
        · obtain ⟨w, i5, h5, e5, hw, hc5⟩ := int_ok b i4 h4 [-1, 63, 64] (by decide) hc4
          refine Gets.step (f := fun _ => some (xs.set v2.toNat (⟨z.f0, w, z.f2, z.f3⟩ : S44), i5, h5)) (fun k => ?_) (Gets.now ⟨⟨by rw [List.length_set]; omega, rpage_set hx _ _ ⟨hmem.1, by simp at hw; rcases hw with rfl | rfl | rfl <;> simp, hmem.2.2⟩⟩, hc5⟩)
          simp only [spec_l21Any.l0, e2, e4, Option.bind_some, hz]
          rw [if_neg (by omega), if_pos c0, if_neg q0, if_pos q1, e5]
          simp only [Option.bind_some, if_pos a2, if_pos b2]
        · by_cases q2 : v4 = 2
          · refine Gets.step (f := fun _ => some (xs.set v2.toNat (⟨z.f0, z.f1, z.f2, wrap64 (z.f3 + 1)⟩ : S44), i4, h4)) (fun k => ?_) (Gets.now ⟨⟨by rw [List.length_set]; omega, rpage_set hx _ _ hmem⟩, hc4⟩)
            simp only [spec_l21Any.l0, e2, e4, Option.bind_some, hz]
            rw [if_neg (by omega), if_pos c0, if_neg q0, if_neg q1, if_pos q2, if_pos a2, if_pos b2]
          · refine Gets.step (f := fun _ => some (xs, i4, h4)) (fun k => ?_) (Gets.now ⟨⟨by show xs.length ≤ 7; omega, hx⟩, hc4⟩)
            simp only [spec_l21Any.l0, e2, e4, Option.bind_some]
            rw [if_neg (by omega), if_pos c0, if_neg q0, if_neg q1, if_neg q2]
    · refine Gets.step (f := fun _ => some (xs, i, h)) (fun k => ?_) (Gets.now ⟨⟨by show xs.length ≤ 7; omega, hx⟩, hc⟩)
      simp only [spec_l21Any.l0]
      rw [if_neg (by omega), if_neg c0]
  | n + 1, xs, d, i, h, hn, h0, hd, hx, hc => by
    obtain ⟨v1, i1, h1, e1, a1, b1, hc1⟩ := below_ok b i h 30 hc
    have b1 := b1 (by omega)
    obtain ⟨v2, i2, h2, e2, a2, b2, hc2⟩ := below_ok b i1 h1 60 hc1
    have b2 := b2 (by omega)
    obtain ⟨v3, i3, h3, e3, a3, b3, hc3⟩ := below_ok b i2 h2 3 hc2
    have b3 := b3 (by omega)
    have hlen := mWrite_len xs d v1 v2
    have hx' : ∀ p ∈ (mWrite xs d v1 v2).1, RPage p := by
      rcases mWrite_cases xs d v1 v2 with e | ⟨s, e⟩
      · rw [e]; exact hx
      · rw [e]
        intro p hp
        rcases List.mem_append.1 hp with hp | hp
        · exact hx p hp
        · obtain rfl := List.mem_singleton.1 hp
          exact ⟨.inl ⟨h0, by show d ≤ 25; omega⟩, .inl ⟨a1, by show v1 ≤ 63; omega⟩, a2, by show v2 ≤ 59; omega⟩
    have ih := pages_down b n (mWrite xs d v1 v2).1 (d + 1 + v3) i3 h3 (by omega) (by omega) (by omega) hx' hc3
    refine Gets.step (f := fun k => (spec_WritePage.f k xs d v1 v2).bind fun bt217 => spec_l21Any.l0 k bt217.1 (d + 1 + v3) (n : Int) b i3 h3) (fun k => ?_) (Gets.bind (P := fun r => r = mWrite xs d v1 v2) ⟨_, rfl, specWrite_ev xs d v1 v2 (by omega)⟩ (fun r hr => by rw [hr]; exact ih))
    simp only [spec_l21Any.l0, e1, e2, e3, Option.bind_some]
    rw [if_pos (by omega), wrap_id (n := d + 1) (by omega) (by omega), wrap_id (n := d + 1 + v3) (by omega) (by omega), wrap_id (n := ((n + 1 : Nat) : Int) - 1) (by omega) (by omega), show ((n + 1 : Nat) : Int) - 1 = (n : Int) from by omega]
theorem pages_ok (b : List Int) (i h : Int) (hc : OkC b i) : Gets (fun r => (r.1.length ≤ 7 ∧ ∀ p ∈ r.1, RPage p) ∧ OkC b r.2.1) (fun k => spec_l21Any.f k b i h) := by
  unfold spec_l21Any.f
  obtain ⟨v1, i1, h1, e1, a1, b1, hc1⟩ := below_ok b i h 3 hc
  have b1 := b1 (by omega)
  obtain ⟨v2, i2, h2, e2, a2, b2, hc2⟩ := below_ok b i1 h1 8 hc1
  have b2 := b2 (by omega)
  simp only [e1, e2, Option.bind_some]
  have := pages_down b v2.toNat [] v1 i2 h2 (by simp; omega) a1 (by omega) (fun p hp => by cases hp) hc2
  rw [show ((v2.toNat : Nat) : Int) = v2 from by omega] at this
  exact this
theorem drawWrite_ok (b : List Int) (hb : b.length ≤ 1048576) : Gets (fun r => r.1.length ≤ 7) (fun k => spec_DrawWritePage.f k b) := by
  unfold spec_DrawWritePage.f
  refine Gets.bind (new_ok b hb) ?_
  rintro ⟨b', i1, h1⟩ ⟨rfl, hc1⟩
  simp only at hc1 ⊢
  refine Gets.bind (pages_ok b' i1 h1 hc1) ?_
  rintro ⟨xs, i2, h2⟩ ⟨⟨hx, _⟩, hc2⟩
  simp only at hx hc2 ⊢
  obtain ⟨v5, i5, h5, e5, _, hc5⟩ := int_ok b' i2 h2 [0, 5, 30, 10000, 10001] (by simp) hc2
  obtain ⟨v6, i6, h6, e6, _, hc6⟩ := int_ok b' i5 h5 [0, 9, 63, 64] (by simp) hc5
  obtain ⟨v7, i7, h7, e7, _, hc7⟩ := int_ok b' i6 h6 [0, 40, 10000, 10001, -1] (by simp) hc6
  simp only [e5, e6, e7, Option.bind_some]
  exact Gets.now hx
theorem drawEaten_ok (b : List Int) (hb : b.length ≤ 1048576) : Gets (fun r => r.1.length ≤ 7) (fun k => spec_DrawEatenBetween.f k b) := by
  unfold spec_DrawEatenBetween.f
  refine Gets.bind (new_ok b hb) ?_
  rintro ⟨b', i1, h1⟩ ⟨rfl, hc1⟩
  simp only at hc1 ⊢
  refine Gets.bind (pages_ok b' i1 h1 hc1) ?_
  rintro ⟨xs, i2, h2⟩ ⟨⟨hx, _⟩, hc2⟩
  simp only at hx hc2 ⊢
  obtain ⟨v5, i5, h5, e5, _, _, hc5⟩ := below_ok b' i2 h2 9 hc2
  obtain ⟨v6, i6, h6, e6, _, _, hc6⟩ := below_ok b' i5 h5 9 hc5
  simp only [e5, e6, Option.bind_some]
  exact Gets.now hx
/-- The second journal of a pair: the first one up to a page, and a page more, or not. -/
def Pair (r : List S44 × List S44) : Prop := (r.1.length ≤ 7 ∧ ∀ p ∈ r.1, RPage p) ∧ ∃ m, r.2 = r.1.take m ∨ ∃ s, r.2 = r.1.take m ++ [⟨500, 1, 1, s⟩]
theorem drawSame_j1 (b : List Int) (xs : List S44) (m : Nat) (i h : Int) (hx : xs.length ≤ 7 ∧ ∀ p ∈ xs, RPage p) (hc : OkC b i) : Gets Pair (fun k => spec_DrawSamePages.j1 k xs (xs.take m) b i h) := by
  obtain ⟨u, i3, h3, e3, hc3⟩ := once_ok b i h 3 hc
  cases u with
  | false =>
    refine Gets.step (f := fun _ => some (xs, xs.take m)) (fun k => ?_) (Gets.now ⟨hx, m, .inl rfl⟩)
    simp only [spec_DrawSamePages.j1, e3, Option.bind_some, Bool.false_eq_true, if_false]
  | true =>
    have ht : (xs.take m).length ≤ 2097152 := by
      have := List.length_take_le' m xs
      omega
    refine Gets.step (f := fun k => (spec_WritePage.f k (xs.take m) 500 1 1).bind fun bt305 => some (xs, bt305.1)) (fun k => ?_) (Gets.bind (P := fun r => r = mWrite (xs.take m) 500 1 1) ⟨_, rfl, specWrite_ev _ 500 1 1 ht⟩ (fun r hr => Gets.now ⟨hx, m, ?_⟩))
    · simp only [spec_DrawSamePages.j1, e3, Option.bind_some, if_true]
    · rw [hr]
      exact mWrite_cases (xs.take m) 500 1 1
theorem drawSame_ok (b : List Int) (hb : b.length ≤ 1048576) : Gets Pair (fun k => spec_DrawSamePages.f k b) := by
  unfold spec_DrawSamePages.f
  refine Gets.bind (new_ok b hb) ?_
  rintro ⟨b', i1, h1⟩ ⟨rfl, hc1⟩
  simp only at hc1 ⊢
  refine Gets.bind (pages_ok b' i1 h1 hc1) ?_
  rintro ⟨xs, i2, h2⟩ ⟨hx, hc2⟩
  simp only at hx hc2 ⊢
  have h3 : ([] : List S44).length + xs.length < 4398046511104 := by simp; omega
  simp only [Option.bind_some, h3, if_true, List.nil_append]
  have hall : xs.take xs.length = xs := List.take_length
  by_cases c : (xs.length : Int) > 0
  · obtain ⟨u, i3, h3, e3, hc3⟩ := once_ok b' i2 h2 2 hc2
    simp only [if_pos c, e3, Option.bind_some]
    cases u with
    | true =>
      obtain ⟨v2, i4, h4, e4, a2, b2, hc4⟩ := below_ok b' i3 h3 (xs.length : Int) hc3
      have b2 := b2 (by omega)
      refine Gets.step (fun k => ?_) (drawSame_j1 b' xs v2.toNat i4 h4 hx hc4)
      simp only [spec_DrawSamePages.j0, if_true, e4, Option.bind_some]
      rw [if_pos a2, if_pos (by omega)]
    | false =>
      refine Gets.step (fun k => ?_) (drawSame_j1 b' xs xs.length i3 h3 hx hc3)
      simp only [spec_DrawSamePages.j0, Bool.false_eq_true, if_false, hall]
  · simp only [if_neg c]
    refine Gets.step (fun k => ?_) (drawSame_j1 b' xs xs.length i2 h2 hx hc2)
    simp only [spec_DrawSamePages.j0, Bool.false_eq_true, if_false, hall]
def Chain : Int × Int → List S44 → Prop
  | _, [] => True
  | s, x :: t => okPage s x ∧ Chain (x.f3, x.f0) t
theorem run_chain (b : Bool) : ∀ (t : List S44) (i : Nat) (s : Int × Int), run stepJ (fun _ => b) i s t = true ↔ Chain s t ∧ b = true
  | [], i, s => by simp [run_nil, Chain]
  | x :: t, i, s => by
    by_cases h : okPage s x
    · rw [run_inr (show stepJ i s x = .inr (x.f3, x.f0) from if_pos h), run_chain b t]
      simp [Chain, h]
    · rw [run_inl (show stepJ i s x = .inl false from if_neg h)]
      simp [Chain, h]
theorem journal_chain {l : List S44} (h : mIsJournal l = true) : Chain (0, -1) l := ((run_chain _ l 0 (0, -1)).1 h).1
theorem same_pages : ∀ (c rest b : List S44) (s : Int × Int), -1 ≤ s.2 → (∀ p ∈ c ++ rest, RPage p) → Chain s (c ++ rest) → Chain s b → (b = c ∨ ∃ q, b = c ++ [⟨500, 1, 1, q⟩]) → ∀ i, i < com (c ++ rest) b → (c ++ rest)[i]? = b[i]?
  | [], rest, b, s, hs, hR, hA, hB, hb, i, hi => by
    exfalso
    simp only [List.nil_append] at hR hA hb hi
    rcases hb with rfl | ⟨q, rfl⟩
    · cases rest <;> exact absurd hi (by simp [com])
    · cases rest with
      | nil => exact absurd hi (by simp [com])
      | cons x t =>
        have hx : x.f3 = q := by
          refine Decidable.byContradiction fun hne => ?_
          simp only [com, if_neg hne] at hi
          omega
        obtain ⟨hr0, hr1, hr2⟩ := hR x (List.mem_cons_self ..)
        obtain ⟨o0, o1, o2, o3⟩ := hA.1
        have p3 : q = mSeal s.1 500 1 1 := hB.1.2.2.2
        exact seal_apart s.1 x.f0 x.f1 x.f2 (by omega) (by omega) hr2 (by rw [← o3, hx, p3])
  | y :: c, rest, b, s, hs, hR, hA, hB, hb, i, hi => by
    have hb' : ∃ b', b = y :: b' ∧ (b' = c ∨ ∃ q, b' = c ++ [⟨500, 1, 1, q⟩]) := by
      rcases hb with rfl | ⟨q, rfl⟩
      · exact ⟨c, rfl, .inl rfl⟩
      · exact ⟨_, rfl, .inr ⟨q, rfl⟩⟩
    obtain ⟨b', rfl, hb'⟩ := hb'
    cases i with
    | zero => rfl
    | succ i =>
      have hi' : i < com (c ++ rest) b' := by
        simp only [List.cons_append, com, if_true] at hi
        omega
      have := same_pages c rest b' _ (by have := hA.1.1.1; show -1 ≤ y.f0; omega) (fun p hp => hR p (List.mem_cons_of_mem _ hp)) hA.2 hB.2 hb' i hi'
      simpa using this
theorem okPage_of : ∀ (l : List S44) (s : Int × Int), Chain s l → ∀ p ∈ l, 0 ≤ p.f2 ∧ p.f2 ≤ 10000
  | x :: t, s, h, p, hp => by
    rcases List.mem_cons.1 hp with rfl | hp
    · exact h.1.2.2.1
    · exact okPage_of t _ h.2 p hp
theorem eaten_neg (l : List S44) (i k : Int) : mEaten l i k = wrap64 (-(mEaten l k i)) := by
  unfold mEaten
  by_cases h : mIsJournal l = true ∧ (0 ≤ i ∧ i ≤ (l.length : Int) - 1) ∧ (0 ≤ k ∧ k ≤ (l.length : Int) - 1)
  · rw [if_pos h, if_pos ⟨h.1, h.2.2, h.2.1⟩]
    unfold wrap64
    omega
  · rw [if_neg h, if_neg (fun q => h ⟨q.1, q.2.2, q.2.1⟩), wrap_id (by omega) (by omega)]
    omega
theorem cellOn_last (day : Int) (p : S44) (hp : p.f0 = day) : ∀ (l : List S44) (i : Nat) (s : Int), run (stepCO day) id i s (l ++ [p]) = p.f1
  | [], i, s => by
    rw [List.nil_append, run_inr (s' := p.f1) (by simp only [stepCO]; rw [if_pos (by omega)]), run_nil]
    rfl
  | x :: t, i, s => by
    rw [List.cons_append, run_inr (show stepCO day i s x = .inr (if x.f0 ≤ day then x.f1 else s) from rfl)]
    exact cellOn_last day p hp t (i + 1) _
theorem fj_end (l0 : List Int) (hb : l0.length ≤ 1048576) (a b : List S44) (i : Int) (ha : a.length ≤ 100) (hbl : b.length ≤ 100) : Ev (fun k => laws_FnJournals.j2 k l0 a b (com a b : Int) i false) true := by
  refine Ev.step (f := fun k => (spec_DrawEatenBetween.f k l0).bind fun bt349 => ((impl_SamePages.f k b a).bind fun t354 => (if (com a b : Int) = t354 then ((impl_EatenBetween.f k bt349.1 bt349.2.1 bt349.2.2).bind fun t355 => ((impl_EatenBetween.f k bt349.1 bt349.2.2 bt349.2.1).bind fun t356 => (some (t355 == (wrap64 (-t356)))))) else (some false)))) (fun k => by simp only [laws_FnJournals.j2, Bool.false_eq_true, if_false]) ?_
  refine Gets.ev (drawEaten_ok l0 hb) ?_
  rintro ⟨c, x, y⟩ hc
  simp only at hc ⊢
  refine Ev.bind (implSame_ev b a (by omega)) ?_
  rw [mSame_eq, com_comm b a]
  simp only [if_true]
  refine Ev.bind (implE_ev c x y (by omega)) ?_
  refine Ev.bind (implE_ev c y x (by omega)) ?_
  rw [← eaten_neg]
  simp only [beq_self_eq_true]
  exact Ev.now _
theorem com_le : ∀ (a b : List S44), com a b ≤ a.length ∧ com a b ≤ b.length
  | [], b => by cases b <;> exact ⟨Nat.zero_le _, Nat.zero_le _⟩
  | x :: t, [] => ⟨Nat.zero_le _, Nat.zero_le _⟩
  | x :: t, y :: u => by
    have := com_le t u
    show (if x.f3 = y.f3 then com t u + 1 else 0) ≤ t.length + 1 ∧ (if x.f3 = y.f3 then com t u + 1 else 0) ≤ u.length + 1
    split <;> omega
theorem fj_loop (l0 : List Int) (hb : l0.length ≤ 1048576) (a b : List S44) (ha : a.length ≤ 100) (hbl : b.length ≤ 100) (hJa : mIsJournal a = true) (hJb : mIsJournal b = true) (hsame : ∀ i, i < com a b → a[i]? = b[i]?) : ∀ (n i : Nat), i + n = com a b → Ev (fun k => laws_FnJournals.l0 k l0 a b (com a b : Int) (i : Int)) true
  | 0, i, h => by
    refine Ev.step (f := fun k => laws_FnJournals.j2 k l0 a b (com a b : Int) (i : Int) false) (fun k => ?_) (fj_end l0 hb a b i ha hbl)
    simp only [laws_FnJournals.l0]
    rw [if_neg (by omega)]
  | n + 1, i, h => by
    have ih := fj_loop l0 hb a b ha hbl hJa hJb hsame n (i + 1) (by omega)
    have hle := com_le a b
    refine Ev.step (f := fun k => (impl_IsJournal.f k a).bind fun t345 => (if t345 = true then ((impl_IsJournal.f k b).bind fun t346 => (laws_FnJournals.j2 k l0 a b (com a b : Int) (i : Int) t346)) else (laws_FnJournals.j2 k l0 a b (com a b : Int) (i : Int) false))) (fun k => ?_) ?_
    · simp only [laws_FnJournals.l0]
      rw [if_pos (by omega)]
    refine Ev.bind (implJ_ev a (by omega)) ?_
    simp only [hJa, if_true]
    refine Ev.bind (implJ_ev b (by omega)) ?_
    rw [hJb]
    have hia : i < a.length := by omega
    have hib : i < b.length := by omega
    have e := hsame i (by omega)
    rw [List.getElem?_eq_getElem hia, List.getElem?_eq_getElem hib] at e
    have e1 : rd_T44 a (i : Int) = a[i] := getD_of z44 (List.getElem?_eq_getElem hia)
    have e2 : rd_T44 b (i : Int) = a[i] := getD_of z44 (by rw [List.getElem?_eq_getElem hib]; exact e.symm)
    refine Ev.step (f := fun k => laws_FnJournals.l0 k l0 a b (com a b : Int) ((i + 1 : Nat) : Int)) (fun k => ?_) ih
    simp only [laws_FnJournals.j2, if_true, e1, e2, wrapi i (by omega), beq_self_eq_true, Bool.not_true, Bool.or_self, Bool.false_eq_true, if_false]
    rw [if_pos (by omega), if_pos (by omega), if_pos (by omega), Int.natCast_add, Int.natCast_one]
theorem fj_j0 (l0 : List Int) (hb : l0.length ≤ 1048576) : Ev (fun k => laws_FnJournals.j0 k l0 false) true := by
  refine Ev.step (f := fun k => (spec_DrawSamePages.f k l0).bind fun bt338 => ((impl_SamePages.f k bt338.1 bt338.2).bind fun t344 => (laws_FnJournals.l0 k l0 bt338.1 bt338.2 t344 0))) (fun k => by simp only [laws_FnJournals.j0, Bool.false_eq_true, if_false]) ?_
  refine Gets.ev (drawSame_ok l0 hb) ?_
  rintro ⟨a, b⟩ ⟨⟨ha, hR⟩, m, hm⟩
  simp only at ha hR hm ⊢
  have hbl : b.length ≤ 100 := by
    have := List.length_take_le' m a
    rcases hm with rfl | ⟨s, rfl⟩
    · omega
    · simp; omega
  refine Ev.bind (implSame_ev a b (by omega)) ?_
  rw [mSame_eq]
  by_cases hJ : mIsJournal a = true ∧ mIsJournal b = true
  · refine fj_loop l0 hb a b (by omega) hbl hJ.1 hJ.2 (fun i hi => ?_) (com a b) 0 (by omega)
    have hsplit : a.take m ++ a.drop m = a := List.take_append_drop m a
    have := same_pages (a.take m) (a.drop m) b (0, -1) (by decide) (by rw [hsplit]; exact hR) (by rw [hsplit]; exact journal_chain hJ.1) (journal_chain hJ.2) hm i (by rw [hsplit]; exact hi)
    rw [hsplit] at this
    exact this
  · by_cases c : (0 : Int) < (com a b : Int)
    · refine Ev.step (f := fun k => (impl_IsJournal.f k a).bind fun t345 => (if t345 = true then ((impl_IsJournal.f k b).bind fun t346 => (laws_FnJournals.j2 k l0 a b (com a b : Int) 0 t346)) else (laws_FnJournals.j2 k l0 a b (com a b : Int) 0 false))) (fun k => ?_) ?_
      · simp only [laws_FnJournals.l0]
        rw [if_pos c]
      refine Ev.bind (implJ_ev a (by omega)) ?_
      by_cases hJa : mIsJournal a = true
      · simp only [hJa, if_true]
        refine Ev.bind (implJ_ev b (by omega)) ?_
        have hJb : mIsJournal b = false := by
          cases hh : mIsJournal b with
          | false => rfl
          | true => exact absurd ⟨hJa, hh⟩ hJ
        rw [hJb]
        exact fj_end l0 hb a b 0 (by omega) hbl
      · simp only [if_neg hJa]
        exact fj_end l0 hb a b 0 (by omega) hbl
    · refine Ev.step (fun k => ?_) (fj_end l0 hb a b 0 (by omega) hbl)
      simp only [laws_FnJournals.l0]
      rw [if_neg c]
end FnJournalsPf
open FnJournalsPf
theorem FnJournals : laws_FnJournals.Pure := by
  intro l0 hl hs hw
  apply Ev.rounds (g := fun k => laws_FnJournals.f k l0)
  unfold laws_FnJournals.f
  simp only [laws_big.f, Option.bind_some, decide_eq_true_eq]
  by_cases hb : (l0.length : Int) > 1048576
  · simp only [if_pos hb]
    exact Ev.now _
  · simp only [if_neg hb]
    have hb : l0.length ≤ 1048576 := by omega
    refine Gets.ev (drawWrite_ok l0 hb) ?_
    rintro ⟨l, d, c, f⟩ hl7
    simp only at hl7 ⊢
    have hwr : ∃ s, mWrite l d c f = if mIsJournal (l ++ [⟨d, c, f, mSeal s d c f⟩]) = true then (l ++ [⟨d, c, f, mSeal s d c f⟩], true) else (l, false) := ⟨_, rfl⟩
    obtain ⟨s, hwr⟩ := hwr
    refine Ev.bind (implWrite_ev l d c f (by omega)) ?_
    rw [hwr]
    clear hwr
    by_cases hJ : mIsJournal (l ++ [⟨d, c, f, mSeal s d c f⟩]) = true
    · simp only [if_pos hJ, if_true]
      have hlen : (l ++ [(⟨d, c, f, mSeal s d c f⟩ : S44)]).length = l.length + 1 := by simp
      refine Ev.bind (implJ_ev _ (by omega)) ?_
      simp only [hJ, if_true]
      have hw1 : wrap64 ((l.length : Int) + 1) = (l.length : Int) + 1 := wrapi l.length (by omega)
      simp only [hw1, if_pos (show ((l ++ [(⟨d, c, f, mSeal s d c f⟩ : S44)]).length : Int) = (l.length : Int) + 1 from by omega)]
      refine Ev.bind (implSame_ev _ l (by omega)) ?_
      rw [mSame_eq, com_prefix]
      simp only [if_true]
      refine Ev.bind (implCO_ev _ d (by omega)) ?_
      have e : mCellOn (l ++ [⟨d, c, f, mSeal s d c f⟩]) d = c := by
        unfold mCellOn
        rw [if_pos hJ]
        exact cellOn_last d _ rfl l 0 (-1)
      simp only [e, if_true]
      exact fj_j0 l0 hb
    · simp only [if_neg hJ, Bool.false_eq_true, if_false, bne_self_eq_false]
      exact fj_j0 l0 hb
end Go.Proofs.Ytdjdkngpbgobfaa.Pure
