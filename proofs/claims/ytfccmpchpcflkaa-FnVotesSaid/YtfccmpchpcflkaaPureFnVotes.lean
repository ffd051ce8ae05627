/- FnVotes: the pure statement of the law, over the printed functions. No condition beyond the statement's own. -/
import Derived.Test.YtfccmpchpcflkaaSFnVotesx6
import Derived.Test.YtfccmpchpcflkaaLib
import Derived.Test.YtfccmpchpcflkaaOpens
namespace Go.Proofs.Ytfccmpchpcflkaa.Pure
open Go.RowKit Go.Proofs.Ytfccmpchpcflkaa.PFnVotes Go.Proofs.YtfccmpchpcflkaaW.PrintWords Go.Proofs.YtfccmpchpcflkaaW.PrintLast Go.Proofs.Ytfccmpchpcflkaa.Lib Go.Proofs.Ytfccmpchpcflkaa.Opens
set_option linter.unusedVariables false
set_option linter.unusedSimpArgs false
namespace FnVotesPf
theorem InRange_eq (a b c : Int) : impl_InRange.f a b c = some (decide (b ≤ a ∧ a ≤ c)) := by
  unfold impl_InRange.f
  by_cases h : b ≤ a
  · rw [if_pos h]; simp [h]
  · rw [if_neg h]; simp [h]
def okMember (l : List S68) (i : Nat) (x : S68) : Prop := (1 ≤ x.f0 ∧ x.f0 ≤ 99) ∧ (0 ≤ x.f1 ∧ x.f1 ≤ 100) ∧ (1 ≤ x.f2 ∧ x.f2 ≤ 10) ∧ (i = 0 ∨ (l.getD (i - 1) z68).f0 < x.f0)
instance (l : List S68) (i : Nat) (x : S68) : Decidable (okMember l i x) := by unfold okMember; infer_instance
def stepAC (l : List S68) : Nat → Unit → S68 → Bool ⊕ Unit := fun i _ x => if okMember l i x then .inr () else .inl false
def mAreCrew (l : List S68) : Bool := run (stepAC l) (fun _ => decide (1 ≤ (l.length : Int) ∧ (l.length : Int) ≤ 8)) 0 () l
theorem implAC_at (l : List S68) (hl : l.length ≤ 4611686018427387904) : ∀ k, l.length < k → impl_AreCrew.f k l = some (mAreCrew l) :=
  at_loop0 (fun k _ i => impl_AreCrew.l0 k l l (l.length : Int) i) l (stepAC l) _ hl ()
    (fun k s => by simp only [impl_AreCrew.l0]; rw [if_neg (by omega)]; simp only [InRange_eq, Option.bind_some])
    (fun k s i x hx hw => by
      have hi := lt_of_get hx
      have hr : rd_T68 l (i : Int) = x := getD_of z68 hx
      simp only [impl_AreCrew.l0, hr, hw, InRange_eq, Option.bind_some, decide_eq_true_eq]; rw [if_pos (by omega), if_pos (by omega), if_pos (by omega)]
      simp only [stepAC]
      by_cases c1 : 1 ≤ x.f0 ∧ x.f0 ≤ 99
      · rw [if_pos c1]
        rcases Nat.eq_zero_or_pos i with h0 | h0
        · subst h0
          rw [if_neg (by omega)]
          by_cases c2 : 0 ≤ x.f1 ∧ x.f1 ≤ 100
          · rw [if_pos c2]
            by_cases c3 : 1 ≤ x.f2 ∧ x.f2 ≤ 10
            · rw [if_pos c3, if_pos (show okMember l _ x from ⟨c1, c2, c3, .inl rfl⟩)]; rfl
            · rw [if_neg c3, if_neg (show ¬ okMember l _ x from fun h => c3 h.2.2.1)]; rfl
          · rw [if_neg c2, if_neg (show ¬ okMember l _ x from fun h => c2 h.2.1)]; rfl
        · have hr' : rd_T68 l ((i - 1 : Nat) : Int) = l.getD (i - 1) z68 := getD_nat ..
          rw [if_pos (by omega), wrapd i h0 (by omega), if_pos (by omega), if_pos (by omega), hr']
          by_cases c4 : (l.getD (i - 1) z68).f0 < x.f0
          · rw [if_neg (by omega)]
            by_cases c2 : 0 ≤ x.f1 ∧ x.f1 ≤ 100
            · rw [if_pos c2]
              by_cases c3 : 1 ≤ x.f2 ∧ x.f2 ≤ 10
              · rw [if_pos c3, if_pos (show okMember l _ x from ⟨c1, c2, c3, .inr c4⟩)]; rfl
              · rw [if_neg c3, if_neg (show ¬ okMember l _ x from fun h => c3 h.2.2.1)]; rfl
            · rw [if_neg c2, if_neg (show ¬ okMember l _ x from fun h => c2 h.2.1)]; rfl
          · rw [if_pos (by omega), if_neg (show ¬ okMember l _ x from fun h => h.2.2.2.elim (by omega) c4)]; rfl
      · rw [if_neg c1, if_neg (show ¬ okMember l _ x from fun h => c1 h.1)]; rfl)
/-- What a crew is, member by member. -/
theorem runAC_iff (l0 : List S68) (b : Bool) : ∀ (t d : List S68), l0 = d ++ t → (run (stepAC l0) (fun _ => b) d.length () t = true ↔ (∀ i x, d.length ≤ i → l0[i]? = some x → okMember l0 i x) ∧ b = true)
  | [], d, h => by
    rw [run_nil]
    refine ⟨fun hb => ⟨fun i x hi hx => ?_, hb⟩, fun hb => hb.2⟩
    have := lt_of_get hx
    rw [h] at this
    simp at this
    omega
  | x :: t, d, h => by
    have hx : l0[d.length]? = some x := by rw [h]; simp
    by_cases c : okMember l0 d.length x
    · rw [run_inr (show stepAC l0 d.length () x = .inr () from if_pos c)]
      have ih := runAC_iff l0 b t (d ++ [x]) (by rw [h]; simp)
      rw [List.length_append, List.length_singleton] at ih
      rw [ih]
      refine ⟨fun hb => ⟨fun i y hi hy => ?_, hb.2⟩, fun hb => ⟨fun i y hi hy => hb.1 i y (by omega) hy, hb.2⟩⟩
      rcases Nat.lt_or_ge d.length i with h1 | h1
      · exact hb.1 i y (by omega) hy
      · obtain rfl : i = d.length := by omega
        rw [hx] at hy
        injection hy with hy
        exact hy ▸ c
    · rw [run_inl (show stepAC l0 d.length () x = .inl false from if_neg c)]
      exact ⟨fun hb => (by cases hb), fun hb => absurd (hb.1 d.length x (Nat.le_refl _) hx) c⟩
theorem mAreCrew_iff (l : List S68) : mAreCrew l = true ↔ (∀ i x, l[i]? = some x → okMember l i x) ∧ 1 ≤ l.length ∧ l.length ≤ 8 := by
  have h := runAC_iff l (decide (1 ≤ (l.length : Int) ∧ (l.length : Int) ≤ 8)) l [] rfl
  unfold mAreCrew
  rw [List.length_nil] at h
  rw [h, decide_eq_true_eq]
  exact ⟨fun h => ⟨fun i x hx => h.1 i x (Nat.zero_le _) hx, by omega⟩, fun h => ⟨fun i x _ hx => h.1 i x hx, by omega⟩⟩
theorem crew_member {l : List S68} (h : mAreCrew l = true) {x : S68} (hx : x ∈ l) : (1 ≤ x.f0 ∧ x.f0 ≤ 99) ∧ (0 ≤ x.f1 ∧ x.f1 ≤ 100) ∧ (1 ≤ x.f2 ∧ x.f2 ≤ 10) := by
  obtain ⟨i, hi, he⟩ := List.getElem_of_mem hx
  have := ((mAreCrew_iff l).1 h).1 i x (by rw [List.getElem?_eq_getElem hi, he])
  exact ⟨this.1, this.2.1, this.2.2.1⟩
theorem implPlace_at (l : List Int) (n : Int) (hl : l.length ≤ 4611686018427387904) : ∀ k, l.length < k → impl_placeOf.f k l n = some (place n l) :=
  at_loop0 (fun k _ i => impl_placeOf.l0 k n l (l.length : Int) i) l (stepPlace n) (fun _ => -1) hl ()
    (fun k s => by simp only [impl_placeOf.l0]; rw [if_neg (by omega)])
    (fun k s i x hx hw => by
      have hi := lt_of_get hx
      have hr : rd l (i : Int) = x := getD_of 0 hx
      simp only [impl_placeOf.l0, hr, hw]; rw [if_pos (by omega), if_pos (by omega), if_pos (by omega)]
      simp only [stepPlace]; split <;> rfl)
theorem implHas_at (l : List Int) (n : Int) (hl : l.length ≤ 4611686018427387904) : ∀ k, l.length < k → impl_has.f k l n = some (decide (n ∈ l)) := fun k hk => by
  simp only [impl_has.f, implPlace_at l n hl k hk, Option.bind_some, place_has]
def stepFind (n : Int) : Nat → Unit → S68 → Int ⊕ Unit := fun i _ x => if x.f0 = n then .inl (i : Int) else .inr ()
def mFind (l : List S68) (n : Int) : Int := run (stepFind n) (fun _ => -1) 0 () l
theorem runFind (n : Int) : ∀ (l : List S68) (i : Nat), (n ∈ l.map (·.f0) → (i : Int) ≤ run (stepFind n) (fun _ => -1) i () l) ∧ (n ∉ l.map (·.f0) → run (stepFind n) (fun _ => -1) i () l = -1)
  | [], _ => by simp [run]
  | x :: t, i => by
    by_cases h : x.f0 = n
    · rw [run_inl (show stepFind n i () x = .inl (i : Int) from if_pos h)]
      simp [h]
    · have h' : n ≠ x.f0 := fun e => h e.symm
      rw [run_inr (show stepFind n i () x = .inr () from if_neg h)]
      obtain ⟨h1, h2⟩ := runFind n t (i + 1)
      rw [List.map_cons]
      refine ⟨fun hm => ?_, fun hm => h2 (fun hm' => hm (List.mem_cons_of_mem _ hm'))⟩
      have := h1 ((List.mem_cons.1 hm).resolve_left h')
      omega
theorem mFind_neg (l : List S68) (n : Int) : mFind l n < 0 ↔ n ∉ l.map (·.f0) := by
  obtain ⟨h1, h2⟩ := runFind n l 0
  unfold mFind
  refine ⟨fun h hm => ?_, fun h => by rw [h2 h]; decide⟩
  have := h1 hm
  omega
theorem implFind_at (l : List S68) (n : Int) (hl : l.length ≤ 1048577) : ∀ k, l.length < k → impl_memberOf.f k l n = some (mFind l n) :=
  at_loop0 (fun k _ i => impl_memberOf.l0 k n l (l.length : Int) i) l (stepFind n) (fun _ => -1) (by omega) ()
    (fun k s => by simp only [impl_memberOf.l0]; rw [if_neg (by omega)])
    (fun k s i x hx hw => by
      have hi := lt_of_get hx
      have hr : rd_T68 l (i : Int) = x := getD_of z68 hx
      simp only [impl_memberOf.l0, hr, hw]; rw [if_pos (by omega), if_pos (by omega), if_pos (by omega)]
      simp only [stepFind]; split <;> rfl)
def okVote (l : List S68) (s : List Int) (x : S59) : Prop := x.f0 ∈ l.map (·.f0) ∧ x.f0 ∉ s ∧ (0 ≤ x.f1 ∧ x.f1 ≤ 9)
instance (l : List S68) (s : List Int) (x : S59) : Decidable (okVote l s x) := by unfold okVote; infer_instance
def stepAV (l : List S68) : Nat → List Int → S59 → Bool ⊕ List Int := fun _ s x => if okVote l s x then .inr (s ++ [x.f0]) else .inl false
def mAreVotes (l : List S68) (v : List S59) : Bool := run (stepAV l) (fun _ => mAreCrew l) 0 [] v
theorem implAV_at (l : List S68) (v : List S59) (hl : l.length ≤ 1048576) (hv : v.length ≤ 1048577) : ∀ k, v.length + (l.length + v.length + 1) < k → impl_AreVotes.f k l v = some (mAreVotes l v) :=
  at_loopI (fun k s i => impl_AreVotes.l0 k l s v (v.length : Int) i) v (stepAV l) (fun _ => mAreCrew l) (fun i s => s.length ≤ i) (by omega) [] (by simp) (l.length + v.length + 1)
    (fun k s hk _ => by simp only [impl_AreVotes.l0]; rw [if_neg (by omega), implAC_at l (by omega) k (by omega)]; rfl)
    (fun s i x s' hI _ he => by
      simp only [stepAV] at he
      split at he
      · injection he with he
        subst he
        simp; omega
      · cases he)
    (fun k s i x hk hI hx hw => by
      have hi := lt_of_get hx
      have hr : rd_T59 v (i : Int) = x := getD_of z59 hx
      simp only [impl_AreVotes.l0, hr, hw]; rw [if_pos (by omega), if_pos (by omega), if_pos (by omega)]
      simp only [implFind_at l x.f0 (by omega) k (by omega), implHas_at s x.f0 (by omega) k (by omega), InRange_eq, Option.bind_some, decide_eq_true_eq, stepAV]
      by_cases c1 : x.f0 ∈ l.map (·.f0)
      · rw [if_neg (fun h => (mFind_neg l x.f0).1 h c1)]
        by_cases c2 : x.f0 ∈ s
        · rw [if_pos c2, if_neg (show ¬ okVote l s x from fun h => h.2.1 c2)]; rfl
        · rw [if_neg c2]
          by_cases c3 : 0 ≤ x.f1 ∧ x.f1 ≤ 9
          · rw [if_pos c3, if_pos (show s.length < 17592186044416 by omega), if_pos (show okVote l s x from ⟨c1, c2, c3⟩)]; rfl
          · rw [if_neg c3, if_neg (show ¬ okVote l s x from fun h => c3 h.2.2)]; rfl
      · rw [if_pos ((mFind_neg l x.f0).2 c1), if_neg (show ¬ okVote l s x from fun h => c1 h.1)]; rfl)
/-- The inner loop of the reference: is one of the votes before by the same one? -/
theorem implAV_ev (l : List S68) (v : List S59) (hl : l.length ≤ 1048576) (hv : v.length ≤ 1048577) : Ev (fun k => impl_AreVotes.f k l v) (mAreVotes l v) := ev_at (implAV_at l v hl hv)
def stepC (c : Int) : Nat → Int → S59 → Int ⊕ Int := fun _ s x => .inr (if x.f1 = c then wrap64 (s + 1) else s)
def mCount (v : List S59) (c : Int) : Int := ((v.filter fun x => decide (x.f1 = c)).length : Int)
theorem runC (c : Int) : ∀ (v : List S59) (i : Nat) (s : Int), 0 ≤ s → s + v.length ≤ 4611686018427387904 → run (stepC c) id i s v = s + mCount v c
  | [], i, s, _, _ => by simp [run, mCount]
  | x :: t, i, s, h0, h1 => by
    rw [List.length_cons] at h1
    by_cases h : x.f1 = c
    · rw [run_inr (s' := s + 1) (by show Sum.inr (if x.f1 = c then wrap64 (s + 1) else s) = _; rw [if_pos h, wrap_id (by omega) (by omega)]), runC c t (i + 1) (s + 1) (by omega) (by omega)]
      simp only [mCount, List.filter_cons, h, decide_true, if_true, List.length_cons]
      omega
    · rw [run_inr (s' := s) (by show Sum.inr (if x.f1 = c then wrap64 (s + 1) else s) = _; rw [if_neg h]), runC c t (i + 1) s h0 (by omega)]
      simp only [mCount, List.filter_cons, h, decide_false, Bool.false_eq_true, if_false]
theorem mCount_range (v : List S59) (c : Int) : 0 ≤ mCount v c ∧ mCount v c ≤ v.length := by
  unfold mCount
  have := List.length_filter_le (fun x : S59 => decide (x.f1 = c)) v
  omega
theorem implCF_at (v : List S59) (c : Int) (hl : v.length ≤ 1048577) : ∀ k, v.length < k → impl_CountFor.f k v c = some (mCount v c) := by
  have h := at_loop0 (fun k s i => impl_CountFor.l0 k c s v (v.length : Int) i) v (stepC c) id (by omega) 0
    (fun k s => by simp only [impl_CountFor.l0]; rw [if_neg (by omega)]; rfl)
    (fun k s i x hx hw => by
      have hi := lt_of_get hx
      have hr : rd_T59 v (i : Int) = x := getD_of z59 hx
      simp only [impl_CountFor.l0, hr, hw]; rw [if_pos (by omega), if_pos (by omega), if_pos (by omega)]
      simp only [stepC, Sum.elim_inr]; split <;> rfl)
  rw [runC c v 0 0 (by omega) (by omega), Int.zero_add] at h
  exact h
def mIsMajority (l : List S68) (v : List S59) (c : Int) : Bool := mAreVotes l v && decide (2 * mCount v c > (l.length : Int))
theorem implIM_ev (l : List S68) (v : List S59) (c : Int) (hl : l.length ≤ 1048576) (hv : v.length ≤ 1048577) : Ev (fun k => impl_IsMajority.f k l v c) (mIsMajority l v c) := by
  unfold impl_IsMajority.f mIsMajority
  refine Ev.bind (implAV_ev l v hl hv) ?_
  cases mAreVotes l v with
  | false => exact Ev.now _
  | true =>
    simp only [if_true]
    refine Ev.bind (ev_at (implCF_at v c hv)) ?_
    have := mCount_range v c
    rw [wrap_id (by omega) (by omega), Bool.true_and]
    exact Ev.now _
def bestFrom (cnt : Int → Int) : Int → Int → Nat → Int
  | b, _, 0 => b
  | b, c, d + 1 => bestFrom cnt (if cnt c > cnt b then c else b) (c + 1) d
theorem bestFrom_succ (cnt : Int → Int) (b c : Int) (d : Nat) : bestFrom cnt b c (d + 1) = bestFrom cnt (if cnt c > cnt b then c else b) (c + 1) d := rfl
theorem best_first (cnt : Int → Int) : bestFrom cnt 0 0 10 = bestFrom cnt 0 1 9 := by
  rw [bestFrom_succ cnt 0 0 9, if_neg (by omega), Int.zero_add]
def stepO (v : List S59) (leader b : Int) : Nat → Unit → S59 → Int ⊕ Unit := fun _ _ x => if x.f0 = leader ∧ mCount v x.f1 = mCount v b then .inl x.f1 else .inr ()
def mOutcome (l : List S68) (v : List S59) (leader : Int) : Int := if v = [] ∨ mAreVotes l v = false then -1 else run (stepO v leader (bestFrom (mCount v) 0 1 9)) (fun _ => bestFrom (mCount v) 0 1 9) 0 () v
theorem implO1_at (v : List S59) (leader b : Int) (hv : v.length ≤ 1048577) : ∀ k, v.length + (v.length + 1) < k → impl_Outcome.l1 k v leader b v (v.length : Int) 0 = some (run (stepO v leader b) (fun _ => b) 0 () v) :=
  at_loop (fun k _ i => impl_Outcome.l1 k v leader b v (v.length : Int) i) v (stepO v leader b) (fun _ => b) (by omega) () (v.length + 1)
    (fun k s _ => by simp only [impl_Outcome.l1]; rw [if_neg (by omega)])
    (fun k s i x hk hx hw => by
      have hi := lt_of_get hx
      have hr : rd_T59 v (i : Int) = x := getD_of z59 hx
      simp only [impl_Outcome.l1, hr, hw]; rw [if_pos (by omega), if_pos (by omega), if_pos (by omega)]
      simp only [implCF_at v _ hv k (by omega), Option.bind_some, stepO]
      by_cases c1 : x.f0 = leader
      · by_cases c2 : mCount v x.f1 = mCount v b
        · rw [if_pos c1, if_pos c2, if_pos ⟨c1, c2⟩]; rfl
        · rw [if_pos c1, if_neg c2, if_neg (fun h => c2 h.2)]; rfl
      · rw [if_neg c1, if_neg (fun h => c1 h.1)]; rfl)
theorem implO0_ev (v : List S59) (leader : Int) (hv : v.length ≤ 1048577) : ∀ (d : Nat) (b c : Int), c + d = 10 → 0 ≤ c → Ev (fun k => impl_Outcome.l0 k v leader b c) (run (stepO v leader (bestFrom (mCount v) b c d)) (fun _ => bestFrom (mCount v) b c d) 0 () v)
  | 0, b, c, hc, h0 => by
    refine Ev.step (f := fun k => impl_Outcome.l1 k v leader b v (v.length : Int) 0) (fun k => ?_) (ev_at (implO1_at v leader b hv))
    simp only [impl_Outcome.l0]
    rw [if_neg (by omega)]
  | d + 1, b, c, hc, h0 => by
    refine Ev.step (f := fun k => (impl_CountFor.f k v c).bind fun t152 => (impl_CountFor.f k v b).bind fun t153 => if t152 > t153 then impl_Outcome.l0 k v leader c (c + 1) else impl_Outcome.l0 k v leader b (c + 1)) (fun k => ?_) ?_
    · simp only [impl_Outcome.l0, wrap_id (n := c + 1) (by omega) (by omega)]
      rw [if_pos (by omega)]
    · refine Ev.bind (ev_at (implCF_at v c hv)) ?_
      refine Ev.bind (ev_at (implCF_at v b hv)) ?_
      have ih := implO0_ev v leader hv d (if mCount v c > mCount v b then c else b) (c + 1) (by omega) (by omega)
      rw [bestFrom_succ]
      by_cases c1 : mCount v c > mCount v b
      · simp only [if_pos c1] at ih ⊢
        exact ih
      · simp only [if_neg c1] at ih ⊢
        exact ih
theorem implO_ev (l : List S68) (v : List S59) (leader : Int) (hl : l.length ≤ 1048576) (hv : v.length ≤ 1048577) : Ev (fun k => impl_Outcome.f k l v leader) (mOutcome l v leader) := by
  unfold impl_Outcome.f mOutcome
  have hbad : Ev (fun k => impl_Outcome.j0 k v leader true) (-1) := Ev.step (f := fun _ => some (-1)) (fun k => by simp [impl_Outcome.j0]) (Ev.now _)
  by_cases c : v = []
  · rw [if_pos (.inl c)]
    simp only [c, List.length_nil] at hbad ⊢
    exact hbad
  · have hne : ¬ (v.length : Int) = 0 := by
      have := List.length_pos_iff.2 c
      omega
    simp only [if_neg hne]
    refine Ev.bind (implAV_ev l v hl hv) ?_
    cases ha : mAreVotes l v with
    | false => rw [if_pos (.inr rfl)]; exact hbad
    | true =>
      rw [if_neg (by simp [c])]
      have h := implO0_ev v leader hv 10 0 0 (by omega) (by omega)
      rw [best_first] at h
      exact Ev.step (f := fun k => impl_Outcome.l0 k v leader 0 0) (fun k => by simp [impl_Outcome.j0]) h
def addRep (v : S59) : List S59 → List S59 × Bool
  | [] => ([], false)
  | x :: t => if x.f0 = v.f0 then (v :: t, true) else (x :: (addRep v t).1, (addRep v t).2)
theorem addRep_len (v : S59) : ∀ l, (addRep v l).1.length = l.length
  | [] => rfl
  | x :: t => by
    simp only [addRep]
    split
    · rfl
    · simp [addRep_len v t]
def finAV (c : List S68) (l : List S59) (v : S59) (s : List S59 × Bool) : List S59 × Bool :=
  if s.2 = true then (if mAreVotes c s.1 = true then (s.1, true) else (l, false)) else (if mAreVotes c (s.1 ++ [v]) = true then (s.1 ++ [v], true) else (l, false))
def mAddVote (c : List S68) (l : List S59) (v : S59) : List S59 × Bool := finAV c l v (addRep v l)
theorem mAddVote_len (c : List S68) (l : List S59) (v : S59) : (mAddVote c l v).1.length ≤ l.length + 1 := by
  have := addRep_len v l
  simp only [mAddVote, finAV]
  split
  · split <;> simp <;> omega
  · split <;> simp <;> omega
theorem implAdd_end (c : List S68) (l : List S59) (a b : Int) (hc : c.length ≤ 1048576) (hl : l.length ≤ 1048576) (xs : List S59) (d : Bool) (hx : xs.length = l.length) : Ev (fun k => impl_AddVote.l0 k c l xs d (l.length : Int) (l.length : Int) a b) (finAV c l ⟨a, b⟩ (xs, d)) := by
  have h3 : ([] : List S59).length + l.length < 8796093022208 := by simp; omega
  have h4 : xs.length < 8796093022208 := by omega
  have h5 : (xs ++ [(⟨a, b⟩ : S59)]).length ≤ 1048577 := by simp; omega
  refine Ev.step (f := fun k => if d = true then ((impl_AreVotes.f k c xs).bind fun t159 => (if t159 = true then (some (xs, true)) else ((some (([] : List (S59)) : List (S59))).bind fun y160 => (if y160.length + l.length < 8796093022208 then (some ((y160 ++ l), false)) else (none))))) else (if xs.length < 8796093022208 then ((some (xs ++ [(⟨a, b⟩ : S59)] : List (S59))).bind fun y166 => ((impl_AreVotes.f k c y166).bind fun t169 => (if t169 = true then (some (y166, true)) else ((some (([] : List (S59)) : List (S59))).bind fun y170 => (if y170.length + l.length < 8796093022208 then (some ((y170 ++ l), false)) else (none)))))) else (none))) (fun k => by simp only [impl_AddVote.l0]; rw [if_neg (by omega)]) ?_
  cases d with
  | true =>
    simp only [if_true, h3, Option.bind_some, List.nil_append, finAV]
    refine Ev.bind (implAV_ev c xs hc (by omega)) ?_
    cases mAreVotes c xs <;> exact Ev.now _
  | false =>
    simp only [Bool.false_eq_true, if_false, if_true, h3, h4, Option.bind_some, List.nil_append, finAV]
    refine Ev.bind (implAV_ev c _ hc h5) ?_
    cases mAreVotes c (xs ++ [⟨a, b⟩]) <;> exact Ev.now _
theorem implAdd_done (c : List S68) (l : List S59) (a b : Int) (hc : c.length ≤ 1048576) (hl : l.length ≤ 1048576) (xs : List S59) (hx : xs.length = l.length) : ∀ (n i : Nat), i + n = l.length → Ev (fun k => impl_AddVote.l0 k c l xs true (l.length : Int) (i : Int) a b) (finAV c l ⟨a, b⟩ (xs, true))
  | 0, i, h => by
    obtain rfl : i = l.length := by omega
    exact implAdd_end c l a b hc hl xs true hx
  | n + 1, i, h => by
    have ih := implAdd_done c l a b hc hl xs hx n (i + 1) (by omega)
    refine Ev.step (f := fun k => impl_AddVote.l0 k c l xs true (l.length : Int) ((i + 1 : Nat) : Int) a b) (fun k => ?_) ih
    simp only [impl_AddVote.l0, wrapi i (by omega), if_true]
    rw [if_pos (by omega), Int.natCast_add, Int.natCast_one]
theorem implAdd_down (c : List S68) (l : List S59) (a b : Int) (hc : c.length ≤ 1048576) (hl : l.length ≤ 1048576) : ∀ (t d : List S59), (d ++ t).length = l.length → Ev (fun k => impl_AddVote.l0 k c l (d ++ t) false (l.length : Int) (d.length : Int) a b) (finAV c l ⟨a, b⟩ (d ++ (addRep ⟨a, b⟩ t).1, (addRep ⟨a, b⟩ t).2))
  | [], d, h => by
    simp only [List.append_nil, addRep] at h ⊢
    have h' := implAdd_end c l a b hc hl d false h
    rw [show (l.length : Int) = (d.length : Int) from by omega] at h' ⊢
    exact h'
  | x :: t, d, h => by
    have hlen : d.length + (t.length + 1) = l.length := by simpa using h
    have hr : rd_T59 (d ++ x :: t) (d.length : Int) = x := getD_of z59 (by simp)
    by_cases e : x.f0 = a
    · refine Ev.step (f := fun k => impl_AddVote.l0 k c l (d ++ ⟨a, b⟩ :: t) true (l.length : Int) ((d.length + 1 : Nat) : Int) a b) (fun k => ?_) ?_
      · simp only [impl_AddVote.l0, wrapi d.length (by omega), hr, if_pos e, Bool.false_eq_true, if_false, Int.toNat_natCast, set_append _ _ _ _ _ rfl]
        rw [if_pos (by omega), if_pos (by omega), if_pos (by simp; omega)]
        simp
      · simp only [addRep, if_pos e]
        exact implAdd_done c l a b hc hl _ (by simpa using h) t.length (d.length + 1) (by omega)
    · have ih := implAdd_down c l a b hc hl t (d ++ [x]) (by simpa using h)
      simp only [List.append_assoc, List.singleton_append, List.length_append, List.length_singleton] at ih
      refine Ev.step (f := fun k => impl_AddVote.l0 k c l (d ++ x :: t) false (l.length : Int) ((d.length + 1 : Nat) : Int) a b) (fun k => ?_) ?_
      · simp only [impl_AddVote.l0, wrapi d.length (by omega), hr, if_neg e, Bool.false_eq_true, if_false]
        rw [if_pos (by omega), if_pos (by omega), if_pos (by simp; omega)]
        simp
      · simp only [addRep, if_neg e]
        exact ih
theorem implAdd_ev (c : List S68) (l : List S59) (a b : Int) (hc : c.length ≤ 1048576) (hl : l.length ≤ 1048576) : Ev (fun k => impl_AddVote.f k c l a b) (mAddVote c l ⟨a, b⟩) := by
  have h3 : ([] : List S59).length + l.length < 8796093022208 := by simp; omega
  simp only [impl_AddVote.f, Option.bind_some, h3, if_true, List.nil_append]
  exact implAdd_down c l a b hc hl l [] rfl
/-! What a draw gives: that it ends, and the range of what it tells. -/
def Gets {ρ : Type} (P : ρ → Prop) (g : Nat → Option ρ) : Prop := ∃ r, P r ∧ Ev g r
theorem Gets.bind {α β : Type} {P : α → Prop} {Q : β → Prop} {f : Nat → Option α} {g : Nat → α → Option β} (hf : Gets P f) (hg : ∀ r, P r → Gets Q (fun k => g k r)) : Gets Q (fun k => (f k).bind (g k)) := by
  obtain ⟨r, hr, he⟩ := hf
  obtain ⟨s, hs, he'⟩ := hg r hr
  exact ⟨s, hs, Ev.bind he he'⟩
theorem Gets.ev {α β : Type} {P : α → Prop} {f : Nat → Option α} {g : Nat → α → Option β} {b : β} (hf : Gets P f) (hg : ∀ r, P r → Ev (fun k => g k r) b) : Ev (fun k => (f k).bind (g k)) b := by
  obtain ⟨r, hr, he⟩ := hf
  exact Ev.bind he (hg r hr)
theorem Gets.now {ρ : Type} {P : ρ → Prop} {r : ρ} (h : P r) : Gets P (fun _ => some r) := ⟨r, h, Ev.now _⟩
theorem Gets.step {ρ : Type} {P : ρ → Prop} {f g : Nat → Option ρ} (h : ∀ k, g (k + 1) = f k) (hf : Gets P f) : Gets P g := by
  obtain ⟨r, hr, he⟩ := hf
  exact ⟨r, hr, Ev.step h he⟩
theorem Gets.congr {ρ : Type} {P : ρ → Prop} {f g : Nat → Option ρ} (h : ∀ k, g k = f k) (hf : Gets P f) : Gets P g := by
  have e : g = f := funext h
  rw [e]; exact hf
theorem Gets.mono {ρ : Type} {P Q : ρ → Prop} {f : Nat → Option ρ} (h : ∀ r, P r → Q r) (hf : Gets P f) : Gets Q f := by
  obtain ⟨r, hr, he⟩ := hf
  exact ⟨r, h r hr, he⟩
def OkC (b : List Int) (i : Int) : Prop := b.length ≤ 1048576 ∧ 0 ≤ i ∧ i ≤ 1048576
theorem and255 (x : Int) : 0 ≤ Go.bits .and .i64 x 255 ∧ Go.bits .and .i64 x 255 ≤ 255 := by
  have h : ((BitVec.ofInt 64 x) &&& (BitVec.ofInt 64 255)).toNat ≤ 255 := by
    rw [BitVec.toNat_and]
    exact Nat.le_trans Nat.and_le_right (by decide)
  have e : Go.bits .and .i64 x 255 = wrap64 (((BitVec.ofInt 64 x) &&& (BitVec.ofInt 64 255)).toNat : Int) := by simp only [Go.bits, i64_w]; rfl
  rw [e, wrap_id (by omega) (by omega)]
  omega
theorem byte_ok (b : List Int) (i h : Int) (hc : OkC b i) : ∃ v i' h', spec_l1Byte.f b i h = some (v, i', h') ∧ 0 ≤ v ∧ v ≤ 255 ∧ OkC b i' := by
  obtain ⟨h1, h2, h3⟩ := hc
  unfold spec_l1Byte.f
  by_cases c : i < (b.length : Int)
  · rw [if_pos c, if_pos h2, wrap_id (n := i + 1) (by omega) (by omega)]
    exact ⟨_, _, _, rfl, (and255 _).1, (and255 _).2, h1, by omega, by omega⟩
  · rw [if_neg c]
    exact ⟨_, _, _, rfl, (and255 _).1, (and255 _).2, h1, h2, h3⟩
theorem tmod_range (a n : Int) (ha : 0 ≤ a) (hn : 0 < n) : 0 ≤ Int.tmod a n ∧ Int.tmod a n < n := by
  rw [Int.tmod_eq_emod_of_nonneg ha]
  exact ⟨Int.emod_nonneg _ (by omega), Int.emod_lt_of_pos _ hn⟩
theorem below_ok (b : List Int) (i h n : Int) (hc : OkC b i) : ∃ v i' h', spec_l1Below.f b i h n = some (v, i', h') ∧ 0 ≤ v ∧ (0 < n → v < n) ∧ OkC b i' := by
  unfold spec_l1Below.f
  by_cases c : n ≤ 0
  · rw [if_pos c]
    exact ⟨_, _, _, rfl, by omega, by omega, hc⟩
  · rw [if_neg c]
    by_cases c2 : n ≤ 256
    · obtain ⟨v, i', h', e, h0, h1, hc'⟩ := byte_ok b i h hc
      rw [if_pos c2, e]
      simp only [Option.bind_some]
      rw [if_neg (by omega)]
      have := tmod_range v n h0 (by omega)
      exact ⟨_, _, _, rfl, this.1, fun _ => this.2, hc'⟩
    · obtain ⟨v1, i1, h1, e1, a1, b1, hc1⟩ := byte_ok b i h hc
      obtain ⟨v2, i2, h2, e2, a2, b2, hc2⟩ := byte_ok b i1 h1 hc1
      obtain ⟨v3, i3, h3, e3, a3, b3, hc3⟩ := byte_ok b i2 h2 hc2
      rw [if_neg c2, e1]
      simp only [Option.bind_some, e2, e3]
      rw [if_neg (by omega), wrap_id (n := v1 * 65536) (by omega) (by omega), wrap_id (n := v2 * 256) (by omega) (by omega), wrap_id (n := v1 * 65536 + v2 * 256) (by omega) (by omega), wrap_id (by omega) (by omega)]
      have := tmod_range (v1 * 65536 + v2 * 256 + v3) n (by omega) (by omega)
      exact ⟨_, _, _, rfl, this.1, fun _ => this.2, hc3⟩
theorem once_ok (b : List Int) (i h n : Int) (hc : OkC b i) : ∃ v i' h', spec_l1Once.f b i h n = some (v, i', h') ∧ OkC b i' := by
  obtain ⟨v, i', h', e, _, _, hc'⟩ := below_ok b i h n hc
  unfold spec_l1Once.f
  rw [e]
  exact ⟨_, _, _, rfl, hc'⟩
theorem int_ok (b : List Int) (i h : Int) (l : List Int) (hl : 0 < l.length) (hc : OkC b i) : ∃ v i' h', spec_l1Int.f b i h l = some (v, i', h') ∧ v ∈ l ∧ OkC b i' := by
  obtain ⟨v, i', h', e, h0, h1, hc'⟩ := below_ok b i h (l.length : Int) hc
  have h1 := h1 (by omega)
  unfold spec_l1Int.f
  rw [e]
  simp only [Option.bind_some]
  rw [if_pos h0, if_pos h1]
  refine ⟨_, _, _, rfl, ?_, hc'⟩
  have : v.toNat < l.length := by omega
  simp only [rd, List.getD_eq_getElem?_getD, List.getElem?_eq_getElem this, Option.getD_some]
  exact List.getElem_mem _
theorem new_down (b : List Int) (hb : b.length ≤ 1048576) : ∀ (n i : Nat) (h : Int), i + n = b.length → ∃ h', Ev (fun k => spec_l1New.l0 k b h (i : Int)) (b, 0, h')
  | 0, i, h, hi => ⟨h, Ev.step (f := fun _ => some (b, 0, h)) (fun k => by simp only [spec_l1New.l0]; rw [if_neg (by omega)]) (Ev.now _)⟩
  | n + 1, i, h, hi => by
    by_cases c : (i : Int) < 4000
    · obtain ⟨h', ih⟩ := new_down b hb n (i + 1) (Go.bits .and .i64 (wrap64 ((wrap64 ((wrap64 (h * 137)) + (wrap64 (rd b (i : Int))))) + 11)) 1073741823) (by omega)
      refine ⟨h', Ev.step (f := fun k => spec_l1New.l0 k b (Go.bits .and .i64 (wrap64 ((wrap64 ((wrap64 (h * 137)) + (wrap64 (rd b (i : Int))))) + 11)) 1073741823) ((i + 1 : Nat) : Int)) (fun k => ?_) ih⟩
      simp only [spec_l1New.l0, wrapi i (by omega)]
      rw [if_pos (by omega), if_pos c, if_pos (by omega), Int.natCast_add, Int.natCast_one]
    · refine ⟨h, Ev.step (f := fun _ => some (b, 0, h)) (fun k => ?_) (Ev.now _)⟩
      simp only [spec_l1New.l0]
      rw [if_pos (by omega), if_neg c]
theorem new_ok (b : List Int) (hb : b.length ≤ 1048576) : Gets (fun r => r.1 = b ∧ OkC r.1 r.2.1) (fun k => spec_l1New.f k b) := by
  obtain ⟨h', he⟩ := new_down b hb b.length 0 (wrap64 (193017 + (b.length : Int))) (by omega)
  exact ⟨(b, 0, h'), ⟨rfl, hb, Int.le_refl 0, show (0 : Int) ≤ 1048576 by decide⟩, he⟩
/-- The drawn crew: Ids 1, 2, .. in order, hunger 0..8, trust 1. -/
def Crew16 (l : List S68) : Prop := l.length ≤ 9 ∧ ∀ (i : Nat) (x : S68), l[i]? = some x → x.f0 = (i : Int) + 1 ∧ (0 ≤ x.f1 ∧ x.f1 ≤ 8) ∧ x.f2 = 1
theorem crew16_push {l : List S68} (h : Crew16 l) (hl : l.length ≤ 8) (a b : Int) (f : Bool) (ha : a = (l.length : Int) + 1) (hb : 0 ≤ b ∧ b ≤ 8) : Crew16 (l ++ [⟨a, b, 1, f⟩]) := by
  refine ⟨by simp; omega, fun i x hx => ?_⟩
  rw [List.getElem?_append] at hx
  split at hx
  · exact h.2 i x hx
  · rename_i hi
    have : i - l.length = 0 := by
      refine Decidable.byContradiction fun hne => ?_
      rw [List.getElem?_eq_none (by simp; omega)] at hx
      cases hx
    rw [this] at hx
    simp only [List.getElem?_cons_zero, Option.some.injEq] at hx
    subst hx
    exact ⟨by show a = _; omega, hb, rfl⟩
theorem crew_down (b : List Int) : ∀ (n : Nat) (xs : List S68) (i h : Int), xs.length + n = 9 → Crew16 xs → OkC b i →
    Gets (fun r => (Crew16 r.1 ∧ xs.length ≤ r.1.length ∧ (xs.length = 0 → 0 < r.1.length)) ∧ OkC b r.2.1) (fun k => spec_l16Crew.l0 k xs ((xs.length : Int) + 1) b i h)
  | 0, xs, i, h, hn, hx, hc => by
    obtain ⟨v, i', h', e, v0, v1, hc'⟩ := below_ok b i h 8 hc
    have v1 := v1 (by omega)
    refine Gets.step (f := fun _ => some (xs, i', h')) (fun k => ?_) (Gets.now ⟨⟨hx, Nat.le_refl _, fun h0 => by omega⟩, hc'⟩)
    simp only [spec_l16Crew.l0, e, Option.bind_some]
    rw [wrap_id (n := 1 + v) (by omega) (by omega), if_neg (by omega)]
  | n + 1, xs, i, h, hn, hx, hc => by
    obtain ⟨v, i', h', e, v0, v1, hc'⟩ := below_ok b i h 8 hc
    have v1 := v1 (by omega)
    by_cases c : (xs.length : Int) + 1 ≤ 1 + v
    · obtain ⟨v2, i2, h2, e2, a2, b2, hc2⟩ := below_ok b i' h' 9 hc'
      have b2 := b2 (by omega)
      obtain ⟨v3, i3, h3, e3, hc3⟩ := once_ok b i2 h2 6 hc2
      have ih := crew_down b n (xs ++ [⟨(xs.length : Int) + 1, v2, 1, v3⟩]) i3 h3 (by simp; omega) (crew16_push hx (by omega) _ _ _ rfl ⟨a2, by omega⟩) hc3
      rw [List.length_append, List.length_singleton] at ih
      refine Gets.step (f := fun k => spec_l16Crew.l0 k (xs ++ [⟨(xs.length : Int) + 1, v2, 1, v3⟩]) (((xs.length + 1 : Nat) : Int) + 1) b i3 h3) (fun k => ?_) (Gets.mono (fun r hr => ⟨⟨hr.1.1, by omega, fun _ => by omega⟩, hr.2⟩) ih)
      simp only [spec_l16Crew.l0, e, e2, e3, Option.bind_some]
      rw [wrap_id (n := 1 + v) (by omega) (by omega), if_pos c, if_pos (by omega), wrap_id (by omega) (by omega), Int.natCast_add, Int.natCast_one]
    · refine Gets.step (f := fun _ => some (xs, i', h')) (fun k => ?_) (Gets.now ⟨⟨hx, Nat.le_refl _, fun h0 => by omega⟩, hc'⟩)
      simp only [spec_l16Crew.l0, e, Option.bind_some]
      rw [wrap_id (n := 1 + v) (by omega) (by omega), if_neg c]
theorem crew_ok (b : List Int) (i h : Int) (hc : OkC b i) : Gets (fun r => (Crew16 r.1 ∧ 0 < r.1.length) ∧ OkC b r.2.1) (fun k => spec_l16Crew.f k b i h) := by
  have := crew_down b 9 [] i h rfl ⟨by simp, fun i x hx => by simp at hx⟩ hc
  exact Gets.mono (fun r hr => ⟨⟨hr.1.1, hr.1.2.2 rfl⟩, hr.2⟩) this
theorem votes_down (b : List Int) (l : List S68) (hl : l.length ≤ 9) : ∀ (n i6 : Nat) (v : List S59) (i h : Int), i6 + n = l.length → v.length ≤ i6 → OkC b i →
    Gets (fun r => (r.1.length ≤ 9 ∧ r.2.1.length ≤ 9) ∧ OkC b r.2.2.1) (fun k => spec_l19Any.l0 k l v (i6 : Int) b i h)
  | 0, i6, v, i, h, hn, hv, hc => by
    by_cases c0 : (v.length : Int) > 0
    · obtain ⟨v1, i1, h1, e1, a1, b1, hc1⟩ := below_ok b i h 10 hc
      by_cases q0 : v1 = 0
      · obtain ⟨v2, i2, h2, e2, a2, b2, hc2⟩ := below_ok b i1 h1 12 hc1
        refine Gets.step (f := fun _ => some (l, v.set (0 : Int).toNat (⟨v2, (rd_T59 v 0).f1⟩ : S59), i2, h2)) (fun k => ?_) (Gets.now ⟨⟨hl, by rw [List.length_set]; omega⟩, hc2⟩)
        simp only [spec_l19Any.l0, e1, Option.bind_some]
        rw [if_neg (by omega), if_pos c0, if_pos q0, e2]
        simp only [Option.bind_some]
        rw [if_pos (by omega)]
      · by_cases q1 : v1 = 1
        · obtain ⟨v2, i2, h2, e2, _, hc2⟩ := int_ok b i1 h1 [-1, 9, 10] (by decide) hc1
          refine Gets.step (f := fun _ => some (l, v.set (0 : Int).toNat (⟨(rd_T59 v 0).f0, v2⟩ : S59), i2, h2)) (fun k => ?_) (Gets.now ⟨⟨hl, by rw [List.length_set]; omega⟩, hc2⟩)
          simp only [spec_l19Any.l0, e1, Option.bind_some]
          rw [if_neg (by omega), if_pos c0, if_neg q0, if_pos q1, e2]
          simp only [Option.bind_some]
          rw [if_pos (by omega)]
        · refine Gets.step (f := fun _ => some (l, v, i1, h1)) (fun k => ?_) (Gets.now ⟨⟨hl, by show v.length ≤ 9; omega⟩, hc1⟩)
          simp only [spec_l19Any.l0, e1, Option.bind_some]
          rw [if_neg (by omega), if_pos c0, if_neg q0, if_neg q1]
    · refine Gets.step (f := fun _ => some (l, v, i, h)) (fun k => ?_) (Gets.now ⟨⟨hl, by show v.length ≤ 9; omega⟩, hc⟩)
      simp only [spec_l19Any.l0]
      rw [if_neg (by omega), if_neg c0]
  | n + 1, i6, v, i, h, hn, hv, hc => by
    obtain ⟨u, i1, h1, e1, hc1⟩ := once_ok b i h 4 hc
    cases u with
    | true =>
      refine Gets.step (f := fun k => spec_l19Any.l0 k l v ((i6 + 1 : Nat) : Int) b i1 h1) (fun k => ?_) (votes_down b l hl n (i6 + 1) v i1 h1 (by omega) (by omega) hc1)
      simp only [spec_l19Any.l0, e1, Option.bind_some, wrapi i6 (by omega), if_true]
      rw [if_pos (by omega), Int.natCast_add, Int.natCast_one]
    | false =>
      obtain ⟨v2, i2, h2, e2, a2, b2, hc2⟩ := below_ok b i1 h1 3 hc1
      refine Gets.step (f := fun k => spec_l19Any.l0 k l (v ++ [(⟨(rd_T68 l (i6 : Int)).f0, v2⟩ : S59)]) ((i6 + 1 : Nat) : Int) b i2 h2) (fun k => ?_) (votes_down b l hl n (i6 + 1) _ i2 h2 (by omega) (by simp; omega) hc2)
      simp only [spec_l19Any.l0, e1, e2, Option.bind_some, wrapi i6 (by omega), Bool.false_eq_true, if_false]
      rw [if_pos (by omega), if_pos (by omega), if_pos (by omega), Int.natCast_add, Int.natCast_one]
theorem drawAreVotes_ok (b : List Int) (hb : b.length ≤ 1048576) : Gets (fun r => r.1.length ≤ 9 ∧ r.2.length ≤ 9) (fun k => spec_DrawAreVotes.f k b) := by
  unfold spec_DrawAreVotes.f
  refine Gets.bind (new_ok b hb) ?_
  rintro ⟨b', i1, h1⟩ ⟨rfl, hc1⟩
  simp only at hc1 ⊢
  have hv : Gets (fun r => (r.1.length ≤ 9 ∧ r.2.1.length ≤ 9) ∧ OkC b' r.2.2.1) (fun k => spec_l19Any.f k b' i1 h1) := by
    unfold spec_l19Any.f
    refine Gets.bind (crew_ok b' i1 h1 hc1) ?_
    rintro ⟨l, i2, h2⟩ ⟨⟨hx, _⟩, hc2⟩
    exact votes_down b' l hx.1 l.length 0 [] i2 h2 (by omega) (Nat.le_refl _) hc2
  refine Gets.bind hv ?_
  rintro ⟨l, v, i2, h2⟩ ⟨hx, hc2⟩
  exact Gets.now hx
theorem drawOutcome_ok (b : List Int) (hb : b.length ≤ 1048576) : Gets (fun r => r.1.length ≤ 9 ∧ r.2.1.length ≤ 9) (fun k => spec_DrawOutcome.f k b) := by
  unfold spec_DrawOutcome.f
  refine Gets.bind (drawAreVotes_ok b hb) ?_
  intro r hr
  refine Gets.bind (new_ok b hb) ?_
  rintro ⟨b', i1, h1⟩ ⟨rfl, hc1⟩
  simp only at hc1 ⊢
  obtain ⟨v5, i5, h5, e5, _, _, hc5⟩ := below_ok b' i1 h1 9 hc1
  simp only [e5, Option.bind_some]
  exact Gets.now hr
theorem drawAddVote_ok (b : List Int) (hb : b.length ≤ 1048576) : Gets (fun r => r.1.length ≤ 9 ∧ r.2.1.length ≤ 9) (fun k => spec_DrawAddVote.f k b) := by
  unfold spec_DrawAddVote.f
  refine Gets.bind (drawAreVotes_ok b hb) ?_
  intro r hr
  refine Gets.bind (new_ok b hb) ?_
  rintro ⟨b', i1, h1⟩ ⟨rfl, hc1⟩
  simp only at hc1 ⊢
  obtain ⟨v5, i5, h5, e5, _, _, hc5⟩ := below_ok b' i1 h1 10 hc1
  obtain ⟨v7, i7, h7, e7, _, hc7⟩ := int_ok b' i5 h5 [0, 1, 2, 9, 10] (by simp) hc5
  simp only [e5, e7, Option.bind_some]
  exact Gets.now hr
theorem run_votes (l : List S68) (b : Bool) : ∀ (v : List S59) (i : Nat) (s : List Int), s.Nodup → run (stepAV l) (fun _ => b) i s v = true →
    (∀ x ∈ v, x.f0 ∈ l.map (·.f0) ∧ 0 ≤ x.f1 ∧ x.f1 ≤ 9) ∧ (s ++ v.map (·.f0)).Nodup
  | [], i, s, hs, _ => ⟨fun x hx => (by cases hx), by simpa using hs⟩
  | x :: t, i, s, hs, h => by
    by_cases c : okVote l s x
    · rw [run_inr (show stepAV l i s x = .inr (s ++ [x.f0]) from if_pos c)] at h
      have hs' : (s ++ [x.f0]).Nodup := by
        rw [List.nodup_append]
        refine ⟨hs, by simp, fun a ha b' hb' => ?_⟩
        obtain rfl := List.mem_singleton.1 hb'
        exact fun e => c.2.1 (e ▸ ha)
      obtain ⟨h1, h2⟩ := run_votes l b t (i + 1) (s ++ [x.f0]) hs' h
      refine ⟨fun y hy => ?_, by simpa using h2⟩
      rcases List.mem_cons.1 hy with rfl | hy
      · exact ⟨c.1, c.2.2.1, c.2.2.2⟩
      · exact h1 y hy
    · rw [run_inl (show stepAV l i s x = .inl false from if_neg c)] at h
      cases h
theorem sub_len : ∀ (a b : List Int), a.Nodup → (∀ x ∈ a, x ∈ b) → a.length ≤ b.length
  | [], b, _, _ => Nat.zero_le _
  | x :: t, b, h, hs => by
    have hx := hs x (List.mem_cons_self ..)
    have hn := List.nodup_cons.1 h
    have ih := sub_len t (b.erase x) hn.2 (fun y hy => (List.mem_erase_of_ne (show y ≠ x from fun e => hn.1 (by rw [← e]; exact hy))).2 (hs y (List.mem_cons_of_mem _ hy)))
    have hl := List.length_erase_of_mem hx
    have hp := List.length_pos_of_mem hx
    rw [List.length_cons]
    omega
theorem votes_len {l : List S68} {v : List S59} (h : mAreVotes l v = true) : v.length ≤ l.length := by
  obtain ⟨h1, h2⟩ := run_votes l _ v 0 [] List.nodup_nil h
  have := sub_len (v.map (·.f0)) (l.map (·.f0)) (by simpa using h2) (fun x hx => by
    obtain ⟨y, hy, rfl⟩ := List.mem_map.1 hx
    exact (h1 y hy).1)
  simpa using this
theorem two_counts (a b : Int) (hab : a ≠ b) : ∀ v : List S59, mCount v a + mCount v b ≤ v.length
  | [] => by simp [mCount]
  | x :: t => by
    have ih := two_counts a b hab t
    unfold mCount at ih ⊢
    simp only [List.filter_cons, List.length_cons]
    by_cases ha : x.f1 = a
    · have hb : x.f1 ≠ b := fun e => hab (ha ▸ e)
      simp only [ha, decide_true, if_true, List.length_cons, decide_eq_false (show ¬ a = b from hab), Bool.false_eq_true, if_false]
      omega
    · by_cases hb : x.f1 = b
      · simp only [hb, decide_true, if_true, List.length_cons, decide_eq_false (show ¬ b = a from fun e => hab e.symm), Bool.false_eq_true, if_false]
        omega
      · simp only [decide_eq_false ha, decide_eq_false hb, Bool.false_eq_true, if_false]
        omega
theorem best_max (cnt : Int → Int) : ∀ (d : Nat) (b c : Int), cnt b ≤ cnt (bestFrom cnt b c d) ∧ (∀ j : Nat, j < d → cnt (c + j) ≤ cnt (bestFrom cnt b c d)) ∧ (bestFrom cnt b c d = b ∨ (c ≤ bestFrom cnt b c d ∧ bestFrom cnt b c d < c + d))
  | 0, b, c => ⟨Int.le_refl _, fun j hj => by omega, .inl rfl⟩
  | d + 1, b, c => by
    rw [bestFrom_succ]
    by_cases hc : cnt c > cnt b
    · rw [if_pos hc]
      obtain ⟨h1, h2, h3⟩ := best_max cnt d c (c + 1)
      refine ⟨by omega, fun j hj => ?_, .inr (by omega)⟩
      rcases Nat.eq_zero_or_pos j with rfl | hp
      · rw [show c + ((0 : Nat) : Int) = c from by omega]
        exact h1
      · have := h2 (j - 1) (by omega)
        rw [show c + 1 + ((j - 1 : Nat) : Int) = c + j from by omega] at this
        exact this
    · rw [if_neg hc]
      obtain ⟨h1, h2, h3⟩ := best_max cnt d b (c + 1)
      refine ⟨h1, fun j hj => ?_, h3.imp id (fun h => by omega)⟩
      rcases Nat.eq_zero_or_pos j with rfl | hp
      · rw [show c + ((0 : Nat) : Int) = c from by omega]
        omega
      · have := h2 (j - 1) (by omega)
        rw [show c + 1 + ((j - 1 : Nat) : Int) = c + j from by omega] at this
        exact this
theorem run_stepO (v : List S59) (leader b : Int) : ∀ (t : List S59) (i : Nat), (run (stepO v leader b) (fun _ => b) i () t = b) ∨ ∃ x ∈ t, run (stepO v leader b) (fun _ => b) i () t = x.f1 ∧ mCount v x.f1 = mCount v b
  | [], i => .inl rfl
  | x :: t, i => by
    by_cases c : x.f0 = leader ∧ mCount v x.f1 = mCount v b
    · rw [run_inl (show stepO v leader b i () x = .inl x.f1 from if_pos c)]
      exact .inr ⟨x, List.mem_cons_self .., rfl, c.2⟩
    · rw [run_inr (show stepO v leader b i () x = .inr () from if_neg c)]
      rcases run_stepO v leader b t (i + 1) with h | ⟨y, hy, h⟩
      · exact .inl h
      · exact .inr ⟨y, List.mem_cons_of_mem _ hy, h⟩
theorem outcome_spec {l : List S68} {v : List S59} (leader : Int) (hv : v ≠ []) (ha : mAreVotes l v = true) :
    0 ≤ mOutcome l v leader ∧ ∀ k : Int, 0 ≤ k → k ≤ 9 → mCount v k ≤ mCount v (mOutcome l v leader) := by
  unfold mOutcome
  rw [if_neg (by simp [hv, ha])]
  obtain ⟨b1, b2, b3⟩ := best_max (mCount v) 9 0 1
  generalize bestFrom (mCount v) 0 1 9 = b at b1 b2 b3
  have hmax : ∀ k : Int, 0 ≤ k → k ≤ 9 → mCount v k ≤ mCount v b := by
    intro k h0 h9
    by_cases c : k = 0
    · rw [c]; exact b1
    · have := b2 (k - 1).toNat (by omega)
      rw [show (1 : Int) + ((k - 1).toNat : Nat) = k from by omega] at this
      exact this
  rcases run_stepO v leader b v 0 with h | ⟨x, hx, h, hc⟩
  · rw [h]
    exact ⟨by omega, hmax⟩
  · rw [h]
    have := (run_votes l _ v 0 [] List.nodup_nil ha).1 x hx
    exact ⟨this.2.1, fun k h0 h9 => by rw [hc]; exact hmax k h0 h9⟩
theorem addRep_mem (x : S59) : ∀ l, (addRep x l).2 = true → x ∈ (addRep x l).1
  | [], h => by simp [addRep] at h
  | y :: t, h => by
    simp only [addRep] at h ⊢
    by_cases c : y.f0 = x.f0
    · rw [if_pos c]
      exact List.mem_cons_self ..
    · rw [if_neg c] at h ⊢
      exact List.mem_cons_of_mem _ (addRep_mem x t h)
theorem count_pos {v : List S59} {x : S59} (h : x ∈ v) : 1 ≤ mCount v x.f1 := by
  unfold mCount
  have : x ∈ v.filter fun y => decide (y.f1 = x.f1) := List.mem_filter.2 ⟨h, by simp⟩
  have := List.length_pos_of_mem this
  omega
theorem addVote_spec (c : List S68) (l : List S59) (x : S59) : ((mAddVote c l x).2 = true ∧ mAreVotes c (mAddVote c l x).1 = true ∧ 1 ≤ mCount (mAddVote c l x).1 x.f1) ∨ ((mAddVote c l x).2 = false ∧ (mAddVote c l x).1 = l) := by
  unfold mAddVote finAV
  by_cases h : (addRep x l).2 = true
  · rw [if_pos h]
    by_cases h2 : mAreVotes c (addRep x l).1 = true
    · rw [if_pos h2]
      exact .inl ⟨rfl, h2, count_pos (addRep_mem x l h)⟩
    · rw [if_neg h2]
      exact .inr ⟨rfl, rfl⟩
  · rw [if_neg h]
    by_cases h2 : mAreVotes c ((addRep x l).1 ++ [x]) = true
    · rw [if_pos h2]
      exact .inl ⟨rfl, h2, count_pos (List.mem_append.2 (.inr (List.mem_singleton.2 rfl)))⟩
    · rw [if_neg h2]
      exact .inr ⟨rfl, rfl⟩
theorem fv_end (l0 : List Int) (hb : l0.length ≤ 1048576) (l : List S68) (v : List S59) (o i : Int) : Ev (fun k => laws_FnVotes.j2 k l0 l v o i false) true := by
  refine Ev.step (f := fun k => (spec_DrawAddVote.f k l0).bind fun bt291 => ((impl_AddVote.f k bt291.1 bt291.2.1 bt291.2.2.1 bt291.2.2.2).bind fun bt300 => (if bt300.2 = true then ((impl_AreVotes.f k bt291.1 bt300.1).bind fun t304 => (if t304 = true then ((impl_CountFor.f k bt300.1 bt291.2.2.2).bind fun t305 => (if t305 ≥ 1 then (some true) else (some false))) else (some false))) else (some ((bt300.1.length : Int) == (bt291.2.1.length : Int)))))) (fun k => by simp only [laws_FnVotes.j2, Bool.false_eq_true, if_false]) ?_
  refine Gets.ev (drawAddVote_ok l0 hb) ?_
  rintro ⟨c, u, x, y⟩ ⟨hc, hu⟩
  simp only at hc hu ⊢
  refine Ev.bind (implAdd_ev c u x y (by omega) (by omega)) ?_
  have hm := mAddVote_len c u ⟨x, y⟩
  rcases addVote_spec c u ⟨x, y⟩ with ⟨h1, h2, h3⟩ | ⟨h1, h2⟩
  · simp only [h1, if_true]
    refine Ev.bind (implAV_ev c _ (by omega) (by omega)) ?_
    simp only [h2, if_true]
    refine Ev.bind (ev_at (implCF_at _ y (by omega))) ?_
    simp only [if_pos (show mCount (mAddVote c u ⟨x, y⟩).1 y ≥ 1 from h3)]
    exact Ev.now _
  · simp only [h1, Bool.false_eq_true, if_false, h2, beq_self_eq_true]
    exact Ev.now _
theorem fv_loop (l0 : List Int) (hb : l0.length ≤ 1048576) (l : List S68) (v : List S59) (o : Int) (hl : l.length ≤ 9) (hv : v.length ≤ 9) (h0 : 0 ≤ o) (hmax : ∀ k : Int, 0 ≤ k → k ≤ 9 → mCount v k ≤ mCount v o) : ∀ (d : Nat) (i : Int), i + d = 10 → 0 ≤ i → Ev (fun k => laws_FnVotes.l0 k l0 l v o i) true
  | 0, i, hi, hi0 => by
    refine Ev.step (f := fun k => laws_FnVotes.j2 k l0 l v o i false) (fun k => ?_) (fv_end l0 hb l v o i)
    simp only [laws_FnVotes.l0]
    rw [if_neg (by omega)]
  | d + 1, i, hi, hi0 => by
    have ih := fv_loop l0 hb l v o hl hv h0 hmax d (i + 1) (by omega) (by omega)
    refine Ev.step (f := fun k => laws_FnVotes.j2 k l0 l v o i true) (fun k => ?_) ?_
    · simp only [laws_FnVotes.l0]
      rw [if_pos (by omega), decide_eq_true h0]
    refine Ev.step (f := fun k => (impl_CountFor.f k v i).bind fun t288 => ((impl_CountFor.f k v o).bind fun t289 => (if t288 > t289 then (some false) else ((impl_IsMajority.f k l v i).bind fun t290 => (if t290 = true then (if i = o then (laws_FnVotes.l0 k l0 l v o (wrap64 (i + 1))) else (some false)) else (laws_FnVotes.l0 k l0 l v o (wrap64 (i + 1)))))))) (fun k => by simp only [laws_FnVotes.j2, if_true]) ?_
    refine Ev.bind (ev_at (implCF_at v i (by omega))) ?_
    refine Ev.bind (ev_at (implCF_at v o (by omega))) ?_
    have hm := hmax i hi0 (by omega)
    simp only [if_neg (show ¬ mCount v i > mCount v o from by omega), wrap_id (n := i + 1) (by omega) (by omega)]
    refine Ev.bind (implIM_ev l v i (by omega) (by omega)) ?_
    by_cases c : mIsMajority l v i = true
    · have hio : i = o := by
        refine Decidable.byContradiction fun hne => ?_
        unfold mIsMajority at c
        rw [Bool.and_eq_true, decide_eq_true_eq] at c
        have h1 := votes_len c.1
        have h2 := two_counts i o hne v
        omega
      simp only [if_pos c, if_pos hio]
      exact ih
    · simp only [if_neg c]
      exact ih
end FnVotesPf
open FnVotesPf
theorem FnVotes : laws_FnVotes.Pure := by
  intro l0 hl hs hw
  apply Ev.rounds (g := fun k => laws_FnVotes.f k l0)
  unfold laws_FnVotes.f
  simp only [laws_big.f, Option.bind_some, decide_eq_true_eq]
  by_cases hb : (l0.length : Int) > 1048576
  · simp only [if_pos hb]
    exact Ev.now _
  · simp only [if_neg hb]
    have hb : l0.length ≤ 1048576 := by omega
    refine Gets.ev (drawOutcome_ok l0 hb) ?_
    rintro ⟨l, v, leader⟩ ⟨hl9, hv9⟩
    simp only at hl9 hv9 ⊢
    refine Ev.bind (implO_ev l v leader (by omega) (by omega)) ?_
    have hneg : ∀ o : Int, o = -1 → Ev (fun k => laws_FnVotes.j0 k l0 l v o ((decide (o ≥ 0)) != false)) true := by
      rintro o rfl
      refine Ev.step (f := fun k => laws_FnVotes.l0 k l0 l v (-1) 0) (fun k => ?_) ?_
      · simp only [laws_FnVotes.j0]
        rw [if_neg (by decide)]
      refine Ev.step (f := fun k => laws_FnVotes.j2 k l0 l v (-1) 0 false) (fun k => ?_) (fv_end l0 hb l v (-1) 0)
      simp only [laws_FnVotes.l0]
      rw [if_pos (by decide), decide_eq_false (by decide)]
    by_cases c : v = []
    · have hz : ¬ ((v.length : Int) > 0) := by rw [c]; decide
      simp only [if_neg hz]
      exact hneg _ (by unfold mOutcome; rw [if_pos (.inl c)])
    · have hn : (v.length : Int) > 0 := by
        have := List.length_pos_iff.2 c
        omega
      simp only [if_pos hn]
      refine Ev.bind (implAV_ev l v (by omega) (by omega)) ?_
      cases ha : mAreVotes l v with
      | false => exact hneg _ (by unfold mOutcome; rw [if_pos (.inr ha)])
      | true =>
        obtain ⟨h1, h2⟩ := outcome_spec leader c ha
        refine Ev.step (f := fun k => laws_FnVotes.l0 k l0 l v (mOutcome l v leader) 0) (fun k => ?_) (fv_loop l0 hb l v _ hl9 hv9 h1 h2 10 0 (by omega) (by omega))
        simp only [laws_FnVotes.j0]
        rw [decide_eq_true h1]
        rfl
end Go.Proofs.Ytfccmpchpcflkaa.Pure
