/- FnTents: the pure statement of the law, over the printed functions. No condition beyond the statement's own. -/
import Derived.Test.YtnghncedinngoaaSFnTentsx13
import Derived.Test.YtnghncedinngoaaLib
import Derived.Test.YtnghncedinngoaaOpens
namespace Go.Proofs.Ytnghncedinngoaa.Pure
open Go.RowKit Go.Proofs.Ytnghncedinngoaa.PFnTents Go.Proofs.YtnghncedinngoaaW.PrintWords Go.Proofs.YtnghncedinngoaaW.PrintLast Go.Proofs.Ytnghncedinngoaa.Lib Go.Proofs.Ytnghncedinngoaa.Opens
set_option linter.unusedVariables false
set_option linter.unusedSimpArgs false
namespace FnTentsPf
theorem l1In_eq (a b c : Int) : spec_l1In.f a b c = some (decide (b ≤ a ∧ a ≤ c)) := by
  unfold spec_l1In.f
  by_cases h : a ≥ b
  · rw [if_pos h]; simp [h]
  · rw [if_neg h]; simp [show ¬ (b ≤ a) from by omega]
theorem InRange_eq (a b c : Int) : impl_InRange.f a b c = some (decide (b ≤ a ∧ a ≤ c)) := by
  unfold impl_InRange.f
  by_cases h : b ≤ a
  · rw [if_pos h]; simp [h]
  · rw [if_neg h]; simp [h]
theorem specHas_at (l : List Int) (n : Int) (hl : l.length ≤ 4611686018427387904) : ∀ k, l.length < k → spec_l14Has.f k l n = some (decide (n ∈ l)) := by
  rw [← run_has n l 0]
  exact at_loop0 (fun k _ i => spec_l14Has.l0 k l n i) l (stepHas n) (fun _ => false) hl ()
    (fun k s => by simp only [spec_l14Has.l0]; rw [if_neg (by omega)])
    (fun k s i x hx hw => by
      have hi := lt_of_get hx
      have hr : rd l (i : Int) = x := getD_of 0 hx
      simp only [spec_l14Has.l0, hr, hw]; rw [if_pos (by omega), if_pos (by omega)]
      simp only [stepHas]; split <;> rfl)
theorem implPlace_at (l : List Int) (n : Int) (hl : l.length ≤ 4611686018427387904) : ∀ k, l.length < k → impl_placeOf.f k l n = some (place n l) :=
  at_loop0 (fun k _ i => impl_placeOf.l0 k n l (l.length : Int) i) l (stepPlace n) (fun _ => -1) hl ()
    (fun k s => by simp only [impl_placeOf.l0]; rw [if_neg (by omega)])
    (fun k s i x hx hw => by
      have hi := lt_of_get hx
      have hr : rd l (i : Int) = x := getD_of 0 hx
      simp only [impl_placeOf.l0, hr, hw]; rw [if_pos (by omega), if_pos (by omega), if_pos (by omega)]
      simp only [stepPlace]; split <;> rfl)
theorem implHas_at (l : List Int) (n : Int) (hl : l.length ≤ 4611686018427387904) : ∀ k, l.length < k → impl_has.f k l n = some (decide (n ∈ l)) := fun k hk => by
  simp only [impl_has.f, implPlace_at l n hl k hk, Option.bind_some, place_has]
def addAll (s : List Int) : List Int → Option (List Int)
  | [] => some s
  | y :: t => if y ∈ s then none else addAll (s ++ [y]) t
theorem addAll_cons (s : List Int) (y : Int) (t : List Int) : addAll s (y :: t) = if y ∈ s then none else addAll (s ++ [y]) t := rfl
theorem addAll_len : ∀ (t s s' : List Int), addAll s t = some s' → s'.length = s.length + t.length
  | [], s, s', h => by
    injection h with h
    subst h
    rfl
  | y :: t, s, s', h => by
    rw [addAll_cons] at h
    split at h
    · cases h
    · have := addAll_len t _ s' h
      rw [this, List.length_append, List.length_singleton, List.length_cons]
      omega
def okTent (l : List S45) (i : Nat) (x : S45) : Prop := (1 ≤ x.f0 ∧ x.f0 ≤ 99) ∧ (1 ≤ x.f1 ∧ x.f1 ≤ 6) ∧ ((x.f2.length : Int) ≤ x.f1) ∧ (i = 0 ∨ (l.getD (i - 1) z45).f0 < x.f0)
instance (l : List S45) (i : Nat) (x : S45) : Decidable (okTent l i x) := by unfold okTent; infer_instance
def nextAT (s : List Int) (x : S45) : Bool ⊕ List Int := match addAll s x.f2 with
  | none => .inl false
  | some s' => .inr s'
def stepAT (l : List S45) : Nat → List Int → S45 → Bool ⊕ List Int := fun i s x => if okTent l i x then nextAT s x else .inl false
def mAreTents (l : List S45) : Bool := run (stepAT l) (fun _ => decide ((l.length : Int) ≤ 8)) 0 [] l
theorem specAT_in (l : List S45) (hl : l.length ≤ 1048576) (i : Nat) (x : S45) (hx : l[i]? = some x) (hx6 : x.f2.length ≤ 6) (R : List Int → Bool) : ∀ (t d s : List Int), x.f2 = d ++ t → s.length + t.length ≤ 8000000 →
    (∀ s', addAll s t = some s' → Ev (fun k => spec_AreTents.l0 k l s' ((i : Int) + 1)) (R s')) → Ev (fun k => spec_AreTents.l1 k l s (i : Int) (d.length : Int)) (match addAll s t with | none => false | some s' => R s')
  | [], d, s, h, hs, hR => by
    have hi := lt_of_get hx
    have hr : rd_T45 l (i : Int) = x := getD_of z45 hx
    have hlen : x.f2.length = d.length := by rw [h]; simp
    refine Ev.step (fun k => ?_) (hR s rfl)
    simp only [spec_AreTents.l1, hr, wrapi i (by omega)]
    rw [if_pos (by omega), if_pos (by omega), if_neg (by omega)]
  | y :: t, d, s, h, hs, hR => by
    have hi := lt_of_get hx
    have hr : rd_T45 l (i : Int) = x := getD_of z45 hx
    have hlen : x.f2.length = d.length + (t.length + 1) := by rw [h]; simp
    have hy : x.f2[d.length]? = some y := by rw [h]; simp
    have hry : rd x.f2 (d.length : Int) = y := getD_of 0 hy
    rw [List.length_cons] at hs
    refine Ev.step (f := fun k => (spec_l14Has.f k s y).bind fun t149 => if t149 = true then some false else if s.length < 17592186044416 then spec_AreTents.l1 k l (s ++ [y]) (i : Int) ((d.length : Int) + 1) else none) (fun k => ?_) ?_
    · simp only [spec_AreTents.l1, hr, hry, wrapi d.length (by omega)]
      rw [if_pos (by omega), if_pos (by omega), if_pos (by omega), if_pos (by omega)]
    · refine Ev.bind (ev_at (specHas_at s y (by omega))) ?_
      rw [addAll_cons]
      by_cases c : y ∈ s
      · simp only [decide_eq_true c, if_true, if_pos c]
        exact Ev.now _
      · simp only [decide_eq_false c, Bool.false_eq_true, if_false, if_neg c, show s.length < 17592186044416 from by omega, if_true]
        have ih := specAT_in l hl i x hx hx6 R t (d ++ [y]) (s ++ [y]) (by rw [h]; simp) (by simp; omega) (fun s' hs' => hR s' (by rw [addAll_cons, if_neg c]; exact hs'))
        rw [List.length_append, List.length_singleton, show ((d.length + 1 : Nat) : Int) = (d.length : Int) + 1 from by omega] at ih
        exact ih
theorem specAT_down (l : List S45) (hl : l.length ≤ 1048576) : ∀ (t d : List S45) (s : List Int), l = d ++ t → s.length ≤ 6 * d.length → Ev (fun k => spec_AreTents.l0 k l s (d.length : Int)) (run (stepAT l) (fun _ => decide ((l.length : Int) ≤ 8)) d.length s t)
  | [], d, s, h, hs => by
    have hlen : l.length = d.length := by rw [h]; simp
    refine Ev.step (f := fun _ => some (decide ((l.length : Int) ≤ 8))) (fun k => ?_) (Ev.now _)
    simp only [spec_AreTents.l0]
    rw [if_neg (by omega)]
  | x :: t, d, s, h, hs => by
    have hlen : l.length = d.length + (t.length + 1) := by rw [h]; simp
    have hx : l[d.length]? = some x := by rw [h]; simp
    have hr : rd_T45 l (d.length : Int) = x := getD_of z45 hx
    have hbad : Ev (fun k => spec_AreTents.j1 k l s (d.length : Int) true) false := Ev.step (f := fun _ => some false) (fun k => by simp [spec_AreTents.j1]) (Ev.now _)
    have stop : (¬ okTent l d.length x) → run (stepAT l) (fun _ => decide ((l.length : Int) ≤ 8)) d.length s (x :: t) = false := fun hn => run_inl (if_neg hn)
    by_cases c : okTent l d.length x
    · obtain ⟨c1, c2, c3, c4⟩ := c
      have hgo : Ev (fun k => spec_AreTents.j1 k l s (d.length : Int) false) (run (stepAT l) (fun _ => decide ((l.length : Int) ≤ 8)) d.length s (x :: t)) := by
        refine Ev.step (f := fun k => spec_AreTents.l1 k l s (d.length : Int) 0) (fun k => by simp [spec_AreTents.j1]) ?_
        have hin := specAT_in l hl d.length x hx (by omega) (fun s' => run (stepAT l) (fun _ => decide ((l.length : Int) ≤ 8)) (d.length + 1) s' t) x.f2 [] s rfl (by omega) (fun s' hs' => by
          have hl' := addAll_len _ _ _ hs'
          have ih := specAT_down l hl t (d ++ [x]) s' (by rw [h]; simp) (by simp; omega)
          rw [List.length_append, List.length_singleton, show ((d.length + 1 : Nat) : Int) = (d.length : Int) + 1 from by omega] at ih
          exact ih)
        have e : run (stepAT l) (fun _ => decide ((l.length : Int) ≤ 8)) d.length s (x :: t) = match addAll s x.f2 with | none => false | some s' => run (stepAT l) (fun _ => decide ((l.length : Int) ≤ 8)) (d.length + 1) s' t := by
          rw [run_cons, show stepAT l d.length s x = nextAT s x from if_pos ⟨c1, c2, c3, c4⟩]
          unfold nextAT
          cases addAll s x.f2 <;> rfl
        rw [e]
        exact hin
      rcases Nat.eq_zero_or_pos d.length with h0 | h0
      · refine Ev.step (fun k => ?_) hgo
        simp only [spec_AreTents.l0, hr, l1In_eq, Option.bind_some, decide_eq_true c1, decide_eq_true c2, if_true]
        rw [if_pos (by omega), if_pos (by omega), if_neg (by omega), if_neg (by omega)]
      · have hr' : rd_T45 l ((d.length - 1 : Nat) : Int) = l.getD (d.length - 1) z45 := getD_nat ..
        have c4' : ¬ (l.getD (d.length - 1) z45).f0 ≥ x.f0 := by
          rcases c4 with c4 | c4
          · omega
          · omega
        refine Ev.step (fun k => ?_) hgo
        simp only [spec_AreTents.l0, hr, l1In_eq, Option.bind_some, decide_eq_true c1, decide_eq_true c2, if_true, wrapd d.length h0 (by omega), hr', decide_eq_false c4']
        rw [if_pos (by omega), if_pos (by omega), if_neg (by omega), if_pos (by omega), if_pos (by omega), if_pos (by omega)]
    · rw [stop c]
      refine Ev.step (fun k => ?_) hbad
      simp only [spec_AreTents.l0, hr, l1In_eq, Option.bind_some]
      rw [if_pos (by omega), if_pos (by omega)]
      by_cases c1 : 1 ≤ x.f0 ∧ x.f0 ≤ 99
      · simp only [decide_eq_true c1, if_true]
        by_cases c2 : 1 ≤ x.f1 ∧ x.f1 ≤ 6
        · simp only [decide_eq_true c2, if_true]
          by_cases c3 : (x.f2.length : Int) ≤ x.f1
          · rw [if_neg (by omega)]
            rcases Nat.eq_zero_or_pos d.length with h0 | h0
            · exact absurd ⟨c1, c2, c3, .inl h0⟩ c
            · have hr' : rd_T45 l ((d.length - 1 : Nat) : Int) = l.getD (d.length - 1) z45 := getD_nat ..
              have c4' : (l.getD (d.length - 1) z45).f0 ≥ x.f0 := by
                refine Decidable.byContradiction fun h' => c ⟨c1, c2, c3, .inr (by omega)⟩
              simp only [wrapd d.length h0 (by omega), hr', decide_eq_true c4']
              rw [if_pos (by omega), if_pos (by omega), if_pos (by omega)]
          · rw [if_pos (by omega)]
        · simp only [decide_eq_false c2, Bool.false_eq_true, if_false]
      · simp only [decide_eq_false c1, Bool.false_eq_true, if_false]
theorem specAT_ev (l : List S45) (hl : l.length ≤ 1048576) : Ev (fun k => spec_AreTents.f k l) (mAreTents l) := specAT_down l hl l [] [] rfl (by simp)
theorem implAT_in (l : List S45) (hl : l.length ≤ 1048576) (i : Nat) (xs : List Int) (hx6 : xs.length ≤ 6) (R : List Int → Bool) : ∀ (t d s : List Int), xs = d ++ t → s.length + t.length ≤ 8000000 → i ≤ 1048576 →
    (∀ s', addAll s t = some s' → Ev (fun k => impl_AreTents.l0 k l s' l (l.length : Int) ((i : Int) + 1)) (R s')) → Ev (fun k => impl_AreTents.l1 k l s l (l.length : Int) (i : Int) xs (xs.length : Int) (d.length : Int)) (match addAll s t with | none => false | some s' => R s')
  | [], d, s, h, hs, hi, hR => by
    have hlen : xs.length = d.length := by rw [h]; simp
    refine Ev.step (fun k => ?_) (hR s rfl)
    simp only [impl_AreTents.l1, wrapi i (by omega)]
    rw [if_neg (by omega)]
  | y :: t, d, s, h, hs, hi, hR => by
    have hlen : xs.length = d.length + (t.length + 1) := by rw [h]; simp
    have hy : xs[d.length]? = some y := by rw [h]; simp
    have hry : rd xs (d.length : Int) = y := getD_of 0 hy
    rw [List.length_cons] at hs
    refine Ev.step (f := fun k => (impl_has.f k s y).bind fun t170 => if t170 = true then some false else if s.length < 17592186044416 then impl_AreTents.l1 k l (s ++ [y]) l (l.length : Int) (i : Int) xs (xs.length : Int) ((d.length : Int) + 1) else none) (fun k => ?_) ?_
    · simp only [impl_AreTents.l1, hry, wrapi d.length (by omega)]
      rw [if_pos (by omega), if_pos (by omega), if_pos (by omega)]
    · refine Ev.bind (ev_at (implHas_at s y (by omega))) ?_
      rw [addAll_cons]
      by_cases c : y ∈ s
      · simp only [decide_eq_true c, if_true, if_pos c]
        exact Ev.now _
      · simp only [decide_eq_false c, Bool.false_eq_true, if_false, if_neg c, show s.length < 17592186044416 from by omega, if_true]
        have ih := implAT_in l hl i xs hx6 R t (d ++ [y]) (s ++ [y]) (by rw [h]; simp) (by simp; omega) hi (fun s' hs' => hR s' (by rw [addAll_cons, if_neg c]; exact hs'))
        rw [List.length_append, List.length_singleton, show ((d.length + 1 : Nat) : Int) = (d.length : Int) + 1 from by omega] at ih
        exact ih
theorem implAT_down (l : List S45) (hl : l.length ≤ 1048576) : ∀ (t d : List S45) (s : List Int), l = d ++ t → s.length ≤ 6 * d.length → Ev (fun k => impl_AreTents.l0 k l s l (l.length : Int) (d.length : Int)) (run (stepAT l) (fun _ => decide ((l.length : Int) ≤ 8)) d.length s t)
  | [], d, s, h, hs => by
    have hlen : l.length = d.length := by rw [h]; simp
    refine Ev.step (f := fun _ => some (decide ((l.length : Int) ≤ 8))) (fun k => ?_) (Ev.now _)
    simp only [impl_AreTents.l0]
    rw [if_neg (by omega)]
  | x :: t, d, s, h, hs => by
    have hlen : l.length = d.length + (t.length + 1) := by rw [h]; simp
    have hx : l[d.length]? = some x := by rw [h]; simp
    have hr : rd_T45 l (d.length : Int) = x := getD_of z45 hx
    have hbad : Ev (fun k => impl_AreTents.j1 k l s l (l.length : Int) (d.length : Int) true x.f0 x.f1 x.f2) false := Ev.step (f := fun _ => some false) (fun k => by simp [impl_AreTents.j1]) (Ev.now _)
    have stop : (¬ okTent l d.length x) → run (stepAT l) (fun _ => decide ((l.length : Int) ≤ 8)) d.length s (x :: t) = false := fun hn => run_inl (if_neg hn)
    by_cases c : okTent l d.length x
    · obtain ⟨c1, c2, c3, c4⟩ := c
      have c3' : ¬ (x.f2.length : Int) > x.f1 := by omega
      have hgo : Ev (fun k => impl_AreTents.j1 k l s l (l.length : Int) (d.length : Int) false x.f0 x.f1 x.f2) (run (stepAT l) (fun _ => decide ((l.length : Int) ≤ 8)) d.length s (x :: t)) := by
        refine Ev.step (f := fun k => impl_AreTents.l1 k l s l (l.length : Int) (d.length : Int) x.f2 (x.f2.length : Int) 0) (fun k => by simp [impl_AreTents.j1]) ?_
        have hin := implAT_in l hl d.length x.f2 (by omega) (fun s' => run (stepAT l) (fun _ => decide ((l.length : Int) ≤ 8)) (d.length + 1) s' t) x.f2 [] s rfl (by omega) (by omega) (fun s' hs' => by
          have hl' := addAll_len _ _ _ hs'
          have ih := implAT_down l hl t (d ++ [x]) s' (by rw [h]; simp) (by simp; omega)
          rw [List.length_append, List.length_singleton, show ((d.length + 1 : Nat) : Int) = (d.length : Int) + 1 from by omega] at ih
          exact ih)
        have e : run (stepAT l) (fun _ => decide ((l.length : Int) ≤ 8)) d.length s (x :: t) = match addAll s x.f2 with | none => false | some s' => run (stepAT l) (fun _ => decide ((l.length : Int) ≤ 8)) (d.length + 1) s' t := by
          rw [run_cons, show stepAT l d.length s x = nextAT s x from if_pos ⟨c1, c2, c3, c4⟩]
          unfold nextAT
          cases addAll s x.f2 <;> rfl
        rw [e]
        exact hin
      rcases Nat.eq_zero_or_pos d.length with h0 | h0
      · refine Ev.step (fun k => ?_) hgo
        simp only [impl_AreTents.l0, hr, InRange_eq, Option.bind_some, decide_eq_true c1, decide_eq_true c2, if_true, decide_eq_false c3']
        rw [if_pos (by omega), if_pos (by omega), if_pos (by omega), if_neg (by omega)]
      · have hr' : rd_T45 l ((d.length - 1 : Nat) : Int) = l.getD (d.length - 1) z45 := getD_nat ..
        have c4' : ¬ x.f0 ≤ (l.getD (d.length - 1) z45).f0 := by
          rcases c4 with c4 | c4
          · omega
          · omega
        refine Ev.step (fun k => ?_) hgo
        simp only [impl_AreTents.l0, hr, InRange_eq, Option.bind_some, decide_eq_true c1, decide_eq_true c2, if_true, wrapd d.length h0 (by omega), hr', decide_eq_false c3']
        rw [if_pos (by omega), if_pos (by omega), if_pos (by omega), if_pos (by omega), if_pos (by omega), if_pos (by omega), if_neg c4']
    · rw [stop c]
      refine Ev.step (fun k => ?_) hbad
      simp only [impl_AreTents.l0, hr, InRange_eq, Option.bind_some]
      rw [if_pos (by omega), if_pos (by omega), if_pos (by omega)]
      by_cases c1 : 1 ≤ x.f0 ∧ x.f0 ≤ 99
      · simp only [decide_eq_true c1, if_true]
        rcases Nat.eq_zero_or_pos d.length with h0 | h0
        · rw [if_neg (by omega)]
          by_cases c2 : 1 ≤ x.f1 ∧ x.f1 ≤ 6
          · simp only [decide_eq_true c2, if_true]
            rw [decide_eq_true]
            exact Decidable.byContradiction fun h' => c ⟨c1, c2, by omega, .inl h0⟩
          · simp only [decide_eq_false c2, Bool.false_eq_true, if_false]
        · have hr' : rd_T45 l ((d.length - 1 : Nat) : Int) = l.getD (d.length - 1) z45 := getD_nat ..
          simp only [wrapd d.length h0 (by omega), hr']
          rw [if_pos (by omega), if_pos (by omega), if_pos (by omega)]
          by_cases c4 : x.f0 ≤ (l.getD (d.length - 1) z45).f0
          · rw [if_pos c4]
          · rw [if_neg c4]
            by_cases c2 : 1 ≤ x.f1 ∧ x.f1 ≤ 6
            · simp only [decide_eq_true c2, if_true]
              rw [decide_eq_true]
              exact Decidable.byContradiction fun h' => c ⟨c1, c2, by omega, .inr (by omega)⟩
            · simp only [decide_eq_false c2, Bool.false_eq_true, if_false]
      · simp only [decide_eq_false c1, Bool.false_eq_true, if_false]
theorem implAT_ev (l : List S45) (hl : l.length ≤ 1048576) : Ev (fun k => impl_AreTents.f k l) (mAreTents l) := implAT_down l hl l [] [] rfl (by simp)
theorem runAT_ok (l : List S45) (b : Bool) : ∀ (t d : List S45) (s : List Int), l = d ++ t → run (stepAT l) (fun _ => b) d.length s t = true → (∀ i x, d.length ≤ i → l[i]? = some x → okTent l i x) ∧ b = true
  | [], d, s, h, hr => by
    refine ⟨fun i x hi hx => ?_, hr⟩
    have := lt_of_get hx
    rw [h] at this
    simp at this
    omega
  | x :: t, d, s, h, hr => by
    have hx : l[d.length]? = some x := by rw [h]; simp
    by_cases c : okTent l d.length x
    · rw [run_cons, show stepAT l d.length s x = nextAT s x from if_pos c] at hr
      unfold nextAT at hr
      cases ha : addAll s x.f2 with
      | none => rw [ha] at hr; cases hr
      | some s' =>
        rw [ha] at hr
        have ih := runAT_ok l b t (d ++ [x]) s' (by rw [h]; simp) (by rw [List.length_append, List.length_singleton]; exact hr)
        rw [List.length_append, List.length_singleton] at ih
        refine ⟨fun i y hi hy => ?_, ih.2⟩
        rcases Nat.lt_or_ge d.length i with h1 | h1
        · exact ih.1 i y (by omega) hy
        · obtain rfl : i = d.length := by omega
          rw [hx] at hy
          injection hy with hy
          exact hy ▸ c
    · rw [run_inl (show stepAT l d.length s x = .inl false from if_neg c)] at hr
      cases hr
theorem mAreTents_ok {l : List S45} (h : mAreTents l = true) : (∀ i x, l[i]? = some x → okTent l i x) ∧ l.length ≤ 8 := by
  have := runAT_ok l _ l [] [] rfl h
  rw [List.length_nil] at this
  refine ⟨fun i x hx => this.1 i x (Nat.zero_le _) hx, ?_⟩
  have h2 := of_decide_eq_true this.2
  omega
def okMember (l : List S49) (i : Nat) (x : S49) : Prop := (1 ≤ x.f0 ∧ x.f0 ≤ 99) ∧ (0 ≤ x.f1 ∧ x.f1 ≤ 100) ∧ (1 ≤ x.f2 ∧ x.f2 ≤ 10) ∧ (i = 0 ∨ (l.getD (i - 1) z49).f0 < x.f0)
instance (l : List S49) (i : Nat) (x : S49) : Decidable (okMember l i x) := by unfold okMember; infer_instance
def stepAC (l : List S49) : Nat → Unit → S49 → Bool ⊕ Unit := fun i _ x => if okMember l i x then .inr () else .inl false
def mAreCrew (l : List S49) : Bool := run (stepAC l) (fun _ => decide (1 ≤ (l.length : Int) ∧ (l.length : Int) ≤ 8)) 0 () l
theorem specAC_at (l : List S49) (hl : l.length ≤ 4611686018427387904) : ∀ k, l.length < k → spec_AreCrew.f k l = some (mAreCrew l) :=
  at_loop0 (fun k _ i => spec_AreCrew.l0 k l i) l (stepAC l) _ hl ()
    (fun k s => by simp only [spec_AreCrew.l0]; rw [if_neg (by omega)]; simp only [l1In_eq, Option.bind_some])
    (fun k s i x hx hw => by
      have hi := lt_of_get hx
      have hr : rd_T49 l (i : Int) = x := getD_of z49 hx
      simp only [spec_AreCrew.l0, hr, hw, l1In_eq, Option.bind_some, decide_eq_true_eq]; rw [if_pos (by omega), if_pos (by omega)]
      simp only [stepAC]
      by_cases c1 : 1 ≤ x.f0 ∧ x.f0 ≤ 99
      · by_cases c2 : 0 ≤ x.f1 ∧ x.f1 ≤ 100
        · by_cases c3 : 1 ≤ x.f2 ∧ x.f2 ≤ 10
          · rw [if_pos c1, if_pos c2, if_pos c3]
            rcases Nat.eq_zero_or_pos i with h0 | h0
            · subst h0
              rw [if_neg (by omega), if_pos (show okMember l _ x from ⟨c1, c2, c3, .inl rfl⟩)]; rfl
            · have hr' : rd_T49 l ((i - 1 : Nat) : Int) = l.getD (i - 1) z49 := getD_nat ..
              rw [if_pos (by omega), wrapd i h0 (by omega), if_pos (by omega), if_pos (by omega), hr']
              by_cases c4 : (l.getD (i - 1) z49).f0 < x.f0
              · rw [if_neg (by omega), if_pos (show okMember l _ x from ⟨c1, c2, c3, .inr c4⟩)]; rfl
              · rw [if_pos (by omega), if_neg (show ¬ okMember l _ x from fun h => h.2.2.2.elim (by omega) c4)]; rfl
          · rw [if_pos c1, if_pos c2, if_neg c3, if_neg (show ¬ okMember l _ x from fun h => c3 h.2.2.1)]; rfl
        · rw [if_pos c1, if_neg c2, if_neg (show ¬ okMember l _ x from fun h => c2 h.2.1)]; rfl
      · rw [if_neg c1, if_neg (show ¬ okMember l _ x from fun h => c1 h.1)]; rfl)
theorem implAC_at (l : List S49) (hl : l.length ≤ 4611686018427387904) : ∀ k, l.length < k → impl_AreCrew.f k l = some (mAreCrew l) :=
  at_loop0 (fun k _ i => impl_AreCrew.l0 k l l (l.length : Int) i) l (stepAC l) _ hl ()
    (fun k s => by simp only [impl_AreCrew.l0]; rw [if_neg (by omega)]; simp only [InRange_eq, Option.bind_some])
    (fun k s i x hx hw => by
      have hi := lt_of_get hx
      have hr : rd_T49 l (i : Int) = x := getD_of z49 hx
      simp only [impl_AreCrew.l0, hr, hw, InRange_eq, Option.bind_some, decide_eq_true_eq]; rw [if_pos (by omega), if_pos (by omega), if_pos (by omega)]
      simp only [stepAC]
      by_cases c1 : 1 ≤ x.f0 ∧ x.f0 ≤ 99
      · rw [if_pos c1]
        rcases Nat.eq_zero_or_pos i with h0 | h0
        · subst h0
          rw [if_neg (by omega)]
          by_cases c2 : 0 ≤ x.f1 ∧ x.f1 ≤ 100
          · rw [if_pos c2]
            by_cases c3 : 1 ≤ x.f2 ∧ x.f2 ≤ 10
            · rw [if_pos c3, if_pos (show okMember l _ x from ⟨c1, c2, c3, .inl rfl⟩)]; rfl
            · rw [if_neg c3, if_neg (show ¬ okMember l _ x from fun h => c3 h.2.2.1)]; rfl
          · rw [if_neg c2, if_neg (show ¬ okMember l _ x from fun h => c2 h.2.1)]; rfl
        · have hr' : rd_T49 l ((i - 1 : Nat) : Int) = l.getD (i - 1) z49 := getD_nat ..
          rw [if_pos (by omega), wrapd i h0 (by omega), if_pos (by omega), if_pos (by omega), hr']
          by_cases c4 : (l.getD (i - 1) z49).f0 < x.f0
          · rw [if_neg (by omega)]
            by_cases c2 : 0 ≤ x.f1 ∧ x.f1 ≤ 100
            · rw [if_pos c2]
              by_cases c3 : 1 ≤ x.f2 ∧ x.f2 ≤ 10
              · rw [if_pos c3, if_pos (show okMember l _ x from ⟨c1, c2, c3, .inr c4⟩)]; rfl
              · rw [if_neg c3, if_neg (show ¬ okMember l _ x from fun h => c3 h.2.2.1)]; rfl
            · rw [if_neg c2, if_neg (show ¬ okMember l _ x from fun h => c2 h.2.1)]; rfl
          · rw [if_pos (by omega), if_neg (show ¬ okMember l _ x from fun h => h.2.2.2.elim (by omega) c4)]; rfl
      · rw [if_neg c1, if_neg (show ¬ okMember l _ x from fun h => c1 h.1)]; rfl)
/-- What a crew is, member by member. -/
theorem runAC_iff (l0 : List S49) (b : Bool) : ∀ (t d : List S49), l0 = d ++ t → (run (stepAC l0) (fun _ => b) d.length () t = true ↔ (∀ i x, d.length ≤ i → l0[i]? = some x → okMember l0 i x) ∧ b = true)
  | [], d, h => by
    rw [run_nil]
    refine ⟨fun hb => ⟨fun i x hi hx => ?_, hb⟩, fun hb => hb.2⟩
    have := lt_of_get hx
    rw [h] at this
    simp at this
    omega
  | x :: t, d, h => by
    have hx : l0[d.length]? = some x := by rw [h]; simp
    by_cases c : okMember l0 d.length x
    · rw [run_inr (show stepAC l0 d.length () x = .inr () from if_pos c)]
      have ih := runAC_iff l0 b t (d ++ [x]) (by rw [h]; simp)
      rw [List.length_append, List.length_singleton] at ih
      rw [ih]
      refine ⟨fun hb => ⟨fun i y hi hy => ?_, hb.2⟩, fun hb => ⟨fun i y hi hy => hb.1 i y (by omega) hy, hb.2⟩⟩
      rcases Nat.lt_or_ge d.length i with h1 | h1
      · exact hb.1 i y (by omega) hy
      · obtain rfl : i = d.length := by omega
        rw [hx] at hy
        injection hy with hy
        exact hy ▸ c
    · rw [run_inl (show stepAC l0 d.length () x = .inl false from if_neg c)]
      exact ⟨fun hb => (by cases hb), fun hb => absurd (hb.1 d.length x (Nat.le_refl _) hx) c⟩
theorem mAreCrew_iff (l : List S49) : mAreCrew l = true ↔ (∀ i x, l[i]? = some x → okMember l i x) ∧ 1 ≤ l.length ∧ l.length ≤ 8 := by
  have h := runAC_iff l (decide (1 ≤ (l.length : Int) ∧ (l.length : Int) ≤ 8)) l [] rfl
  unfold mAreCrew
  rw [List.length_nil] at h
  rw [h, decide_eq_true_eq]
  exact ⟨fun h => ⟨fun i x hx => h.1 i x (Nat.zero_le _) hx, by omega⟩, fun h => ⟨fun i x _ hx => h.1 i x hx, by omega⟩⟩
theorem crew_member {l : List S49} (h : mAreCrew l = true) {x : S49} (hx : x ∈ l) : (1 ≤ x.f0 ∧ x.f0 ≤ 99) ∧ (0 ≤ x.f1 ∧ x.f1 ≤ 100) ∧ (1 ≤ x.f2 ∧ x.f2 ≤ 10) := by
  obtain ⟨i, hi, he⟩ := List.getElem_of_mem hx
  have := ((mAreCrew_iff l).1 h).1 i x (by rw [List.getElem?_eq_getElem hi, he])
  exact ⟨this.1, this.2.1, this.2.2.1⟩
def bedSum : List S45 → Int
  | [] => 0
  | x :: t => (x.f1 - (x.f2.length : Int)) + bedSum t
def mBeds (l : List S45) : Int := if mAreTents l = true then bedSum l else 0
theorem tent_in {l : List S45} (h : mAreTents l = true) {x : S45} (hx : x ∈ l) : (1 ≤ x.f1 ∧ x.f1 ≤ 6) ∧ (x.f2.length : Int) ≤ x.f1 := by
  obtain ⟨i, hi, he⟩ := List.getElem_of_mem hx
  have := (mAreTents_ok h).1 i x (by rw [List.getElem?_eq_getElem hi, he])
  exact ⟨this.2.1, this.2.2.1⟩
theorem implBF_down (l : List S45) (hl : l.length ≤ 1048576) (ha : mAreTents l = true) : ∀ (t d : List S45) (s : Int), l = d ++ t → 0 ≤ s → s ≤ 6 * d.length → Ev (fun k => impl_BedsFree.l0 k s l (l.length : Int) (d.length : Int)) (s + bedSum t)
  | [], d, s, h, h0, h1 => by
    have hlen : l.length = d.length := by rw [h]; simp
    refine Ev.step (f := fun _ => some (s + bedSum [])) (fun k => ?_) (Ev.now _)
    simp only [impl_BedsFree.l0, bedSum, Int.add_zero]
    rw [if_neg (by omega)]
  | x :: t, d, s, h, h0, h1 => by
    have h8 := (mAreTents_ok ha).2
    have hlen : l.length = d.length + (t.length + 1) := by rw [h]; simp
    have hx : l[d.length]? = some x := by rw [h]; simp
    have hr : rd_T45 l (d.length : Int) = x := getD_of z45 hx
    have ht := tent_in ha (x := x) (by rw [h]; simp)
    have ih := implBF_down l hl ha t (d ++ [x]) (s + (x.f1 - (x.f2.length : Int))) (by rw [h]; simp) (by omega) (by simp; omega)
    rw [List.length_append, List.length_singleton, show ((d.length + 1 : Nat) : Int) = (d.length : Int) + 1 from by omega] at ih
    have e : s + bedSum (x :: t) = s + (x.f1 - (x.f2.length : Int)) + bedSum t := by show s + ((x.f1 - (x.f2.length : Int)) + bedSum t) = _; omega
    rw [e]
    refine Ev.step (fun k => ?_) ih
    simp only [impl_BedsFree.l0, hr, wrapi d.length (by omega), wrap_id (n := x.f1 - (x.f2.length : Int)) (by omega) (by omega), wrap_id (n := s + (x.f1 - (x.f2.length : Int))) (by omega) (by omega)]
    rw [if_pos (by omega), if_pos (by omega), if_pos (by omega)]
theorem implBF_ev (l : List S45) (hl : l.length ≤ 1048576) : Ev (fun k => impl_BedsFree.f k l) (mBeds l) := by
  unfold impl_BedsFree.f mBeds
  refine Ev.bind (implAT_ev l hl) ?_
  by_cases ha : mAreTents l = true
  · simp only [ha, if_true]
    have := implBF_down l hl ha l [] 0 rfl (by omega) (by simp)
    rw [Int.zero_add] at this
    exact this
  · simp only [ha, if_false]
    exact Ev.now _
def stepTO (who : Int) : Nat → Unit → S45 → Int ⊕ Unit := fun _ _ x => if who ∈ x.f2 then .inl x.f0 else .inr ()
def mTentOf (l : List S45) (who : Int) : Int := run (stepTO who) (fun _ => 0) 0 () l
theorem implTO_at (l : List S45) (who : Int) (hl : l.length ≤ 1048576) (hw : ∀ x ∈ l, x.f2.length ≤ 1048576) : ∀ k, l.length + 1048577 < k → impl_TentOf.f k l who = some (mTentOf l who) :=
  at_loop (fun k _ i => impl_TentOf.l0 k who l (l.length : Int) i) l (stepTO who) (fun _ => 0) (by omega) () 1048577
    (fun k s _ => by simp only [impl_TentOf.l0]; rw [if_neg (by omega)])
    (fun k s i x hk hx hw' => by
      have hi := lt_of_get hx
      have hr : rd_T45 l (i : Int) = x := getD_of z45 hx
      have hxw := hw x (List.mem_of_getElem? hx)
      simp only [impl_TentOf.l0, hr, hw', implHas_at x.f2 who (by omega) k (by omega), Option.bind_some, decide_eq_true_eq]; rw [if_pos (by omega), if_pos (by omega), if_pos (by omega)]
      simp only [stepTO]; split <;> rfl)
theorem implTO_ev (l : List S45) (who : Int) (hl : l.length ≤ 1048576) (hw : ∀ x ∈ l, x.f2.length ≤ 1048576) : Ev (fun k => impl_TentOf.f k l who) (mTentOf l who) := ev_at (implTO_at l who hl hw)
/-! ### Who sleeps where -/
def clr (x : S45) : S45 := ⟨x.f0, x.f1, []⟩
def fillT : List S45 → List Int → List S45
  | [], _ => []
  | t :: ts, p => ⟨t.f0, t.f1, p.take t.f1.toNat⟩ :: fillT ts (p.drop t.f1.toNat)
def sumN : List S45 → Nat
  | [] => 0
  | t :: ts => t.f1.toNat + sumN ts
def put1 (n : Int) : List S45 → List S45
  | [] => []
  | t :: ts => if (t.f2.length : Int) = t.f1 then t :: put1 n ts else ⟨t.f0, t.f1, t.f2 ++ [n]⟩ :: ts
theorem fillT_nil : ∀ ts : List S45, fillT ts [] = ts.map clr
  | [] => rfl
  | t :: ts => by simp [fillT, fillT_nil ts, clr]
theorem fillT_len : ∀ (ts : List S45) (p : List Int), (fillT ts p).length = ts.length
  | [], _ => rfl
  | t :: ts, p => by simp [fillT, fillT_len ts]
theorem fillT_who : ∀ (ts : List S45) (p : List Int), ∀ y ∈ fillT ts p, y.f2.length ≤ p.length
  | [], _, y, h => by cases h
  | t :: ts, p, y, h => by
    rcases List.mem_cons.1 h with rfl | h
    · simp only [List.length_take]; omega
    · have := fillT_who ts (p.drop t.f1.toNat) y h
      rw [List.length_drop] at this
      omega
theorem put1_fill (n : Int) : ∀ (ts : List S45) (p : List Int), (∀ x ∈ ts, 0 ≤ x.f1) → p.length < sumN ts → put1 n (fillT ts p) = fillT ts (p ++ [n])
  | [], p, _, h => by simp [sumN] at h
  | t :: ts, p, hf, h => by
    have h0 := hf t (by simp)
    simp only [sumN] at h
    simp only [fillT, put1, List.length_take]
    by_cases c : p.length < t.f1.toNat
    · rw [if_neg (by omega), List.take_of_length_le (by omega : p.length ≤ t.f1.toNat), List.take_of_length_le (by simp; omega : (p ++ [n]).length ≤ t.f1.toNat), List.drop_eq_nil_of_le (by omega : p.length ≤ t.f1.toNat), List.drop_eq_nil_of_le (by simp; omega : (p ++ [n]).length ≤ t.f1.toNat)]
    · rw [if_pos (by omega), put1_fill n ts (p.drop t.f1.toNat) (fun x hx => hf x (by simp [hx])) (by rw [List.length_drop]; omega), List.take_append_of_le_length (by omega), List.drop_append_of_le_length (by omega)]
theorem fill_free : ∀ (ts : List S45) (p : List Int), (∀ x ∈ ts, 0 ≤ x.f1) → p.length < sumN ts → ∃ y ∈ fillT ts p, (y.f2.length : Int) ≠ y.f1
  | [], p, _, h => by simp [sumN] at h
  | t :: ts, p, hf, h => by
    have h0 := hf t (by simp)
    simp only [sumN] at h
    by_cases c : p.length < t.f1.toNat
    · exact ⟨_, List.mem_cons_self, by simp only [List.length_take]; omega⟩
    · obtain ⟨y, hy, hn⟩ := fill_free ts (p.drop t.f1.toNat) (fun x hx => hf x (by simp [hx])) (by rw [List.length_drop]; omega)
      exact ⟨y, List.mem_cons_of_mem _ hy, hn⟩
theorem bedSum_clr : ∀ ts : List S45, (∀ x ∈ ts, 0 ≤ x.f1) → bedSum (ts.map clr) = (sumN ts : Int)
  | [], _ => rfl
  | t :: ts, h => by
    have h0 := h t (by simp)
    have ih := bedSum_clr ts (fun x hx => h x (by simp [hx]))
    simp only [List.map_cons, bedSum, sumN, ih, clr, List.length_nil]
    omega
theorem runAT_clr (l : List S45) (b : Bool) : ∀ (t : List S45) (i : Nat) (s : List Int), (∀ j x, t[j]? = some x → okTent (l.map clr) (i + j) (clr x)) → run (stepAT (l.map clr)) (fun _ => b) i s (t.map clr) = b
  | [], _, _, _ => rfl
  | x :: t, i, s, h => by
    have h0 := h 0 x rfl
    rw [Nat.add_zero] at h0
    rw [List.map_cons, run_inr (show stepAT (l.map clr) i s (clr x) = .inr s by simp only [stepAT, if_pos h0]; rfl)]
    exact runAT_clr l b t (i + 1) s (fun j y hy => by have := h (j + 1) y hy; rwa [show i + (j + 1) = i + 1 + j by omega] at this)
theorem mAreTents_clr {l : List S45} (h : mAreTents l = true) : mAreTents (l.map clr) = true := by
  obtain ⟨h1, h2⟩ := mAreTents_ok h
  unfold mAreTents
  rw [List.length_map, decide_eq_true (show (l.length : Int) ≤ 8 by omega)]
  refine runAT_clr l true l 0 [] (fun j x hx => ?_)
  rw [Nat.zero_add]
  obtain ⟨a, b, c, d⟩ := h1 j x hx
  refine ⟨a, b, ?_, ?_⟩
  · show ((0 : Nat) : Int) ≤ x.f1
    omega
  · rcases d with d | d
    · exact .inl d
    · right
      have hj := lt_of_get hx
      rw [List.getD_eq_getElem?_getD, List.getElem?_eq_getElem (by omega : j - 1 < l.length), Option.getD_some] at d
      rw [List.getD_eq_getElem?_getD, List.getElem?_map, List.getElem?_eq_getElem (by omega : j - 1 < l.length), Option.map_some, Option.getD_some]
      exact d
theorem tents_f1 {l : List S45} (h : mAreTents l = true) : ∀ x ∈ l, 1 ≤ x.f1 ∧ x.f1 ≤ 6 := fun x hx => (tent_in h hx).1
theorem sumN_le : ∀ ts : List S45, (∀ x ∈ ts, 1 ≤ x.f1 ∧ x.f1 ≤ 6) → sumN ts ≤ 6 * ts.length
  | [], _ => by simp [sumN]
  | t :: ts, h => by
    have h0 := h t (by simp)
    have := sumN_le ts (fun x hx => h x (by simp [hx]))
    simp only [sumN, List.length_cons]
    omega
def idsOf (c : List S49) : List Int := c.map fun x => x.f0
def mPutUp (l : List S45) (c : List S49) : List S45 × Bool := if mAreTents l = true ∧ mAreCrew c = true ∧ ¬ sumN l < c.length then (fillT l (idsOf c), true) else (l, false)
theorem copyOf_eq (l : List Int) (hl : l.length ≤ 1048576) : impl_copyOf.f l = some l := by
  simp only [impl_copyOf.f, Option.bind_some, List.nil_append, List.length_nil, Nat.zero_add]
  rw [if_pos (by omega)]
theorem implCopy_down (l : List S45) (hl : l.length ≤ 1048576) (hw : ∀ x ∈ l, x.f2.length ≤ 1048576) : ∀ (t d : List S45), l = d ++ t → Ev (fun k => impl_copyTents.l0 k d l (l.length : Int) (d.length : Int)) l
  | [], d, h => by
    refine Ev.step (f := fun _ => some d) (fun k => ?_) ?_
    · simp only [impl_copyTents.l0]
      rw [if_neg (by rw [h]; simp)]
    · rw [List.append_nil] at h
      rw [h]
      exact Ev.now _
  | x :: t, d, h => by
    have hlen : l.length = d.length + (t.length + 1) := by rw [h]; simp
    have hx : l[d.length]? = some x := by rw [h]; simp
    have hr : rd_T45 l (d.length : Int) = x := getD_of z45 hx
    have ih := implCopy_down l hl hw t (d ++ [x]) (by rw [h]; simp)
    rw [List.length_append, List.length_singleton, show ((d.length + 1 : Nat) : Int) = (d.length : Int) + 1 from by omega] at ih
    refine Ev.step (fun k => ?_) ih
    simp only [impl_copyTents.l0, hr, wrapi d.length (by omega), copyOf_eq x.f2 (hw x (List.mem_of_getElem? hx)), Option.bind_some]
    rw [if_pos (by omega), if_pos (by omega), if_pos (by omega), if_pos (by omega)]
theorem implCopy_ev (l : List S45) (hl : l.length ≤ 1048576) (hw : ∀ x ∈ l, x.f2.length ≤ 1048576) : Ev (fun k => impl_copyTents.f k l) l := implCopy_down l hl hw l [] rfl
/-! ### PutUp, the program's -/
theorem implClr_down (l : List S45) (hl : l.length ≤ 1048576) (c : List S49) (R : List S45 × Bool)
    (hR : Ev (fun k => (impl_BedsFree.f k (l.map clr)).bind fun t279 => (if t279 < (c.length : Int) then ((impl_copyTents.f k l).bind fun t280 => (some (t280, false))) else (impl_PutUp.l1 k (l.map clr) c (c.length : Int) 0))) R) :
    ∀ (t d : List S45), l = d ++ t → Ev (fun k => impl_PutUp.l0 k l c (d.map clr ++ t) (l.length : Int) (d.length : Int)) R
  | [], d, h => by
    refine Ev.step (fun k => ?_) hR
    rw [List.append_nil] at h
    subst h
    simp only [impl_PutUp.l0, List.append_nil]
    rw [if_neg (by omega)]
  | x :: t, d, h => by
    have hlen : l.length = d.length + (t.length + 1) := by rw [h]; simp
    have hr : rd_T45 (d.map clr ++ x :: t) (d.length : Int) = x := getD_of z45 (by simp)
    have ih := implClr_down l hl c R hR t (d ++ [x]) (by rw [h]; simp)
    rw [List.length_append, List.length_singleton, show ((d.length + 1 : Nat) : Int) = (d.length : Int) + 1 from by omega] at ih
    refine Ev.step (fun k => ?_) ih
    simp only [impl_PutUp.l0, hr, wrapi d.length (by omega), Int.toNat_natCast]
    rw [if_pos (by omega), if_pos (by omega), if_pos (by simp only [List.length_append, List.length_map, List.length_cons]; omega), set_append (d.map clr) x _ t d.length (by simp)]
    simp [clr]
theorem implPut_down (c : List S49) (n j : Int) (m0 m1 m2 : Int) (m3 : Bool) (R : List S45 × Bool) :
    ∀ (t d : List S45), d.length + t.length ≤ 1048576 → (∀ x ∈ t, x.f2.length ≤ 1048576) → (∃ y ∈ t, (y.f2.length : Int) ≠ y.f1) →
    Ev (fun k => impl_PutUp.l1 k (d ++ put1 m0 t) c n (wrap64 (j + 1))) R → Ev (fun k => impl_PutUp.l2 k (d ++ t) (d.length : Int) c n j m0 m1 m2 m3) R
  | [], d, _, _, h, _ => by obtain ⟨y, hy, _⟩ := h; cases hy
  | x :: t, d, hl, hw, h, hR => by
    simp only [List.length_cons] at hl
    have hr : rd_T45 (d ++ x :: t) (d.length : Int) = x := getD_of z45 (by simp)
    have hwx := hw x (by simp)
    by_cases cx : (x.f2.length : Int) = x.f1
    · have h' : ∃ y ∈ t, (y.f2.length : Int) ≠ y.f1 := by
        obtain ⟨y, hy, hn⟩ := h
        rcases List.mem_cons.1 hy with rfl | hy
        · exact absurd cx hn
        · exact ⟨y, hy, hn⟩
      have ih := implPut_down c n j m0 m1 m2 m3 R t (d ++ [x]) (by simp only [List.length_append, List.length_singleton]; omega) (fun y hy => hw y (by simp [hy])) h' (by simpa [put1, if_pos cx] using hR)
      rw [List.length_append, List.length_singleton, show ((d.length + 1 : Nat) : Int) = (d.length : Int) + 1 from by omega] at ih
      refine Ev.step (fun k => ?_) ih
      simp only [impl_PutUp.l2, hr, wrapi d.length (by omega)]
      rw [if_pos (by omega), if_pos (by simp only [List.length_append, List.length_cons]; omega), if_pos cx]
      simp
    · refine Ev.step (fun k => ?_) hR
      simp only [impl_PutUp.l2, hr, Int.toNat_natCast]
      rw [if_pos (by omega), if_pos (by simp only [List.length_append, List.length_cons]; omega), if_neg cx, if_pos (by omega), set_append d x _ t d.length rfl]
      simp [put1, if_neg cx]
theorem implFill_down (l : List S45) (hl : l.length ≤ 1048576) (hf : ∀ x ∈ l, 0 ≤ x.f1) (c : List S49) (hc : c.length ≤ 1048576) (hs : c.length ≤ sumN l) : ∀ (n j : Nat), j + n = c.length →
    Ev (fun k => impl_PutUp.l1 k (fillT l ((idsOf c).take j)) c (c.length : Int) (j : Int)) (fillT l (idsOf c), true)
  | 0, j, h => by
    refine Ev.step (f := fun _ => some (fillT l (idsOf c), true)) (fun k => ?_) (Ev.now _)
    simp only [impl_PutUp.l1]
    rw [if_neg (by omega), List.take_of_length_le (by simp [idsOf]; omega)]
  | n + 1, j, h => by
    have hj : j < c.length := by omega
    have hx : c[j]? = some c[j] := List.getElem?_eq_getElem hj
    have hr : rd_T49 c (j : Int) = c[j] := getD_of z49 hx
    have hlen : ((idsOf c).take j).length = j := by simp [idsOf]; omega
    have hput : put1 c[j].f0 (fillT l ((idsOf c).take j)) = fillT l ((idsOf c).take (j + 1)) := by
      rw [put1_fill _ _ _ hf (by omega), List.take_add_one, show (idsOf c)[j]? = some c[j].f0 from by simp [idsOf, hj]]
      rfl
    have ih := implFill_down l hl hf c hc hs n (j + 1) (by omega)
    rw [show ((j + 1 : Nat) : Int) = (j : Int) + 1 from by omega] at ih
    refine Ev.step (f := fun k => impl_PutUp.l2 k (fillT l ((idsOf c).take j)) 0 c (c.length : Int) (j : Int) c[j].f0 c[j].f1 c[j].f2 c[j].f3) (fun k => ?_) ?_
    · simp only [impl_PutUp.l1, hr]
      rw [if_pos (by omega), if_pos (by omega), if_pos (by omega)]
    · refine implPut_down c (c.length : Int) (j : Int) _ _ _ _ _ (fillT l ((idsOf c).take j)) [] (by simp [fillT_len]; omega) (fun x hx => Nat.le_trans (fillT_who _ _ x hx) (by omega)) (fill_free _ _ hf (by omega)) ?_
      rw [List.nil_append, hput, wrapi j (by omega)]
      exact ih
theorem implPutUp_ev (l : List S45) (hl : l.length ≤ 1048576) (hw : ∀ x ∈ l, x.f2.length ≤ 1048576) (c : List S49) (hc : c.length ≤ 1048576) : Ev (fun k => impl_PutUp.f k l c) (mPutUp l c) := by
  unfold impl_PutUp.f
  refine Ev.bind (implCopy_ev l hl hw) ?_
  refine Ev.bind (implAT_ev l hl) ?_
  have no : ∀ b : Bool, b = true → ¬ (mAreTents l = true ∧ mAreCrew c = true ∧ ¬ sumN l < c.length) → Ev (fun k => impl_PutUp.j0 k l c l b) (mPutUp l c) := by
    intro b hb hn
    refine Ev.step (f := fun _ => some (l, false)) (fun k => ?_) ?_
    · simp only [impl_PutUp.j0, hb, if_true]
    · unfold mPutUp
      rw [if_neg hn]
      exact Ev.now _
  by_cases ha : mAreTents l = true
  · simp only [ha, if_true]
    refine Ev.bind (ev_at (implAC_at c (by omega))) ?_
    by_cases hcr : mAreCrew c = true
    · simp only [hcr, Bool.not_true]
      refine Ev.step (f := fun k => impl_PutUp.l0 k l c l (l.length : Int) 0) (fun k => by simp only [impl_PutUp.j0, Bool.false_eq_true, if_false]) ?_
      have hf : ∀ x ∈ l, 0 ≤ x.f1 := fun x hx => by have := tents_f1 ha x hx; omega
      refine implClr_down l hl c _ ?_ l [] rfl
      refine Ev.bind (implBF_ev (l.map clr) (by simpa using hl)) ?_
      rw [show mBeds (l.map clr) = (sumN l : Int) from by unfold mBeds; rw [if_pos (mAreTents_clr ha), bedSum_clr l hf]]
      unfold mPutUp
      by_cases hs : sumN l < c.length
      · rw [if_neg (fun h => h.2.2 hs)]
        simp only [show ((sumN l : Int) < (c.length : Int)) from by omega, if_true]
        exact Ev.bind (implCopy_ev l hl hw) (Ev.now _)
      · rw [if_pos ⟨ha, hcr, hs⟩]
        simp only [show ¬ ((sumN l : Int) < (c.length : Int)) from by omega, if_false]
        have h := implFill_down l hl hf c hc (by omega) c.length 0 (by omega)
        rw [List.take_zero, fillT_nil] at h
        exact h
    · simp only [hcr, Bool.not_false]
      exact no true rfl (fun h => hcr h.2.1)
  · simp only [ha, if_false]
    exact no true rfl (fun h => ha h.1)
theorem specCopy_down (l : List S45) (hl : l.length ≤ 1048576) (hw : ∀ x ∈ l, x.f2.length ≤ 1048576) : ∀ (t d : List S45), l = d ++ t → Ev (fun k => spec_l23Copy.l0 k l d (d.length : Int)) l
  | [], d, h => by
    refine Ev.step (f := fun _ => some d) (fun k => ?_) ?_
    · simp only [spec_l23Copy.l0]
      rw [if_neg (by rw [h]; simp)]
    · rw [List.append_nil] at h
      rw [h]
      exact Ev.now _
  | x :: t, d, h => by
    have hlen : l.length = d.length + (t.length + 1) := by rw [h]; simp
    have hx : l[d.length]? = some x := by rw [h]; simp
    have hr : rd_T45 l (d.length : Int) = x := getD_of z45 hx
    have hwx := hw x (List.mem_of_getElem? hx)
    have ih := specCopy_down l hl hw t (d ++ [x]) (by rw [h]; simp)
    rw [List.length_append, List.length_singleton, show ((d.length + 1 : Nat) : Int) = (d.length : Int) + 1 from by omega] at ih
    refine Ev.step (fun k => ?_) ih
    simp only [spec_l23Copy.l0, hr, wrapi d.length (by omega), Option.bind_some, List.nil_append, List.length_nil, Nat.zero_add]
    rw [if_pos (by omega), if_pos (by omega), if_pos (by omega), if_pos (by omega)]
theorem specCopy_ev (l : List S45) (hl : l.length ≤ 1048576) (hw : ∀ x ∈ l, x.f2.length ≤ 1048576) : Ev (fun k => spec_l23Copy.f k l) l := specCopy_down l hl hw l [] rfl
/-! ### PutUp, the reference's -/
theorem specClr_down (l0 l : List S45) (hl : l.length ≤ 1048576) (c : List S49) (R : List S45 × Bool) (hR : Ev (fun k => spec_PutUp.l1 k l0 c (l.map clr) 0 0) R) :
    ∀ (t d : List S45), l = d ++ t → Ev (fun k => spec_PutUp.l0 k l0 c (d.map clr ++ t) (d.length : Int)) R
  | [], d, h => by
    refine Ev.step (fun k => ?_) hR
    rw [List.append_nil] at h
    subst h
    simp only [spec_PutUp.l0, List.append_nil]
    rw [if_neg (by simp)]
  | x :: t, d, h => by
    have hlen : l.length = d.length + (t.length + 1) := by rw [h]; simp
    have hr : rd_T45 (d.map clr ++ x :: t) (d.length : Int) = x := getD_of z45 (by simp)
    have ih := specClr_down l0 l hl c R hR t (d ++ [x]) (by rw [h]; simp)
    rw [List.length_append, List.length_singleton, show ((d.length + 1 : Nat) : Int) = (d.length : Int) + 1 from by omega] at ih
    refine Ev.step (fun k => ?_) ih
    simp only [spec_PutUp.l0, hr, wrapi d.length (by omega), Int.toNat_natCast]
    rw [if_pos (by simp only [List.length_append, List.length_map, List.length_cons]; omega), if_pos (by omega), set_append (d.map clr) x _ t d.length (by simp)]
    simp [clr]
/-- The end: what is answered where no tent is left, or the arguments are no plan. -/
theorem specEnd (l x6 : List S45) (hl : l.length ≤ 1048576) (hw : ∀ x ∈ l, x.f2.length ≤ 1048576) (c : List S49) (hc : c.length ≤ 1048576) (j : Nat) (x9 : Int) :
    Ev (fun k => spec_PutUp.j2 k l c x6 (j : Int) x9 false) (if j < c.length ∨ ¬ (mAreTents l = true ∧ mAreCrew c = true) then (l, false) else (x6, true)) := by
  refine Ev.step (f := fun k => if (j : Int) < (c.length : Int) then ((spec_l23Copy.f k l).bind fun t202 => (some (t202, false))) else ((spec_AreTents.f k l).bind fun t205 => (if t205 = true then ((spec_AreCrew.f k c).bind fun t206 => (if t206 = true then (some (x6, true)) else ((spec_l23Copy.f k l).bind fun t207 => (some (t207, false))))) else ((spec_l23Copy.f k l).bind fun t210 => (some (t210, false)))))) (fun k => by simp only [spec_PutUp.j2, Bool.false_eq_true, if_false]) ?_
  have hcp : Ev (fun k => (spec_l23Copy.f k l).bind fun t => some (t, false)) (l, false) := Ev.bind (specCopy_ev l hl hw) (Ev.now _)
  by_cases h : j < c.length
  · simp only [show ((j : Int) < (c.length : Int)) from by omega, if_true]
    rw [if_pos (.inl h)]
    exact hcp
  · simp only [show ¬ ((j : Int) < (c.length : Int)) from by omega, if_false]
    refine Ev.bind (specAT_ev l hl) ?_
    by_cases ha : mAreTents l = true
    · simp only [ha, if_true]
      refine Ev.bind (ev_at (specAC_at c (by omega))) ?_
      by_cases hcr : mAreCrew c = true
      · simp only [hcr, if_true]
        rw [if_neg (by simp [h])]
        exact Ev.now _
      · simp only [hcr, if_false]
        rw [if_pos (by simp)]
        exact hcp
    · simp only [ha, if_false]
      rw [if_pos (by simp [ha])]
      exact hcp
theorem specNext (l x6 : List S45) (hl : l.length ≤ 1048576) (c : List S49) (hc : c.length ≤ 1048576) (j : Int) (i : Nat) (R : List S45 × Bool)
    (hR : Ev (fun k => spec_PutUp.j2 k l c x6 j (i : Int) (decide (i < x6.length ∧ mAreTents l = true ∧ mAreCrew c = true))) R) : Ev (fun k => spec_PutUp.l1 k l c x6 j (i : Int)) R := by
  by_cases h : i < x6.length
  · refine Ev.step (f := fun k => (spec_AreTents.f k l).bind fun t192 => (if t192 = true then ((spec_AreCrew.f k c).bind fun t193 => (spec_PutUp.j2 k l c x6 j (i : Int) t193)) else (spec_PutUp.j2 k l c x6 j (i : Int) false))) (fun k => by simp only [spec_PutUp.l1]; rw [if_pos (by omega)]) ?_
    refine Ev.bind (specAT_ev l hl) ?_
    by_cases ha : mAreTents l = true
    · simp only [ha, if_true]
      refine Ev.bind (ev_at (specAC_at c (by omega))) ?_
      simp only [h, ha, true_and, Bool.decide_eq_true] at hR
      exact hR
    · simp only [ha, if_false]
      simp only [h, ha, false_and, and_false, decide_false] at hR
      exact hR
  · refine Ev.step (f := fun k => spec_PutUp.j2 k l c x6 j (i : Int) false) (fun k => by simp only [spec_PutUp.l1]; rw [if_neg (by omega)]) ?_
    simp only [h, false_and, decide_false] at hR
    exact hR
/-- One tent is filled. -/
theorem specTent (l : List S45) (c : List S49) (hc : c.length ≤ 1048576) (d t : List S45) (hd : d.length ≤ 1048576) (f0 f1 : Int) (hf1 : f1 ≤ 6) (R : List S45 × Bool) : ∀ (n j : Nat) (w : List Int), (w.length : Int) ≤ f1 → f1 = w.length + (n : Nat) →
    Ev (fun k => spec_PutUp.l1 k l c (d ++ ⟨f0, f1, w ++ ((idsOf c).drop j).take n⟩ :: t) ((j + min n (c.length - j) : Nat) : Int) ((d.length + 1 : Nat) : Int)) R →
    Ev (fun k => spec_PutUp.l2 k l c (d ++ ⟨f0, f1, w⟩ :: t) (j : Int) (d.length : Int)) R := by
  intro n
  induction n with
  | zero =>
    intro j w h0 h1 hR
    have hr : rd_T45 (d ++ (⟨f0, f1, w⟩ : S45) :: t) (d.length : Int) = ⟨f0, f1, w⟩ := getD_of z45 (by simp)
    refine Ev.step (fun k => ?_) hR
    simp only [spec_PutUp.l2, hr, wrapi d.length (by omega)]
    rw [if_pos (by omega), if_pos (by simp only [List.length_append, List.length_cons]; omega), if_neg (by omega)]
    simp
  | succ n ih =>
    intro j w h0 h1 hR
    have hr : rd_T45 (d ++ (⟨f0, f1, w⟩ : S45) :: t) (d.length : Int) = ⟨f0, f1, w⟩ := getD_of z45 (by simp)
    by_cases hj : j < c.length
    · have hx : c[j]? = some c[j] := List.getElem?_eq_getElem hj
      have hrc : rd_T49 c (j : Int) = c[j] := getD_of z49 hx
      have hdr : (idsOf c).drop j = c[j].f0 :: (idsOf c).drop (j + 1) := by
        rw [List.drop_eq_getElem_cons (by simp [idsOf]; exact hj)]
        simp [idsOf]
      have e2 : j + 1 + min n (c.length - (j + 1)) = j + min (n + 1) (c.length - j) := by omega
      have := ih (j + 1) (w ++ [c[j].f0]) (by simp; omega) (by simp; omega) (by
        rw [e2]
        rw [hdr, List.take_succ_cons] at hR
        simpa using hR)
      rw [show ((j + 1 : Nat) : Int) = (j : Int) + 1 from by omega] at this
      refine Ev.step (fun k => ?_) this
      simp only [spec_PutUp.l2, hr, hrc, wrapi j (by omega), Int.toNat_natCast]
      rw [if_pos (by omega), if_pos (by simp only [List.length_append, List.length_cons]; omega), if_pos (by omega), if_pos (by omega), if_pos (by omega), if_pos (by omega), set_append d _ _ t d.length rfl]
      simp
    · have e1 : (idsOf c).drop j = [] := List.drop_eq_nil_of_le (by simp [idsOf]; omega)
      rw [e1, List.take_nil, List.append_nil, show j + min (n + 1) (c.length - j) = j by omega] at hR
      refine Ev.step (fun k => ?_) hR
      simp only [spec_PutUp.l2, hr, wrapi d.length (by omega)]
      rw [if_pos (by omega), if_pos (by simp only [List.length_append, List.length_cons]; omega), if_pos (by omega), if_neg (by omega)]
      simp
theorem specFill (l : List S45) (hl : l.length ≤ 1048576) (hw : ∀ x ∈ l, x.f2.length ≤ 1048576) (c : List S49) (hc : c.length ≤ 1048576) (ha : mAreTents l = true) (hcr : mAreCrew c = true) : ∀ (ts d : List S45) (j : Nat), (∀ x ∈ ts, 1 ≤ x.f1 ∧ x.f1 ≤ 6) → d.length + ts.length ≤ 1048576 → j ≤ c.length →
    Ev (fun k => spec_PutUp.l1 k l c (d ++ ts.map clr) (j : Int) (d.length : Int)) (if sumN ts < c.length - j then (l, false) else (d ++ fillT ts ((idsOf c).drop j), true))
  | [], d, j, _, hd, hj => by
    refine specNext l _ hl c hc _ d.length _ ?_
    rw [decide_eq_false (by simp)]
    have h := specEnd l (d ++ [].map clr) hl hw c hc j (d.length : Int)
    rw [show (if sumN ([] : List S45) < c.length - j then (l, false) else (d ++ fillT [] ((idsOf c).drop j), true)) = (if j < c.length ∨ ¬ (mAreTents l = true ∧ mAreCrew c = true) then (l, false) else (d ++ [].map clr, true)) from by
      by_cases h : j < c.length
      · rw [if_pos (show sumN ([] : List S45) < c.length - j from by simp only [sumN]; omega), if_pos (.inl h)]
      · rw [if_neg (show ¬ (sumN ([] : List S45) < c.length - j) from by simp only [sumN]; omega), if_neg (by simp [h, ha, hcr])]
        rfl]
    exact h
  | t :: ts, d, j, hf, hd, hj => by
    have ht := hf t (by simp)
    simp only [List.length_cons] at hd
    refine specNext l _ hl c hc _ d.length _ ?_
    rw [decide_eq_true ⟨by simp, ha, hcr⟩]
    refine Ev.step (f := fun k => spec_PutUp.l2 k l c (d ++ (t :: ts).map clr) (j : Int) (d.length : Int)) (fun k => by simp only [spec_PutUp.j2, if_true]) ?_
    refine specTent l c hc d (ts.map clr) (by omega) t.f0 t.f1 (by omega) _ t.f1.toNat j [] (by simp; omega) (by simp; omega) ?_
    have ih := specFill l hl hw c hc ha hcr ts (d ++ [⟨t.f0, t.f1, ((idsOf c).drop j).take t.f1.toNat⟩]) (j + min t.f1.toNat (c.length - j)) (fun x hx => hf x (by simp [hx])) (by simp only [List.length_append, List.length_singleton]; omega) (by omega)
    have hdd : (idsOf c).drop (j + min t.f1.toNat (c.length - j)) = ((idsOf c).drop j).drop t.f1.toNat := by
      rw [List.drop_drop]
      by_cases h : t.f1.toNat ≤ c.length - j
      · rw [Nat.min_eq_left h]
      · rw [List.drop_eq_nil_of_le (by simp [idsOf]; omega), List.drop_eq_nil_of_le (by simp [idsOf]; omega)]
    rw [hdd, List.length_append, List.length_singleton] at ih
    have e : (if sumN ts < c.length - (j + min t.f1.toNat (c.length - j)) then (l, false) else (d ++ [⟨t.f0, t.f1, ((idsOf c).drop j).take t.f1.toNat⟩] ++ fillT ts (((idsOf c).drop j).drop t.f1.toNat), true)) = (if sumN (t :: ts) < c.length - j then (l, false) else (d ++ fillT (t :: ts) ((idsOf c).drop j), true)) := by
      by_cases h : t.f1.toNat + sumN ts < c.length - j
      · rw [if_pos (show sumN (t :: ts) < c.length - j from h), if_pos (by omega)]
      · rw [if_neg (show ¬ (sumN (t :: ts) < c.length - j) from h), if_neg (by omega)]
        simp [fillT]
    rw [e] at ih
    simpa using ih
theorem specPutUp_ev (l : List S45) (hl : l.length ≤ 1048576) (hw : ∀ x ∈ l, x.f2.length ≤ 1048576) (c : List S49) (hc : c.length ≤ 1048576) : Ev (fun k => spec_PutUp.f k l c) (mPutUp l c) := by
  unfold spec_PutUp.f
  refine Ev.bind (specCopy_ev l hl hw) ?_
  refine specClr_down l l hl c _ ?_ l [] rfl
  by_cases h : mAreTents l = true ∧ mAreCrew c = true
  · have hs := specFill l hl hw c hc h.1 h.2 l [] 0 (tents_f1 h.1) (by simp; omega) (by omega)
    have e : mPutUp l c = (if sumN l < c.length - 0 then (l, false) else ([] ++ fillT l ((idsOf c).drop 0), true)) := by
      unfold mPutUp
      by_cases hn : sumN l < c.length
      · rw [if_neg (fun h => h.2.2 hn), if_pos (by omega)]
      · rw [if_pos ⟨h.1, h.2, hn⟩, if_neg (by omega)]
        simp
    rw [e]
    exact hs
  · have hs := specNext l (l.map clr) hl c hc 0 0 (mPutUp l c) (by
      rw [decide_eq_false (fun h' => h h'.2)]
      have := specEnd l (l.map clr) hl hw c hc 0 0
      rw [if_pos (.inr h)] at this
      unfold mPutUp
      rw [if_neg (fun h' => h ⟨h'.1, h'.2.1⟩)]
      exact this)
    exact hs
/-! ### Who moves where -/
def rm (who : Int) (l : List Int) : List Int := l.filter fun y => decide (y ≠ who)
theorem rm_len (who : Int) (l : List Int) : (rm who l).length ≤ l.length := List.length_filter_le _ _
def mv1 (fr who : Int) (x : S45) : S45 := if x.f0 = fr then ⟨x.f0, x.f1, rm who x.f2⟩ else x
def free (tent : Int) (x : S45) : Bool := decide (x.f0 = tent ∧ (x.f2.length : Int) < x.f1)
def mv2 (tent who : Int) (x : S45) : S45 := if free tent x = true then ⟨x.f0, x.f1, x.f2 ++ [who]⟩ else x
def mvAll (fr tent who : Int) (x : S45) : S45 := if x.f0 = fr then ⟨x.f0, x.f1, rm who x.f2⟩ else mv2 tent who x
def mMoveTo (l : List S45) (who tent : Int) : List S45 × Bool :=
  if (mAreTents l = true ∧ mTentOf l who ≠ 0 ∧ mTentOf l who ≠ tent) ∧ l.any (free tent) = true then (l.map (mvAll (mTentOf l who) tent who), true) else (l, false)
theorem addAll_nodup : ∀ (t s s' : List Int), addAll s t = some s' → t.Nodup ∧ ∀ y ∈ t, y ∉ s
  | [], s, s', _ => ⟨List.nodup_nil, fun y h => by cases h⟩
  | y :: t, s, s', h => by
    rw [addAll_cons] at h
    split at h
    · cases h
    · rename_i hy
      obtain ⟨h1, h2⟩ := addAll_nodup t (s ++ [y]) s' h
      refine ⟨List.nodup_cons.2 ⟨fun hm => h2 y hm (by simp), h1⟩, fun z hz => ?_⟩
      rcases List.mem_cons.1 hz with rfl | hz
      · exact hy
      · exact fun hs => h2 z hz (by simp [hs])
theorem runAT_nodup (l : List S45) (b : Bool) : ∀ (t : List S45) (i : Nat) (s : List Int), run (stepAT l) (fun _ => b) i s t = true → ∀ x ∈ t, x.f2.Nodup
  | [], _, _, _, x, hx => by cases hx
  | y :: t, i, s, h, x, hx => by
    by_cases c : okTent l i y
    · have hs : stepAT l i s y = nextAT s y := if_pos c
      cases hn : addAll s y.f2 with
      | none =>
        rw [run_inl (show stepAT l i s y = .inl false by rw [hs]; unfold nextAT; rw [hn])] at h
        cases h
      | some s' =>
        rw [run_inr (show stepAT l i s y = .inr s' by rw [hs]; unfold nextAT; rw [hn])] at h
        rcases List.mem_cons.1 hx with rfl | hx
        · exact (addAll_nodup _ _ _ hn).1
        · exact runAT_nodup l b t (i + 1) s' h x hx
    · rw [run_inl (show stepAT l i s y = .inl false from if_neg c)] at h
      cases h
theorem tents_nodup {l : List S45} (h : mAreTents l = true) : ∀ x ∈ l, x.f2.Nodup := fun x hx => runAT_nodup l _ l 0 [] h x hx
theorem tents_lt {l : List S45} (h : mAreTents l = true) : ∀ (j i : Nat) (hj : j < l.length) (hi : i < j), (l[i]'(by omega)).f0 < l[j].f0 := by
  intro j
  induction j with
  | zero => intro i hj hi; omega
  | succ j ih =>
    intro i hj hi
    have ho := (mAreTents_ok h).1 (j + 1) l[j + 1] (List.getElem?_eq_getElem hj)
    have hd : (l.getD (j + 1 - 1) z45).f0 < l[j + 1].f0 := ho.2.2.2.resolve_left (by omega)
    rw [Nat.add_sub_cancel, List.getD_eq_getElem?_getD, List.getElem?_eq_getElem (by omega : j < l.length), Option.getD_some] at hd
    by_cases c : i = j
    · subst c; exact hd
    · exact Int.lt_trans (ih i (by omega) (by omega)) hd
theorem tents_apart {l : List S45} (h : mAreTents l = true) : l.Pairwise fun a b => a.f0 ≠ b.f0 := by
  rw [List.pairwise_iff_getElem]
  intro i j hi hj hij he
  have := tents_lt h j i hj hij
  omega
theorem apart_eq : ∀ {l : List S45}, (l.Pairwise fun a b => a.f0 ≠ b.f0) → ∀ {x y : S45}, x ∈ l → y ∈ l → x.f0 = y.f0 → x = y
  | [], _, x, y, hx, _, _ => by cases hx
  | z :: t, h, x, y, hx, hy, he => by
    obtain ⟨h1, h2⟩ := List.pairwise_cons.1 h
    rcases List.mem_cons.1 hx with ex | hx'
    · rcases List.mem_cons.1 hy with ey | hy'
      · rw [ex, ey]
      · exact absurd (ex ▸ he) (h1 y hy')
    · rcases List.mem_cons.1 hy with ey | hy'
      · exact absurd (ey ▸ he.symm) (h1 x hx')
      · exact apart_eq h2 hx' hy' he
theorem runTO (who : Int) : ∀ (t : List S45) (i : Nat), run (stepTO who) (fun _ => 0) i () t ≠ 0 → ∃ x ∈ t, who ∈ x.f2 ∧ x.f0 = run (stepTO who) (fun _ => 0) i () t
  | [], _, h => absurd rfl h
  | x :: t, i, h => by
    by_cases c : who ∈ x.f2
    · rw [run_inl (show stepTO who i () x = .inl x.f0 from if_pos c)]
      exact ⟨x, by simp, c, rfl⟩
    · have e := run_inr (fin := fun _ => (0 : Int)) (t := t) (show stepTO who i () x = .inr () from if_neg c)
      rw [e] at h ⊢
      obtain ⟨y, hy, h1, h2⟩ := runTO who t (i + 1) h
      exact ⟨y, List.mem_cons_of_mem _ hy, h1, h2⟩
theorem tent_has {l : List S45} (h : mAreTents l = true) {who : Int} (h0 : mTentOf l who ≠ 0) : ∀ x ∈ l, x.f0 = mTentOf l who → who ∈ x.f2 := by
  intro x hx he
  obtain ⟨y, hy, h1, h2⟩ := runTO who l 0 h0
  rw [apart_eq (tents_apart h) hx hy (he.trans h2.symm)]
  exact h1
theorem place_erase (n : Int) : ∀ (l : List Int) (i : Nat), n ∈ l → l.Nodup → ∃ j, j < l.length ∧ run (stepPlace n) (fun _ => -1) i () l = ((i + j : Nat) : Int) ∧ l.eraseIdx j = rm n l
  | [], _, h, _ => by cases h
  | x :: t, i, h, hd => by
    obtain ⟨hx, ht⟩ := List.nodup_cons.1 hd
    by_cases c : x = n
    · refine ⟨0, by simp, by rw [run_inl (show stepPlace n i () x = .inl (i : Int) from if_pos c)]; rfl, ?_⟩
      subst c
      simp only [List.eraseIdx_cons_zero, rm]
      rw [List.filter_cons_of_neg (by simp)]
      exact (List.filter_eq_self.2 (fun y hy => by simp only [decide_eq_true_eq]; exact fun e => hx (e ▸ hy))).symm
    · obtain ⟨j, h1, h2, h3⟩ := place_erase n t (i + 1) ((List.mem_cons.1 h).resolve_left (fun e => c e.symm)) ht
      refine ⟨j + 1, by simp; omega, ?_, ?_⟩
      · rw [run_inr (show stepPlace n i () x = .inr () from if_neg c), h2]
        omega
      · simp only [List.eraseIdx_cons_succ, h3, rm]
        rw [List.filter_cons_of_pos (by simpa using c)]
theorem mv_all (fr tent who : Int) (h : fr ≠ tent) (x : S45) : mv2 tent who (mv1 fr who x) = mvAll fr tent who x := by
  unfold mvAll mv1
  by_cases c : x.f0 = fr
  · rw [if_pos c, if_pos c]
    unfold mv2
    rw [if_neg]
    simp only [free, decide_eq_true_eq]
    exact fun h' => h (c.symm.trans h'.1)
  · rw [if_neg c, if_neg c]
theorem free_mv1 (fr tent who : Int) (h : fr ≠ tent) (x : S45) : free tent (mv1 fr who x) = free tent x := by
  unfold mv1
  by_cases c : x.f0 = fr
  · rw [if_pos c]
    have c' : x.f0 ≠ tent := fun e => h (c.symm.trans e)
    simp [free, c']
  · rw [if_neg c]
/-! ### MoveTo, the program's -/
theorem implMv2_down (l : List S45) (hl : l.length ≤ 1048576) (hw : ∀ x ∈ l, x.f2.length ≤ 1048576) (who tent : Int) : ∀ (t d : List S45), d.length + t.length ≤ 1048576 → (∀ x ∈ t, x.f2.length ≤ 1048576) → (t.Pairwise fun a b => a.f0 ≠ b.f0) →
    Ev (fun k => impl_MoveTo.l1 k l who tent (d ++ t) ((d.length + t.length : Nat) : Int) (d.length : Int)) (if t.any (free tent) = true then (d ++ t.map (mv2 tent who), true) else (l, false))
  | [], d, hd, _, _ => by
    refine Ev.step (f := fun k => (impl_copyTents.f k l).bind fun t268 => (some (t268, false))) (fun k => ?_) ?_
    · simp only [impl_MoveTo.l1, List.length_nil, Nat.add_zero]
      rw [if_neg (by omega)]
    · exact Ev.bind (implCopy_ev l hl hw) (Ev.now _)
  | x :: t, d, hd, ht, hp => by
    simp only [List.length_cons] at hd ⊢
    obtain ⟨hp1, hp2⟩ := List.pairwise_cons.1 hp
    have hr : rd_T45 (d ++ x :: t) (d.length : Int) = x := getD_of z45 (by simp)
    have hwx := ht x (by simp)
    have ih := implMv2_down l hl hw who tent t (d ++ [x]) (by simp only [List.length_append, List.length_singleton]; omega) (fun y hy => ht y (by simp [hy])) hp2
    rw [List.length_append, List.length_singleton, show ((d.length + 1 : Nat) : Int) = (d.length : Int) + 1 from by omega, show ((d.length + 1 + t.length : Nat) : Int) = ((d.length + (t.length + 1) : Nat) : Int) from by omega, List.append_assoc, List.singleton_append] at ih
    by_cases c : free tent x = true
    · have c' : x.f0 = tent ∧ (x.f2.length : Int) < x.f1 := by simpa [free] using c
      have hno : ∀ y ∈ t, free tent y = false := by
        intro y hy
        have h1 := hp1 y hy
        have h2 : y.f0 ≠ tent := fun e => h1 (c'.1.trans e.symm)
        simp [free, h2]
      have hmap : t.map (mv2 tent who) = t := by
        conv => rhs; rw [← List.map_id t]
        exact List.map_congr_left (fun y hy => by simp [mv2, hno y hy])
      have e : (if (x :: t).any (free tent) = true then (d ++ (x :: t).map (mv2 tent who), true) else (l, false)) = ((d ++ x :: t).set d.length ⟨x.f0, x.f1, x.f2 ++ [who]⟩, true) := by
        rw [if_pos (by simp [c]), List.map_cons, hmap, set_append d x _ t d.length rfl]
        simp [mv2, c]
      rw [e]
      refine Ev.step (f := fun _ => some ((d ++ x :: t).set d.length (⟨x.f0, x.f1, x.f2 ++ [who]⟩ : S45), true)) (fun k => ?_) (Ev.now _)
      simp only [impl_MoveTo.l1, hr, Int.toNat_natCast]
      rw [if_pos (by omega), if_pos (by omega), if_pos (by simp only [List.length_append, List.length_cons]; omega), if_pos c'.1, if_pos c'.2, if_pos (by omega)]
    · have cf : free tent x = false := by simpa using c
      have e : (if (x :: t).any (free tent) = true then (d ++ (x :: t).map (mv2 tent who), true) else (l, false)) = (if t.any (free tent) = true then (d ++ [x] ++ t.map (mv2 tent who), true) else (l, false)) := by
        simp [cf, mv2]
      rw [e]
      refine Ev.step (f := fun k => impl_MoveTo.l1 k l who tent (d ++ x :: t) ((d.length + (t.length + 1) : Nat) : Int) ((d.length : Int) + 1)) (fun k => ?_) ih
      simp only [impl_MoveTo.l1, hr, wrapi d.length (by omega)]
      rw [if_pos (by omega), if_pos (by omega), if_pos (by simp only [List.length_append, List.length_cons]; omega)]
      by_cases c1 : x.f0 = tent
      · rw [if_pos c1, if_neg (fun h => by simp [free, c1, h] at cf)]
      · rw [if_neg c1]
theorem implMv1_down (l : List S45) (hl : l.length ≤ 1048576) (hw : ∀ x ∈ l, x.f2.length ≤ 1048576) (who tent fr : Int) (hnd : ∀ x ∈ l, x.f2.Nodup) (hhas : ∀ x ∈ l, x.f0 = fr → who ∈ x.f2) (R : List S45 × Bool)
    (hR : Ev (fun k => impl_MoveTo.l1 k l who tent (l.map (mv1 fr who)) (l.length : Int) 0) R) : ∀ (t d : List S45), l = d ++ t → Ev (fun k => impl_MoveTo.l0 k l who tent (d.map (mv1 fr who) ++ t) fr (l.length : Int) (d.length : Int)) R
  | [], d, h => by
    refine Ev.step (fun k => ?_) hR
    rw [List.append_nil] at h
    subst h
    simp only [impl_MoveTo.l0, List.append_nil]
    rw [if_neg (by omega), List.length_map]
  | x :: t, d, h => by
    have hlen : l.length = d.length + (t.length + 1) := by rw [h]; simp
    have hxl : x ∈ l := by rw [h]; simp
    have hr : rd_T45 (d.map (mv1 fr who) ++ x :: t) (d.length : Int) = x := getD_of z45 (by simp)
    have hwx := hw x hxl
    have ih := implMv1_down l hl hw who tent fr hnd hhas R hR t (d ++ [x]) (by rw [h]; simp)
    rw [List.length_append, List.length_singleton, show ((d.length + 1 : Nat) : Int) = (d.length : Int) + 1 from by omega, List.map_append, List.append_assoc] at ih
    by_cases c : x.f0 = fr
    · obtain ⟨j, hj, hpl, her⟩ := place_erase who x.f2 0 (hhas x hxl c) (hnd x hxl)
      rw [Nat.zero_add] at hpl
      have hp : place who x.f2 = (j : Int) := hpl
      refine Ev.step (f := fun k => (impl_placeOf.f k x.f2 who).bind fun t245 => (if 0 ≤ t245 then (if t245 ≤ (x.f2.length : Int) then (if 0 ≤ (wrap64 (t245 + 1)) then (if (wrap64 (t245 + 1)) ≤ (x.f2.length : Int) then (impl_MoveTo.l0 k l who tent ((d.map (mv1 fr who) ++ x :: t).set d.length (⟨x.f0, x.f1, x.f2.eraseIdx (t245 : Int).toNat⟩ : S45)) fr (l.length : Int) ((d.length : Int) + 1)) else (none)) else (none)) else (none)) else (none))) (fun k => ?_) ?_
      · simp only [impl_MoveTo.l0, hr, wrapi d.length (by omega), Int.toNat_natCast]
        rw [if_pos (by omega), if_pos (by omega), if_pos (by simp only [List.length_append, List.length_map, List.length_cons]; omega), if_pos c]
      · refine Ev.bind (ev_at (implPlace_at x.f2 who (by omega))) ?_
        simp only [hp, wrapi j (by omega), Int.toNat_natCast, her]
        simp only [show (0 : Int) ≤ (j : Int) from by omega, show (j : Int) ≤ (x.f2.length : Int) from by omega, show (0 : Int) ≤ (j : Int) + 1 from by omega, show (j : Int) + 1 ≤ (x.f2.length : Int) from by omega, if_true]
        simp only [set_append (d.map (mv1 fr who)) x _ t d.length (List.length_map ..)]
        simpa [mv1, c] using ih
    · refine Ev.step (fun k => ?_) ih
      simp only [impl_MoveTo.l0, hr, wrapi d.length (by omega)]
      rw [if_pos (by omega), if_pos (by omega), if_pos (by simp only [List.length_append, List.length_map, List.length_cons]; omega), if_neg c]
      simp [mv1, c]
theorem implMoveTo_ev (l : List S45) (hl : l.length ≤ 1048576) (hw : ∀ x ∈ l, x.f2.length ≤ 1048576) (who tent : Int) : Ev (fun k => impl_MoveTo.f k l who tent) (mMoveTo l who tent) := by
  unfold impl_MoveTo.f
  refine Ev.bind (implCopy_ev l hl hw) ?_
  refine Ev.bind (implTO_ev l who hl hw) ?_
  refine Ev.bind (implAT_ev l hl) ?_
  have no : ¬ (mAreTents l = true ∧ mTentOf l who ≠ 0 ∧ mTentOf l who ≠ tent) → Ev (fun k => impl_MoveTo.j0 k l who tent l (mTentOf l who) true) (mMoveTo l who tent) := by
    intro hn
    refine Ev.step (f := fun _ => some (l, false)) (fun k => by simp only [impl_MoveTo.j0, if_true]) ?_
    unfold mMoveTo
    rw [if_neg (fun h => hn h.1)]
    exact Ev.now _
  by_cases ha : mAreTents l = true
  · simp only [ha, if_true]
    by_cases h0 : mTentOf l who = 0
    · simp only [h0, if_true]
      have := no (fun h => h.2.1 h0)
      rw [h0] at this
      exact this
    · simp only [h0, if_false]
      by_cases h1 : mTentOf l who = tent
      · rw [show (mTentOf l who == tent) = true from by simp [h1]]
        exact no (fun h => h.2.2 h1)
      · rw [show (mTentOf l who == tent) = false from by simp [h1]]
        refine Ev.step (f := fun k => impl_MoveTo.l0 k l who tent l (mTentOf l who) (l.length : Int) 0) (fun k => by simp only [impl_MoveTo.j0, Bool.false_eq_true, if_false]) ?_
        refine implMv1_down l hl hw who tent (mTentOf l who) (tents_nodup ha) (tent_has ha h0) _ ?_ l [] rfl
        have hp : (l.map (mv1 (mTentOf l who) who)).Pairwise fun a b => a.f0 ≠ b.f0 := by
          rw [List.pairwise_map]
          refine (tents_apart ha).imp (fun {a b} h => ?_)
          have e : ∀ x : S45, (mv1 (mTentOf l who) who x).f0 = x.f0 := fun x => by unfold mv1; split <;> rfl
          rw [e, e]
          exact h
        have hw1 : ∀ x ∈ l.map (mv1 (mTentOf l who) who), x.f2.length ≤ 1048576 := by
          intro x hx
          obtain ⟨y, hy, rfl⟩ := List.mem_map.1 hx
          unfold mv1
          split
          · exact Nat.le_trans (rm_len who y.f2) (hw y hy)
          · exact hw y hy
        have h := implMv2_down l hl hw who tent (l.map (mv1 (mTentOf l who) who)) [] (by simp; omega) hw1 hp
        simp only [List.length_nil, Nat.zero_add, List.length_map, List.nil_append, List.any_map, List.map_map] at h
        have e1 : (free tent ∘ mv1 (mTentOf l who) who) = free tent := funext (fun x => free_mv1 _ _ _ h1 x)
        have e2 : (mv2 tent who ∘ mv1 (mTentOf l who) who) = mvAll (mTentOf l who) tent who := funext (fun x => mv_all _ _ _ h1 x)
        rw [e1, e2] at h
        unfold mMoveTo
        simp only [ha, h0, h1, ne_eq, not_false_eq_true, and_self, true_and]
        exact h
  · simp only [ha, if_false]
    exact no (fun h => ha h.1)
/-! ### When tents are tents -/
def disj (a b : S45) : Prop := ∀ v ∈ a.f2, v ∉ b.f2
theorem addAll_ok : ∀ (t s : List Int), t.Nodup → (∀ y ∈ t, y ∉ s) → addAll s t = some (s ++ t)
  | [], s, _, _ => by simp [addAll]
  | y :: t, s, hn, hd => by
    obtain ⟨h1, h2⟩ := List.nodup_cons.1 hn
    rw [addAll_cons, if_neg (hd y (by simp)), addAll_ok t (s ++ [y]) h2 (fun z hz hm => by
      rcases List.mem_append.1 hm with hm | hm
      · exact hd z (by simp [hz]) hm
      · exact h1 ((List.mem_singleton.1 hm) ▸ hz))]
    simp
theorem addAll_app : ∀ (t s s' : List Int), addAll s t = some s' → s' = s ++ t
  | [], s, s', h => by simpa [addAll] using h.symm
  | y :: t, s, s', h => by
    rw [addAll_cons] at h
    split at h
    · cases h
    · rw [addAll_app t (s ++ [y]) s' h]
      simp
theorem runAT_true (l : List S45) (b : Bool) : ∀ (t : List S45) (i : Nat) (s : List Int), (∀ j x, t[j]? = some x → okTent l (i + j) x) → (∀ x ∈ t, x.f2.Nodup) → t.Pairwise disj → (∀ x ∈ t, ∀ v ∈ x.f2, v ∉ s) → run (stepAT l) (fun _ => b) i s t = b
  | [], _, _, _, _, _, _ => rfl
  | x :: t, i, s, h, hn, hp, hs => by
    have h0 : okTent l i x := h 0 x rfl
    obtain ⟨hp1, hp2⟩ := List.pairwise_cons.1 hp
    rw [run_inr (show stepAT l i s x = .inr (s ++ x.f2) by
      simp only [stepAT, if_pos h0]
      unfold nextAT
      rw [addAll_ok x.f2 s (hn x (by simp)) (hs x (by simp))])]
    refine runAT_true l b t (i + 1) (s ++ x.f2) (fun j y hy => ?_) (fun y hy => hn y (by simp [hy])) hp2 (fun y hy v hv hm => ?_)
    · have := h (j + 1) y hy
      rwa [show i + (j + 1) = i + 1 + j by omega] at this
    · rcases List.mem_append.1 hm with hm | hm
      · exact hs y (by simp [hy]) v hv hm
      · exact hp1 y hy v hm hv
theorem runAT_disj (l : List S45) (b : Bool) : ∀ (t : List S45) (i : Nat) (s : List Int), run (stepAT l) (fun _ => b) i s t = true → t.Pairwise disj ∧ ∀ x ∈ t, ∀ v ∈ x.f2, v ∉ s
  | [], _, _, _ => ⟨List.Pairwise.nil, fun x hx => by cases hx⟩
  | y :: t, i, s, h => by
    by_cases c : okTent l i y
    · have hs : stepAT l i s y = nextAT s y := if_pos c
      cases hn : addAll s y.f2 with
      | none =>
        rw [run_inl (show stepAT l i s y = .inl false by rw [hs]; unfold nextAT; rw [hn])] at h
        cases h
      | some s' =>
        rw [run_inr (show stepAT l i s y = .inr s' by rw [hs]; unfold nextAT; rw [hn])] at h
        obtain ⟨h1, h2⟩ := runAT_disj l b t (i + 1) s' h
        rw [addAll_app _ _ _ hn] at h2
        have h3 := (addAll_nodup _ _ _ hn).2
        refine ⟨List.pairwise_cons.2 ⟨fun z hz v hv hv' => h2 z hz v hv' (by simp [hv]), h1⟩, fun x hx v hv => ?_⟩
        rcases List.mem_cons.1 hx with e | hx'
        · exact h3 v (e ▸ hv)
        · exact fun hm => h2 x hx' v hv (by simp [hm])
    · rw [run_inl (show stepAT l i s y = .inl false from if_neg c)] at h
      cases h
theorem tents_disj {l : List S45} (h : mAreTents l = true) : l.Pairwise disj := (runAT_disj l _ l 0 [] h).1
theorem mAreTents_of {l : List S45} (h1 : ∀ (i : Nat) (x : S45), l[i]? = some x → okTent l i x) (h2 : ∀ x ∈ l, x.f2.Nodup) (h3 : l.Pairwise disj) (h4 : l.length ≤ 8) : mAreTents l = true := by
  unfold mAreTents
  rw [decide_eq_true (show (l.length : Int) ≤ 8 by omega)]
  exact runAT_true l true l 0 [] (fun j x hx => by rw [Nat.zero_add]; exact h1 j x hx) h2 h3 (fun x _ v _ => by simp)
theorem okTent_same {l l' : List S45} (hl : mAreTents l = true) (hlen : l'.length = l.length) (h : ∀ (i : Nat) (x' : S45), l'[i]? = some x' → ∃ x : S45, l[i]? = some x ∧ x'.f0 = x.f0 ∧ x'.f1 = x.f1 ∧ (x'.f2.length : Int) ≤ x'.f1) : ∀ (i : Nat) (x' : S45), l'[i]? = some x' → okTent l' i x' := by
  intro i x' hx'
  obtain ⟨x, hx, e0, e1, e2⟩ := h i x' hx'
  obtain ⟨a, b, c, d⟩ := (mAreTents_ok hl).1 i x hx
  refine ⟨by rw [e0]; exact a, by rw [e1]; exact b, e2, ?_⟩
  rcases d with d | d
  · exact .inl d
  · right
    have hi := lt_of_get hx'
    have hy' : l'[i - 1]? = some (l'[i - 1]'(by omega)) := List.getElem?_eq_getElem (by omega)
    obtain ⟨y, hy, f0, _, _⟩ := h (i - 1) _ hy'
    rw [getD_get z45 hy] at d
    rw [getD_get z45 hy', f0, e0]
    exact d
theorem share_eq : ∀ {l : List S45}, l.Pairwise disj → ∀ {x y : S45} {v : Int}, x ∈ l → y ∈ l → v ∈ x.f2 → v ∈ y.f2 → x = y
  | [], _, x, y, v, hx, _, _, _ => by cases hx
  | z :: t, h, x, y, v, hx, hy, h1, h2 => by
    obtain ⟨hp1, hp2⟩ := List.pairwise_cons.1 h
    rcases List.mem_cons.1 hx with ex | hx'
    · rcases List.mem_cons.1 hy with ey | hy'
      · rw [ex, ey]
      · exact absurd h2 (hp1 y hy' v (ex ▸ h1))
    · rcases List.mem_cons.1 hy with ey | hy'
      · exact absurd h1 (hp1 x hx' v (ey ▸ h2))
      · exact share_eq hp2 hx' hy' h1 h2
theorem runTO_has (who : Int) : ∀ (t : List S45) (i : Nat), (∃ x ∈ t, who ∈ x.f2) → ∃ y ∈ t, who ∈ y.f2 ∧ run (stepTO who) (fun _ => 0) i () t = y.f0
  | [], _, h => by obtain ⟨x, hx, _⟩ := h; cases hx
  | x :: t, i, h => by
    by_cases c : who ∈ x.f2
    · rw [run_inl (show stepTO who i () x = .inl x.f0 from if_pos c)]
      exact ⟨x, by simp, c, rfl⟩
    · have e := run_inr (fin := fun _ => (0 : Int)) (t := t) (show stepTO who i () x = .inr () from if_neg c)
      rw [e]
      obtain ⟨y, hy, h1, h2⟩ := runTO_has who t (i + 1) (by
        obtain ⟨y, hy, hw⟩ := h
        rcases List.mem_cons.1 hy with ey | hy'
        · exact absurd (ey ▸ hw) c
        · exact ⟨y, hy', hw⟩)
      exact ⟨y, List.mem_cons_of_mem _ hy, h1, h2⟩
/-! ### What PutUp fills -/
theorem fillT_get : ∀ (ts : List S45) (p : List Int) (i : Nat) (x' : S45), (fillT ts p)[i]? = some x' → ∃ x, ts[i]? = some x ∧ x'.f0 = x.f0 ∧ x'.f1 = x.f1 ∧ x'.f2.length ≤ x.f1.toNat
  | [], p, i, x', h => by simp [fillT] at h
  | t :: ts, p, 0, x', h => by
    simp only [fillT, List.getElem?_cons_zero, Option.some.injEq] at h
    subst h
    exact ⟨t, rfl, rfl, rfl, by simp only [List.length_take]; omega⟩
  | t :: ts, p, i + 1, x', h => by
    simp only [fillT, List.getElem?_cons_succ] at h
    obtain ⟨x, hx, r⟩ := fillT_get ts _ i x' h
    exact ⟨x, by simpa using hx, r⟩
theorem fillT_in : ∀ (ts : List S45) (p : List Int), p.Nodup → ∀ x ∈ fillT ts p, x.f2.Nodup ∧ ∀ v ∈ x.f2, v ∈ p
  | [], _, _, x, hx => by cases hx
  | t :: ts, p, hn, x, hx => by
    rcases List.mem_cons.1 hx with rfl | hx'
    · exact ⟨hn.sublist (List.take_sublist _ _), fun v hv => List.mem_of_mem_take hv⟩
    · obtain ⟨h1, h2⟩ := fillT_in ts _ (hn.sublist (List.drop_sublist t.f1.toNat p)) x hx'
      exact ⟨h1, fun v hv => List.mem_of_mem_drop (h2 v hv)⟩
theorem fillT_disj : ∀ (ts : List S45) (p : List Int), p.Nodup → (fillT ts p).Pairwise disj
  | [], _, _ => List.Pairwise.nil
  | t :: ts, p, hn => by
    have hd := hn.sublist (List.drop_sublist t.f1.toNat p)
    refine List.pairwise_cons.2 ⟨fun x hx v hv hv' => ?_, fillT_disj ts _ hd⟩
    have h2 := (fillT_in ts _ hd x hx).2 v hv'
    have hap : (p.take t.f1.toNat ++ p.drop t.f1.toNat).Nodup := by rw [List.take_append_drop]; exact hn
    exact (List.nodup_append.1 hap).2.2 v hv v h2 rfl
theorem fillT_has : ∀ (ts : List S45) (p : List Int) (v : Int), v ∈ p → p.length ≤ sumN ts → ∃ x ∈ fillT ts p, v ∈ x.f2
  | [], p, v, hv, h => by
    simp only [sumN] at h
    have hp : p = [] := List.eq_nil_of_length_eq_zero (by omega)
    subst hp
    cases hv
  | t :: ts, p, v, hv, h => by
    simp only [sumN] at h
    rw [← List.take_append_drop t.f1.toNat p] at hv
    rcases List.mem_append.1 hv with hv | hv
    · exact ⟨_, List.mem_cons_self, hv⟩
    · obtain ⟨x, hx, hv'⟩ := fillT_has ts _ v hv (by rw [List.length_drop]; omega)
      exact ⟨x, List.mem_cons_of_mem _ hx, hv'⟩
theorem fillT_beds : ∀ (ts : List S45) (p : List Int), (∀ x ∈ ts, 0 ≤ x.f1) → p.length ≤ sumN ts → bedSum (fillT ts p) = (sumN ts : Int) - p.length
  | [], p, _, h => by
    simp only [sumN] at h
    simp only [fillT, bedSum, sumN]
    omega
  | t :: ts, p, hf, h => by
    have h0 := hf t (by simp)
    simp only [sumN] at h
    have ih := fillT_beds ts (p.drop t.f1.toNat) (fun x hx => hf x (by simp [hx])) (by rw [List.length_drop]; omega)
    simp only [fillT, bedSum, sumN, ih, List.length_take, List.length_drop]
    omega
def f1Sum : List S45 → Int
  | [] => 0
  | x :: t => x.f1 + f1Sum t
theorem f1Sum_fill : ∀ (ts : List S45) (p : List Int), (∀ x ∈ ts, 0 ≤ x.f1) → f1Sum (fillT ts p) = (sumN ts : Int)
  | [], _, _ => rfl
  | t :: ts, p, hf => by
    have h0 := hf t (by simp)
    simp only [fillT, f1Sum, sumN, f1Sum_fill ts _ (fun x hx => hf x (by simp [hx]))]
    omega
theorem crew_lt {c : List S49} (h : mAreCrew c = true) : ∀ (j i : Nat) (hj : j < c.length) (hi : i < j), (c[i]'(by omega)).f0 < c[j].f0 := by
  intro j
  induction j with
  | zero => intro i hj hi; omega
  | succ j ih =>
    intro i hj hi
    have ho := ((mAreCrew_iff c).1 h).1 (j + 1) c[j + 1] (List.getElem?_eq_getElem hj)
    have hd : (c.getD (j + 1 - 1) z49).f0 < c[j + 1].f0 := ho.2.2.2.resolve_left (by omega)
    rw [Nat.add_sub_cancel, List.getD_eq_getElem?_getD, List.getElem?_eq_getElem (by omega : j < c.length), Option.getD_some] at hd
    by_cases e : i = j
    · subst e; exact hd
    · exact Int.lt_trans (ih i (by omega) (by omega)) hd
theorem crew_nodup {c : List S49} (h : mAreCrew c = true) : (idsOf c).Nodup := by
  unfold idsOf List.Nodup
  rw [List.pairwise_map, List.pairwise_iff_getElem]
  intro i j hi hj hij he
  have := crew_lt h j i hj hij
  omega
theorem putUp_tents {l : List S45} {c : List S49} (ha : mAreTents l = true) (hc : mAreCrew c = true) : mAreTents (fillT l (idsOf c)) = true := by
  have hn := crew_nodup hc
  refine mAreTents_of (okTent_same ha (fillT_len l _) (fun i x' hx' => ?_)) (fun x hx => (fillT_in l _ hn x hx).1) (fillT_disj l _ hn) (by rw [fillT_len]; exact (mAreTents_ok ha).2)
  obtain ⟨x, hx, e0, e1, e2⟩ := fillT_get l _ i x' hx'
  have := tents_f1 ha x (List.mem_of_getElem? hx)
  exact ⟨x, hx, e0, e1, by rw [e1]; omega⟩
/-! ### What MoveTo moves -/
section
variable {l : List S45} {who tent : Int}
theorem who_from (ha : mAreTents l = true) (h0 : mTentOf l who ≠ 0) : ∀ x ∈ l, who ∈ x.f2 → x.f0 = mTentOf l who := by
  intro x hx hw
  obtain ⟨y, hy, h1, h2⟩ := runTO who l 0 h0
  rw [share_eq (tents_disj ha) hx hy hw h1]
  exact h2
theorem mvAll_f0 (fr : Int) (x : S45) : (mvAll fr tent who x).f0 = x.f0 ∧ (mvAll fr tent who x).f1 = x.f1 := by
  unfold mvAll mv2
  split
  · exact ⟨rfl, rfl⟩
  · split <;> exact ⟨rfl, rfl⟩
theorem mvAll_sub (fr : Int) (x : S45) (v : Int) (hv : v ≠ who) (h : v ∈ (mvAll fr tent who x).f2) : v ∈ x.f2 := by
  unfold mvAll mv2 at h
  split at h
  · exact (List.mem_filter.1 h).1
  · split at h
    · rcases List.mem_append.1 h with h | h
      · exact h
      · exact absurd (List.mem_singleton.1 h) hv
    · exact h
theorem mvAll_who (ha : mAreTents l = true) (h0 : mTentOf l who ≠ 0) : ∀ x ∈ l, who ∈ (mvAll (mTentOf l who) tent who x).f2 → free tent x = true := by
  intro x hx h
  unfold mvAll at h
  split at h
  · simp [rm] at h
  · rename_i c
    unfold mv2 at h
    split at h
    · assumption
    · exact absurd (who_from ha h0 x hx h) c
theorem free_at {x : S45} (h : free tent x = true) : x.f0 = tent ∧ (x.f2.length : Int) < x.f1 := by simpa [free] using h
theorem moved_tents (ha : mAreTents l = true) (h0 : mTentOf l who ≠ 0) : mAreTents (l.map (mvAll (mTentOf l who) tent who)) = true := by
  refine mAreTents_of (okTent_same ha (by simp) (fun i x' hx' => ?_)) (fun x hx => ?_) ?_ (by rw [List.length_map]; exact (mAreTents_ok ha).2)
  · rw [List.getElem?_map] at hx'
    obtain ⟨x, hx, rfl⟩ := Option.map_eq_some_iff.1 hx'
    obtain ⟨e0, e1⟩ := mvAll_f0 (tent := tent) (who := who) (mTentOf l who) x
    refine ⟨x, hx, e0, e1, ?_⟩
    rw [e1]
    have hb := (tent_in ha (List.mem_of_getElem? hx)).2
    unfold mvAll
    split
    · have := rm_len who x.f2
      show ((rm who x.f2).length : Int) ≤ x.f1
      omega
    · unfold mv2
      split
      · rename_i hf
        have := (free_at hf).2
        simp only [List.length_append, List.length_singleton]
        omega
      · exact hb
  · obtain ⟨y, hy, rfl⟩ := List.mem_map.1 hx
    have hn := tents_nodup ha y hy
    unfold mvAll
    split
    · exact hn.sublist (List.filter_sublist (l := y.f2))
    · rename_i c
      unfold mv2
      split
      · rw [List.nodup_append]
        refine ⟨hn, by simp, fun a h1 b h2 he => ?_⟩
        obtain rfl := List.mem_singleton.1 h2
        exact c (who_from ha h0 y hy (he ▸ h1))
      · exact hn
  · rw [List.pairwise_map]
    refine ((tents_disj ha).and (tents_apart ha)).imp_of_mem (fun {a b} hma hmb h v h1 h2 => ?_)
    by_cases hv : v = who
    · subst hv
      have e1 := (free_at (mvAll_who ha h0 a hma h1)).1
      have e2 := (free_at (mvAll_who ha h0 b hmb h2)).1
      exact h.2 (e1.trans e2.symm)
    · exact h.1 v (mvAll_sub _ a v hv h1) (mvAll_sub _ b v hv h2)
theorem moved_at (ha : mAreTents l = true) (h0 : mTentOf l who ≠ 0) (h1 : mTentOf l who ≠ tent) (hf : l.any (free tent) = true) : mTentOf (l.map (mvAll (mTentOf l who) tent who)) who = tent := by
  obtain ⟨x, hx, hfx⟩ := List.any_eq_true.1 hf
  have hxf : x.f0 ≠ mTentOf l who := fun e => h1 (e.symm.trans (free_at hfx).1)
  obtain ⟨y, hy, hw, he⟩ := runTO_has who (l.map (mvAll (mTentOf l who) tent who)) 0 ⟨_, List.mem_map.2 ⟨x, hx, rfl⟩, by unfold mvAll mv2; rw [if_neg hxf, if_pos hfx]; simp⟩
  obtain ⟨z, hz, rfl⟩ := List.mem_map.1 hy
  have := (free_at (mvAll_who ha h0 z hz hw)).1
  unfold mTentOf at he ⊢
  rw [he, (mvAll_f0 _ z).1]
  exact this
def cntP (p : S45 → Bool) : List S45 → Int
  | [] => 0
  | x :: t => (if p x = true then 1 else 0) + cntP p t
theorem cntP_none (p : S45 → Bool) : ∀ t : List S45, (∀ x ∈ t, p x = false) → cntP p t = 0
  | [], _ => rfl
  | x :: t, h => by
    simp only [cntP, h x (by simp), Bool.false_eq_true, if_false, cntP_none p t (fun y hy => h y (by simp [hy]))]
    rfl
theorem cntP_one (p : S45 → Bool) (c : Int) (hp : ∀ x, p x = true → x.f0 = c) : ∀ t : List S45, (t.Pairwise fun a b => a.f0 ≠ b.f0) → t.any p = true → cntP p t = 1
  | [], _, h => by simp at h
  | x :: t, hd, h => by
    obtain ⟨h1, h2⟩ := List.pairwise_cons.1 hd
    by_cases c1 : p x = true
    · have hn : ∀ y ∈ t, p y = false := fun y hy => by
        cases hy' : p y with
        | false => rfl
        | true => exact absurd ((hp x c1).trans (hp y hy').symm) (h1 y hy)
      simp only [cntP, c1, if_true, cntP_none p t hn]
      rfl
    · have c1' : p x = false := by simpa using c1
      have := cntP_one p c hp t h2 (by simpa [c1'] using h)
      simp only [cntP, c1', Bool.false_eq_true, if_false, this]
      rfl
theorem rm_less (v : Int) (xs : List Int) (h : v ∈ xs) (hn : xs.Nodup) : (rm v xs).length + 1 = xs.length := by
  obtain ⟨j, hj, _, he⟩ := place_erase v xs 0 h hn
  rw [← he, List.length_eraseIdx, if_pos hj]
  omega
theorem beds_mv (fr : Int) (h1 : fr ≠ tent) : ∀ t : List S45, (∀ x ∈ t, x.f0 = fr → who ∈ x.f2 ∧ x.f2.Nodup) → bedSum (t.map (mvAll fr tent who)) = bedSum t + cntP (fun x => decide (x.f0 = fr)) t - cntP (free tent) t
  | [], _ => rfl
  | x :: t, h => by
    have ih := beds_mv fr h1 t (fun y hy => h y (by simp [hy]))
    simp only [List.map_cons, bedSum, cntP, ih]
    by_cases c : x.f0 = fr
    · obtain ⟨hw, hn⟩ := h x (by simp) c
      have hl := rm_less who x.f2 hw hn
      have hf : free tent x = false := by
        have : x.f0 ≠ tent := fun e => h1 (c.symm.trans e)
        simp [free, this]
      have em : mvAll fr tent who x = ⟨x.f0, x.f1, rm who x.f2⟩ := by unfold mvAll; rw [if_pos c]
      rw [em]
      simp only [c, hf, decide_true, if_true, Bool.false_eq_true, if_false]
      omega
    · by_cases hf : free tent x = true
      · have em : mvAll fr tent who x = ⟨x.f0, x.f1, x.f2 ++ [who]⟩ := by unfold mvAll mv2; rw [if_neg c, if_pos hf]
        rw [em]
        simp only [c, hf, decide_false, if_true, Bool.false_eq_true, if_false, List.length_append, List.length_singleton]
        omega
      · have em : mvAll fr tent who x = x := by unfold mvAll mv2; rw [if_neg c, if_neg hf]
        rw [em]
        simp only [c, hf, decide_false, Bool.false_eq_true, if_false]
        omega
theorem moved_beds (ha : mAreTents l = true) (h0 : mTentOf l who ≠ 0) (h1 : mTentOf l who ≠ tent) (hf : l.any (free tent) = true) : bedSum (l.map (mvAll (mTentOf l who) tent who)) = bedSum l := by
  obtain ⟨y, hy, _, h2⟩ := runTO who l 0 h0
  rw [beds_mv _ h1 l (fun x hx e => ⟨tent_has ha h0 x hx e, tents_nodup ha x hx⟩), cntP_one (free tent) tent (fun x hx => (free_at hx).1) l (tents_apart ha) hf,
    cntP_one (fun x => decide (x.f0 = mTentOf l who)) (mTentOf l who) (fun x hx => by simpa using hx) l (tents_apart ha) (List.any_eq_true.2 ⟨y, hy, decide_eq_true h2⟩)]
  omega
end
/-! What a draw gives: that it ends, and the range of what it tells. -/
def Gets {ρ : Type} (P : ρ → Prop) (g : Nat → Option ρ) : Prop := ∃ r, P r ∧ Ev g r
theorem Gets.bind {α β : Type} {P : α → Prop} {Q : β → Prop} {f : Nat → Option α} {g : Nat → α → Option β} (hf : Gets P f) (hg : ∀ r, P r → Gets Q (fun k => g k r)) : Gets Q (fun k => (f k).bind (g k)) := by
  obtain ⟨r, hr, he⟩ := hf
  obtain ⟨s, hs, he'⟩ := hg r hr
  exact ⟨s, hs, Ev.bind he he'⟩
theorem Gets.ev {α β : Type} {P : α → Prop} {f : Nat → Option α} {g : Nat → α → Option β} {b : β} (hf : Gets P f) (hg : ∀ r, P r → Ev (fun k => g k r) b) : Ev (fun k => (f k).bind (g k)) b := by
  obtain ⟨r, hr, he⟩ := hf
  exact Ev.bind he (hg r hr)
theorem Gets.now {ρ : Type} {P : ρ → Prop} {r : ρ} (h : P r) : Gets P (fun _ => some r) := ⟨r, h, Ev.now _⟩
theorem Gets.step {ρ : Type} {P : ρ → Prop} {f g : Nat → Option ρ} (h : ∀ k, g (k + 1) = f k) (hf : Gets P f) : Gets P g := by
  obtain ⟨r, hr, he⟩ := hf
  exact ⟨r, hr, Ev.step h he⟩
theorem Gets.congr {ρ : Type} {P : ρ → Prop} {f g : Nat → Option ρ} (h : ∀ k, g k = f k) (hf : Gets P f) : Gets P g := by
  have e : g = f := funext h
  rw [e]; exact hf
theorem Gets.mono {ρ : Type} {P Q : ρ → Prop} {f : Nat → Option ρ} (h : ∀ r, P r → Q r) (hf : Gets P f) : Gets Q f := by
  obtain ⟨r, hr, he⟩ := hf
  exact ⟨r, h r hr, he⟩
def OkC (b : List Int) (i : Int) : Prop := b.length ≤ 1048576 ∧ 0 ≤ i ∧ i ≤ 1048576
theorem and255 (x : Int) : 0 ≤ Go.bits .and .i64 x 255 ∧ Go.bits .and .i64 x 255 ≤ 255 := by
  have h : ((BitVec.ofInt 64 x) &&& (BitVec.ofInt 64 255)).toNat ≤ 255 := by
    rw [BitVec.toNat_and]
    exact Nat.le_trans Nat.and_le_right (by decide)
  have e : Go.bits .and .i64 x 255 = wrap64 (((BitVec.ofInt 64 x) &&& (BitVec.ofInt 64 255)).toNat : Int) := by simp only [Go.bits, i64_w]; rfl
  rw [e, wrap_id (by omega) (by omega)]
  omega
theorem byte_ok (b : List Int) (i h : Int) (hc : OkC b i) : ∃ v i' h', spec_l1Byte.f b i h = some (v, i', h') ∧ 0 ≤ v ∧ v ≤ 255 ∧ OkC b i' := by
  obtain ⟨h1, h2, h3⟩ := hc
  unfold spec_l1Byte.f
  by_cases c : i < (b.length : Int)
  · rw [if_pos c, if_pos h2, wrap_id (n := i + 1) (by omega) (by omega)]
    exact ⟨_, _, _, rfl, (and255 _).1, (and255 _).2, h1, by omega, by omega⟩
  · rw [if_neg c]
    exact ⟨_, _, _, rfl, (and255 _).1, (and255 _).2, h1, h2, h3⟩
theorem tmod_range (a n : Int) (ha : 0 ≤ a) (hn : 0 < n) : 0 ≤ Int.tmod a n ∧ Int.tmod a n < n := by
  rw [Int.tmod_eq_emod_of_nonneg ha]
  exact ⟨Int.emod_nonneg _ (by omega), Int.emod_lt_of_pos _ hn⟩
theorem below_ok (b : List Int) (i h n : Int) (hc : OkC b i) : ∃ v i' h', spec_l1Below.f b i h n = some (v, i', h') ∧ 0 ≤ v ∧ (0 < n → v < n) ∧ OkC b i' := by
  unfold spec_l1Below.f
  by_cases c : n ≤ 0
  · rw [if_pos c]
    exact ⟨_, _, _, rfl, by omega, by omega, hc⟩
  · rw [if_neg c]
    by_cases c2 : n ≤ 256
    · obtain ⟨v, i', h', e, h0, h1, hc'⟩ := byte_ok b i h hc
      rw [if_pos c2, e]
      simp only [Option.bind_some]
      rw [if_neg (by omega)]
      have := tmod_range v n h0 (by omega)
      exact ⟨_, _, _, rfl, this.1, fun _ => this.2, hc'⟩
    · obtain ⟨v1, i1, h1, e1, a1, b1, hc1⟩ := byte_ok b i h hc
      obtain ⟨v2, i2, h2, e2, a2, b2, hc2⟩ := byte_ok b i1 h1 hc1
      obtain ⟨v3, i3, h3, e3, a3, b3, hc3⟩ := byte_ok b i2 h2 hc2
      rw [if_neg c2, e1]
      simp only [Option.bind_some, e2, e3]
      rw [if_neg (by omega), wrap_id (n := v1 * 65536) (by omega) (by omega), wrap_id (n := v2 * 256) (by omega) (by omega), wrap_id (n := v1 * 65536 + v2 * 256) (by omega) (by omega), wrap_id (by omega) (by omega)]
      have := tmod_range (v1 * 65536 + v2 * 256 + v3) n (by omega) (by omega)
      exact ⟨_, _, _, rfl, this.1, fun _ => this.2, hc3⟩
theorem new_down (b : List Int) (hb : b.length ≤ 1048576) : ∀ (n i : Nat) (h : Int), i + n = b.length → ∃ h', Ev (fun k => spec_l1New.l0 k b h (i : Int)) (b, 0, h')
  | 0, i, h, hi => ⟨h, Ev.step (f := fun _ => some (b, 0, h)) (fun k => by simp only [spec_l1New.l0]; rw [if_neg (by omega)]) (Ev.now _)⟩
  | n + 1, i, h, hi => by
    by_cases c : (i : Int) < 4000
    · obtain ⟨h', ih⟩ := new_down b hb n (i + 1) (Go.bits .and .i64 (wrap64 ((wrap64 ((wrap64 (h * 137)) + (wrap64 (rd b (i : Int))))) + 11)) 1073741823) (by omega)
      refine ⟨h', Ev.step (f := fun k => spec_l1New.l0 k b (Go.bits .and .i64 (wrap64 ((wrap64 ((wrap64 (h * 137)) + (wrap64 (rd b (i : Int))))) + 11)) 1073741823) ((i + 1 : Nat) : Int)) (fun k => ?_) ih⟩
      simp only [spec_l1New.l0, wrapi i (by omega)]
      rw [if_pos (by omega), if_pos c, if_pos (by omega), Int.natCast_add, Int.natCast_one]
    · refine ⟨h, Ev.step (f := fun _ => some (b, 0, h)) (fun k => ?_) (Ev.now _)⟩
      simp only [spec_l1New.l0]
      rw [if_pos (by omega), if_neg c]
theorem new_ok (b : List Int) (hb : b.length ≤ 1048576) : Gets (fun r => r.1 = b ∧ OkC r.1 r.2.1) (fun k => spec_l1New.f k b) := by
  obtain ⟨h', he⟩ := new_down b hb b.length 0 (wrap64 (193017 + (b.length : Int))) (by omega)
  exact ⟨(b, 0, h'), ⟨rfl, hb, Int.le_refl 0, show (0 : Int) ≤ 1048576 by decide⟩, he⟩
theorem once_ok (b : List Int) (i h n : Int) (hc : OkC b i) : ∃ v i' h', spec_l1Once.f b i h n = some (v, i', h') ∧ OkC b i' := by
  obtain ⟨v, i', h', e, _, _, hc'⟩ := below_ok b i h n hc
  unfold spec_l1Once.f
  rw [e]
  exact ⟨_, _, _, rfl, hc'⟩
theorem int_ok (b : List Int) (i h : Int) (l : List Int) (hl : 0 < l.length) (hc : OkC b i) : ∃ v i' h', spec_l1Int.f b i h l = some (v, i', h') ∧ v ∈ l ∧ OkC b i' := by
  obtain ⟨v, i', h', e, h0, h1, hc'⟩ := below_ok b i h (l.length : Int) hc
  have h1 := h1 (by omega)
  unfold spec_l1Int.f
  rw [e]
  simp only [Option.bind_some]
  rw [if_pos h0, if_pos h1]
  refine ⟨_, _, _, rfl, ?_, hc'⟩
  have : v.toNat < l.length := by omega
  simp only [rd, List.getD_eq_getElem?_getD, List.getElem?_eq_getElem this, Option.getD_some]
  exact List.getElem_mem _
/-- The drawn crew: Ids 1, 2, .. in order, hunger 0..8, trust 1. -/
def Crew16 (l : List S49) : Prop := l.length ≤ 9 ∧ ∀ (i : Nat) (x : S49), l[i]? = some x → x.f0 = (i : Int) + 1 ∧ (0 ≤ x.f1 ∧ x.f1 ≤ 8) ∧ x.f2 = 1
theorem crew16_push {l : List S49} (h : Crew16 l) (hl : l.length ≤ 8) (a b : Int) (f : Bool) (ha : a = (l.length : Int) + 1) (hb : 0 ≤ b ∧ b ≤ 8) : Crew16 (l ++ [⟨a, b, 1, f⟩]) := by
  refine ⟨by simp; omega, fun i x hx => ?_⟩
  rw [List.getElem?_append] at hx
  split at hx
  · exact h.2 i x hx
  · rename_i hi
    have : i - l.length = 0 := by
      refine Decidable.byContradiction fun hne => ?_
      rw [List.getElem?_eq_none (by simp; omega)] at hx
      cases hx
    rw [this] at hx
    simp only [List.getElem?_cons_zero, Option.some.injEq] at hx
    subst hx
    exact ⟨by show a = _; omega, hb, rfl⟩
theorem crew_down (b : List Int) : ∀ (n : Nat) (xs : List S49) (i h : Int), xs.length + n = 9 → Crew16 xs → OkC b i →
    Gets (fun r => (Crew16 r.1 ∧ xs.length ≤ r.1.length ∧ (xs.length = 0 → 0 < r.1.length)) ∧ OkC b r.2.1) (fun k => spec_l16Crew.l0 k xs ((xs.length : Int) + 1) b i h)
  | 0, xs, i, h, hn, hx, hc => by
    obtain ⟨v, i', h', e, v0, v1, hc'⟩ := below_ok b i h 8 hc
    have v1 := v1 (by omega)
    refine Gets.step (f := fun _ => some (xs, i', h')) (fun k => ?_) (Gets.now ⟨⟨hx, Nat.le_refl _, fun h0 => by omega⟩, hc'⟩)
    simp only [spec_l16Crew.l0, e, Option.bind_some]
    rw [wrap_id (n := 1 + v) (by omega) (by omega), if_neg (by omega)]
  | n + 1, xs, i, h, hn, hx, hc => by
    obtain ⟨v, i', h', e, v0, v1, hc'⟩ := below_ok b i h 8 hc
    have v1 := v1 (by omega)
    by_cases c : (xs.length : Int) + 1 ≤ 1 + v
    · obtain ⟨v2, i2, h2, e2, a2, b2, hc2⟩ := below_ok b i' h' 9 hc'
      have b2 := b2 (by omega)
      obtain ⟨v3, i3, h3, e3, hc3⟩ := once_ok b i2 h2 6 hc2
      have ih := crew_down b n (xs ++ [⟨(xs.length : Int) + 1, v2, 1, v3⟩]) i3 h3 (by simp; omega) (crew16_push hx (by omega) _ _ _ rfl ⟨a2, by omega⟩) hc3
      rw [List.length_append, List.length_singleton] at ih
      refine Gets.step (f := fun k => spec_l16Crew.l0 k (xs ++ [⟨(xs.length : Int) + 1, v2, 1, v3⟩]) (((xs.length + 1 : Nat) : Int) + 1) b i3 h3) (fun k => ?_) (Gets.mono (fun r hr => ⟨⟨hr.1.1, by omega, fun _ => by omega⟩, hr.2⟩) ih)
      simp only [spec_l16Crew.l0, e, e2, e3, Option.bind_some]
      rw [wrap_id (n := 1 + v) (by omega) (by omega), if_pos c, if_pos (by omega), wrap_id (by omega) (by omega), Int.natCast_add, Int.natCast_one]
    · refine Gets.step (f := fun _ => some (xs, i', h')) (fun k => ?_) (Gets.now ⟨⟨hx, Nat.le_refl _, fun h0 => by omega⟩, hc'⟩)
      simp only [spec_l16Crew.l0, e, Option.bind_some]
      rw [wrap_id (n := 1 + v) (by omega) (by omega), if_neg c]
theorem crew_ok (b : List Int) (i h : Int) (hc : OkC b i) : Gets (fun r => (Crew16 r.1 ∧ 0 < r.1.length) ∧ OkC b r.2.1) (fun k => spec_l16Crew.f k b i h) := by
  have := crew_down b 9 [] i h rfl ⟨by simp, fun i x hx => by simp at hx⟩ hc
  exact Gets.mono (fun r hr => ⟨⟨hr.1.1, hr.1.2.2 rfl⟩, hr.2⟩) this
/-! ### Draws: tents and a crew -/
def SmallT (l : List S45) : Prop := l.length ≤ 8 ∧ ∀ x ∈ l, x.f2.length ≤ 100
theorem mPutUp_small (l : List S45) (c : List S49) (hl : l.length ≤ 8) (hw : ∀ x ∈ l, x.f2.length = 0) (hc : c.length ≤ 9) : (mPutUp l c).1.length = l.length ∧ ∀ x ∈ (mPutUp l c).1, x.f2.length ≤ 9 := by
  unfold mPutUp
  split
  · refine ⟨fillT_len l _, fun x hx => ?_⟩
    have := fillT_who l (idsOf c) x hx
    simp only [idsOf, List.length_map] at this
    omega
  · exact ⟨rfl, fun x hx => by rw [hw x hx]; omega⟩
theorem small_set {l : List S45} (hl : l.length ≤ 8) (hw : ∀ x ∈ l, x.f2.length ≤ 9) (i : Nat) (y : S45) (hy : y.f2.length ≤ 100) : SmallT (l.set i y) := by
  refine ⟨by rw [List.length_set]; exact hl, fun x hx => ?_⟩
  rcases List.mem_or_eq_of_mem_set hx with h | rfl
  · have := hw x h
    omega
  · exact hy
theorem rd_who {l : List S45} (hw : ∀ x ∈ l, x.f2.length ≤ 9) (i : Int) : (rd_T45 l i).f2.length ≤ 9 := by
  unfold rd_T45
  rw [List.getD_eq_getElem?_getD]
  cases h : l[i.toNat]? with
  | none => simp [z45]
  | some x => exact hw x (List.mem_of_getElem? h)
theorem any23_end (b : List Int) (xs : List S45) (i h : Int) (hl : xs.length ≤ 8) (h0 : 0 < xs.length) (hw : ∀ x ∈ xs, x.f2.length = 0) (hc : OkC b i) :
    Gets (fun r => (SmallT r.1 ∧ r.2.1.length ≤ 9) ∧ OkC b r.2.2.1) (fun k => (spec_l16Crew.f k b i h).bind fun bt327 => ((spec_PutUp.f k xs bt327.1).bind fun bt332 => ((spec_l1Below.f b bt327.2.1 bt327.2.2 (bt332.1.length : Int)).bind fun bt336 => ((spec_l1Below.f b bt336.2.1 bt336.2.2 10).bind fun bt339 => (if bt339.1 = 0 then ((spec_l1Int.f b bt339.2.1 bt339.2.2 (([0, 1, 99, 100] : List Int))).bind fun bt345 => (if 0 ≤ bt336.1 then (if bt336.1 < (bt332.1.length : Int) then (some ((bt332.1.set (bt336.1 : Int).toNat (⟨bt345.1, (rd_T45 bt332.1 bt336.1).f1, (rd_T45 bt332.1 bt336.1).f2⟩ : S45)), bt327.1, bt345.2.1, bt345.2.2)) else (none)) else (none))) else (if bt339.1 = 1 then ((spec_l1Int.f b bt339.2.1 bt339.2.2 (([0, 1, 6, 7] : List Int))).bind fun bt352 => (if 0 ≤ bt336.1 then (if bt336.1 < (bt332.1.length : Int) then (some ((bt332.1.set (bt336.1 : Int).toNat (⟨(rd_T45 bt332.1 bt336.1).f0, bt352.1, (rd_T45 bt332.1 bt336.1).f2⟩ : S45)), bt327.1, bt352.2.1, bt352.2.2)) else (none)) else (none))) else (if bt339.1 = 2 then (if 0 ≤ bt336.1 then (if bt336.1 < (bt332.1.length : Int) then (if ((rd_T45 bt332.1 bt336.1).f2).length < 17592186044416 then (some ((bt332.1.set (bt336.1 : Int).toNat (⟨(rd_T45 bt332.1 bt336.1).f0, (rd_T45 bt332.1 bt336.1).f1, (((rd_T45 bt332.1 bt336.1).f2) ++ [1])⟩ : S45)), bt327.1, bt339.2.1, bt339.2.2)) else (none)) else (none)) else (none)) else (some (bt332.1, bt327.1, bt339.2.1, bt339.2.2))))))))) := by
  refine Gets.bind (crew_ok b i h hc) ?_
  rintro ⟨c, i1, h1⟩ ⟨⟨hx, _⟩, hc1⟩
  have hx1 : c.length ≤ 9 := hx.1
  obtain ⟨hp1, hp2⟩ := mPutUp_small xs c hl hw hx.1
  refine Gets.bind (P := fun r => r = mPutUp xs c) ⟨mPutUp xs c, rfl, specPutUp_ev xs (by omega) (fun x hx => by rw [hw x hx]; omega) c (by omega)⟩ ?_
  rintro r rfl
  obtain ⟨v, i2, h2, e2, a2, b2, hc2⟩ := below_ok b i1 h1 ((mPutUp xs c).1.length : Int) hc1
  have b2 := b2 (by omega)
  obtain ⟨v3, i3, h3, e3, a3, b3, hc3⟩ := below_ok b i2 h2 10 hc2
  have hr := rd_who hp2 v
  simp only [e2, e3, Option.bind_some]
  by_cases q0 : v3 = 0
  · obtain ⟨v4, i4, h4, e4, _, hc4⟩ := int_ok b i3 h3 [0, 1, 99, 100] (by decide) hc3
    simp only [q0, if_true, e4, Option.bind_some, if_pos a2, if_pos b2]
    exact Gets.now ⟨⟨small_set (by omega) hp2 _ _ (by show (rd_T45 (mPutUp xs c).1 v).f2.length ≤ 100; omega), hx.1⟩, hc4⟩
  · by_cases q1 : v3 = 1
    · obtain ⟨v4, i4, h4, e4, _, hc4⟩ := int_ok b i3 h3 [0, 1, 6, 7] (by decide) hc3
      simp only [q1, show ¬ ((1 : Int) = 0) from by decide, if_false, if_true, e4, Option.bind_some, if_pos a2, if_pos b2]
      exact Gets.now ⟨⟨small_set (by omega) hp2 _ _ (by show (rd_T45 (mPutUp xs c).1 v).f2.length ≤ 100; omega), hx.1⟩, hc4⟩
    · by_cases q2 : v3 = 2
      · simp only [q2, show ¬ ((2 : Int) = 0) from by decide, show ¬ ((2 : Int) = 1) from by decide, if_false, if_true, if_pos a2, if_pos b2, if_pos (show (rd_T45 (mPutUp xs c).1 v).f2.length < 17592186044416 from by omega)]
        exact Gets.now ⟨⟨small_set (by omega) hp2 _ _ (by simp only [List.length_append, List.length_singleton]; omega), hx.1⟩, hc3⟩
      · simp only [q0, q1, q2, if_false]
        exact Gets.now ⟨⟨⟨show (mPutUp xs c).1.length ≤ 8 from by omega, fun x hx => by have := hp2 x hx; omega⟩, hx.1⟩, hc3⟩
theorem any23_down (b : List Int) : ∀ (n : Nat) (xs : List S45) (i h : Int), xs.length + n = 5 → (∀ x ∈ xs, x.f2.length = 0) → OkC b i →
    Gets (fun r => (SmallT r.1 ∧ r.2.1.length ≤ 9) ∧ OkC b r.2.2.1) (fun k => spec_l23Any.l0 k xs ((xs.length : Int) + 1) b i h)
  | 0, xs, i, h, hn, hx, hc => by
    obtain ⟨v, i', h', e, v0, v1, hc'⟩ := below_ok b i h 4 hc
    have v1 := v1 (by omega)
    refine Gets.step (fun k => ?_) (any23_end b xs i' h' (by omega) (by omega) hx hc')
    simp only [spec_l23Any.l0, e, Option.bind_some]
    rw [wrap_id (n := 1 + v) (by omega) (by omega), if_neg (by omega)]
  | n + 1, xs, i, h, hn, hx, hc => by
    obtain ⟨v, i', h', e, v0, v1, hc'⟩ := below_ok b i h 4 hc
    have v1 := v1 (by omega)
    by_cases c : (xs.length : Int) + 1 ≤ 1 + v
    · obtain ⟨v2, i2, h2, e2, a2, b2, hc2⟩ := below_ok b i' h' 4 hc'
      have b2 := b2 (by omega)
      have ih := any23_down b n (xs ++ [⟨(xs.length : Int) + 1, 1 + v2, []⟩]) i2 h2 (by simp; omega) (fun x hx' => by
        rcases List.mem_append.1 hx' with h | h
        · exact hx x h
        · rw [List.mem_singleton.1 h]; rfl) hc2
      rw [List.length_append, List.length_singleton] at ih
      refine Gets.step (f := fun k => spec_l23Any.l0 k (xs ++ [⟨(xs.length : Int) + 1, 1 + v2, []⟩]) (((xs.length + 1 : Nat) : Int) + 1) b i2 h2) (fun k => ?_) ih
      simp only [spec_l23Any.l0, e, e2, Option.bind_some]
      rw [wrap_id (n := 1 + v) (by omega) (by omega), if_pos c, if_pos (by omega), wrap_id (n := 1 + v2) (by omega) (by omega), wrap_id (n := (xs.length : Int) + 1 + 1) (by omega) (by omega), Int.natCast_add, Int.natCast_one]
    · refine Gets.step (fun k => ?_) (any23_end b xs i' h' (by omega) (by omega) hx hc')
      simp only [spec_l23Any.l0, e, Option.bind_some]
      rw [wrap_id (n := 1 + v) (by omega) (by omega), if_neg c]
theorem any23_ok (b : List Int) (i h : Int) (hc : OkC b i) : Gets (fun r => (SmallT r.1 ∧ r.2.1.length ≤ 9) ∧ OkC b r.2.2.1) (fun k => spec_l23Any.f k b i h) := any23_down b 5 [] i h rfl (fun x hx => by cases hx) hc
theorem drawPutUp_ok (b : List Int) (hb : b.length ≤ 1048576) : Gets (fun r => SmallT r.1 ∧ r.2.length ≤ 9) (fun k => spec_DrawPutUp.f k b) := by
  unfold spec_DrawPutUp.f
  refine Gets.bind (new_ok b hb) ?_
  rintro ⟨b', i1, h1⟩ ⟨rfl, hc1⟩
  simp only at hc1 ⊢
  refine Gets.bind (any23_ok b' i1 h1 hc1) ?_
  rintro ⟨l, c, i2, h2⟩ ⟨hx, _⟩
  exact Gets.now hx
theorem drawMoveTo_ok (b : List Int) (hb : b.length ≤ 1048576) : Gets (fun r => SmallT r.1) (fun k => spec_DrawMoveTo.f k b) := by
  unfold spec_DrawMoveTo.f
  have ht : Gets (fun r => SmallT r.1) (fun k => spec_DrawTentOf.f k b) := by
    unfold spec_DrawTentOf.f
    refine Gets.bind (new_ok b hb) ?_
    rintro ⟨b', i1, h1⟩ ⟨rfl, hc1⟩
    simp only at hc1 ⊢
    refine Gets.bind (any23_ok b' i1 h1 hc1) ?_
    rintro ⟨l, c, i2, h2⟩ ⟨hx, hc2⟩
    obtain ⟨v3, i3, h3, e3, _, _, hc3⟩ := below_ok b' i2 h2 10 hc2
    simp only [e3, Option.bind_some]
    exact Gets.now hx.1
  refine Gets.bind ht ?_
  intro r hr
  refine Gets.bind (new_ok b hb) ?_
  rintro ⟨b', i1, h1⟩ ⟨rfl, hc1⟩
  simp only at hc1 ⊢
  obtain ⟨v3, i3, h3, e3, _, _, hc3⟩ := below_ok b' i1 h1 6 hc1
  simp only [e3, Option.bind_some]
  exact Gets.now hr
theorem mMoveTo_who (l : List S45) (who tent : Int) (hw : ∀ x ∈ l, x.f2.length ≤ 1000) : ∀ x ∈ (mMoveTo l who tent).1, x.f2.length ≤ 1048576 := by
  intro x hx
  unfold mMoveTo at hx
  split at hx
  · obtain ⟨y, hy, rfl⟩ := List.mem_map.1 hx
    have := hw y hy
    unfold mvAll
    split
    · have := rm_len who y.f2
      show (rm who y.f2).length ≤ 1048576
      omega
    · unfold mv2
      split
      · simp only [List.length_append, List.length_singleton]
        omega
      · omega
  · have := hw x hx
    omega
theorem mMoveTo_len (l : List S45) (who tent : Int) : (mMoveTo l who tent).1.length = l.length := by
  unfold mMoveTo
  split
  · simp
  · rfl
/-! ### The second half: somebody moves -/
theorem moves (b : List Int) (hb : b.length ≤ 1048576) : Ev (fun k => laws_FnTents.j3 k b) true := by
  refine Ev.step (f := fun k => (spec_DrawMoveTo.f k b).bind fun bt415 => ((impl_MoveTo.f k bt415.1 bt415.2.1 bt415.2.2).bind fun bt420 => (if (bt420.1.length : Int) = (bt415.1.length : Int) then (if bt420.2 = true then ((impl_AreTents.f k bt420.1).bind fun t424 => (if t424 = true then ((impl_TentOf.f k bt420.1 bt415.2.1).bind fun t425 => (if t425 = bt415.2.2 then ((impl_BedsFree.f k bt420.1).bind fun t426 => ((impl_BedsFree.f k bt415.1).bind fun t427 => (if t426 = t427 then (some true) else (some false)))) else (some false))) else (some false))) else ((impl_TentOf.f k bt420.1 bt415.2.1).bind fun t428 => ((impl_TentOf.f k bt415.1 bt415.2.1).bind fun t429 => (some (t428 == t429))))) else (some false)))) (fun k => by simp only [laws_FnTents.j3]) ?_
  refine Gets.ev (drawMoveTo_ok b hb) ?_
  rintro ⟨l, who, tent⟩ hs
  simp only at hs ⊢
  obtain ⟨hl, hw⟩ := hs
  have hw' : ∀ x ∈ l, x.f2.length ≤ 1048576 := fun x hx => by have := hw x hx; omega
  have hlen := mMoveTo_len l who tent
  have hmw := mMoveTo_who l who tent (fun x hx => by have := hw x hx; omega)
  refine Ev.bind (implMoveTo_ev l (by omega) hw' who tent) ?_
  simp only [show (((mMoveTo l who tent).1.length : Int) = (l.length : Int)) from by omega, if_true]
  by_cases hm : (mMoveTo l who tent).2 = true
  · simp only [hm, if_true]
    have hcond : (mAreTents l = true ∧ mTentOf l who ≠ 0 ∧ mTentOf l who ≠ tent) ∧ l.any (free tent) = true := by
      unfold mMoveTo at hm
      split at hm
      · assumption
      · cases hm
    obtain ⟨⟨ha, h0, h1⟩, hf⟩ := hcond
    have e1 : (mMoveTo l who tent).1 = l.map (mvAll (mTentOf l who) tent who) := by unfold mMoveTo; rw [if_pos ⟨⟨ha, h0, h1⟩, hf⟩]
    have hat := moved_tents (tent := tent) ha h0
    refine Ev.bind (implAT_ev _ (by omega)) ?_
    rw [e1] at hlen hmw ⊢
    simp only [hat, if_true]
    refine Ev.bind (implTO_ev _ who (by omega) hmw) ?_
    simp only [moved_at ha h0 h1 hf, if_true]
    refine Ev.bind (implBF_ev _ (by omega)) ?_
    refine Ev.bind (implBF_ev l (by omega)) ?_
    have eb : mBeds (l.map (mvAll (mTentOf l who) tent who)) = mBeds l := by
      unfold mBeds
      rw [if_pos hat, if_pos ha, moved_beds ha h0 h1 hf]
    simp only [eb, if_true]
    exact Ev.now _
  · have hm' : (mMoveTo l who tent).2 = false := by simpa using hm
    simp only [hm', Bool.false_eq_true, if_false]
    have e1 : (mMoveTo l who tent).1 = l := by
      unfold mMoveTo at hm' ⊢
      split
      · rename_i h
        rw [if_pos h] at hm'
        cases hm'
      · rfl
    rw [e1]
    refine Ev.bind (implTO_ev l who (by omega) hw') ?_
    refine Ev.bind (implTO_ev l who (by omega) hw') ?_
    simp only [beq_self_eq_true]
    exact Ev.now _
/-! ### The first half: a crew is put up -/
theorem bedsLoop (b : List Int) (c : List S49) (x : List S45) (hx : x.length ≤ 8) (hf : ∀ y ∈ x, 1 ≤ y.f1 ∧ y.f1 ≤ 6) (R : Bool) (hR : Ev (fun k => (impl_AreTents.f k x).bind fun t411 => (if t411 = true then ((impl_BedsFree.f k x).bind fun t412 => (laws_FnTents.j1 k b c x (t412 != (wrap64 (f1Sum x - (c.length : Int)))))) else (laws_FnTents.j1 k b c x true))) R) :
    ∀ (t d : List S45) (s : Int), x = d ++ t → s + f1Sum t = f1Sum x → 0 ≤ s → s ≤ 6 * d.length → Ev (fun k => laws_FnTents.l0 k b c x s (d.length : Int)) R
  | [], d, s, h, hs, h0, h1 => by
    refine Ev.step (fun k => ?_) hR
    simp only [f1Sum, Int.add_zero] at hs
    simp only [laws_FnTents.l0, hs]
    rw [if_neg (by rw [h]; simp)]
  | y :: t, d, s, h, hs, h0, h1 => by
    have hlen : x.length = d.length + (t.length + 1) := by rw [h]; simp
    have hr : rd_T45 x (d.length : Int) = y := getD_of z45 (by rw [h]; simp)
    have hy := hf y (by rw [h]; simp)
    have ih := bedsLoop b c x hx hf R hR t (d ++ [y]) (s + y.f1) (by rw [h]; simp) (by simp only [f1Sum] at hs; omega) (by omega) (by simp; omega)
    rw [List.length_append, List.length_singleton, show ((d.length + 1 : Nat) : Int) = (d.length : Int) + 1 from by omega] at ih
    refine Ev.step (fun k => ?_) ih
    simp only [laws_FnTents.l0, hr, wrapi d.length (by omega), wrap_id (n := s + y.f1) (by omega) (by omega)]
    rw [if_pos (by omega), if_pos (by omega)]
theorem crewLoop (b : List Int) (c : List S49) (hc : c.length ≤ 9) (x : List S45) (hx : x.length ≤ 8) (hw : ∀ y ∈ x, y.f2.length ≤ 1048576) (hall : ∀ y ∈ c, mTentOf x y.f0 ≠ 0) (R : Bool) (hR : Ev (fun k => laws_FnTents.j3 k b) R) :
    ∀ (t d : List S49), c = d ++ t → Ev (fun k => laws_FnTents.l1 k b c x (d.length : Int)) R
  | [], d, h => by
    refine Ev.step (fun k => ?_) hR
    simp only [laws_FnTents.l1]
    rw [if_neg (by rw [h]; simp)]
  | y :: t, d, h => by
    have hlen : c.length = d.length + (t.length + 1) := by rw [h]; simp
    have hr : rd_T49 c (d.length : Int) = y := getD_of z49 (by rw [h]; simp)
    have ih := crewLoop b c hc x hx hw hall R hR t (d ++ [y]) (by rw [h]; simp)
    rw [List.length_append, List.length_singleton, show ((d.length + 1 : Nat) : Int) = (d.length : Int) + 1 from by omega] at ih
    refine Ev.step (f := fun k => (impl_TentOf.f k x y.f0).bind fun t414 => (if t414 = 0 then (some false) else (laws_FnTents.l1 k b c x ((d.length : Int) + 1)))) (fun k => ?_) ?_
    · simp only [laws_FnTents.l1, hr, wrapi d.length (by omega)]
      rw [if_pos (by omega), if_pos (by omega)]
    · refine Ev.bind (implTO_ev x y.f0 (by omega) hw) ?_
      simp only [hall y (by rw [h]; simp), if_false]
      exact ih
end FnTentsPf
open FnTentsPf
theorem FnTents : laws_FnTents.Pure := by
  intro b _ _ _
  apply Ev.rounds (g := fun k => laws_FnTents.f k b)
  unfold laws_FnTents.f laws_big.f
  simp only [Option.bind_some, decide_eq_true_eq]
  by_cases hb : (b.length : Int) > 1048576
  · rw [show (fun k => (if (b.length : Int) > 1048576 then (some true : Option Bool) else _)) = fun _ => some true from funext (fun k => if_pos hb)]
    exact Ev.now _
  · simp only [if_neg hb]
    have hb' : b.length ≤ 1048576 := by omega
    refine Gets.ev (drawPutUp_ok b hb') ?_
    rintro ⟨l, c⟩ ⟨⟨hl, hw⟩, hc⟩
    simp only at hl hw hc ⊢
    refine Ev.bind (implPutUp_ev l (by omega) (fun x hx => by have := hw x hx; omega) c (by omega)) ?_
    by_cases hm : mAreTents l = true ∧ mAreCrew c = true ∧ ¬ sumN l < c.length
    · have e : mPutUp l c = (fillT l (idsOf c), true) := by unfold mPutUp; rw [if_pos hm]
      rw [e]
      simp only [if_true]
      obtain ⟨ha, hcr, hs⟩ := hm
      have hat := putUp_tents ha hcr
      have hf := tents_f1 ha
      have hf0 : ∀ x ∈ l, 0 ≤ x.f1 := fun x hx => by have := hf x hx; omega
      have hfl := fillT_len l (idsOf c)
      have hidl : (idsOf c).length = c.length := by simp [idsOf]
      have hwf : ∀ y ∈ fillT l (idsOf c), y.f2.length ≤ 1048576 := fun y hy => by have := fillT_who l (idsOf c) y hy; omega
      have hsl := sumN_le l hf
      have hf1 := f1Sum_fill l (idsOf c) hf0
      refine bedsLoop b c (fillT l (idsOf c)) (by omega) (tents_f1 hat) true ?_ (fillT l (idsOf c)) [] 0 rfl (by omega) (by omega) (by simp)
      refine Ev.bind (implAT_ev _ (by omega)) ?_
      simp only [hat, if_true]
      refine Ev.bind (implBF_ev _ (by omega)) ?_
      have ebd : mBeds (fillT l (idsOf c)) = wrap64 (f1Sum (fillT l (idsOf c)) - (c.length : Int)) := by
        rw [wrap_id (by omega) (by omega)]
        unfold mBeds
        rw [if_pos hat, fillT_beds l (idsOf c) hf0 (by omega), hf1, hidl]
      rw [ebd]
      refine Ev.step (f := fun k => laws_FnTents.l1 k b c (fillT l (idsOf c)) 0) (fun k => by simp only [laws_FnTents.j1, bne_self_eq_false, Bool.false_eq_true, if_false]) ?_
      refine crewLoop b c hc _ (by omega) hwf (fun y hy h0 => ?_) true (moves b hb') c [] rfl
      obtain ⟨x, hx, hv⟩ := fillT_has l (idsOf c) y.f0 (List.mem_map.2 ⟨y, hy, rfl⟩) (by omega)
      obtain ⟨z, hz, _, he⟩ := runTO_has y.f0 (fillT l (idsOf c)) 0 ⟨x, hx, hv⟩
      obtain ⟨i, hi, hzi⟩ := List.getElem_of_mem hz
      have := ((mAreTents_ok hat).1 i z (by rw [List.getElem?_eq_getElem hi, hzi])).1
      unfold mTentOf at h0
      rw [he] at h0
      omega
    · have e : mPutUp l c = (l, false) := by unfold mPutUp; rw [if_neg hm]
      rw [e]
      simp only [Bool.false_eq_true, if_false]
      exact moves b hb'
end Go.Proofs.Ytnghncedinngoaa.Pure
