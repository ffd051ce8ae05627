/- FnExactBedsFree: the pure statement of the law, over the printed functions. No condition beyond the statement's own. -/
import Derived.Test.YtdjdkngpbgobfaaSFnExactBedsFreex6
import Derived.Test.YtdjdkngpbgobfaaLib
import Derived.Test.YtdjdkngpbgobfaaOpens
namespace Go.Proofs.Ytdjdkngpbgobfaa.Pure
open Go.RowKit Go.Proofs.Ytdjdkngpbgobfaa.PFnExactBedsFree Go.Proofs.YtdjdkngpbgobfaaW.PrintWords Go.Proofs.YtdjdkngpbgobfaaW.PrintLast Go.Proofs.Ytdjdkngpbgobfaa.Lib Go.Proofs.Ytdjdkngpbgobfaa.Opens
set_option linter.unusedVariables false
set_option linter.unusedSimpArgs false
namespace FnExactBedsFreePf
theorem szIntS_eq (l : List Int) (a : Int) (hl : l.length ≤ maxLen) (h0 : 0 ≤ a) (h1 : a ≤ 1048576) : laws_szIntS.f l a = some (if a - (l.length : Int) < 0 then -1 else a - (l.length : Int)) := by
  have h : wrap64 (a - (l.length : Int)) = a - (l.length : Int) := wrap_id (by unfold maxLen at hl; omega) (by omega)
  simp only [laws_szIntS.f, h]
  split <;> rfl
theorem toIntS_ev (l : List Int) (hl : l.length ≤ 1048576) : Ev (fun k => laws_toIntS.f k l) l := by
  have h := map_loop (fun k out i => laws_toIntS.l0 k l out i) l id 0 (by omega)
    (fun k out => by simp only [laws_toIntS.l0]; rw [if_neg (by omega)])
    (fun k out i x hx ho hw => by
      have hi := lt_of_get hx
      have hr : rd l (i : Int) = x := getD_of 0 hx
      simp only [laws_toIntS.l0, hr, hw]
      rw [if_pos (by omega), if_pos (by omega), if_pos (by omega), Int.toNat_natCast]; rfl)
  rw [List.map_id] at h
  refine Ev.congr (fun k => ?_) h
  simp only [laws_toIntS.f, Int.toNat_natCast]
  rw [if_pos (by omega), if_pos (by omega)]
theorem eqIntS_ev (l : List Int) (hl : l.length ≤ 4611686018427387904) : Ev (fun k => laws_eqIntS.f k l l) true := by
  have h := count_loop (fun k i => laws_eqIntS.l0 k l l i) l.length true hl
    (fun k => by simp only [laws_eqIntS.l0]; rw [if_neg (by omega)])
    (fun k i hi hw => by simp only [laws_eqIntS.l0, hw]; rw [if_pos (by omega), if_pos (by omega), if_pos (by omega)]; simp)
  refine Ev.congr (fun k => ?_) h
  simp only [laws_eqIntS.f, if_true]
theorem l1In_eq (a b c : Int) : spec_l1In.f a b c = some (decide (b ≤ a ∧ a ≤ c)) := by
  unfold spec_l1In.f
  by_cases h : a ≥ b
  · rw [if_pos h]; simp [h]
  · rw [if_neg h]; simp [show ¬ (b ≤ a) from by omega]
theorem InRange_eq (a b c : Int) : impl_InRange.f a b c = some (decide (b ≤ a ∧ a ≤ c)) := by
  unfold impl_InRange.f
  by_cases h : b ≤ a
  · rw [if_pos h]; simp [h]
  · rw [if_neg h]; simp [h]
theorem specHas_at (l : List Int) (n : Int) (hl : l.length ≤ 4611686018427387904) : ∀ k, l.length < k → spec_l14Has.f k l n = some (decide (n ∈ l)) := by
  rw [← run_has n l 0]
  exact at_loop0 (fun k _ i => spec_l14Has.l0 k l n i) l (stepHas n) (fun _ => false) hl ()
    (fun k s => by simp only [spec_l14Has.l0]; rw [if_neg (by omega)])
    (fun k s i x hx hw => by
      have hi := lt_of_get hx
      have hr : rd l (i : Int) = x := getD_of 0 hx
      simp only [spec_l14Has.l0, hr, hw]; rw [if_pos (by omega), if_pos (by omega)]
      simp only [stepHas]; split <;> rfl)
theorem implPlace_at (l : List Int) (n : Int) (hl : l.length ≤ 4611686018427387904) : ∀ k, l.length < k → impl_placeOf.f k l n = some (place n l) :=
  at_loop0 (fun k _ i => impl_placeOf.l0 k n l (l.length : Int) i) l (stepPlace n) (fun _ => -1) hl ()
    (fun k s => by simp only [impl_placeOf.l0]; rw [if_neg (by omega)])
    (fun k s i x hx hw => by
      have hi := lt_of_get hx
      have hr : rd l (i : Int) = x := getD_of 0 hx
      simp only [impl_placeOf.l0, hr, hw]; rw [if_pos (by omega), if_pos (by omega), if_pos (by omega)]
      simp only [stepPlace]; split <;> rfl)
theorem implHas_at (l : List Int) (n : Int) (hl : l.length ≤ 4611686018427387904) : ∀ k, l.length < k → impl_has.f k l n = some (decide (n ∈ l)) := fun k hk => by
  simp only [impl_has.f, implPlace_at l n hl k hk, Option.bind_some, place_has]
def cvTent (x : S88) : S71 := ⟨x.f0, x.f1, x.f2⟩
def stepSz : Nat → Int → S88 → Int ⊕ Int := fun _ s x => if s - (x.f2.length : Int) < 0 then .inl (-1) else .inr (s - (x.f2.length : Int))
theorem runSz : ∀ (l : List S88) (i : Nat) (s : Int), s ≤ 1048576 → ¬ run stepSz id i s l < 0 → ∀ x ∈ l, x.f2.length ≤ 1048576
  | [], _, _, _, _, x, hx => by cases hx
  | y :: t, i, s, hs, hr, x, hx => by
    by_cases h : s - (y.f2.length : Int) < 0
    · rw [run_inl (show stepSz i s y = .inl (-1) from if_pos h)] at hr
      exact absurd (by decide) hr
    · rw [run_inr (show stepSz i s y = .inr (s - (y.f2.length : Int)) from if_neg h)] at hr
      rcases List.mem_cons.1 hx with hx | hx
      · subst hx; omega
      · exact runSz t (i + 1) _ (by omega) hr x hx
theorem szTentS_ok (l : List S88) (a : Int) (hl : l.length ≤ maxLen) (hw : ∀ x ∈ l, x.f2.length ≤ maxLen) (h0 : 0 ≤ a) (h1 : a ≤ 1048576) :
    ∃ r, Ev (fun k => laws_szTentS.f k l a) r ∧ (¬ r < 0 → l.length ≤ 1048576 ∧ (∀ x ∈ l, x.f2.length ≤ 1048576) ∧ r ≤ a) ∧ r ≤ a := by
  have hwr : wrap64 (a - (l.length : Int)) = a - (l.length : Int) := wrap_id (by unfold maxLen at hl; omega) (by omega)
  by_cases h : a - (l.length : Int) < 0
  · refine ⟨-1, ?_, fun h => absurd (by decide) h, by omega⟩
    refine Ev.congr (fun k => ?_) (Ev.now (-1))
    simp only [laws_szTentS.f, hwr]
    rw [if_pos h]
  · have hloop := at_loopI (fun k s i => laws_szTentS.l0 k l s i) l stepSz id (fun _ s => 0 ≤ s ∧ s ≤ a) (by omega) (a - (l.length : Int)) ⟨by omega, by omega⟩ 0
      (fun k s _ _ => by simp only [laws_szTentS.l0]; rw [if_neg (by omega)]; rfl)
      (fun s i x s' hI _ he => by
        simp only [stepSz] at he
        split at he
        · cases he
        · injection he with he
          subst he
          omega)
      (fun k s i x _ hI hx hw' => by
        have hi := lt_of_get hx
        have hr : rd_T88 l (i : Int) = x := getD_of z88 hx
        have hxl := hw x (List.mem_of_getElem? hx)
        have hws : wrap64 (s - (x.f2.length : Int)) = s - (x.f2.length : Int) := wrap_id (by unfold maxLen at hxl; omega) (by omega)
        simp only [laws_szTentS.l0, laws_szTent.f, laws_szIntS.f, hr, hw', hws]; rw [if_pos (by omega), if_pos (by omega)]
        simp only [stepSz]
        by_cases c : s - (x.f2.length : Int) < 0
        · rw [if_pos c, if_pos c]
          rfl
        · rw [if_neg c, if_neg c]
          simp only [Option.bind_some]
          rw [if_neg c]
          simp only [Option.bind_some]
          rw [if_neg c]
          rfl)
    have hle : run stepSz id 0 (a - (l.length : Int)) l ≤ a := by
      have key : ∀ (t : List S88) (i : Nat) (s : Int), -1 ≤ s → s ≤ a → run stepSz id i s t ≤ a := by
        intro t
        induction t with
        | nil => intro i s _ hs; exact hs
        | cons x t ih =>
          intro i s hs1 hs
          by_cases c : s - (x.f2.length : Int) < 0
          · rw [run_inl (show stepSz i s x = .inl (-1) from if_pos c)]; omega
          · rw [run_inr (show stepSz i s x = .inr (s - (x.f2.length : Int)) from if_neg c)]; exact ih _ _ (by omega) (by omega)
      exact key l 0 _ (by omega) (by omega)
    refine ⟨run stepSz id 0 (a - (l.length : Int)) l, ?_, fun hr => ⟨by omega, runSz l 0 _ (by omega) hr, hle⟩, hle⟩
    refine Ev.congr (fun k => ?_) (ev_at hloop)
    simp only [laws_szTentS.f, hwr]
    rw [if_neg h]
theorem toInt_at (l : List Int) (hl : l.length ≤ 1048576) : ∀ k, 1048576 < k → laws_toIntS.f k l = some l := by
  intro k hk
  have hev : ∃ K, K ≤ l.length + 1 ∧ ∀ k, K ≤ k → laws_toIntS.f k l = some l := by
    have key : ∀ (t d : List Int) (k : Nat), l = d ++ t → t.length < k → laws_toIntS.l0 k l (d ++ List.replicate t.length 0) (d.length : Int) = some l := by
      intro t
      induction t with
      | nil =>
        intro d k hd hk
        obtain ⟨k, rfl⟩ : ∃ m, k = m + 1 := ⟨k - 1, by simp at hk; omega⟩
        rw [List.append_nil] at hd
        subst hd
        simp only [laws_toIntS.l0]
        rw [if_neg (by omega)]
        simp
      | cons x t ih =>
        intro d k hd hk
        obtain ⟨k, rfl⟩ : ∃ m, k = m + 1 := ⟨k - 1, by simp at hk; omega⟩
        have hx : l[d.length]? = some x := by rw [hd]; simp
        have hlen : l.length = d.length + (t.length + 1) := by rw [hd]; simp
        have hr : rd l (d.length : Int) = x := getD_of 0 hx
        have := ih (d ++ [x]) k (by rw [hd]; simp) (by simp at hk; omega)
        simp only [laws_toIntS.l0, hr, wrapi d.length (by omega)]
        rw [if_pos (by omega), if_pos (by omega), if_pos (by simp only [List.length_append, List.length_replicate, List.length_cons]; omega), Int.toNat_natCast, List.length_cons, List.replicate_succ, set_append _ _ _ _ _ rfl]
        simpa using this
    refine ⟨l.length + 1, Nat.le_refl _, fun k hk => ?_⟩
    have := key l [] k rfl (by omega)
    simp only [laws_toIntS.f, Int.toNat_natCast]
    rw [if_pos (by omega), if_pos (by omega)]
    exact this
  obtain ⟨K', hK', h'⟩ := hev
  exact h' k (by omega)
theorem toTentS_ev (l : List S88) (hl : l.length ≤ 1048576) (hw : ∀ x ∈ l, x.f2.length ≤ 1048576) : Ev (fun k => laws_toTentS.f k l) (l.map cvTent) := by
  have h := map_loopK (fun k out i => laws_toTentS.l0 k l out i) l cvTent z71 1048577 (by omega)
    (fun k out => by simp only [laws_toTentS.l0]; rw [if_neg (by omega)])
    (fun k out i x hk hx ho hw' => by
      have hi := lt_of_get hx
      have hr : rd_T88 l (i : Int) = x := getD_of z88 hx
      simp only [laws_toTentS.l0, laws_toTent.f, toInt_at x.f2 (hw x (List.mem_of_getElem? hx)) k (by omega), Option.bind_some, hr, hw']
      rw [if_pos (by omega), if_pos (by omega), if_pos (by omega), Int.toNat_natCast]; rfl)
  refine Ev.congr (fun k => ?_) h
  simp only [laws_toTentS.f, Int.toNat_natCast]
  rw [if_pos (by omega), if_pos (by omega)]
theorem eqInt_at (l : List Int) (hl : l.length ≤ 1048576) : ∀ k, 1048576 < k → laws_eqIntS.f k l l = some true := by
  have key : ∀ (d i k : Nat), i + d = l.length → d < k → laws_eqIntS.l0 k l l (i : Int) = some true := by
    intro d
    induction d with
    | zero =>
      intro i k hi hk
      obtain ⟨k, rfl⟩ : ∃ m, k = m + 1 := ⟨k - 1, by omega⟩
      simp only [laws_eqIntS.l0]
      rw [if_neg (by omega)]
    | succ d ih =>
      intro i k hi hk
      obtain ⟨k, rfl⟩ : ∃ m, k = m + 1 := ⟨k - 1, by omega⟩
      have := ih (i + 1) k (by omega) (by omega)
      simp only [laws_eqIntS.l0, wrapi i (by omega)]
      rw [if_pos (by omega), if_pos (by omega), if_pos (by omega)]
      simpa using this
  intro k hk
  simp only [laws_eqIntS.f, if_true]
  exact key l.length 0 k (by omega) (by omega)
theorem eqTentS_ev (l : List S71) (hl : l.length ≤ 4611686018427387904) (hw : ∀ x ∈ l, x.f2.length ≤ 1048576) : Ev (fun k => laws_eqTentS.f k l l) true := by
  have h := count_loopK (fun k i => laws_eqTentS.l0 k l l i) l.length true 1048577 hl
    (fun k => by simp only [laws_eqTentS.l0]; rw [if_neg (by omega)])
    (fun k i hk hi hw' => by
      have hx : l[i]? = some l[i] := List.getElem?_eq_getElem hi
      have hr : rd_T71 l (i : Int) = l[i] := getD_of z71 hx
      simp only [laws_eqTentS.l0, laws_eqTent.f, hr, hw', eqInt_at l[i].f2 (hw _ (List.getElem_mem hi)) k (by omega), Option.bind_some, if_true]
      rw [if_pos (by omega), if_pos (by omega), if_pos (by omega)])
  refine Ev.congr (fun k => ?_) h
  simp only [laws_eqTentS.f, if_true]
theorem cvTent_who (l : List S88) (hw : ∀ x ∈ l, x.f2.length ≤ 1048576) : ∀ x ∈ l.map cvTent, x.f2.length ≤ 1048576 := by
  intro x hx
  obtain ⟨y, hy, rfl⟩ := List.mem_map.1 hx
  exact hw y hy
def addAll (s : List Int) : List Int → Option (List Int)
  | [] => some s
  | y :: t => if y ∈ s then none else addAll (s ++ [y]) t
theorem addAll_cons (s : List Int) (y : Int) (t : List Int) : addAll s (y :: t) = if y ∈ s then none else addAll (s ++ [y]) t := rfl
theorem addAll_len : ∀ (t s s' : List Int), addAll s t = some s' → s'.length = s.length + t.length
  | [], s, s', h => by
    injection h with h
    subst h
    rfl
  | y :: t, s, s', h => by
    rw [addAll_cons] at h
    split at h
    · cases h
    · have := addAll_len t _ s' h
      rw [this, List.length_append, List.length_singleton, List.length_cons]
      omega
def okTent (l : List S71) (i : Nat) (x : S71) : Prop := (1 ≤ x.f0 ∧ x.f0 ≤ 99) ∧ (1 ≤ x.f1 ∧ x.f1 ≤ 6) ∧ ((x.f2.length : Int) ≤ x.f1) ∧ (i = 0 ∨ (l.getD (i - 1) z71).f0 < x.f0)
instance (l : List S71) (i : Nat) (x : S71) : Decidable (okTent l i x) := by unfold okTent; infer_instance
def nextAT (s : List Int) (x : S71) : Bool ⊕ List Int := match addAll s x.f2 with
  | none => .inl false
  | some s' => .inr s'
def stepAT (l : List S71) : Nat → List Int → S71 → Bool ⊕ List Int := fun i s x => if okTent l i x then nextAT s x else .inl false
def mAreTents (l : List S71) : Bool := run (stepAT l) (fun _ => decide ((l.length : Int) ≤ 8)) 0 [] l
theorem specAT_in (l : List S71) (hl : l.length ≤ 1048576) (i : Nat) (x : S71) (hx : l[i]? = some x) (hx6 : x.f2.length ≤ 6) (R : List Int → Bool) : ∀ (t d s : List Int), x.f2 = d ++ t → s.length + t.length ≤ 8000000 →
    (∀ s', addAll s t = some s' → Ev (fun k => spec_AreTents.l0 k l s' ((i : Int) + 1)) (R s')) → Ev (fun k => spec_AreTents.l1 k l s (i : Int) (d.length : Int)) (match addAll s t with | none => false | some s' => R s')
  | [], d, s, h, hs, hR => by
    have hi := lt_of_get hx
    have hr : rd_T71 l (i : Int) = x := getD_of z71 hx
    have hlen : x.f2.length = d.length := by rw [h]; simp
    refine Ev.step (fun k => ?_) (hR s rfl)
    simp only [spec_AreTents.l1, hr, wrapi i (by omega)]
    rw [if_pos (by omega), if_pos (by omega), if_neg (by omega)]
  | y :: t, d, s, h, hs, hR => by
    have hi := lt_of_get hx
    have hr : rd_T71 l (i : Int) = x := getD_of z71 hx
    have hlen : x.f2.length = d.length + (t.length + 1) := by rw [h]; simp
    have hy : x.f2[d.length]? = some y := by rw [h]; simp
    have hry : rd x.f2 (d.length : Int) = y := getD_of 0 hy
    rw [List.length_cons] at hs
    refine Ev.step (f := fun k => (spec_l14Has.f k s y).bind fun t149 => if t149 = true then some false else if s.length < 17592186044416 then spec_AreTents.l1 k l (s ++ [y]) (i : Int) ((d.length : Int) + 1) else none) (fun k => ?_) ?_
    · simp only [spec_AreTents.l1, hr, hry, wrapi d.length (by omega)]
      rw [if_pos (by omega), if_pos (by omega), if_pos (by omega), if_pos (by omega)]
    · refine Ev.bind (ev_at (specHas_at s y (by omega))) ?_
      rw [addAll_cons]
      by_cases c : y ∈ s
      · simp only [decide_eq_true c, if_true, if_pos c]
        exact Ev.now _
      · simp only [decide_eq_false c, Bool.false_eq_true, if_false, if_neg c, show s.length < 17592186044416 from by omega, if_true]
        have ih := specAT_in l hl i x hx hx6 R t (d ++ [y]) (s ++ [y]) (by rw [h]; simp) (by simp; omega) (fun s' hs' => hR s' (by rw [addAll_cons, if_neg c]; exact hs'))
        rw [List.length_append, List.length_singleton, show ((d.length + 1 : Nat) : Int) = (d.length : Int) + 1 from by omega] at ih
        exact ih
theorem specAT_down (l : List S71) (hl : l.length ≤ 1048576) : ∀ (t d : List S71) (s : List Int), l = d ++ t → s.length ≤ 6 * d.length → Ev (fun k => spec_AreTents.l0 k l s (d.length : Int)) (run (stepAT l) (fun _ => decide ((l.length : Int) ≤ 8)) d.length s t)
  | [], d, s, h, hs => by
    have hlen : l.length = d.length := by rw [h]; simp
    refine Ev.step (f := fun _ => some (decide ((l.length : Int) ≤ 8))) (fun k => ?_) (Ev.now _)
    simp only [spec_AreTents.l0]
    rw [if_neg (by omega)]
  | x :: t, d, s, h, hs => by
    have hlen : l.length = d.length + (t.length + 1) := by rw [h]; simp
    have hx : l[d.length]? = some x := by rw [h]; simp
    have hr : rd_T71 l (d.length : Int) = x := getD_of z71 hx
    have hbad : Ev (fun k => spec_AreTents.j1 k l s (d.length : Int) true) false := Ev.step (f := fun _ => some false) (fun k => by simp [spec_AreTents.j1]) (Ev.now _)
    have stop : (¬ okTent l d.length x) → run (stepAT l) (fun _ => decide ((l.length : Int) ≤ 8)) d.length s (x :: t) = false := fun hn => run_inl (if_neg hn)
    by_cases c : okTent l d.length x
    · obtain ⟨c1, c2, c3, c4⟩ := c
      have hgo : Ev (fun k => spec_AreTents.j1 k l s (d.length : Int) false) (run (stepAT l) (fun _ => decide ((l.length : Int) ≤ 8)) d.length s (x :: t)) := by
        refine Ev.step (f := fun k => spec_AreTents.l1 k l s (d.length : Int) 0) (fun k => by simp [spec_AreTents.j1]) ?_
        have hin := specAT_in l hl d.length x hx (by omega) (fun s' => run (stepAT l) (fun _ => decide ((l.length : Int) ≤ 8)) (d.length + 1) s' t) x.f2 [] s rfl (by omega) (fun s' hs' => by
          have hl' := addAll_len _ _ _ hs'
          have ih := specAT_down l hl t (d ++ [x]) s' (by rw [h]; simp) (by simp; omega)
          rw [List.length_append, List.length_singleton, show ((d.length + 1 : Nat) : Int) = (d.length : Int) + 1 from by omega] at ih
          exact ih)
        have e : run (stepAT l) (fun _ => decide ((l.length : Int) ≤ 8)) d.length s (x :: t) = match addAll s x.f2 with | none => false | some s' => run (stepAT l) (fun _ => decide ((l.length : Int) ≤ 8)) (d.length + 1) s' t := by
          rw [run_cons, show stepAT l d.length s x = nextAT s x from if_pos ⟨c1, c2, c3, c4⟩]
          unfold nextAT
          cases addAll s x.f2 <;> rfl
        rw [e]
        exact hin
      rcases Nat.eq_zero_or_pos d.length with h0 | h0
      · refine Ev.step (fun k => ?_) hgo
        simp only [spec_AreTents.l0, hr, l1In_eq, Option.bind_some, decide_eq_true c1, decide_eq_true c2, if_true]
        rw [if_pos (by omega), if_pos (by omega), if_neg (by omega), if_neg (by omega)]
      · have hr' : rd_T71 l ((d.length - 1 : Nat) : Int) = l.getD (d.length - 1) z71 := getD_nat ..
        have c4' : ¬ (l.getD (d.length - 1) z71).f0 ≥ x.f0 := by
          rcases c4 with c4 | c4
          · omega
          · omega
        refine Ev.step (fun k => ?_) hgo
        simp only [spec_AreTents.l0, hr, l1In_eq, Option.bind_some, decide_eq_true c1, decide_eq_true c2, if_true, wrapd d.length h0 (by omega), hr', decide_eq_false c4']
        rw [if_pos (by omega), if_pos (by omega), if_neg (by omega), if_pos (by omega), if_pos (by omega), if_pos (by omega)]
    · rw [stop c]
      refine Ev.step (fun k => ?_) hbad
      simp only [spec_AreTents.l0, hr, l1In_eq, Option.bind_some]
      rw [if_pos (by omega), if_pos (by omega)]
      by_cases c1 : 1 ≤ x.f0 ∧ x.f0 ≤ 99
      · simp only [decide_eq_true c1, if_true]
        by_cases c2 : 1 ≤ x.f1 ∧ x.f1 ≤ 6
        · simp only [decide_eq_true c2, if_true]
          by_cases c3 : (x.f2.length : Int) ≤ x.f1
          · rw [if_neg (by omega)]
            rcases Nat.eq_zero_or_pos d.length with h0 | h0
            · exact absurd ⟨c1, c2, c3, .inl h0⟩ c
            · have hr' : rd_T71 l ((d.length - 1 : Nat) : Int) = l.getD (d.length - 1) z71 := getD_nat ..
              have c4' : (l.getD (d.length - 1) z71).f0 ≥ x.f0 := by
                refine Decidable.byContradiction fun h' => c ⟨c1, c2, c3, .inr (by omega)⟩
              simp only [wrapd d.length h0 (by omega), hr', decide_eq_true c4']
              rw [if_pos (by omega), if_pos (by omega), if_pos (by omega)]
          · rw [if_pos (by omega)]
        · simp only [decide_eq_false c2, Bool.false_eq_true, if_false]
      · simp only [decide_eq_false c1, Bool.false_eq_true, if_false]
theorem specAT_ev (l : List S71) (hl : l.length ≤ 1048576) : Ev (fun k => spec_AreTents.f k l) (mAreTents l) := specAT_down l hl l [] [] rfl (by simp)
theorem implAT_in (l : List S71) (hl : l.length ≤ 1048576) (i : Nat) (xs : List Int) (hx6 : xs.length ≤ 6) (R : List Int → Bool) : ∀ (t d s : List Int), xs = d ++ t → s.length + t.length ≤ 8000000 → i ≤ 1048576 →
    (∀ s', addAll s t = some s' → Ev (fun k => impl_AreTents.l0 k l s' l (l.length : Int) ((i : Int) + 1)) (R s')) → Ev (fun k => impl_AreTents.l1 k l s l (l.length : Int) (i : Int) xs (xs.length : Int) (d.length : Int)) (match addAll s t with | none => false | some s' => R s')
  | [], d, s, h, hs, hi, hR => by
    have hlen : xs.length = d.length := by rw [h]; simp
    refine Ev.step (fun k => ?_) (hR s rfl)
    simp only [impl_AreTents.l1, wrapi i (by omega)]
    rw [if_neg (by omega)]
  | y :: t, d, s, h, hs, hi, hR => by
    have hlen : xs.length = d.length + (t.length + 1) := by rw [h]; simp
    have hy : xs[d.length]? = some y := by rw [h]; simp
    have hry : rd xs (d.length : Int) = y := getD_of 0 hy
    rw [List.length_cons] at hs
    refine Ev.step (f := fun k => (impl_has.f k s y).bind fun t170 => if t170 = true then some false else if s.length < 17592186044416 then impl_AreTents.l1 k l (s ++ [y]) l (l.length : Int) (i : Int) xs (xs.length : Int) ((d.length : Int) + 1) else none) (fun k => ?_) ?_
    · simp only [impl_AreTents.l1, hry, wrapi d.length (by omega)]
      rw [if_pos (by omega), if_pos (by omega), if_pos (by omega)]
    · refine Ev.bind (ev_at (implHas_at s y (by omega))) ?_
      rw [addAll_cons]
      by_cases c : y ∈ s
      · simp only [decide_eq_true c, if_true, if_pos c]
        exact Ev.now _
      · simp only [decide_eq_false c, Bool.false_eq_true, if_false, if_neg c, show s.length < 17592186044416 from by omega, if_true]
        have ih := implAT_in l hl i xs hx6 R t (d ++ [y]) (s ++ [y]) (by rw [h]; simp) (by simp; omega) hi (fun s' hs' => hR s' (by rw [addAll_cons, if_neg c]; exact hs'))
        rw [List.length_append, List.length_singleton, show ((d.length + 1 : Nat) : Int) = (d.length : Int) + 1 from by omega] at ih
        exact ih
theorem implAT_down (l : List S71) (hl : l.length ≤ 1048576) : ∀ (t d : List S71) (s : List Int), l = d ++ t → s.length ≤ 6 * d.length → Ev (fun k => impl_AreTents.l0 k l s l (l.length : Int) (d.length : Int)) (run (stepAT l) (fun _ => decide ((l.length : Int) ≤ 8)) d.length s t)
  | [], d, s, h, hs => by
    have hlen : l.length = d.length := by rw [h]; simp
    refine Ev.step (f := fun _ => some (decide ((l.length : Int) ≤ 8))) (fun k => ?_) (Ev.now _)
    simp only [impl_AreTents.l0]
    rw [if_neg (by omega)]
  | x :: t, d, s, h, hs => by
    have hlen : l.length = d.length + (t.length + 1) := by rw [h]; simp
    have hx : l[d.length]? = some x := by rw [h]; simp
    have hr : rd_T71 l (d.length : Int) = x := getD_of z71 hx
    have hbad : Ev (fun k => impl_AreTents.j1 k l s l (l.length : Int) (d.length : Int) true x.f0 x.f1 x.f2) false := Ev.step (f := fun _ => some false) (fun k => by simp [impl_AreTents.j1]) (Ev.now _)
    have stop : (¬ okTent l d.length x) → run (stepAT l) (fun _ => decide ((l.length : Int) ≤ 8)) d.length s (x :: t) = false := fun hn => run_inl (if_neg hn)
    by_cases c : okTent l d.length x
    · obtain ⟨c1, c2, c3, c4⟩ := c
      have c3' : ¬ (x.f2.length : Int) > x.f1 := by omega
      have hgo : Ev (fun k => impl_AreTents.j1 k l s l (l.length : Int) (d.length : Int) false x.f0 x.f1 x.f2) (run (stepAT l) (fun _ => decide ((l.length : Int) ≤ 8)) d.length s (x :: t)) := by
        refine Ev.step (f := fun k => impl_AreTents.l1 k l s l (l.length : Int) (d.length : Int) x.f2 (x.f2.length : Int) 0) (fun k => by simp [impl_AreTents.j1]) ?_
        have hin := implAT_in l hl d.length x.f2 (by omega) (fun s' => run (stepAT l) (fun _ => decide ((l.length : Int) ≤ 8)) (d.length + 1) s' t) x.f2 [] s rfl (by omega) (by omega) (fun s' hs' => by
          have hl' := addAll_len _ _ _ hs'
          have ih := implAT_down l hl t (d ++ [x]) s' (by rw [h]; simp) (by simp; omega)
          rw [List.length_append, List.length_singleton, show ((d.length + 1 : Nat) : Int) = (d.length : Int) + 1 from by omega] at ih
          exact ih)
        have e : run (stepAT l) (fun _ => decide ((l.length : Int) ≤ 8)) d.length s (x :: t) = match addAll s x.f2 with | none => false | some s' => run (stepAT l) (fun _ => decide ((l.length : Int) ≤ 8)) (d.length + 1) s' t := by
          rw [run_cons, show stepAT l d.length s x = nextAT s x from if_pos ⟨c1, c2, c3, c4⟩]
          unfold nextAT
          cases addAll s x.f2 <;> rfl
        rw [e]
        exact hin
      rcases Nat.eq_zero_or_pos d.length with h0 | h0
      · refine Ev.step (fun k => ?_) hgo
        simp only [impl_AreTents.l0, hr, InRange_eq, Option.bind_some, decide_eq_true c1, decide_eq_true c2, if_true, decide_eq_false c3']
        rw [if_pos (by omega), if_pos (by omega), if_pos (by omega), if_neg (by omega)]
      · have hr' : rd_T71 l ((d.length - 1 : Nat) : Int) = l.getD (d.length - 1) z71 := getD_nat ..
        have c4' : ¬ x.f0 ≤ (l.getD (d.length - 1) z71).f0 := by
          rcases c4 with c4 | c4
          · omega
          · omega
        refine Ev.step (fun k => ?_) hgo
        simp only [impl_AreTents.l0, hr, InRange_eq, Option.bind_some, decide_eq_true c1, decide_eq_true c2, if_true, wrapd d.length h0 (by omega), hr', decide_eq_false c3']
        rw [if_pos (by omega), if_pos (by omega), if_pos (by omega), if_pos (by omega), if_pos (by omega), if_pos (by omega), if_neg c4']
    · rw [stop c]
      refine Ev.step (fun k => ?_) hbad
      simp only [impl_AreTents.l0, hr, InRange_eq, Option.bind_some]
      rw [if_pos (by omega), if_pos (by omega), if_pos (by omega)]
      by_cases c1 : 1 ≤ x.f0 ∧ x.f0 ≤ 99
      · simp only [decide_eq_true c1, if_true]
        rcases Nat.eq_zero_or_pos d.length with h0 | h0
        · rw [if_neg (by omega)]
          by_cases c2 : 1 ≤ x.f1 ∧ x.f1 ≤ 6
          · simp only [decide_eq_true c2, if_true]
            rw [decide_eq_true]
            exact Decidable.byContradiction fun h' => c ⟨c1, c2, by omega, .inl h0⟩
          · simp only [decide_eq_false c2, Bool.false_eq_true, if_false]
        · have hr' : rd_T71 l ((d.length - 1 : Nat) : Int) = l.getD (d.length - 1) z71 := getD_nat ..
          simp only [wrapd d.length h0 (by omega), hr']
          rw [if_pos (by omega), if_pos (by omega), if_pos (by omega)]
          by_cases c4 : x.f0 ≤ (l.getD (d.length - 1) z71).f0
          · rw [if_pos c4]
          · rw [if_neg c4]
            by_cases c2 : 1 ≤ x.f1 ∧ x.f1 ≤ 6
            · simp only [decide_eq_true c2, if_true]
              rw [decide_eq_true]
              exact Decidable.byContradiction fun h' => c ⟨c1, c2, by omega, .inr (by omega)⟩
            · simp only [decide_eq_false c2, Bool.false_eq_true, if_false]
      · simp only [decide_eq_false c1, Bool.false_eq_true, if_false]
theorem implAT_ev (l : List S71) (hl : l.length ≤ 1048576) : Ev (fun k => impl_AreTents.f k l) (mAreTents l) := implAT_down l hl l [] [] rfl (by simp)
theorem runAT_ok (l : List S71) (b : Bool) : ∀ (t d : List S71) (s : List Int), l = d ++ t → run (stepAT l) (fun _ => b) d.length s t = true → (∀ i x, d.length ≤ i → l[i]? = some x → okTent l i x) ∧ b = true
  | [], d, s, h, hr => by
    refine ⟨fun i x hi hx => ?_, hr⟩
    have := lt_of_get hx
    rw [h] at this
    simp at this
    omega
  | x :: t, d, s, h, hr => by
    have hx : l[d.length]? = some x := by rw [h]; simp
    by_cases c : okTent l d.length x
    · rw [run_cons, show stepAT l d.length s x = nextAT s x from if_pos c] at hr
      unfold nextAT at hr
      cases ha : addAll s x.f2 with
      | none => rw [ha] at hr; cases hr
      | some s' =>
        rw [ha] at hr
        have ih := runAT_ok l b t (d ++ [x]) s' (by rw [h]; simp) (by rw [List.length_append, List.length_singleton]; exact hr)
        rw [List.length_append, List.length_singleton] at ih
        refine ⟨fun i y hi hy => ?_, ih.2⟩
        rcases Nat.lt_or_ge d.length i with h1 | h1
        · exact ih.1 i y (by omega) hy
        · obtain rfl : i = d.length := by omega
          rw [hx] at hy
          injection hy with hy
          exact hy ▸ c
    · rw [run_inl (show stepAT l d.length s x = .inl false from if_neg c)] at hr
      cases hr
theorem mAreTents_ok {l : List S71} (h : mAreTents l = true) : (∀ i x, l[i]? = some x → okTent l i x) ∧ l.length ≤ 8 := by
  have := runAT_ok l _ l [] [] rfl h
  rw [List.length_nil] at this
  refine ⟨fun i x hx => this.1 i x (Nat.zero_le _) hx, ?_⟩
  have h2 := of_decide_eq_true this.2
  omega
def bedSum : List S71 → Int
  | [] => 0
  | x :: t => (x.f1 - (x.f2.length : Int)) + bedSum t
def mBeds (l : List S71) : Int := if mAreTents l = true then bedSum l else 0
theorem tent_in {l : List S71} (h : mAreTents l = true) {x : S71} (hx : x ∈ l) : (1 ≤ x.f1 ∧ x.f1 ≤ 6) ∧ (x.f2.length : Int) ≤ x.f1 := by
  obtain ⟨i, hi, he⟩ := List.getElem_of_mem hx
  have := (mAreTents_ok h).1 i x (by rw [List.getElem?_eq_getElem hi, he])
  exact ⟨this.2.1, this.2.2.1⟩
theorem specBF_down (l : List S71) (hl : l.length ≤ 1048576) (ha : mAreTents l = true) : ∀ (t d : List S71) (s : Int), l = d ++ t → 0 ≤ s → s ≤ 6 * d.length → Ev (fun k => spec_BedsFree.l0 k l s (d.length : Int)) (s + bedSum t)
  | [], d, s, h, h0, h1 => by
    have hlen : l.length = d.length := by rw [h]; simp
    refine Ev.step (f := fun _ => some (s + bedSum [])) (fun k => ?_) (Ev.now _)
    simp only [spec_BedsFree.l0, bedSum, Int.add_zero]
    rw [if_neg (by omega)]
  | x :: t, d, s, h, h0, h1 => by
    have h8 := (mAreTents_ok ha).2
    have hlen : l.length = d.length + (t.length + 1) := by rw [h]; simp
    have hx : l[d.length]? = some x := by rw [h]; simp
    have hr : rd_T71 l (d.length : Int) = x := getD_of z71 hx
    have ht := tent_in ha (x := x) (by rw [h]; simp)
    have ih := specBF_down l hl ha t (d ++ [x]) (s + x.f1 - (x.f2.length : Int)) (by rw [h]; simp) (by omega) (by simp; omega)
    rw [List.length_append, List.length_singleton, show ((d.length + 1 : Nat) : Int) = (d.length : Int) + 1 from by omega] at ih
    refine Ev.step (f := fun k => (spec_AreTents.f k l).bind fun t155 => if t155 = true then spec_BedsFree.l0 k l (s + x.f1 - (x.f2.length : Int)) ((d.length : Int) + 1) else some s) (fun k => ?_) ?_
    · simp only [spec_BedsFree.l0, hr, wrapi d.length (by omega), wrap_id (n := s + x.f1) (by omega) (by omega), wrap_id (n := s + x.f1 - (x.f2.length : Int)) (by omega) (by omega)]
      rw [if_pos (by omega)]
      simp only [show (0 : Int) ≤ (d.length : Int) from by omega, if_true]
    · refine Ev.bind (specAT_ev l hl) ?_
      simp only [ha, if_true]
      have e : s + bedSum (x :: t) = s + x.f1 - (x.f2.length : Int) + bedSum t := by show s + ((x.f1 - (x.f2.length : Int)) + bedSum t) = _; omega
      rw [e]
      exact ih
theorem specBF_ev (l : List S71) (hl : l.length ≤ 1048576) : Ev (fun k => spec_BedsFree.f k l) (mBeds l) := by
  unfold spec_BedsFree.f mBeds
  by_cases ha : mAreTents l = true
  · rw [if_pos ha]
    have := specBF_down l hl ha l [] 0 rfl (by omega) (by simp)
    rw [Int.zero_add] at this
    exact this
  · rw [if_neg ha]
    have ha' : mAreTents l = false := by simpa using ha
    by_cases c : (0 : Int) < (l.length : Int)
    · refine Ev.step (f := fun k => (spec_AreTents.f k l).bind fun t155 => if t155 = true then (if (0 : Int) ≤ 0 then (spec_BedsFree.l0 k l (wrap64 ((wrap64 (0 + ((rd_T71 l 0).f1))) - (((rd_T71 l 0).f2).length : Int))) (wrap64 (0 + 1))) else none) else some 0) (fun k => ?_) ?_
      · simp only [spec_BedsFree.l0]
        rw [if_pos c]
      · refine Ev.bind (specAT_ev l hl) ?_
        simp only [ha', Bool.false_eq_true, if_false]
        exact Ev.now _
    · refine Ev.step (f := fun _ => some 0) (fun k => ?_) (Ev.now _)
      simp only [spec_BedsFree.l0]
      rw [if_neg c]
theorem implBF_down (l : List S71) (hl : l.length ≤ 1048576) (ha : mAreTents l = true) : ∀ (t d : List S71) (s : Int), l = d ++ t → 0 ≤ s → s ≤ 6 * d.length → Ev (fun k => impl_BedsFree.l0 k s l (l.length : Int) (d.length : Int)) (s + bedSum t)
  | [], d, s, h, h0, h1 => by
    have hlen : l.length = d.length := by rw [h]; simp
    refine Ev.step (f := fun _ => some (s + bedSum [])) (fun k => ?_) (Ev.now _)
    simp only [impl_BedsFree.l0, bedSum, Int.add_zero]
    rw [if_neg (by omega)]
  | x :: t, d, s, h, h0, h1 => by
    have h8 := (mAreTents_ok ha).2
    have hlen : l.length = d.length + (t.length + 1) := by rw [h]; simp
    have hx : l[d.length]? = some x := by rw [h]; simp
    have hr : rd_T71 l (d.length : Int) = x := getD_of z71 hx
    have ht := tent_in ha (x := x) (by rw [h]; simp)
    have ih := implBF_down l hl ha t (d ++ [x]) (s + (x.f1 - (x.f2.length : Int))) (by rw [h]; simp) (by omega) (by simp; omega)
    rw [List.length_append, List.length_singleton, show ((d.length + 1 : Nat) : Int) = (d.length : Int) + 1 from by omega] at ih
    have e : s + bedSum (x :: t) = s + (x.f1 - (x.f2.length : Int)) + bedSum t := by show s + ((x.f1 - (x.f2.length : Int)) + bedSum t) = _; omega
    rw [e]
    refine Ev.step (fun k => ?_) ih
    simp only [impl_BedsFree.l0, hr, wrapi d.length (by omega), wrap_id (n := x.f1 - (x.f2.length : Int)) (by omega) (by omega), wrap_id (n := s + (x.f1 - (x.f2.length : Int))) (by omega) (by omega)]
    rw [if_pos (by omega), if_pos (by omega), if_pos (by omega)]
theorem implBF_ev (l : List S71) (hl : l.length ≤ 1048576) : Ev (fun k => impl_BedsFree.f k l) (mBeds l) := by
  unfold impl_BedsFree.f mBeds
  refine Ev.bind (implAT_ev l hl) ?_
  by_cases ha : mAreTents l = true
  · simp only [ha, if_true]
    have := implBF_down l hl ha l [] 0 rfl (by omega) (by simp)
    rw [Int.zero_add] at this
    exact this
  · simp only [ha, if_false]
    exact Ev.now _
end FnExactBedsFreePf
open FnExactBedsFreePf
theorem FnExactBedsFree : ∀ (l0 : List S88) , l0.length ≤ maxLen → (∀ y ∈ l0, (I64 y.f0 ∧ I64 y.f1 ∧ (y.f2.length ≤ maxLen ∧ ∀ x ∈ y.f2, I64 x))) →  ∃ k, laws_FnExactBedsFree.f k l0  = some true := by
  intro l0  hl hy 
  apply Ev.rounds (g := fun k => laws_FnExactBedsFree.f k l0 )
  unfold laws_FnExactBedsFree.f
  obtain ⟨r, hr, hb, _⟩ := szTentS_ok l0 1048576 hl (fun x hx => (hy x hx).2.2.1) (by omega) (by omega)
  refine Ev.bind hr ?_
  by_cases h : r < 0
  · simp only [if_pos h]; exact Ev.now _
  · simp only [if_neg h]
    obtain ⟨b1, b2, _⟩ := hb h
    have hlen : (l0.map cvTent).length = l0.length := List.length_map ..
    refine Ev.bind (toTentS_ev l0 b1 b2) ?_
    refine Ev.bind (specBF_ev _  (by omega)) ?_
    refine Ev.bind (toTentS_ev l0 b1 b2) ?_
    refine Ev.bind (implBF_ev _  (by omega)) ?_
    simp only [if_true]
    refine Ev.bind (toTentS_ev l0 b1 b2) ?_
    refine Ev.bind (eqTentS_ev _ (by omega) (cvTent_who l0 b2)) ?_
    exact Ev.now _
end Go.Proofs.Ytdjdkngpbgobfaa.Pure
