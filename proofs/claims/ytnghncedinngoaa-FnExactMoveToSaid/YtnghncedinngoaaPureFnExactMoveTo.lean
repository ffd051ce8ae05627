/- FnExactMoveTo: the pure statement of the law, over the printed functions. No condition beyond the statement's own. -/
import Derived.Test.YtnghncedinngoaaSFnExactMoveTox10
import Derived.Test.YtnghncedinngoaaLib
import Derived.Test.YtnghncedinngoaaOpens
namespace Go.Proofs.Ytnghncedinngoaa.Pure
open Go.RowKit Go.Proofs.Ytnghncedinngoaa.PFnExactMoveTo Go.Proofs.YtnghncedinngoaaW.PrintWords Go.Proofs.YtnghncedinngoaaW.PrintLast Go.Proofs.Ytnghncedinngoaa.Lib Go.Proofs.Ytnghncedinngoaa.Opens
set_option linter.unusedVariables false
set_option linter.unusedSimpArgs false
namespace FnExactMoveToPf
theorem szIntS_eq (l : List Int) (a : Int) (hl : l.length ≤ maxLen) (h0 : 0 ≤ a) (h1 : a ≤ 1048576) : laws_szIntS.f l a = some (if a - (l.length : Int) < 0 then -1 else a - (l.length : Int)) := by
  have h : wrap64 (a - (l.length : Int)) = a - (l.length : Int) := wrap_id (by unfold maxLen at hl; omega) (by omega)
  simp only [laws_szIntS.f, h]
  split <;> rfl
theorem toIntS_ev (l : List Int) (hl : l.length ≤ 1048576) : Ev (fun k => laws_toIntS.f k l) l := by
  have h := map_loop (fun k out i => laws_toIntS.l0 k l out i) l id 0 (by omega)
    (fun k out => by simp only [laws_toIntS.l0]; rw [if_neg (by omega)])
    (fun k out i x hx ho hw => by
      have hi := lt_of_get hx
      have hr : rd l (i : Int) = x := getD_of 0 hx
      simp only [laws_toIntS.l0, hr, hw]
      rw [if_pos (by omega), if_pos (by omega), if_pos (by omega), Int.toNat_natCast]; rfl)
  rw [List.map_id] at h
  refine Ev.congr (fun k => ?_) h
  simp only [laws_toIntS.f, Int.toNat_natCast]
  rw [if_pos (by omega), if_pos (by omega)]
theorem eqIntS_ev (l : List Int) (hl : l.length ≤ 4611686018427387904) : Ev (fun k => laws_eqIntS.f k l l) true := by
  have h := count_loop (fun k i => laws_eqIntS.l0 k l l i) l.length true hl
    (fun k => by simp only [laws_eqIntS.l0]; rw [if_neg (by omega)])
    (fun k i hi hw => by simp only [laws_eqIntS.l0, hw]; rw [if_pos (by omega), if_pos (by omega), if_pos (by omega)]; simp)
  refine Ev.congr (fun k => ?_) h
  simp only [laws_eqIntS.f, if_true]
theorem markIntS_ev (l : List Int) (hl : l.length ≤ 2097152) : Ev (fun k => laws_markIntS.f k l 1) (1 + ((1 * l.length : Nat) : Int), marks id 1 l.length) := by
  refine mark_loop (fun k xs m i => laws_markIntS.l0 k xs m i) id 1 l.length (by omega) (by omega) l rfl
    (fun k xs m hx => by simp only [laws_markIntS.l0]; rw [if_neg (by omega)])
    (fun k xs m i hx hi h0 h1 hw => by
      have w1 : wrap64 (m + 1) = m + 1 := wrap_id (by omega) (by omega)
      simp only [laws_markIntS.l0, hw, w1, Int.toNat_natCast]; rw [if_pos (by omega), if_pos (by omega)]; rfl)
theorem heldIntS_ev (n : Nat) (hn : n ≤ 2097152) : Ev (fun k => laws_heldIntS.f k (marks id 1 n) 1) (1 + ((1 * n : Nat) : Int)) := by
  have hlen : (marks id 1 n).length = n := marks_len ..
  refine held_loop (fun k m i => laws_heldIntS.l0 k (marks id 1 n) m i) id 1 n (by omega) (by omega)
    (fun k m => by simp only [laws_heldIntS.l0]; rw [if_neg (by omega)])
    (fun k m i hx hi h0 h1 hw => by
      have hr : rd (marks id 1 n) (i : Int) = m := getD_of 0 hx
      have w1 : wrap64 (m + 1) = m + 1 := wrap_id (by omega) (by omega)
      simp only [laws_heldIntS.l0, hr, hw, w1]; rw [if_pos (by omega), if_pos (by omega)]; simp)
theorem l1In_eq (a b c : Int) : spec_l1In.f a b c = some (decide (b ≤ a ∧ a ≤ c)) := by
  unfold spec_l1In.f
  by_cases h : a ≥ b
  · rw [if_pos h]; simp [h]
  · rw [if_neg h]; simp [show ¬ (b ≤ a) from by omega]
theorem InRange_eq (a b c : Int) : impl_InRange.f a b c = some (decide (b ≤ a ∧ a ≤ c)) := by
  unfold impl_InRange.f
  by_cases h : b ≤ a
  · rw [if_pos h]; simp [h]
  · rw [if_neg h]; simp [h]
theorem specHas_at (l : List Int) (n : Int) (hl : l.length ≤ 4611686018427387904) : ∀ k, l.length < k → spec_l14Has.f k l n = some (decide (n ∈ l)) := by
  rw [← run_has n l 0]
  exact at_loop0 (fun k _ i => spec_l14Has.l0 k l n i) l (stepHas n) (fun _ => false) hl ()
    (fun k s => by simp only [spec_l14Has.l0]; rw [if_neg (by omega)])
    (fun k s i x hx hw => by
      have hi := lt_of_get hx
      have hr : rd l (i : Int) = x := getD_of 0 hx
      simp only [spec_l14Has.l0, hr, hw]; rw [if_pos (by omega), if_pos (by omega)]
      simp only [stepHas]; split <;> rfl)
theorem implPlace_at (l : List Int) (n : Int) (hl : l.length ≤ 4611686018427387904) : ∀ k, l.length < k → impl_placeOf.f k l n = some (place n l) :=
  at_loop0 (fun k _ i => impl_placeOf.l0 k n l (l.length : Int) i) l (stepPlace n) (fun _ => -1) hl ()
    (fun k s => by simp only [impl_placeOf.l0]; rw [if_neg (by omega)])
    (fun k s i x hx hw => by
      have hi := lt_of_get hx
      have hr : rd l (i : Int) = x := getD_of 0 hx
      simp only [impl_placeOf.l0, hr, hw]; rw [if_pos (by omega), if_pos (by omega), if_pos (by omega)]
      simp only [stepPlace]; split <;> rfl)
theorem implHas_at (l : List Int) (n : Int) (hl : l.length ≤ 4611686018427387904) : ∀ k, l.length < k → impl_has.f k l n = some (decide (n ∈ l)) := fun k hk => by
  simp only [impl_has.f, implPlace_at l n hl k hk, Option.bind_some, place_has]
def cvTent (x : S53) : S45 := ⟨x.f0, x.f1, x.f2⟩
def stepSz : Nat → Int → S53 → Int ⊕ Int := fun _ s x => if s - (x.f2.length : Int) < 0 then .inl (-1) else .inr (s - (x.f2.length : Int))
theorem runSz : ∀ (l : List S53) (i : Nat) (s : Int), s ≤ 1048576 → ¬ run stepSz id i s l < 0 → ∀ x ∈ l, x.f2.length ≤ 1048576
  | [], _, _, _, _, x, hx => by cases hx
  | y :: t, i, s, hs, hr, x, hx => by
    by_cases h : s - (y.f2.length : Int) < 0
    · rw [run_inl (show stepSz i s y = .inl (-1) from if_pos h)] at hr
      exact absurd (by decide) hr
    · rw [run_inr (show stepSz i s y = .inr (s - (y.f2.length : Int)) from if_neg h)] at hr
      rcases List.mem_cons.1 hx with hx | hx
      · subst hx; omega
      · exact runSz t (i + 1) _ (by omega) hr x hx
theorem szTentS_ok (l : List S53) (a : Int) (hl : l.length ≤ maxLen) (hw : ∀ x ∈ l, x.f2.length ≤ maxLen) (h0 : 0 ≤ a) (h1 : a ≤ 1048576) :
    ∃ r, Ev (fun k => laws_szTentS.f k l a) r ∧ (¬ r < 0 → l.length ≤ 1048576 ∧ (∀ x ∈ l, x.f2.length ≤ 1048576) ∧ r ≤ a) ∧ r ≤ a := by
  have hwr : wrap64 (a - (l.length : Int)) = a - (l.length : Int) := wrap_id (by unfold maxLen at hl; omega) (by omega)
  by_cases h : a - (l.length : Int) < 0
  · refine ⟨-1, ?_, fun h => absurd (by decide) h, by omega⟩
    refine Ev.congr (fun k => ?_) (Ev.now (-1))
    simp only [laws_szTentS.f, hwr]
    rw [if_pos h]
  · have hloop := at_loopI (fun k s i => laws_szTentS.l0 k l s i) l stepSz id (fun _ s => 0 ≤ s ∧ s ≤ a) (by omega) (a - (l.length : Int)) ⟨by omega, by omega⟩ 0
      (fun k s _ _ => by simp only [laws_szTentS.l0]; rw [if_neg (by omega)]; rfl)
      (fun s i x s' hI _ he => by
        simp only [stepSz] at he
        split at he
        · cases he
        · injection he with he
          subst he
          omega)
      (fun k s i x _ hI hx hw' => by
        have hi := lt_of_get hx
        have hr : rd_T53 l (i : Int) = x := getD_of z53 hx
        have hxl := hw x (List.mem_of_getElem? hx)
        have hws : wrap64 (s - (x.f2.length : Int)) = s - (x.f2.length : Int) := wrap_id (by unfold maxLen at hxl; omega) (by omega)
        simp only [laws_szTentS.l0, laws_szTent.f, laws_szIntS.f, hr, hw', hws]; rw [if_pos (by omega), if_pos (by omega)]
        simp only [stepSz]
        by_cases c : s - (x.f2.length : Int) < 0
        · rw [if_pos c, if_pos c]
          rfl
        · rw [if_neg c, if_neg c]
          simp only [Option.bind_some]
          rw [if_neg c]
          simp only [Option.bind_some]
          rw [if_neg c]
          rfl)
    have hle : run stepSz id 0 (a - (l.length : Int)) l ≤ a := by
      have key : ∀ (t : List S53) (i : Nat) (s : Int), -1 ≤ s → s ≤ a → run stepSz id i s t ≤ a := by
        intro t
        induction t with
        | nil => intro i s _ hs; exact hs
        | cons x t ih =>
          intro i s hs1 hs
          by_cases c : s - (x.f2.length : Int) < 0
          · rw [run_inl (show stepSz i s x = .inl (-1) from if_pos c)]; omega
          · rw [run_inr (show stepSz i s x = .inr (s - (x.f2.length : Int)) from if_neg c)]; exact ih _ _ (by omega) (by omega)
      exact key l 0 _ (by omega) (by omega)
    refine ⟨run stepSz id 0 (a - (l.length : Int)) l, ?_, fun hr => ⟨by omega, runSz l 0 _ (by omega) hr, hle⟩, hle⟩
    refine Ev.congr (fun k => ?_) (ev_at hloop)
    simp only [laws_szTentS.f, hwr]
    rw [if_neg h]
theorem toInt_at (l : List Int) (hl : l.length ≤ 1048576) : ∀ k, 1048576 < k → laws_toIntS.f k l = some l := by
  intro k hk
  have hev : ∃ K, K ≤ l.length + 1 ∧ ∀ k, K ≤ k → laws_toIntS.f k l = some l := by
    have key : ∀ (t d : List Int) (k : Nat), l = d ++ t → t.length < k → laws_toIntS.l0 k l (d ++ List.replicate t.length 0) (d.length : Int) = some l := by
      intro t
      induction t with
      | nil =>
        intro d k hd hk
        obtain ⟨k, rfl⟩ : ∃ m, k = m + 1 := ⟨k - 1, by simp at hk; omega⟩
        rw [List.append_nil] at hd
        subst hd
        simp only [laws_toIntS.l0]
        rw [if_neg (by omega)]
        simp
      | cons x t ih =>
        intro d k hd hk
        obtain ⟨k, rfl⟩ : ∃ m, k = m + 1 := ⟨k - 1, by simp at hk; omega⟩
        have hx : l[d.length]? = some x := by rw [hd]; simp
        have hlen : l.length = d.length + (t.length + 1) := by rw [hd]; simp
        have hr : rd l (d.length : Int) = x := getD_of 0 hx
        have := ih (d ++ [x]) k (by rw [hd]; simp) (by simp at hk; omega)
        simp only [laws_toIntS.l0, hr, wrapi d.length (by omega)]
        rw [if_pos (by omega), if_pos (by omega), if_pos (by simp only [List.length_append, List.length_replicate, List.length_cons]; omega), Int.toNat_natCast, List.length_cons, List.replicate_succ, set_append _ _ _ _ _ rfl]
        simpa using this
    refine ⟨l.length + 1, Nat.le_refl _, fun k hk => ?_⟩
    have := key l [] k rfl (by omega)
    simp only [laws_toIntS.f, Int.toNat_natCast]
    rw [if_pos (by omega), if_pos (by omega)]
    exact this
  obtain ⟨K', hK', h'⟩ := hev
  exact h' k (by omega)
theorem toTentS_ev (l : List S53) (hl : l.length ≤ 1048576) (hw : ∀ x ∈ l, x.f2.length ≤ 1048576) : Ev (fun k => laws_toTentS.f k l) (l.map cvTent) := by
  have h := map_loopK (fun k out i => laws_toTentS.l0 k l out i) l cvTent z45 1048577 (by omega)
    (fun k out => by simp only [laws_toTentS.l0]; rw [if_neg (by omega)])
    (fun k out i x hk hx ho hw' => by
      have hi := lt_of_get hx
      have hr : rd_T53 l (i : Int) = x := getD_of z53 hx
      simp only [laws_toTentS.l0, laws_toTent.f, toInt_at x.f2 (hw x (List.mem_of_getElem? hx)) k (by omega), Option.bind_some, hr, hw']
      rw [if_pos (by omega), if_pos (by omega), if_pos (by omega), Int.toNat_natCast]; rfl)
  refine Ev.congr (fun k => ?_) h
  simp only [laws_toTentS.f, Int.toNat_natCast]
  rw [if_pos (by omega), if_pos (by omega)]
theorem eqInt_at (l : List Int) (hl : l.length ≤ 1048576) : ∀ k, 1048576 < k → laws_eqIntS.f k l l = some true := by
  have key : ∀ (d i k : Nat), i + d = l.length → d < k → laws_eqIntS.l0 k l l (i : Int) = some true := by
    intro d
    induction d with
    | zero =>
      intro i k hi hk
      obtain ⟨k, rfl⟩ : ∃ m, k = m + 1 := ⟨k - 1, by omega⟩
      simp only [laws_eqIntS.l0]
      rw [if_neg (by omega)]
    | succ d ih =>
      intro i k hi hk
      obtain ⟨k, rfl⟩ : ∃ m, k = m + 1 := ⟨k - 1, by omega⟩
      have := ih (i + 1) k (by omega) (by omega)
      simp only [laws_eqIntS.l0, wrapi i (by omega)]
      rw [if_pos (by omega), if_pos (by omega), if_pos (by omega)]
      simpa using this
  intro k hk
  simp only [laws_eqIntS.f, if_true]
  exact key l.length 0 k (by omega) (by omega)
theorem eqTentS_ev (l : List S45) (hl : l.length ≤ 4611686018427387904) (hw : ∀ x ∈ l, x.f2.length ≤ 1048576) : Ev (fun k => laws_eqTentS.f k l l) true := by
  have h := count_loopK (fun k i => laws_eqTentS.l0 k l l i) l.length true 1048577 hl
    (fun k => by simp only [laws_eqTentS.l0]; rw [if_neg (by omega)])
    (fun k i hk hi hw' => by
      have hx : l[i]? = some l[i] := List.getElem?_eq_getElem hi
      have hr : rd_T45 l (i : Int) = l[i] := getD_of z45 hx
      simp only [laws_eqTentS.l0, laws_eqTent.f, hr, hw', eqInt_at l[i].f2 (hw _ (List.getElem_mem hi)) k (by omega), Option.bind_some, if_true]
      rw [if_pos (by omega), if_pos (by omega), if_pos (by omega)])
  refine Ev.congr (fun k => ?_) h
  simp only [laws_eqTentS.f, if_true]
theorem cvTent_who (l : List S53) (hw : ∀ x ∈ l, x.f2.length ≤ 1048576) : ∀ x ∈ l.map cvTent, x.f2.length ≤ 1048576 := by
  intro x hx
  obtain ⟨y, hy, rfl⟩ := List.mem_map.1 hx
  exact hw y hy
def addAll (s : List Int) : List Int → Option (List Int)
  | [] => some s
  | y :: t => if y ∈ s then none else addAll (s ++ [y]) t
theorem addAll_cons (s : List Int) (y : Int) (t : List Int) : addAll s (y :: t) = if y ∈ s then none else addAll (s ++ [y]) t := rfl
theorem addAll_len : ∀ (t s s' : List Int), addAll s t = some s' → s'.length = s.length + t.length
  | [], s, s', h => by
    injection h with h
    subst h
    rfl
  | y :: t, s, s', h => by
    rw [addAll_cons] at h
    split at h
    · cases h
    · have := addAll_len t _ s' h
      rw [this, List.length_append, List.length_singleton, List.length_cons]
      omega
def okTent (l : List S45) (i : Nat) (x : S45) : Prop := (1 ≤ x.f0 ∧ x.f0 ≤ 99) ∧ (1 ≤ x.f1 ∧ x.f1 ≤ 6) ∧ ((x.f2.length : Int) ≤ x.f1) ∧ (i = 0 ∨ (l.getD (i - 1) z45).f0 < x.f0)
instance (l : List S45) (i : Nat) (x : S45) : Decidable (okTent l i x) := by unfold okTent; infer_instance
def nextAT (s : List Int) (x : S45) : Bool ⊕ List Int := match addAll s x.f2 with
  | none => .inl false
  | some s' => .inr s'
def stepAT (l : List S45) : Nat → List Int → S45 → Bool ⊕ List Int := fun i s x => if okTent l i x then nextAT s x else .inl false
def mAreTents (l : List S45) : Bool := run (stepAT l) (fun _ => decide ((l.length : Int) ≤ 8)) 0 [] l
theorem specAT_in (l : List S45) (hl : l.length ≤ 1048576) (i : Nat) (x : S45) (hx : l[i]? = some x) (hx6 : x.f2.length ≤ 6) (R : List Int → Bool) : ∀ (t d s : List Int), x.f2 = d ++ t → s.length + t.length ≤ 8000000 →
    (∀ s', addAll s t = some s' → Ev (fun k => spec_AreTents.l0 k l s' ((i : Int) + 1)) (R s')) → Ev (fun k => spec_AreTents.l1 k l s (i : Int) (d.length : Int)) (match addAll s t with | none => false | some s' => R s')
  | [], d, s, h, hs, hR => by
    have hi := lt_of_get hx
    have hr : rd_T45 l (i : Int) = x := getD_of z45 hx
    have hlen : x.f2.length = d.length := by rw [h]; simp
    refine Ev.step (fun k => ?_) (hR s rfl)
    simp only [spec_AreTents.l1, hr, wrapi i (by omega)]
    rw [if_pos (by omega), if_pos (by omega), if_neg (by omega)]
  | y :: t, d, s, h, hs, hR => by
    have hi := lt_of_get hx
    have hr : rd_T45 l (i : Int) = x := getD_of z45 hx
    have hlen : x.f2.length = d.length + (t.length + 1) := by rw [h]; simp
    have hy : x.f2[d.length]? = some y := by rw [h]; simp
    have hry : rd x.f2 (d.length : Int) = y := getD_of 0 hy
    rw [List.length_cons] at hs
    refine Ev.step (f := fun k => (spec_l14Has.f k s y).bind fun t149 => if t149 = true then some false else if s.length < 17592186044416 then spec_AreTents.l1 k l (s ++ [y]) (i : Int) ((d.length : Int) + 1) else none) (fun k => ?_) ?_
    · simp only [spec_AreTents.l1, hr, hry, wrapi d.length (by omega)]
      rw [if_pos (by omega), if_pos (by omega), if_pos (by omega), if_pos (by omega)]
    · refine Ev.bind (ev_at (specHas_at s y (by omega))) ?_
      rw [addAll_cons]
      by_cases c : y ∈ s
      · simp only [decide_eq_true c, if_true, if_pos c]
        exact Ev.now _
      · simp only [decide_eq_false c, Bool.false_eq_true, if_false, if_neg c, show s.length < 17592186044416 from by omega, if_true]
        have ih := specAT_in l hl i x hx hx6 R t (d ++ [y]) (s ++ [y]) (by rw [h]; simp) (by simp; omega) (fun s' hs' => hR s' (by rw [addAll_cons, if_neg c]; exact hs'))
        rw [List.length_append, List.length_singleton, show ((d.length + 1 : Nat) : Int) = (d.length : Int) + 1 from by omega] at ih
        exact ih
theorem specAT_down (l : List S45) (hl : l.length ≤ 1048576) : ∀ (t d : List S45) (s : List Int), l = d ++ t → s.length ≤ 6 * d.length → Ev (fun k => spec_AreTents.l0 k l s (d.length : Int)) (run (stepAT l) (fun _ => decide ((l.length : Int) ≤ 8)) d.length s t)
  | [], d, s, h, hs => by
    have hlen : l.length = d.length := by rw [h]; simp
    refine Ev.step (f := fun _ => some (decide ((l.length : Int) ≤ 8))) (fun k => ?_) (Ev.now _)
    simp only [spec_AreTents.l0]
    rw [if_neg (by omega)]
  | x :: t, d, s, h, hs => by
    have hlen : l.length = d.length + (t.length + 1) := by rw [h]; simp
    have hx : l[d.length]? = some x := by rw [h]; simp
    have hr : rd_T45 l (d.length : Int) = x := getD_of z45 hx
    have hbad : Ev (fun k => spec_AreTents.j1 k l s (d.length : Int) true) false := Ev.step (f := fun _ => some false) (fun k => by simp [spec_AreTents.j1]) (Ev.now _)
    have stop : (¬ okTent l d.length x) → run (stepAT l) (fun _ => decide ((l.length : Int) ≤ 8)) d.length s (x :: t) = false := fun hn => run_inl (if_neg hn)
    by_cases c : okTent l d.length x
    · obtain ⟨c1, c2, c3, c4⟩ := c
      have hgo : Ev (fun k => spec_AreTents.j1 k l s (d.length : Int) false) (run (stepAT l) (fun _ => decide ((l.length : Int) ≤ 8)) d.length s (x :: t)) := by
        refine Ev.step (f := fun k => spec_AreTents.l1 k l s (d.length : Int) 0) (fun k => by simp [spec_AreTents.j1]) ?_
        have hin := specAT_in l hl d.length x hx (by omega) (fun s' => run (stepAT l) (fun _ => decide ((l.length : Int) ≤ 8)) (d.length + 1) s' t) x.f2 [] s rfl (by omega) (fun s' hs' => by
          have hl' := addAll_len _ _ _ hs'
          have ih := specAT_down l hl t (d ++ [x]) s' (by rw [h]; simp) (by simp; omega)
          rw [List.length_append, List.length_singleton, show ((d.length + 1 : Nat) : Int) = (d.length : Int) + 1 from by omega] at ih
          exact ih)
        have e : run (stepAT l) (fun _ => decide ((l.length : Int) ≤ 8)) d.length s (x :: t) = match addAll s x.f2 with | none => false | some s' => run (stepAT l) (fun _ => decide ((l.length : Int) ≤ 8)) (d.length + 1) s' t := by
          rw [run_cons, show stepAT l d.length s x = nextAT s x from if_pos ⟨c1, c2, c3, c4⟩]
          unfold nextAT
          cases addAll s x.f2 <;> rfl
        rw [e]
        exact hin
      rcases Nat.eq_zero_or_pos d.length with h0 | h0
      · refine Ev.step (fun k => ?_) hgo
        simp only [spec_AreTents.l0, hr, l1In_eq, Option.bind_some, decide_eq_true c1, decide_eq_true c2, if_true]
        rw [if_pos (by omega), if_pos (by omega), if_neg (by omega), if_neg (by omega)]
      · have hr' : rd_T45 l ((d.length - 1 : Nat) : Int) = l.getD (d.length - 1) z45 := getD_nat ..
        have c4' : ¬ (l.getD (d.length - 1) z45).f0 ≥ x.f0 := by
          rcases c4 with c4 | c4
          · omega
          · omega
        refine Ev.step (fun k => ?_) hgo
        simp only [spec_AreTents.l0, hr, l1In_eq, Option.bind_some, decide_eq_true c1, decide_eq_true c2, if_true, wrapd d.length h0 (by omega), hr', decide_eq_false c4']
        rw [if_pos (by omega), if_pos (by omega), if_neg (by omega), if_pos (by omega), if_pos (by omega), if_pos (by omega)]
    · rw [stop c]
      refine Ev.step (fun k => ?_) hbad
      simp only [spec_AreTents.l0, hr, l1In_eq, Option.bind_some]
      rw [if_pos (by omega), if_pos (by omega)]
      by_cases c1 : 1 ≤ x.f0 ∧ x.f0 ≤ 99
      · simp only [decide_eq_true c1, if_true]
        by_cases c2 : 1 ≤ x.f1 ∧ x.f1 ≤ 6
        · simp only [decide_eq_true c2, if_true]
          by_cases c3 : (x.f2.length : Int) ≤ x.f1
          · rw [if_neg (by omega)]
            rcases Nat.eq_zero_or_pos d.length with h0 | h0
            · exact absurd ⟨c1, c2, c3, .inl h0⟩ c
            · have hr' : rd_T45 l ((d.length - 1 : Nat) : Int) = l.getD (d.length - 1) z45 := getD_nat ..
              have c4' : (l.getD (d.length - 1) z45).f0 ≥ x.f0 := by
                refine Decidable.byContradiction fun h' => c ⟨c1, c2, c3, .inr (by omega)⟩
              simp only [wrapd d.length h0 (by omega), hr', decide_eq_true c4']
              rw [if_pos (by omega), if_pos (by omega), if_pos (by omega)]
          · rw [if_pos (by omega)]
        · simp only [decide_eq_false c2, Bool.false_eq_true, if_false]
      · simp only [decide_eq_false c1, Bool.false_eq_true, if_false]
theorem specAT_ev (l : List S45) (hl : l.length ≤ 1048576) : Ev (fun k => spec_AreTents.f k l) (mAreTents l) := specAT_down l hl l [] [] rfl (by simp)
theorem implAT_in (l : List S45) (hl : l.length ≤ 1048576) (i : Nat) (xs : List Int) (hx6 : xs.length ≤ 6) (R : List Int → Bool) : ∀ (t d s : List Int), xs = d ++ t → s.length + t.length ≤ 8000000 → i ≤ 1048576 →
    (∀ s', addAll s t = some s' → Ev (fun k => impl_AreTents.l0 k l s' l (l.length : Int) ((i : Int) + 1)) (R s')) → Ev (fun k => impl_AreTents.l1 k l s l (l.length : Int) (i : Int) xs (xs.length : Int) (d.length : Int)) (match addAll s t with | none => false | some s' => R s')
  | [], d, s, h, hs, hi, hR => by
    have hlen : xs.length = d.length := by rw [h]; simp
    refine Ev.step (fun k => ?_) (hR s rfl)
    simp only [impl_AreTents.l1, wrapi i (by omega)]
    rw [if_neg (by omega)]
  | y :: t, d, s, h, hs, hi, hR => by
    have hlen : xs.length = d.length + (t.length + 1) := by rw [h]; simp
    have hy : xs[d.length]? = some y := by rw [h]; simp
    have hry : rd xs (d.length : Int) = y := getD_of 0 hy
    rw [List.length_cons] at hs
    refine Ev.step (f := fun k => (impl_has.f k s y).bind fun t170 => if t170 = true then some false else if s.length < 17592186044416 then impl_AreTents.l1 k l (s ++ [y]) l (l.length : Int) (i : Int) xs (xs.length : Int) ((d.length : Int) + 1) else none) (fun k => ?_) ?_
    · simp only [impl_AreTents.l1, hry, wrapi d.length (by omega)]
      rw [if_pos (by omega), if_pos (by omega), if_pos (by omega)]
    · refine Ev.bind (ev_at (implHas_at s y (by omega))) ?_
      rw [addAll_cons]
      by_cases c : y ∈ s
      · simp only [decide_eq_true c, if_true, if_pos c]
        exact Ev.now _
      · simp only [decide_eq_false c, Bool.false_eq_true, if_false, if_neg c, show s.length < 17592186044416 from by omega, if_true]
        have ih := implAT_in l hl i xs hx6 R t (d ++ [y]) (s ++ [y]) (by rw [h]; simp) (by simp; omega) hi (fun s' hs' => hR s' (by rw [addAll_cons, if_neg c]; exact hs'))
        rw [List.length_append, List.length_singleton, show ((d.length + 1 : Nat) : Int) = (d.length : Int) + 1 from by omega] at ih
        exact ih
theorem implAT_down (l : List S45) (hl : l.length ≤ 1048576) : ∀ (t d : List S45) (s : List Int), l = d ++ t → s.length ≤ 6 * d.length → Ev (fun k => impl_AreTents.l0 k l s l (l.length : Int) (d.length : Int)) (run (stepAT l) (fun _ => decide ((l.length : Int) ≤ 8)) d.length s t)
  | [], d, s, h, hs => by
    have hlen : l.length = d.length := by rw [h]; simp
    refine Ev.step (f := fun _ => some (decide ((l.length : Int) ≤ 8))) (fun k => ?_) (Ev.now _)
    simp only [impl_AreTents.l0]
    rw [if_neg (by omega)]
  | x :: t, d, s, h, hs => by
    have hlen : l.length = d.length + (t.length + 1) := by rw [h]; simp
    have hx : l[d.length]? = some x := by rw [h]; simp
    have hr : rd_T45 l (d.length : Int) = x := getD_of z45 hx
    have hbad : Ev (fun k => impl_AreTents.j1 k l s l (l.length : Int) (d.length : Int) true x.f0 x.f1 x.f2) false := Ev.step (f := fun _ => some false) (fun k => by simp [impl_AreTents.j1]) (Ev.now _)
    have stop : (¬ okTent l d.length x) → run (stepAT l) (fun _ => decide ((l.length : Int) ≤ 8)) d.length s (x :: t) = false := fun hn => run_inl (if_neg hn)
    by_cases c : okTent l d.length x
    · obtain ⟨c1, c2, c3, c4⟩ := c
      have c3' : ¬ (x.f2.length : Int) > x.f1 := by omega
      have hgo : Ev (fun k => impl_AreTents.j1 k l s l (l.length : Int) (d.length : Int) false x.f0 x.f1 x.f2) (run (stepAT l) (fun _ => decide ((l.length : Int) ≤ 8)) d.length s (x :: t)) := by
        refine Ev.step (f := fun k => impl_AreTents.l1 k l s l (l.length : Int) (d.length : Int) x.f2 (x.f2.length : Int) 0) (fun k => by simp [impl_AreTents.j1]) ?_
        have hin := implAT_in l hl d.length x.f2 (by omega) (fun s' => run (stepAT l) (fun _ => decide ((l.length : Int) ≤ 8)) (d.length + 1) s' t) x.f2 [] s rfl (by omega) (by omega) (fun s' hs' => by
          have hl' := addAll_len _ _ _ hs'
          have ih := implAT_down l hl t (d ++ [x]) s' (by rw [h]; simp) (by simp; omega)
          rw [List.length_append, List.length_singleton, show ((d.length + 1 : Nat) : Int) = (d.length : Int) + 1 from by omega] at ih
          exact ih)
        have e : run (stepAT l) (fun _ => decide ((l.length : Int) ≤ 8)) d.length s (x :: t) = match addAll s x.f2 with | none => false | some s' => run (stepAT l) (fun _ => decide ((l.length : Int) ≤ 8)) (d.length + 1) s' t := by
          rw [run_cons, show stepAT l d.length s x = nextAT s x from if_pos ⟨c1, c2, c3, c4⟩]
          unfold nextAT
          cases addAll s x.f2 <;> rfl
        rw [e]
        exact hin
      rcases Nat.eq_zero_or_pos d.length with h0 | h0
      · refine Ev.step (fun k => ?_) hgo
        simp only [impl_AreTents.l0, hr, InRange_eq, Option.bind_some, decide_eq_true c1, decide_eq_true c2, if_true, decide_eq_false c3']
        rw [if_pos (by omega), if_pos (by omega), if_pos (by omega), if_neg (by omega)]
      · have hr' : rd_T45 l ((d.length - 1 : Nat) : Int) = l.getD (d.length - 1) z45 := getD_nat ..
        have c4' : ¬ x.f0 ≤ (l.getD (d.length - 1) z45).f0 := by
          rcases c4 with c4 | c4
          · omega
          · omega
        refine Ev.step (fun k => ?_) hgo
        simp only [impl_AreTents.l0, hr, InRange_eq, Option.bind_some, decide_eq_true c1, decide_eq_true c2, if_true, wrapd d.length h0 (by omega), hr', decide_eq_false c3']
        rw [if_pos (by omega), if_pos (by omega), if_pos (by omega), if_pos (by omega), if_pos (by omega), if_pos (by omega), if_neg c4']
    · rw [stop c]
      refine Ev.step (fun k => ?_) hbad
      simp only [impl_AreTents.l0, hr, InRange_eq, Option.bind_some]
      rw [if_pos (by omega), if_pos (by omega), if_pos (by omega)]
      by_cases c1 : 1 ≤ x.f0 ∧ x.f0 ≤ 99
      · simp only [decide_eq_true c1, if_true]
        rcases Nat.eq_zero_or_pos d.length with h0 | h0
        · rw [if_neg (by omega)]
          by_cases c2 : 1 ≤ x.f1 ∧ x.f1 ≤ 6
          · simp only [decide_eq_true c2, if_true]
            rw [decide_eq_true]
            exact Decidable.byContradiction fun h' => c ⟨c1, c2, by omega, .inl h0⟩
          · simp only [decide_eq_false c2, Bool.false_eq_true, if_false]
        · have hr' : rd_T45 l ((d.length - 1 : Nat) : Int) = l.getD (d.length - 1) z45 := getD_nat ..
          simp only [wrapd d.length h0 (by omega), hr']
          rw [if_pos (by omega), if_pos (by omega), if_pos (by omega)]
          by_cases c4 : x.f0 ≤ (l.getD (d.length - 1) z45).f0
          · rw [if_pos c4]
          · rw [if_neg c4]
            by_cases c2 : 1 ≤ x.f1 ∧ x.f1 ≤ 6
            · simp only [decide_eq_true c2, if_true]
              rw [decide_eq_true]
              exact Decidable.byContradiction fun h' => c ⟨c1, c2, by omega, .inr (by omega)⟩
            · simp only [decide_eq_false c2, Bool.false_eq_true, if_false]
      · simp only [decide_eq_false c1, Bool.false_eq_true, if_false]
theorem implAT_ev (l : List S45) (hl : l.length ≤ 1048576) : Ev (fun k => impl_AreTents.f k l) (mAreTents l) := implAT_down l hl l [] [] rfl (by simp)
theorem runAT_ok (l : List S45) (b : Bool) : ∀ (t d : List S45) (s : List Int), l = d ++ t → run (stepAT l) (fun _ => b) d.length s t = true → (∀ i x, d.length ≤ i → l[i]? = some x → okTent l i x) ∧ b = true
  | [], d, s, h, hr => by
    refine ⟨fun i x hi hx => ?_, hr⟩
    have := lt_of_get hx
    rw [h] at this
    simp at this
    omega
  | x :: t, d, s, h, hr => by
    have hx : l[d.length]? = some x := by rw [h]; simp
    by_cases c : okTent l d.length x
    · rw [run_cons, show stepAT l d.length s x = nextAT s x from if_pos c] at hr
      unfold nextAT at hr
      cases ha : addAll s x.f2 with
      | none => rw [ha] at hr; cases hr
      | some s' =>
        rw [ha] at hr
        have ih := runAT_ok l b t (d ++ [x]) s' (by rw [h]; simp) (by rw [List.length_append, List.length_singleton]; exact hr)
        rw [List.length_append, List.length_singleton] at ih
        refine ⟨fun i y hi hy => ?_, ih.2⟩
        rcases Nat.lt_or_ge d.length i with h1 | h1
        · exact ih.1 i y (by omega) hy
        · obtain rfl : i = d.length := by omega
          rw [hx] at hy
          injection hy with hy
          exact hy ▸ c
    · rw [run_inl (show stepAT l d.length s x = .inl false from if_neg c)] at hr
      cases hr
theorem mAreTents_ok {l : List S45} (h : mAreTents l = true) : (∀ i x, l[i]? = some x → okTent l i x) ∧ l.length ≤ 8 := by
  have := runAT_ok l _ l [] [] rfl h
  rw [List.length_nil] at this
  refine ⟨fun i x hx => this.1 i x (Nat.zero_le _) hx, ?_⟩
  have h2 := of_decide_eq_true this.2
  omega
def bedSum : List S45 → Int
  | [] => 0
  | x :: t => (x.f1 - (x.f2.length : Int)) + bedSum t
def mBeds (l : List S45) : Int := if mAreTents l = true then bedSum l else 0
theorem tent_in {l : List S45} (h : mAreTents l = true) {x : S45} (hx : x ∈ l) : (1 ≤ x.f1 ∧ x.f1 ≤ 6) ∧ (x.f2.length : Int) ≤ x.f1 := by
  obtain ⟨i, hi, he⟩ := List.getElem_of_mem hx
  have := (mAreTents_ok h).1 i x (by rw [List.getElem?_eq_getElem hi, he])
  exact ⟨this.2.1, this.2.2.1⟩
def stepTO (who : Int) : Nat → Unit → S45 → Int ⊕ Unit := fun _ _ x => if who ∈ x.f2 then .inl x.f0 else .inr ()
def mTentOf (l : List S45) (who : Int) : Int := run (stepTO who) (fun _ => 0) 0 () l
theorem specTO_at (l : List S45) (who : Int) (hl : l.length ≤ 1048576) (hw : ∀ x ∈ l, x.f2.length ≤ 1048576) : ∀ k, l.length + 1048577 < k → spec_TentOf.f k l who = some (mTentOf l who) :=
  at_loop (fun k _ i => spec_TentOf.l0 k l who i) l (stepTO who) (fun _ => 0) (by omega) () 1048577
    (fun k s _ => by simp only [spec_TentOf.l0]; rw [if_neg (by omega)])
    (fun k s i x hk hx hw' => by
      have hi := lt_of_get hx
      have hr : rd_T45 l (i : Int) = x := getD_of z45 hx
      have hxw := hw x (List.mem_of_getElem? hx)
      simp only [spec_TentOf.l0, hr, hw', specHas_at x.f2 who (by omega) k (by omega), Option.bind_some, decide_eq_true_eq]; rw [if_pos (by omega), if_pos (by omega)]
      simp only [stepTO]; split <;> rfl)
theorem implTO_at (l : List S45) (who : Int) (hl : l.length ≤ 1048576) (hw : ∀ x ∈ l, x.f2.length ≤ 1048576) : ∀ k, l.length + 1048577 < k → impl_TentOf.f k l who = some (mTentOf l who) :=
  at_loop (fun k _ i => impl_TentOf.l0 k who l (l.length : Int) i) l (stepTO who) (fun _ => 0) (by omega) () 1048577
    (fun k s _ => by simp only [impl_TentOf.l0]; rw [if_neg (by omega)])
    (fun k s i x hk hx hw' => by
      have hi := lt_of_get hx
      have hr : rd_T45 l (i : Int) = x := getD_of z45 hx
      have hxw := hw x (List.mem_of_getElem? hx)
      simp only [impl_TentOf.l0, hr, hw', implHas_at x.f2 who (by omega) k (by omega), Option.bind_some, decide_eq_true_eq]; rw [if_pos (by omega), if_pos (by omega), if_pos (by omega)]
      simp only [stepTO]; split <;> rfl)
theorem specTO_ev (l : List S45) (who : Int) (hl : l.length ≤ 1048576) (hw : ∀ x ∈ l, x.f2.length ≤ 1048576) : Ev (fun k => spec_TentOf.f k l who) (mTentOf l who) := ev_at (specTO_at l who hl hw)
theorem implTO_ev (l : List S45) (who : Int) (hl : l.length ≤ 1048576) (hw : ∀ x ∈ l, x.f2.length ≤ 1048576) : Ev (fun k => impl_TentOf.f k l who) (mTentOf l who) := ev_at (implTO_at l who hl hw)
/-! ### Tents marked, and found so -/
def mkT : Nat → List S45 → List S45
  | _, [] => []
  | a, t :: ts => ⟨(a : Int), (a : Int) + 1, marksAt id 1 (a + 2) t.f2.length⟩ :: mkT (a + 2 + t.f2.length) ts
def cntT : Nat → List S45 → Nat
  | a, [] => a
  | a, t :: ts => cntT (a + 2 + t.f2.length) ts
theorem cntT_le : ∀ (ts : List S45) (a : Nat), a ≤ cntT a ts
  | [], a => Nat.le_refl a
  | t :: ts, a => Nat.le_trans (by omega) (cntT_le ts (a + 2 + t.f2.length))
theorem cntT_ge : ∀ (ts : List S45) (a : Nat), (∀ x ∈ ts, x.f2.length ≤ 1048576) → cntT a ts ≤ a + 1048578 * ts.length
  | [], a, _ => by simp [cntT]
  | t :: ts, a, h => by
    have h1 := h t (by simp)
    have h2 := cntT_ge ts (a + 2 + t.f2.length) (fun x hx => h x (by simp [hx]))
    simp only [cntT, List.length_cons]
    omega
theorem markInt_at (l : List Int) (m0 : Nat) (hm : m0 + l.length ≤ 4611686018427387904) : Ev (fun k => laws_markIntS.f k l (m0 : Int)) (((m0 + l.length : Nat) : Int), marksAt id 1 m0 l.length) := by
  have h := mark_loopAt (fun k xs m i => laws_markIntS.l0 k xs m i) id 1 m0 l.length (by omega) (by omega) l rfl
    (fun k xs m hx => by simp only [laws_markIntS.l0]; rw [if_neg (by omega)])
    (fun k xs m i hx hi h0 h1 hw => by
      have w1 : wrap64 (m + 1) = m + 1 := wrap_id (by omega) (by omega)
      simp only [laws_markIntS.l0, hw, w1, Int.toNat_natCast]; rw [if_pos (by omega), if_pos (by omega)]; rfl)
  rw [Nat.one_mul] at h
  exact h
theorem marksAt_get (m0 n i : Nat) (h : i < n) : (marksAt id 1 m0 n)[i]? = some ((m0 + i : Nat) : Int) := by
  simp [marksAt, List.getElem?_range h]
theorem marksAt_len (m0 n : Nat) : (marksAt (id : Int → Int) 1 m0 n).length = n := by simp [marksAt]
theorem heldInt_at (m0 n : Nat) (hm : m0 + n ≤ 4611686018427387904) : Ev (fun k => laws_heldIntS.f k (marksAt id 1 m0 n) (m0 : Int)) ((m0 + n : Nat) : Int) := by
  have key : ∀ (d i k : Nat), i + d = n → d < k → laws_heldIntS.l0 k (marksAt id 1 m0 n) ((m0 + i : Nat) : Int) (i : Int) = some ((m0 + n : Nat) : Int) := by
    intro d
    induction d with
    | zero =>
      intro i k hi hk
      obtain ⟨k, rfl⟩ : ∃ m, k = m + 1 := ⟨k - 1, by omega⟩
      obtain rfl : i = n := by omega
      simp only [laws_heldIntS.l0]
      rw [if_neg (by rw [marksAt_len]; omega)]
    | succ d ih =>
      intro i k hi hk
      obtain ⟨k, rfl⟩ : ∃ m, k = m + 1 := ⟨k - 1, by omega⟩
      have hr : rd (marksAt id 1 m0 n) (i : Int) = ((m0 + i : Nat) : Int) := getD_of 0 (marksAt_get m0 n i (by omega))
      have w1 : wrap64 (((m0 + i : Nat) : Int) + 1) = ((m0 + (i + 1) : Nat) : Int) := by rw [wrap_id (by omega) (by omega)]; omega
      have := ih (i + 1) k (by omega) (by omega)
      simp only [laws_heldIntS.l0, hr, w1, wrapi i (by omega)]
      rw [if_pos (by rw [marksAt_len]; omega), if_pos (by omega)]
      simpa using this
  exact ⟨n + 1, fun k hk => by simpa [laws_heldIntS.f] using key n 0 k (by omega) (by omega)⟩
theorem markT_down : ∀ (t d : List S45) (a : Nat), cntT a t ≤ 4611686018427387000 → d.length + t.length ≤ 4611686018427387904 → Ev (fun k => laws_markTentS.l0 k (d ++ t) (a : Int) (d.length : Int)) ((cntT a t : Int), d ++ mkT a t)
  | [], d, a, h, hl => by
    refine Ev.step (f := fun _ => some ((a : Int), d ++ [])) (fun k => ?_) (Ev.now _)
    simp only [laws_markTentS.l0]
    rw [if_neg (show ¬ ((d.length : Int) < ((d ++ ([] : List S45)).length : Int)) from by simp)]
  | x :: t, d, a, h, hl => by
    have hge := cntT_le t (a + 2 + x.f2.length)
    simp only [cntT] at h ⊢
    simp only [List.length_cons] at hl
    have hr : rd_T45 (d ++ x :: t) (d.length : Int) = x := getD_of z45 (by simp)
    have w1 : wrap64 ((a : Int) + 1) = (a : Int) + 1 := wrap_id (by omega) (by omega)
    have w2 : wrap64 ((a : Int) + 1 + 1) = ((a + 2 : Nat) : Int) := by rw [wrap_id (by omega) (by omega)]; omega
    refine Ev.step (f := fun k => (laws_markIntS.f k x.f2 ((a + 2 : Nat) : Int)).bind fun bt => laws_markTentS.l0 k ((d ++ x :: t).set d.length (⟨(a : Int), (a : Int) + 1, bt.2⟩ : S45)) bt.1 ((d.length : Int) + 1)) (fun k => ?_) ?_
    · simp only [laws_markTentS.l0, hr, w1, w2, wrapi d.length (by omega), Int.toNat_natCast]
      rw [if_pos (by simp only [List.length_append, List.length_cons]; omega), if_pos (by omega)]
    · refine Ev.bind (markInt_at x.f2 (a + 2) (by omega)) ?_
      have ih := markT_down t (d ++ [(⟨(a : Int), (a : Int) + 1, marksAt id 1 (a + 2) x.f2.length⟩ : S45)]) (a + 2 + x.f2.length) h (by simp only [List.length_append, List.length_singleton]; omega)
      rw [List.length_append, List.length_singleton, show ((d.length + 1 : Nat) : Int) = (d.length : Int) + 1 from by omega] at ih
      simp only [set_append d x _ t d.length rfl]
      simpa [mkT] using ih
theorem markTentS_ev (l : List S45) (hl : l.length ≤ 1048576) (hw : ∀ x ∈ l, x.f2.length ≤ 1048576) : Ev (fun k => laws_markTentS.f k l 1) ((cntT 1 l : Int), mkT 1 l) := by
  have h := markT_down l [] 1 (Nat.le_trans (cntT_ge l 1 hw) (by omega)) (by simp; omega)
  simpa [laws_markTentS.f] using h
theorem mkT_len : ∀ (l : List S45) (a : Nat), (mkT a l).length = l.length
  | [], _ => rfl
  | t :: ts, a => by simp [mkT, mkT_len ts]
theorem heldT_down : ∀ (t : List S45) (d : List S45) (a : Nat), cntT a t ≤ 4611686018427387000 → d.length + t.length ≤ 4611686018427387904 → Ev (fun k => laws_heldTentS.l0 k (d ++ mkT a t) (a : Int) (d.length : Int)) (cntT a t : Int)
  | [], d, a, h, hl => by
    refine Ev.step (f := fun _ => some (a : Int)) (fun k => ?_) (Ev.now _)
    simp only [laws_heldTentS.l0]
    rw [if_neg (show ¬ ((d.length : Int) < ((d ++ mkT a ([] : List S45)).length : Int)) from by simp [mkT])]
  | x :: t, d, a, h, hl => by
    have hge := cntT_le t (a + 2 + x.f2.length)
    simp only [cntT] at h ⊢
    simp only [List.length_cons] at hl
    simp only [mkT]
    have hr : rd_T45 (d ++ (⟨(a : Int), (a : Int) + 1, marksAt id 1 (a + 2) x.f2.length⟩ : S45) :: mkT (a + 2 + x.f2.length) t) (d.length : Int) = ⟨(a : Int), (a : Int) + 1, marksAt id 1 (a + 2) x.f2.length⟩ := getD_of z45 (by simp)
    have w1 : wrap64 ((a : Int) + 1) = (a : Int) + 1 := wrap_id (by omega) (by omega)
    have w2 : wrap64 ((a : Int) + 1 + 1) = ((a + 2 : Nat) : Int) := by rw [wrap_id (by omega) (by omega)]; omega
    refine Ev.step (f := fun k => (laws_heldIntS.f k (marksAt id 1 (a + 2) x.f2.length) ((a + 2 : Nat) : Int)).bind fun t139 => (if t139 < 0 then (some (-1)) else (laws_heldTentS.l0 k (d ++ (⟨(a : Int), (a : Int) + 1, marksAt id 1 (a + 2) x.f2.length⟩ : S45) :: mkT (a + 2 + x.f2.length) t) t139 ((d.length : Int) + 1)))) (fun k => ?_) ?_
    · simp only [laws_heldTentS.l0, hr, w1, w2, wrapi d.length (by omega), if_true]
      rw [if_pos (by simp only [List.length_append, List.length_cons]; omega), if_pos (by omega)]
    · refine Ev.bind (heldInt_at (a + 2) x.f2.length (by omega)) ?_
      have ih := heldT_down t (d ++ [(⟨(a : Int), (a : Int) + 1, marksAt id 1 (a + 2) x.f2.length⟩ : S45)]) (a + 2 + x.f2.length) h (by simp only [List.length_append, List.length_singleton]; omega)
      rw [List.length_append, List.length_singleton, show ((d.length + 1 : Nat) : Int) = (d.length : Int) + 1 from by omega] at ih
      simp only [show ¬ (((a + 2 + x.f2.length : Nat) : Int) < 0) from by omega, if_false]
      simpa using ih
theorem heldTentS_ev (l : List S45) (hl : l.length ≤ 1048576) (hw : ∀ x ∈ l, x.f2.length ≤ 1048576) : Ev (fun k => laws_heldTentS.f k (mkT 1 l) 1) (cntT 1 l : Int) := by
  have h := heldT_down l [] 1 (Nat.le_trans (cntT_ge l 1 hw) (by omega)) (by simp; omega)
  simpa [laws_heldTentS.f] using h
/-! ### Who moves where -/
def rm (who : Int) (l : List Int) : List Int := l.filter fun y => decide (y ≠ who)
theorem rm_len (who : Int) (l : List Int) : (rm who l).length ≤ l.length := List.length_filter_le _ _
def mv1 (fr who : Int) (x : S45) : S45 := if x.f0 = fr then ⟨x.f0, x.f1, rm who x.f2⟩ else x
def free (tent : Int) (x : S45) : Bool := decide (x.f0 = tent ∧ (x.f2.length : Int) < x.f1)
def mv2 (tent who : Int) (x : S45) : S45 := if free tent x = true then ⟨x.f0, x.f1, x.f2 ++ [who]⟩ else x
def mvAll (fr tent who : Int) (x : S45) : S45 := if x.f0 = fr then ⟨x.f0, x.f1, rm who x.f2⟩ else mv2 tent who x
def mMoveTo (l : List S45) (who tent : Int) : List S45 × Bool :=
  if (mAreTents l = true ∧ mTentOf l who ≠ 0 ∧ mTentOf l who ≠ tent) ∧ l.any (free tent) = true then (l.map (mvAll (mTentOf l who) tent who), true) else (l, false)
theorem addAll_nodup : ∀ (t s s' : List Int), addAll s t = some s' → t.Nodup ∧ ∀ y ∈ t, y ∉ s
  | [], s, s', _ => ⟨List.nodup_nil, fun y h => by cases h⟩
  | y :: t, s, s', h => by
    rw [addAll_cons] at h
    split at h
    · cases h
    · rename_i hy
      obtain ⟨h1, h2⟩ := addAll_nodup t (s ++ [y]) s' h
      refine ⟨List.nodup_cons.2 ⟨fun hm => h2 y hm (by simp), h1⟩, fun z hz => ?_⟩
      rcases List.mem_cons.1 hz with rfl | hz
      · exact hy
      · exact fun hs => h2 z hz (by simp [hs])
theorem runAT_nodup (l : List S45) (b : Bool) : ∀ (t : List S45) (i : Nat) (s : List Int), run (stepAT l) (fun _ => b) i s t = true → ∀ x ∈ t, x.f2.Nodup
  | [], _, _, _, x, hx => by cases hx
  | y :: t, i, s, h, x, hx => by
    by_cases c : okTent l i y
    · have hs : stepAT l i s y = nextAT s y := if_pos c
      cases hn : addAll s y.f2 with
      | none =>
        rw [run_inl (show stepAT l i s y = .inl false by rw [hs]; unfold nextAT; rw [hn])] at h
        cases h
      | some s' =>
        rw [run_inr (show stepAT l i s y = .inr s' by rw [hs]; unfold nextAT; rw [hn])] at h
        rcases List.mem_cons.1 hx with rfl | hx
        · exact (addAll_nodup _ _ _ hn).1
        · exact runAT_nodup l b t (i + 1) s' h x hx
    · rw [run_inl (show stepAT l i s y = .inl false from if_neg c)] at h
      cases h
theorem tents_nodup {l : List S45} (h : mAreTents l = true) : ∀ x ∈ l, x.f2.Nodup := fun x hx => runAT_nodup l _ l 0 [] h x hx
theorem tents_lt {l : List S45} (h : mAreTents l = true) : ∀ (j i : Nat) (hj : j < l.length) (hi : i < j), (l[i]'(by omega)).f0 < l[j].f0 := by
  intro j
  induction j with
  | zero => intro i hj hi; omega
  | succ j ih =>
    intro i hj hi
    have ho := (mAreTents_ok h).1 (j + 1) l[j + 1] (List.getElem?_eq_getElem hj)
    have hd : (l.getD (j + 1 - 1) z45).f0 < l[j + 1].f0 := ho.2.2.2.resolve_left (by omega)
    rw [Nat.add_sub_cancel, List.getD_eq_getElem?_getD, List.getElem?_eq_getElem (by omega : j < l.length), Option.getD_some] at hd
    by_cases c : i = j
    · subst c; exact hd
    · exact Int.lt_trans (ih i (by omega) (by omega)) hd
theorem tents_apart {l : List S45} (h : mAreTents l = true) : l.Pairwise fun a b => a.f0 ≠ b.f0 := by
  rw [List.pairwise_iff_getElem]
  intro i j hi hj hij he
  have := tents_lt h j i hj hij
  omega
theorem apart_eq : ∀ {l : List S45}, (l.Pairwise fun a b => a.f0 ≠ b.f0) → ∀ {x y : S45}, x ∈ l → y ∈ l → x.f0 = y.f0 → x = y
  | [], _, x, y, hx, _, _ => by cases hx
  | z :: t, h, x, y, hx, hy, he => by
    obtain ⟨h1, h2⟩ := List.pairwise_cons.1 h
    rcases List.mem_cons.1 hx with ex | hx'
    · rcases List.mem_cons.1 hy with ey | hy'
      · rw [ex, ey]
      · exact absurd (ex ▸ he) (h1 y hy')
    · rcases List.mem_cons.1 hy with ey | hy'
      · exact absurd (ey ▸ he.symm) (h1 x hx')
      · exact apart_eq h2 hx' hy' he
theorem runTO (who : Int) : ∀ (t : List S45) (i : Nat), run (stepTO who) (fun _ => 0) i () t ≠ 0 → ∃ x ∈ t, who ∈ x.f2 ∧ x.f0 = run (stepTO who) (fun _ => 0) i () t
  | [], _, h => absurd rfl h
  | x :: t, i, h => by
    by_cases c : who ∈ x.f2
    · rw [run_inl (show stepTO who i () x = .inl x.f0 from if_pos c)]
      exact ⟨x, by simp, c, rfl⟩
    · have e := run_inr (fin := fun _ => (0 : Int)) (t := t) (show stepTO who i () x = .inr () from if_neg c)
      rw [e] at h ⊢
      obtain ⟨y, hy, h1, h2⟩ := runTO who t (i + 1) h
      exact ⟨y, List.mem_cons_of_mem _ hy, h1, h2⟩
theorem tent_has {l : List S45} (h : mAreTents l = true) {who : Int} (h0 : mTentOf l who ≠ 0) : ∀ x ∈ l, x.f0 = mTentOf l who → who ∈ x.f2 := by
  intro x hx he
  obtain ⟨y, hy, h1, h2⟩ := runTO who l 0 h0
  rw [apart_eq (tents_apart h) hx hy (he.trans h2.symm)]
  exact h1
theorem place_erase (n : Int) : ∀ (l : List Int) (i : Nat), n ∈ l → l.Nodup → ∃ j, j < l.length ∧ run (stepPlace n) (fun _ => -1) i () l = ((i + j : Nat) : Int) ∧ l.eraseIdx j = rm n l
  | [], _, h, _ => by cases h
  | x :: t, i, h, hd => by
    obtain ⟨hx, ht⟩ := List.nodup_cons.1 hd
    by_cases c : x = n
    · refine ⟨0, by simp, by rw [run_inl (show stepPlace n i () x = .inl (i : Int) from if_pos c)]; rfl, ?_⟩
      subst c
      simp only [List.eraseIdx_cons_zero, rm]
      rw [List.filter_cons_of_neg (by simp)]
      exact (List.filter_eq_self.2 (fun y hy => by simp only [decide_eq_true_eq]; exact fun e => hx (e ▸ hy))).symm
    · obtain ⟨j, h1, h2, h3⟩ := place_erase n t (i + 1) ((List.mem_cons.1 h).resolve_left (fun e => c e.symm)) ht
      refine ⟨j + 1, by simp; omega, ?_, ?_⟩
      · rw [run_inr (show stepPlace n i () x = .inr () from if_neg c), h2]
        omega
      · simp only [List.eraseIdx_cons_succ, h3, rm]
        rw [List.filter_cons_of_pos (by simpa using c)]
theorem mv_all (fr tent who : Int) (h : fr ≠ tent) (x : S45) : mv2 tent who (mv1 fr who x) = mvAll fr tent who x := by
  unfold mvAll mv1
  by_cases c : x.f0 = fr
  · rw [if_pos c, if_pos c]
    unfold mv2
    rw [if_neg]
    simp only [free, decide_eq_true_eq]
    exact fun h' => h (c.symm.trans h'.1)
  · rw [if_neg c, if_neg c]
theorem free_mv1 (fr tent who : Int) (h : fr ≠ tent) (x : S45) : free tent (mv1 fr who x) = free tent x := by
  unfold mv1
  by_cases c : x.f0 = fr
  · rw [if_pos c]
    have c' : x.f0 ≠ tent := fun e => h (c.symm.trans e)
    simp [free, c']
  · rw [if_neg c]
theorem copyOf_eq (l : List Int) (hl : l.length ≤ 1048576) : impl_copyOf.f l = some l := by
  simp only [impl_copyOf.f, Option.bind_some, List.nil_append, List.length_nil, Nat.zero_add]
  rw [if_pos (by omega)]
theorem implCopy_down (l : List S45) (hl : l.length ≤ 1048576) (hw : ∀ x ∈ l, x.f2.length ≤ 1048576) : ∀ (t d : List S45), l = d ++ t → Ev (fun k => impl_copyTents.l0 k d l (l.length : Int) (d.length : Int)) l
  | [], d, h => by
    refine Ev.step (f := fun _ => some d) (fun k => ?_) ?_
    · simp only [impl_copyTents.l0]
      rw [if_neg (by rw [h]; simp)]
    · rw [List.append_nil] at h
      rw [h]
      exact Ev.now _
  | x :: t, d, h => by
    have hlen : l.length = d.length + (t.length + 1) := by rw [h]; simp
    have hx : l[d.length]? = some x := by rw [h]; simp
    have hr : rd_T45 l (d.length : Int) = x := getD_of z45 hx
    have ih := implCopy_down l hl hw t (d ++ [x]) (by rw [h]; simp)
    rw [List.length_append, List.length_singleton, show ((d.length + 1 : Nat) : Int) = (d.length : Int) + 1 from by omega] at ih
    refine Ev.step (fun k => ?_) ih
    simp only [impl_copyTents.l0, hr, wrapi d.length (by omega), copyOf_eq x.f2 (hw x (List.mem_of_getElem? hx)), Option.bind_some]
    rw [if_pos (by omega), if_pos (by omega), if_pos (by omega), if_pos (by omega)]
theorem implCopy_ev (l : List S45) (hl : l.length ≤ 1048576) (hw : ∀ x ∈ l, x.f2.length ≤ 1048576) : Ev (fun k => impl_copyTents.f k l) l := implCopy_down l hl hw l [] rfl
/-! ### MoveTo, the program's -/
theorem implMv2_down (l : List S45) (hl : l.length ≤ 1048576) (hw : ∀ x ∈ l, x.f2.length ≤ 1048576) (who tent : Int) : ∀ (t d : List S45), d.length + t.length ≤ 1048576 → (∀ x ∈ t, x.f2.length ≤ 1048576) → (t.Pairwise fun a b => a.f0 ≠ b.f0) →
    Ev (fun k => impl_MoveTo.l1 k l who tent (d ++ t) ((d.length + t.length : Nat) : Int) (d.length : Int)) (if t.any (free tent) = true then (d ++ t.map (mv2 tent who), true) else (l, false))
  | [], d, hd, _, _ => by
    refine Ev.step (f := fun k => (impl_copyTents.f k l).bind fun t268 => (some (t268, false))) (fun k => ?_) ?_
    · simp only [impl_MoveTo.l1, List.length_nil, Nat.add_zero]
      rw [if_neg (by omega)]
    · exact Ev.bind (implCopy_ev l hl hw) (Ev.now _)
  | x :: t, d, hd, ht, hp => by
    simp only [List.length_cons] at hd ⊢
    obtain ⟨hp1, hp2⟩ := List.pairwise_cons.1 hp
    have hr : rd_T45 (d ++ x :: t) (d.length : Int) = x := getD_of z45 (by simp)
    have hwx := ht x (by simp)
    have ih := implMv2_down l hl hw who tent t (d ++ [x]) (by simp only [List.length_append, List.length_singleton]; omega) (fun y hy => ht y (by simp [hy])) hp2
    rw [List.length_append, List.length_singleton, show ((d.length + 1 : Nat) : Int) = (d.length : Int) + 1 from by omega, show ((d.length + 1 + t.length : Nat) : Int) = ((d.length + (t.length + 1) : Nat) : Int) from by omega, List.append_assoc, List.singleton_append] at ih
    by_cases c : free tent x = true
    · have c' : x.f0 = tent ∧ (x.f2.length : Int) < x.f1 := by simpa [free] using c
      have hno : ∀ y ∈ t, free tent y = false := by
        intro y hy
        have h1 := hp1 y hy
        have h2 : y.f0 ≠ tent := fun e => h1 (c'.1.trans e.symm)
        simp [free, h2]
      have hmap : t.map (mv2 tent who) = t := by
        conv => rhs; rw [← List.map_id t]
        exact List.map_congr_left (fun y hy => by simp [mv2, hno y hy])
      have e : (if (x :: t).any (free tent) = true then (d ++ (x :: t).map (mv2 tent who), true) else (l, false)) = ((d ++ x :: t).set d.length ⟨x.f0, x.f1, x.f2 ++ [who]⟩, true) := by
        rw [if_pos (by simp [c]), List.map_cons, hmap, set_append d x _ t d.length rfl]
        simp [mv2, c]
      rw [e]
      refine Ev.step (f := fun _ => some ((d ++ x :: t).set d.length (⟨x.f0, x.f1, x.f2 ++ [who]⟩ : S45), true)) (fun k => ?_) (Ev.now _)
      simp only [impl_MoveTo.l1, hr, Int.toNat_natCast]
      rw [if_pos (by omega), if_pos (by omega), if_pos (by simp only [List.length_append, List.length_cons]; omega), if_pos c'.1, if_pos c'.2, if_pos (by omega)]
    · have cf : free tent x = false := by simpa using c
      have e : (if (x :: t).any (free tent) = true then (d ++ (x :: t).map (mv2 tent who), true) else (l, false)) = (if t.any (free tent) = true then (d ++ [x] ++ t.map (mv2 tent who), true) else (l, false)) := by
        simp [cf, mv2]
      rw [e]
      refine Ev.step (f := fun k => impl_MoveTo.l1 k l who tent (d ++ x :: t) ((d.length + (t.length + 1) : Nat) : Int) ((d.length : Int) + 1)) (fun k => ?_) ih
      simp only [impl_MoveTo.l1, hr, wrapi d.length (by omega)]
      rw [if_pos (by omega), if_pos (by omega), if_pos (by simp only [List.length_append, List.length_cons]; omega)]
      by_cases c1 : x.f0 = tent
      · rw [if_pos c1, if_neg (fun h => by simp [free, c1, h] at cf)]
      · rw [if_neg c1]
theorem implMv1_down (l : List S45) (hl : l.length ≤ 1048576) (hw : ∀ x ∈ l, x.f2.length ≤ 1048576) (who tent fr : Int) (hnd : ∀ x ∈ l, x.f2.Nodup) (hhas : ∀ x ∈ l, x.f0 = fr → who ∈ x.f2) (R : List S45 × Bool)
    (hR : Ev (fun k => impl_MoveTo.l1 k l who tent (l.map (mv1 fr who)) (l.length : Int) 0) R) : ∀ (t d : List S45), l = d ++ t → Ev (fun k => impl_MoveTo.l0 k l who tent (d.map (mv1 fr who) ++ t) fr (l.length : Int) (d.length : Int)) R
  | [], d, h => by
    refine Ev.step (fun k => ?_) hR
    rw [List.append_nil] at h
    subst h
    simp only [impl_MoveTo.l0, List.append_nil]
    rw [if_neg (by omega), List.length_map]
  | x :: t, d, h => by
    have hlen : l.length = d.length + (t.length + 1) := by rw [h]; simp
    have hxl : x ∈ l := by rw [h]; simp
    have hr : rd_T45 (d.map (mv1 fr who) ++ x :: t) (d.length : Int) = x := getD_of z45 (by simp)
    have hwx := hw x hxl
    have ih := implMv1_down l hl hw who tent fr hnd hhas R hR t (d ++ [x]) (by rw [h]; simp)
    rw [List.length_append, List.length_singleton, show ((d.length + 1 : Nat) : Int) = (d.length : Int) + 1 from by omega, List.map_append, List.append_assoc] at ih
    by_cases c : x.f0 = fr
    · obtain ⟨j, hj, hpl, her⟩ := place_erase who x.f2 0 (hhas x hxl c) (hnd x hxl)
      rw [Nat.zero_add] at hpl
      have hp : place who x.f2 = (j : Int) := hpl
      refine Ev.step (f := fun k => (impl_placeOf.f k x.f2 who).bind fun t245 => (if 0 ≤ t245 then (if t245 ≤ (x.f2.length : Int) then (if 0 ≤ (wrap64 (t245 + 1)) then (if (wrap64 (t245 + 1)) ≤ (x.f2.length : Int) then (impl_MoveTo.l0 k l who tent ((d.map (mv1 fr who) ++ x :: t).set d.length (⟨x.f0, x.f1, x.f2.eraseIdx (t245 : Int).toNat⟩ : S45)) fr (l.length : Int) ((d.length : Int) + 1)) else (none)) else (none)) else (none)) else (none))) (fun k => ?_) ?_
      · simp only [impl_MoveTo.l0, hr, wrapi d.length (by omega), Int.toNat_natCast]
        rw [if_pos (by omega), if_pos (by omega), if_pos (by simp only [List.length_append, List.length_map, List.length_cons]; omega), if_pos c]
      · refine Ev.bind (ev_at (implPlace_at x.f2 who (by omega))) ?_
        simp only [hp, wrapi j (by omega), Int.toNat_natCast, her]
        simp only [show (0 : Int) ≤ (j : Int) from by omega, show (j : Int) ≤ (x.f2.length : Int) from by omega, show (0 : Int) ≤ (j : Int) + 1 from by omega, show (j : Int) + 1 ≤ (x.f2.length : Int) from by omega, if_true]
        simp only [set_append (d.map (mv1 fr who)) x _ t d.length (List.length_map ..)]
        simpa [mv1, c] using ih
    · refine Ev.step (fun k => ?_) ih
      simp only [impl_MoveTo.l0, hr, wrapi d.length (by omega)]
      rw [if_pos (by omega), if_pos (by omega), if_pos (by simp only [List.length_append, List.length_map, List.length_cons]; omega), if_neg c]
      simp [mv1, c]
theorem implMoveTo_ev (l : List S45) (hl : l.length ≤ 1048576) (hw : ∀ x ∈ l, x.f2.length ≤ 1048576) (who tent : Int) : Ev (fun k => impl_MoveTo.f k l who tent) (mMoveTo l who tent) := by
  unfold impl_MoveTo.f
  refine Ev.bind (implCopy_ev l hl hw) ?_
  refine Ev.bind (implTO_ev l who hl hw) ?_
  refine Ev.bind (implAT_ev l hl) ?_
  have no : ¬ (mAreTents l = true ∧ mTentOf l who ≠ 0 ∧ mTentOf l who ≠ tent) → Ev (fun k => impl_MoveTo.j0 k l who tent l (mTentOf l who) true) (mMoveTo l who tent) := by
    intro hn
    refine Ev.step (f := fun _ => some (l, false)) (fun k => by simp only [impl_MoveTo.j0, if_true]) ?_
    unfold mMoveTo
    rw [if_neg (fun h => hn h.1)]
    exact Ev.now _
  by_cases ha : mAreTents l = true
  · simp only [ha, if_true]
    by_cases h0 : mTentOf l who = 0
    · simp only [h0, if_true]
      have := no (fun h => h.2.1 h0)
      rw [h0] at this
      exact this
    · simp only [h0, if_false]
      by_cases h1 : mTentOf l who = tent
      · rw [show (mTentOf l who == tent) = true from by simp [h1]]
        exact no (fun h => h.2.2 h1)
      · rw [show (mTentOf l who == tent) = false from by simp [h1]]
        refine Ev.step (f := fun k => impl_MoveTo.l0 k l who tent l (mTentOf l who) (l.length : Int) 0) (fun k => by simp only [impl_MoveTo.j0, Bool.false_eq_true, if_false]) ?_
        refine implMv1_down l hl hw who tent (mTentOf l who) (tents_nodup ha) (tent_has ha h0) _ ?_ l [] rfl
        have hp : (l.map (mv1 (mTentOf l who) who)).Pairwise fun a b => a.f0 ≠ b.f0 := by
          rw [List.pairwise_map]
          refine (tents_apart ha).imp (fun {a b} h => ?_)
          have e : ∀ x : S45, (mv1 (mTentOf l who) who x).f0 = x.f0 := fun x => by unfold mv1; split <;> rfl
          rw [e, e]
          exact h
        have hw1 : ∀ x ∈ l.map (mv1 (mTentOf l who) who), x.f2.length ≤ 1048576 := by
          intro x hx
          obtain ⟨y, hy, rfl⟩ := List.mem_map.1 hx
          unfold mv1
          split
          · exact Nat.le_trans (rm_len who y.f2) (hw y hy)
          · exact hw y hy
        have h := implMv2_down l hl hw who tent (l.map (mv1 (mTentOf l who) who)) [] (by simp; omega) hw1 hp
        simp only [List.length_nil, Nat.zero_add, List.length_map, List.nil_append, List.any_map, List.map_map] at h
        have e1 : (free tent ∘ mv1 (mTentOf l who) who) = free tent := funext (fun x => free_mv1 _ _ _ h1 x)
        have e2 : (mv2 tent who ∘ mv1 (mTentOf l who) who) = mvAll (mTentOf l who) tent who := funext (fun x => mv_all _ _ _ h1 x)
        rw [e1, e2] at h
        unfold mMoveTo
        simp only [ha, h0, h1, ne_eq, not_false_eq_true, and_self, true_and]
        exact h
  · simp only [ha, if_false]
    exact no (fun h => ha h.1)
theorem specCopy_down (l : List S45) (hl : l.length ≤ 1048576) (hw : ∀ x ∈ l, x.f2.length ≤ 1048576) : ∀ (t d : List S45), l = d ++ t → Ev (fun k => spec_l23Copy.l0 k l d (d.length : Int)) l
  | [], d, h => by
    refine Ev.step (f := fun _ => some d) (fun k => ?_) ?_
    · simp only [spec_l23Copy.l0]
      rw [if_neg (by rw [h]; simp)]
    · rw [List.append_nil] at h
      rw [h]
      exact Ev.now _
  | x :: t, d, h => by
    have hlen : l.length = d.length + (t.length + 1) := by rw [h]; simp
    have hx : l[d.length]? = some x := by rw [h]; simp
    have hr : rd_T45 l (d.length : Int) = x := getD_of z45 hx
    have hwx := hw x (List.mem_of_getElem? hx)
    have ih := specCopy_down l hl hw t (d ++ [x]) (by rw [h]; simp)
    rw [List.length_append, List.length_singleton, show ((d.length + 1 : Nat) : Int) = (d.length : Int) + 1 from by omega] at ih
    refine Ev.step (fun k => ?_) ih
    simp only [spec_l23Copy.l0, hr, wrapi d.length (by omega), Option.bind_some, List.nil_append, List.length_nil, Nat.zero_add]
    rw [if_pos (by omega), if_pos (by omega), if_pos (by omega), if_pos (by omega)]
theorem specCopy_ev (l : List S45) (hl : l.length ≤ 1048576) (hw : ∀ x ∈ l, x.f2.length ≤ 1048576) : Ev (fun k => spec_l23Copy.f k l) l := specCopy_down l hl hw l [] rfl
/-! ### MoveTo, the reference's -/
theorem specMvEnd (l x8 : List S45) (hl : l.length ≤ 1048576) (hw : ∀ x ∈ l, x.f2.length ≤ 1048576) (who tent fr : Int) (b : Bool) (i : Int) :
    Ev (fun k => spec_MoveTo.j1 k l who tent x8 fr b i false) (if b = true then (x8, true) else (l, false)) := by
  refine Ev.step (f := fun k => if b = true then (some (x8, true)) else ((spec_l23Copy.f k l).bind fun t149 => (some (t149, false)))) (fun k => by simp only [spec_MoveTo.j1, Bool.false_eq_true, if_false]) ?_
  cases b with
  | true => simp only [if_true]; exact Ev.now _
  | false => simp only [Bool.false_eq_true, if_false]; exact Ev.bind (specCopy_ev l hl hw) (Ev.now _)
theorem specMvNext (l x8 : List S45) (hl : l.length ≤ 1048576) (who tent fr : Int) (b : Bool) (i : Nat) (R : List S45 × Bool)
    (hR : Ev (fun k => spec_MoveTo.j1 k l who tent x8 fr b (i : Int) (decide (i < x8.length ∧ mAreTents l = true ∧ fr ≠ 0 ∧ fr ≠ tent))) R) : Ev (fun k => spec_MoveTo.l0 k l who tent x8 fr b (i : Int)) R := by
  by_cases h : i < x8.length
  · refine Ev.step (f := fun k => (spec_AreTents.f k l).bind fun t148 => (if t148 = true then (if fr = 0 then (spec_MoveTo.j1 k l who tent x8 fr b (i : Int) false) else (spec_MoveTo.j1 k l who tent x8 fr b (i : Int) (fr != tent))) else (spec_MoveTo.j1 k l who tent x8 fr b (i : Int) false))) (fun k => by simp only [spec_MoveTo.l0]; rw [if_pos (by omega)]) ?_
    refine Ev.bind (specAT_ev l hl) ?_
    by_cases ha : mAreTents l = true
    · simp only [ha, if_true]
      by_cases h0 : fr = 0
      · simp only [h0, if_true]
        simp only [h0, h, ha, ne_eq, not_true_eq_false, false_and, and_false, decide_false] at hR
        exact hR
      · simp only [h0, if_false]
        simp only [h, ha, h0, ne_eq, not_false_eq_true, true_and] at hR
        rw [show (fr != tent) = decide (¬ fr = tent) from by by_cases c : fr = tent <;> simp [c]]
        exact hR
    · simp only [ha, if_false]
      simp only [h, ha, false_and, and_false, decide_false] at hR
      exact hR
  · refine Ev.step (f := fun k => spec_MoveTo.j1 k l who tent x8 fr b (i : Int) false) (fun k => by simp only [spec_MoveTo.l0]; rw [if_neg (by omega)]) ?_
    simp only [h, false_and, decide_false] at hR
    exact hR
/-- The rest of a tent: all but the one. -/
theorem specRest (l : List S45) (who tent fr : Int) (b : Bool) (d t : List S45) (hd : d.length ≤ 1048576) (x : S45) (hx : x.f2.length ≤ 1048576) (hne : x.f0 ≠ tent) (R : List S45 × Bool)
    (hR : Ev (fun k => spec_MoveTo.l0 k l who tent (d ++ ⟨x.f0, x.f1, rm who x.f2⟩ :: t) fr b ((d.length : Int) + 1)) R) : ∀ (v u : List Int), x.f2 = u ++ v →
    Ev (fun k => spec_MoveTo.l1 k l who tent (d ++ x :: t) fr b (d.length : Int) (rm who u) (u.length : Int)) R
  | [], u, h => by
    have hr : rd_T45 (d ++ x :: t) (d.length : Int) = x := getD_of z45 (by simp)
    rw [List.append_nil] at h
    have hr2 : ∀ z : S45, rd_T45 (d ++ z :: t) (d.length : Int) = z := fun z => getD_of z45 (by simp)
    refine Ev.step (fun k => ?_) hR
    simp only [spec_MoveTo.l1, hr, wrapi d.length (by omega), Int.toNat_natCast, Option.bind_some, set_append d x _ t d.length rfl, List.append_assoc, List.singleton_append, hr2]
    rw [if_pos (by omega), if_pos (by simp only [List.length_append, List.length_cons]; omega), if_neg (by rw [h]; omega), if_neg hne, h]
  | y :: v, u, h => by
    have hr : rd_T45 (d ++ x :: t) (d.length : Int) = x := getD_of z45 (by simp)
    have hlen : x.f2.length = u.length + (v.length + 1) := by rw [h]; simp
    have hy : rd x.f2 (u.length : Int) = y := getD_of 0 (by rw [h]; simp)
    have ih := specRest l who tent fr b d t hd x hx hne R hR v (u ++ [y]) (by rw [h]; simp)
    rw [List.length_append, List.length_singleton, show ((u.length + 1 : Nat) : Int) = (u.length : Int) + 1 from by omega] at ih
    refine Ev.step (fun k => ?_) ih
    have hrl := rm_len who u
    simp only [spec_MoveTo.l1, hr, hy, wrapi u.length (by omega)]
    rw [if_pos (by omega), if_pos (by simp only [List.length_append, List.length_cons]; omega), if_pos (by omega), if_pos (by omega)]
    by_cases c : y = who
    · rw [if_pos c]
      simp [rm, c]
    · rw [if_neg c, if_pos (by omega)]
      simp [rm, c]
theorem specMv_down (l : List S45) (hl : l.length ≤ 1048576) (hw : ∀ x ∈ l, x.f2.length ≤ 1048576) (who tent fr : Int) (ha : mAreTents l = true) (h0 : fr ≠ 0) (h1 : fr ≠ tent) : ∀ (t d : List S45), l = d ++ t →
    Ev (fun k => spec_MoveTo.l0 k l who tent (d.map (mvAll fr tent who) ++ t) fr (d.any (free tent)) (d.length : Int)) (if l.any (free tent) = true then (l.map (mvAll fr tent who), true) else (l, false))
  | [], d, h => by
    rw [List.append_nil] at h
    refine specMvNext l _ hl who tent fr _ d.length _ ?_
    rw [decide_eq_false (by simp)]
    have := specMvEnd l (d.map (mvAll fr tent who) ++ []) hl hw who tent fr (d.any (free tent)) (d.length : Int)
    rw [List.append_nil] at this ⊢
    rw [h] at this ⊢
    exact this
  | x :: t, d, h => by
    have hlen : l.length = d.length + (t.length + 1) := by rw [h]; simp
    have hxl : x ∈ l := by rw [h]; simp
    have hwx := hw x hxl
    have hr : rd_T45 (d.map (mvAll fr tent who) ++ x :: t) (d.length : Int) = x := getD_of z45 (by simp)
    have hr2 := specRest l who tent fr
    have ih := specMv_down l hl hw who tent fr ha h0 h1 t (d ++ [x]) (by rw [h]; simp)
    rw [List.length_append, List.length_singleton, show ((d.length + 1 : Nat) : Int) = (d.length : Int) + 1 from by omega, List.map_append, List.append_assoc, List.any_append] at ih
    simp only [List.map_cons, List.map_nil, List.singleton_append, List.any_cons, List.any_nil, Bool.or_false] at ih
    refine specMvNext l _ hl who tent fr _ d.length _ ?_
    rw [decide_eq_true ⟨by simp, ha, h0, h1⟩]
    by_cases c : x.f0 = fr
    · have cne : x.f0 ≠ tent := fun e => h1 (c.symm.trans e)
      have cf : free tent x = false := by simp [free, cne]
      rw [cf, Bool.or_false] at ih
      refine Ev.step (f := fun k => spec_MoveTo.l1 k l who tent (d.map (mvAll fr tent who) ++ x :: t) fr (d.any (free tent)) (d.length : Int) [] 0) (fun k => ?_) ?_
      · simp only [spec_MoveTo.j1, hr, if_true]
        rw [if_pos (by omega), if_pos (by simp only [List.length_append, List.length_map, List.length_cons]; omega), if_pos c]
      · have := specRest l who tent fr (d.any (free tent)) (d.map (mvAll fr tent who)) t (by simp; omega) x hwx cne (if l.any (free tent) = true then (l.map (mvAll fr tent who), true) else (l, false)) (by
          rw [List.length_map]
          simpa [mvAll, c] using ih) x.f2 [] rfl
        rw [List.length_map] at this
        exact this
    · by_cases c2 : free tent x = true
      · have c' : x.f0 = tent ∧ (x.f2.length : Int) < x.f1 := by simpa [free] using c2
        rw [c2, Bool.or_true] at ih
        refine Ev.step (fun k => ?_) ih
        simp only [spec_MoveTo.j1, hr, if_true, wrapi d.length (by omega), Int.toNat_natCast, set_append (d.map (mvAll fr tent who)) x _ t d.length (List.length_map ..)]
        rw [if_pos (by omega), if_pos (by simp only [List.length_append, List.length_map, List.length_cons]; omega), if_neg c, if_pos c'.1, if_pos c'.2, if_pos (by omega)]
        simp [mvAll, mv2, c, c2]
      · have cf : free tent x = false := by simpa using c2
        rw [cf, Bool.or_false] at ih
        refine Ev.step (fun k => ?_) ih
        simp only [spec_MoveTo.j1, hr, if_true, wrapi d.length (by omega)]
        rw [if_pos (by omega), if_pos (by simp only [List.length_append, List.length_map, List.length_cons]; omega), if_neg c]
        by_cases c1 : x.f0 = tent
        · rw [if_pos c1, if_neg (fun h => by simp [free, c1, h] at cf)]
          simp [mvAll, mv2, c, cf]
        · rw [if_neg c1]
          simp [mvAll, mv2, c, cf]
theorem specMoveTo_ev (l : List S45) (hl : l.length ≤ 1048576) (hw : ∀ x ∈ l, x.f2.length ≤ 1048576) (who tent : Int) : Ev (fun k => spec_MoveTo.f k l who tent) (mMoveTo l who tent) := by
  unfold spec_MoveTo.f
  refine Ev.bind (specCopy_ev l hl hw) ?_
  refine Ev.bind (specTO_ev l who hl hw) ?_
  by_cases h : mAreTents l = true ∧ mTentOf l who ≠ 0 ∧ mTentOf l who ≠ tent
  · have := specMv_down l hl hw who tent (mTentOf l who) h.1 h.2.1 h.2.2 l [] rfl
    unfold mMoveTo
    by_cases hh : l.any (free tent) = true
    · rw [if_pos ⟨h, hh⟩]
      rw [if_pos hh] at this
      exact this
    · rw [if_neg (fun h' => hh h'.2)]
      rw [if_neg hh] at this
      exact this
  · refine specMvNext l l hl who tent (mTentOf l who) false 0 _ ?_
    rw [decide_eq_false (fun h' => h h'.2)]
    have := specMvEnd l l hl hw who tent (mTentOf l who) false 0
    unfold mMoveTo
    rw [if_neg (fun h' => h h'.1)]
    exact this
theorem Ev.guard {α : Type} {P : Nat → Prop} [∀ k, Decidable (P k)] {A : Nat → Option α} {r : α} (hP : ∃ K, ∀ k, K ≤ k → P k) (hA : Ev A r) : Ev (fun k => if P k then A k else none) r := by
  obtain ⟨K, hP⟩ := hP
  obtain ⟨K', hA⟩ := hA
  exact ⟨max K K', fun k hk => by
    show (if P k then A k else none) = some r
    rw [if_pos (hP k (by omega))]
    exact hA k (by omega)⟩
theorem mMoveTo_who (l : List S45) (who tent : Int) (hw : ∀ x ∈ l, x.f2.length ≤ 1048576) : ∀ x ∈ (mMoveTo l who tent).1, x.f2.length ≤ 1048576 := by
  intro x hx
  unfold mMoveTo at hx
  split at hx
  · rename_i h
    obtain ⟨y, hy, rfl⟩ := List.mem_map.1 hx
    have hb := tent_in h.1.1 hy
    unfold mvAll
    split
    · exact Nat.le_trans (rm_len who y.f2) (hw y hy)
    · unfold mv2
      split
      · simp only [List.length_append, List.length_singleton]
        omega
      · exact hw y hy
  · exact hw x hx
theorem mMoveTo_len (l : List S45) (who tent : Int) : (mMoveTo l who tent).1.length = l.length := by
  unfold mMoveTo
  split
  · simp
  · rfl
end FnExactMoveToPf
open FnExactMoveToPf
theorem FnExactMoveTo : ∀ (l0 : List S53) (a1 : Int) (a2 : Int), l0.length ≤ maxLen → (∀ y ∈ l0, (I64 y.f0 ∧ I64 y.f1 ∧ (y.f2.length ≤ maxLen ∧ ∀ x ∈ y.f2, I64 x))) → I64 a1 → I64 a2 → ∃ k, laws_FnExactMoveTo.f k l0 a1 a2 = some true := by
  intro l0 a1 a2 hl hy _ _
  apply Ev.rounds (g := fun k => laws_FnExactMoveTo.f k l0 a1 a2)
  unfold laws_FnExactMoveTo.f
  obtain ⟨r, hr, hb, hle⟩ := szTentS_ok l0 1048576 hl (fun x hx => (hy x hx).2.2.1) (by omega) (by omega)
  refine Ev.bind hr ?_
  by_cases h : r < 0
  · simp only [if_pos h]; exact Ev.now _
  · simp only [if_neg h]
    obtain ⟨b1, b2, _⟩ := hb h
    have hlen : (l0.map cvTent).length = l0.length := List.length_map ..
    have hwho := cvTent_who l0 b2
    refine Ev.bind (toTentS_ev l0 b1 b2) ?_
    refine Ev.bind (specMoveTo_ev _ (by omega) hwho a1 a2) ?_
    refine Ev.bind (implMoveTo_ev _ (by omega) hwho a1 a2) ?_
    have hgw := mMoveTo_who (l0.map cvTent) a1 a2 hwho
    have hgl := mMoveTo_len (l0.map cvTent) a1 a2
    refine Ev.guard ?_ ?_
    · obtain ⟨K1, e1⟩ := eqTentS_ev (mMoveTo (l0.map cvTent) a1 a2).1 (by omega) hgw
      obtain ⟨K2, e2⟩ := eqTentS_ev (l0.map cvTent) (by omega) hwho
      exact ⟨max K1 K2, fun k hk => ⟨e1 k (by omega), rfl, e2 k (by omega)⟩⟩
    · refine Ev.bind (markTentS_ev _ (by omega) hwho) ?_
      simp only [show ¬ ((cntT 1 (l0.map cvTent) : Int) < 0) from by omega, if_false]
      refine Ev.bind (markTentS_ev _ (by omega) hgw) ?_
      refine Ev.guard ?_ (Ev.now _)
      obtain ⟨K, e⟩ := heldTentS_ev (mMoveTo (l0.map cvTent) a1 a2).1 (by omega) hgw
      exact ⟨K, fun k hk => ⟨e k hk, by omega⟩⟩
end Go.Proofs.Ytnghncedinngoaa.Pure
