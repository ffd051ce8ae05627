/- FnExactGreedyLoad: the pure statement of the law, over the printed functions. No condition beyond the statement's own. -/
import Derived.Test.YtfepmpabocaibaaPFnExactGreedyLoadx6
import Derived.Test.YtfepmpabocaibaaLib
import Derived.Test.YtfepmpabocaibaaOpens
namespace Go.Proofs.Ytfepmpabocaibaa.Pure
open Go.RowKit Go.Proofs.Ytfepmpabocaibaa.PFnExactGreedyLoad Go.Proofs.YtfepmpabocaibaaW.PrintWords Go.Proofs.YtfepmpabocaibaaW.PrintLast Go.Proofs.Ytfepmpabocaibaa.Lib Go.Proofs.Ytfepmpabocaibaa.Opens
set_option linter.unusedVariables false
set_option linter.unusedSimpArgs false
namespace FnExactGreedyLoadPf
theorem szSampleS_eq (l : List S94) (a : Int) (hl : l.length ≤ maxLen) (h0 : 0 ≤ a) (h1 : a ≤ 1048576) : laws_szSampleS.f l a = some (if a - (l.length : Int) < 0 then -1 else a - (l.length : Int)) := by
  have h : wrap64 (a - (l.length : Int)) = a - (l.length : Int) := wrap_id (by unfold maxLen at hl; omega) (by omega)
  simp only [laws_szSampleS.f, h]
  split <;> rfl
def cvSample (x : S94) : S92 := ⟨x.f0, x.f1, x.f2⟩
theorem toSampleS_ev (l : List S94) (hl : l.length ≤ 1048576) : Ev (fun k => laws_toSampleS.f k l) (l.map cvSample) := by
  have h := map_loop (fun k out i => laws_toSampleS.l0 k l out i) l cvSample z92 (by omega)
    (fun k out => by simp only [laws_toSampleS.l0]; rw [if_neg (by omega)])
    (fun k out i x hx ho hw => by
      have hi := lt_of_get hx
      have hr : rd_T94 l (i : Int) = x := getD_of z94 hx
      simp only [laws_toSampleS.l0, laws_toSample.f, Option.bind_some, hr, hw]
      rw [if_pos (by omega), if_pos (by omega), if_pos (by omega), Int.toNat_natCast]; rfl)
  refine Ev.congr (fun k => ?_) h
  simp only [laws_toSampleS.f, Int.toNat_natCast]
  rw [if_pos (by omega), if_pos (by omega)]
theorem eqIntS_ev (l : List Int) (hl : l.length ≤ 4611686018427387904) : Ev (fun k => laws_eqIntS.f k l l) true := by
  have h := count_loop (fun k i => laws_eqIntS.l0 k l l i) l.length true hl
    (fun k => by simp only [laws_eqIntS.l0]; rw [if_neg (by omega)])
    (fun k i hi hw => by simp only [laws_eqIntS.l0, hw]; rw [if_pos (by omega), if_pos (by omega), if_pos (by omega)]; simp)
  refine Ev.congr (fun k => ?_) h
  simp only [laws_eqIntS.f, if_true]
theorem eqSample_self (a0 : Int) (a1 : Int) (a2 : Int) : laws_eqSample.f a0 a1 a2 a0 a1 a2 = some true := by
  simp [laws_eqSample.f]
theorem eqSampleS_ev (l : List S92) (hl : l.length ≤ 4611686018427387904) : Ev (fun k => laws_eqSampleS.f k l l) true := by
  have h := count_loop (fun k i => laws_eqSampleS.l0 k l l i) l.length true hl
    (fun k => by simp only [laws_eqSampleS.l0]; rw [if_neg (by omega)])
    (fun k i hi hw => by simp only [laws_eqSampleS.l0, hw]; rw [if_pos (by omega), if_pos (by omega), if_pos (by omega)]; simp only [eqSample_self, Option.bind_some, if_true])
  refine Ev.congr (fun k => ?_) h
  simp only [laws_eqSampleS.f, if_true]
def mkSample (m : Int) : S92 := ⟨m, m + 1, m + 2⟩
theorem markSampleS_ev (l : List S92) (hl : l.length ≤ 2097152) : Ev (fun k => laws_markSampleS.f k l 1) (1 + ((3 * l.length : Nat) : Int), marks mkSample 3 l.length) := by
  refine mark_loop (fun k xs m i => laws_markSampleS.l0 k xs m i) mkSample 3 l.length (by omega) (by omega) l rfl
    (fun k xs m hx => by simp only [laws_markSampleS.l0]; rw [if_neg (by omega)])
    (fun k xs m i hx hi h0 h1 hw => by
      have w1 : wrap64 (m + 1) = m + 1 := wrap_id (by omega) (by omega)
      have w2 : wrap64 (m + 2) = m + 2 := wrap_id (by omega) (by omega)
      have w3 : wrap64 (m + 3) = m + 3 := wrap_id (by omega) (by omega)
      have e1 : m + 1 + 1 = m + 2 := by omega
      have e2 : m + 2 + 1 = m + 3 := by omega
      have hg : ∀ (ys : List S92) (y : S92), ys.length = l.length → rd_T92 (ys.set i y) (i : Int) = y := fun ys y hy => by simp [rd_T92, List.getD_eq_getElem?_getD, hy, hi]
      simp only [laws_markSampleS.l0, Option.bind_some, Int.toNat_natCast, hw]
      rw [if_pos (by omega), if_pos (by omega)]
      simp only [hg _ _ hx, hg _ _ ((List.length_set ..).trans hx), List.set_set, w1, w2, w3, e1, e2]
      rfl)
theorem markIntS_ev (l : List Int) (hl : l.length ≤ 2097152) : Ev (fun k => laws_markIntS.f k l 1) (1 + ((1 * l.length : Nat) : Int), marks id 1 l.length) := by
  refine mark_loop (fun k xs m i => laws_markIntS.l0 k xs m i) id 1 l.length (by omega) (by omega) l rfl
    (fun k xs m hx => by simp only [laws_markIntS.l0]; rw [if_neg (by omega)])
    (fun k xs m i hx hi h0 h1 hw => by
      have w1 : wrap64 (m + 1) = m + 1 := wrap_id (by omega) (by omega)
      simp only [laws_markIntS.l0, hw, w1, Int.toNat_natCast]; rw [if_pos (by omega), if_pos (by omega)]; rfl)
theorem heldIntS_ev (n : Nat) (hn : n ≤ 2097152) : Ev (fun k => laws_heldIntS.f k (marks id 1 n) 1) (1 + ((1 * n : Nat) : Int)) := by
  have hlen : (marks id 1 n).length = n := by simp [marks]
  refine held_loop (fun k m i => laws_heldIntS.l0 k (marks id 1 n) m i) id 1 n (by omega) (by omega)
    (fun k m => by simp only [laws_heldIntS.l0]; rw [if_neg (by omega)])
    (fun k m i hx hi h0 h1 hw => by
      have hr : rd (marks id 1 n) (i : Int) = m := getD_of 0 hx
      have w1 : wrap64 (m + 1) = m + 1 := wrap_id (by omega) (by omega)
      simp only [laws_heldIntS.l0, hr, hw, w1]; rw [if_pos (by omega), if_pos (by omega)]; simp)
theorem l1In_eq (a b c : Int) : spec_l1In.f a b c = some (decide (b ≤ a ∧ a ≤ c)) := by
  unfold spec_l1In.f
  by_cases h : a ≥ b
  · rw [if_pos h]; simp [h]
  · rw [if_neg h]; simp [show ¬ (b ≤ a) from by omega]
theorem InRange_eq (a b c : Int) : impl_InRange.f a b c = some (decide (b ≤ a ∧ a ≤ c)) := by
  unfold impl_InRange.f
  by_cases h : b ≤ a
  · rw [if_pos h]; simp [h]
  · rw [if_neg h]; simp [h]
def okSample (l : List S92) (i : Nat) (x : S92) : Prop := (1 ≤ x.f0 ∧ x.f0 ≤ 99) ∧ (1 ≤ x.f1 ∧ x.f1 ≤ 50) ∧ (0 ≤ x.f2 ∧ x.f2 ≤ 1000) ∧ (i = 0 ∨ (l.getD (i - 1) z92).f0 < x.f0)
instance (l : List S92) (i : Nat) (x : S92) : Decidable (okSample l i x) := by unfold okSample; infer_instance
def stepAS (l : List S92) : Nat → Unit → S92 → Bool ⊕ Unit := fun i _ x => if okSample l i x then .inr () else .inl false
def mAreSamples (l : List S92) : Bool := run (stepAS l) (fun _ => decide ((l.length : Int) ≤ 12)) 0 () l
theorem specAS_at (l : List S92) (hl : l.length ≤ 4611686018427387904) : ∀ k, l.length < k → spec_AreSamples.f k l = some (mAreSamples l) :=
  at_loop0 (fun k _ i => spec_AreSamples.l0 k l i) l (stepAS l) _ hl ()
    (fun k s => by simp only [spec_AreSamples.l0]; rw [if_neg (by omega)])
    (fun k s i x hx hw => by
      have hi := lt_of_get hx
      have hr : rd_T92 l (i : Int) = x := getD_of z92 hx
      simp only [spec_AreSamples.l0, hr, hw, l1In_eq, Option.bind_some, decide_eq_true_eq]; rw [if_pos (by omega), if_pos (by omega)]
      simp only [stepAS]
      by_cases c1 : 1 ≤ x.f0 ∧ x.f0 ≤ 99
      · by_cases c2 : 1 ≤ x.f1 ∧ x.f1 ≤ 50
        · by_cases c3 : 0 ≤ x.f2 ∧ x.f2 ≤ 1000
          · rw [if_pos c1, if_pos c2, if_pos c3]
            rcases Nat.eq_zero_or_pos i with h0 | h0
            · subst h0
              rw [if_neg (by omega), if_pos (show okSample l _ x from ⟨c1, c2, c3, .inl rfl⟩)]; rfl
            · have hr' : rd_T92 l ((i - 1 : Nat) : Int) = l.getD (i - 1) z92 := getD_nat ..
              rw [if_pos (by omega), wrapd i h0 (by omega), if_pos (by omega), if_pos (by omega), hr']
              by_cases c4 : (l.getD (i - 1) z92).f0 < x.f0
              · rw [if_neg (by omega), if_pos (show okSample l _ x from ⟨c1, c2, c3, .inr c4⟩)]; rfl
              · rw [if_pos (by omega), if_neg (show ¬ okSample l _ x from fun h => h.2.2.2.elim (by omega) c4)]; rfl
          · rw [if_pos c1, if_pos c2, if_neg c3, if_neg (show ¬ okSample l _ x from fun h => c3 h.2.2.1)]; rfl
        · rw [if_pos c1, if_neg c2, if_neg (show ¬ okSample l _ x from fun h => c2 h.2.1)]; rfl
      · rw [if_neg c1, if_neg (show ¬ okSample l _ x from fun h => c1 h.1)]; rfl)
theorem implAS_at (l : List S92) (hl : l.length ≤ 4611686018427387904) : ∀ k, l.length < k → impl_AreSamples.f k l = some (mAreSamples l) :=
  at_loop0 (fun k _ i => impl_AreSamples.l0 k l l (l.length : Int) i) l (stepAS l) _ hl ()
    (fun k s => by simp only [impl_AreSamples.l0]; rw [if_neg (by omega)])
    (fun k s i x hx hw => by
      have hi := lt_of_get hx
      have hr : rd_T92 l (i : Int) = x := getD_of z92 hx
      simp only [impl_AreSamples.l0, hr, hw, InRange_eq, Option.bind_some, decide_eq_true_eq]; rw [if_pos (by omega), if_pos (by omega), if_pos (by omega)]
      simp only [stepAS]
      by_cases c1 : 1 ≤ x.f0 ∧ x.f0 ≤ 99
      · rw [if_pos c1]
        rcases Nat.eq_zero_or_pos i with h0 | h0
        · subst h0
          rw [if_neg (by omega)]
          by_cases c2 : 1 ≤ x.f1 ∧ x.f1 ≤ 50
          · rw [if_pos c2]
            by_cases c3 : 0 ≤ x.f2 ∧ x.f2 ≤ 1000
            · rw [if_pos c3, if_pos (show okSample l _ x from ⟨c1, c2, c3, .inl rfl⟩)]; rfl
            · rw [if_neg c3, if_neg (show ¬ okSample l _ x from fun h => c3 h.2.2.1)]; rfl
          · rw [if_neg c2, if_neg (show ¬ okSample l _ x from fun h => c2 h.2.1)]; rfl
        · have hr' : rd_T92 l ((i - 1 : Nat) : Int) = l.getD (i - 1) z92 := getD_nat ..
          rw [if_pos (by omega), wrapd i h0 (by omega), if_pos (by omega), if_pos (by omega), hr']
          by_cases c4 : (l.getD (i - 1) z92).f0 < x.f0
          · rw [if_neg (by omega)]
            by_cases c2 : 1 ≤ x.f1 ∧ x.f1 ≤ 50
            · rw [if_pos c2]
              by_cases c3 : 0 ≤ x.f2 ∧ x.f2 ≤ 1000
              · rw [if_pos c3, if_pos (show okSample l _ x from ⟨c1, c2, c3, .inr c4⟩)]; rfl
              · rw [if_neg c3, if_neg (show ¬ okSample l _ x from fun h => c3 h.2.2.1)]; rfl
            · rw [if_neg c2, if_neg (show ¬ okSample l _ x from fun h => c2 h.2.1)]; rfl
          · rw [if_pos (by omega), if_neg (show ¬ okSample l _ x from fun h => h.2.2.2.elim (by omega) c4)]; rfl
      · rw [if_neg c1, if_neg (show ¬ okSample l _ x from fun h => c1 h.1)]; rfl)
theorem runAS_iff (l0 : List S92) (b : Bool) : ∀ (t d : List S92), l0 = d ++ t → (run (stepAS l0) (fun _ => b) d.length () t = true ↔ (∀ i x, d.length ≤ i → l0[i]? = some x → okSample l0 i x) ∧ b = true)
  | [], d, h => by
    rw [run_nil]
    refine ⟨fun hb => ⟨fun i x hi hx => ?_, hb⟩, fun hb => hb.2⟩
    have := lt_of_get hx
    rw [h] at this
    simp at this
    omega
  | x :: t, d, h => by
    have hx : l0[d.length]? = some x := by rw [h]; simp
    by_cases c : okSample l0 d.length x
    · rw [run_inr (show stepAS l0 d.length () x = .inr () from if_pos c)]
      have ih := runAS_iff l0 b t (d ++ [x]) (by rw [h]; simp)
      rw [List.length_append, List.length_singleton] at ih
      rw [ih]
      refine ⟨fun hb => ⟨fun i y hi hy => ?_, hb.2⟩, fun hb => ⟨fun i y hi hy => hb.1 i y (by omega) hy, hb.2⟩⟩
      rcases Nat.lt_or_ge d.length i with h1 | h1
      · exact hb.1 i y (by omega) hy
      · obtain rfl : i = d.length := by omega
        rw [hx] at hy
        injection hy with hy
        exact hy ▸ c
    · rw [run_inl (show stepAS l0 d.length () x = .inl false from if_neg c)]
      exact ⟨fun hb => (by cases hb), fun hb => absurd (hb.1 d.length x (Nat.le_refl _) hx) c⟩
theorem mAreSamples_iff (l : List S92) : mAreSamples l = true ↔ (∀ i x, l[i]? = some x → okSample l i x) ∧ l.length ≤ 12 := by
  have h := runAS_iff l (decide ((l.length : Int) ≤ 12)) l [] rfl
  unfold mAreSamples
  rw [List.length_nil] at h
  rw [h, decide_eq_true_eq]
  exact ⟨fun h => ⟨fun i x hx => h.1 i x (Nat.zero_le _) hx, by omega⟩, fun h => ⟨fun i x _ hx => h.1 i x hx, by omega⟩⟩
theorem sample_ok {l : List S92} (h : mAreSamples l = true) {x : S92} (hx : x ∈ l) : (1 ≤ x.f0 ∧ x.f0 ≤ 99) ∧ (1 ≤ x.f1 ∧ x.f1 ≤ 50) ∧ (0 ≤ x.f2 ∧ x.f2 ≤ 1000) := by
  obtain ⟨i, hi, he⟩ := List.getElem_of_mem hx
  have := ((mAreSamples_iff l).1 h).1 i x (by rw [List.getElem?_eq_getElem hi, he])
  exact ⟨this.1, this.2.1, this.2.2.1⟩
def greedyI : Int → List S92 → List Int
  | _, [] => []
  | r, x :: t => if x.f1 ≤ r then x.f0 :: greedyI (r - x.f1) t else greedyI r t
theorem greedyI_len : ∀ (r : Int) (l : List S92), (greedyI r l).length ≤ l.length
  | _, [] => by simp [greedyI]
  | r, x :: t => by
    unfold greedyI
    have h1 := greedyI_len (r - x.f1) t
    have h2 := greedyI_len r t
    split
    · simp; omega
    · simp; omega
def mGreedy (l : List S92) (most : Int) : List Int := if mAreSamples l = true ∧ 0 ≤ most ∧ most ≤ 1000 then greedyI most l else []
theorem implG_down (l : List S92) (hl : l.length ≤ 1048576) (hw : ∀ x ∈ l, 1 ≤ x.f1 ∧ x.f1 ≤ 50) : ∀ (t d : List S92) (k : Nat) (r : Int) (out : List Int), l = d ++ t → 0 ≤ r → r ≤ 1000 → out.length + t.length ≤ 1048576 → t.length < k →
    impl_GreedyLoad.l0 k r out l (l.length : Int) (d.length : Int) = some (out ++ greedyI r t)
  | [], d, k, r, out, h, _, _, _, hk => by
    obtain ⟨k, rfl⟩ : ∃ m, k = m + 1 := ⟨k - 1, by omega⟩
    have : l.length = d.length := by rw [h]; simp
    simp only [impl_GreedyLoad.l0]
    rw [if_neg (by omega)]
    simp [greedyI]
  | x :: t, d, k, r, out, h, h0, h1, ho, hk => by
    obtain ⟨k, rfl⟩ : ∃ m, k = m + 1 := ⟨k - 1, by omega⟩
    have hlen : l.length = d.length + (t.length + 1) := by rw [h]; simp
    have hx : l[d.length]? = some x := by rw [h]; simp
    have hr : rd_T92 l (d.length : Int) = x := getD_of z92 hx
    have hxw := hw x (by rw [h]; simp)
    rw [List.length_cons] at ho hk
    have e : ((d.length : Int) + 1) = ((d ++ [x]).length : Int) := by simp
    simp only [impl_GreedyLoad.l0, hr, wrapi d.length (by omega)]
    rw [if_pos (by omega), if_pos (by omega), if_pos (by omega)]
    unfold greedyI
    by_cases c : x.f1 ≤ r
    · rw [if_pos c, if_pos c, if_pos (by omega), wrap_id (by omega) (by omega), e, implG_down l hl hw t (d ++ [x]) k (r - x.f1) _ (by rw [h]; simp) (by omega) (by omega) (by simp; omega) (by omega)]
      simp
    · rw [if_neg c, if_neg c, e, implG_down l hl hw t (d ++ [x]) k r out (by rw [h]; simp) h0 h1 (by omega) (by omega)]
theorem specG_down (l : List S92) (most : Int) (hm : 0 ≤ most ∧ most ≤ 1000) (hl : l.length ≤ 1048576) (ha : mAreSamples l = true) : ∀ (t d : List S92) (k : Nat) (w : Int) (out : List Int), l = d ++ t → 0 ≤ w → w ≤ most → out.length + t.length ≤ 1048576 → l.length + 2 * t.length + 2 < k →
    spec_GreedyLoad.l0 k l most out w (d.length : Int) = some (out ++ greedyI (most - w) t)
  | [], d, k, r, out, h, _, _, _, hk => by
    obtain ⟨k, rfl⟩ : ∃ m, k = m + 1 + 1 := ⟨k - 2, by omega⟩
    have : l.length = d.length := by rw [h]; simp
    simp only [spec_GreedyLoad.l0, spec_GreedyLoad.j1]
    rw [if_neg (by omega)]
    simp [greedyI]
  | x :: t, d, k, w, out, h, h0, h1, ho, hk => by
    obtain ⟨k, rfl⟩ : ∃ m, k = m + 1 + 1 := ⟨k - 2, by omega⟩
    have hlen : l.length = d.length + (t.length + 1) := by rw [h]; simp
    have hx : l[d.length]? = some x := by rw [h]; simp
    have hr : rd_T92 l (d.length : Int) = x := getD_of z92 hx
    have hxw := (sample_ok ha (x := x) (by rw [h]; simp)).2.1
    rw [List.length_cons] at ho hk
    have e : ((d.length : Int) + 1) = ((d ++ [x]).length : Int) := by simp
    simp only [spec_GreedyLoad.l0, spec_GreedyLoad.j1, hr, wrapi d.length (by omega), l1In_eq, Option.bind_some]
    rw [if_pos (by omega), specAS_at l (by omega) (k + 1) (by omega)]
    simp only [Option.bind_some, ha, if_true, decide_eq_true hm]
    rw [if_pos (by omega), if_pos (by omega), wrap_id (n := w + x.f1) (by omega) (by omega)]
    unfold greedyI
    by_cases c : x.f1 ≤ most - w
    · rw [if_pos (by omega), if_pos (by omega), if_pos (by omega), e, specG_down l most hm hl ha t (d ++ [x]) k (w + x.f1) _ (by rw [h]; simp) (by omega) (by omega) (by simp; omega) (by omega)]
      rw [show most - (w + x.f1) = most - w - x.f1 from by omega]
      simp
    · rw [if_neg (by omega), if_neg (by omega), e, specG_down l most hm hl ha t (d ++ [x]) k w out (by rw [h]; simp) h0 h1 (by omega) (by omega)]
theorem specGreedy_at (l : List S92) (most : Int) (hl : l.length ≤ 1048576) : ∀ k, 3 * l.length + 2 < k → spec_GreedyLoad.f k l most = some (mGreedy l most) := by
  intro k hk
  unfold spec_GreedyLoad.f mGreedy
  by_cases h : mAreSamples l = true ∧ 0 ≤ most ∧ most ≤ 1000
  · rw [if_pos h]
    have := specG_down l most h.2 hl h.1 l [] k 0 [] rfl (by omega) h.2.1 (by simp; omega) (by omega)
    rw [Int.sub_zero, List.nil_append] at this
    exact this
  · rw [if_neg h]
    obtain ⟨k, rfl⟩ : ∃ m, k = m + 1 + 1 := ⟨k - 2, by omega⟩
    simp only [spec_GreedyLoad.l0, spec_GreedyLoad.j1, l1In_eq, Option.bind_some, Bool.false_eq_true, if_false]
    by_cases h0 : (0 : Int) < (l.length : Int)
    · rw [if_pos h0, specAS_at l (by omega) (k + 1) (by omega)]
      simp only [Option.bind_some]
      cases ha : mAreSamples l with
      | false => simp
      | true =>
        rw [if_pos rfl, if_neg (by rw [decide_eq_true_eq]; exact fun h' => h ⟨ha, h'⟩)]
    · rw [if_neg h0]
theorem implGreedy_at (l : List S92) (most : Int) (hl : l.length ≤ 1048576) : ∀ k, l.length + 1 < k → impl_GreedyLoad.f k l most = some (mGreedy l most) := by
  intro k hk
  obtain ⟨k, rfl⟩ : ∃ m, k = m + 1 := ⟨k - 1, by omega⟩
  simp only [impl_GreedyLoad.f, implAS_at l (by omega) (k + 1) (by omega), InRange_eq, Option.bind_some, mGreedy]
  cases ha : mAreSamples l with
  | false => simp [impl_GreedyLoad.j0]
  | true =>
    rw [if_pos rfl]
    by_cases h : 0 ≤ most ∧ most ≤ 1000
    · rw [if_pos ⟨rfl, h⟩, decide_eq_true h]
      simp only [Bool.not_true, impl_GreedyLoad.j0, Bool.false_eq_true, if_false]
      have := implG_down l hl (fun x hx => (sample_ok ha hx).2.1) l [] k most [] rfl h.1 h.2 (by simp; omega) (by omega)
      rw [List.nil_append] at this
      exact this
    · rw [if_neg (fun h' => h h'.2), decide_eq_false h]
      simp [impl_GreedyLoad.j0]
theorem mGreedy_len (l : List S92) (most : Int) : (mGreedy l most).length ≤ l.length := by
  unfold mGreedy
  split
  · exact greedyI_len _ _
  · simp
end FnExactGreedyLoadPf
open FnExactGreedyLoadPf
theorem FnExactGreedyLoad : ∀ (l0 : List S94) (a1 : Int), l0.length ≤ maxLen → (∀ y ∈ l0, (I64 y.f0 ∧ I64 y.f1 ∧ I64 y.f2)) → I64 a1 → ∃ k, laws_FnExactGreedyLoad.f k l0 a1 = some true := by
  intro l0 a1 hl _ _
  apply Ev.rounds (g := fun k => laws_FnExactGreedyLoad.f k l0 a1)
  unfold laws_FnExactGreedyLoad.f
  simp only [szSampleS_eq l0 1048576 hl (by omega) (by omega), Option.bind_some]
  by_cases h : (1048576 : Int) - (l0.length : Int) < 0
  · simp only [if_pos h]; exact Ev.now _
  · simp only [if_neg h]
    have hlen : (l0.map cvSample).length = l0.length := List.length_map ..
    have hm := mGreedy_len (l0.map cvSample) a1
    refine Ev.bind (toSampleS_ev l0 (by omega)) ?_
    refine Ev.bind (ev_at (specGreedy_at _ _ (by omega))) ?_
    refine Ev.bind (toSampleS_ev l0 (by omega)) ?_
    refine Ev.bind (ev_at (implGreedy_at _ _ (by omega))) ?_
    refine Ev.bind (eqIntS_ev _ (by omega)) ?_
    simp only [if_true]
    refine Ev.bind (toSampleS_ev l0 (by omega)) ?_
    refine Ev.bind (eqSampleS_ev _ (by omega)) ?_
    simp only [if_true]
    refine Ev.bind (markSampleS_ev _ (by omega)) ?_
    simp only []
    rw [hlen]
    simp only [show ¬ (1 + ((3 * l0.length : Nat) : Int) < 0) from by omega, if_false]
    refine Ev.bind (eqIntS_ev _ (by omega)) ?_
    refine Ev.step (fun k => by rw [laws_FnExactGreedyLoad.j0]) ?_
    simp only [Bool.not_true, Bool.false_eq_true, if_false]
    refine Ev.bind (markIntS_ev _ (by omega)) ?_
    refine Ev.bind (heldIntS_ev _ (by omega)) ?_
    simp only [show ¬ (1 + ((1 * (mGreedy (l0.map cvSample) a1).length : Nat) : Int) < 0) from by omega, if_false, if_true]
    refine Ev.bind (toSampleS_ev l0 (by omega)) ?_
    refine Ev.bind (ev_at (implGreedy_at _ _ (by omega))) ?_
    refine Ev.bind (eqIntS_ev _ (by omega)) ?_
    simp only [if_true]
    refine Ev.bind (heldIntS_ev _ (by omega)) ?_
    simp only [show ¬ (1 + ((1 * (mGreedy (l0.map cvSample) a1).length : Nat) : Int) < 0) from by omega, if_false, if_true]
    exact Ev.now _
end Go.Proofs.Ytfepmpabocaibaa.Pure
