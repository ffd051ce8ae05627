/- FnExactBestWorth: the pure statement of the law, over the printed functions. No condition beyond the statement's own. -/
import Derived.Test.YtnoakpmlnhmfbaaSFnExactBestWorthx7
import Derived.Test.YtnoakpmlnhmfbaaLib
import Derived.Test.YtnoakpmlnhmfbaaOpens
namespace Go.Proofs.Ytnoakpmlnhmfbaa.Pure
open Go.RowKit Go.Proofs.Ytnoakpmlnhmfbaa.PFnExactBestWorth Go.Proofs.YtnoakpmlnhmfbaaW.PrintWords Go.Proofs.YtnoakpmlnhmfbaaW.PrintLast Go.Proofs.Ytnoakpmlnhmfbaa.Lib Go.Proofs.Ytnoakpmlnhmfbaa.Opens
set_option linter.unusedVariables false
set_option linter.unusedSimpArgs false
namespace FnExactBestWorthPf
theorem szSampleS_eq (l : List S65) (a : Int) (hl : l.length ≤ maxLen) (h0 : 0 ≤ a) (h1 : a ≤ 1048576) : laws_szSampleS.f l a = some (if a - (l.length : Int) < 0 then -1 else a - (l.length : Int)) := by
  have h : wrap64 (a - (l.length : Int)) = a - (l.length : Int) := wrap_id (by unfold maxLen at hl; omega) (by omega)
  simp only [laws_szSampleS.f, h]
  split <;> rfl
def cvSample (x : S65) : S41 := ⟨x.f0, x.f1, x.f2⟩
theorem toSampleS_ev (l : List S65) (hl : l.length ≤ 1048576) : Ev (fun k => laws_toSampleS.f k l) (l.map cvSample) := by
  have h := map_loop (fun k out i => laws_toSampleS.l0 k l out i) l cvSample z41 (by omega)
    (fun k out => by simp only [laws_toSampleS.l0]; rw [if_neg (by omega)])
    (fun k out i x hx ho hw => by
      have hi := lt_of_get hx
      have hr : rd_T65 l (i : Int) = x := getD_of z65 hx
      simp only [laws_toSampleS.l0, laws_toSample.f, Option.bind_some, hr, hw]
      rw [if_pos (by omega), if_pos (by omega), if_pos (by omega), Int.toNat_natCast]; rfl)
  refine Ev.congr (fun k => ?_) h
  simp only [laws_toSampleS.f, Int.toNat_natCast]
  rw [if_pos (by omega), if_pos (by omega)]
theorem eqSample_self (a0 : Int) (a1 : Int) (a2 : Int) : laws_eqSample.f a0 a1 a2 a0 a1 a2 = some true := by
  simp [laws_eqSample.f]
theorem eqSampleS_ev (l : List S41) (hl : l.length ≤ 4611686018427387904) : Ev (fun k => laws_eqSampleS.f k l l) true := by
  have h := count_loop (fun k i => laws_eqSampleS.l0 k l l i) l.length true hl
    (fun k => by simp only [laws_eqSampleS.l0]; rw [if_neg (by omega)])
    (fun k i hi hw => by simp only [laws_eqSampleS.l0, hw]; rw [if_pos (by omega), if_pos (by omega), if_pos (by omega)]; simp only [eqSample_self, Option.bind_some, if_true])
  refine Ev.congr (fun k => ?_) h
  simp only [laws_eqSampleS.f, if_true]
theorem l1In_eq (a b c : Int) : spec_l1In.f a b c = some (decide (b ≤ a ∧ a ≤ c)) := by
  unfold spec_l1In.f
  by_cases h : a ≥ b
  · rw [if_pos h]; simp [h]
  · rw [if_neg h]; simp [show ¬ (b ≤ a) from by omega]
theorem InRange_eq (a b c : Int) : impl_InRange.f a b c = some (decide (b ≤ a ∧ a ≤ c)) := by
  unfold impl_InRange.f
  by_cases h : b ≤ a
  · rw [if_pos h]; simp [h]
  · rw [if_neg h]; simp [h]
def okSample (l : List S41) (i : Nat) (x : S41) : Prop := (1 ≤ x.f0 ∧ x.f0 ≤ 99) ∧ (1 ≤ x.f1 ∧ x.f1 ≤ 50) ∧ (0 ≤ x.f2 ∧ x.f2 ≤ 1000) ∧ (i = 0 ∨ (l.getD (i - 1) z41).f0 < x.f0)
instance (l : List S41) (i : Nat) (x : S41) : Decidable (okSample l i x) := by unfold okSample; infer_instance
def stepAS (l : List S41) : Nat → Unit → S41 → Bool ⊕ Unit := fun i _ x => if okSample l i x then .inr () else .inl false
def mAreSamples (l : List S41) : Bool := run (stepAS l) (fun _ => decide ((l.length : Int) ≤ 12)) 0 () l
theorem specAS_at (l : List S41) (hl : l.length ≤ 4611686018427387904) : ∀ k, l.length < k → spec_AreSamples.f k l = some (mAreSamples l) :=
  at_loop0 (fun k _ i => spec_AreSamples.l0 k l i) l (stepAS l) _ hl ()
    (fun k s => by simp only [spec_AreSamples.l0]; rw [if_neg (by omega)])
    (fun k s i x hx hw => by
      have hi := lt_of_get hx
      have hr : rd_T41 l (i : Int) = x := getD_of z41 hx
      simp only [spec_AreSamples.l0, hr, hw, l1In_eq, Option.bind_some, decide_eq_true_eq]; rw [if_pos (by omega), if_pos (by omega)]
      simp only [stepAS]
      by_cases c1 : 1 ≤ x.f0 ∧ x.f0 ≤ 99
      · by_cases c2 : 1 ≤ x.f1 ∧ x.f1 ≤ 50
        · by_cases c3 : 0 ≤ x.f2 ∧ x.f2 ≤ 1000
          · rw [if_pos c1, if_pos c2, if_pos c3]
            rcases Nat.eq_zero_or_pos i with h0 | h0
            · subst h0
              rw [if_neg (by omega), if_pos (show okSample l _ x from ⟨c1, c2, c3, .inl rfl⟩)]; rfl
            · have hr' : rd_T41 l ((i - 1 : Nat) : Int) = l.getD (i - 1) z41 := getD_nat ..
              rw [if_pos (by omega), wrapd i h0 (by omega), if_pos (by omega), if_pos (by omega), hr']
              by_cases c4 : (l.getD (i - 1) z41).f0 < x.f0
              · rw [if_neg (by omega), if_pos (show okSample l _ x from ⟨c1, c2, c3, .inr c4⟩)]; rfl
              · rw [if_pos (by omega), if_neg (show ¬ okSample l _ x from fun h => h.2.2.2.elim (by omega) c4)]; rfl
          · rw [if_pos c1, if_pos c2, if_neg c3, if_neg (show ¬ okSample l _ x from fun h => c3 h.2.2.1)]; rfl
        · rw [if_pos c1, if_neg c2, if_neg (show ¬ okSample l _ x from fun h => c2 h.2.1)]; rfl
      · rw [if_neg c1, if_neg (show ¬ okSample l _ x from fun h => c1 h.1)]; rfl)
theorem implAS_at (l : List S41) (hl : l.length ≤ 4611686018427387904) : ∀ k, l.length < k → impl_AreSamples.f k l = some (mAreSamples l) :=
  at_loop0 (fun k _ i => impl_AreSamples.l0 k l l (l.length : Int) i) l (stepAS l) _ hl ()
    (fun k s => by simp only [impl_AreSamples.l0]; rw [if_neg (by omega)])
    (fun k s i x hx hw => by
      have hi := lt_of_get hx
      have hr : rd_T41 l (i : Int) = x := getD_of z41 hx
      simp only [impl_AreSamples.l0, hr, hw, InRange_eq, Option.bind_some, decide_eq_true_eq]; rw [if_pos (by omega), if_pos (by omega), if_pos (by omega)]
      simp only [stepAS]
      by_cases c1 : 1 ≤ x.f0 ∧ x.f0 ≤ 99
      · rw [if_pos c1]
        rcases Nat.eq_zero_or_pos i with h0 | h0
        · subst h0
          rw [if_neg (by omega)]
          by_cases c2 : 1 ≤ x.f1 ∧ x.f1 ≤ 50
          · rw [if_pos c2]
            by_cases c3 : 0 ≤ x.f2 ∧ x.f2 ≤ 1000
            · rw [if_pos c3, if_pos (show okSample l _ x from ⟨c1, c2, c3, .inl rfl⟩)]; rfl
            · rw [if_neg c3, if_neg (show ¬ okSample l _ x from fun h => c3 h.2.2.1)]; rfl
          · rw [if_neg c2, if_neg (show ¬ okSample l _ x from fun h => c2 h.2.1)]; rfl
        · have hr' : rd_T41 l ((i - 1 : Nat) : Int) = l.getD (i - 1) z41 := getD_nat ..
          rw [if_pos (by omega), wrapd i h0 (by omega), if_pos (by omega), if_pos (by omega), hr']
          by_cases c4 : (l.getD (i - 1) z41).f0 < x.f0
          · rw [if_neg (by omega)]
            by_cases c2 : 1 ≤ x.f1 ∧ x.f1 ≤ 50
            · rw [if_pos c2]
              by_cases c3 : 0 ≤ x.f2 ∧ x.f2 ≤ 1000
              · rw [if_pos c3, if_pos (show okSample l _ x from ⟨c1, c2, c3, .inr c4⟩)]; rfl
              · rw [if_neg c3, if_neg (show ¬ okSample l _ x from fun h => c3 h.2.2.1)]; rfl
            · rw [if_neg c2, if_neg (show ¬ okSample l _ x from fun h => c2 h.2.1)]; rfl
          · rw [if_pos (by omega), if_neg (show ¬ okSample l _ x from fun h => h.2.2.2.elim (by omega) c4)]; rfl
      · rw [if_neg c1, if_neg (show ¬ okSample l _ x from fun h => c1 h.1)]; rfl)
theorem specHas_at (l : List Int) (n : Int) (hl : l.length ≤ 4611686018427387904) : ∀ k, l.length < k → spec_l14Has.f k l n = some (decide (n ∈ l)) := by
  rw [← run_has n l 0]
  exact at_loop0 (fun k _ i => spec_l14Has.l0 k l n i) l (stepHas n) (fun _ => false) hl ()
    (fun k s => by simp only [spec_l14Has.l0]; rw [if_neg (by omega)])
    (fun k s i x hx hw => by
      have hi := lt_of_get hx
      have hr : rd l (i : Int) = x := getD_of 0 hx
      simp only [spec_l14Has.l0, hr, hw]; rw [if_pos (by omega), if_pos (by omega)]
      simp only [stepHas]; split <;> rfl)
theorem implPlace_at (l : List Int) (n : Int) (hl : l.length ≤ 4611686018427387904) : ∀ k, l.length < k → impl_placeOf.f k l n = some (place n l) :=
  at_loop0 (fun k _ i => impl_placeOf.l0 k n l (l.length : Int) i) l (stepPlace n) (fun _ => -1) hl ()
    (fun k s => by simp only [impl_placeOf.l0]; rw [if_neg (by omega)])
    (fun k s i x hx hw => by
      have hi := lt_of_get hx
      have hr : rd l (i : Int) = x := getD_of 0 hx
      simp only [impl_placeOf.l0, hr, hw]; rw [if_pos (by omega), if_pos (by omega), if_pos (by omega)]
      simp only [stepPlace]; split <;> rfl)
theorem implHas_at (l : List Int) (n : Int) (hl : l.length ≤ 4611686018427387904) : ∀ k, l.length < k → impl_has.f k l n = some (decide (n ∈ l)) := fun k hk => by
  simp only [impl_has.f, implPlace_at l n hl k hk, Option.bind_some, place_has]
def stepWeight (ids : List Int) : Nat → Int → S41 → Int ⊕ Int := fun _ s x => .inr (if x.f0 ∈ ids then wrap64 (s + x.f1) else s)
def stepWorth (ids : List Int) : Nat → Int → S41 → Int ⊕ Int := fun _ s x => .inr (if x.f0 ∈ ids then wrap64 (s + x.f2) else s)
theorem implWeight_at (l : List S41) (ids : List Int) (hl : l.length ≤ 4611686018427387904) (hi : ids.length ≤ 4611686018427387904) : ∀ k, l.length + (ids.length + 1) < k → impl_WeightOf.f k l ids = some (run (stepWeight ids) id 0 0 l) :=
  at_loop (fun k s i => impl_WeightOf.l0 k ids s l (l.length : Int) i) l (stepWeight ids) id hl 0 (ids.length + 1)
    (fun k s _ => by simp only [impl_WeightOf.l0]; rw [if_neg (by omega)]; rfl)
    (fun k s i x hk hx hw => by
      have hi' := lt_of_get hx
      have hr : rd_T41 l (i : Int) = x := getD_of z41 hx
      simp only [impl_WeightOf.l0, hr, hw]; rw [if_pos (by omega), if_pos (by omega), if_pos (by omega)]
      simp only [implHas_at ids x.f0 hi k (by omega), Option.bind_some, decide_eq_true_eq, stepWeight, Sum.elim_inr]
      split <;> rfl)
theorem implWorth_at (l : List S41) (ids : List Int) (hl : l.length ≤ 4611686018427387904) (hi : ids.length ≤ 4611686018427387904) : ∀ k, l.length + (ids.length + 1) < k → impl_WorthOf.f k l ids = some (run (stepWorth ids) id 0 0 l) :=
  at_loop (fun k s i => impl_WorthOf.l0 k ids s l (l.length : Int) i) l (stepWorth ids) id hl 0 (ids.length + 1)
    (fun k s _ => by simp only [impl_WorthOf.l0]; rw [if_neg (by omega)]; rfl)
    (fun k s i x hk hx hw => by
      have hi' := lt_of_get hx
      have hr : rd_T41 l (i : Int) = x := getD_of z41 hx
      simp only [impl_WorthOf.l0, hr, hw]; rw [if_pos (by omega), if_pos (by omega), if_pos (by omega)]
      simp only [implHas_at ids x.f0 hi k (by omega), Option.bind_some, decide_eq_true_eq, stepWorth, Sum.elim_inr]
      split <;> rfl)
theorem specWorth_at (l : List S41) (ids : List Int) (hl : l.length ≤ 4611686018427387904) (hi : ids.length ≤ 4611686018427387904) : ∀ k, l.length + (ids.length + 1) < k → spec_WorthOf.f k l ids = some (run (stepWorth ids) id 0 0 l) :=
  at_loop (fun k s i => spec_WorthOf.l0 k l ids s i) l (stepWorth ids) id hl 0 (ids.length + 1)
    (fun k s _ => by simp only [spec_WorthOf.l0]; rw [if_neg (by omega)]; rfl)
    (fun k s i x hk hx hw => by
      have hi' := lt_of_get hx
      have hr : rd_T41 l (i : Int) = x := getD_of z41 hx
      simp only [spec_WorthOf.l0, hr, hw]; rw [if_pos (by omega), if_pos (by omega)]
      simp only [specHas_at ids x.f0 hi k (by omega), Option.bind_some, decide_eq_true_eq, stepWorth, Sum.elim_inr]
      split <;> rfl)
theorem runAS_iff (l0 : List S41) (b : Bool) : ∀ (t d : List S41), l0 = d ++ t → (run (stepAS l0) (fun _ => b) d.length () t = true ↔ (∀ i x, d.length ≤ i → l0[i]? = some x → okSample l0 i x) ∧ b = true)
  | [], d, h => by
    rw [run_nil]
    refine ⟨fun hb => ⟨fun i x hi hx => ?_, hb⟩, fun hb => hb.2⟩
    have := lt_of_get hx
    rw [h] at this
    simp at this
    omega
  | x :: t, d, h => by
    have hx : l0[d.length]? = some x := by rw [h]; simp
    by_cases c : okSample l0 d.length x
    · rw [run_inr (show stepAS l0 d.length () x = .inr () from if_pos c)]
      have ih := runAS_iff l0 b t (d ++ [x]) (by rw [h]; simp)
      rw [List.length_append, List.length_singleton] at ih
      rw [ih]
      refine ⟨fun hb => ⟨fun i y hi hy => ?_, hb.2⟩, fun hb => ⟨fun i y hi hy => hb.1 i y (by omega) hy, hb.2⟩⟩
      rcases Nat.lt_or_ge d.length i with h1 | h1
      · exact hb.1 i y (by omega) hy
      · obtain rfl : i = d.length := by omega
        rw [hx] at hy
        injection hy with hy
        exact hy ▸ c
    · rw [run_inl (show stepAS l0 d.length () x = .inl false from if_neg c)]
      exact ⟨fun hb => (by cases hb), fun hb => absurd (hb.1 d.length x (Nat.le_refl _) hx) c⟩
theorem mAreSamples_iff (l : List S41) : mAreSamples l = true ↔ (∀ i x, l[i]? = some x → okSample l i x) ∧ l.length ≤ 12 := by
  have h := runAS_iff l (decide ((l.length : Int) ≤ 12)) l [] rfl
  unfold mAreSamples
  rw [List.length_nil] at h
  rw [h, decide_eq_true_eq]
  exact ⟨fun h => ⟨fun i x hx => h.1 i x (Nat.zero_le _) hx, by omega⟩, fun h => ⟨fun i x _ hx => h.1 i x hx, by omega⟩⟩
theorem sample_ok {l : List S41} (h : mAreSamples l = true) {x : S41} (hx : x ∈ l) : (1 ≤ x.f0 ∧ x.f0 ≤ 99) ∧ (1 ≤ x.f1 ∧ x.f1 ≤ 50) ∧ (0 ≤ x.f2 ∧ x.f2 ≤ 1000) := by
  obtain ⟨i, hi, he⟩ := List.getElem_of_mem hx
  have := ((mAreSamples_iff l).1 h).1 i x (by rw [List.getElem?_eq_getElem hi, he])
  exact ⟨this.1, this.2.1, this.2.2.1⟩
/- the mathematics: the best load by weights, from the last sample on -/
def opt : List S41 → Int → Int
  | [], _ => 0
  | x :: t, w => if x.f1 ≤ w then mx (opt t w) (opt t (w - x.f1) + x.f2) else opt t w
def pick : List S41 → Int → List Int
  | [], _ => []
  | x :: t, w => if opt (x :: t) w = opt t w then pick t w else pick t (w - x.f1) ++ [x.f0]
def Fine (l : List S41) : Prop := ∀ x ∈ l, (1 ≤ x.f1 ∧ x.f1 ≤ 50) ∧ (0 ≤ x.f2 ∧ x.f2 ≤ 1000)
theorem Fine.tail {x : S41} {t : List S41} (h : Fine (x :: t)) : Fine t := fun y hy => h y (by simp [hy])
theorem opt_cons (x : S41) (t : List S41) (w : Int) : opt (x :: t) w = if x.f1 ≤ w then mx (opt t w) (opt t (w - x.f1) + x.f2) else opt t w := rfl
theorem pick_cons (x : S41) (t : List S41) (w : Int) : pick (x :: t) w = if opt (x :: t) w = opt t w then pick t w else pick t (w - x.f1) ++ [x.f0] := rfl
theorem opt_range : ∀ (t : List S41) (w : Int), Fine t → 0 ≤ opt t w ∧ opt t w ≤ 1000 * t.length
  | [], w, _ => by simp [opt]
  | x :: t, w, h => by
    have h1 := opt_range t w h.tail
    have h2 := opt_range t (w - x.f1) h.tail
    have h3 := (h x (by simp)).2
    rw [opt_cons, List.length_cons]
    unfold mx
    split
    · split <;> omega
    · omega
/-- A candidate: its Ids, weight, worth. -/
def cands : List S41 → List (List Int × Int × Int)
  | [] => [([], 0, 0)]
  | x :: t => cands t ++ (cands t).map fun c => (c.1 ++ [x.f0], c.2.1 + x.f1, c.2.2 + x.f2)
/-- The first of the candidates that is worth more than all before and than w, within m. -/
def scan (m : Int) : List (List Int × Int × Int) → Int → Option (List Int × Int)
  | [], _ => none
  | c :: t, w => if c.2.2 > w ∧ c.2.1 ≤ m then (match scan m t c.2.2 with | none => some (c.1, c.2.2) | some r => some r) else scan m t w
theorem scan_cons (m : Int) (c : List Int × Int × Int) (t : List (List Int × Int × Int)) (w : Int) : scan m (c :: t) w = if c.2.2 > w ∧ c.2.1 ≤ m then (match scan m t c.2.2 with | none => some (c.1, c.2.2) | some r => some r) else scan m t w := rfl
theorem scan_append (m : Int) : ∀ (a b : List (List Int × Int × Int)) (w : Int), scan m (a ++ b) w = match scan m a w with | none => scan m b w | some r => (match scan m b r.2 with | none => some r | some q => some q)
  | [], b, w => rfl
  | c :: t, b, w => by
    rw [List.cons_append, scan_cons, scan_cons]
    by_cases h : c.2.2 > w ∧ c.2.1 ≤ m
    · rw [if_pos h, if_pos h, scan_append m t b]
      cases scan m t c.2.2 with
      | none => rfl
      | some r => dsimp only; cases scan m b r.2 <;> rfl
    · rw [if_neg h, if_neg h, scan_append m t b]
theorem scan_map (m dw dv : Int) (id : Int) : ∀ (a : List (List Int × Int × Int)) (w : Int), scan m (a.map fun c => (c.1 ++ [id], c.2.1 + dw, c.2.2 + dv)) w = (scan (m - dw) a (w - dv)).map fun r => (r.1 ++ [id], r.2 + dv)
  | [], w => rfl
  | c :: t, w => by
    rw [List.map_cons, scan_cons, scan_cons]
    by_cases h : c.2.2 > w - dv ∧ c.2.1 ≤ m - dw
    · rw [if_pos h, if_pos (show c.2.2 + dv > w ∧ c.2.1 + dw ≤ m from ⟨by omega, by omega⟩), scan_map m dw dv id t]
      dsimp only
      rw [show c.2.2 + dv - dv = c.2.2 from by omega]
      cases scan (m - dw) t c.2.2 <;> rfl
    · rw [if_neg h, if_neg (show ¬ (c.2.2 + dv > w ∧ c.2.1 + dw ≤ m) from fun h' => h ⟨by omega, by omega⟩), scan_map m dw dv id t]
theorem scan_cands : ∀ (t : List S41) (m w : Int), Fine t → scan m (cands t) w = if 0 ≤ m ∧ opt t m > w then some (pick t m, opt t m) else none
  | [], m, w, _ => by
    show (if (0 : Int) > w ∧ (0 : Int) ≤ m then some (([] : List Int), (0 : Int)) else none) = (if 0 ≤ m ∧ (0 : Int) > w then some (([] : List Int), (0 : Int)) else none)
    by_cases h : 0 ≤ m ∧ (0 : Int) > w
    · rw [if_pos ⟨h.2, h.1⟩, if_pos h]
    · rw [if_neg (fun h' => h ⟨h'.2, h'.1⟩), if_neg h]
  | x :: t, m, w, hf => by
    have hx := (hf x (by simp)).1
    have hv := (hf x (by simp)).2
    have ih1 := scan_cands t m w hf.tail
    have r1 := opt_range t m hf.tail
    unfold cands
    rw [scan_append, ih1]
    have second : ∀ u : Int, scan m ((cands t).map fun c => (c.1 ++ [x.f0], c.2.1 + x.f1, c.2.2 + x.f2)) u = if 0 ≤ m - x.f1 ∧ opt t (m - x.f1) > u - x.f2 then some (pick t (m - x.f1) ++ [x.f0], opt t (m - x.f1) + x.f2) else none := by
      intro u
      rw [scan_map, scan_cands t (m - x.f1) (u - x.f2) hf.tail]
      split <;> rfl
    rw [opt_cons, pick_cons, opt_cons]
    by_cases hm : 0 ≤ m
    · by_cases h1 : opt t m > w
      · rw [if_pos ⟨hm, h1⟩]
        simp only [second]
        by_cases h2 : 0 ≤ m - x.f1 ∧ opt t (m - x.f1) > opt t m - x.f2
        · rw [if_pos h2, if_pos (show x.f1 ≤ m by omega)]
          have e : mx (opt t m) (opt t (m - x.f1) + x.f2) = opt t (m - x.f1) + x.f2 := by unfold mx; split <;> omega
          rw [e, if_pos ⟨hm, by omega⟩, if_neg (by omega)]
        · rw [if_neg h2]
          have e : (if x.f1 ≤ m then mx (opt t m) (opt t (m - x.f1) + x.f2) else opt t m) = opt t m := by
            split
            · unfold mx; split <;> omega
            · rfl
          rw [e, if_pos ⟨hm, h1⟩, if_pos rfl]
      · rw [if_neg (fun h => h1 h.2)]
        simp only [second]
        by_cases h2 : 0 ≤ m - x.f1 ∧ opt t (m - x.f1) > w - x.f2
        · rw [if_pos h2, if_pos (show x.f1 ≤ m by omega)]
          have e : mx (opt t m) (opt t (m - x.f1) + x.f2) = opt t (m - x.f1) + x.f2 := by unfold mx; split <;> omega
          rw [e, if_pos ⟨hm, by omega⟩, if_neg (by omega)]
        · rw [if_neg h2, if_neg]
          rintro ⟨_, h3⟩
          split at h3
          · unfold mx at h3; split at h3 <;> omega
          · omega
    · rw [if_neg (fun h => hm h.1)]
      simp only [second]
      rw [if_neg (by omega), if_neg (fun h => hm h.1)]
/- the sets of samples, by their numbers -/
def selAt : Nat → List S41 → Nat → List Int
  | _, [], _ => []
  | i, x :: t, s => if s.testBit i = true then x.f0 :: selAt (i + 1) t s else selAt (i + 1) t s
theorem selAt_cons (i : Nat) (x : S41) (t : List S41) (s : Nat) : selAt i (x :: t) s = if s.testBit i = true then x.f0 :: selAt (i + 1) t s else selAt (i + 1) t s := rfl
def sumAt (g : S41 → Int) : Nat → List S41 → Nat → Int
  | _, [], _ => 0
  | i, x :: t, s => if s.testBit i = true then g x + sumAt g (i + 1) t s else sumAt g (i + 1) t s
theorem sumAt_cons (g : S41 → Int) (i : Nat) (x : S41) (t : List S41) (s : Nat) : sumAt g i (x :: t) s = if s.testBit i = true then g x + sumAt g (i + 1) t s else sumAt g (i + 1) t s := rfl
theorem selAt_snoc (x : S41) (s : Nat) : ∀ (p : List S41) (i : Nat), selAt i (p ++ [x]) s = selAt i p s ++ (if s.testBit (i + p.length) = true then [x.f0] else [])
  | [], i => by
    simp only [List.nil_append, selAt, List.length_nil, Nat.add_zero]
  | y :: p, i => by
    rw [List.cons_append, List.length_cons, selAt_cons, selAt_cons, selAt_snoc x s p (i + 1), show i + 1 + p.length = i + (p.length + 1) from by omega]
    by_cases h : s.testBit i = true
    · rw [if_pos h, if_pos h, List.cons_append]
    · rw [if_neg h, if_neg h]
theorem sumAt_snoc (g : S41 → Int) (x : S41) (s : Nat) : ∀ (p : List S41) (i : Nat), sumAt g i (p ++ [x]) s = sumAt g i p s + (if s.testBit (i + p.length) = true then g x else 0)
  | [], i => by
    simp only [List.nil_append, sumAt, List.length_nil, Nat.add_zero]
    split <;> omega
  | y :: p, i => by
    rw [List.cons_append, List.length_cons, sumAt_cons, sumAt_cons, sumAt_snoc g x s p (i + 1), show i + 1 + p.length = i + (p.length + 1) from by omega]
    by_cases h : s.testBit i = true
    · rw [if_pos h, if_pos h]; omega
    · rw [if_neg h, if_neg h]
theorem selAt_congr (s s' : Nat) : ∀ (p : List S41) (i : Nat), (∀ j, i ≤ j → j < i + p.length → s.testBit j = s'.testBit j) → selAt i p s = selAt i p s'
  | [], _, _ => rfl
  | y :: p, i, h => by
    rw [List.length_cons] at h
    rw [selAt_cons, selAt_cons, h i (Nat.le_refl _) (by omega), selAt_congr s s' p (i + 1) (fun j h1 h2 => h j (by omega) (by omega))]
theorem sumAt_congr (g : S41 → Int) (s s' : Nat) : ∀ (p : List S41) (i : Nat), (∀ j, i ≤ j → j < i + p.length → s.testBit j = s'.testBit j) → sumAt g i p s = sumAt g i p s'
  | [], _, _ => rfl
  | y :: p, i, h => by
    rw [List.length_cons] at h
    rw [sumAt_cons, sumAt_cons, h i (Nat.le_refl _) (by omega), sumAt_congr g s s' p (i + 1) (fun j h1 h2 => h j (by omega) (by omega))]
def candOf (l : List S41) (s : Nat) : List Int × Int × Int := (selAt 0 l s, sumAt (·.f1) 0 l s, sumAt (·.f2) 0 l s)
theorem range_twice (n : Nat) : List.range (2 ^ (n + 1)) = List.range (2 ^ n) ++ (List.range (2 ^ n)).map (2 ^ n + ·) := by
  rw [Nat.pow_succ, Nat.mul_two, List.range_add]
theorem cands_eq : ∀ (t : List S41), cands t = (List.range (2 ^ t.length)).map (candOf t.reverse)
  | [] => rfl
  | x :: t => by
    unfold cands
    rw [cands_eq t, List.length_cons, range_twice, List.map_append, List.map_map, List.map_map, List.reverse_cons]
    congr 1
    · refine List.map_congr_left fun s hs => ?_
      have hs' : s < 2 ^ t.length := List.mem_range.1 hs
      have hb : s.testBit t.length = false := Nat.testBit_lt_two_pow hs'
      unfold candOf
      simp only [selAt_snoc, sumAt_snoc, Nat.zero_add, List.length_reverse, hb, Bool.false_eq_true, if_false, List.append_nil, Int.add_zero]
    · refine List.map_congr_left fun s hs => ?_
      have hs' : s < 2 ^ t.length := List.mem_range.1 hs
      have hb : (2 ^ t.length + s).testBit t.length = true := by rw [Nat.testBit_two_pow_add_eq, Nat.testBit_lt_two_pow hs']; rfl
      have hlow : ∀ j, 0 ≤ j → j < 0 + t.reverse.length → (2 ^ t.length + s).testBit j = s.testBit j := fun j _ hj => Nat.testBit_two_pow_add_gt (by simpa using hj) s
      simp only [Function.comp, candOf, selAt_snoc, sumAt_snoc, Nat.zero_add, List.length_reverse, hb, if_true, selAt_congr _ _ t.reverse 0 hlow, sumAt_congr _ _ _ t.reverse 0 hlow]
/- which sample is in a set: by its Id, as Ids ascend -/
def Asc (l : List S41) : Prop := ∀ (i j : Nat) (a b : S41), i < j → l[i]? = some a → l[j]? = some b → a.f0 < b.f0
theorem asc_of {l : List S41} (h : mAreSamples l = true) : Asc l := by
  have hs := ((mAreSamples_iff l).1 h).1
  intro i j a b hij ha hb
  obtain ⟨d, rfl⟩ : ∃ d, j = i + 1 + d := ⟨j - i - 1, by omega⟩
  clear hij
  induction d generalizing b with
  | zero =>
    have h1 := (hs (i + 1) b hb).2.2.2
    rcases h1 with h1 | h1
    · omega
    · rw [Nat.add_sub_cancel, getD_get z41 ha] at h1
      exact h1
  | succ d ih =>
    have hlt := lt_of_get hb
    have hc : l[i + 1 + d]? = some l[i + 1 + d] := List.getElem?_eq_getElem (by omega)
    have h2 := ih _ hc
    have h1 := (hs (i + 1 + (d + 1)) b hb).2.2.2
    rcases h1 with h1 | h1
    · omega
    · rw [show i + 1 + (d + 1) - 1 = i + 1 + d from by omega, getD_get z41 hc] at h1
      omega
theorem mem_selAt (l : List S41) (hA : Asc l) (s : Nat) : ∀ (t d : List S41), l = d ++ t → ∀ n, n ∈ selAt d.length t s ↔ ∃ i x, d.length ≤ i ∧ l[i]? = some x ∧ s.testBit i = true ∧ x.f0 = n
  | [], d, h, n => by
    refine ⟨fun hn => (by cases hn), fun hn => ?_⟩
    obtain ⟨i, x, hi, hx, _⟩ := hn
    have := lt_of_get hx
    rw [h] at this
    simp at this
    omega
  | y :: t, d, h, n => by
    have hy : l[d.length]? = some y := by rw [h]; simp
    have ih := mem_selAt l hA s t (d ++ [y]) (by rw [h]; simp) n
    rw [List.length_append, List.length_singleton] at ih
    have key : (∃ i x, d.length ≤ i ∧ l[i]? = some x ∧ s.testBit i = true ∧ x.f0 = n) ↔ (s.testBit d.length = true ∧ y.f0 = n) ∨ ∃ i x, d.length + 1 ≤ i ∧ l[i]? = some x ∧ s.testBit i = true ∧ x.f0 = n := by
      constructor
      · rintro ⟨i, x, hi, hx, hb, hn⟩
        rcases Nat.lt_or_ge d.length i with h1 | h1
        · exact .inr ⟨i, x, h1, hx, hb, hn⟩
        · obtain rfl : i = d.length := by omega
          rw [hy] at hx
          injection hx with hx
          subst hx
          exact .inl ⟨hb, hn⟩
      · rintro (⟨hb, hn⟩ | ⟨i, x, hi, hx, hb, hn⟩)
        · exact ⟨d.length, y, Nat.le_refl _, hy, hb, hn⟩
        · exact ⟨i, x, by omega, hx, hb, hn⟩
    rw [key, ← ih, selAt_cons]
    by_cases hb : s.testBit d.length = true
    · rw [if_pos hb, List.mem_cons]
      constructor
      · rintro (h1 | h1)
        · exact .inl ⟨hb, h1.symm⟩
        · exact .inr h1
      · rintro (⟨_, h1⟩ | h1)
        · exact .inl h1.symm
        · exact .inr h1
    · rw [if_neg hb]
      exact ⟨fun h1 => .inr h1, fun h1 => h1.elim (fun h2 => absurd h2.1 hb) id⟩
theorem mem_sel (l : List S41) (hA : Asc l) (s i : Nat) (x : S41) (hx : l[i]? = some x) : x.f0 ∈ selAt 0 l s ↔ s.testBit i = true := by
  have h := mem_selAt l hA s l [] rfl x.f0
  rw [List.length_nil] at h
  rw [h]
  constructor
  · rintro ⟨j, y, _, hy, hb, hn⟩
    rcases Nat.lt_trichotomy i j with h1 | h1 | h1
    · have := hA i j x y h1 hx hy
      omega
    · exact h1 ▸ hb
    · have := hA j i y x h1 hy hx
      omega
  · intro hb
    exact ⟨i, x, Nat.zero_le _, hx, hb, rfl⟩
theorem sumAt_range (g : S41 → Int) (s : Nat) : ∀ (t : List S41) (i : Nat), (∀ x ∈ t, 0 ≤ g x ∧ g x ≤ 1000) → 0 ≤ sumAt g i t s ∧ sumAt g i t s ≤ 1000 * t.length
  | [], _, _ => by simp [sumAt]
  | x :: t, i, h => by
    have h1 := sumAt_range g s t (i + 1) (fun y hy => h y (by simp [hy]))
    have h2 := h x (by simp)
    rw [List.length_cons, sumAt_cons]
    split <;> omega
theorem run_sum (g : S41 → Int) (f : Nat → Int → S41 → Int ⊕ Int) (l : List S41) (hA : Asc l) (s : Nat) (hg : ∀ x ∈ l, 0 ≤ g x ∧ g x ≤ 1000) (hl : l.length ≤ 12)
    (hf : ∀ i a x, f i a x = .inr (if x.f0 ∈ selAt 0 l s then wrap64 (a + g x) else a)) : ∀ (t d : List S41) (a : Int), l = d ++ t → 0 ≤ a → a ≤ 1000 * d.length → run f id d.length a t = a + sumAt g d.length t s
  | [], d, a, _, _, _ => by simp [run, sumAt]
  | x :: t, d, a, h, h0, h1 => by
    have hx : l[d.length]? = some x := by rw [h]; simp
    have hgx := hg x (by rw [h]; simp)
    have hlen : l.length = d.length + (t.length + 1) := by rw [h]; simp
    have ih := fun a => run_sum g f l hA s hg hl hf t (d ++ [x]) a (by rw [h]; simp)
    rw [List.length_append, List.length_singleton] at ih
    rw [sumAt_cons]
    by_cases hb : s.testBit d.length = true
    · rw [run_inr (s' := a + g x) (by rw [hf, if_pos ((mem_sel l hA s d.length x hx).2 hb), wrap_id (by omega) (by omega)]), ih _ (by omega) (by omega), if_pos hb]
      omega
    · rw [run_inr (s' := a) (by rw [hf, if_neg (fun h' => hb ((mem_sel l hA s d.length x hx).1 h'))]), ih _ h0 (by omega), if_neg hb]
theorem worth_sel (l : List S41) (h : mAreSamples l = true) (s : Nat) : run (stepWorth (selAt 0 l s)) id 0 0 l = sumAt (·.f2) 0 l s := by
  have h1 := run_sum (·.f2) (stepWorth (selAt 0 l s)) l (asc_of h) s (fun x hx => (sample_ok h hx).2.2) ((mAreSamples_iff l).1 h).2 (fun _ _ _ => rfl) l [] 0 rfl (by omega) (by omega)
  rw [List.length_nil, Int.zero_add] at h1
  exact h1
theorem weight_sel (l : List S41) (h : mAreSamples l = true) (s : Nat) : run (stepWeight (selAt 0 l s)) id 0 0 l = sumAt (·.f1) 0 l s := by
  have h1 := run_sum (·.f1) (stepWeight (selAt 0 l s)) l (asc_of h) s (fun x hx => by have := (sample_ok h hx).2.1; omega) ((mAreSamples_iff l).1 h).2 (fun _ _ _ => rfl) l [] 0 rfl (by omega) (by omega)
  rw [List.length_nil, Int.zero_add] at h1
  exact h1
def mBest (l : List S41) (most : Int) : List Int := if mAreSamples l = true ∧ 0 ≤ most ∧ most ≤ 1000 then pick l.reverse most else []
theorem pick_len : ∀ (t : List S41) (w : Int), (pick t w).length ≤ t.length
  | [], _ => by simp [pick]
  | x :: t, w => by
    have h1 := pick_len t w
    have h2 := pick_len t (w - x.f1)
    rw [pick_cons, List.length_cons]
    split
    · omega
    · simp; omega
theorem mBest_len (l : List S41) (most : Int) : (mBest l most).length ≤ l.length := by
  unfold mBest
  split
  · have := pick_len l.reverse most
    rw [List.length_reverse] at this
    exact this
  · simp
theorem selAt_len (s : Nat) : ∀ (t : List S41) (i : Nat), (selAt i t s).length ≤ t.length
  | [], _ => by simp [selAt]
  | x :: t, i => by
    have := selAt_len s t (i + 1)
    rw [selAt_cons]
    split
    · simp; omega
    · simp; omega
theorem bit_test (s i : Nat) (hs : s < 4096) (hi : i < 12) : (Go.bits .and .i64 (shr .i64 (s : Int) (i : Int)) 1 = 1) ↔ s.testBit i = true := by
  have e1 : shr .i64 (s : Int) (i : Int) = ((s / 2 ^ i : Nat) : Int) := by
    unfold shr
    rw [Int.toNat_natCast, Nat.min_eq_left (show i ≤ IntKind.i64.bits from Nat.le_trans (Nat.le_of_lt hi) (by decide)), Int.natCast_ediv]
    congr 1
  have hlt : s / 2 ^ i < 4096 := Nat.lt_of_le_of_lt (Nat.div_le_self _ _) hs
  rw [e1, Nat.testBit_eq_decide_div_mod_eq]
  generalize s / 2 ^ i = q at hlt
  have hq : (q : Int) < 2 ^ 12 := by
    have h12 : (2 : Int) ^ 12 = 4096 := by decide
    rw [h12]
    omega
  have e2 := bits_mask .i64 12 (by decide) (fun n h0 h1 => by rw [IntKind.wrap_i64]; omega) 1 (by decide) (q : Int) (by omega) hq
  rw [show (2 : Int) ^ 1 - 1 = 1 from by decide, show (2 : Int) ^ 1 = 2 from by decide] at e2
  rw [e2, decide_eq_true_eq]
  omega
theorem shl_one (n : Nat) (h : n ≤ 12) : shl .i64 1 (n : Int) = ((2 ^ n : Nat) : Int) := by
  unfold shl
  rw [Int.toNat_natCast, Nat.min_eq_left (show n ≤ IntKind.i64.bits from Nat.le_trans h (by decide)), Int.one_mul, IntKind.wrap_i64]
  have hp : 2 ^ n ≤ 4096 := Nat.le_trans (Nat.pow_le_pow_right (by decide) h) (by decide)
  have e : (2 : Int) ^ n = ((2 ^ n : Nat) : Int) := (Int.natCast_pow 2 n).symm
  rw [e]
  generalize 2 ^ n = p at hp
  omega
/-- The inner loop: the Ids of a set; behind it the rest goes on. -/
theorem implB_in (l : List S41) (most : Int) (best : List Int) (worth : Int) (s : Nat) (N : Int) (hl : l.length ≤ 12) (hs : s < 4096) (r : List Int)
    (hr : Ev (fun k => (impl_WorthOf.f k l (selAt 0 l s)).bind fun t193 => (if t193 > worth then ((impl_WeightOf.f k l (selAt 0 l s)).bind fun t194 => (if t194 ≤ most then (impl_BestLoad.l0 k l most (selAt 0 l s) t193 N (wrap64 ((s : Int) + 1))) else (impl_BestLoad.l0 k l most best worth N (wrap64 ((s : Int) + 1))))) else (impl_BestLoad.l0 k l most best worth N (wrap64 ((s : Int) + 1))))) r) :
    ∀ (t d : List S41) (ids : List Int), l = d ++ t → ids ++ selAt d.length t s = selAt 0 l s → Ev (fun k => impl_BestLoad.l1 k l most best worth (s : Int) ids N (s : Int) l (l.length : Int) (d.length : Int)) r
  | [], d, ids, h, hids => by
    have hlen : l.length = d.length := by rw [h]; simp
    rw [show selAt d.length [] s = [] from rfl, List.append_nil] at hids
    subst hids
    refine Ev.step (fun k => ?_) hr
    simp only [impl_BestLoad.l1]
    rw [if_neg (by omega)]
  | x :: t, d, ids, h, hids => by
    have hlen : l.length = d.length + (t.length + 1) := by rw [h]; simp
    have hx : l[d.length]? = some x := by rw [h]; simp
    have e0 : rd_T41 l (d.length : Int) = x := getD_of z41 hx
    have hil : ids.length ≤ 12 := by
      have := congrArg List.length hids
      rw [List.length_append] at this
      have := selAt_len s l 0
      omega
    rw [selAt_cons] at hids
    have ih := fun ids' hh => implB_in l most best worth s N hl hs r hr t (d ++ [x]) ids' (by rw [h]; simp) hh
    rw [List.length_append, List.length_singleton, show ((d.length + 1 : Nat) : Int) = (d.length : Int) + 1 from by omega] at ih
    have hbt := bit_test s d.length hs (by omega)
    by_cases hb : s.testBit d.length = true
    · rw [if_pos hb] at hids
      refine Ev.step (fun k => ?_) (ih (ids ++ [x.f0]) (by simpa using hids))
      simp only [impl_BestLoad.l1, e0, wrapi d.length (by omega)]
      rw [if_pos (by omega), if_pos (by omega), if_pos (by omega), if_pos (hbt.2 hb), if_pos (by omega)]
    · rw [if_neg hb] at hids
      refine Ev.step (fun k => ?_) (ih ids hids)
      simp only [impl_BestLoad.l1, e0, wrapi d.length (by omega)]
      rw [if_pos (by omega), if_pos (by omega), if_pos (by omega), if_neg (fun h' => hb (hbt.1 h'))]
theorem implB_out (l : List S41) (most : Int) (ha : mAreSamples l = true) : ∀ (d s : Nat) (best : List Int) (worth : Int), s + d = 2 ^ l.length →
    Ev (fun k => impl_BestLoad.l0 k l most best worth ((2 ^ l.length : Nat) : Int) (s : Int)) (match scan most (((List.range (2 ^ l.length)).drop s).map (candOf l)) worth with | none => best | some q => q.1)
  | 0, s, best, worth, hs => by
    rw [List.drop_eq_nil_of_le (by simp; omega)]
    refine Ev.step (f := fun _ => some best) (fun k => ?_) (Ev.now _)
    simp only [impl_BestLoad.l0]
    rw [if_neg (by omega)]
  | d + 1, s, best, worth, hs => by
    have hl := ((mAreSamples_iff l).1 ha).2
    have hp : 2 ^ l.length ≤ 4096 := Nat.le_trans (Nat.pow_le_pow_right (by decide) hl) (by decide)
    have hsel := selAt_len s l 0
    have e1 : ((List.range (2 ^ l.length)).drop s).map (candOf l) = candOf l s :: ((List.range (2 ^ l.length)).drop (s + 1)).map (candOf l) := by
      rw [List.drop_eq_getElem_cons (by simp; omega), List.map_cons, List.getElem_range]
    refine Ev.step (f := fun k => impl_BestLoad.l1 k l most best worth (s : Int) [] ((2 ^ l.length : Nat) : Int) (s : Int) l (l.length : Int) 0) (fun k => ?_) ?_
    · simp only [impl_BestLoad.l0]
      rw [if_pos (by omega)]
    refine implB_in l most best worth s _ hl (by omega) _ ?_ l [] [] rfl rfl
    refine Ev.bind (ev_at (implWorth_at l _ (by omega) (by omega))) ?_
    rw [worth_sel l ha s, e1, wrapi s (by omega)]
    have ih := implB_out l most ha d (s + 1)
    rw [show ((s + 1 : Nat) : Int) = (s : Int) + 1 from by omega] at ih
    rw [scan_cons]
    show Ev (fun k => if sumAt (·.f2) 0 l s > worth then _ else _) (match (if sumAt (·.f2) 0 l s > worth ∧ sumAt (·.f1) 0 l s ≤ most then (match scan most (((List.range (2 ^ l.length)).drop (s + 1)).map (candOf l)) (sumAt (·.f2) 0 l s) with | none => some (selAt 0 l s, sumAt (·.f2) 0 l s) | some r => some r) else scan most (((List.range (2 ^ l.length)).drop (s + 1)).map (candOf l)) worth) with | none => best | some q => q.1)
    by_cases c1 : sumAt (·.f2) 0 l s > worth
    · simp only [if_pos c1]
      refine Ev.bind (ev_at (implWeight_at l _ (by omega) (by omega))) ?_
      rw [weight_sel l ha s]
      by_cases c2 : sumAt (·.f1) 0 l s ≤ most
      · simp only [if_pos c2]
        rw [if_pos ⟨c1, c2⟩]
        have := ih (selAt 0 l s) (sumAt (·.f2) 0 l s) (by omega)
        cases hsc : scan most (((List.range (2 ^ l.length)).drop (s + 1)).map (candOf l)) (sumAt (·.f2) 0 l s) with
        | none => rw [hsc] at this; exact this
        | some q => rw [hsc] at this; exact this
      · simp only [if_neg c2]
        rw [if_neg (fun h => c2 h.2)]
        exact ih best worth (by omega)
    · simp only [if_neg c1]
      rw [if_neg (fun h => c1 h.1)]
      exact ih best worth (by omega)
theorem implBest_ev (l : List S41) (most : Int) (hl : l.length ≤ 1048576) : Ev (fun k => impl_BestLoad.f k l most) (mBest l most) := by
  unfold impl_BestLoad.f mBest
  refine Ev.bind (ev_at (implAS_at l (by omega))) ?_
  have hbad : Ev (fun k => impl_BestLoad.j0 k l most true) [] := Ev.step (f := fun _ => some []) (fun k => by simp [impl_BestLoad.j0]) (Ev.now _)
  cases ha : mAreSamples l with
  | false => rw [if_neg (by simp)]; exact hbad
  | true =>
    simp only [if_true, InRange_eq, Option.bind_some]
    by_cases h : 0 ≤ most ∧ most ≤ 1000
    · rw [if_pos ⟨trivial, h⟩, decide_eq_true h]
      have hn := ((mAreSamples_iff l).1 ha).2
      refine Ev.step (f := fun k => impl_BestLoad.l0 k l most [] 0 ((2 ^ l.length : Nat) : Int) 0) (fun k => by simp [impl_BestLoad.j0, shl_one l.length hn]) ?_
      have h1 := implB_out l most ha (2 ^ l.length) 0 [] 0 (by omega)
      have hF : Fine l.reverse := fun x hx => (sample_ok ha (List.mem_reverse.1 hx)).2
      have h2 := scan_cands l.reverse most 0 hF
      rw [cands_eq, List.length_reverse, List.reverse_reverse] at h2
      rw [List.drop_zero, h2] at h1
      by_cases c : opt l.reverse most > 0
      · rw [if_pos ⟨h.1, c⟩] at h1
        exact h1
      · rw [if_neg (fun h' => c h'.2)] at h1
        have e : pick l.reverse most = [] := by
          have key : ∀ (t : List S41) (w : Int), Fine t → ¬ opt t w > 0 → pick t w = [] := by
            intro t
            induction t with
            | nil => intro w _ _; rfl
            | cons x t ih =>
              intro w hF hw
              have r1 := opt_range t w hF.tail
              have r2 := opt_range (x :: t) w hF
              have r3 : opt t w ≤ opt (x :: t) w := by
                rw [opt_cons]
                split
                · unfold mx; split <;> omega
                · omega
              rw [pick_cons, if_pos (by omega), ih w hF.tail (by omega)]
          exact key _ _ hF c
        rw [e]
        exact h1
    · rw [if_neg (fun h' => h h'.2), decide_eq_false h]
      exact hbad
def rowOf (t : List S41) (m : Nat) : List Int := (List.range (m + 1)).map fun (j : Nat) => opt t (j : Int)
def mixRow (x : S41) (t : List S41) (m w : Nat) : List Int := (List.range (m + 1)).map fun (j : Nat) => if j < w then opt (x :: t) (j : Int) else opt t (j : Int)
theorem specMax_eq (a b : Int) : spec_Max.f a b = some (mx a b) := by
  unfold spec_Max.f mx
  by_cases h : b > a
  · rw [if_pos h, if_pos (by omega)]
  · rw [if_neg h, if_neg (by omega)]
theorem rowOf_get (t : List S41) (m j : Nat) (h : j ≤ m) : (rowOf t m)[j]? = some (opt t (j : Int)) := by
  unfold rowOf
  rw [List.getElem?_map, List.getElem?_range (by omega)]
  rfl
theorem mixRow_get (x : S41) (t : List S41) (m w j : Nat) (h : j ≤ m) : (mixRow x t m w)[j]? = some (if j < w then opt (x :: t) (j : Int) else opt t (j : Int)) := by
  unfold mixRow
  rw [List.getElem?_map, List.getElem?_range (by omega)]
  rfl
theorem mixRow_set (x : S41) (t : List S41) (m w : Nat) (h : w ≤ m) : (mixRow x t m w).set w (opt (x :: t) (w : Int)) = mixRow x t m (w + 1) := by
  apply List.ext_getElem?
  intro j
  rcases Nat.lt_or_ge m j with hj | hj
  · rw [List.getElem?_eq_none (by simp [mixRow]; omega), List.getElem?_eq_none (by simp [mixRow]; omega)]
  · rw [mixRow_get x t m (w + 1) j hj]
    by_cases e : j = w
    · subst e
      rw [List.getElem?_set_self (by simp [mixRow]; omega), if_pos (by omega)]
    · rw [List.getElem?_set_ne (Ne.symm e), mixRow_get x t m w j hj]
      congr 1
      by_cases c : j < w
      · rw [if_pos c, if_pos (by omega)]
      · rw [if_neg c, if_neg (by omega)]
theorem spec1_down (l : List S41) (m : Nat) (hm : m ≤ 1000) (d : List S41) (x : S41) (t : List S41) (h : l = d ++ x :: t) (hl : l.length ≤ 12) (hx : 1 ≤ x.f1 ∧ x.f1 ≤ 50) (hF : Fine d.reverse) (hv : 0 ≤ x.f2 ∧ x.f2 ≤ 1000) (rows : List (List Int)) (hrows : rows[d.length]? = some (rowOf d.reverse m)) (hrl : rows.length ≤ 13) (r : List (List Int))
    (hr : Ev (fun k => spec_l22Best.l0 k l (m : Int) (rows ++ [rowOf (x :: d.reverse) m]) ((d.length : Int) + 1)) r) : ∀ (n w : Nat), w + n = m + 1 → x.f1 ≤ w →
    Ev (fun k => spec_l22Best.l1 k l (m : Int) rows (d.length : Int) (mixRow x d.reverse m w) (w : Int)) r
  | 0, w, hw, hxw => by
    have e : mixRow x d.reverse m w = rowOf (x :: d.reverse) m := by
      unfold mixRow rowOf
      refine List.map_congr_left fun j hj => ?_
      have := List.mem_range.1 hj
      rw [if_pos (by omega)]
    rw [e]
    have hlen : l.length = d.length + (t.length + 1) := by rw [h]; simp
    refine Ev.step (fun k => ?_) hr
    simp only [spec_l22Best.l1, wrapi d.length (by omega)]
    rw [if_neg (by omega), if_pos (by omega)]
  | n + 1, w, hw, hxw => by
    have hlen : l.length = d.length + (t.length + 1) := by rw [h]; simp
    have hxl : l[d.length]? = some x := by rw [h]; simp
    have e0 : rd_T41 l (d.length : Int) = x := getD_of z41 hxl
    have e1 : rd_L3 rows (d.length : Int) = rowOf d.reverse m := getD_of [] hrows
    have hrow := lt_of_get hrows
    obtain ⟨u, hu⟩ : ∃ u : Nat, (w : Int) - x.f1 = u := ⟨((w : Int) - x.f1).toNat, by omega⟩
    have e2 : wrap64 ((w : Int) - x.f1) = (u : Int) := by rw [wrap_id (by omega) (by omega), hu]
    have e3 : rd (mixRow x d.reverse m w) (w : Int) = opt d.reverse (w : Int) := by
      have := getD_of 0 (mixRow_get x d.reverse m w w (by omega))
      rw [if_neg (by omega)] at this
      exact this
    have e4 : rd (rowOf d.reverse m) (u : Int) = opt d.reverse (u : Int) := getD_of 0 (rowOf_get d.reverse m u (by omega))
    have r1 := opt_range d.reverse (u : Int) hF
    rw [List.length_reverse] at r1
    have e5 : wrap64 (opt d.reverse (u : Int) + x.f2) = opt d.reverse (u : Int) + x.f2 := wrap_id (by omega) (by omega)
    have hml : (mixRow x d.reverse m w).length = m + 1 := by simp [mixRow]
    have hrl2 : (rowOf d.reverse m).length = m + 1 := by simp [rowOf]
    have ih := spec1_down l m hm d x t h hl hx hF hv rows hrows hrl r hr n (w + 1) (by omega) (by omega)
    rw [← mixRow_set x d.reverse m w (by omega), show ((w + 1 : Nat) : Int) = (w : Int) + 1 from by omega] at ih
    refine Ev.step (fun k => ?_) ih
    simp only [spec_l22Best.l1, e0, e1, e2, e3, e4, e5, specMax_eq, Option.bind_some, wrapi w (by omega)]
    rw [if_pos (by omega), if_pos (by omega), if_pos (by omega), if_pos (by omega), if_pos (by omega), if_pos (by omega), if_pos (by omega), if_pos (by omega), Int.toNat_natCast, opt_cons, if_pos (by omega), hu]
def rowsOf (l : List S41) (m n : Nat) : List (List Int) := (List.range (n + 1)).map fun j => rowOf (l.take j).reverse m
theorem rowsOf_get (l : List S41) (m n j : Nat) (h : j ≤ n) : (rowsOf l m n)[j]? = some (rowOf (l.take j).reverse m) := by
  unfold rowsOf
  rw [List.getElem?_map, List.getElem?_range (by omega)]
  rfl
theorem spec0_down (l : List S41) (m : Nat) (hm : m ≤ 1000) (ha : mAreSamples l = true) : ∀ (t d : List S41), l = d ++ t → Ev (fun k => spec_l22Best.l0 k l (m : Int) (rowsOf l m d.length) (d.length : Int)) (rowsOf l m l.length)
  | [], d, h => by
    have hlen : l.length = d.length := by rw [h]; simp
    rw [hlen]
    refine Ev.step (f := fun _ => some (rowsOf l m d.length)) (fun k => ?_) (Ev.now _)
    simp only [spec_l22Best.l0]
    rw [if_neg (by omega)]
  | x :: t, d, h => by
    have hl := ((mAreSamples_iff l).1 ha).2
    have hlen : l.length = d.length + (t.length + 1) := by rw [h]; simp
    have hx : l[d.length]? = some x := by rw [h]; simp
    have e0 : rd_T41 l (d.length : Int) = x := getD_of z41 hx
    have hok := sample_ok ha (x := x) (by rw [h]; simp)
    have htk : l.take d.length = d := by rw [h]; simp
    have htk' : l.take (d.length + 1) = d ++ [x] := by rw [h, List.take_append, List.take_of_length_le (by omega)]; simp
    have hF : Fine d.reverse := fun y hy => (sample_ok ha (by rw [h]; exact List.mem_append_left _ (List.mem_reverse.1 hy))).2
    have hg : (rowsOf l m d.length)[d.length]? = some (rowOf d.reverse m) := by rw [rowsOf_get l m _ _ (Nat.le_refl _), htk]
    have e1 : rd_L3 (rowsOf l m d.length) (d.length : Int) = rowOf d.reverse m := getD_of [] hg
    have hrl : (rowsOf l m d.length).length = d.length + 1 := by simp [rowsOf]
    have hrw : (rowOf d.reverse m).length = m + 1 := by simp [rowOf]
    have ih := spec0_down l m hm ha t (d ++ [x]) (by rw [h]; simp)
    rw [List.length_append, List.length_singleton, show ((d.length + 1 : Nat) : Int) = (d.length : Int) + 1 from by omega] at ih
    have e2 : rowsOf l m (d.length + 1) = rowsOf l m d.length ++ [rowOf (x :: d.reverse) m] := by
      unfold rowsOf
      rw [List.range_succ (n := d.length + 1), List.map_append, List.map_singleton, htk', List.reverse_append]
      rfl
    rw [e2] at ih
    obtain ⟨w, hw⟩ : ∃ w : Nat, x.f1 = w := ⟨x.f1.toNat, by omega⟩
    refine Ev.step (f := fun k => spec_l22Best.l1 k l (m : Int) (rowsOf l m d.length) (d.length : Int) (rowOf d.reverse m) x.f1) (fun k => ?_) ?_
    · simp only [spec_l22Best.l0, e0, e1, Option.bind_some, List.nil_append]
      rw [if_pos (by omega), if_pos (by omega), if_pos (by omega), if_pos (by simp only [List.length_nil]; omega)]
    · have e3 : rowOf d.reverse m = mixRow x d.reverse m w := by
        unfold mixRow rowOf
        refine List.map_congr_left fun j hj => ?_
        by_cases c : j < w
        · rw [if_pos c, opt_cons, if_neg (by omega)]
        · rw [if_neg c]
      by_cases hwm : w ≤ m + 1
      · have := spec1_down l m hm d x t h hl hok.2.1 hF hok.2.2 (rowsOf l m d.length) hg (by omega) _ ih (m + 1 - w) w (by omega) (by omega)
        rw [← e3, ← hw] at this
        exact this
      · refine Ev.step (fun k => ?_) ih
        have e4 : rowOf (x :: d.reverse) m = rowOf d.reverse m := by
          unfold rowOf
          refine List.map_congr_left fun j hj => ?_
          have := List.mem_range.1 hj
          rw [opt_cons, if_neg (by omega)]
        simp only [spec_l22Best.l1, wrapi d.length (by omega), e4]
        rw [if_neg (by omega), if_pos (by omega)]
theorem specRows_ev (l : List S41) (m : Nat) (hm : m ≤ 1000) (ha : mAreSamples l = true) : Ev (fun k => spec_l22Best.f k l (m : Int)) (rowsOf l m l.length) := by
  have h := spec0_down l m hm ha l [] rfl
  refine Ev.congr (fun k => ?_) h
  have e : rowsOf l m ([] : List S41).length = [List.replicate (m + 1) 0] := by
    unfold rowsOf
    show [rowOf ([] : List S41).reverse m] = _
    congr 1
    unfold rowOf
    simp only [List.reverse_nil, opt]
    rw [List.map_const', List.length_range]
  simp only [spec_l22Best.f, wrapi m (by omega), e]
  rw [if_pos (by omega), if_pos (by omega), show ((m : Int) + 1).toNat = m + 1 from by omega]
  rfl
theorem specB_down (l : List S41) (m : Nat) (hm : m ≤ 1000) (ha : mAreSamples l = true) : ∀ (n : Nat) (w k : Nat) (out : List Int), n ≤ l.length → w ≤ m → out.length + n ≤ 12 → n < k →
    spec_BestLoad.l0 k l out (rowsOf l m l.length) (w : Int) ((n : Int) - 1) = some (pick (l.take n).reverse (w : Int) ++ out)
  | 0, w, k, out, _, _, _, hk => by
    obtain ⟨k, rfl⟩ : ∃ m, k = m + 1 := ⟨k - 1, by omega⟩
    simp only [spec_BestLoad.l0]
    rw [if_neg (by omega)]
    rfl
  | n + 1, w, k, out, hn, hw, ho, hk => by
    obtain ⟨k, rfl⟩ : ∃ m, k = m + 1 := ⟨k - 1, by omega⟩
    have hl := ((mAreSamples_iff l).1 ha).2
    have e : (((n + 1 : Nat) : Int) - 1) = (n : Int) := by omega
    have hx : l[n]? = some l[n] := List.getElem?_eq_getElem (by omega)
    have hok := sample_ok ha (List.mem_of_getElem? hx)
    have e0 : rd_T41 l (n : Int) = l[n] := getD_of z41 hx
    have htk : (l.take (n + 1)).reverse = l[n] :: (l.take n).reverse := by rw [List.take_succ_eq_append_getElem (by omega), List.reverse_append]; rfl
    have e1 : rd_L3 (rowsOf l m l.length) (n : Int) = rowOf (l.take n).reverse m := getD_of [] (rowsOf_get l m _ n (by omega))
    have e2 : rd_L3 (rowsOf l m l.length) ((n : Int) + 1) = rowOf (l[n] :: (l.take n).reverse) m := by
      rw [← htk, show (n : Int) + 1 = ((n + 1 : Nat) : Int) from by omega]
      exact getD_of [] (rowsOf_get l m _ (n + 1) (by omega))
    have e3 : ∀ t : List S41, rd (rowOf t m) (w : Int) = opt t (w : Int) := fun t => getD_of 0 (rowOf_get t m w hw)
    have hrl : (rowsOf l m l.length).length = l.length + 1 := by simp [rowsOf]
    have hrw : ∀ t : List S41, (rowOf t m).length = m + 1 := fun t => by simp [rowOf]
    have w1 : wrap64 ((n : Int) - 1) = (n : Int) - 1 := wrap_id (by omega) (by omega)
    simp only [spec_BestLoad.l0, e, e0, wrapi n (by omega), e1, e2, e3, w1, hrw]
    rw [if_pos (by omega), if_pos (by omega), if_pos (by omega), if_pos (by omega), if_pos (by omega), if_pos (by omega), if_pos (by omega), if_pos (by omega), htk, pick_cons]
    by_cases c : opt (l[n] :: (l.take n).reverse) (w : Int) = opt (l.take n).reverse (w : Int)
    · rw [if_pos c, if_pos c]
      exact specB_down l m hm ha n w k out (by omega) hw (by omega) (by omega)
    · have hle : l[n].f1 ≤ (w : Int) := by
        refine Decidable.byContradiction fun h' => c ?_
        rw [opt_cons, if_neg h']
      obtain ⟨u, hu⟩ : ∃ u : Nat, (w : Int) - l[n].f1 = u := ⟨((w : Int) - l[n].f1).toNat, by omega⟩
      rw [if_neg c, if_neg c, if_pos (by omega)]
      simp only [Option.bind_some]
      rw [if_pos (by simp only [List.length_cons, List.length_nil]; omega), wrap_id (by omega) (by omega), hu, specB_down l m hm ha n u k _ (by omega) (by omega) (by simp; omega) (by omega)]
      simp
theorem specBest_ev (l : List S41) (most : Int) (hl : l.length ≤ 1048576) : Ev (fun k => spec_BestLoad.f k l most) (mBest l most) := by
  unfold spec_BestLoad.f mBest
  simp only [Option.bind_some]
  refine Ev.bind (ev_at (specAS_at l (by omega))) ?_
  have hbad : Ev (fun k => spec_BestLoad.j0 k l most [] true) [] := Ev.step (f := fun _ => some []) (fun k => by simp [spec_BestLoad.j0]) (Ev.now _)
  cases ha : mAreSamples l with
  | false => rw [if_neg (by simp)]; exact hbad
  | true =>
    simp only [if_true, l1In_eq, Option.bind_some]
    by_cases h : 0 ≤ most ∧ most ≤ 1000
    · rw [if_pos ⟨trivial, h⟩, decide_eq_true h]
      have hn := ((mAreSamples_iff l).1 ha).2
      obtain ⟨m, rfl⟩ := Int.eq_ofNat_of_zero_le h.1
      refine Ev.step (f := fun k => (spec_l22Best.f k l (m : Int)).bind fun t138 => spec_BestLoad.l0 k l [] t138 (m : Int) (wrap64 ((l.length : Int) - 1))) (fun k => by simp [spec_BestLoad.j0]) ?_
      refine Ev.bind (specRows_ev l m (by omega) ha) ?_
      rw [wrap_id (by omega) (by omega)]
      refine ev_at (K := l.length) fun k hk => ?_
      have := specB_down l m (by omega) ha l.length m k [] (Nat.le_refl _) (Nat.le_refl _) (by simpa using hn) hk
      rw [List.take_length, List.append_nil] at this
      exact this
    · rw [if_neg (fun h' => h h'.2), decide_eq_false h]
      exact hbad
end FnExactBestWorthPf
open FnExactBestWorthPf
theorem FnExactBestWorth : ∀ (l0 : List S65) (a1 : Int), l0.length ≤ maxLen → (∀ y ∈ l0, (I64 y.f0 ∧ I64 y.f1 ∧ I64 y.f2)) → I64 a1 → ∃ k, laws_FnExactBestWorth.f k l0 a1 = some true := by
  intro l0 a1 hl _ _
  apply Ev.rounds (g := fun k => laws_FnExactBestWorth.f k l0 a1)
  unfold laws_FnExactBestWorth.f
  simp only [szSampleS_eq l0 1048576 hl (by omega) (by omega), Option.bind_some]
  by_cases h : (1048576 : Int) - (l0.length : Int) < 0
  · simp only [if_pos h]; exact Ev.now _
  · simp only [if_neg h]
    have hlen : (l0.map cvSample).length = l0.length := List.length_map ..
    have hm := mBest_len (l0.map cvSample) a1
    have h1 : Ev (fun k => spec_BestWorth.f k (l0.map cvSample) a1) (run (stepWorth (mBest (l0.map cvSample) a1)) id 0 0 (l0.map cvSample)) := by
      unfold spec_BestWorth.f
      refine Ev.bind (specBest_ev _ _ (by omega)) ?_
      refine Ev.bind (ev_at (specWorth_at _ _ (by omega) (by omega))) ?_
      exact Ev.now _
    have h2 : Ev (fun k => impl_BestWorth.f k (l0.map cvSample) a1) (run (stepWorth (mBest (l0.map cvSample) a1)) id 0 0 (l0.map cvSample)) := by
      unfold impl_BestWorth.f
      refine Ev.bind (implBest_ev _ _ (by omega)) ?_
      refine Ev.bind (ev_at (implWorth_at _ _ (by omega) (by omega))) ?_
      exact Ev.now _
    refine Ev.bind (toSampleS_ev l0 (by omega)) ?_
    refine Ev.bind h1 ?_
    refine Ev.bind (toSampleS_ev l0 (by omega)) ?_
    refine Ev.bind h2 ?_
    simp only [if_true]
    refine Ev.bind (toSampleS_ev l0 (by omega)) ?_
    refine Ev.bind (eqSampleS_ev _ (by omega)) ?_
    exact Ev.now _
end Go.Proofs.Ytnoakpmlnhmfbaa.Pure
