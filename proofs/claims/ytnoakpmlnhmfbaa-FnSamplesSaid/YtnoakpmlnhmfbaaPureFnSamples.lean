/- FnSamples: the pure statement of the law, over the printed functions. No condition beyond the statement's own. -/
import Derived.Test.YtnoakpmlnhmfbaaSFnSamplesx7
import Derived.Test.YtnoakpmlnhmfbaaLib
import Derived.Test.YtnoakpmlnhmfbaaOpens
namespace Go.Proofs.Ytnoakpmlnhmfbaa.Pure
open Go.RowKit Go.Proofs.Ytnoakpmlnhmfbaa.PFnSamples Go.Proofs.YtnoakpmlnhmfbaaW.PrintWords Go.Proofs.YtnoakpmlnhmfbaaW.PrintLast Go.Proofs.Ytnoakpmlnhmfbaa.Lib Go.Proofs.Ytnoakpmlnhmfbaa.Opens
set_option linter.unusedVariables false
set_option linter.unusedSimpArgs false
namespace FnSamplesPf
theorem l1In_eq (a b c : Int) : spec_l1In.f a b c = some (decide (b ≤ a ∧ a ≤ c)) := by
  unfold spec_l1In.f
  by_cases h : a ≥ b
  · rw [if_pos h]; simp [h]
  · rw [if_neg h]; simp [show ¬ (b ≤ a) from by omega]
theorem InRange_eq (a b c : Int) : impl_InRange.f a b c = some (decide (b ≤ a ∧ a ≤ c)) := by
  unfold impl_InRange.f
  by_cases h : b ≤ a
  · rw [if_pos h]; simp [h]
  · rw [if_neg h]; simp [h]
theorem implPlace_at (l : List Int) (n : Int) (hl : l.length ≤ 4611686018427387904) : ∀ k, l.length < k → impl_placeOf.f k l n = some (place n l) :=
  at_loop0 (fun k _ i => impl_placeOf.l0 k n l (l.length : Int) i) l (stepPlace n) (fun _ => -1) hl ()
    (fun k s => by simp only [impl_placeOf.l0]; rw [if_neg (by omega)])
    (fun k s i x hx hw => by
      have hi := lt_of_get hx
      have hr : rd l (i : Int) = x := getD_of 0 hx
      simp only [impl_placeOf.l0, hr, hw]; rw [if_pos (by omega), if_pos (by omega), if_pos (by omega)]
      simp only [stepPlace]; split <;> rfl)
theorem implHas_at (l : List Int) (n : Int) (hl : l.length ≤ 4611686018427387904) : ∀ k, l.length < k → impl_has.f k l n = some (decide (n ∈ l)) := fun k hk => by
  simp only [impl_has.f, implPlace_at l n hl k hk, Option.bind_some, place_has]
def okSample (l : List S41) (i : Nat) (x : S41) : Prop := (1 ≤ x.f0 ∧ x.f0 ≤ 99) ∧ (1 ≤ x.f1 ∧ x.f1 ≤ 50) ∧ (0 ≤ x.f2 ∧ x.f2 ≤ 1000) ∧ (i = 0 ∨ (l.getD (i - 1) z41).f0 < x.f0)
instance (l : List S41) (i : Nat) (x : S41) : Decidable (okSample l i x) := by unfold okSample; infer_instance
def stepAS (l : List S41) : Nat → Unit → S41 → Bool ⊕ Unit := fun i _ x => if okSample l i x then .inr () else .inl false
def mAreSamples (l : List S41) : Bool := run (stepAS l) (fun _ => decide ((l.length : Int) ≤ 12)) 0 () l
theorem specAS_at (l : List S41) (hl : l.length ≤ 4611686018427387904) : ∀ k, l.length < k → spec_AreSamples.f k l = some (mAreSamples l) :=
  at_loop0 (fun k _ i => spec_AreSamples.l0 k l i) l (stepAS l) _ hl ()
    (fun k s => by simp only [spec_AreSamples.l0]; rw [if_neg (by omega)])
    (fun k s i x hx hw => by
      have hi := lt_of_get hx
      have hr : rd_T41 l (i : Int) = x := getD_of z41 hx
      simp only [spec_AreSamples.l0, hr, hw, l1In_eq, Option.bind_some, decide_eq_true_eq]; rw [if_pos (by omega), if_pos (by omega)]
      simp only [stepAS]
      by_cases c1 : 1 ≤ x.f0 ∧ x.f0 ≤ 99
      · by_cases c2 : 1 ≤ x.f1 ∧ x.f1 ≤ 50
        · by_cases c3 : 0 ≤ x.f2 ∧ x.f2 ≤ 1000
          · rw [if_pos c1, if_pos c2, if_pos c3]
            rcases Nat.eq_zero_or_pos i with h0 | h0
            · subst h0
              rw [if_neg (by omega), if_pos (show okSample l _ x from ⟨c1, c2, c3, .inl rfl⟩)]; rfl
            · have hr' : rd_T41 l ((i - 1 : Nat) : Int) = l.getD (i - 1) z41 := getD_nat ..
              rw [if_pos (by omega), wrapd i h0 (by omega), if_pos (by omega), if_pos (by omega), hr']
              by_cases c4 : (l.getD (i - 1) z41).f0 < x.f0
              · rw [if_neg (by omega), if_pos (show okSample l _ x from ⟨c1, c2, c3, .inr c4⟩)]; rfl
              · rw [if_pos (by omega), if_neg (show ¬ okSample l _ x from fun h => h.2.2.2.elim (by omega) c4)]; rfl
          · rw [if_pos c1, if_pos c2, if_neg c3, if_neg (show ¬ okSample l _ x from fun h => c3 h.2.2.1)]; rfl
        · rw [if_pos c1, if_neg c2, if_neg (show ¬ okSample l _ x from fun h => c2 h.2.1)]; rfl
      · rw [if_neg c1, if_neg (show ¬ okSample l _ x from fun h => c1 h.1)]; rfl)
theorem implAS_at (l : List S41) (hl : l.length ≤ 4611686018427387904) : ∀ k, l.length < k → impl_AreSamples.f k l = some (mAreSamples l) :=
  at_loop0 (fun k _ i => impl_AreSamples.l0 k l l (l.length : Int) i) l (stepAS l) _ hl ()
    (fun k s => by simp only [impl_AreSamples.l0]; rw [if_neg (by omega)])
    (fun k s i x hx hw => by
      have hi := lt_of_get hx
      have hr : rd_T41 l (i : Int) = x := getD_of z41 hx
      simp only [impl_AreSamples.l0, hr, hw, InRange_eq, Option.bind_some, decide_eq_true_eq]; rw [if_pos (by omega), if_pos (by omega), if_pos (by omega)]
      simp only [stepAS]
      by_cases c1 : 1 ≤ x.f0 ∧ x.f0 ≤ 99
      · rw [if_pos c1]
        rcases Nat.eq_zero_or_pos i with h0 | h0
        · subst h0
          rw [if_neg (by omega)]
          by_cases c2 : 1 ≤ x.f1 ∧ x.f1 ≤ 50
          · rw [if_pos c2]
            by_cases c3 : 0 ≤ x.f2 ∧ x.f2 ≤ 1000
            · rw [if_pos c3, if_pos (show okSample l _ x from ⟨c1, c2, c3, .inl rfl⟩)]; rfl
            · rw [if_neg c3, if_neg (show ¬ okSample l _ x from fun h => c3 h.2.2.1)]; rfl
          · rw [if_neg c2, if_neg (show ¬ okSample l _ x from fun h => c2 h.2.1)]; rfl
        · have hr' : rd_T41 l ((i - 1 : Nat) : Int) = l.getD (i - 1) z41 := getD_nat ..
          rw [if_pos (by omega), wrapd i h0 (by omega), if_pos (by omega), if_pos (by omega), hr']
          by_cases c4 : (l.getD (i - 1) z41).f0 < x.f0
          · rw [if_neg (by omega)]
            by_cases c2 : 1 ≤ x.f1 ∧ x.f1 ≤ 50
            · rw [if_pos c2]
              by_cases c3 : 0 ≤ x.f2 ∧ x.f2 ≤ 1000
              · rw [if_pos c3, if_pos (show okSample l _ x from ⟨c1, c2, c3, .inr c4⟩)]; rfl
              · rw [if_neg c3, if_neg (show ¬ okSample l _ x from fun h => c3 h.2.2.1)]; rfl
            · rw [if_neg c2, if_neg (show ¬ okSample l _ x from fun h => c2 h.2.1)]; rfl
          · rw [if_pos (by omega), if_neg (show ¬ okSample l _ x from fun h => h.2.2.2.elim (by omega) c4)]; rfl
      · rw [if_neg c1, if_neg (show ¬ okSample l _ x from fun h => c1 h.1)]; rfl)
theorem runAS_iff (l0 : List S41) (b : Bool) : ∀ (t d : List S41), l0 = d ++ t → (run (stepAS l0) (fun _ => b) d.length () t = true ↔ (∀ i x, d.length ≤ i → l0[i]? = some x → okSample l0 i x) ∧ b = true)
  | [], d, h => by
    rw [run_nil]
    refine ⟨fun hb => ⟨fun i x hi hx => ?_, hb⟩, fun hb => hb.2⟩
    have := lt_of_get hx
    rw [h] at this
    simp at this
    omega
  | x :: t, d, h => by
    have hx : l0[d.length]? = some x := by rw [h]; simp
    by_cases c : okSample l0 d.length x
    · rw [run_inr (show stepAS l0 d.length () x = .inr () from if_pos c)]
      have ih := runAS_iff l0 b t (d ++ [x]) (by rw [h]; simp)
      rw [List.length_append, List.length_singleton] at ih
      rw [ih]
      refine ⟨fun hb => ⟨fun i y hi hy => ?_, hb.2⟩, fun hb => ⟨fun i y hi hy => hb.1 i y (by omega) hy, hb.2⟩⟩
      rcases Nat.lt_or_ge d.length i with h1 | h1
      · exact hb.1 i y (by omega) hy
      · obtain rfl : i = d.length := by omega
        rw [hx] at hy
        injection hy with hy
        exact hy ▸ c
    · rw [run_inl (show stepAS l0 d.length () x = .inl false from if_neg c)]
      exact ⟨fun hb => (by cases hb), fun hb => absurd (hb.1 d.length x (Nat.le_refl _) hx) c⟩
theorem mAreSamples_iff (l : List S41) : mAreSamples l = true ↔ (∀ i x, l[i]? = some x → okSample l i x) ∧ l.length ≤ 12 := by
  have h := runAS_iff l (decide ((l.length : Int) ≤ 12)) l [] rfl
  unfold mAreSamples
  rw [List.length_nil] at h
  rw [h, decide_eq_true_eq]
  exact ⟨fun h => ⟨fun i x hx => h.1 i x (Nat.zero_le _) hx, by omega⟩, fun h => ⟨fun i x _ hx => h.1 i x hx, by omega⟩⟩
theorem sample_ok {l : List S41} (h : mAreSamples l = true) {x : S41} (hx : x ∈ l) : (1 ≤ x.f0 ∧ x.f0 ≤ 99) ∧ (1 ≤ x.f1 ∧ x.f1 ≤ 50) ∧ (0 ≤ x.f2 ∧ x.f2 ≤ 1000) := by
  obtain ⟨i, hi, he⟩ := List.getElem_of_mem hx
  have := ((mAreSamples_iff l).1 h).1 i x (by rw [List.getElem?_eq_getElem hi, he])
  exact ⟨this.1, this.2.1, this.2.2.1⟩
def stepWeight (ids : List Int) : Nat → Int → S41 → Int ⊕ Int := fun _ s x => .inr (if x.f0 ∈ ids then wrap64 (s + x.f1) else s)
def stepWorth (ids : List Int) : Nat → Int → S41 → Int ⊕ Int := fun _ s x => .inr (if x.f0 ∈ ids then wrap64 (s + x.f2) else s)
theorem implWeight_at (l : List S41) (ids : List Int) (hl : l.length ≤ 4611686018427387904) (hi : ids.length ≤ 4611686018427387904) : ∀ k, l.length + (ids.length + 1) < k → impl_WeightOf.f k l ids = some (run (stepWeight ids) id 0 0 l) :=
  at_loop (fun k s i => impl_WeightOf.l0 k ids s l (l.length : Int) i) l (stepWeight ids) id hl 0 (ids.length + 1)
    (fun k s _ => by simp only [impl_WeightOf.l0]; rw [if_neg (by omega)]; rfl)
    (fun k s i x hk hx hw => by
      have hi' := lt_of_get hx
      have hr : rd_T41 l (i : Int) = x := getD_of z41 hx
      simp only [impl_WeightOf.l0, hr, hw]; rw [if_pos (by omega), if_pos (by omega), if_pos (by omega)]
      simp only [implHas_at ids x.f0 hi k (by omega), Option.bind_some, decide_eq_true_eq, stepWeight, Sum.elim_inr]
      split <;> rfl)
theorem implWorth_at (l : List S41) (ids : List Int) (hl : l.length ≤ 4611686018427387904) (hi : ids.length ≤ 4611686018427387904) : ∀ k, l.length + (ids.length + 1) < k → impl_WorthOf.f k l ids = some (run (stepWorth ids) id 0 0 l) :=
  at_loop (fun k s i => impl_WorthOf.l0 k ids s l (l.length : Int) i) l (stepWorth ids) id hl 0 (ids.length + 1)
    (fun k s _ => by simp only [impl_WorthOf.l0]; rw [if_neg (by omega)]; rfl)
    (fun k s i x hk hx hw => by
      have hi' := lt_of_get hx
      have hr : rd_T41 l (i : Int) = x := getD_of z41 hx
      simp only [impl_WorthOf.l0, hr, hw]; rw [if_pos (by omega), if_pos (by omega), if_pos (by omega)]
      simp only [implHas_at ids x.f0 hi k (by omega), Option.bind_some, decide_eq_true_eq, stepWorth, Sum.elim_inr]
      split <;> rfl)
/- the mathematics: the best load by weights, from the last sample on -/
def opt : List S41 → Int → Int
  | [], _ => 0
  | x :: t, w => if x.f1 ≤ w then mx (opt t w) (opt t (w - x.f1) + x.f2) else opt t w
def pick : List S41 → Int → List Int
  | [], _ => []
  | x :: t, w => if opt (x :: t) w = opt t w then pick t w else pick t (w - x.f1) ++ [x.f0]
def Fine (l : List S41) : Prop := ∀ x ∈ l, (1 ≤ x.f1 ∧ x.f1 ≤ 50) ∧ (0 ≤ x.f2 ∧ x.f2 ≤ 1000)
theorem Fine.tail {x : S41} {t : List S41} (h : Fine (x :: t)) : Fine t := fun y hy => h y (by simp [hy])
theorem opt_cons (x : S41) (t : List S41) (w : Int) : opt (x :: t) w = if x.f1 ≤ w then mx (opt t w) (opt t (w - x.f1) + x.f2) else opt t w := rfl
theorem pick_cons (x : S41) (t : List S41) (w : Int) : pick (x :: t) w = if opt (x :: t) w = opt t w then pick t w else pick t (w - x.f1) ++ [x.f0] := rfl
theorem opt_range : ∀ (t : List S41) (w : Int), Fine t → 0 ≤ opt t w ∧ opt t w ≤ 1000 * t.length
  | [], w, _ => by simp [opt]
  | x :: t, w, h => by
    have h1 := opt_range t w h.tail
    have h2 := opt_range t (w - x.f1) h.tail
    have h3 := (h x (by simp)).2
    rw [opt_cons, List.length_cons]
    unfold mx
    split
    · split <;> omega
    · omega
/-- A candidate: its Ids, weight, worth. -/
def cands : List S41 → List (List Int × Int × Int)
  | [] => [([], 0, 0)]
  | x :: t => cands t ++ (cands t).map fun c => (c.1 ++ [x.f0], c.2.1 + x.f1, c.2.2 + x.f2)
/-- The first of the candidates that is worth more than all before and than w, within m. -/
def scan (m : Int) : List (List Int × Int × Int) → Int → Option (List Int × Int)
  | [], _ => none
  | c :: t, w => if c.2.2 > w ∧ c.2.1 ≤ m then (match scan m t c.2.2 with | none => some (c.1, c.2.2) | some r => some r) else scan m t w
theorem scan_cons (m : Int) (c : List Int × Int × Int) (t : List (List Int × Int × Int)) (w : Int) : scan m (c :: t) w = if c.2.2 > w ∧ c.2.1 ≤ m then (match scan m t c.2.2 with | none => some (c.1, c.2.2) | some r => some r) else scan m t w := rfl
theorem scan_append (m : Int) : ∀ (a b : List (List Int × Int × Int)) (w : Int), scan m (a ++ b) w = match scan m a w with | none => scan m b w | some r => (match scan m b r.2 with | none => some r | some q => some q)
  | [], b, w => rfl
  | c :: t, b, w => by
    rw [List.cons_append, scan_cons, scan_cons]
    by_cases h : c.2.2 > w ∧ c.2.1 ≤ m
    · rw [if_pos h, if_pos h, scan_append m t b]
      cases scan m t c.2.2 with
      | none => rfl
      | some r => dsimp only; cases scan m b r.2 <;> rfl
    · rw [if_neg h, if_neg h, scan_append m t b]
theorem scan_map (m dw dv : Int) (id : Int) : ∀ (a : List (List Int × Int × Int)) (w : Int), scan m (a.map fun c => (c.1 ++ [id], c.2.1 + dw, c.2.2 + dv)) w = (scan (m - dw) a (w - dv)).map fun r => (r.1 ++ [id], r.2 + dv)
  | [], w => rfl
  | c :: t, w => by
    rw [List.map_cons, scan_cons, scan_cons]
    by_cases h : c.2.2 > w - dv ∧ c.2.1 ≤ m - dw
    · rw [if_pos h, if_pos (show c.2.2 + dv > w ∧ c.2.1 + dw ≤ m from ⟨by omega, by omega⟩), scan_map m dw dv id t]
      dsimp only
      rw [show c.2.2 + dv - dv = c.2.2 from by omega]
      cases scan (m - dw) t c.2.2 <;> rfl
    · rw [if_neg h, if_neg (show ¬ (c.2.2 + dv > w ∧ c.2.1 + dw ≤ m) from fun h' => h ⟨by omega, by omega⟩), scan_map m dw dv id t]
theorem scan_cands : ∀ (t : List S41) (m w : Int), Fine t → scan m (cands t) w = if 0 ≤ m ∧ opt t m > w then some (pick t m, opt t m) else none
  | [], m, w, _ => by
    show (if (0 : Int) > w ∧ (0 : Int) ≤ m then some (([] : List Int), (0 : Int)) else none) = (if 0 ≤ m ∧ (0 : Int) > w then some (([] : List Int), (0 : Int)) else none)
    by_cases h : 0 ≤ m ∧ (0 : Int) > w
    · rw [if_pos ⟨h.2, h.1⟩, if_pos h]
    · rw [if_neg (fun h' => h ⟨h'.2, h'.1⟩), if_neg h]
  | x :: t, m, w, hf => by
    have hx := (hf x (by simp)).1
    have hv := (hf x (by simp)).2
    have ih1 := scan_cands t m w hf.tail
    have r1 := opt_range t m hf.tail
    unfold cands
    rw [scan_append, ih1]
    have second : ∀ u : Int, scan m ((cands t).map fun c => (c.1 ++ [x.f0], c.2.1 + x.f1, c.2.2 + x.f2)) u = if 0 ≤ m - x.f1 ∧ opt t (m - x.f1) > u - x.f2 then some (pick t (m - x.f1) ++ [x.f0], opt t (m - x.f1) + x.f2) else none := by
      intro u
      rw [scan_map, scan_cands t (m - x.f1) (u - x.f2) hf.tail]
      split <;> rfl
    rw [opt_cons, pick_cons, opt_cons]
    by_cases hm : 0 ≤ m
    · by_cases h1 : opt t m > w
      · rw [if_pos ⟨hm, h1⟩]
        simp only [second]
        by_cases h2 : 0 ≤ m - x.f1 ∧ opt t (m - x.f1) > opt t m - x.f2
        · rw [if_pos h2, if_pos (show x.f1 ≤ m by omega)]
          have e : mx (opt t m) (opt t (m - x.f1) + x.f2) = opt t (m - x.f1) + x.f2 := by unfold mx; split <;> omega
          rw [e, if_pos ⟨hm, by omega⟩, if_neg (by omega)]
        · rw [if_neg h2]
          have e : (if x.f1 ≤ m then mx (opt t m) (opt t (m - x.f1) + x.f2) else opt t m) = opt t m := by
            split
            · unfold mx; split <;> omega
            · rfl
          rw [e, if_pos ⟨hm, h1⟩, if_pos rfl]
      · rw [if_neg (fun h => h1 h.2)]
        simp only [second]
        by_cases h2 : 0 ≤ m - x.f1 ∧ opt t (m - x.f1) > w - x.f2
        · rw [if_pos h2, if_pos (show x.f1 ≤ m by omega)]
          have e : mx (opt t m) (opt t (m - x.f1) + x.f2) = opt t (m - x.f1) + x.f2 := by unfold mx; split <;> omega
          rw [e, if_pos ⟨hm, by omega⟩, if_neg (by omega)]
        · rw [if_neg h2, if_neg]
          rintro ⟨_, h3⟩
          split at h3
          · unfold mx at h3; split at h3 <;> omega
          · omega
    · rw [if_neg (fun h => hm h.1)]
      simp only [second]
      rw [if_neg (by omega), if_neg (fun h => hm h.1)]
/- the sets of samples, by their numbers -/
def selAt : Nat → List S41 → Nat → List Int
  | _, [], _ => []
  | i, x :: t, s => if s.testBit i = true then x.f0 :: selAt (i + 1) t s else selAt (i + 1) t s
theorem selAt_cons (i : Nat) (x : S41) (t : List S41) (s : Nat) : selAt i (x :: t) s = if s.testBit i = true then x.f0 :: selAt (i + 1) t s else selAt (i + 1) t s := rfl
def sumAt (g : S41 → Int) : Nat → List S41 → Nat → Int
  | _, [], _ => 0
  | i, x :: t, s => if s.testBit i = true then g x + sumAt g (i + 1) t s else sumAt g (i + 1) t s
theorem sumAt_cons (g : S41 → Int) (i : Nat) (x : S41) (t : List S41) (s : Nat) : sumAt g i (x :: t) s = if s.testBit i = true then g x + sumAt g (i + 1) t s else sumAt g (i + 1) t s := rfl
theorem selAt_snoc (x : S41) (s : Nat) : ∀ (p : List S41) (i : Nat), selAt i (p ++ [x]) s = selAt i p s ++ (if s.testBit (i + p.length) = true then [x.f0] else [])
  | [], i => by
    simp only [List.nil_append, selAt, List.length_nil, Nat.add_zero]
  | y :: p, i => by
    rw [List.cons_append, List.length_cons, selAt_cons, selAt_cons, selAt_snoc x s p (i + 1), show i + 1 + p.length = i + (p.length + 1) from by omega]
    by_cases h : s.testBit i = true
    · rw [if_pos h, if_pos h, List.cons_append]
    · rw [if_neg h, if_neg h]
theorem sumAt_snoc (g : S41 → Int) (x : S41) (s : Nat) : ∀ (p : List S41) (i : Nat), sumAt g i (p ++ [x]) s = sumAt g i p s + (if s.testBit (i + p.length) = true then g x else 0)
  | [], i => by
    simp only [List.nil_append, sumAt, List.length_nil, Nat.add_zero]
    split <;> omega
  | y :: p, i => by
    rw [List.cons_append, List.length_cons, sumAt_cons, sumAt_cons, sumAt_snoc g x s p (i + 1), show i + 1 + p.length = i + (p.length + 1) from by omega]
    by_cases h : s.testBit i = true
    · rw [if_pos h, if_pos h]; omega
    · rw [if_neg h, if_neg h]
theorem selAt_congr (s s' : Nat) : ∀ (p : List S41) (i : Nat), (∀ j, i ≤ j → j < i + p.length → s.testBit j = s'.testBit j) → selAt i p s = selAt i p s'
  | [], _, _ => rfl
  | y :: p, i, h => by
    rw [List.length_cons] at h
    rw [selAt_cons, selAt_cons, h i (Nat.le_refl _) (by omega), selAt_congr s s' p (i + 1) (fun j h1 h2 => h j (by omega) (by omega))]
theorem sumAt_congr (g : S41 → Int) (s s' : Nat) : ∀ (p : List S41) (i : Nat), (∀ j, i ≤ j → j < i + p.length → s.testBit j = s'.testBit j) → sumAt g i p s = sumAt g i p s'
  | [], _, _ => rfl
  | y :: p, i, h => by
    rw [List.length_cons] at h
    rw [sumAt_cons, sumAt_cons, h i (Nat.le_refl _) (by omega), sumAt_congr g s s' p (i + 1) (fun j h1 h2 => h j (by omega) (by omega))]
def candOf (l : List S41) (s : Nat) : List Int × Int × Int := (selAt 0 l s, sumAt (·.f1) 0 l s, sumAt (·.f2) 0 l s)
theorem range_twice (n : Nat) : List.range (2 ^ (n + 1)) = List.range (2 ^ n) ++ (List.range (2 ^ n)).map (2 ^ n + ·) := by
  rw [Nat.pow_succ, Nat.mul_two, List.range_add]
theorem cands_eq : ∀ (t : List S41), cands t = (List.range (2 ^ t.length)).map (candOf t.reverse)
  | [] => rfl
  | x :: t => by
    unfold cands
    rw [cands_eq t, List.length_cons, range_twice, List.map_append, List.map_map, List.map_map, List.reverse_cons]
    congr 1
    · refine List.map_congr_left fun s hs => ?_
      have hs' : s < 2 ^ t.length := List.mem_range.1 hs
      have hb : s.testBit t.length = false := Nat.testBit_lt_two_pow hs'
      unfold candOf
      simp only [selAt_snoc, sumAt_snoc, Nat.zero_add, List.length_reverse, hb, Bool.false_eq_true, if_false, List.append_nil, Int.add_zero]
    · refine List.map_congr_left fun s hs => ?_
      have hs' : s < 2 ^ t.length := List.mem_range.1 hs
      have hb : (2 ^ t.length + s).testBit t.length = true := by rw [Nat.testBit_two_pow_add_eq, Nat.testBit_lt_two_pow hs']; rfl
      have hlow : ∀ j, 0 ≤ j → j < 0 + t.reverse.length → (2 ^ t.length + s).testBit j = s.testBit j := fun j _ hj => Nat.testBit_two_pow_add_gt (by simpa using hj) s
      simp only [Function.comp, candOf, selAt_snoc, sumAt_snoc, Nat.zero_add, List.length_reverse, hb, if_true, selAt_congr _ _ t.reverse 0 hlow, sumAt_congr _ _ _ t.reverse 0 hlow]
/- which sample is in a set: by its Id, as Ids ascend -/
def Asc (l : List S41) : Prop := ∀ (i j : Nat) (a b : S41), i < j → l[i]? = some a → l[j]? = some b → a.f0 < b.f0
theorem asc_of {l : List S41} (h : mAreSamples l = true) : Asc l := by
  have hs := ((mAreSamples_iff l).1 h).1
  intro i j a b hij ha hb
  obtain ⟨d, rfl⟩ : ∃ d, j = i + 1 + d := ⟨j - i - 1, by omega⟩
  clear hij
  induction d generalizing b with
  | zero =>
    have h1 := (hs (i + 1) b hb).2.2.2
    rcases h1 with h1 | h1
    · omega
    · rw [Nat.add_sub_cancel, getD_get z41 ha] at h1
      exact h1
  | succ d ih =>
    have hlt := lt_of_get hb
    have hc : l[i + 1 + d]? = some l[i + 1 + d] := List.getElem?_eq_getElem (by omega)
    have h2 := ih _ hc
    have h1 := (hs (i + 1 + (d + 1)) b hb).2.2.2
    rcases h1 with h1 | h1
    · omega
    · rw [show i + 1 + (d + 1) - 1 = i + 1 + d from by omega, getD_get z41 hc] at h1
      omega
theorem mem_selAt (l : List S41) (hA : Asc l) (s : Nat) : ∀ (t d : List S41), l = d ++ t → ∀ n, n ∈ selAt d.length t s ↔ ∃ i x, d.length ≤ i ∧ l[i]? = some x ∧ s.testBit i = true ∧ x.f0 = n
  | [], d, h, n => by
    refine ⟨fun hn => (by cases hn), fun hn => ?_⟩
    obtain ⟨i, x, hi, hx, _⟩ := hn
    have := lt_of_get hx
    rw [h] at this
    simp at this
    omega
  | y :: t, d, h, n => by
    have hy : l[d.length]? = some y := by rw [h]; simp
    have ih := mem_selAt l hA s t (d ++ [y]) (by rw [h]; simp) n
    rw [List.length_append, List.length_singleton] at ih
    have key : (∃ i x, d.length ≤ i ∧ l[i]? = some x ∧ s.testBit i = true ∧ x.f0 = n) ↔ (s.testBit d.length = true ∧ y.f0 = n) ∨ ∃ i x, d.length + 1 ≤ i ∧ l[i]? = some x ∧ s.testBit i = true ∧ x.f0 = n := by
      constructor
      · rintro ⟨i, x, hi, hx, hb, hn⟩
        rcases Nat.lt_or_ge d.length i with h1 | h1
        · exact .inr ⟨i, x, h1, hx, hb, hn⟩
        · obtain rfl : i = d.length := by omega
          rw [hy] at hx
          injection hx with hx
          subst hx
          exact .inl ⟨hb, hn⟩
      · rintro (⟨hb, hn⟩ | ⟨i, x, hi, hx, hb, hn⟩)
        · exact ⟨d.length, y, Nat.le_refl _, hy, hb, hn⟩
        · exact ⟨i, x, by omega, hx, hb, hn⟩
    rw [key, ← ih, selAt_cons]
    by_cases hb : s.testBit d.length = true
    · rw [if_pos hb, List.mem_cons]
      constructor
      · rintro (h1 | h1)
        · exact .inl ⟨hb, h1.symm⟩
        · exact .inr h1
      · rintro (⟨_, h1⟩ | h1)
        · exact .inl h1.symm
        · exact .inr h1
    · rw [if_neg hb]
      exact ⟨fun h1 => .inr h1, fun h1 => h1.elim (fun h2 => absurd h2.1 hb) id⟩
theorem mem_sel (l : List S41) (hA : Asc l) (s i : Nat) (x : S41) (hx : l[i]? = some x) : x.f0 ∈ selAt 0 l s ↔ s.testBit i = true := by
  have h := mem_selAt l hA s l [] rfl x.f0
  rw [List.length_nil] at h
  rw [h]
  constructor
  · rintro ⟨j, y, _, hy, hb, hn⟩
    rcases Nat.lt_trichotomy i j with h1 | h1 | h1
    · have := hA i j x y h1 hx hy
      omega
    · exact h1 ▸ hb
    · have := hA j i y x h1 hy hx
      omega
  · intro hb
    exact ⟨i, x, Nat.zero_le _, hx, hb, rfl⟩
theorem sumAt_range (g : S41 → Int) (s : Nat) : ∀ (t : List S41) (i : Nat), (∀ x ∈ t, 0 ≤ g x ∧ g x ≤ 1000) → 0 ≤ sumAt g i t s ∧ sumAt g i t s ≤ 1000 * t.length
  | [], _, _ => by simp [sumAt]
  | x :: t, i, h => by
    have h1 := sumAt_range g s t (i + 1) (fun y hy => h y (by simp [hy]))
    have h2 := h x (by simp)
    rw [List.length_cons, sumAt_cons]
    split <;> omega
theorem run_sum (g : S41 → Int) (f : Nat → Int → S41 → Int ⊕ Int) (l : List S41) (hA : Asc l) (s : Nat) (hg : ∀ x ∈ l, 0 ≤ g x ∧ g x ≤ 1000) (hl : l.length ≤ 12)
    (hf : ∀ i a x, f i a x = .inr (if x.f0 ∈ selAt 0 l s then wrap64 (a + g x) else a)) : ∀ (t d : List S41) (a : Int), l = d ++ t → 0 ≤ a → a ≤ 1000 * d.length → run f id d.length a t = a + sumAt g d.length t s
  | [], d, a, _, _, _ => by simp [run, sumAt]
  | x :: t, d, a, h, h0, h1 => by
    have hx : l[d.length]? = some x := by rw [h]; simp
    have hgx := hg x (by rw [h]; simp)
    have hlen : l.length = d.length + (t.length + 1) := by rw [h]; simp
    have ih := fun a => run_sum g f l hA s hg hl hf t (d ++ [x]) a (by rw [h]; simp)
    rw [List.length_append, List.length_singleton] at ih
    rw [sumAt_cons]
    by_cases hb : s.testBit d.length = true
    · rw [run_inr (s' := a + g x) (by rw [hf, if_pos ((mem_sel l hA s d.length x hx).2 hb), wrap_id (by omega) (by omega)]), ih _ (by omega) (by omega), if_pos hb]
      omega
    · rw [run_inr (s' := a) (by rw [hf, if_neg (fun h' => hb ((mem_sel l hA s d.length x hx).1 h'))]), ih _ h0 (by omega), if_neg hb]
theorem worth_sel (l : List S41) (h : mAreSamples l = true) (s : Nat) : run (stepWorth (selAt 0 l s)) id 0 0 l = sumAt (·.f2) 0 l s := by
  have h1 := run_sum (·.f2) (stepWorth (selAt 0 l s)) l (asc_of h) s (fun x hx => (sample_ok h hx).2.2) ((mAreSamples_iff l).1 h).2 (fun _ _ _ => rfl) l [] 0 rfl (by omega) (by omega)
  rw [List.length_nil, Int.zero_add] at h1
  exact h1
theorem weight_sel (l : List S41) (h : mAreSamples l = true) (s : Nat) : run (stepWeight (selAt 0 l s)) id 0 0 l = sumAt (·.f1) 0 l s := by
  have h1 := run_sum (·.f1) (stepWeight (selAt 0 l s)) l (asc_of h) s (fun x hx => by have := (sample_ok h hx).2.1; omega) ((mAreSamples_iff l).1 h).2 (fun _ _ _ => rfl) l [] 0 rfl (by omega) (by omega)
  rw [List.length_nil, Int.zero_add] at h1
  exact h1
def mBest (l : List S41) (most : Int) : List Int := if mAreSamples l = true ∧ 0 ≤ most ∧ most ≤ 1000 then pick l.reverse most else []
theorem pick_len : ∀ (t : List S41) (w : Int), (pick t w).length ≤ t.length
  | [], _ => by simp [pick]
  | x :: t, w => by
    have h1 := pick_len t w
    have h2 := pick_len t (w - x.f1)
    rw [pick_cons, List.length_cons]
    split
    · omega
    · simp; omega
theorem mBest_len (l : List S41) (most : Int) : (mBest l most).length ≤ l.length := by
  unfold mBest
  split
  · have := pick_len l.reverse most
    rw [List.length_reverse] at this
    exact this
  · simp
theorem selAt_len (s : Nat) : ∀ (t : List S41) (i : Nat), (selAt i t s).length ≤ t.length
  | [], _ => by simp [selAt]
  | x :: t, i => by
    have := selAt_len s t (i + 1)
    rw [selAt_cons]
    split
    · simp; omega
    · simp; omega
theorem bit_test (s i : Nat) (hs : s < 4096) (hi : i < 12) : (Go.bits .and .i64 (shr .i64 (s : Int) (i : Int)) 1 = 1) ↔ s.testBit i = true := by
  have e1 : shr .i64 (s : Int) (i : Int) = ((s / 2 ^ i : Nat) : Int) := by
    unfold shr
    rw [Int.toNat_natCast, Nat.min_eq_left (show i ≤ IntKind.i64.bits from Nat.le_trans (Nat.le_of_lt hi) (by decide)), Int.natCast_ediv]
    congr 1
  have hlt : s / 2 ^ i < 4096 := Nat.lt_of_le_of_lt (Nat.div_le_self _ _) hs
  rw [e1, Nat.testBit_eq_decide_div_mod_eq]
  generalize s / 2 ^ i = q at hlt
  have hq : (q : Int) < 2 ^ 12 := by
    have h12 : (2 : Int) ^ 12 = 4096 := by decide
    rw [h12]
    omega
  have e2 := bits_mask .i64 12 (by decide) (fun n h0 h1 => by rw [IntKind.wrap_i64]; omega) 1 (by decide) (q : Int) (by omega) hq
  rw [show (2 : Int) ^ 1 - 1 = 1 from by decide, show (2 : Int) ^ 1 = 2 from by decide] at e2
  rw [e2, decide_eq_true_eq]
  omega
theorem shl_one (n : Nat) (h : n ≤ 12) : shl .i64 1 (n : Int) = ((2 ^ n : Nat) : Int) := by
  unfold shl
  rw [Int.toNat_natCast, Nat.min_eq_left (show n ≤ IntKind.i64.bits from Nat.le_trans h (by decide)), Int.one_mul, IntKind.wrap_i64]
  have hp : 2 ^ n ≤ 4096 := Nat.le_trans (Nat.pow_le_pow_right (by decide) h) (by decide)
  have e : (2 : Int) ^ n = ((2 ^ n : Nat) : Int) := (Int.natCast_pow 2 n).symm
  rw [e]
  generalize 2 ^ n = p at hp
  omega
/-- The inner loop: the Ids of a set; behind it the rest goes on. -/
theorem implB_in (l : List S41) (most : Int) (best : List Int) (worth : Int) (s : Nat) (N : Int) (hl : l.length ≤ 12) (hs : s < 4096) (r : List Int)
    (hr : Ev (fun k => (impl_WorthOf.f k l (selAt 0 l s)).bind fun t193 => (if t193 > worth then ((impl_WeightOf.f k l (selAt 0 l s)).bind fun t194 => (if t194 ≤ most then (impl_BestLoad.l0 k l most (selAt 0 l s) t193 N (wrap64 ((s : Int) + 1))) else (impl_BestLoad.l0 k l most best worth N (wrap64 ((s : Int) + 1))))) else (impl_BestLoad.l0 k l most best worth N (wrap64 ((s : Int) + 1))))) r) :
    ∀ (t d : List S41) (ids : List Int), l = d ++ t → ids ++ selAt d.length t s = selAt 0 l s → Ev (fun k => impl_BestLoad.l1 k l most best worth (s : Int) ids N (s : Int) l (l.length : Int) (d.length : Int)) r
  | [], d, ids, h, hids => by
    have hlen : l.length = d.length := by rw [h]; simp
    rw [show selAt d.length [] s = [] from rfl, List.append_nil] at hids
    subst hids
    refine Ev.step (fun k => ?_) hr
    simp only [impl_BestLoad.l1]
    rw [if_neg (by omega)]
  | x :: t, d, ids, h, hids => by
    have hlen : l.length = d.length + (t.length + 1) := by rw [h]; simp
    have hx : l[d.length]? = some x := by rw [h]; simp
    have e0 : rd_T41 l (d.length : Int) = x := getD_of z41 hx
    have hil : ids.length ≤ 12 := by
      have := congrArg List.length hids
      rw [List.length_append] at this
      have := selAt_len s l 0
      omega
    rw [selAt_cons] at hids
    have ih := fun ids' hh => implB_in l most best worth s N hl hs r hr t (d ++ [x]) ids' (by rw [h]; simp) hh
    rw [List.length_append, List.length_singleton, show ((d.length + 1 : Nat) : Int) = (d.length : Int) + 1 from by omega] at ih
    have hbt := bit_test s d.length hs (by omega)
    by_cases hb : s.testBit d.length = true
    · rw [if_pos hb] at hids
      refine Ev.step (fun k => ?_) (ih (ids ++ [x.f0]) (by simpa using hids))
      simp only [impl_BestLoad.l1, e0, wrapi d.length (by omega)]
      rw [if_pos (by omega), if_pos (by omega), if_pos (by omega), if_pos (hbt.2 hb), if_pos (by omega)]
    · rw [if_neg hb] at hids
      refine Ev.step (fun k => ?_) (ih ids hids)
      simp only [impl_BestLoad.l1, e0, wrapi d.length (by omega)]
      rw [if_pos (by omega), if_pos (by omega), if_pos (by omega), if_neg (fun h' => hb (hbt.1 h'))]
theorem implB_out (l : List S41) (most : Int) (ha : mAreSamples l = true) : ∀ (d s : Nat) (best : List Int) (worth : Int), s + d = 2 ^ l.length →
    Ev (fun k => impl_BestLoad.l0 k l most best worth ((2 ^ l.length : Nat) : Int) (s : Int)) (match scan most (((List.range (2 ^ l.length)).drop s).map (candOf l)) worth with | none => best | some q => q.1)
  | 0, s, best, worth, hs => by
    rw [List.drop_eq_nil_of_le (by simp; omega)]
    refine Ev.step (f := fun _ => some best) (fun k => ?_) (Ev.now _)
    simp only [impl_BestLoad.l0]
    rw [if_neg (by omega)]
  | d + 1, s, best, worth, hs => by
    have hl := ((mAreSamples_iff l).1 ha).2
    have hp : 2 ^ l.length ≤ 4096 := Nat.le_trans (Nat.pow_le_pow_right (by decide) hl) (by decide)
    have hsel := selAt_len s l 0
    have e1 : ((List.range (2 ^ l.length)).drop s).map (candOf l) = candOf l s :: ((List.range (2 ^ l.length)).drop (s + 1)).map (candOf l) := by
      rw [List.drop_eq_getElem_cons (by simp; omega), List.map_cons, List.getElem_range]
    refine Ev.step (f := fun k => impl_BestLoad.l1 k l most best worth (s : Int) [] ((2 ^ l.length : Nat) : Int) (s : Int) l (l.length : Int) 0) (fun k => ?_) ?_
    · simp only [impl_BestLoad.l0]
      rw [if_pos (by omega)]
    refine implB_in l most best worth s _ hl (by omega) _ ?_ l [] [] rfl rfl
    refine Ev.bind (ev_at (implWorth_at l _ (by omega) (by omega))) ?_
    rw [worth_sel l ha s, e1, wrapi s (by omega)]
    have ih := implB_out l most ha d (s + 1)
    rw [show ((s + 1 : Nat) : Int) = (s : Int) + 1 from by omega] at ih
    rw [scan_cons]
    show Ev (fun k => if sumAt (·.f2) 0 l s > worth then _ else _) (match (if sumAt (·.f2) 0 l s > worth ∧ sumAt (·.f1) 0 l s ≤ most then (match scan most (((List.range (2 ^ l.length)).drop (s + 1)).map (candOf l)) (sumAt (·.f2) 0 l s) with | none => some (selAt 0 l s, sumAt (·.f2) 0 l s) | some r => some r) else scan most (((List.range (2 ^ l.length)).drop (s + 1)).map (candOf l)) worth) with | none => best | some q => q.1)
    by_cases c1 : sumAt (·.f2) 0 l s > worth
    · simp only [if_pos c1]
      refine Ev.bind (ev_at (implWeight_at l _ (by omega) (by omega))) ?_
      rw [weight_sel l ha s]
      by_cases c2 : sumAt (·.f1) 0 l s ≤ most
      · simp only [if_pos c2]
        rw [if_pos ⟨c1, c2⟩]
        have := ih (selAt 0 l s) (sumAt (·.f2) 0 l s) (by omega)
        cases hsc : scan most (((List.range (2 ^ l.length)).drop (s + 1)).map (candOf l)) (sumAt (·.f2) 0 l s) with
        | none => rw [hsc] at this; exact this
        | some q => rw [hsc] at this; exact this
      · simp only [if_neg c2]
        rw [if_neg (fun h => c2 h.2)]
        exact ih best worth (by omega)
    · simp only [if_neg c1]
      rw [if_neg (fun h => c1 h.1)]
      exact ih best worth (by omega)
theorem implBest_ev (l : List S41) (most : Int) (hl : l.length ≤ 1048576) : Ev (fun k => impl_BestLoad.f k l most) (mBest l most) := by
  unfold impl_BestLoad.f mBest
  refine Ev.bind (ev_at (implAS_at l (by omega))) ?_
  have hbad : Ev (fun k => impl_BestLoad.j0 k l most true) [] := Ev.step (f := fun _ => some []) (fun k => by simp [impl_BestLoad.j0]) (Ev.now _)
  cases ha : mAreSamples l with
  | false => rw [if_neg (by simp)]; exact hbad
  | true =>
    simp only [if_true, InRange_eq, Option.bind_some]
    by_cases h : 0 ≤ most ∧ most ≤ 1000
    · rw [if_pos ⟨trivial, h⟩, decide_eq_true h]
      have hn := ((mAreSamples_iff l).1 ha).2
      refine Ev.step (f := fun k => impl_BestLoad.l0 k l most [] 0 ((2 ^ l.length : Nat) : Int) 0) (fun k => by simp [impl_BestLoad.j0, shl_one l.length hn]) ?_
      have h1 := implB_out l most ha (2 ^ l.length) 0 [] 0 (by omega)
      have hF : Fine l.reverse := fun x hx => (sample_ok ha (List.mem_reverse.1 hx)).2
      have h2 := scan_cands l.reverse most 0 hF
      rw [cands_eq, List.length_reverse, List.reverse_reverse] at h2
      rw [List.drop_zero, h2] at h1
      by_cases c : opt l.reverse most > 0
      · rw [if_pos ⟨h.1, c⟩] at h1
        exact h1
      · rw [if_neg (fun h' => c h'.2)] at h1
        have e : pick l.reverse most = [] := by
          have key : ∀ (t : List S41) (w : Int), Fine t → ¬ opt t w > 0 → pick t w = [] := by
            intro t
            induction t with
            | nil => intro w _ _; rfl
            | cons x t ih =>
              intro w hF hw
              have r1 := opt_range t w hF.tail
              have r2 := opt_range (x :: t) w hF
              have r3 : opt t w ≤ opt (x :: t) w := by
                rw [opt_cons]
                split
                · unfold mx; split <;> omega
                · omega
              rw [pick_cons, if_pos (by omega), ih w hF.tail (by omega)]
          exact key _ _ hF c
        rw [e]
        exact h1
    · rw [if_neg (fun h' => h h'.2), decide_eq_false h]
      exact hbad
def greedyI : Int → List S41 → List Int
  | _, [] => []
  | r, x :: t => if x.f1 ≤ r then x.f0 :: greedyI (r - x.f1) t else greedyI r t
theorem greedyI_len : ∀ (r : Int) (l : List S41), (greedyI r l).length ≤ l.length
  | _, [] => by simp [greedyI]
  | r, x :: t => by
    unfold greedyI
    have h1 := greedyI_len (r - x.f1) t
    have h2 := greedyI_len r t
    split
    · simp; omega
    · simp; omega
def mGreedy (l : List S41) (most : Int) : List Int := if mAreSamples l = true ∧ 0 ≤ most ∧ most ≤ 1000 then greedyI most l else []
theorem implG_down (l : List S41) (hl : l.length ≤ 1048576) (hw : ∀ x ∈ l, 1 ≤ x.f1 ∧ x.f1 ≤ 50) : ∀ (t d : List S41) (k : Nat) (r : Int) (out : List Int), l = d ++ t → 0 ≤ r → r ≤ 1000 → out.length + t.length ≤ 1048576 → t.length < k →
    impl_GreedyLoad.l0 k r out l (l.length : Int) (d.length : Int) = some (out ++ greedyI r t)
  | [], d, k, r, out, h, _, _, _, hk => by
    obtain ⟨k, rfl⟩ : ∃ m, k = m + 1 := ⟨k - 1, by omega⟩
    have : l.length = d.length := by rw [h]; simp
    simp only [impl_GreedyLoad.l0]
    rw [if_neg (by omega)]
    simp [greedyI]
  | x :: t, d, k, r, out, h, h0, h1, ho, hk => by
    obtain ⟨k, rfl⟩ : ∃ m, k = m + 1 := ⟨k - 1, by omega⟩
    have hlen : l.length = d.length + (t.length + 1) := by rw [h]; simp
    have hx : l[d.length]? = some x := by rw [h]; simp
    have hr : rd_T41 l (d.length : Int) = x := getD_of z41 hx
    have hxw := hw x (by rw [h]; simp)
    rw [List.length_cons] at ho hk
    have e : ((d.length : Int) + 1) = ((d ++ [x]).length : Int) := by simp
    simp only [impl_GreedyLoad.l0, hr, wrapi d.length (by omega)]
    rw [if_pos (by omega), if_pos (by omega), if_pos (by omega)]
    unfold greedyI
    by_cases c : x.f1 ≤ r
    · rw [if_pos c, if_pos c, if_pos (by omega), wrap_id (by omega) (by omega), e, implG_down l hl hw t (d ++ [x]) k (r - x.f1) _ (by rw [h]; simp) (by omega) (by omega) (by simp; omega) (by omega)]
      simp
    · rw [if_neg c, if_neg c, e, implG_down l hl hw t (d ++ [x]) k r out (by rw [h]; simp) h0 h1 (by omega) (by omega)]
theorem implGreedy_at (l : List S41) (most : Int) (hl : l.length ≤ 1048576) : ∀ k, l.length + 1 < k → impl_GreedyLoad.f k l most = some (mGreedy l most) := by
  intro k hk
  obtain ⟨k, rfl⟩ : ∃ m, k = m + 1 := ⟨k - 1, by omega⟩
  simp only [impl_GreedyLoad.f, implAS_at l (by omega) (k + 1) (by omega), InRange_eq, Option.bind_some, mGreedy]
  cases ha : mAreSamples l with
  | false => simp [impl_GreedyLoad.j0]
  | true =>
    rw [if_pos rfl]
    by_cases h : 0 ≤ most ∧ most ≤ 1000
    · rw [if_pos ⟨rfl, h⟩, decide_eq_true h]
      simp only [Bool.not_true, impl_GreedyLoad.j0, Bool.false_eq_true, if_false]
      have := implG_down l hl (fun x hx => (sample_ok ha hx).2.1) l [] k most [] rfl h.1 h.2 (by simp; omega) (by omega)
      rw [List.nil_append] at this
      exact this
    · rw [if_neg (fun h' => h h'.2), decide_eq_false h]
      simp [impl_GreedyLoad.j0]
theorem mGreedy_len (l : List S41) (most : Int) : (mGreedy l most).length ≤ l.length := by
  unfold mGreedy
  split
  · exact greedyI_len _ _
  · simp
/-! What a draw gives: that it ends, and the range of what it tells. -/
def Gets {ρ : Type} (P : ρ → Prop) (g : Nat → Option ρ) : Prop := ∃ r, P r ∧ Ev g r
theorem Gets.bind {α β : Type} {P : α → Prop} {Q : β → Prop} {f : Nat → Option α} {g : Nat → α → Option β} (hf : Gets P f) (hg : ∀ r, P r → Gets Q (fun k => g k r)) : Gets Q (fun k => (f k).bind (g k)) := by
  obtain ⟨r, hr, he⟩ := hf
  obtain ⟨s, hs, he'⟩ := hg r hr
  exact ⟨s, hs, Ev.bind he he'⟩
theorem Gets.ev {α β : Type} {P : α → Prop} {f : Nat → Option α} {g : Nat → α → Option β} {b : β} (hf : Gets P f) (hg : ∀ r, P r → Ev (fun k => g k r) b) : Ev (fun k => (f k).bind (g k)) b := by
  obtain ⟨r, hr, he⟩ := hf
  exact Ev.bind he (hg r hr)
theorem Gets.now {ρ : Type} {P : ρ → Prop} {r : ρ} (h : P r) : Gets P (fun _ => some r) := ⟨r, h, Ev.now _⟩
theorem Gets.step {ρ : Type} {P : ρ → Prop} {f g : Nat → Option ρ} (h : ∀ k, g (k + 1) = f k) (hf : Gets P f) : Gets P g := by
  obtain ⟨r, hr, he⟩ := hf
  exact ⟨r, hr, Ev.step h he⟩
theorem Gets.congr {ρ : Type} {P : ρ → Prop} {f g : Nat → Option ρ} (h : ∀ k, g k = f k) (hf : Gets P f) : Gets P g := by
  have e : g = f := funext h
  rw [e]; exact hf
theorem Gets.mono {ρ : Type} {P Q : ρ → Prop} {f : Nat → Option ρ} (h : ∀ r, P r → Q r) (hf : Gets P f) : Gets Q f := by
  obtain ⟨r, hr, he⟩ := hf
  exact ⟨r, h r hr, he⟩
def OkC (b : List Int) (i : Int) : Prop := b.length ≤ 1048576 ∧ 0 ≤ i ∧ i ≤ 1048576
theorem and255 (x : Int) : 0 ≤ Go.bits .and .i64 x 255 ∧ Go.bits .and .i64 x 255 ≤ 255 := by
  have h : ((BitVec.ofInt 64 x) &&& (BitVec.ofInt 64 255)).toNat ≤ 255 := by
    rw [BitVec.toNat_and]
    exact Nat.le_trans Nat.and_le_right (by decide)
  have e : Go.bits .and .i64 x 255 = wrap64 (((BitVec.ofInt 64 x) &&& (BitVec.ofInt 64 255)).toNat : Int) := by simp only [Go.bits, i64_w]; rfl
  rw [e, wrap_id (by omega) (by omega)]
  omega
theorem byte_ok (b : List Int) (i h : Int) (hc : OkC b i) : ∃ v i' h', spec_l1Byte.f b i h = some (v, i', h') ∧ 0 ≤ v ∧ v ≤ 255 ∧ OkC b i' := by
  obtain ⟨h1, h2, h3⟩ := hc
  unfold spec_l1Byte.f
  by_cases c : i < (b.length : Int)
  · rw [if_pos c, if_pos h2, wrap_id (n := i + 1) (by omega) (by omega)]
    exact ⟨_, _, _, rfl, (and255 _).1, (and255 _).2, h1, by omega, by omega⟩
  · rw [if_neg c]
    exact ⟨_, _, _, rfl, (and255 _).1, (and255 _).2, h1, h2, h3⟩
theorem tmod_range (a n : Int) (ha : 0 ≤ a) (hn : 0 < n) : 0 ≤ Int.tmod a n ∧ Int.tmod a n < n := by
  rw [Int.tmod_eq_emod_of_nonneg ha]
  exact ⟨Int.emod_nonneg _ (by omega), Int.emod_lt_of_pos _ hn⟩
theorem below_ok (b : List Int) (i h n : Int) (hc : OkC b i) : ∃ v i' h', spec_l1Below.f b i h n = some (v, i', h') ∧ 0 ≤ v ∧ (0 < n → v < n) ∧ OkC b i' := by
  unfold spec_l1Below.f
  by_cases c : n ≤ 0
  · rw [if_pos c]
    exact ⟨_, _, _, rfl, by omega, by omega, hc⟩
  · rw [if_neg c]
    by_cases c2 : n ≤ 256
    · obtain ⟨v, i', h', e, h0, h1, hc'⟩ := byte_ok b i h hc
      rw [if_pos c2, e]
      simp only [Option.bind_some]
      rw [if_neg (by omega)]
      have := tmod_range v n h0 (by omega)
      exact ⟨_, _, _, rfl, this.1, fun _ => this.2, hc'⟩
    · obtain ⟨v1, i1, h1, e1, a1, b1, hc1⟩ := byte_ok b i h hc
      obtain ⟨v2, i2, h2, e2, a2, b2, hc2⟩ := byte_ok b i1 h1 hc1
      obtain ⟨v3, i3, h3, e3, a3, b3, hc3⟩ := byte_ok b i2 h2 hc2
      rw [if_neg c2, e1]
      simp only [Option.bind_some, e2, e3]
      rw [if_neg (by omega), wrap_id (n := v1 * 65536) (by omega) (by omega), wrap_id (n := v2 * 256) (by omega) (by omega), wrap_id (n := v1 * 65536 + v2 * 256) (by omega) (by omega), wrap_id (by omega) (by omega)]
      have := tmod_range (v1 * 65536 + v2 * 256 + v3) n (by omega) (by omega)
      exact ⟨_, _, _, rfl, this.1, fun _ => this.2, hc3⟩
theorem int_ok (b : List Int) (i h : Int) (l : List Int) (hl : 0 < l.length) (hc : OkC b i) : ∃ v i' h', spec_l1Int.f b i h l = some (v, i', h') ∧ v ∈ l ∧ OkC b i' := by
  obtain ⟨v, i', h', e, h0, h1, hc'⟩ := below_ok b i h (l.length : Int) hc
  have h1 := h1 (by omega)
  unfold spec_l1Int.f
  rw [e]
  simp only [Option.bind_some]
  rw [if_pos h0, if_pos h1]
  refine ⟨_, _, _, rfl, ?_, hc'⟩
  have : v.toNat < l.length := by omega
  simp only [rd, List.getD_eq_getElem?_getD, List.getElem?_eq_getElem this, Option.getD_some]
  exact List.getElem_mem _
theorem new_down (b : List Int) (hb : b.length ≤ 1048576) : ∀ (n i : Nat) (h : Int), i + n = b.length → ∃ h', Ev (fun k => spec_l1New.l0 k b h (i : Int)) (b, 0, h')
  | 0, i, h, hi => ⟨h, Ev.step (f := fun _ => some (b, 0, h)) (fun k => by simp only [spec_l1New.l0]; rw [if_neg (by omega)]) (Ev.now _)⟩
  | n + 1, i, h, hi => by
    by_cases c : (i : Int) < 4000
    · obtain ⟨h', ih⟩ := new_down b hb n (i + 1) (Go.bits .and .i64 (wrap64 ((wrap64 ((wrap64 (h * 137)) + (wrap64 (rd b (i : Int))))) + 11)) 1073741823) (by omega)
      refine ⟨h', Ev.step (f := fun k => spec_l1New.l0 k b (Go.bits .and .i64 (wrap64 ((wrap64 ((wrap64 (h * 137)) + (wrap64 (rd b (i : Int))))) + 11)) 1073741823) ((i + 1 : Nat) : Int)) (fun k => ?_) ih⟩
      simp only [spec_l1New.l0, wrapi i (by omega)]
      rw [if_pos (by omega), if_pos c, if_pos (by omega), Int.natCast_add, Int.natCast_one]
    · refine ⟨h, Ev.step (f := fun _ => some (b, 0, h)) (fun k => ?_) (Ev.now _)⟩
      simp only [spec_l1New.l0]
      rw [if_pos (by omega), if_neg c]
theorem new_ok (b : List Int) (hb : b.length ≤ 1048576) : Gets (fun r => r.1 = b ∧ OkC r.1 r.2.1) (fun k => spec_l1New.f k b) := by
  obtain ⟨h', he⟩ := new_down b hb b.length 0 (wrap64 (193017 + (b.length : Int))) (by omega)
  exact ⟨(b, 0, h'), ⟨rfl, hb, Int.le_refl 0, show (0 : Int) ≤ 1048576 by decide⟩, he⟩
theorem drawL22_down (b : List Int) : ∀ (n : Nat) (xs : List S41) (i h : Int), xs.length + n = 9 → OkC b i →
    Gets (fun r => r.1.length ≤ 9 ∧ OkC b r.2.1) (fun k => spec_l22Any.l0 k xs ((xs.length : Int) + 1) b i h)
  | n, xs, i, h, hn, hc => by
    obtain ⟨v, i', h', e, v0, v1, hc'⟩ := below_ok b i h 8 hc
    have v1 := v1 (by omega)
    by_cases c : (xs.length : Int) + 1 ≤ v
    · obtain ⟨v2, i2, h2, e2, a2, b2, hc2⟩ := below_ok b i' h' 12 hc'
      obtain ⟨v4, i4, h4, e4, a4, b4, hc4⟩ := below_ok b i2 h2 30 hc2
      match n, hn with
      | 0, hn => omega
      | n + 1, hn =>
        have ih := drawL22_down b n (xs ++ [⟨(xs.length : Int) + 1, wrap64 (1 + v2), v4⟩]) i4 h4 (by simp; omega) hc4
        rw [List.length_append, List.length_singleton] at ih
        refine Gets.step (f := fun k => spec_l22Any.l0 k (xs ++ [⟨(xs.length : Int) + 1, wrap64 (1 + v2), v4⟩]) (((xs.length + 1 : Nat) : Int) + 1) b i4 h4) (fun k => ?_) ih
        simp only [spec_l22Any.l0, e, e2, e4, Option.bind_some]
        rw [if_pos c, if_pos (by omega), wrap_id (n := (xs.length : Int) + 1 + 1) (by omega) (by omega), Int.natCast_add, Int.natCast_one]
    · by_cases c0 : (xs.length : Int) > 0
      · obtain ⟨v2, i2, h2, e2, a2, b2, hc2⟩ := below_ok b i' h' (xs.length : Int) hc'
        have b2 := b2 (by omega)
        obtain ⟨v4, i4, h4, e4, a4, b4, hc4⟩ := below_ok b i2 h2 12 hc2
        by_cases q0 : v4 = 0
        · obtain ⟨w, i5, h5, e5, _, hc5⟩ := int_ok b i4 h4 [0, 1, 99, 100] (by decide) hc4
          refine Gets.step (f := fun _ => some (xs.set v2.toNat (⟨w, (rd_T41 xs v2).f1, (rd_T41 xs v2).f2⟩ : S41), i5, h5)) (fun k => ?_) (Gets.now ⟨by rw [List.length_set]; omega, hc5⟩)
          simp only [spec_l22Any.l0, e, e2, e4, Option.bind_some]
          rw [if_neg c, if_pos c0, if_pos q0, e5]
          simp only [Option.bind_some, if_pos a2, if_pos b2]
        · by_cases q1 : v4 = 1
          · obtain ⟨w, i5, h5, e5, _, hc5⟩ := int_ok b i4 h4 [0, 50, 51] (by decide) hc4
            refine Gets.step (f := fun _ => some (xs.set v2.toNat (⟨(rd_T41 xs v2).f0, w, (rd_T41 xs v2).f2⟩ : S41), i5, h5)) (fun k => ?_) (Gets.now ⟨by rw [List.length_set]; omega, hc5⟩)
            simp only [spec_l22Any.l0, e, e2, e4, Option.bind_some]
            rw [if_neg c, if_pos c0, if_neg q0, if_pos q1, e5]
            simp only [Option.bind_some, if_pos a2, if_pos b2]
          · by_cases q2 : v4 = 2
            · obtain ⟨w, i5, h5, e5, _, hc5⟩ := int_ok b i4 h4 [-1, 1000, 1001] (by decide) hc4
              refine Gets.step (f := fun _ => some (xs.set v2.toNat (⟨(rd_T41 xs v2).f0, (rd_T41 xs v2).f1, w⟩ : S41), i5, h5)) (fun k => ?_) (Gets.now ⟨by rw [List.length_set]; omega, hc5⟩)
              simp only [spec_l22Any.l0, e, e2, e4, Option.bind_some]
              rw [if_neg c, if_pos c0, if_neg q0, if_neg q1, if_pos q2, e5]
              simp only [Option.bind_some, if_pos a2, if_pos b2]
            · refine Gets.step (f := fun _ => some (xs, i4, h4)) (fun k => ?_) (Gets.now ⟨by show xs.length ≤ 9; omega, hc4⟩)
              simp only [spec_l22Any.l0, e, e2, e4, Option.bind_some]
              rw [if_neg c, if_pos c0, if_neg q0, if_neg q1, if_neg q2]
      · refine Gets.step (f := fun _ => some (xs, i', h')) (fun k => ?_) (Gets.now ⟨by show xs.length ≤ 9; omega, hc'⟩)
        simp only [spec_l22Any.l0, e, Option.bind_some]
        rw [if_neg c, if_neg c0]
theorem drawBestLoad_ok (b : List Int) (hb : b.length ≤ 1048576) : Gets (fun r => r.1.length ≤ 9) (fun k => spec_DrawBestLoad.f k b) := by
  unfold spec_DrawBestLoad.f
  refine Gets.bind (new_ok b hb) ?_
  rintro ⟨b', i1, h1⟩ ⟨rfl, hc1⟩
  simp only at hc1 ⊢
  have hd : Gets (fun r => r.1.length ≤ 9 ∧ OkC b' r.2.1) (fun k => spec_l22Any.f k b' i1 h1) := drawL22_down b' 9 [] i1 h1 rfl hc1
  refine Gets.bind hd ?_
  rintro ⟨xs, i2, h2⟩ ⟨hx, hc2⟩
  simp only at hx hc2 ⊢
  obtain ⟨v7, i7, h7, e7, _, hc7⟩ := int_ok b' i2 h2 [0, 5, 12, 20, 33, 1000, 1001, -1] (by simp) hc2
  simp only [e7, Option.bind_some]
  exact Gets.now hx
theorem scan_best (m : Int) : ∀ (cs : List (List Int × Int × Int)) (w : Int),
    match scan m cs w with
    | none => ∀ c ∈ cs, c.2.1 ≤ m → c.2.2 ≤ w
    | some r => w < r.2 ∧ (∃ c ∈ cs, r = (c.1, c.2.2) ∧ c.2.1 ≤ m) ∧ ∀ c ∈ cs, c.2.1 ≤ m → c.2.2 ≤ r.2
  | [], w => by
    simp only [scan]
    intro c hc
    cases hc
  | c :: t, w => by
    rw [scan_cons]
    by_cases h : c.2.2 > w ∧ c.2.1 ≤ m
    · rw [if_pos h]
      have ih := scan_best m t c.2.2
      cases hs : scan m t c.2.2 with
      | none =>
        rw [hs] at ih
        refine ⟨h.1, ⟨c, List.mem_cons_self .., rfl, h.2⟩, fun d hd hm => ?_⟩
        rcases List.mem_cons.1 hd with rfl | hd
        · exact Int.le_refl _
        · exact ih d hd hm
      | some r =>
        rw [hs] at ih
        obtain ⟨h1, ⟨d, hd, h2⟩, h3⟩ := ih
        refine ⟨by show w < r.2; omega, ⟨d, List.mem_cons_of_mem _ hd, h2⟩, fun e he hm => ?_⟩
        rcases List.mem_cons.1 he with rfl | he
        · show e.2.2 ≤ r.2; omega
        · exact h3 e he hm
    · rw [if_neg h]
      have ih := scan_best m t w
      cases hs : scan m t w with
      | none =>
        rw [hs] at ih
        intro d hd hm
        rcases List.mem_cons.1 hd with rfl | hd
        · omega
        · exact ih d hd hm
      | some r =>
        rw [hs] at ih
        obtain ⟨h1, ⟨d, hd, h2⟩, h3⟩ := ih
        refine ⟨h1, ⟨d, List.mem_cons_of_mem _ hd, h2⟩, fun e he hm => ?_⟩
        rcases List.mem_cons.1 he with rfl | he
        · show e.2.2 ≤ r.2; omega
        · exact h3 e he hm
theorem fine_of {l : List S41} (h : mAreSamples l = true) : Fine l.reverse := fun x hx => by
  have := sample_ok h (List.mem_reverse.1 hx)
  exact ⟨this.2.1, this.2.2⟩
/-- The best load is one of the sets, within the weight, and no set within the weight is worth more. -/
theorem best_spec {l : List S41} (h : mAreSamples l = true) {most : Int} (hm : 0 ≤ most ∧ most ≤ 1000) :
    ∃ s, s < 2 ^ l.length ∧ mBest l most = selAt 0 l s ∧ sumAt (·.f1) 0 l s ≤ most ∧ ∀ s', s' < 2 ^ l.length → sumAt (·.f1) 0 l s' ≤ most → sumAt (·.f2) 0 l s' ≤ sumAt (·.f2) 0 l s := by
  have hr := opt_range l.reverse most (fine_of h)
  have hs := scan_cands l.reverse most (-1) (fine_of h)
  rw [if_pos ⟨hm.1, by omega⟩] at hs
  have hb := scan_best most (cands l.reverse) (-1)
  rw [hs] at hb
  obtain ⟨_, ⟨c, hc, he, hw⟩, hall⟩ := hb
  rw [cands_eq, List.length_reverse, List.reverse_reverse] at hc hall
  obtain ⟨s, hs', rfl⟩ := List.mem_map.1 hc
  have e2 : opt l.reverse most = sumAt (·.f2) 0 l s := congrArg Prod.snd he
  have e1 : pick l.reverse most = selAt 0 l s := congrArg Prod.fst he
  refine ⟨s, List.mem_range.1 hs', ?_, hw, fun s' h1 h2 => ?_⟩
  · unfold mBest
    rw [if_pos ⟨h, hm⟩, e1]
  · have := hall (candOf l s') (List.mem_map_of_mem (List.mem_range.2 h1)) h2
    simp only [e2] at this
    exact this
theorem greedy_sel : ∀ (t : List S41) (i : Nat) (r : Int), 0 ≤ r → (∀ x ∈ t, 1 ≤ x.f1) → ∃ s, greedyI r t = selAt i t s ∧ sumAt (·.f1) i t s ≤ r ∧ ∀ j, s.testBit j = true → i ≤ j ∧ j < i + t.length
  | [], i, r, h0, _ => ⟨0, rfl, h0, fun j hj => by simp at hj⟩
  | x :: t, i, r, h0, hw => by
    have hx := hw x (List.mem_cons_self ..)
    have hw' : ∀ y ∈ t, 1 ≤ y.f1 := fun y hy => hw y (List.mem_cons_of_mem _ hy)
    by_cases c : x.f1 ≤ r
    · obtain ⟨s, h1, h2, h3⟩ := greedy_sel t (i + 1) (r - x.f1) (by omega) hw'
      have hbi : s.testBit i = false := by
        cases hb : s.testBit i with
        | false => rfl
        | true => have := h3 i hb; omega
      have hlow : ∀ j, i + 1 ≤ j → j < i + 1 + t.length → (s ||| 2 ^ i).testBit j = s.testBit j := fun j hj _ => by
        rw [Nat.testBit_or, Nat.testBit_two_pow_of_ne (by omega), Bool.or_false]
      have hb : (s ||| 2 ^ i).testBit i = true := by rw [Nat.testBit_or, Nat.testBit_two_pow_self, Bool.or_true]
      refine ⟨s ||| 2 ^ i, ?_, ?_, fun j hj => ?_⟩
      · show (if x.f1 ≤ r then x.f0 :: greedyI (r - x.f1) t else greedyI r t) = _
        rw [if_pos c, selAt_cons, if_pos hb, h1, selAt_congr _ _ t (i + 1) hlow]
      · rw [sumAt_cons, if_pos hb, sumAt_congr _ _ _ t (i + 1) hlow]
        show x.f1 + _ ≤ r
        omega
      · rw [List.length_cons]
        by_cases hji : j = i
        · omega
        · rw [Nat.testBit_or, Nat.testBit_two_pow_of_ne (fun e => hji e.symm), Bool.or_false] at hj
          have := h3 j hj
          omega
    · obtain ⟨s, h1, h2, h3⟩ := greedy_sel t (i + 1) r h0 hw'
      have hbi : ¬ s.testBit i = true := fun hb => by have := h3 i hb; omega
      refine ⟨s, ?_, ?_, fun j hj => ?_⟩
      · show (if x.f1 ≤ r then x.f0 :: greedyI (r - x.f1) t else greedyI r t) = _
        rw [if_neg c, selAt_cons, if_neg hbi, h1]
      · rw [sumAt_cons, if_neg hbi]
        exact h2
      · rw [List.length_cons]
        have := h3 j hj
        omega
theorem greedy_spec {l : List S41} (h : mAreSamples l = true) {most : Int} (hm : 0 ≤ most ∧ most ≤ 1000) :
    ∃ s, s < 2 ^ l.length ∧ mGreedy l most = selAt 0 l s ∧ sumAt (·.f1) 0 l s ≤ most := by
  obtain ⟨s, h1, h2, h3⟩ := greedy_sel l 0 most hm.1 (fun x hx => (sample_ok h hx).2.1.1)
  refine ⟨s, ?_, ?_, h2⟩
  · refine Nat.lt_pow_two_of_testBit s (fun j hj => ?_)
    cases hb : s.testBit j with
    | false => rfl
    | true => have := h3 j hb; omega
  · unfold mGreedy
    rw [if_pos ⟨h, hm⟩, h1]
theorem selAt_sub (s : Nat) : ∀ (t : List S41) (i : Nat), (selAt i t s).Sublist (t.map (·.f0))
  | [], _ => List.Sublist.refl _
  | x :: t, i => by
    rw [selAt_cons, List.map_cons]
    split
    · exact (selAt_sub s t (i + 1)).cons_cons _
    · exact (selAt_sub s t (i + 1)).cons _
theorem sel_asc {l : List S41} (h : mAreSamples l = true) (s : Nat) : (selAt 0 l s).Pairwise (· < ·) := by
  refine List.Pairwise.sublist (selAt_sub s l 0) ?_
  rw [List.pairwise_map, List.pairwise_iff_getElem]
  intro i j hi hj hij
  exact asc_of h i j _ _ hij (List.getElem?_eq_getElem hi) (List.getElem?_eq_getElem hj)
theorem ascends_down (l : List Int) (hl : l.length ≤ 1048577) (hp : l.Pairwise (· < ·)) : ∀ (n i : Nat), 1 ≤ i → i + n = l.length ∨ (n = 0 ∧ l.length ≤ i ∧ i ≤ 1) → Ev (fun k => laws_ascends.l0 k l (i : Int)) true
  | 0, i, h0, h => by
    refine Ev.step (f := fun _ => some true) (fun k => ?_) (Ev.now _)
    simp only [laws_ascends.l0]
    rw [if_neg (by omega)]
  | n + 1, i, h0, h => by
    have ih := ascends_down l hl hp n (i + 1) (by omega) (by omega)
    have hi : i < l.length := by omega
    have e1 : rd l (i : Int) = l[i] := getD_of 0 (List.getElem?_eq_getElem hi)
    have e2 : rd l ((i - 1 : Nat) : Int) = l[i - 1] := getD_of 0 (List.getElem?_eq_getElem (by omega))
    have hlt := List.pairwise_iff_getElem.1 hp (i - 1) i (by omega) hi (by omega)
    refine Ev.step (f := fun k => laws_ascends.l0 k l ((i + 1 : Nat) : Int)) (fun k => ?_) ih
    simp only [laws_ascends.l0, wrapd i (by omega) (by omega), wrapi i (by omega), e1, e2]
    rw [if_pos (by omega), if_pos (by omega), if_pos (by omega), if_pos (by omega), if_neg (by omega), Int.natCast_add, Int.natCast_one]
theorem ascends_ev (l : List Int) (hl : l.length ≤ 1048577) (hp : l.Pairwise (· < ·)) : Ev (fun k => laws_ascends.f k l) true := by
  have := ascends_down l hl hp (l.length - 1) 1 (Nat.le_refl _) (by omega)
  exact this
/-- The inner loop: the Ids of a set; behind it the rest goes on. -/
theorem fs_in (l : List S41) (most w : Int) (s : Nat) (hl : l.length ≤ 12) (hs : s < 4096) (r : Bool)
    (hr : Ev (fun k => (impl_WeightOf.f k l (selAt 0 l s)).bind fun t263 => (if t263 ≤ most then ((impl_WorthOf.f k l (selAt 0 l s)).bind fun t264 => (if t264 > w then (some false) else (laws_FnSamples.l0 k l most w (wrap64 ((s : Int) + 1))))) else (laws_FnSamples.l0 k l most w (wrap64 ((s : Int) + 1))))) r) :
    ∀ (t d : List S41) (ids : List Int), l = d ++ t → ids ++ selAt d.length t s = selAt 0 l s → Ev (fun k => laws_FnSamples.l1 k l most w (s : Int) ids (d.length : Int)) r
  | [], d, ids, h, hids => by
    have hlen : l.length = d.length := by rw [h]; simp
    rw [show selAt d.length [] s = [] from rfl, List.append_nil] at hids
    subst hids
    refine Ev.step (fun k => ?_) hr
    simp only [laws_FnSamples.l1]
    rw [if_neg (by omega)]
  | x :: t, d, ids, h, hids => by
    have hlen : l.length = d.length + (t.length + 1) := by rw [h]; simp
    have hx : l[d.length]? = some x := by rw [h]; simp
    have e0 : rd_T41 l (d.length : Int) = x := getD_of z41 hx
    have hil : ids.length ≤ 12 := by
      have := congrArg List.length hids
      rw [List.length_append] at this
      have := selAt_len s l 0
      omega
    rw [selAt_cons] at hids
    have ih := fun ids' hh => fs_in l most w s hl hs r hr t (d ++ [x]) ids' (by rw [h]; simp) hh
    rw [List.length_append, List.length_singleton, show ((d.length + 1 : Nat) : Int) = (d.length : Int) + 1 from by omega] at ih
    have hbt := bit_test s d.length hs (by omega)
    by_cases hb : s.testBit d.length = true
    · rw [if_pos hb] at hids
      refine Ev.step (fun k => ?_) (ih (ids ++ [x.f0]) (by simpa using hids))
      simp only [laws_FnSamples.l1, e0, wrapi d.length (by omega)]
      rw [if_pos (by omega), if_pos (by omega), if_pos (hbt.2 hb), if_pos (by omega)]
    · rw [if_neg hb] at hids
      refine Ev.step (fun k => ?_) (ih ids hids)
      simp only [laws_FnSamples.l1, e0, wrapi d.length (by omega)]
      rw [if_pos (by omega), if_pos (by omega), if_neg (fun h' => hb (hbt.1 h'))]
theorem fs_out (l : List S41) (most w : Int) (ha : mAreSamples l = true) (hw : ∀ s, s < 2 ^ l.length → sumAt (·.f1) 0 l s ≤ most → sumAt (·.f2) 0 l s ≤ w) : ∀ (d s : Nat), s + d = 2 ^ l.length →
    Ev (fun k => laws_FnSamples.l0 k l most w (s : Int)) true
  | d, s, hs => by
    have hl := ((mAreSamples_iff l).1 ha).2
    have hp : 2 ^ l.length ≤ 4096 := Nat.le_trans (Nat.pow_le_pow_right (by decide) hl) (by decide)
    match d, hs with
    | 0, hs =>
      refine Ev.step (f := fun k => laws_FnSamples.j3 k l most w (s : Int) false) (fun k => ?_) (Ev.step (f := fun _ => some true) (fun k => ?_) (Ev.now _))
      · simp only [laws_FnSamples.l0, shl_one l.length hl]
        rw [if_neg (by omega)]
      · simp only [laws_FnSamples.j3, Bool.false_eq_true, if_false]
    | d + 1, hs =>
      refine Ev.step (f := fun k => laws_FnSamples.j3 k l most w (s : Int) (decide ((l.length : Int) ≤ 8))) (fun k => ?_) ?_
      · simp only [laws_FnSamples.l0, shl_one l.length hl]
        rw [if_pos (by omega)]
      by_cases c8 : (l.length : Int) ≤ 8
      · refine Ev.step (f := fun k => laws_FnSamples.l1 k l most w (s : Int) [] 0) (fun k => ?_) ?_
        · simp only [laws_FnSamples.j3, decide_eq_true c8, if_true]
        refine fs_in l most w s hl (by omega) _ ?_ l [] [] rfl rfl
        have hsel := selAt_len s l 0
        have ih := fs_out l most w ha hw d (s + 1) (by omega)
        rw [show ((s + 1 : Nat) : Int) = (s : Int) + 1 from by omega] at ih
        refine Ev.bind (ev_at (implWeight_at l _ (by omega) (by omega))) ?_
        rw [weight_sel l ha s, wrapi s (by omega)]
        by_cases c2 : sumAt (·.f1) 0 l s ≤ most
        · simp only [if_pos c2]
          refine Ev.bind (ev_at (implWorth_at l _ (by omega) (by omega))) ?_
          rw [worth_sel l ha s]
          have := hw s (by omega) c2
          simp only [if_neg (show ¬ sumAt (·.f2) 0 l s > w from by omega)]
          exact ih
        · simp only [if_neg c2]
          exact ih
      · refine Ev.step (f := fun _ => some true) (fun k => ?_) (Ev.now _)
        simp only [laws_FnSamples.j3, decide_eq_false c8, Bool.false_eq_true, if_false]
theorem fs_j0 (l : List S41) (most w : Int) (ha : mAreSamples l = true) (hm : 0 ≤ most ∧ most ≤ 1000) (hw : w = run (stepWorth (mBest l most)) id 0 0 l) : Ev (fun k => laws_FnSamples.j0 k l most (mBest l most) w false) true := by
  obtain ⟨s, hs, eb, h1, h2⟩ := best_spec ha hm
  obtain ⟨g, hg, eg, g1⟩ := greedy_spec ha hm
  have hl := ((mAreSamples_iff l).1 ha).2
  have lb := selAt_len s l 0
  have lg := selAt_len g l 0
  have ew : w = sumAt (·.f2) 0 l s := by rw [hw, eb, worth_sel l ha s]
  refine Ev.step (f := fun k => (laws_ascends.f k (mBest l most)).bind fun t245 => (if t245 = true then ((impl_WeightOf.f k l (mBest l most)).bind fun t246 => (if t246 > most then (laws_FnSamples.j1 k l most w true) else ((impl_WorthOf.f k l (mBest l most)).bind fun t247 => (if t247 = w then ((impl_GreedyLoad.f k l most).bind fun t248 => ((impl_WorthOf.f k l t248).bind fun t251 => (if t251 > w then (laws_FnSamples.j1 k l most w true) else ((impl_GreedyLoad.f k l most).bind fun t252 => ((impl_WeightOf.f k l t252).bind fun t255 => (laws_FnSamples.j1 k l most w (decide (t255 > most)))))))) else (laws_FnSamples.j1 k l most w true))))) else (laws_FnSamples.j1 k l most w true))) (fun k => by simp only [laws_FnSamples.j0, Bool.false_eq_true, if_false]) ?_
  rw [eb]
  refine Ev.bind (ascends_ev _ (by omega) (sel_asc ha s)) ?_
  simp only [if_true]
  refine Ev.bind (ev_at (implWeight_at l _ (by omega) (by omega))) ?_
  rw [weight_sel l ha s]
  simp only [if_neg (show ¬ sumAt (·.f1) 0 l s > most from by omega)]
  refine Ev.bind (ev_at (implWorth_at l _ (by omega) (by omega))) ?_
  rw [worth_sel l ha s]
  simp only [if_pos ew.symm]
  refine Ev.bind (ev_at (implGreedy_at l most (by omega))) ?_
  rw [eg]
  refine Ev.bind (ev_at (implWorth_at l _ (by omega) (by omega))) ?_
  rw [worth_sel l ha g]
  have := h2 g hg g1
  simp only [if_neg (show ¬ sumAt (·.f2) 0 l g > w from by omega)]
  refine Ev.bind (ev_at (implGreedy_at l most (by omega))) ?_
  rw [eg]
  refine Ev.bind (ev_at (implWeight_at l _ (by omega) (by omega))) ?_
  rw [weight_sel l ha g, decide_eq_false (show ¬ sumAt (·.f1) 0 l g > most from by omega)]
  refine Ev.step (f := fun k => laws_FnSamples.l0 k l most w 0) (fun k => by simp only [laws_FnSamples.j1, Bool.false_eq_true, if_false]) ?_
  exact fs_out l most w ha (fun s' q1 q2 => by have := h2 s' q1 q2; omega) (2 ^ l.length) 0 (by omega)
theorem fs_none (l : List S41) (most w : Int) (h : ¬ (mAreSamples l = true ∧ 0 ≤ most ∧ most ≤ 1000)) : Ev (fun k => laws_FnSamples.j0 k l most (mBest l most) w true) true := by
  refine Ev.step (f := fun _ => some true) (fun k => ?_) (Ev.now _)
  have e : mBest l most = [] := by unfold mBest; rw [if_neg h]
  simp only [laws_FnSamples.j0, if_true, e]
  rfl
end FnSamplesPf
open FnSamplesPf
theorem FnSamples : laws_FnSamples.Pure := by
  intro l0 hl hs hw
  apply Ev.rounds (g := fun k => laws_FnSamples.f k l0)
  unfold laws_FnSamples.f
  simp only [laws_big.f, Option.bind_some, decide_eq_true_eq]
  by_cases hb : (l0.length : Int) > 1048576
  · simp only [if_pos hb]
    exact Ev.now _
  · simp only [if_neg hb]
    have hb : l0.length ≤ 1048576 := by omega
    refine Gets.ev (drawBestLoad_ok l0 hb) ?_
    rintro ⟨l, most⟩ hc
    simp only at hc ⊢
    have hlen := mBest_len l most
    refine Ev.bind (implBest_ev l most (by omega)) ?_
    have h2 : Ev (fun k => impl_BestWorth.f k l most) (run (stepWorth (mBest l most)) id 0 0 l) := by
      unfold impl_BestWorth.f
      refine Ev.bind (implBest_ev _ _ (by omega)) ?_
      refine Ev.bind (ev_at (implWorth_at _ _ (by omega) (by omega))) ?_
      exact Ev.now _
    refine Ev.bind h2 ?_
    refine Ev.bind (ev_at (implAS_at l (by omega))) ?_
    refine Ev.bind (ev_at (specAS_at l (by omega))) ?_
    simp only [bne_self_eq_false, Bool.false_eq_true, if_false]
    refine Ev.bind (ev_at (implAS_at l (by omega))) ?_
    by_cases c1 : mAreSamples l = true
    · simp only [if_pos c1]
      by_cases c2 : most < 0
      · simp only [if_pos c2]
        exact fs_none l most _ (by omega)
      · simp only [if_neg c2]
        by_cases c3 : most > 1000
        · simp only [decide_eq_true c3]
          exact fs_none l most _ (by omega)
        · simp only [decide_eq_false c3]
          exact fs_j0 l most _ c1 (by omega) rfl
    · simp only [if_neg c1]
      exact fs_none l most _ (fun h => c1 h.1)
end Go.Proofs.Ytnoakpmlnhmfbaa.Pure
