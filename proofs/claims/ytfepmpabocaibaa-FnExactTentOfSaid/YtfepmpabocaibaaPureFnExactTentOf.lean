/- FnExactTentOf: the pure statement of the law, over the printed functions. No condition beyond the statement's own. -/
import Derived.Test.YtfepmpabocaibaaSFnExactTentOfx3
import Derived.Test.YtfepmpabocaibaaLib
import Derived.Test.YtfepmpabocaibaaOpens
namespace Go.Proofs.Ytfepmpabocaibaa.Pure
open Go.RowKit Go.Proofs.Ytfepmpabocaibaa.PFnExactTentOf Go.Proofs.YtfepmpabocaibaaW.PrintWords Go.Proofs.YtfepmpabocaibaaW.PrintLast Go.Proofs.Ytfepmpabocaibaa.Lib Go.Proofs.Ytfepmpabocaibaa.Opens
set_option linter.unusedVariables false
set_option linter.unusedSimpArgs false
namespace FnExactTentOfPf
theorem szIntS_eq (l : List Int) (a : Int) (hl : l.length ≤ maxLen) (h0 : 0 ≤ a) (h1 : a ≤ 1048576) : laws_szIntS.f l a = some (if a - (l.length : Int) < 0 then -1 else a - (l.length : Int)) := by
  have h : wrap64 (a - (l.length : Int)) = a - (l.length : Int) := wrap_id (by unfold maxLen at hl; omega) (by omega)
  simp only [laws_szIntS.f, h]
  split <;> rfl
theorem toIntS_ev (l : List Int) (hl : l.length ≤ 1048576) : Ev (fun k => laws_toIntS.f k l) l := by
  have h := map_loop (fun k out i => laws_toIntS.l0 k l out i) l id 0 (by omega)
    (fun k out => by simp only [laws_toIntS.l0]; rw [if_neg (by omega)])
    (fun k out i x hx ho hw => by
      have hi := lt_of_get hx
      have hr : rd l (i : Int) = x := getD_of 0 hx
      simp only [laws_toIntS.l0, hr, hw]
      rw [if_pos (by omega), if_pos (by omega), if_pos (by omega), Int.toNat_natCast]; rfl)
  rw [List.map_id] at h
  refine Ev.congr (fun k => ?_) h
  simp only [laws_toIntS.f, Int.toNat_natCast]
  rw [if_pos (by omega), if_pos (by omega)]
theorem eqIntS_ev (l : List Int) (hl : l.length ≤ 4611686018427387904) : Ev (fun k => laws_eqIntS.f k l l) true := by
  have h := count_loop (fun k i => laws_eqIntS.l0 k l l i) l.length true hl
    (fun k => by simp only [laws_eqIntS.l0]; rw [if_neg (by omega)])
    (fun k i hi hw => by simp only [laws_eqIntS.l0, hw]; rw [if_pos (by omega), if_pos (by omega), if_pos (by omega)]; simp)
  refine Ev.congr (fun k => ?_) h
  simp only [laws_eqIntS.f, if_true]
theorem specHas_at (l : List Int) (n : Int) (hl : l.length ≤ 4611686018427387904) : ∀ k, l.length < k → spec_l14Has.f k l n = some (decide (n ∈ l)) := by
  rw [← run_has n l 0]
  exact at_loop0 (fun k _ i => spec_l14Has.l0 k l n i) l (stepHas n) (fun _ => false) hl ()
    (fun k s => by simp only [spec_l14Has.l0]; rw [if_neg (by omega)])
    (fun k s i x hx hw => by
      have hi := lt_of_get hx
      have hr : rd l (i : Int) = x := getD_of 0 hx
      simp only [spec_l14Has.l0, hr, hw]; rw [if_pos (by omega), if_pos (by omega)]
      simp only [stepHas]; split <;> rfl)
theorem implPlace_at (l : List Int) (n : Int) (hl : l.length ≤ 4611686018427387904) : ∀ k, l.length < k → impl_placeOf.f k l n = some (place n l) :=
  at_loop0 (fun k _ i => impl_placeOf.l0 k n l (l.length : Int) i) l (stepPlace n) (fun _ => -1) hl ()
    (fun k s => by simp only [impl_placeOf.l0]; rw [if_neg (by omega)])
    (fun k s i x hx hw => by
      have hi := lt_of_get hx
      have hr : rd l (i : Int) = x := getD_of 0 hx
      simp only [impl_placeOf.l0, hr, hw]; rw [if_pos (by omega), if_pos (by omega), if_pos (by omega)]
      simp only [stepPlace]; split <;> rfl)
theorem implHas_at (l : List Int) (n : Int) (hl : l.length ≤ 4611686018427387904) : ∀ k, l.length < k → impl_has.f k l n = some (decide (n ∈ l)) := fun k hk => by
  simp only [impl_has.f, implPlace_at l n hl k hk, Option.bind_some, place_has]
def cvTent (x : S110) : S111 := ⟨x.f0, x.f1, x.f2⟩
def stepSz : Nat → Int → S110 → Int ⊕ Int := fun _ s x => if s - (x.f2.length : Int) < 0 then .inl (-1) else .inr (s - (x.f2.length : Int))
theorem runSz : ∀ (l : List S110) (i : Nat) (s : Int), s ≤ 1048576 → ¬ run stepSz id i s l < 0 → ∀ x ∈ l, x.f2.length ≤ 1048576
  | [], _, _, _, _, x, hx => by cases hx
  | y :: t, i, s, hs, hr, x, hx => by
    by_cases h : s - (y.f2.length : Int) < 0
    · rw [run_inl (show stepSz i s y = .inl (-1) from if_pos h)] at hr
      exact absurd (by decide) hr
    · rw [run_inr (show stepSz i s y = .inr (s - (y.f2.length : Int)) from if_neg h)] at hr
      rcases List.mem_cons.1 hx with hx | hx
      · subst hx; omega
      · exact runSz t (i + 1) _ (by omega) hr x hx
theorem szTentS_ok (l : List S110) (a : Int) (hl : l.length ≤ maxLen) (hw : ∀ x ∈ l, x.f2.length ≤ maxLen) (h0 : 0 ≤ a) (h1 : a ≤ 1048576) :
    ∃ r, Ev (fun k => laws_szTentS.f k l a) r ∧ (¬ r < 0 → l.length ≤ 1048576 ∧ (∀ x ∈ l, x.f2.length ≤ 1048576) ∧ r ≤ a) ∧ r ≤ a := by
  have hwr : wrap64 (a - (l.length : Int)) = a - (l.length : Int) := wrap_id (by unfold maxLen at hl; omega) (by omega)
  by_cases h : a - (l.length : Int) < 0
  · refine ⟨-1, ?_, fun h => absurd (by decide) h, by omega⟩
    refine Ev.congr (fun k => ?_) (Ev.now (-1))
    simp only [laws_szTentS.f, hwr]
    rw [if_pos h]
  · have hloop := at_loopI (fun k s i => laws_szTentS.l0 k l s i) l stepSz id (fun _ s => 0 ≤ s ∧ s ≤ a) (by omega) (a - (l.length : Int)) ⟨by omega, by omega⟩ 0
      (fun k s _ _ => by simp only [laws_szTentS.l0]; rw [if_neg (by omega)]; rfl)
      (fun s i x s' hI _ he => by
        simp only [stepSz] at he
        split at he
        · cases he
        · injection he with he
          subst he
          omega)
      (fun k s i x _ hI hx hw' => by
        have hi := lt_of_get hx
        have hr : rd_T110 l (i : Int) = x := getD_of z110 hx
        have hxl := hw x (List.mem_of_getElem? hx)
        have hws : wrap64 (s - (x.f2.length : Int)) = s - (x.f2.length : Int) := wrap_id (by unfold maxLen at hxl; omega) (by omega)
        simp only [laws_szTentS.l0, laws_szTent.f, laws_szIntS.f, hr, hw', hws]; rw [if_pos (by omega), if_pos (by omega)]
        simp only [stepSz]
        by_cases c : s - (x.f2.length : Int) < 0
        · rw [if_pos c, if_pos c]
          rfl
        · rw [if_neg c, if_neg c]
          simp only [Option.bind_some]
          rw [if_neg c]
          simp only [Option.bind_some]
          rw [if_neg c]
          rfl)
    have hle : run stepSz id 0 (a - (l.length : Int)) l ≤ a := by
      have key : ∀ (t : List S110) (i : Nat) (s : Int), -1 ≤ s → s ≤ a → run stepSz id i s t ≤ a := by
        intro t
        induction t with
        | nil => intro i s _ hs; exact hs
        | cons x t ih =>
          intro i s hs1 hs
          by_cases c : s - (x.f2.length : Int) < 0
          · rw [run_inl (show stepSz i s x = .inl (-1) from if_pos c)]; omega
          · rw [run_inr (show stepSz i s x = .inr (s - (x.f2.length : Int)) from if_neg c)]; exact ih _ _ (by omega) (by omega)
      exact key l 0 _ (by omega) (by omega)
    refine ⟨run stepSz id 0 (a - (l.length : Int)) l, ?_, fun hr => ⟨by omega, runSz l 0 _ (by omega) hr, hle⟩, hle⟩
    refine Ev.congr (fun k => ?_) (ev_at hloop)
    simp only [laws_szTentS.f, hwr]
    rw [if_neg h]
theorem toInt_at (l : List Int) (hl : l.length ≤ 1048576) : ∀ k, 1048576 < k → laws_toIntS.f k l = some l := by
  intro k hk
  have hev : ∃ K, K ≤ l.length + 1 ∧ ∀ k, K ≤ k → laws_toIntS.f k l = some l := by
    have key : ∀ (t d : List Int) (k : Nat), l = d ++ t → t.length < k → laws_toIntS.l0 k l (d ++ List.replicate t.length 0) (d.length : Int) = some l := by
      intro t
      induction t with
      | nil =>
        intro d k hd hk
        obtain ⟨k, rfl⟩ : ∃ m, k = m + 1 := ⟨k - 1, by simp at hk; omega⟩
        rw [List.append_nil] at hd
        subst hd
        simp only [laws_toIntS.l0]
        rw [if_neg (by omega)]
        simp
      | cons x t ih =>
        intro d k hd hk
        obtain ⟨k, rfl⟩ : ∃ m, k = m + 1 := ⟨k - 1, by simp at hk; omega⟩
        have hx : l[d.length]? = some x := by rw [hd]; simp
        have hlen : l.length = d.length + (t.length + 1) := by rw [hd]; simp
        have hr : rd l (d.length : Int) = x := getD_of 0 hx
        have := ih (d ++ [x]) k (by rw [hd]; simp) (by simp at hk; omega)
        simp only [laws_toIntS.l0, hr, wrapi d.length (by omega)]
        rw [if_pos (by omega), if_pos (by omega), if_pos (by simp only [List.length_append, List.length_replicate, List.length_cons]; omega), Int.toNat_natCast, List.length_cons, List.replicate_succ, set_append _ _ _ _ _ rfl]
        simpa using this
    refine ⟨l.length + 1, Nat.le_refl _, fun k hk => ?_⟩
    have := key l [] k rfl (by omega)
    simp only [laws_toIntS.f, Int.toNat_natCast]
    rw [if_pos (by omega), if_pos (by omega)]
    exact this
  obtain ⟨K', hK', h'⟩ := hev
  exact h' k (by omega)
theorem toTentS_ev (l : List S110) (hl : l.length ≤ 1048576) (hw : ∀ x ∈ l, x.f2.length ≤ 1048576) : Ev (fun k => laws_toTentS.f k l) (l.map cvTent) := by
  have h := map_loopK (fun k out i => laws_toTentS.l0 k l out i) l cvTent z111 1048577 (by omega)
    (fun k out => by simp only [laws_toTentS.l0]; rw [if_neg (by omega)])
    (fun k out i x hk hx ho hw' => by
      have hi := lt_of_get hx
      have hr : rd_T110 l (i : Int) = x := getD_of z110 hx
      simp only [laws_toTentS.l0, laws_toTent.f, toInt_at x.f2 (hw x (List.mem_of_getElem? hx)) k (by omega), Option.bind_some, hr, hw']
      rw [if_pos (by omega), if_pos (by omega), if_pos (by omega), Int.toNat_natCast]; rfl)
  refine Ev.congr (fun k => ?_) h
  simp only [laws_toTentS.f, Int.toNat_natCast]
  rw [if_pos (by omega), if_pos (by omega)]
theorem eqInt_at (l : List Int) (hl : l.length ≤ 1048576) : ∀ k, 1048576 < k → laws_eqIntS.f k l l = some true := by
  have key : ∀ (d i k : Nat), i + d = l.length → d < k → laws_eqIntS.l0 k l l (i : Int) = some true := by
    intro d
    induction d with
    | zero =>
      intro i k hi hk
      obtain ⟨k, rfl⟩ : ∃ m, k = m + 1 := ⟨k - 1, by omega⟩
      simp only [laws_eqIntS.l0]
      rw [if_neg (by omega)]
    | succ d ih =>
      intro i k hi hk
      obtain ⟨k, rfl⟩ : ∃ m, k = m + 1 := ⟨k - 1, by omega⟩
      have := ih (i + 1) k (by omega) (by omega)
      simp only [laws_eqIntS.l0, wrapi i (by omega)]
      rw [if_pos (by omega), if_pos (by omega), if_pos (by omega)]
      simpa using this
  intro k hk
  simp only [laws_eqIntS.f, if_true]
  exact key l.length 0 k (by omega) (by omega)
theorem eqTentS_ev (l : List S111) (hl : l.length ≤ 4611686018427387904) (hw : ∀ x ∈ l, x.f2.length ≤ 1048576) : Ev (fun k => laws_eqTentS.f k l l) true := by
  have h := count_loopK (fun k i => laws_eqTentS.l0 k l l i) l.length true 1048577 hl
    (fun k => by simp only [laws_eqTentS.l0]; rw [if_neg (by omega)])
    (fun k i hk hi hw' => by
      have hx : l[i]? = some l[i] := List.getElem?_eq_getElem hi
      have hr : rd_T111 l (i : Int) = l[i] := getD_of z111 hx
      simp only [laws_eqTentS.l0, laws_eqTent.f, hr, hw', eqInt_at l[i].f2 (hw _ (List.getElem_mem hi)) k (by omega), Option.bind_some, if_true]
      rw [if_pos (by omega), if_pos (by omega), if_pos (by omega)])
  refine Ev.congr (fun k => ?_) h
  simp only [laws_eqTentS.f, if_true]
theorem cvTent_who (l : List S110) (hw : ∀ x ∈ l, x.f2.length ≤ 1048576) : ∀ x ∈ l.map cvTent, x.f2.length ≤ 1048576 := by
  intro x hx
  obtain ⟨y, hy, rfl⟩ := List.mem_map.1 hx
  exact hw y hy
def stepTO (who : Int) : Nat → Unit → S111 → Int ⊕ Unit := fun _ _ x => if who ∈ x.f2 then .inl x.f0 else .inr ()
def mTentOf (l : List S111) (who : Int) : Int := run (stepTO who) (fun _ => 0) 0 () l
theorem specTO_at (l : List S111) (who : Int) (hl : l.length ≤ 1048576) (hw : ∀ x ∈ l, x.f2.length ≤ 1048576) : ∀ k, l.length + 1048577 < k → spec_TentOf.f k l who = some (mTentOf l who) :=
  at_loop (fun k _ i => spec_TentOf.l0 k l who i) l (stepTO who) (fun _ => 0) (by omega) () 1048577
    (fun k s _ => by simp only [spec_TentOf.l0]; rw [if_neg (by omega)])
    (fun k s i x hk hx hw' => by
      have hi := lt_of_get hx
      have hr : rd_T111 l (i : Int) = x := getD_of z111 hx
      have hxw := hw x (List.mem_of_getElem? hx)
      simp only [spec_TentOf.l0, hr, hw', specHas_at x.f2 who (by omega) k (by omega), Option.bind_some, decide_eq_true_eq]; rw [if_pos (by omega), if_pos (by omega)]
      simp only [stepTO]; split <;> rfl)
theorem implTO_at (l : List S111) (who : Int) (hl : l.length ≤ 1048576) (hw : ∀ x ∈ l, x.f2.length ≤ 1048576) : ∀ k, l.length + 1048577 < k → impl_TentOf.f k l who = some (mTentOf l who) :=
  at_loop (fun k _ i => impl_TentOf.l0 k who l (l.length : Int) i) l (stepTO who) (fun _ => 0) (by omega) () 1048577
    (fun k s _ => by simp only [impl_TentOf.l0]; rw [if_neg (by omega)])
    (fun k s i x hk hx hw' => by
      have hi := lt_of_get hx
      have hr : rd_T111 l (i : Int) = x := getD_of z111 hx
      have hxw := hw x (List.mem_of_getElem? hx)
      simp only [impl_TentOf.l0, hr, hw', implHas_at x.f2 who (by omega) k (by omega), Option.bind_some, decide_eq_true_eq]; rw [if_pos (by omega), if_pos (by omega), if_pos (by omega)]
      simp only [stepTO]; split <;> rfl)
theorem specTO_ev (l : List S111) (who : Int) (hl : l.length ≤ 1048576) (hw : ∀ x ∈ l, x.f2.length ≤ 1048576) : Ev (fun k => spec_TentOf.f k l who) (mTentOf l who) := ev_at (specTO_at l who hl hw)
theorem implTO_ev (l : List S111) (who : Int) (hl : l.length ≤ 1048576) (hw : ∀ x ∈ l, x.f2.length ≤ 1048576) : Ev (fun k => impl_TentOf.f k l who) (mTentOf l who) := ev_at (implTO_at l who hl hw)
end FnExactTentOfPf
open FnExactTentOfPf
theorem FnExactTentOf : ∀ (l0 : List S110) (a1 : Int), l0.length ≤ maxLen → (∀ y ∈ l0, (I64 y.f0 ∧ I64 y.f1 ∧ (y.f2.length ≤ maxLen ∧ ∀ x ∈ y.f2, I64 x))) → I64 a1 → ∃ k, laws_FnExactTentOf.f k l0 a1 = some true := by
  intro l0 a1 hl hy _
  apply Ev.rounds (g := fun k => laws_FnExactTentOf.f k l0 a1)
  unfold laws_FnExactTentOf.f
  obtain ⟨r, hr, hb, _⟩ := szTentS_ok l0 1048576 hl (fun x hx => (hy x hx).2.2.1) (by omega) (by omega)
  refine Ev.bind hr ?_
  by_cases h : r < 0
  · simp only [if_pos h]; exact Ev.now _
  · simp only [if_neg h]
    obtain ⟨b1, b2, _⟩ := hb h
    have hlen : (l0.map cvTent).length = l0.length := List.length_map ..
    refine Ev.bind (toTentS_ev l0 b1 b2) ?_
    refine Ev.bind (specTO_ev _ a1 (by omega) (cvTent_who l0 b2)) ?_
    refine Ev.bind (toTentS_ev l0 b1 b2) ?_
    refine Ev.bind (implTO_ev _ a1 (by omega) (cvTent_who l0 b2)) ?_
    simp only [if_true]
    refine Ev.bind (toTentS_ev l0 b1 b2) ?_
    refine Ev.bind (eqTentS_ev _ (by omega) (cvTent_who l0 b2)) ?_
    exact Ev.now _
end Go.Proofs.Ytfepmpabocaibaa.Pure
