/- FnExactBackPlan: the pure statement of the law, over the printed functions. No condition beyond the statement's own. -/
import Derived.Test.YtfepmpabocaibaaPFnExactBackPlanx2
import Derived.Test.YtfepmpabocaibaaLib
import Derived.Test.YtfepmpabocaibaaOpens
namespace Go.Proofs.Ytfepmpabocaibaa.Pure
open Go.RowKit Go.Proofs.Ytfepmpabocaibaa.PFnExactBackPlan Go.Proofs.YtfepmpabocaibaaW.PrintWords Go.Proofs.YtfepmpabocaibaaW.PrintLast Go.Proofs.Ytfepmpabocaibaa.Lib Go.Proofs.Ytfepmpabocaibaa.Opens
set_option linter.unusedVariables false
set_option linter.unusedSimpArgs false
namespace FnExactBackPlanPf
theorem szLegS_eq (l : List S99) (a : Int) (hl : l.length ≤ maxLen) (h0 : 0 ≤ a) (h1 : a ≤ 1048576) : laws_szLegS.f l a = some (if a - (l.length : Int) < 0 then -1 else a - (l.length : Int)) := by
  have h : wrap64 (a - (l.length : Int)) = a - (l.length : Int) := wrap_id (by unfold maxLen at hl; omega) (by omega)
  simp only [laws_szLegS.f, h]
  split <;> rfl
def cvLeg (x : S99) : S97 := ⟨x.f0, x.f1⟩
theorem toLegS_ev (l : List S99) (hl : l.length ≤ 1048576) : Ev (fun k => laws_toLegS.f k l) (l.map cvLeg) := by
  have h := map_loop (fun k out i => laws_toLegS.l0 k l out i) l cvLeg z97 (by omega)
    (fun k out => by simp only [laws_toLegS.l0]; rw [if_neg (by omega)])
    (fun k out i x hx ho hw => by
      have hi := lt_of_get hx
      have hr : rd_T99 l (i : Int) = x := getD_of z99 hx
      simp only [laws_toLegS.l0, laws_toLeg.f, Option.bind_some, hr, hw]
      rw [if_pos (by omega), if_pos (by omega), if_pos (by omega), Int.toNat_natCast]; rfl)
  refine Ev.congr (fun k => ?_) h
  simp only [laws_toLegS.f, Int.toNat_natCast]
  rw [if_pos (by omega), if_pos (by omega)]
theorem eqLeg_self (a0 : Int) (a1 : Int) : laws_eqLeg.f a0 a1 a0 a1 = some true := by
  simp [laws_eqLeg.f]
theorem eqLegS_ev (l : List S97) (hl : l.length ≤ 4611686018427387904) : Ev (fun k => laws_eqLegS.f k l l) true := by
  have h := count_loop (fun k i => laws_eqLegS.l0 k l l i) l.length true hl
    (fun k => by simp only [laws_eqLegS.l0]; rw [if_neg (by omega)])
    (fun k i hi hw => by simp only [laws_eqLegS.l0, hw]; rw [if_pos (by omega), if_pos (by omega), if_pos (by omega)]; simp only [eqLeg_self, Option.bind_some, if_true])
  refine Ev.congr (fun k => ?_) h
  simp only [laws_eqLegS.f, if_true]
def mkLeg (m : Int) : S97 := ⟨m, m + 1⟩
theorem markLegS_ev (l : List S97) (hl : l.length ≤ 2097152) : Ev (fun k => laws_markLegS.f k l 1) (1 + ((2 * l.length : Nat) : Int), marks mkLeg 2 l.length) := by
  refine mark_loop (fun k xs m i => laws_markLegS.l0 k xs m i) mkLeg 2 l.length (by omega) (by omega) l rfl
    (fun k xs m hx => by simp only [laws_markLegS.l0]; rw [if_neg (by omega)])
    (fun k xs m i hx hi h0 h1 hw => by
      have w1 : wrap64 (m + 1) = m + 1 := wrap_id (by omega) (by omega)
      have w2 : wrap64 (m + 2) = m + 2 := wrap_id (by omega) (by omega)
      have e1 : m + 1 + 1 = m + 2 := by omega
      have hg : ∀ (ys : List S97) (y : S97), ys.length = l.length → rd_T97 (ys.set i y) (i : Int) = y := fun ys y hy => by simp [rd_T97, List.getD_eq_getElem?_getD, hy, hi]
      simp only [laws_markLegS.l0, Option.bind_some, Int.toNat_natCast, hw]
      rw [if_pos (by omega), if_pos (by omega)]
      simp only [hg _ _ hx, hg _ _ ((List.length_set ..).trans hx), List.set_set, w1, w2, e1]
      rfl)
theorem heldLegS_ev (n : Nat) (hn : n ≤ 2097152) : Ev (fun k => laws_heldLegS.f k (marks mkLeg 2 n) 1) (1 + ((2 * n : Nat) : Int)) := by
  have hlen : (marks mkLeg 2 n).length = n := by simp [marks]
  refine held_loop (fun k m i => laws_heldLegS.l0 k (marks mkLeg 2 n) m i) mkLeg 2 n (by omega) (by omega)
    (fun k m => by simp only [laws_heldLegS.l0]; rw [if_neg (by omega)])
    (fun k m i hx hi h0 h1 hw => by
      have hr : rd_T97 (marks mkLeg 2 n) (i : Int) = mkLeg m := getD_of z97 hx
      have w1 : wrap64 (m + 1) = m + 1 := wrap_id (by omega) (by omega)
      have w2 : wrap64 (m + 2) = m + 2 := wrap_id (by omega) (by omega)
      have e1 : m + 1 + 1 = m + 2 := by omega
      simp only [laws_heldLegS.l0, hr, hw, w1, w2, e1]
      rw [if_pos (by omega), if_pos (by omega)]
      simp [mkLeg])
def leg0 (x : S97) : S97 := ⟨x.f0, 0⟩
theorem spec_down (a0 : Int) (l : List S97) (hl : l.length ≤ 1048576) (hp : 0 < l.length) : ∀ (n k : Nat) (out : List S97), n ≤ l.length → out.length + n ≤ 1048576 → n < k →
    spec_BackPlan.l0 k a0 l out ((n : Int) - 1) = some (out ++ ((l.take n).reverse.map leg0) ++ [⟨a0, 0⟩])
  | 0, k, out, _, ho, hk => by
    obtain ⟨k, rfl⟩ : ∃ m, k = m + 1 := ⟨k - 1, by omega⟩
    simp only [spec_BackPlan.l0]
    rw [if_neg (by omega), if_pos (by omega), if_pos (by omega)]
    simp
  | n + 1, k, out, hn, ho, hk => by
    obtain ⟨k, rfl⟩ : ∃ m, k = m + 1 := ⟨k - 1, by omega⟩
    have e : (((n + 1 : Nat) : Int) - 1) = (n : Int) := by omega
    have hw : wrap64 ((n : Int) - 1) = (n : Int) - 1 := wrap_id (by omega) (by omega)
    have hx : l[n]? = some l[n] := List.getElem?_eq_getElem (by omega)
    have hr : rd_T97 l (n : Int) = l[n] := getD_of z97 hx
    simp only [spec_BackPlan.l0, e, hr, hw]
    rw [if_pos (by omega), if_pos (by omega), if_pos (by omega), if_pos (by omega), spec_down a0 l hl hp n k _ (by omega) (by simp; omega) (by omega), List.take_succ_eq_append_getElem (show n < l.length by omega), List.reverse_append, List.map_append]
    simp only [List.reverse_singleton, List.map_cons, List.map_nil, List.append_assoc]
    rfl
theorem impl_down (a0 : Int) (l : List S97) (hl : l.length ≤ 1048576) : ∀ (n k : Nat) (out : List S97), n ≤ l.length → out.length + n ≤ 1048576 → n < k →
    impl_BackPlan.l0 k a0 l out ((n : Int) - 1) = some (out ++ ((l.take n).reverse.map leg0) ++ [⟨a0, 0⟩])
  | 0, k, out, _, ho, hk => by
    obtain ⟨k, rfl⟩ : ∃ m, k = m + 1 := ⟨k - 1, by omega⟩
    simp only [impl_BackPlan.l0]
    rw [if_neg (by omega), if_pos (by omega)]
    simp
  | n + 1, k, out, hn, ho, hk => by
    obtain ⟨k, rfl⟩ : ∃ m, k = m + 1 := ⟨k - 1, by omega⟩
    have e : (((n + 1 : Nat) : Int) - 1) = (n : Int) := by omega
    have hw : wrap64 ((n : Int) - 1) = (n : Int) - 1 := wrap_id (by omega) (by omega)
    have hx : l[n]? = some l[n] := List.getElem?_eq_getElem (by omega)
    have hr : rd_T97 l (n : Int) = l[n] := getD_of z97 hx
    simp only [impl_BackPlan.l0, e, hr, hw]
    rw [if_pos (by omega), if_pos (by omega), if_pos (by omega), if_pos (by omega), impl_down a0 l hl n k _ (by omega) (by simp; omega) (by omega), List.take_succ_eq_append_getElem (show n < l.length by omega), List.reverse_append, List.map_append]
    simp only [List.reverse_singleton, List.map_cons, List.map_nil, List.append_assoc]
    rfl
def mBackPlan (a0 : Int) (l : List S97) : List S97 := if l.length = 0 then [] else ((l.take (l.length - 1)).reverse.map leg0) ++ [⟨a0, 0⟩]
theorem mBackPlan_len (a0 : Int) (l : List S97) : (mBackPlan a0 l).length = l.length := by
  unfold mBackPlan
  split
  · simp; omega
  · simp; omega
theorem specBP_at (a0 : Int) (l : List S97) (hl : l.length ≤ 1048576) : ∀ k, l.length < k → spec_BackPlan.f k a0 l = some (mBackPlan a0 l) := by
  intro k hk
  unfold mBackPlan spec_BackPlan.f
  have hw : wrap64 ((l.length : Int) - 2) = (l.length : Int) - 2 := wrap_id (by omega) (by omega)
  rw [hw]
  by_cases h : l.length = 0
  · obtain ⟨k, rfl⟩ : ∃ m, k = m + 1 := ⟨k - 1, by omega⟩
    simp only [spec_BackPlan.l0]
    rw [if_pos h, if_neg (by omega), if_neg (by omega)]
  · rw [if_neg h]
    have := spec_down a0 l hl (by omega) (l.length - 1) k [] (by omega) (by simp; omega) (by omega)
    rw [show (((l.length - 1 : Nat) : Int) - 1) = (l.length : Int) - 2 from by omega] at this
    rw [this, List.nil_append]
theorem implBP_at (a0 : Int) (l : List S97) (hl : l.length ≤ 1048576) : ∀ k, l.length < k → impl_BackPlan.f k a0 l = some (mBackPlan a0 l) := by
  intro k hk
  unfold mBackPlan impl_BackPlan.f
  have hw : wrap64 ((l.length : Int) - 2) = (l.length : Int) - 2 := wrap_id (by omega) (by omega)
  rw [hw]
  by_cases h : l.length = 0
  · rw [if_pos (by omega), if_pos h]
  · rw [if_neg (by omega), if_neg h]
    have := impl_down a0 l hl (l.length - 1) k [] (by omega) (by simp; omega) (by omega)
    rw [show (((l.length - 1 : Nat) : Int) - 1) = (l.length : Int) - 2 from by omega] at this
    rw [this, List.nil_append]
end FnExactBackPlanPf
open FnExactBackPlanPf
theorem FnExactBackPlan : ∀ (a0 : Int) (l1 : List S99), I64 a0 → l1.length ≤ maxLen → (∀ y ∈ l1, (I64 y.f0 ∧ I64 y.f1)) → ∃ k, laws_FnExactBackPlan.f k a0 l1 = some true := by
  intro a0 l1 _ hl _
  apply Ev.rounds (g := fun k => laws_FnExactBackPlan.f k a0 l1)
  unfold laws_FnExactBackPlan.f
  simp only [szLegS_eq l1 1048576 hl (by omega) (by omega), Option.bind_some]
  by_cases h : (1048576 : Int) - (l1.length : Int) < 0
  · simp only [if_pos h]; exact Ev.now _
  · simp only [if_neg h]
    have hlen : (l1.map cvLeg).length = l1.length := List.length_map ..
    have hm := mBackPlan_len a0 (l1.map cvLeg)
    refine Ev.bind (toLegS_ev l1 (by omega)) ?_
    refine Ev.bind (ev_at (specBP_at _ _ (by omega))) ?_
    refine Ev.bind (toLegS_ev l1 (by omega)) ?_
    refine Ev.bind (ev_at (implBP_at _ _ (by omega))) ?_
    refine Ev.bind (eqLegS_ev _ (by omega)) ?_
    simp only [if_true]
    refine Ev.bind (toLegS_ev l1 (by omega)) ?_
    refine Ev.bind (eqLegS_ev _ (by omega)) ?_
    simp only [if_true]
    refine Ev.bind (markLegS_ev _ (by omega)) ?_
    simp only []
    rw [hlen]
    simp only [show ¬ (1 + ((2 * l1.length : Nat) : Int) < 0) from by omega, if_false]
    refine Ev.bind (eqLegS_ev _ (by omega)) ?_
    refine Ev.step (fun k => by rw [laws_FnExactBackPlan.j0]) ?_
    simp only [Bool.not_true, Bool.false_eq_true, if_false]
    refine Ev.bind (markLegS_ev _ (by omega)) ?_
    refine Ev.bind (heldLegS_ev _ (by omega)) ?_
    simp only [show ¬ (1 + ((2 * (mBackPlan a0 (l1.map cvLeg)).length : Nat) : Int) < 0) from by omega, if_false, if_true]
    refine Ev.bind (toLegS_ev l1 (by omega)) ?_
    refine Ev.bind (ev_at (implBP_at _ _ (by omega))) ?_
    refine Ev.bind (eqLegS_ev _ (by omega)) ?_
    simp only [if_true]
    refine Ev.bind (heldLegS_ev _ (by omega)) ?_
    simp only [show ¬ (1 + ((2 * (mBackPlan a0 (l1.map cvLeg)).length : Nat) : Int) < 0) from by omega, if_false, if_true]
    exact Ev.now _
end Go.Proofs.Ytfepmpabocaibaa.Pure
