/- FnExactSamePages: the pure statement of the law, over the printed functions. No condition beyond the statement's own. -/
import Derived.Test.YtfepmpabocaibaaPFnExactSamePagesx2
import Derived.Test.YtfepmpabocaibaaLib
import Derived.Test.YtfepmpabocaibaaOpens
namespace Go.Proofs.Ytfepmpabocaibaa.Pure
open Go.RowKit Go.Proofs.Ytfepmpabocaibaa.PFnExactSamePages Go.Proofs.YtfepmpabocaibaaW.PrintWords Go.Proofs.YtfepmpabocaibaaW.PrintLast Go.Proofs.Ytfepmpabocaibaa.Lib Go.Proofs.Ytfepmpabocaibaa.Opens
set_option linter.unusedVariables false
set_option linter.unusedSimpArgs false
namespace FnExactSamePagesPf
theorem szPageS_eq (l : List S89) (a : Int) (hl : l.length ≤ maxLen) (h0 : 0 ≤ a) (h1 : a ≤ 1048576) : laws_szPageS.f l a = some (if a - (l.length : Int) < 0 then -1 else a - (l.length : Int)) := by
  have h : wrap64 (a - (l.length : Int)) = a - (l.length : Int) := wrap_id (by unfold maxLen at hl; omega) (by omega)
  simp only [laws_szPageS.f, h]
  split <;> rfl
def cvPage (x : S89) : S87 := ⟨x.f0, x.f1, x.f2, x.f3⟩
theorem toPageS_ev (l : List S89) (hl : l.length ≤ 1048576) : Ev (fun k => laws_toPageS.f k l) (l.map cvPage) := by
  have h := map_loop (fun k out i => laws_toPageS.l0 k l out i) l cvPage z87 (by omega)
    (fun k out => by simp only [laws_toPageS.l0]; rw [if_neg (by omega)])
    (fun k out i x hx ho hw => by
      have hi := lt_of_get hx
      have hr : rd_T89 l (i : Int) = x := getD_of z89 hx
      simp only [laws_toPageS.l0, laws_toPage.f, Option.bind_some, hr, hw]
      rw [if_pos (by omega), if_pos (by omega), if_pos (by omega), Int.toNat_natCast]; rfl)
  refine Ev.congr (fun k => ?_) h
  simp only [laws_toPageS.f, Int.toNat_natCast]
  rw [if_pos (by omega), if_pos (by omega)]
theorem eqPage_self (a0 : Int) (a1 : Int) (a2 : Int) (a3 : Int) : laws_eqPage.f a0 a1 a2 a3 a0 a1 a2 a3 = some true := by
  simp [laws_eqPage.f]
theorem eqPageS_ev (l : List S87) (hl : l.length ≤ 4611686018427387904) : Ev (fun k => laws_eqPageS.f k l l) true := by
  have h := count_loop (fun k i => laws_eqPageS.l0 k l l i) l.length true hl
    (fun k => by simp only [laws_eqPageS.l0]; rw [if_neg (by omega)])
    (fun k i hi hw => by simp only [laws_eqPageS.l0, hw]; rw [if_pos (by omega), if_pos (by omega), if_pos (by omega)]; simp only [eqPage_self, Option.bind_some, if_true])
  refine Ev.congr (fun k => ?_) h
  simp only [laws_eqPageS.f, if_true]
theorem same_fn : ∀ (k : Nat) (a b : List S87) (i : Int), impl_SamePages.l0 k a b i = spec_SamePages.l0 k a b i
  | 0, _, _, _ => rfl
  | k + 1, a, b, i => by simp only [impl_SamePages.l0, spec_SamePages.l0, same_fn k]
def stepC (b : List S87) : Nat → Unit → S87 → Int ⊕ Unit := fun i _ x => match b[i]? with
  | none => .inl (i : Int)
  | some y => if x.f3 = y.f3 then .inr () else .inl (i : Int)
theorem spec_ev (a b : List S87) (hl : a.length ≤ 4611686018427387904) : Ev (fun k => spec_SamePages.f k a b) (run (stepC b) (fun _ => (a.length : Int)) 0 () a) :=
  ev_loop0 (fun k _ i => spec_SamePages.l0 k a b i) a (stepC b) (fun _ => (a.length : Int)) hl ()
    (fun k s => by simp only [spec_SamePages.l0]; rw [if_neg (by omega)])
    (fun k s i x hx hw => by
      have hi := lt_of_get hx
      have hr : rd_T87 a (i : Int) = x := getD_of z87 hx
      simp only [spec_SamePages.l0, hr, hw]; rw [if_pos (by omega)]
      simp only [stepC]
      cases hb : b[i]? with
      | none =>
        have := List.getElem?_eq_none_iff.1 hb
        rw [if_neg (by omega)]
        rfl
      | some y =>
        have hj := lt_of_get hb
        have hr' : rd_T87 b (i : Int) = y := getD_of z87 hb
        rw [if_pos (by omega), if_pos (by omega)]
        simp only [hr']
        split <;> rfl)
theorem impl_ev (a b : List S87) (hl : a.length ≤ 4611686018427387904) : Ev (fun k => impl_SamePages.f k a b) (run (stepC b) (fun _ => (a.length : Int)) 0 () a) :=
  Ev.congr (fun k => by simp only [impl_SamePages.f, spec_SamePages.f, same_fn]) (spec_ev a b hl)
end FnExactSamePagesPf
open FnExactSamePagesPf
theorem FnExactSamePages : ∀ (l0 : List S89) (l1 : List S89), l0.length ≤ maxLen → (∀ y ∈ l0, (I64 y.f0 ∧ I64 y.f1 ∧ I64 y.f2 ∧ I64 y.f3)) → l1.length ≤ maxLen → (∀ y ∈ l1, (I64 y.f0 ∧ I64 y.f1 ∧ I64 y.f2 ∧ I64 y.f3)) → ∃ k, laws_FnExactSamePages.f k l0 l1 = some true := by
  intro l0 l1 hl _ hl1 _
  apply Ev.rounds (g := fun k => laws_FnExactSamePages.f k l0 l1)
  unfold laws_FnExactSamePages.f
  simp only [szPageS_eq l0 1048576 hl (by omega) (by omega), Option.bind_some]
  by_cases h : (1048576 : Int) - (l0.length : Int) < 0
  · simp only [if_pos h]; exact Ev.now _
  · simp only [if_neg h]
    simp only [szPageS_eq l1 (1048576 - (l0.length : Int)) hl1 (by omega) (by omega), Option.bind_some]
    by_cases h' : (1048576 : Int) - (l0.length : Int) - (l1.length : Int) < 0
    · simp only [if_pos h']; exact Ev.now _
    · simp only [if_neg h']
      have hlen : (l0.map cvPage).length = l0.length := List.length_map ..
      have hlen1 : (l1.map cvPage).length = l1.length := List.length_map ..
      refine Ev.bind (toPageS_ev l0 (by omega)) ?_
      refine Ev.bind (toPageS_ev l1 (by omega)) ?_
      refine Ev.bind (spec_ev _ _ (by omega)) ?_
      refine Ev.bind (toPageS_ev l0 (by omega)) ?_
      refine Ev.bind (toPageS_ev l1 (by omega)) ?_
      refine Ev.bind (impl_ev _ _ (by omega)) ?_
      simp only [if_true]
      refine Ev.bind (toPageS_ev l0 (by omega)) ?_
      refine Ev.bind (eqPageS_ev _ (by omega)) ?_
      simp only [if_true]
      refine Ev.bind (toPageS_ev l1 (by omega)) ?_
      refine Ev.bind (eqPageS_ev _ (by omega)) ?_
      exact Ev.now _
end Go.Proofs.Ytfepmpabocaibaa.Pure
