/- FnExactCountFor: the pure statement of the law, over the printed functions. No condition beyond the statement's own. -/
import Derived.Test.YtfepmpabocaibaaPFnExactCountForx2
import Derived.Test.YtfepmpabocaibaaLib
import Derived.Test.YtfepmpabocaibaaOpens
namespace Go.Proofs.Ytfepmpabocaibaa.Pure
open Go.RowKit Go.Proofs.Ytfepmpabocaibaa.PFnExactCountFor Go.Proofs.YtfepmpabocaibaaW.PrintWords Go.Proofs.YtfepmpabocaibaaW.PrintLast Go.Proofs.Ytfepmpabocaibaa.Lib Go.Proofs.Ytfepmpabocaibaa.Opens
set_option linter.unusedVariables false
set_option linter.unusedSimpArgs false
namespace FnExactCountForPf
theorem szVoteS_eq (l : List S84) (a : Int) (hl : l.length ≤ maxLen) (h0 : 0 ≤ a) (h1 : a ≤ 1048576) : laws_szVoteS.f l a = some (if a - (l.length : Int) < 0 then -1 else a - (l.length : Int)) := by
  have h : wrap64 (a - (l.length : Int)) = a - (l.length : Int) := wrap_id (by unfold maxLen at hl; omega) (by omega)
  simp only [laws_szVoteS.f, h]
  split <;> rfl
def cvVote (x : S84) : S82 := ⟨x.f0, x.f1⟩
theorem toVoteS_ev (l : List S84) (hl : l.length ≤ 1048576) : Ev (fun k => laws_toVoteS.f k l) (l.map cvVote) := by
  have h := map_loop (fun k out i => laws_toVoteS.l0 k l out i) l cvVote z82 (by omega)
    (fun k out => by simp only [laws_toVoteS.l0]; rw [if_neg (by omega)])
    (fun k out i x hx ho hw => by
      have hi := lt_of_get hx
      have hr : rd_T84 l (i : Int) = x := getD_of z84 hx
      simp only [laws_toVoteS.l0, laws_toVote.f, Option.bind_some, hr, hw]
      rw [if_pos (by omega), if_pos (by omega), if_pos (by omega), Int.toNat_natCast]; rfl)
  refine Ev.congr (fun k => ?_) h
  simp only [laws_toVoteS.f, Int.toNat_natCast]
  rw [if_pos (by omega), if_pos (by omega)]
theorem eqVote_self (a0 : Int) (a1 : Int) : laws_eqVote.f a0 a1 a0 a1 = some true := by
  simp [laws_eqVote.f]
theorem eqVoteS_ev (l : List S82) (hl : l.length ≤ 4611686018427387904) : Ev (fun k => laws_eqVoteS.f k l l) true := by
  have h := count_loop (fun k i => laws_eqVoteS.l0 k l l i) l.length true hl
    (fun k => by simp only [laws_eqVoteS.l0]; rw [if_neg (by omega)])
    (fun k i hi hw => by simp only [laws_eqVoteS.l0, hw]; rw [if_pos (by omega), if_pos (by omega), if_pos (by omega)]; simp only [eqVote_self, Option.bind_some, if_true])
  refine Ev.congr (fun k => ?_) h
  simp only [laws_eqVoteS.f, if_true]
def stepC (c : Int) : Nat → Int → S82 → Int ⊕ Int := fun _ s x => .inr (if x.f1 = c then wrap64 (s + 1) else s)
theorem spec_ev (l : List S82) (c : Int) (hl : l.length ≤ 4611686018427387904) : Ev (fun k => spec_CountFor.f k l c) (run (stepC c) id 0 0 l) :=
  ev_loop0 (fun k s i => spec_CountFor.l0 k l c s i) l (stepC c) id hl 0
    (fun k s => by simp only [spec_CountFor.l0]; rw [if_neg (by omega)]; rfl)
    (fun k s i x hx hw => by
      have hi := lt_of_get hx
      have hr : rd_T82 l (i : Int) = x := getD_of z82 hx
      simp only [spec_CountFor.l0, hr, hw]; rw [if_pos (by omega), if_pos (by omega)]
      simp only [stepC, Sum.elim_inr]; split <;> rfl)
theorem impl_ev (l : List S82) (c : Int) (hl : l.length ≤ 4611686018427387904) : Ev (fun k => impl_CountFor.f k l c) (run (stepC c) id 0 0 l) :=
  ev_loop0 (fun k s i => impl_CountFor.l0 k c s l (l.length : Int) i) l (stepC c) id hl 0
    (fun k s => by simp only [impl_CountFor.l0]; rw [if_neg (by omega)]; rfl)
    (fun k s i x hx hw => by
      have hi := lt_of_get hx
      have hr : rd_T82 l (i : Int) = x := getD_of z82 hx
      simp only [impl_CountFor.l0, hr, hw]; rw [if_pos (by omega), if_pos (by omega), if_pos (by omega)]
      simp only [stepC, Sum.elim_inr]; split <;> rfl)
end FnExactCountForPf
open FnExactCountForPf
theorem FnExactCountFor : ∀ (l0 : List S84) (a1 : Int), l0.length ≤ maxLen → (∀ y ∈ l0, (I64 y.f0 ∧ I64 y.f1)) → I64 a1 → ∃ k, laws_FnExactCountFor.f k l0 a1 = some true := by
  intro l0 a1 hl _ _
  apply Ev.rounds (g := fun k => laws_FnExactCountFor.f k l0 a1)
  unfold laws_FnExactCountFor.f
  simp only [szVoteS_eq l0 1048576 hl (by omega) (by omega), Option.bind_some]
  by_cases h : (1048576 : Int) - (l0.length : Int) < 0
  · simp only [if_pos h]; exact Ev.now _
  · simp only [if_neg h]
    have hlen : (l0.map cvVote).length = l0.length := List.length_map ..
    refine Ev.bind (toVoteS_ev l0 (by omega)) ?_
    refine Ev.bind (spec_ev _ a1 (by omega)) ?_
    refine Ev.bind (toVoteS_ev l0 (by omega)) ?_
    refine Ev.bind (impl_ev _ a1 (by omega)) ?_
    simp only [if_true]
    refine Ev.bind (toVoteS_ev l0 (by omega)) ?_
    refine Ev.bind (eqVoteS_ev _ (by omega)) ?_
    exact Ev.now _
end Go.Proofs.Ytfepmpabocaibaa.Pure
