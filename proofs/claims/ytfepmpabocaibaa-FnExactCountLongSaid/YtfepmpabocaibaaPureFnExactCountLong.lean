/- FnExactCountLong: the pure statement of the law, over the printed functions. No condition beyond the statement's own. -/
import Derived.Test.YtfepmpabocaibaaPFnExactCountLongx1
import Derived.Test.YtfepmpabocaibaaLib
import Derived.Test.YtfepmpabocaibaaOpens
namespace Go.Proofs.Ytfepmpabocaibaa.Pure
open Go.RowKit Go.Proofs.Ytfepmpabocaibaa.PFnExactCountLong Go.Proofs.YtfepmpabocaibaaW.PrintWords Go.Proofs.YtfepmpabocaibaaW.PrintLast Go.Proofs.Ytfepmpabocaibaa.Lib Go.Proofs.Ytfepmpabocaibaa.Opens
set_option linter.unusedVariables false
set_option linter.unusedSimpArgs false
namespace FnExactCountLongPf
theorem toIntS_ev (l : List Int) (hl : l.length ≤ 1048576) : Ev (fun k => laws_toIntS.f k l) l := by
  have h := map_loop (fun k out i => laws_toIntS.l0 k l out i) l id 0 (by omega)
    (fun k out => by simp only [laws_toIntS.l0]; rw [if_neg (by omega)])
    (fun k out i x hx ho hw => by
      have hi := lt_of_get hx
      have hr : rd l (i : Int) = x := getD_of 0 hx
      simp only [laws_toIntS.l0, hr, hw]
      rw [if_pos (by omega), if_pos (by omega), if_pos (by omega), Int.toNat_natCast]; rfl)
  rw [List.map_id] at h
  refine Ev.congr (fun k => ?_) h
  simp only [laws_toIntS.f, Int.toNat_natCast]
  rw [if_pos (by omega), if_pos (by omega)]
theorem eqIntS_ev (l : List Int) (hl : l.length ≤ 4611686018427387904) : Ev (fun k => laws_eqIntS.f k l l) true := by
  have h := count_loop (fun k i => laws_eqIntS.l0 k l l i) l.length true hl
    (fun k => by simp only [laws_eqIntS.l0]; rw [if_neg (by omega)])
    (fun k i hi hw => by simp only [laws_eqIntS.l0, hw]; rw [if_pos (by omega), if_pos (by omega), if_pos (by omega)]; simp)
  refine Ev.congr (fun k => ?_) h
  simp only [laws_eqIntS.f, if_true]
def stepC : Nat → Int → Int → Int ⊕ Int := fun _ s x => .inr (if x = 2 then wrap64 (s + 1) else s)
theorem spec_ev (l : List Int) (hl : l.length ≤ 4611686018427387904) : Ev (fun k => spec_CountLong.f k l) (run stepC id 0 0 l) :=
  ev_loop0 (fun k s i => spec_CountLong.l0 k l s i) l stepC id hl 0
    (fun k s => by simp only [spec_CountLong.l0]; rw [if_neg (by omega)]; rfl)
    (fun k s i x hx hw => by
      have hi := lt_of_get hx
      have hr : rd l (i : Int) = x := getD_of 0 hx
      simp only [spec_CountLong.l0, hr, hw]; rw [if_pos (by omega), if_pos (by omega)]
      simp only [stepC, Sum.elim_inr]; split <;> rfl)
theorem impl_ev (l : List Int) (hl : l.length ≤ 4611686018427387904) : Ev (fun k => impl_CountLong.f k l) (run stepC id 0 0 l) :=
  ev_loop0 (fun k s i => impl_CountLong.l0 k s l (l.length : Int) i) l stepC id hl 0
    (fun k s => by simp only [impl_CountLong.l0]; rw [if_neg (by omega)]; rfl)
    (fun k s i x hx hw => by
      have hi := lt_of_get hx
      have hr : rd l (i : Int) = x := getD_of 0 hx
      simp only [impl_CountLong.l0, hr, hw]; rw [if_pos (by omega), if_pos (by omega), if_pos (by omega)]
      simp only [stepC, Sum.elim_inr]; split <;> rfl)
end FnExactCountLongPf
open FnExactCountLongPf
theorem FnExactCountLong : ∀ (l0 : List Int), l0.length ≤ maxLen → (∀ y ∈ l0, I64 y) → ∃ k, laws_FnExactCountLong.f k l0 = some true := by
  intro l0 _ _
  apply Ev.rounds (g := fun k => laws_FnExactCountLong.f k l0)
  unfold laws_FnExactCountLong.f
  by_cases h : (l0.length : Int) > 1048576
  · simp only [if_pos h]; exact Ev.now _
  · simp only [if_neg h]
    refine Ev.bind (toIntS_ev l0 (by omega)) ?_
    refine Ev.bind (spec_ev _ (by omega)) ?_
    refine Ev.bind (toIntS_ev l0 (by omega)) ?_
    refine Ev.bind (impl_ev _ (by omega)) ?_
    simp only [if_true]
    refine Ev.bind (toIntS_ev l0 (by omega)) ?_
    refine Ev.bind (eqIntS_ev _ (by omega)) ?_
    exact Ev.now _
end Go.Proofs.Ytfepmpabocaibaa.Pure
