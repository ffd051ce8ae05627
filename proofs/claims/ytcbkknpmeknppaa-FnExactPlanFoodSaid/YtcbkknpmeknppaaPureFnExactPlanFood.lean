/- FnExactPlanFood: the pure statement of the law, over the printed functions. No condition beyond the statement's own. -/
import Derived.Test.YtcbkknpmeknppaaSFnExactPlanFoodx20
import Derived.Test.YtcbkknpmeknppaaLibFnExactPlanFood
import Derived.Test.YtcbkknpmeknppaaOpens
namespace Go.Proofs.Ytcbkknpmeknppaa.Pure
open Go.RowKit Go.Proofs.Ytcbkknpmeknppaa.PFnExactPlanFood Go.Proofs.YtcbkknpmeknppaaW.PrintWords Go.Proofs.YtcbkknpmeknppaaW.PrintLast Go.Proofs.Ytcbkknpmeknppaa.Lib Go.Proofs.Ytcbkknpmeknppaa.Opens
set_option linter.unusedVariables false
set_option linter.unusedSimpArgs false
namespace FnExactPlanFoodPf
theorem szIntS_eq (l : List Int) (a : Int) (hl : l.length ≤ maxLen) (h0 : 0 ≤ a) (h1 : a ≤ 1048576) : laws_szIntS.f l a = some (if a - (l.length : Int) < 0 then -1 else a - (l.length : Int)) := by
 have h : wrap64 (a - (l.length : Int)) = a - (l.length : Int) := wrap_id (by unfold maxLen at hl; omega) (by omega)
 simp only [laws_szIntS.f, h]
 split <;> rfl
theorem szLegS_eq (l : List S130) (a : Int) (hl : l.length ≤ maxLen) (h0 : 0 ≤ a) (h1 : a ≤ 1048576) : laws_szLegS.f l a = some (if a - (l.length : Int) < 0 then -1 else a - (l.length : Int)) := by
 have h : wrap64 (a - (l.length : Int)) = a - (l.length : Int) := wrap_id (by unfold maxLen at hl; omega) (by omega)
 simp only [laws_szLegS.f, h]
 split <;> rfl
theorem szMemberS_eq (l : List S152) (a : Int) (hl : l.length ≤ maxLen) (h0 : 0 ≤ a) (h1 : a ≤ 1048576) : laws_szMemberS.f l a = some (if a - (l.length : Int) < 0 then -1 else a - (l.length : Int)) := by
 have h : wrap64 (a - (l.length : Int)) = a - (l.length : Int) := wrap_id (by unfold maxLen at hl; omega) (by omega)
 simp only [laws_szMemberS.f, h]
 split <;> rfl
theorem szBoolS_eq (l : List Bool) (a : Int) (hl : l.length ≤ maxLen) (h0 : 0 ≤ a) (h1 : a ≤ 1048576) : laws_szBoolS.f l a = some (if a - (l.length : Int) < 0 then -1 else a - (l.length : Int)) := by
 have h : wrap64 (a - (l.length : Int)) = a - (l.length : Int) := wrap_id (by unfold maxLen at hl; omega) (by omega)
 simp only [laws_szBoolS.f, h]
 split <;> rfl
theorem toIntS_ev (l : List Int) (hl : l.length ≤ 1048576) : Ev (fun k => laws_toIntS.f k l) l := by
 have h := map_loop (fun k out i => laws_toIntS.l0 k l out i) l id 0 (by omega)
  (fun k out => by simp only [laws_toIntS.l0]; rw [if_neg (by omega)])
  (fun k out i x hx ho hw => by
   have hi := lt_of_get hx
   have hr : rd l (i : Int) = x := getD_of 0 hx
   simp only [laws_toIntS.l0, hr, hw]
   rw [if_pos (by omega), if_pos (by omega), if_pos (by omega), Int.toNat_natCast]; rfl)
 rw [List.map_id] at h
 refine Ev.congr (fun k => ?_) h
 simp only [laws_toIntS.f, Int.toNat_natCast]
 rw [if_pos (by omega), if_pos (by omega)]
def cvLeg (x : S130) : S76 := ⟨x.f0, x.f1⟩
theorem toLegS_ev (l : List S130) (hl : l.length ≤ 1048576) : Ev (fun k => laws_toLegS.f k l) (l.map cvLeg) := by
 have h := map_loop (fun k out i => laws_toLegS.l0 k l out i) l cvLeg z76 (by omega)
  (fun k out => by simp only [laws_toLegS.l0]; rw [if_neg (by omega)])
  (fun k out i x hx ho hw => by
   have hi := lt_of_get hx
   have hr : rd_T130 l (i : Int) = x := getD_of z130 hx
   simp only [laws_toLegS.l0, laws_toLeg.f, Option.bind_some, hr, hw]
   rw [if_pos (by omega), if_pos (by omega), if_pos (by omega), Int.toNat_natCast]; rfl)
 refine Ev.congr (fun k => ?_) h
 simp only [laws_toLegS.f, Int.toNat_natCast]
 rw [if_pos (by omega), if_pos (by omega)]
def cvMember (x : S152) : S112 := ⟨x.f0, x.f1, x.f2, x.f3⟩
theorem toMemberS_ev (l : List S152) (hl : l.length ≤ 1048576) : Ev (fun k => laws_toMemberS.f k l) (l.map cvMember) := by
 have h := map_loop (fun k out i => laws_toMemberS.l0 k l out i) l cvMember z112 (by omega)
  (fun k out => by simp only [laws_toMemberS.l0]; rw [if_neg (by omega)])
  (fun k out i x hx ho hw => by
   have hi := lt_of_get hx
   have hr : rd_T152 l (i : Int) = x := getD_of z152 hx
   simp only [laws_toMemberS.l0, laws_toMember.f, Option.bind_some, hr, hw]
   rw [if_pos (by omega), if_pos (by omega), if_pos (by omega), Int.toNat_natCast]; rfl)
 refine Ev.congr (fun k => ?_) h
 simp only [laws_toMemberS.f, Int.toNat_natCast]
 rw [if_pos (by omega), if_pos (by omega)]
theorem toBoolS_ev (l : List Bool) (hl : l.length ≤ 1048576) : Ev (fun k => laws_toBoolS.f k l) l := by
 have h := map_loop (fun k out i => laws_toBoolS.l0 k l out i) l id false (by omega)
  (fun k out => by simp only [laws_toBoolS.l0]; rw [if_neg (by omega)])
  (fun k out i x hx ho hw => by
   have hi := lt_of_get hx
   have hr : rdOf false l (i : Int) = x := getD_of false hx
   simp only [laws_toBoolS.l0, hr, hw]
   rw [if_pos (by omega), if_pos (by omega), if_pos (by omega), Int.toNat_natCast]; rfl)
 rw [List.map_id] at h
 refine Ev.congr (fun k => ?_) h
 simp only [laws_toBoolS.f, Int.toNat_natCast]
 rw [if_pos (by omega), if_pos (by omega)]
theorem eqIntS_ev (l : List Int) (hl : l.length ≤ 4611686018427387904) : Ev (fun k => laws_eqIntS.f k l l) true := by
 have h := count_loop (fun k i => laws_eqIntS.l0 k l l i) l.length true hl
  (fun k => by simp only [laws_eqIntS.l0]; rw [if_neg (by omega)])
  (fun k i hi hw => by simp only [laws_eqIntS.l0, hw]; rw [if_pos (by omega), if_pos (by omega), if_pos (by omega)]; simp)
 refine Ev.congr (fun k => ?_) h
 simp only [laws_eqIntS.f, if_true]
theorem eqLeg_self (a0 : Int) (a1 : Int) : laws_eqLeg.f a0 a1 a0 a1 = some true := by
 simp [laws_eqLeg.f]
theorem eqLegS_ev (l : List S76) (hl : l.length ≤ 4611686018427387904) : Ev (fun k => laws_eqLegS.f k l l) true := by
 have h := count_loop (fun k i => laws_eqLegS.l0 k l l i) l.length true hl
  (fun k => by simp only [laws_eqLegS.l0]; rw [if_neg (by omega)])
  (fun k i hi hw => by simp only [laws_eqLegS.l0, hw]; rw [if_pos (by omega), if_pos (by omega), if_pos (by omega)]; simp only [eqLeg_self, Option.bind_some, if_true])
 refine Ev.congr (fun k => ?_) h
 simp only [laws_eqLegS.f, if_true]
theorem eqMember_self (a0 : Int) (a1 : Int) (a2 : Int) (a3 : Bool) : laws_eqMember.f a0 a1 a2 a3 a0 a1 a2 a3 = some true := by
 simp [laws_eqMember.f]
theorem eqMemberS_ev (l : List S112) (hl : l.length ≤ 4611686018427387904) : Ev (fun k => laws_eqMemberS.f k l l) true := by
 have h := count_loop (fun k i => laws_eqMemberS.l0 k l l i) l.length true hl
  (fun k => by simp only [laws_eqMemberS.l0]; rw [if_neg (by omega)])
  (fun k i hi hw => by simp only [laws_eqMemberS.l0, hw]; rw [if_pos (by omega), if_pos (by omega), if_pos (by omega)]; simp only [eqMember_self, Option.bind_some, if_true])
 refine Ev.congr (fun k => ?_) h
 simp only [laws_eqMemberS.f, if_true]
theorem eqBoolS_ev (l : List Bool) (hl : l.length ≤ 4611686018427387904) : Ev (fun k => laws_eqBoolS.f k l l) true := by
 have h := count_loop (fun k i => laws_eqBoolS.l0 k l l i) l.length true hl
  (fun k => by simp only [laws_eqBoolS.l0]; rw [if_neg (by omega)])
  (fun k i hi hw => by simp only [laws_eqBoolS.l0, hw]; rw [if_pos (by omega), if_pos (by omega), if_pos (by omega)]; simp)
 refine Ev.congr (fun k => ?_) h
 simp only [laws_eqBoolS.f, if_true]
theorem InRange_eq (a b c : Int) : impl_InRange.f a b c = some (decide (b ≤ a ∧ a ≤ c)) := by
 unfold impl_InRange.f
 by_cases h : b ≤ a
 ·rw [if_pos h]; simp [h]
 ·rw [if_neg h]; simp [h]
theorem l1In_eq (a b c : Int) : spec_l1In.f a b c = some (decide (b ≤ a ∧ a ≤ c)) := by
 unfold spec_l1In.f
 by_cases h : a ≥ b
 ·rw [if_pos h]; simp [h]
 ·rw [if_neg h]; simp [show ¬ (b ≤ a) from by omega]
theorem szLand_ok (W H : Int) (C : List Int) (a : Int) (h2 : C.length ≤ maxLen) (h0 : 0 ≤ a) (ha : a ≤ 1048576) : ∃ r, laws_szLand.f W H C a = some r ∧ (¬ r < 0 → C.length + r ≤ a) ∧ r ≤ a := by
 unfold laws_szLand.f
 rw [szIntS_eq C a h2 h0 ha]
 simp only [Option.bind_some]
 by_cases h : a - (C.length : Int) < 0
 ·rw [if_pos h]
  exact ⟨-1, by simp, by omega, by omega⟩
 ·rw [if_neg h, if_neg h]
  exact ⟨_, rfl, by omega, by omega⟩
theorem toLand_ev (W H : Int) (C : List Int) (h : C.length ≤ 1048576) : Ev (fun k => laws_toLand.f k W H C) (W, H, C) := by
 unfold laws_toLand.f
 refine Ev.bind (toIntS_ev C h) ?_
 exact Ev.now _
theorem eqLand_ev (W H : Int) (C : List Int) (h : C.length ≤ 1048576) : Ev (fun k => laws_eqLand.f k W H C W H C) true := by
 unfold laws_eqLand.f
 simp only [if_true]
 refine Ev.bind (eqIntS_ev C (by omega)) ?_
 simp only [if_true]
 exact Ev.now _
theorem szParty_ok (a0 a1 : Int) (l2 : List S152) (l3 : List Bool) (a : Int) (h2 : l2.length ≤ maxLen) (h3 : l3.length ≤ maxLen) (ha0 : 0 ≤ a) (ha : a ≤ 1048576) :
  ∃ r, laws_szParty.f a0 a1 l2 l3 a = some r ∧ (¬ r < 0 → l2.length + l3.length + r ≤ a) ∧ r ≤ a := by
 unfold laws_szParty.f
 rw [szMemberS_eq l2 a h2 ha0 ha]
 simp only [Option.bind_some]
 by_cases h : a - (l2.length : Int) < 0
 ·rw [if_pos h]
  exact ⟨-1, by simp, by omega, by omega⟩
 ·rw [if_neg h, if_neg h, szBoolS_eq l3 _ h3 (by omega) (by omega)]
  simp only [Option.bind_some]
  by_cases h' : a - (l2.length : Int) - (l3.length : Int) < 0
  ·rw [if_pos h']
   exact ⟨-1, by simp, by omega, by omega⟩
  ·rw [if_neg h', if_neg h']
   exact ⟨_, rfl, by omega, by omega⟩
theorem toParty_ev (a0 a1 : Int) (l2 : List S152) (l3 : List Bool) (h2 : l2.length ≤ 1048576) (h3 : l3.length ≤ 1048576) : Ev (fun k => laws_toParty.f k a0 a1 l2 l3) (a0, a1, l2.map cvMember, l3) := by
 unfold laws_toParty.f
 refine Ev.bind (toMemberS_ev l2 h2) ?_
 refine Ev.bind (toBoolS_ev l3 h3) ?_
 exact Ev.now _
theorem eqParty_ev (a0 a1 : Int) (l2 : List S112) (l3 : List Bool) (h2 : l2.length ≤ 1048576) (h3 : l3.length ≤ 1048576) : Ev (fun k => laws_eqParty.f k a0 a1 l2 l3 a0 a1 l2 l3) true := by
 unfold laws_eqParty.f
 simp only [if_true]
 refine Ev.bind (eqMemberS_ev l2 (by omega)) ?_
 simp only [if_true]
 refine Ev.bind (eqBoolS_ev l3 (by omega)) ?_
 exact Ev.now _
/-! ### A land and its cells -/
theorem mul64 {W H : Int} (h0 : 1 ≤ W ∧ W ≤ 8) (h2 : 1 ≤ H ∧ H ≤ 8) : 1 ≤ W * H ∧ W * H ≤ 64 := by
 have hW : W = 1 ∨ W = 2 ∨ W = 3 ∨ W = 4 ∨ W = 5 ∨ W = 6 ∨ W = 7 ∨ W = 8 := by omega
 rcases hW with rfl | rfl | rfl | rfl | rfl | rfl | rfl | rfl <;> omega
def mLand (W H : Int) (C : List Int) : Bool := decide ((1 ≤ W ∧ W ≤ 8) ∧ (1 ≤ H ∧ H ≤ 8) ∧ (C.length : Int) = W * H ∧ ∀ x ∈ C, 0 ≤ x ∧ x ≤ 2)
def mCell (W H : Int) (C : List Int) (n : Int) : Bool := mLand W H C && decide (0 ≤ n ∧ n ≤ (C.length : Int) - 1)
def mOpen (W H : Int) (C : List Int) (n : Int) : Bool := mCell W H C n && (rd C n != 2)
theorem mLand_iff {W H : Int} {C : List Int} : mLand W H C = true ↔ ((1 ≤ W ∧ W ≤ 8) ∧ (1 ≤ H ∧ H ≤ 8) ∧ (C.length : Int) = W * H ∧ ∀ x ∈ C, 0 ≤ x ∧ x ≤ 2) := by simp [mLand]
theorem mLand_len {W H : Int} {C : List Int} (h : mLand W H C = true) : C.length ≤ 64 := by
 obtain ⟨h1, h2, h3, _⟩ := mLand_iff.1 h
 have := mul64 h1 h2
 omega
theorem mCell_iff {W H : Int} {C : List Int} {n : Int} : mCell W H C n = true ↔ mLand W H C = true ∧ 0 ≤ n ∧ n < (C.length : Int) := by
 simp only [mCell, Bool.and_eq_true, decide_eq_true_eq]
 constructor
 ·rintro ⟨h, h1, h2⟩; exact ⟨h, h1, by omega⟩
 ·rintro ⟨h, h1, h2⟩; exact ⟨h, h1, by omega⟩
theorem mOpen_iff {W H : Int} {C : List Int} {n : Int} : mOpen W H C n = true ↔ mCell W H C n = true ∧ rd C n ≠ 2 := by simp [mOpen]
theorem runAll {p : Int → Prop} [DecidablePred p] : ∀ (l : List Int) (i : Nat), run (fun (_ : Nat) (_ : Unit) (x : Int) => if p x then (.inr () : Bool ⊕ Unit) else .inl false) (fun _ => true) i () l = decide (∀ x ∈ l, p x)
 | [], _ => by simp [run]
 | x :: t, i => by
  by_cases h : p x
  ·rw [run_inr (show (if p x then (.inr () : Bool ⊕ Unit) else .inl false) = .inr () from if_pos h), runAll t (i + 1)]
   simp [h]
  ·rw [run_inl (show (if p x then (.inr () : Bool ⊕ Unit) else .inl false) = .inl false from if_neg h)]
   simp [h]
theorem implAllIn_ev (l : List Int) (a b : Int) (hl : l.length ≤ 4611686018427387904) : Ev (fun k => impl_allIn.f k l a b) (decide (∀ x ∈ l, a ≤ x ∧ x ≤ b)) := by
 rw [← runAll (p := fun x => a ≤ x ∧ x ≤ b) l 0]
 exact ev_loop0 (fun k _ i => impl_allIn.l0 k a b l (l.length : Int) i) l _ (fun _ => true) hl ()
  (fun k s => by simp only [impl_allIn.l0]; rw [if_neg (by omega)])
  (fun k s i x hx hw => by
   have hi := lt_of_get hx
   have hr : rd l (i : Int) = x := getD_of 0 hx
   simp only [impl_allIn.l0, hr, hw, InRange_eq, Option.bind_some]; rw [if_pos (by omega), if_pos (by omega), if_pos (by omega)]
   by_cases h : a ≤ x ∧ x ≤ b
   ·simp [h]
   ·simp [h])
theorem implLand_ev (W H : Int) (C : List Int) (hC : C.length ≤ 4611686018427387904) : Ev (fun k => impl_IsLand.f k W H C) (mLand W H C) := by
 unfold impl_IsLand.f
 simp only [InRange_eq, Option.bind_some]
 by_cases h1 : 1 ≤ W ∧ W ≤ 8
 ·simp only [decide_eq_true h1, if_true]
  by_cases h2 : 1 ≤ H ∧ H ≤ 8
  ·simp only [decide_eq_true h2, if_true]
   have hm := mul64 h1 h2
   simp only [wrap_id (n := W * H) (by omega) (by omega)]
   by_cases h3 : (C.length : Int) = W * H
   ·simp only [if_pos h3]
    refine Ev.bind (implAllIn_ev C 0 2 hC) ?_
    have e : mLand W H C = decide (∀ x ∈ C, 0 ≤ x ∧ x ≤ 2) := by simp [mLand, h1, h2, h3]
    rw [e]
    exact Ev.now _
   ·simp only [if_neg h3]
    have e : mLand W H C = false := by simp [mLand, h3]
    rw [e]
    exact Ev.now _
  ·simp only [decide_eq_false h2, Bool.false_eq_true, if_false]
   have e : mLand W H C = false := by
    cases h : mLand W H C with
    | false => rfl
    | true => exact absurd (mLand_iff.1 h).2.1 h2
   rw [e]
   exact Ev.now _
 ·simp only [decide_eq_false h1, Bool.false_eq_true, if_false]
  have e : mLand W H C = false := by
   cases h : mLand W H C with
   | false => rfl
   | true => exact absurd (mLand_iff.1 h).1 h1
  rw [e]
  exact Ev.now _
theorem implCell_ev (W H : Int) (C : List Int) (n : Int) (hC : C.length ≤ 4611686018427387904) : Ev (fun k => impl_IsCell.f k W H C n) (mCell W H C n) := by
 unfold impl_IsCell.f
 refine Ev.bind (implLand_ev W H C hC) ?_
 unfold mCell
 cases mLand W H C with
 | false => simp only [Bool.false_eq_true, if_false, Bool.false_and]; exact Ev.now _
 | true =>
  simp only [if_true, InRange_eq, Option.bind_some, wrap_id (n := (C.length : Int) - 1) (by omega) (by omega), Bool.true_and]
  exact Ev.now _
theorem implOpen_ev (W H : Int) (C : List Int) (n : Int) (hC : C.length ≤ 4611686018427387904) : Ev (fun k => impl_IsOpen.f k W H C n) (mOpen W H C n) := by
 unfold impl_IsOpen.f
 refine Ev.bind (implCell_ev W H C n hC) ?_
 unfold mOpen
 cases h : mCell W H C n with
 | false => simp only [Bool.false_eq_true, if_false, Bool.false_and]; exact Ev.now _
 | true =>
  obtain ⟨_, h0, h1⟩ := mCell_iff.1 h
  simp only [if_true, if_pos h0, if_pos h1, Bool.true_and]
  exact Ev.now _
theorem specLand_loop (W H : Int) (C : List Int) (hl : C.length ≤ 4611686018427387904) : Ev (fun k => spec_IsLand.l0 k 0 W H C) (decide (∀ x ∈ C, 0 ≤ x ∧ x ≤ 2)) := by
 rw [← runAll (p := fun x => 0 ≤ x ∧ x ≤ 2) C 0]
 exact ev_loop0 (fun k _ i => spec_IsLand.l0 k i W H C) C _ (fun _ => true) hl ()
  (fun k s => by simp only [spec_IsLand.l0]; rw [if_neg (by omega)])
  (fun k s i x hx hw => by
   have hi := lt_of_get hx
   have hr : rd C (i : Int) = x := getD_of 0 hx
   simp only [spec_IsLand.l0, hr, hw, l1In_eq, Option.bind_some]; rw [if_pos (by omega), if_pos (by omega)]
   by_cases h : 0 ≤ x ∧ x ≤ 2
   ·simp [h]
   ·simp [h])
theorem specLand_ev (W H : Int) (C : List Int) (hC : C.length ≤ 4611686018427387904) : Ev (fun k => spec_IsLand.f k W H C) (mLand W H C) := by
 unfold spec_IsLand.f
 simp only [l1In_eq, Option.bind_some]
 have hno : mLand W H C = false → Ev (fun k => spec_IsLand.j0 k true W H C) (mLand W H C) := fun e => by
  rw [e]
  exact Ev.step (f := fun _ => some false) (fun k => by simp [spec_IsLand.j0]) (Ev.now _)
 by_cases h1 : 1 ≤ W ∧ W ≤ 8
 ·simp only [decide_eq_true h1, if_true]
  by_cases h2 : 1 ≤ H ∧ H ≤ 8
  ·simp only [decide_eq_true h2, if_true]
   have hm := mul64 h1 h2
   simp only [wrap_id (n := W * H) (by omega) (by omega)]
   by_cases h3 : (C.length : Int) = W * H
   ·have hb : ((C.length : Int) != W * H) = false := by simp [h3]
    simp only [hb]
    have e : mLand W H C = decide (∀ x ∈ C, 0 ≤ x ∧ x ≤ 2) := by simp [mLand, h1, h2, h3]
    rw [e]
    exact Ev.step (fun k => by simp [spec_IsLand.j0]) (specLand_loop W H C hC)
   ·have hb : ((C.length : Int) != W * H) = true := by simp [h3]
    simp only [hb]
    exact hno (by simp [mLand, h3])
  ·simp only [decide_eq_false h2, Bool.false_eq_true, if_false]
   refine hno ?_
   cases h : mLand W H C with
   | false => rfl
   | true => exact absurd (mLand_iff.1 h).2.1 h2
 ·simp only [decide_eq_false h1, Bool.false_eq_true, if_false]
  refine hno ?_
  cases h : mLand W H C with
  | false => rfl
  | true => exact absurd (mLand_iff.1 h).1 h1
theorem specCell_ev (W H : Int) (C : List Int) (n : Int) (hC : C.length ≤ 4611686018427387904) : Ev (fun k => spec_IsCell.f k W H C n) (mCell W H C n) := by
 unfold spec_IsCell.f
 refine Ev.bind (specLand_ev W H C hC) ?_
 unfold mCell
 cases mLand W H C with
 | false => simp only [Bool.false_eq_true, if_false, Bool.false_and]; exact Ev.now _
 | true =>
  simp only [if_true, l1In_eq, Option.bind_some, wrap_id (n := (C.length : Int) - 1) (by omega) (by omega), Bool.true_and]
  exact Ev.now _
theorem specOpen_ev (W H : Int) (C : List Int) (n : Int) (hC : C.length ≤ 4611686018427387904) : Ev (fun k => spec_IsOpen.f k W H C n) (mOpen W H C n) := by
 unfold spec_IsOpen.f
 refine Ev.bind (specCell_ev W H C n hC) ?_
 unfold mOpen
 cases h : mCell W H C n with
 | false => simp only [Bool.false_eq_true, if_false, Bool.false_and]; exact Ev.now _
 | true =>
  obtain ⟨_, h0, h1⟩ := mCell_iff.1 h
  simp only [if_true, if_pos h0, if_pos h1, Bool.true_and]
  exact Ev.now _
/-! ### What lies beside a cell -/
theorem oct {W : Int} (h : 1 ≤ W ∧ W ≤ 8) : W = 1 ∨ W = 2 ∨ W = 3 ∨ W = 4 ∨ W = 5 ∨ W = 6 ∨ W = 7 ∨ W = 8 := by omega
theorem dm {W a : Int} (h : 1 ≤ W ∧ W ≤ 8) (h0 : 0 ≤ a) (h1 : a < 64) : 0 ≤ Int.tmod a W ∧ Int.tmod a W < W ∧ 0 ≤ Int.tdiv a W ∧ Int.tdiv a W ≤ 63 := by
 rw [Int.tmod_eq_emod_of_nonneg h0, Int.tdiv_eq_ediv_of_nonneg h0]
 rcases oct h with rfl | rfl | rfl | rfl | rfl | rfl | rfl | rfl <;> omega
theorem last_row {W H n : Int} {L : Int} (hW : 1 ≤ W ∧ W ≤ 8) (hH : 1 ≤ H ∧ H ≤ 8) (hL : L = W * H) (h0 : 0 ≤ n) (h1 : n < L) (h : Int.tmod n W < W - 1) : n + 1 < L := by
 rw [Int.tmod_eq_emod_of_nonneg h0] at h
 subst hL
 rcases oct hW with rfl | rfl | rfl | rfl | rfl | rfl | rfl | rfl <;> omega
def mNear (W : Int) (C : List Int) (n : Int) : List Int := (if W ≤ n ∧ rd C (n - W) ≠ 2 then [n - W] else []) ++ ((if Int.tmod n W > 0 ∧ rd C (n - 1) ≠ 2 then [n - 1] else []) ++ ((if Int.tmod n W < W - 1 ∧ rd C (n + 1) ≠ 2 then [n + 1] else []) ++ (if n + W < (C.length : Int) ∧ rd C (n + W) ≠ 2 then [n + W] else [])))
theorem near_mem {W : Int} {C : List Int} {n c : Int} : c ∈ mNear W C n ↔ (W ≤ n ∧ c = n - W ∧ rd C c ≠ 2) ∨ (Int.tmod n W > 0 ∧ c = n - 1 ∧ rd C c ≠ 2) ∨ (Int.tmod n W < W - 1 ∧ c = n + 1 ∧ rd C c ≠ 2) ∨ (n + W < (C.length : Int) ∧ c = n + W ∧ rd C c ≠ 2) := by
 have one : ∀ (p : Prop) [Decidable p] (e : Int), c ∈ (if p ∧ rd C e ≠ 2 then [e] else []) ↔ p ∧ c = e ∧ rd C c ≠ 2 := fun p _ e => by
  by_cases h : p ∧ rd C e ≠ 2
  ·rw [if_pos h, List.mem_singleton]
   constructor
   ·intro hc; subst hc; exact ⟨h.1, rfl, h.2⟩
   ·exact fun hc => hc.2.1
  ·rw [if_neg h]
   constructor
   ·intro hc; simp at hc
   ·rintro ⟨h1, rfl, h2⟩; exact absurd ⟨h1, h2⟩ h
 unfold mNear
 rw [List.mem_append, List.mem_append, List.mem_append, one, one, one, one]
theorem near_in {W H : Int} {C : List Int} {n c : Int} (h : mCell W H C n = true) (hc : c ∈ mNear W C n) : 0 ≤ c ∧ c < (C.length : Int) ∧ rd C c ≠ 2 := by
 obtain ⟨hL, h0, h1⟩ := mCell_iff.1 h
 obtain ⟨hW, hH, hlen, _⟩ := mLand_iff.1 hL
 have h64 := mLand_len hL
 rcases near_mem.1 hc with ⟨a1, rfl, a3⟩ | ⟨a1, rfl, a3⟩ | ⟨a1, rfl, a3⟩ | ⟨a1, rfl, a3⟩
 ·exact ⟨by omega, by omega, a3⟩
 ·have : 0 < n := by
   rcases (show 0 < n ∨ n ≤ 0 by omega) with h' | h'
   ·exact h'
   ·have : n = 0 := by omega
    subst this
    simp at a1
  exact ⟨by omega, by omega, a3⟩
 ·exact ⟨by omega, last_row hW hH hlen h0 h1 a1, a3⟩
 ·exact ⟨by omega, a1, a3⟩
def mAp (W a b : Int) : Int := mx (Int.tmod a W - Int.tmod b W) (-(Int.tmod a W - Int.tmod b W)) + mx (Int.tdiv a W - Int.tdiv b W) (-(Int.tdiv a W - Int.tdiv b W))
def mApart (W H : Int) (C : List Int) (a b : Int) : Int := if mCell W H C a && mCell W H C b then mAp W a b else -1
theorem mx_abs (x : Int) : mx x (-x) = if x < 0 then -x else x := by unfold mx; split <;> split <;> omega
theorem ap_up {W n : Int} (h : 1 ≤ W ∧ W ≤ 8) (h0 : 0 ≤ n - W) (h1 : n < 64) : mAp W n (n - W) = 1 := by
 unfold mAp
 rw [mx_abs, mx_abs, Int.tmod_eq_emod_of_nonneg (by omega), Int.tdiv_eq_ediv_of_nonneg (by omega), Int.tmod_eq_emod_of_nonneg h0, Int.tdiv_eq_ediv_of_nonneg h0]
 rcases oct h with rfl | rfl | rfl | rfl | rfl | rfl | rfl | rfl <;> (split <;> split <;> omega)
theorem ap_down {W n : Int} (h : 1 ≤ W ∧ W ≤ 8) (h0 : 0 ≤ n) (h1 : n < 64) : mAp W n (n + W) = 1 := by
 unfold mAp
 rw [mx_abs, mx_abs, Int.tmod_eq_emod_of_nonneg (by omega), Int.tdiv_eq_ediv_of_nonneg (by omega), Int.tmod_eq_emod_of_nonneg (by omega), Int.tdiv_eq_ediv_of_nonneg (by omega)]
 rcases oct h with rfl | rfl | rfl | rfl | rfl | rfl | rfl | rfl <;> (split <;> split <;> omega)
theorem ap_left {W n : Int} (h : 1 ≤ W ∧ W ≤ 8) (h0 : 0 ≤ n - 1) (h1 : n < 64) : mAp W n (n - 1) = 1 ↔ (Int.tmod n W > 0 ∨ W = 1) := by
 unfold mAp
 rw [mx_abs, mx_abs, Int.tmod_eq_emod_of_nonneg (by omega), Int.tdiv_eq_ediv_of_nonneg (by omega), Int.tmod_eq_emod_of_nonneg (by omega), Int.tdiv_eq_ediv_of_nonneg (by omega)]
 rcases oct h with rfl | rfl | rfl | rfl | rfl | rfl | rfl | rfl <;> (split <;> split <;> omega)
theorem ap_right {W n : Int} (h : 1 ≤ W ∧ W ≤ 8) (h0 : 0 ≤ n) (h1 : n < 64) : mAp W n (n + 1) = 1 ↔ (Int.tmod n W < W - 1 ∨ W = 1) := by
 unfold mAp
 rw [mx_abs, mx_abs, Int.tmod_eq_emod_of_nonneg (by omega), Int.tdiv_eq_ediv_of_nonneg (by omega), Int.tmod_eq_emod_of_nonneg (by omega), Int.tdiv_eq_ediv_of_nonneg (by omega)]
 rcases oct h with rfl | rfl | rfl | rfl | rfl | rfl | rfl | rfl <;> (split <;> split <;> omega)
theorem size_eq (x : Int) (h : -4611686018427387904 ≤ x) (h' : x ≤ 4611686018427387904) : impl_size.f x = some (mx x (-x)) := by
 unfold impl_size.f
 rw [wrap_id (by omega) (by omega)]
theorem implApart_ev (W H : Int) (C : List Int) (a b : Int) (hC : C.length ≤ 4611686018427387904) : Ev (fun k => impl_Apart.f k W H C a b) (mApart W H C a b) := by
 unfold impl_Apart.f
 have hno : Ev (fun k => impl_Apart.j0 k a b true W H C) (-1) := Ev.step (f := fun _ => some (-1)) (fun k => by simp [impl_Apart.j0]) (Ev.now _)
 refine Ev.bind (implCell_ev W H C a hC) ?_
 unfold mApart
 cases ha : mCell W H C a with
 | false => simp only [Bool.false_eq_true, if_false, Bool.false_and]; exact hno
 | true =>
  simp only [if_true, Bool.true_and]
  refine Ev.bind (implCell_ev W H C b hC) ?_
  cases hb : mCell W H C b with
  | false => simp only [Bool.false_eq_true, if_false, Bool.not_false]; exact hno
  | true =>
   simp only [if_true, Bool.not_true]
   refine Ev.step (f := fun _ => some (mAp W a b)) (fun k => ?_) (Ev.now _)
   obtain ⟨hL, ha0, ha1⟩ := mCell_iff.1 ha
   obtain ⟨_, hb0, hb1⟩ := mCell_iff.1 hb
   have hl := mLand_len hL
   have hW := (mLand_iff.1 hL).1
   have da := dm hW ha0 (by omega)
   have db := dm hW hb0 (by omega)
   simp only [impl_Apart.j0, Bool.false_eq_true, if_false]
   rw [if_neg (by omega), wrap_id (n := Int.tmod a W - Int.tmod b W) (by omega) (by omega), wrap_id (n := Int.tdiv a W) (by omega) (by omega), wrap_id (n := Int.tdiv b W) (by omega) (by omega), wrap_id (n := Int.tdiv a W - Int.tdiv b W) (by omega) (by omega), size_eq _ (by omega) (by omega), size_eq _ (by omega) (by omega)]
   simp only [Option.bind_some]
   rw [show mx (Int.tmod a W - Int.tmod b W) (-(Int.tmod a W - Int.tmod b W)) + mx (Int.tdiv a W - Int.tdiv b W) (-(Int.tdiv a W - Int.tdiv b W)) = mAp W a b from rfl, wrap_id]
   ·unfold mAp mx
    split <;> split <;> omega
   ·unfold mAp mx
    split <;> split <;> omega
def pNear (W H : Int) (C : List Int) (n m : Int) : Bool := mOpen W H C m && decide (mApart W H C n m = 1)
theorem implNear_loop (W H : Int) (C : List Int) (n : Int) (ys : List Int) (hC : C.length ≤ 4611686018427387904) (hy : ys.length ≤ 4) : ∀ (t d out : List Int), ys = d ++ t → out.length ≤ d.length →
  Ev (fun k => impl_Near.l0 k n out ys (ys.length : Int) (d.length : Int) W H C) (Lib.compact (out ++ t.filter (pNear W H C n)))
 | [], d, out, h, ho => by
  have hlen : ys.length = d.length := by rw [h]; simp
  refine Ev.step (f := fun _ => some (Lib.compact out)) (fun k => ?_) ?_
  ·simp only [impl_Near.l0, slices_Compact_int_int.f, Option.bind_some]
   rw [if_neg (by omega)]
  ·simp only [List.filter_nil, List.append_nil]
   exact Ev.now _
 | y :: t, d, out, h, ho => by
  have hlen : ys.length = d.length + (t.length + 1) := by rw [h]; simp
  have hyy : ys[d.length]? = some y := by rw [h]; simp
  have hr : rd ys (d.length : Int) = y := getD_of 0 hyy
  have ih := fun out' (ho' : out'.length ≤ d.length + 1) => implNear_loop W H C n ys hC hy t (d ++ [y]) out' (by rw [h]; simp) (by simpa using ho')
  simp only [List.length_append, List.length_singleton, show ((d.length + 1 : Nat) : Int) = (d.length : Int) + 1 from by omega] at ih
  refine Ev.step (f := fun k => (impl_IsOpen.f k W H C y).bind fun t130 => (if t130 = true then ((impl_Apart.f k W H C n y).bind fun t131 => (if t131 = 1 then (if out.length < 17592186044416 then (impl_Near.l0 k n (out ++ [y]) ys (ys.length : Int) ((d.length : Int) + 1) W H C) else (none)) else (impl_Near.l0 k n out ys (ys.length : Int) ((d.length : Int) + 1) W H C))) else (impl_Near.l0 k n out ys (ys.length : Int) ((d.length : Int) + 1) W H C))) (fun k => ?_) ?_
  ·simp only [impl_Near.l0, hr, wrapi d.length (by omega)]
   rw [if_pos (by omega), if_pos (by omega), if_pos (by omega)]
  ·refine Ev.bind (implOpen_ev W H C y hC) ?_
   cases h1 : mOpen W H C y with
   | false =>
    simp only [Bool.false_eq_true, if_false]
    rw [List.filter_cons_of_neg (by simp [pNear, h1])]
    exact ih out (by omega)
   | true =>
    simp only [if_true]
    refine Ev.bind (implApart_ev W H C n y hC) ?_
    by_cases h2 : mApart W H C n y = 1
    ·simp only [if_pos h2]
     rw [List.filter_cons_of_pos (by simp [pNear, h1, h2])]
     simp only [if_pos (show out.length < 17592186044416 from by omega)]
     have := ih (out ++ [y]) (by simp; omega)
     rw [List.append_assoc] at this
     exact this
    ·simp only [if_neg h2]
     rw [List.filter_cons_of_neg (by simp [pNear, h1, h2])]
     exact ih out (by omega)
theorem compact_asc (l : List Int) (h : l.Pairwise (· < ·)) : Lib.compact l = l := by
 refine Lib.compact_all l (fun j hj => ?_)
 rcases Nat.eq_zero_or_pos j with h0 | h0
 ·subst h0; exact Lib.keeps_lt_one _ 0 (by omega)
 ·refine Lib.keeps_pos ?_
  have := List.pairwise_iff_getElem.1 h (j - 1) j (by omega) hj (by omega)
  rw [getElem!_pos _ _ (by simpa using hj), getElem!_pos _ _ (by simp; omega)]
  simp only [List.getElem_toArray]
  omega
theorem compact2 (a : Int) : Lib.compact [a, a] = [a] := by simp [Lib.compact, Lib.compactUpTo, Lib.keeps, List.range_succ]
theorem compact4 (a b : Int) (h : a ≠ b) : Lib.compact [a, a, b, b] = [a, b] := by
 have h' : b ≠ a := fun e => h e.symm
 simp [Lib.compact, Lib.compactUpTo, Lib.keeps, List.range_succ, h']
theorem near_eq {W H : Int} {C : List Int} {n : Int} (h : mCell W H C n = true) : Lib.compact ([n - W, n - 1, n + 1, n + W].filter (pNear W H C n)) = mNear W C n := by
 obtain ⟨hL, h0, h1⟩ := mCell_iff.1 h
 obtain ⟨hW, hH, hlen, _⟩ := mLand_iff.1 hL
 have h64 := mLand_len hL
 have hp : ∀ m, pNear W H C n m = decide ((0 ≤ m ∧ m < (C.length : Int)) ∧ rd C m ≠ 2 ∧ mAp W n m = 1) := fun m => by
  unfold pNear mApart
  by_cases hm : 0 ≤ m ∧ m < (C.length : Int)
  ·have hc : mCell W H C m = true := mCell_iff.2 ⟨hL, hm⟩
   simp only [h, hc, Bool.and_self, if_true]
   by_cases h2 : rd C m = 2
   ·simp [mOpen, h2]
   ·simp [mOpen, hc, hm, h2]
  ·have hc : mOpen W H C m = false := by
    cases e : mOpen W H C m with
    | false => rfl
    | true => exact absurd (mCell_iff.1 (mOpen_iff.1 e).1).2 hm
   simp [hc, hm]
 have f4 : [n - W, n - 1, n + 1, n + W].filter (pNear W H C n) = (if pNear W H C n (n - W) = true then [n - W] else []) ++ ((if pNear W H C n (n - 1) = true then [n - 1] else []) ++ ((if pNear W H C n (n + 1) = true then [n + 1] else []) ++ (if pNear W H C n (n + W) = true then [n + W] else []))) := by
  simp only [List.filter_cons, List.filter_nil]
  split <;> split <;> split <;> split <;> rfl
 have eU : pNear W H C n (n - W) = decide (W ≤ n ∧ rd C (n - W) ≠ 2) := by
  rw [hp, decide_eq_decide]
  constructor
  ·rintro ⟨⟨a, _⟩, b, _⟩; exact ⟨by omega, b⟩
  ·rintro ⟨a, b⟩; exact ⟨⟨by omega, by omega⟩, b, ap_up hW (by omega) (by omega)⟩
 have eD : pNear W H C n (n + W) = decide (n + W < (C.length : Int) ∧ rd C (n + W) ≠ 2) := by
  rw [hp, decide_eq_decide]
  constructor
  ·rintro ⟨⟨_, a⟩, b, _⟩; exact ⟨a, b⟩
  ·rintro ⟨a, b⟩; exact ⟨⟨by omega, a⟩, b, ap_down hW (by omega) (by omega)⟩
 rw [f4]
 by_cases hW1 : W = 1
 ·subst hW1
  have m0 : Int.tmod n 1 = 0 := by rw [Int.tmod_eq_emod_of_nonneg h0]; omega
  rw [eU, eD]
  unfold mNear
  simp only [m0]
  have z1 : ¬ ((0 : Int) > 0 ∧ rd C (n - 1) ≠ 2) := fun h => absurd h.1 (by omega)
  have z2 : ¬ ((0 : Int) < 1 - 1 ∧ rd C (n + 1) ≠ 2) := fun h => absurd h.1 (by omega)
  rw [if_neg z1, if_neg z2]
  by_cases c1 : 1 ≤ n ∧ rd C (n - 1) ≠ 2
  ·by_cases c2 : n + 1 < (C.length : Int) ∧ rd C (n + 1) ≠ 2
   ·rw [if_pos c1, if_pos c2]
    simp only [decide_eq_true c1, decide_eq_true c2, if_true, List.nil_append, List.cons_append]
    exact compact4 _ _ (by omega)
   ·rw [if_pos c1, if_neg c2]
    simp only [decide_eq_true c1, decide_eq_false c2, if_true, Bool.false_eq_true, if_false, List.nil_append, List.cons_append]
    exact compact2 _
  ·by_cases c2 : n + 1 < (C.length : Int) ∧ rd C (n + 1) ≠ 2
   ·rw [if_neg c1, if_pos c2]
    simp only [decide_eq_false c1, decide_eq_true c2, if_true, Bool.false_eq_true, if_false, List.nil_append, List.cons_append]
    exact compact2 _
   ·rw [if_neg c1, if_neg c2]
    simp only [decide_eq_false c1, decide_eq_false c2, Bool.false_eq_true, if_false, List.nil_append]
    exact compact_asc [] List.Pairwise.nil
 ·have eL : pNear W H C n (n - 1) = decide (Int.tmod n W > 0 ∧ rd C (n - 1) ≠ 2) := by
   rw [hp, decide_eq_decide]
   have hd := dm hW h0 (by omega)
   constructor
   ·rintro ⟨⟨a, _⟩, b, c⟩; exact ⟨((ap_left hW a (by omega)).1 c).resolve_right hW1, b⟩
   ·rintro ⟨a, b⟩
    have hn : 0 ≤ n - 1 := by
     rcases (show 0 < n ∨ n ≤ 0 by omega) with h' | h'
     ·omega
     ·have : n = 0 := by omega
      subst this
      simp at a
    exact ⟨⟨hn, by omega⟩, b, (ap_left hW hn (by omega)).2 (.inl a)⟩
  have eR : pNear W H C n (n + 1) = decide (Int.tmod n W < W - 1 ∧ rd C (n + 1) ≠ 2) := by
   rw [hp, decide_eq_decide]
   constructor
   ·rintro ⟨⟨_, a⟩, b, c⟩; exact ⟨((ap_right hW h0 (by omega)).1 c).resolve_right hW1, b⟩
   ·rintro ⟨a, b⟩; exact ⟨⟨by omega, last_row hW hH hlen h0 h1 a⟩, b, (ap_right hW h0 (by omega)).2 (.inl a)⟩
  rw [eU, eL, eR, eD]
  simp only [decide_eq_true_eq]
  refine compact_asc _ ?_
  split <;> split <;> split <;> split <;> simp <;> omega
theorem implNear_ev (W H : Int) (C : List Int) (n : Int) (h : mCell W H C n = true) : Ev (fun k => impl_Near.f k W H C n) (mNear W C n) := by
 obtain ⟨hL, h0, h1⟩ := mCell_iff.1 h
 have hW := (mLand_iff.1 hL).1
 have h64 := mLand_len hL
 unfold impl_Near.f
 refine Ev.bind (implCell_ev W H C n (by omega)) ?_
 simp only [h, if_true, Option.bind_some]
 rw [wrap_id (n := n - W) (by omega) (by omega), wrap_id (n := n - 1) (by omega) (by omega), wrap_id (n := n + 1) (by omega) (by omega), wrap_id (n := n + W) (by omega) (by omega)]
 have := implNear_loop W H C n [n - W, n - 1, n + 1, n + W] (by omega) (by simp) [n - W, n - 1, n + 1, n + W] [] [] rfl (by simp)
 rw [List.nil_append, near_eq h] at this
 exact this
theorem specNear_ev (W H : Int) (C : List Int) (n : Int) (h : mCell W H C n = true) : Ev (fun k => spec_l4Near.f k W H C n) (mNear W C n) := by
 obtain ⟨hL, h0, h1⟩ := mCell_iff.1 h
 obtain ⟨hW, hH, hlen, _⟩ := mLand_iff.1 hL
 have h64 := mLand_len hL
 have hd := dm hW h0 (by omega)
 have wU : wrap64 (n - W) = n - W := wrap_id (by omega) (by omega)
 have wL : wrap64 (n - 1) = n - 1 := wrap_id (by omega) (by omega)
 have wR : wrap64 (n + 1) = n + 1 := wrap_id (by omega) (by omega)
 have wD : wrap64 (n + W) = n + W := wrap_id (by omega) (by omega)
 have wW : wrap64 (W - 1) = W - 1 := wrap_id (by omega) (by omega)
 have fin : ∀ (o : List Int), o.length ≤ 3 → (if n + W < (C.length : Int) then (if 0 ≤ n + W then (if rd C (n + W) = 2 then some o else if o.length < 17592186044416 then some (o ++ [n + W]) else none) else none) else some o) = some (o ++ (if n + W < (C.length : Int) ∧ rd C (n + W) ≠ 2 then [n + W] else [])) := fun o ho => by
  by_cases c1 : n + W < (C.length : Int)
  ·rw [if_pos c1, if_pos (by omega)]
   by_cases c2 : rd C (n + W) = 2
   ·rw [if_pos c2, if_neg (fun h => h.2 c2), List.append_nil]
   ·rw [if_neg c2, if_pos (by omega), if_pos ⟨c1, c2⟩]
  ·rw [if_neg c1, if_neg (fun h => c1 h.1), List.append_nil]
 have s4 : ∀ (o : List Int) (b : Bool), o.length ≤ 2 → Ev (fun k => spec_l4Near.j4 k n o b W H C) (o ++ ((if b = true then [n + 1] else []) ++ (if n + W < (C.length : Int) ∧ rd C (n + W) ≠ 2 then [n + W] else []))) := fun o b ho => by
  refine Ev.step (f := fun _ => some (o ++ ((if b = true then [n + 1] else []) ++ (if n + W < (C.length : Int) ∧ rd C (n + W) ≠ 2 then [n + W] else [])))) (fun k => ?_) (Ev.now _)
  simp only [spec_l4Near.j4, wR, wD]
  cases b with
  | true =>
   simp only [if_true, if_pos (show o.length < 17592186044416 from by omega), Option.bind_some]
   rw [fin _ (by simp; omega), List.append_assoc]
  | false =>
   simp only [Bool.false_eq_true, if_false]
   rw [fin o (by omega), List.nil_append]
 have s3 : ∀ (o : List Int), o.length ≤ 2 → Ev (fun k => spec_l4Near.j3 k n o W H C) (o ++ ((if Int.tmod n W < W - 1 ∧ rd C (n + 1) ≠ 2 then [n + 1] else []) ++ (if n + W < (C.length : Int) ∧ rd C (n + W) ≠ 2 then [n + W] else []))) := fun o ho => by
  by_cases c : Int.tmod n W < W - 1
  ·have hn1 := last_row hW hH hlen h0 h1 c
   have := s4 o (rd C (n + 1) != 2) ho
   simp only [c, true_and]
   refine Ev.step (fun k => ?_) (by simpa using this)
   simp only [spec_l4Near.j3, wR, wW]
   rw [if_neg (by omega), if_pos c, if_pos (by omega), if_pos hn1]
  ·have := s4 o false ho
   simp only [c, false_and]
   refine Ev.step (fun k => ?_) (by simpa using this)
   simp only [spec_l4Near.j3, wR, wW]
   rw [if_neg (by omega), if_neg c]
 have s2 : ∀ (o : List Int) (b : Bool), o.length ≤ 1 → Ev (fun k => spec_l4Near.j2 k n o b W H C) (o ++ ((if b = true then [n - 1] else []) ++ ((if Int.tmod n W < W - 1 ∧ rd C (n + 1) ≠ 2 then [n + 1] else []) ++ (if n + W < (C.length : Int) ∧ rd C (n + W) ≠ 2 then [n + W] else [])))) := fun o b ho => by
  cases b with
  | true =>
   have := s3 (o ++ [n - 1]) (by simp; omega)
   refine Ev.step (fun k => ?_) (by simpa using this)
   simp only [spec_l4Near.j2, wL, if_true, if_pos (show o.length < 17592186044416 from by omega)]
  | false =>
   have := s3 o (by omega)
   refine Ev.step (fun k => ?_) (by simpa using this)
   simp [spec_l4Near.j2]
 have s1 : ∀ (o : List Int), o.length ≤ 1 → Ev (fun k => spec_l4Near.j1 k n o W H C) (o ++ ((if Int.tmod n W > 0 ∧ rd C (n - 1) ≠ 2 then [n - 1] else []) ++ ((if Int.tmod n W < W - 1 ∧ rd C (n + 1) ≠ 2 then [n + 1] else []) ++ (if n + W < (C.length : Int) ∧ rd C (n + W) ≠ 2 then [n + W] else [])))) := fun o ho => by
  by_cases c : Int.tmod n W > 0
  ·have hn : 0 ≤ n - 1 := by
    rcases (show 0 < n ∨ n ≤ 0 by omega) with h' | h'
    ·omega
    ·have : n = 0 := by omega
     subst this
     simp at c
   have := s2 o (rd C (n - 1) != 2) ho
   simp only [c, true_and]
   refine Ev.step (fun k => ?_) (by simpa using this)
   simp only [spec_l4Near.j1, wL]
   rw [if_neg (by omega), if_pos c, if_pos hn, if_pos (by omega)]
  ·have := s2 o false ho
   simp only [c, false_and]
   refine Ev.step (fun k => ?_) (by simpa using this)
   simp only [spec_l4Near.j1, wL]
   rw [if_neg (by omega), if_neg c]
 have s0 : ∀ (b : Bool), Ev (fun k => spec_l4Near.j0 k n [] b W H C) ((if b = true then [n - W] else []) ++ ((if Int.tmod n W > 0 ∧ rd C (n - 1) ≠ 2 then [n - 1] else []) ++ ((if Int.tmod n W < W - 1 ∧ rd C (n + 1) ≠ 2 then [n + 1] else []) ++ (if n + W < (C.length : Int) ∧ rd C (n + W) ≠ 2 then [n + W] else [])))) := fun b => by
  cases b with
  | true =>
   have := s1 [n - W] (by simp)
   refine Ev.step (fun k => ?_) (by simpa using this)
   simp [spec_l4Near.j0, wU]
  | false =>
   have := s1 [] (by simp)
   refine Ev.step (fun k => ?_) (by simpa using this)
   simp [spec_l4Near.j0]
 unfold spec_l4Near.f mNear
 simp only [Option.bind_some, wU]
 by_cases c : W ≤ n
 ·have := s0 (rd C (n - W) != 2)
  simp only [c, true_and]
  refine Ev.congr (f := fun k => spec_l4Near.j0 k n [] (rd C (n - W) != 2) W H C) (fun k => ?_) (by simpa using this)
  have e1 : 0 ≤ n - W := by omega
  have e2 : n - W < (C.length : Int) := by omega
  simp only [ge_iff_le, c, e1, e2, if_true]
 ·have := s0 false
  simp only [c, false_and]
  refine Ev.congr (f := fun k => spec_l4Near.j0 k n [] false W H C) (fun k => ?_) (by simpa using this)
  simp only [ge_iff_le, c, if_false]
/-! ### The search by breadth -/
def bfsIn (x : Int) : List Int → List Int → List Int → List Int × List Int
 | [], d, q => (d, q)
 | c :: t, d, q => if rd d c < 0 then bfsIn x t (d.set c.toNat (rd d x + 1)) (q ++ [c]) else bfsIn x t d q
def bfs (N : Int → List Int) : Nat → List Int → List Int → List Int
 | 0, d, _ => d
 | _ + 1, d, [] => d
 | m + 1, d, x :: t => bfs N m (bfsIn x (N x) d t).1 (bfsIn x (N x) d t).2
def neg (d : List Int) : Nat := d.countP (fun v => decide (v < 0))
theorem bfsIn_nil (x : Int) (d q : List Int) : bfsIn x [] d q = (d, q) := rfl
theorem bfsIn_cons (x c : Int) (t d q : List Int) : bfsIn x (c :: t) d q = if rd d c < 0 then bfsIn x t (d.set c.toNat (rd d x + 1)) (q ++ [c]) else bfsIn x t d q := rfl
theorem rd_set {d : List Int} {i j v : Int} (hi : 0 ≤ i) (hi' : i < (d.length : Int)) (hj : 0 ≤ j) : rd (d.set i.toNat v) j = if j = i then v else rd d j := by
 unfold rd
 rw [List.getD_eq_getElem?_getD, List.getElem?_set]
 by_cases h : j = i
 ·subst h
  rw [if_pos rfl, if_pos (by omega), if_pos rfl]; rfl
 ·rw [if_neg (by omega), if_neg h, List.getD_eq_getElem?_getD]
theorem rd_mem {d : List Int} {i : Int} (hi : 0 ≤ i) (hi' : i < (d.length : Int)) : rd d i ∈ d := by
 unfold rd
 rw [List.getD_eq_getElem?_getD, List.getElem?_eq_getElem (by omega), Option.getD_some]
 exact List.getElem_mem _
theorem neg_set : ∀ (d : List Int) (i : Nat) (v : Int), i < d.length → d.getD i 0 < 0 → 0 ≤ v → neg (d.set i v) + 1 = neg d
 | [], i, v, h, _, _ => by simp at h
 | a :: t, 0, v, h, ha, hv => by
  have ha' : a < 0 := by simpa using ha
  simp [neg, List.countP_cons, ha', Int.not_lt.2 hv]
 | a :: t, i + 1, v, h, ha, hv => by
  have ih := neg_set t i v (by simpa using h) (by simpa using ha) hv
  simp only [neg, List.set_cons_succ, List.countP_cons] at ih ⊢
  omega
/-- What holds of the days and of the cells that wait: b bounds the days. -/
def Inv (b : Int) (d q : List Int) : Prop := (∀ v ∈ d, v ≤ b) ∧ 0 ≤ b ∧ ∀ x ∈ q, 0 ≤ x ∧ x < (d.length : Int) ∧ 0 ≤ rd d x
theorem bfsIn_ok (x : Int) (b : Int) : ∀ (t d q : List Int), Inv (b + 1) d q → 0 ≤ x → x < (d.length : Int) → 0 ≤ rd d x → rd d x ≤ b → (∀ c ∈ t, 0 ≤ c ∧ c < (d.length : Int)) →
  Inv (b + 1) (bfsIn x t d q).1 (bfsIn x t d q).2 ∧ (bfsIn x t d q).1.length = d.length ∧ neg (bfsIn x t d q).1 + (bfsIn x t d q).2.length = neg d + q.length
 | [], d, q, h, _, _, _, _, _ => ⟨h, rfl, rfl⟩
 | c :: t, d, q, h, h0, h1, h2, h3, hc => by
  rw [bfsIn_cons]
  obtain ⟨hc0, hc1⟩ := hc c (List.mem_cons_self ..)
  have ht := fun c' hc' => hc c' (List.mem_cons_of_mem _ hc')
  by_cases hn : rd d c < 0
  ·rw [if_pos hn]
   obtain ⟨i1, i2, i3⟩ := h
   have hne : x ≠ c := fun e => by subst e; omega
   have hrx : rd (d.set c.toNat (rd d x + 1)) x = rd d x := by rw [rd_set hc0 hc1 h0, if_neg hne]
   have hI : Inv (b + 1) (d.set c.toNat (rd d x + 1)) (q ++ [c]) := by
    refine ⟨fun v hv => ?_, i2, fun y hy => ?_⟩
    ·rcases List.mem_or_eq_of_mem_set hv with hv | hv
     ·exact i1 v hv
     ·omega
    ·rw [List.length_set]
     rcases List.mem_append.1 hy with hy | hy
     ·obtain ⟨j0, j1, j2⟩ := i3 y hy
      refine ⟨j0, j1, ?_⟩
      rw [rd_set hc0 hc1 j0]; split <;> omega
     ·rw [List.mem_singleton] at hy
      subst hy
      refine ⟨hc0, hc1, ?_⟩
      rw [rd_set hc0 hc1 hc0, if_pos rfl]; omega
   have ih := bfsIn_ok x b t (d.set c.toNat (rd d x + 1)) (q ++ [c]) hI h0 (by rw [List.length_set]; exact h1) (by rw [hrx]; exact h2) (by rw [hrx]; exact h3) (fun c' hc' => by rw [List.length_set]; exact ht c' hc')
   refine ⟨ih.1, by rw [ih.2.1, List.length_set], ?_⟩
   have hns := neg_set d c.toNat (rd d x + 1) (by omega) hn (by omega)
   rw [ih.2.2, List.length_append, List.length_singleton]
   omega
  ·rw [if_neg hn]
   exact bfsIn_ok x b t d q h h0 h1 h2 h3 ht
def mFrom (W : Int) (C : List Int) (a : Int) : List Int := bfs (mNear W C) C.length ((List.replicate C.length (-1)).set a.toNat 0) [a]
def mDays (W H : Int) (C : List Int) (a b : Int) : Int := if mOpen W H C a && mOpen W H C b then rd (mFrom W C a) b else -1
theorem neg_rep : ∀ n : Nat, neg (List.replicate n (-1)) = n
 | 0 => rfl
 | n + 1 => by
  have := neg_rep n
  simp only [neg, List.replicate_succ, List.countP_cons] at this ⊢
  rw [this]; rfl
theorem start_ok {C : List Int} {a : Int} (h0 : 0 ≤ a) (h1 : a < (C.length : Int)) : Inv 0 ((List.replicate C.length (-1)).set a.toNat 0) [a] ∧ neg ((List.replicate C.length (-1)).set a.toNat 0) + [a].length = C.length ∧ ((List.replicate C.length (-1)).set a.toNat 0).length = C.length := by
 have hr : (List.replicate C.length (-1 : Int)).getD a.toNat 0 = -1 := by
  rw [List.getD_eq_getElem?_getD, List.getElem?_eq_getElem (by simp; omega)]; simp
 have hs := neg_set (List.replicate C.length (-1)) a.toNat 0 (by simp; omega) (by rw [hr]; decide) (by decide)
 rw [neg_rep] at hs
 refine ⟨⟨fun v hv => ?_, Int.le_refl _, fun x hx => ?_⟩, by simpa using hs, by simp⟩
 ·rcases List.mem_or_eq_of_mem_set hv with hv | hv
  ·have := (List.mem_replicate.1 hv).2; omega
  ·omega
 ·rw [List.mem_singleton] at hx
  subst hx
  refine ⟨h0, by simpa using h1, ?_⟩
  rw [rd_set h0 (by simpa using h1) h0, if_pos rfl]; exact Int.le_refl _
theorem bfs_len (N : Int → List Int) (n : Nat) (hN : ∀ x, 0 ≤ x → x < (n : Int) → ∀ c ∈ N x, 0 ≤ c ∧ c < (n : Int)) : ∀ (m : Nat) (b : Int) (d q : List Int), Inv b d q → d.length = n → (bfs N m d q).length = n
 | 0, b, d, q, _, h => h
 | m + 1, b, d, [], _, h => h
 | m + 1, b, d, x :: t, hI, h => by
  obtain ⟨j0, j1, j2⟩ := hI.2.2 x (List.mem_cons_self ..)
  have hI' : Inv (b + 1) d t := ⟨fun v hv => by have := hI.1 v hv; omega, by have := hI.2.1; omega, fun y hy => hI.2.2 y (List.mem_cons_of_mem _ hy)⟩
  have := bfsIn_ok x b (N x) d t hI' j0 j1 j2 (hI.1 _ (rd_mem j0 j1)) (fun c hc => by rw [h]; exact hN x j0 (by rw [← h]; exact j1) c hc)
  exact bfs_len N n hN m (b + 1) _ _ this.1 (by rw [this.2.1, h])
theorem mFrom_len {W H : Int} {C : List Int} {a : Int} (h : mOpen W H C a = true) : (mFrom W C a).length = C.length := by
 obtain ⟨hcell, _⟩ := mOpen_iff.1 h
 obtain ⟨hL, h0, h1⟩ := mCell_iff.1 hcell
 obtain ⟨hI, hn, hl⟩ := start_ok (C := C) h0 h1
 exact bfs_len (mNear W C) C.length (fun x hx0 hx1 c hc => by have := near_in (mCell_iff.2 ⟨hL, hx0, hx1⟩) hc; omega) C.length 0 _ _ hI hl
theorem implIn_ev (W H : Int) (C : List Int) (x b : Int) (hb : b ≤ 1152921504606846976) (ns : List Int) (hns : ns.length ≤ 4611686018427387904) (R : List Int → List Int → List Int) (B : Nat) (hB : B ≤ 1099511627776) : ∀ (t e d q : List Int), ns = e ++ t → Inv (b + 1) d q → 0 ≤ x → x < (d.length : Int) → 0 ≤ rd d x → rd d x ≤ b → (∀ c ∈ t, 0 ≤ c ∧ c < (d.length : Int)) → neg d + q.length ≤ B →
  Ev (fun k => impl_distances.l2 k (bfsIn x t d q).1 (bfsIn x t d q).2 W H C) (R (bfsIn x t d q).1 (bfsIn x t d q).2) →
  Ev (fun k => impl_distances.l3 k d q x ns (ns.length : Int) (e.length : Int) W H C) (R (bfsIn x t d q).1 (bfsIn x t d q).2)
 | [], e, d, q, h, _, _, _, _, _, _, _, hR => by
  have hlen : ns.length = e.length := by rw [h]; simp
  refine Ev.step (fun k => ?_) hR
  simp only [impl_distances.l3, bfsIn_nil]
  rw [if_neg (by omega)]
 | c :: t, e, d, q, h, hI, h0, h1, h2, h3, hc, hq, hR => by
  have hlen : ns.length = e.length + (t.length + 1) := by rw [h]; simp
  have hy : ns[e.length]? = some c := by rw [h]; simp
  have hr : rd ns (e.length : Int) = c := getD_of 0 hy
  obtain ⟨hc0, hc1⟩ := hc c (List.mem_cons_self ..)
  have hw : wrap64 (rd d x + 1) = rd d x + 1 := wrap_id (by omega) (by omega)
  have hsnoc : ns = (e ++ [c]) ++ t := by rw [h]; simp
  have hlen1 : ((e ++ [c]).length : Int) = (e.length : Int) + 1 := by simp
  by_cases hn : rd d c < 0
  ·rw [bfsIn_cons, if_pos hn] at hR ⊢
   have hok := bfsIn_ok x b [c] d q hI h0 h1 h2 h3 (fun c' hc' => hc c' (by rw [List.mem_singleton] at hc'; rw [hc']; exact List.mem_cons_self ..))
   rw [bfsIn_cons, if_pos hn, bfsIn_nil] at hok
   have hne : x ≠ c := fun e => by subst e; omega
   have hrx : rd (d.set c.toNat (rd d x + 1)) x = rd d x := by rw [rd_set hc0 hc1 h0, if_neg hne]
   have ih := implIn_ev W H C x b hb ns hns R B hB t (e ++ [c]) (d.set c.toNat (rd d x + 1)) (q ++ [c]) hsnoc hok.1 h0 (by rw [List.length_set]; exact h1) (by rw [hrx]; exact h2) (by rw [hrx]; exact h3) (fun c' hc' => by rw [List.length_set]; exact hc c' (List.mem_cons_of_mem _ hc')) (by rw [hok.2.2]; exact hq) hR
   rw [hlen1] at ih
   refine Ev.step (fun k => ?_) ih
   simp only [impl_distances.l3, hr, hw, wrapi e.length (by omega)]
   rw [if_pos (by omega), if_pos (by omega), if_pos (by omega), if_pos hc0, if_pos hc1, if_pos hn, if_pos h0, if_pos h1, if_pos (by omega)]
  ·rw [bfsIn_cons, if_neg hn] at hR ⊢
   have ih := implIn_ev W H C x b hb ns hns R B hB t (e ++ [c]) d q hsnoc hI h0 h1 h2 h3 (fun c' hc' => hc c' (List.mem_cons_of_mem _ hc')) hq hR
   rw [hlen1] at ih
   refine Ev.step (fun k => ?_) ih
   simp only [impl_distances.l3, hr, wrapi e.length (by omega)]
   rw [if_pos (by omega), if_pos (by omega), if_pos (by omega), if_pos hc0, if_pos hc1, if_neg hn]
theorem near_len (W : Int) (C : List Int) (x : Int) : (mNear W C x).length ≤ 4 := by
 unfold mNear
 repeat' split
 all_goals simp
theorem implBfs_ev (W H : Int) (C : List Int) (hL : mLand W H C = true) : ∀ (m : Nat) (b : Int) (d q : List Int), b + m ≤ 1152921504606846976 → m ≤ 1099511627776 → Inv b d q → d.length = C.length → neg d + q.length ≤ m → Ev (fun k => impl_distances.l2 k d q W H C) (bfs (mNear W C) m d q)
 | 0, b, d, q, _, _, hI, _, h => by
  have hq : q = [] := List.eq_nil_of_length_eq_zero (by omega)
  subst hq
  refine Ev.step (f := fun _ => some d) (fun k => ?_) (Ev.now _)
  simp [impl_distances.l2]
 | m + 1, b, d, [], _, _, hI, _, h => by
  refine Ev.step (f := fun _ => some d) (fun k => ?_) (Ev.now _)
  simp [impl_distances.l2]
 | m + 1, b, d, x :: t, hb, hm, hI, hd, h => by
  obtain ⟨j0, j1, j2⟩ := hI.2.2 x (List.mem_cons_self ..)
  have hcell : mCell W H C x = true := mCell_iff.2 ⟨hL, j0, by omega⟩
  have hI' : Inv (b + 1) d t := ⟨fun v hv => by have := hI.1 v hv; omega, by have := hI.2.1; omega, fun y hy => hI.2.2 y (List.mem_cons_of_mem _ hy)⟩
  have hN : ∀ c ∈ mNear W C x, 0 ≤ c ∧ c < (d.length : Int) := fun c hc => by
   have := near_in hcell hc
   omega
  have hok := bfsIn_ok x b (mNear W C x) d t hI' j0 j1 j2 (hI.1 _ (rd_mem j0 j1)) hN
  have h64 := mLand_len hL
  rw [List.length_cons] at h
  have ih := implBfs_ev W H C hL m (b + 1) _ _ (by omega) (by omega) hok.1 (by rw [hok.2.1, hd]) (by rw [hok.2.2]; omega)
  have hin := implIn_ev W H C x b (by omega) (mNear W C x) (by have := near_len W C x; omega) (fun d q => bfs (mNear W C) m d q) m (by omega) (mNear W C x) [] d t rfl hI' j0 j1 j2 (hI.1 _ (rd_mem j0 j1)) hN (by omega) ih
  refine Ev.step (f := fun k => (impl_Near.f k W H C x).bind fun t156 => impl_distances.l3 k d t x t156 (t156.length : Int) 0 W H C) (fun k => ?_) ?_
  ·have hrx : rd (x :: t) 0 = x := rfl
   simp only [impl_distances.l2, hrx]
   rw [if_pos (show ((x :: t).length : Int) > 0 from by simp only [List.length_cons]; omega), if_pos (show (0 : Int) < ((x :: t).length : Int) from by simp only [List.length_cons]; omega), if_pos (show (1 : Int) ≤ ((x :: t).length : Int) from by simp only [List.length_cons]; omega)]
   rfl
  ·refine Ev.bind (implNear_ev W H C x hcell) ?_
   exact hin
theorem implDist_ev (W H : Int) (C : List Int) (a : Int) (h : mOpen W H C a = true) : Ev (fun k => impl_distances.f k W H C [a]) (mFrom W C a) := by
 obtain ⟨hcell, _⟩ := mOpen_iff.1 h
 obtain ⟨hL, h0, h1⟩ := mCell_iff.1 hcell
 have h64 := mLand_len hL
 obtain ⟨hI, hn, hl⟩ := start_ok (C := C) h0 h1
 have hbfs := implBfs_ev W H C hL C.length 0 _ _ (by omega) (by omega) hI hl (by omega)
 unfold impl_distances.f
 have l1 : Ev (fun k => impl_distances.l1 k (List.replicate C.length (-1)) [] [a] (([a].length : Nat) : Int) 0 W H C) (mFrom W C a) := by
  have hra : rd (List.replicate C.length (-1)) a = -1 := by
   unfold rd
   rw [List.getD_eq_getElem?_getD, List.getElem?_eq_getElem (by simp; omega)]; simp
  refine Ev.step (f := fun k => (impl_IsOpen.f k W H C a).bind fun t146 => if t146 = true then impl_distances.l1 k ((List.replicate C.length (-1)).set a.toNat 0) [a] [a] (([a].length : Nat) : Int) 1 W H C else impl_distances.l1 k (List.replicate C.length (-1)) [] [a] (([a].length : Nat) : Int) 1 W H C) (fun k => ?_) ?_
  ·have hr0 : rd [a] 0 = a := rfl
   have hw : wrap64 (0 + 1) = 1 := wrap_id (by omega) (by omega)
   simp only [impl_distances.l1, hr0, hw, hra]
   rw [if_pos (by simp), if_pos (by omega), if_pos (by simp), if_pos h0, if_pos (by simpa using h1), if_pos (by omega), if_pos (by simp)]
   rfl
  ·refine Ev.bind (implOpen_ev W H C a (by omega)) ?_
   simp only [h, if_true]
   refine Ev.step (fun k => ?_) hbfs
   simp [impl_distances.l1]
 have key : ∀ (n i : Nat), i + n = C.length → Ev (fun k => impl_distances.l0 k [a] (List.replicate i (-1)) (C.length : Int) (i : Int) W H C) (mFrom W C a) := by
  intro n
  induction n with
  | zero =>
   intro i hi
   obtain rfl : i = C.length := by omega
   refine Ev.step (fun k => ?_) l1
   simp only [impl_distances.l0]
   rw [if_neg (by omega)]
  | succ n ih =>
   intro i hi
   have := ih (i + 1) (by omega)
   rw [show ((i + 1 : Nat) : Int) = (i : Int) + 1 from by omega] at this
   refine Ev.step (fun k => ?_) this
   simp only [impl_distances.l0, wrapi i (by omega)]
   rw [if_pos (by omega), if_pos (by simp; omega), List.replicate_succ']
 exact key C.length 0 (by omega)
theorem specIn_ev (W H : Int) (C : List Int) (x b : Int) (hb : b ≤ 1152921504606846976) (ns : List Int) (hns : ns.length ≤ 4611686018427387904) (pre : List Int) (R : List Int → List Int → List Int) (B : Nat) (hB : B + pre.length ≤ 1099511627776) : ∀ (t e d q : List Int), ns = e ++ t → Inv (b + 1) d q → 0 ≤ x → x < (d.length : Int) → 0 ≤ rd d x → rd d x ≤ b → (∀ c ∈ t, 0 ≤ c ∧ c < (d.length : Int)) → neg d + q.length ≤ B →
  Ev (fun k => spec_l5From.l1 k (bfsIn x t d q).1 (pre ++ x :: (bfsIn x t d q).2) ((pre.length : Int) + 1) W H C) (R (bfsIn x t d q).1 (bfsIn x t d q).2) →
  Ev (fun k => spec_l5From.l2 k d (pre ++ x :: q) (pre.length : Int) ns (e.length : Int) W H C) (R (bfsIn x t d q).1 (bfsIn x t d q).2)
 | [], e, d, q, h, _, _, _, _, _, _, _, hR => by
  have hlen : ns.length = e.length := by rw [h]; simp
  refine Ev.step (fun k => ?_) hR
  simp only [spec_l5From.l2, bfsIn_nil, wrapi pre.length (by omega)]
  rw [if_neg (by omega)]
 | c :: t, e, d, q, h, hI, h0, h1, h2, h3, hc, hq, hR => by
  have hlen : ns.length = e.length + (t.length + 1) := by rw [h]; simp
  have hy : ns[e.length]? = some c := by rw [h]; simp
  have hr : rd ns (e.length : Int) = c := getD_of 0 hy
  have hx : rd (pre ++ x :: q) (pre.length : Int) = x := getD_of 0 (by simp)
  obtain ⟨hc0, hc1⟩ := hc c (List.mem_cons_self ..)
  have hw : wrap64 (rd d x + 1) = rd d x + 1 := wrap_id (by omega) (by omega)
  have hsnoc : ns = (e ++ [c]) ++ t := by rw [h]; simp
  have hlen1 : ((e ++ [c]).length : Int) = (e.length : Int) + 1 := by simp
  have hqq : (pre ++ x :: q).length = pre.length + (q.length + 1) := by simp
  by_cases hn : rd d c < 0
  ·rw [bfsIn_cons, if_pos hn] at hR ⊢
   have hok := bfsIn_ok x b [c] d q hI h0 h1 h2 h3 (fun c' hc' => hc c' (by rw [List.mem_singleton] at hc'; rw [hc']; exact List.mem_cons_self ..))
   rw [bfsIn_cons, if_pos hn, bfsIn_nil] at hok
   have hne : x ≠ c := fun e => by subst e; omega
   have hrx : rd (d.set c.toNat (rd d x + 1)) x = rd d x := by rw [rd_set hc0 hc1 h0, if_neg hne]
   have ih := specIn_ev W H C x b hb ns hns pre R B hB t (e ++ [c]) (d.set c.toNat (rd d x + 1)) (q ++ [c]) hsnoc hok.1 h0 (by rw [List.length_set]; exact h1) (by rw [hrx]; exact h2) (by rw [hrx]; exact h3) (fun c' hc' => by rw [List.length_set]; exact hc c' (List.mem_cons_of_mem _ hc')) (by rw [hok.2.2]; exact hq) hR
   rw [hlen1] at ih
   refine Ev.step (fun k => ?_) ih
   simp only [spec_l5From.l2, hr, hx, hw, wrapi e.length (by omega)]
   rw [if_pos (by omega), if_pos (by omega), if_pos hc0, if_pos hc1, if_pos hn, if_pos (by omega), if_pos (by omega), if_pos h0, if_pos h1, if_pos (by omega), List.append_assoc, List.cons_append]
  ·rw [bfsIn_cons, if_neg hn] at hR ⊢
   have ih := specIn_ev W H C x b hb ns hns pre R B hB t (e ++ [c]) d q hsnoc hI h0 h1 h2 h3 (fun c' hc' => hc c' (List.mem_cons_of_mem _ hc')) hq hR
   rw [hlen1] at ih
   refine Ev.step (fun k => ?_) ih
   simp only [spec_l5From.l2, hr, wrapi e.length (by omega)]
   rw [if_pos (by omega), if_pos (by omega), if_pos hc0, if_pos hc1, if_neg hn]
theorem specNear_len (W : Int) (C : List Int) (x : Int) : (mNear W C x).length ≤ 4 := by
 unfold mNear
 repeat' split
 all_goals simp
theorem specBfs_ev (W H : Int) (C : List Int) (hL : mLand W H C = true) : ∀ (m : Nat) (b : Int) (pre d q : List Int), b + m ≤ 1152921504606846976 → m + pre.length ≤ 1099511627776 → Inv b d q → d.length = C.length → neg d + q.length ≤ m → Ev (fun k => spec_l5From.l1 k d (pre ++ q) (pre.length : Int) W H C) (bfs (mNear W C) m d q)
 | 0, b, pre, d, q, _, _, hI, _, h => by
  have hq : q = [] := List.eq_nil_of_length_eq_zero (by omega)
  subst hq
  refine Ev.step (f := fun _ => some d) (fun k => ?_) (Ev.now _)
  simp [spec_l5From.l1]
 | m + 1, b, pre, d, [], _, _, hI, _, h => by
  refine Ev.step (f := fun _ => some d) (fun k => ?_) (Ev.now _)
  simp [spec_l5From.l1]
 | m + 1, b, pre, d, x :: t, hb, hm, hI, hd, h => by
  obtain ⟨j0, j1, j2⟩ := hI.2.2 x (List.mem_cons_self ..)
  have hcell : mCell W H C x = true := mCell_iff.2 ⟨hL, j0, by omega⟩
  have hI' : Inv (b + 1) d t := ⟨fun v hv => by have := hI.1 v hv; omega, by have := hI.2.1; omega, fun y hy => hI.2.2 y (List.mem_cons_of_mem _ hy)⟩
  have hN : ∀ c ∈ mNear W C x, 0 ≤ c ∧ c < (d.length : Int) := fun c hc => by
   have := near_in hcell hc
   omega
  have hok := bfsIn_ok x b (mNear W C x) d t hI' j0 j1 j2 (hI.1 _ (rd_mem j0 j1)) hN
  have h64 := mLand_len hL
  rw [List.length_cons] at h
  have ih := specBfs_ev W H C hL m (b + 1) (pre ++ [x]) _ _ (by omega) (by simp; omega) hok.1 (by rw [hok.2.1, hd]) (by rw [hok.2.2]; omega)
  rw [List.append_assoc, List.singleton_append, List.length_append, List.length_singleton, show ((pre.length + 1 : Nat) : Int) = (pre.length : Int) + 1 from by omega] at ih
  have hin := specIn_ev W H C x b (by omega) (mNear W C x) (by have := specNear_len W C x; omega) pre (fun d q => bfs (mNear W C) m d q) m (by omega) (mNear W C x) [] d t rfl hI' j0 j1 j2 (hI.1 _ (rd_mem j0 j1)) hN (by omega) ih
  refine Ev.step (f := fun k => (spec_l4Near.f k W H C x).bind fun t231 => spec_l5From.l2 k d (pre ++ x :: t) (pre.length : Int) t231 0 W H C) (fun k => ?_) ?_
  ·have hrx : rd (pre ++ x :: t) (pre.length : Int) = x := getD_of 0 (by simp)
   simp only [spec_l5From.l1, hrx]
   rw [if_pos (by simp; omega), if_pos (by omega)]
  ·refine Ev.bind (specNear_ev W H C x hcell) ?_
   exact hin
theorem specFrom_ev (W H : Int) (C : List Int) (a : Int) (h : mOpen W H C a = true) : Ev (fun k => spec_l5From.f k W H C a) (mFrom W C a) := by
 obtain ⟨hcell, _⟩ := mOpen_iff.1 h
 obtain ⟨hL, h0, h1⟩ := mCell_iff.1 hcell
 have h64 := mLand_len hL
 obtain ⟨hI, hn, hl⟩ := start_ok (C := C) h0 h1
 have hbfs := specBfs_ev W H C hL C.length 0 [] _ _ (by omega) (by simp; omega) hI hl (by omega)
 unfold spec_l5From.f
 have key : ∀ (n i : Nat), i + n = C.length → Ev (fun k => spec_l5From.l0 k a (List.replicate i (-1)) (i : Int) W H C) (mFrom W C a) := by
  intro n
  induction n with
  | zero =>
   intro i hi
   obtain rfl : i = C.length := by omega
   refine Ev.step (fun k => ?_) hbfs
   simp only [spec_l5From.l0]
   rw [if_neg (by omega), if_pos h0, if_pos (by simpa using h1)]
   rfl
  | succ n ih =>
   intro i hi
   have := ih (i + 1) (by omega)
   rw [show ((i + 1 : Nat) : Int) = (i : Int) + 1 from by omega] at this
   refine Ev.step (fun k => ?_) this
   simp only [spec_l5From.l0, wrapi i (by omega)]
   rw [if_pos (by omega), if_pos (by simp; omega), List.replicate_succ']
 exact key C.length 0 (by omega)
/-! ### What the search by breadth leaves: each day has a day before it, and beside a cell that was reached all is reached within a day -/
def BI (N : Int → List Int) (n : Nat) (b : Int) (d : List Int) : Prop := d.length = n ∧ ∀ x, 0 ≤ x → x < (n : Int) → 0 ≤ rd d x → x = b ∨ ∃ p, 0 ≤ p ∧ p < (n : Int) ∧ rd d p = rd d x - 1 ∧ 0 ≤ rd d p ∧ x ∈ N p
def Done (N : Int → List Int) (d : List Int) (y : Int) : Prop := ∀ c ∈ N y, 0 ≤ rd d c ∧ rd d c ≤ rd d y + 1
structure St (N : Int → List Int) (n : Nat) (b L : Int) (ex : Int → Prop) (d q1 q2 : List Int) : Prop where
 bi : BI N n b d
 L0 : 0 ≤ L
 r1 : ∀ y ∈ q1, 0 ≤ y ∧ y < (n : Int) ∧ rd d y = L
 r2 : ∀ y ∈ q2, 0 ≤ y ∧ y < (n : Int) ∧ rd d y = L + 1
 top : ∀ y, 0 ≤ y → y < (n : Int) → rd d y ≤ L + 1
 dn : ∀ y, 0 ≤ y → y < (n : Int) → 0 ≤ rd d y → ex y ∨ y ∈ q1 ++ q2 ∨ Done N d y
theorem in_fin (N : Int → List Int) (n : Nat) (b L x : Int) (hN : ∀ y, 0 ≤ y → y < (n : Int) → ∀ c ∈ N y, 0 ≤ c ∧ c < (n : Int)) (hx0 : 0 ≤ x) (hx1 : x < (n : Int)) : ∀ (t d q1 q2 : List Int), St N n b L (fun y => y = x) d q1 q2 → rd d x = L → (∀ c ∈ t, c ∈ N x) →
  ∃ q2', (bfsIn x t d (q1 ++ q2)).2 = q1 ++ q2' ∧ St N n b L (fun y => y = x) (bfsIn x t d (q1 ++ q2)).1 q1 q2' ∧ rd (bfsIn x t d (q1 ++ q2)).1 x = L ∧ (∀ c ∈ t, 0 ≤ rd (bfsIn x t d (q1 ++ q2)).1 c) ∧ (∀ y, 0 ≤ y → y < (n : Int) → 0 ≤ rd d y → rd (bfsIn x t d (q1 ++ q2)).1 y = rd d y)
 | [], d, q1, q2, h, hx, _ => ⟨q2, rfl, h, hx, by simp, fun _ _ _ _ => rfl⟩
 | c :: t, d, q1, q2, h, hx, ht => by
  rw [bfsIn_cons]
  have hcN := ht c (List.mem_cons_self ..)
  obtain ⟨hc0, hc1⟩ := hN x hx0 hx1 c hcN
  have hl := h.bi.1
  have hL0 := h.L0
  by_cases hn : rd d c < 0
  ·rw [if_pos hn]
   have hs : ∀ y, 0 ≤ y → rd (d.set c.toNat (rd d x + 1)) y = if y = c then rd d x + 1 else rd d y := fun y hy => rd_set hc0 (by rw [hl]; exact hc1) hy
   have hkeep : ∀ y, 0 ≤ y → 0 ≤ rd d y → rd (d.set c.toNat (rd d x + 1)) y = rd d y := fun y hy h0 => by
    rw [hs y hy, if_neg]
    intro e; subst e; omega
   have hxx : rd (d.set c.toNat (rd d x + 1)) x = L := by rw [hkeep x hx0 (by omega), hx]
   have hcc : rd (d.set c.toNat (rd d x + 1)) c = L + 1 := by rw [hs c hc0, if_pos rfl, hx]
   have hS : St N n b L (fun y => y = x) (d.set c.toNat (rd d x + 1)) q1 (q2 ++ [c]) := by
    refine ⟨⟨by rw [List.length_set, hl], fun y hy0 hy1 hyv => ?_⟩, hL0, fun y hy => ?_, fun y hy => ?_, fun y hy0 hy1 => ?_, fun y hy0 hy1 hyv => ?_⟩
    ·by_cases hyc : y = c
     ·subst hyc
      exact .inr ⟨x, hx0, hx1, by rw [hxx, hcc]; omega, by rw [hxx]; exact hL0, hcN⟩
     ·rw [hs y hy0, if_neg hyc] at hyv ⊢
      rcases h.bi.2 y hy0 hy1 hyv with e | ⟨p, p0, p1, p2, p3, p4⟩
      ·exact .inl e
      ·exact .inr ⟨p, p0, p1, by rw [hkeep p p0 p3]; exact p2, by rw [hkeep p p0 p3]; exact p3, p4⟩
    ·obtain ⟨a1, a2, a3⟩ := h.r1 y hy
     exact ⟨a1, a2, by rw [hkeep y a1 (by omega)]; exact a3⟩
    ·rcases List.mem_append.1 hy with hy | hy
     ·obtain ⟨a1, a2, a3⟩ := h.r2 y hy
      exact ⟨a1, a2, by rw [hkeep y a1 (by omega)]; exact a3⟩
     ·rw [List.mem_singleton] at hy
      subst hy
      exact ⟨hc0, hc1, hcc⟩
    ·have := h.top y hy0 hy1
     rw [hs y hy0]; split <;> omega
    ·by_cases hyc : y = c
     ·exact .inr (.inl (by simp [hyc]))
     ·rw [hs y hy0, if_neg hyc] at hyv
      rcases h.dn y hy0 hy1 hyv with e | e | e
      ·exact .inl e
      ·refine .inr (.inl ?_)
       rw [← List.append_assoc]
       exact List.mem_append.2 (.inl e)
      ·refine .inr (.inr (fun c' hc' => ?_))
       obtain ⟨e0, e1⟩ := e c' hc'
       obtain ⟨g0, g1⟩ := hN y hy0 hy1 c' hc'
       rw [hkeep c' g0 e0, hkeep y hy0 hyv]
       exact ⟨e0, e1⟩
   obtain ⟨q2', e1, e2, e3, e4, e5⟩ := in_fin N n b L x hN hx0 hx1 t _ q1 (q2 ++ [c]) hS hxx (fun c' hc' => ht c' (List.mem_cons_of_mem _ hc'))
   rw [List.append_assoc]
   refine ⟨q2', e1, e2, e3, fun c' hc' => ?_, fun y hy0 hy1 hyv => ?_⟩
   ·rcases List.mem_cons.1 hc' with e | e
    ·rw [e, e5 c hc0 hc1 (by rw [hcc]; omega), hcc]; omega
    ·exact e4 c' e
   ·rw [e5 y hy0 hy1 (by rw [hkeep y hy0 hyv]; exact hyv), hkeep y hy0 hyv]
  ·rw [if_neg hn]
   obtain ⟨q2', e1, e2, e3, e4, e5⟩ := in_fin N n b L x hN hx0 hx1 t d q1 q2 h hx (fun c' hc' => ht c' (List.mem_cons_of_mem _ hc'))
   refine ⟨q2', e1, e2, e3, fun c' hc' => ?_, e5⟩
   rcases List.mem_cons.1 hc' with e | e
   ·rw [e, e5 c hc0 hc1 (by omega)]; omega
   ·exact e4 c' e
theorem rd_ge {d : List Int} {v : Int} (hv : v ∈ d) : ∃ y, 0 ≤ y ∧ y < (d.length : Int) ∧ rd d y = v := by
 obtain ⟨i, hi, e⟩ := List.mem_iff_getElem.1 hv
 refine ⟨(i : Int), by omega, by omega, ?_⟩
 unfold rd
 rw [Int.toNat_natCast, List.getD_eq_getElem?_getD, List.getElem?_eq_getElem hi, Option.getD_some, e]
theorem bfs_fin (N : Int → List Int) (n : Nat) (b : Int) (hN : ∀ y, 0 ≤ y → y < (n : Int) → ∀ c ∈ N y, 0 ≤ c ∧ c < (n : Int)) : ∀ (m : Nat) (L : Int) (d q1 q2 : List Int), St N n b L (fun _ => False) d q1 q2 → neg d + (q1 ++ q2).length ≤ m →
  BI N n b (bfs N m d (q1 ++ q2)) ∧ (∀ y, 0 ≤ y → y < (n : Int) → 0 ≤ rd (bfs N m d (q1 ++ q2)) y → Done N (bfs N m d (q1 ++ q2)) y) ∧ (∀ y, 0 ≤ y → y < (n : Int) → 0 ≤ rd d y → rd (bfs N m d (q1 ++ q2)) y = rd d y) := by
 intro m
 induction m with
 | zero =>
  intro L d q1 q2 h hm
  have hq : q1 ++ q2 = [] := List.eq_nil_of_length_eq_zero (by omega)
  rw [hq]
  refine ⟨h.bi, fun y hy0 hy1 hyv => ?_, fun _ _ _ _ => rfl⟩
  rcases h.dn y hy0 hy1 hyv with e | e | e
  ·exact e.elim
  ·rw [hq] at e; simp at e
  ·exact e
 | succ m ih =>
  have step : ∀ (L x : Int) (d q1 q2 : List Int), St N n b L (fun _ => False) d (x :: q1) q2 → neg d + ((x :: q1) ++ q2).length ≤ m + 1 → BI N n b (bfs N (m + 1) d ((x :: q1) ++ q2)) ∧ (∀ y, 0 ≤ y → y < (n : Int) → 0 ≤ rd (bfs N (m + 1) d ((x :: q1) ++ q2)) y → Done N (bfs N (m + 1) d ((x :: q1) ++ q2)) y) ∧ (∀ y, 0 ≤ y → y < (n : Int) → 0 ≤ rd d y → rd (bfs N (m + 1) d ((x :: q1) ++ q2)) y = rd d y) := by
   intro L x d q1 q2 h hm
   obtain ⟨hx0, hx1, hx⟩ := h.r1 x (List.mem_cons_self ..)
   have hl := h.bi.1
   have hL0 := h.L0
   have hS : St N n b L (fun y => y = x) d q1 q2 := by
    refine ⟨h.bi, h.L0, fun y hy => h.r1 y (List.mem_cons_of_mem _ hy), h.r2, h.top, fun y hy0 hy1 hyv => ?_⟩
    rcases h.dn y hy0 hy1 hyv with e | e | e
    ·exact e.elim
    ·rw [List.cons_append] at e
     rcases List.mem_cons.1 e with e | e
     ·exact .inl e
     ·exact .inr (.inl e)
    ·exact .inr (.inr e)
   obtain ⟨q2', e1, e2, e3, e4, e5⟩ := in_fin N n b L x hN hx0 hx1 (N x) d q1 q2 hS hx (fun _ hc => hc)
   have hInv : Inv (L + 1) d (q1 ++ q2) := by
    refine ⟨fun v hv => ?_, by omega, fun y hy => ?_⟩
    ·obtain ⟨y, y0, y1, ye⟩ := rd_ge hv
     have := h.top y y0 (by omega)
     omega
    ·rcases List.mem_append.1 hy with hy | hy
     ·have := h.r1 y (List.mem_cons_of_mem _ hy); omega
     ·have := h.r2 y hy; omega
   have hok := bfsIn_ok x L (N x) d (q1 ++ q2) hInv hx0 (by omega) (by omega) (by omega) (fun c hc => by rw [hl]; exact hN x hx0 hx1 c hc)
   have hS' : St N n b L (fun _ => False) (bfsIn x (N x) d (q1 ++ q2)).1 q1 q2' := by
    refine ⟨e2.bi, e2.L0, e2.r1, e2.r2, e2.top, fun y hy0 hy1 hyv => ?_⟩
    rcases e2.dn y hy0 hy1 hyv with e | e | e
    ·refine .inr (.inr ?_)
     rw [e]
     intro c hc
     obtain ⟨g0, g1⟩ := hN x hx0 hx1 c hc
     have := e2.top c g0 g1
     exact ⟨e4 c hc, by rw [e3]; exact this⟩
    ·exact .inr (.inl e)
    ·exact .inr (.inr e)
   simp only [List.cons_append, List.length_cons] at hm
   have := ih L _ q1 q2' hS' (by rw [← e1, hok.2.2]; omega)
   rw [← e1] at this
   refine ⟨this.1, this.2.1, fun y hy0 hy1 hyv => ?_⟩
   have e5' := e5 y hy0 hy1 hyv
   exact (this.2.2 y hy0 hy1 (by rw [e5']; exact hyv)).trans e5'
  intro L d q1 q2 h hm
  cases q1 with
  | cons x q1 => exact step L x d q1 q2 h hm
  | nil =>
   cases q2 with
   | nil =>
    refine ⟨h.bi, fun y hy0 hy1 hyv => ?_, fun _ _ _ _ => rfl⟩
    rcases h.dn y hy0 hy1 hyv with e | e | e
    ·exact e.elim
    ·simp at e
    ·exact e
   | cons x q2 =>
    have hL0 := h.L0
    have := step (L + 1) x d q2 [] ⟨h.bi, by omega, h.r2, fun y hy => by simp at hy, fun y y0 y1 => by have := h.top y y0 y1; omega, fun y y0 y1 yv => by have := h.dn y y0 y1 yv; simpa using this⟩ (by simpa using hm)
    simpa using this
theorem from_fin {W H : Int} {C : List Int} {b : Int} (h : mOpen W H C b = true) :
  BI (mNear W C) C.length b (mFrom W C b) ∧ (∀ y, 0 ≤ y → y < (C.length : Int) → 0 ≤ rd (mFrom W C b) y → Done (mNear W C) (mFrom W C b) y) ∧ rd (mFrom W C b) b = 0 := by
 obtain ⟨hcell, _⟩ := mOpen_iff.1 h
 obtain ⟨hL, h0, h1⟩ := mCell_iff.1 hcell
 obtain ⟨_, hn, hl⟩ := start_ok (C := C) h0 h1
 have hrep : ∀ y, 0 ≤ y → y < (C.length : Int) → rd (List.replicate C.length (-1)) y = -1 := fun y y0 y1 => by
  unfold rd
  rw [List.getD_eq_getElem?_getD, List.getElem?_eq_getElem (by simp; omega)]; simp
 have hs : ∀ y, 0 ≤ y → y < (C.length : Int) → rd ((List.replicate C.length (-1)).set b.toNat 0) y = if y = b then 0 else -1 := fun y y0 y1 => by
  rw [rd_set h0 (by simpa using h1) y0, hrep y y0 y1]
 have hb : rd ((List.replicate C.length (-1)).set b.toNat 0) b = 0 := by rw [hs b h0 h1, if_pos rfl]
 have hS : St (mNear W C) C.length b 0 (fun _ => False) ((List.replicate C.length (-1)).set b.toNat 0) [b] [] := by
  refine ⟨⟨hl, fun y y0 y1 yv => ?_⟩, Int.le_refl _, fun y hy => ?_, fun y hy => by simp at hy, fun y y0 y1 => ?_, fun y y0 y1 yv => ?_⟩
  ·rw [hs y y0 y1] at yv
   by_cases e : y = b
   ·exact .inl e
   ·rw [if_neg e] at yv; omega
  ·rw [List.mem_singleton] at hy
   subst hy
   exact ⟨h0, h1, hb⟩
  ·rw [hs y y0 y1]; split <;> omega
  ·rw [hs y y0 y1] at yv
   by_cases e : y = b
   ·exact .inr (.inl (by simp [e]))
   ·rw [if_neg e] at yv; omega
 have := bfs_fin (mNear W C) C.length b (fun y y0 y1 c hc => by have := near_in (mCell_iff.2 ⟨hL, y0, y1⟩) hc; omega) C.length 0 _ [b] [] hS (by rw [List.append_nil]; omega)
 rw [List.append_nil] at this
 exact ⟨this.1, this.2.1, by rw [← hb]; exact this.2.2 b h0 h1 (by rw [hb]; exact Int.le_refl _)⟩
theorem near_sym {W H : Int} {C : List Int} {n c : Int} (h : mOpen W H C n = true) (hc : c ∈ mNear W C n) : n ∈ mNear W C c ∧ mOpen W H C c = true := by
 obtain ⟨hcell, hn2⟩ := mOpen_iff.1 h
 obtain ⟨hL, h0, h1⟩ := mCell_iff.1 hcell
 obtain ⟨hW, hH, hlen, _⟩ := mLand_iff.1 hL
 have h64 := mLand_len hL
 obtain ⟨c0, c1, c2⟩ := near_in hcell hc
 refine ⟨?_, mOpen_iff.2 ⟨mCell_iff.2 ⟨hL, c0, c1⟩, c2⟩⟩
 rw [near_mem] at hc ⊢
 rcases hc with ⟨a1, rfl, a3⟩ | ⟨a1, rfl, a3⟩ | ⟨a1, rfl, a3⟩ | ⟨a1, rfl, a3⟩
 ·exact .inr (.inr (.inr ⟨by omega, by omega, hn2⟩))
 ·refine .inr (.inr (.inl ⟨?_, by omega, hn2⟩))
  rw [Int.tmod_eq_emod_of_nonneg h0] at a1
  rw [Int.tmod_eq_emod_of_nonneg c0]
  rcases oct hW with rfl | rfl | rfl | rfl | rfl | rfl | rfl | rfl <;> omega
 ·refine .inr (.inl ⟨?_, by omega, hn2⟩)
  rw [Int.tmod_eq_emod_of_nonneg h0] at a1
  rw [Int.tmod_eq_emod_of_nonneg c0]
  rcases oct hW with rfl | rfl | rfl | rfl | rfl | rfl | rfl | rfl <;> omega
 ·exact .inl ⟨by omega, by omega, hn2⟩
/-- Beside a cell that was reached: all are reached, none is more than a day nearer, and (but at the base) one is a day nearer. -/
theorem near_days {W H : Int} {C : List Int} {b x : Int} (hb : mOpen W H C b = true) (hx : mOpen W H C x = true) (hr : 0 ≤ rd (mFrom W C b) x) :
  (∀ c ∈ mNear W C x, 0 ≤ rd (mFrom W C b) c ∧ rd (mFrom W C b) x - 1 ≤ rd (mFrom W C b) c) ∧ (x ≠ b → ∃ c ∈ mNear W C x, rd (mFrom W C b) c = rd (mFrom W C b) x - 1) := by
 obtain ⟨hbi, hdn, h0⟩ := from_fin hb
 obtain ⟨hcell, _⟩ := mOpen_iff.1 hx
 obtain ⟨hL, x0, x1⟩ := mCell_iff.1 hcell
 constructor
 ·intro c hc
  obtain ⟨e0, e1⟩ := hdn x x0 x1 hr c hc
  obtain ⟨hs, hco⟩ := near_sym hx hc
  obtain ⟨hcc, _⟩ := mOpen_iff.1 hco
  obtain ⟨_, c0, c1⟩ := mCell_iff.1 hcc
  have := hdn c c0 c1 e0 x hs
  exact ⟨e0, by omega⟩
 ·intro hne
  rcases hbi.2 x x0 x1 hr with e | ⟨p, p0, p1, p2, p3, p4⟩
  ·exact absurd e hne
  ·have hpc : mCell W H C p = true := mCell_iff.2 ⟨hL, p0, p1⟩
   have hpo : mOpen W H C p = true := by
    rcases hbi.2 p p0 p1 p3 with e | ⟨p', p0', p1', _, _, p4'⟩
    ·rw [e]; exact hb
    ·exact mOpen_iff.2 ⟨hpc, (near_in (mCell_iff.2 ⟨hL, p0', p1'⟩) p4').2.2⟩
   exact ⟨p, (near_sym hpo p4).1, p2⟩
theorem zero_base {W H : Int} {C : List Int} {b x : Int} (hb : mOpen W H C b = true) (x0 : 0 ≤ x) (x1 : x < (C.length : Int)) (hr : rd (mFrom W C b) x = 0) : x = b := by
 rcases (from_fin hb).1.2 x x0 x1 (by omega) with e | ⟨p, _, _, p2, p3, _⟩
 ·exact e
 ·omega
theorem implDays_ev (W H : Int) (C : List Int) (a b : Int) (hC : C.length ≤ 4611686018427387904) : Ev (fun k => impl_Days.f k W H C a b) (mDays W H C a b) := by
 unfold impl_Days.f
 refine Ev.bind (implOpen_ev W H C a hC) ?_
 unfold mDays
 cases ha : mOpen W H C a with
 | false => simp only [Bool.false_eq_true, if_false, Bool.false_and]; exact Ev.now _
 | true =>
  simp only [if_true, Bool.true_and]
  refine Ev.bind (implOpen_ev W H C b hC) ?_
  cases hb : mOpen W H C b with
  | false => simp only [Bool.false_eq_true, if_false]; exact Ev.now _
  | true =>
   simp only [if_true]
   refine Ev.bind (implDist_ev W H C a ha) ?_
   obtain ⟨_, h0, h1⟩ := mCell_iff.1 (mOpen_iff.1 hb).1
   simp only [if_pos h0, mFrom_len ha, if_pos h1]
   exact Ev.now _
theorem specDays_ev (W H : Int) (C : List Int) (a b : Int) (hC : C.length ≤ 4611686018427387904) : Ev (fun k => spec_Days.f k W H C a b) (mDays W H C a b) := by
 unfold spec_Days.f
 refine Ev.bind (specOpen_ev W H C a hC) ?_
 unfold mDays
 cases ha : mOpen W H C a with
 | false => simp only [Bool.false_eq_true, if_false, Bool.false_and]; exact Ev.now _
 | true =>
  simp only [if_true, Bool.true_and]
  refine Ev.bind (specOpen_ev W H C b hC) ?_
  cases hb : mOpen W H C b with
  | false => simp only [Bool.false_eq_true, if_false]; exact Ev.now _
  | true =>
   simp only [if_true]
   refine Ev.bind (specFrom_ev W H C a ha) ?_
   obtain ⟨_, h0, h1⟩ := mCell_iff.1 (mOpen_iff.1 hb).1
   simp only [if_pos h0, mFrom_len ha, if_pos h1]
   exact Ev.now _
/-! ### Plans -/
def okLegs (W H : Int) (C : List Int) : Int → List S76 → Bool
 | _, [] => true
 | a, g :: t => if mDays W H C a g.f0 < 0 then false else if 0 ≤ g.f1 ∧ g.f1 ≤ 30 then okLegs W H C g.f0 t else false
def mIsPlan (W H : Int) (C : List Int) (a : Int) (l : List S76) : Bool := mOpen W H C a && (decide ((l.length : Int) ≤ 10) && okLegs W H C a l)
theorem implLegs_ev (W H : Int) (C : List Int) (l : List S76) (hl : l.length ≤ 4611686018427387904) (hC : C.length ≤ 4611686018427387904) : ∀ (t d : List S76) (a : Int), l = d ++ t → Ev (fun k => impl_IsPlan.l0 k a l (l.length : Int) (d.length : Int) W H C) (okLegs W H C a t)
 | [], d, a, h => by
  have hlen : l.length = d.length := by rw [h]; simp
  refine Ev.step (f := fun _ => some true) (fun k => ?_) (Ev.now _)
  simp only [impl_IsPlan.l0]
  rw [if_neg (by omega)]
 | g :: t, d, a, h => by
  have hlen : l.length = d.length + (t.length + 1) := by rw [h]; simp
  have hr : rd_T76 l (d.length : Int) = g := getD_of z76 (by rw [h]; simp)
  have ih := implLegs_ev W H C l hl hC t (d ++ [g]) g.f0 (by rw [h]; simp)
  rw [show (((d ++ [g]).length : Nat) : Int) = (d.length : Int) + 1 from by simp] at ih
  refine Ev.step (f := fun k => (impl_Days.f k W H C a g.f0).bind fun t180 => (if t180 < 0 then (some false) else ((impl_InRange.f g.f1 0 30).bind fun t181 => (if t181 = true then (impl_IsPlan.l0 k g.f0 l (l.length : Int) ((d.length : Int) + 1) W H C) else (some false))))) (fun k => ?_) ?_
  ·simp only [impl_IsPlan.l0, hr, wrapi d.length (by omega)]
   rw [if_pos (by omega), if_pos (by omega), if_pos (by omega)]
  ·refine Ev.bind (implDays_ev W H C a g.f0 hC) ?_
   unfold okLegs
   by_cases h1 : mDays W H C a g.f0 < 0
   ·simp only [if_pos h1]; exact Ev.now _
   ·simp only [if_neg h1, InRange_eq, Option.bind_some]
    by_cases h2 : 0 ≤ g.f1 ∧ g.f1 ≤ 30
    ·simp only [decide_eq_true h2, if_true, if_pos h2]; exact ih
    ·simp only [decide_eq_false h2, Bool.false_eq_true, if_false, if_neg h2]; exact Ev.now _
theorem implIsPlan_ev (W H : Int) (C : List Int) (a : Int) (l : List S76) (hl : l.length ≤ 4611686018427387904) (hC : C.length ≤ 4611686018427387904) : Ev (fun k => impl_IsPlan.f k W H C a l) (mIsPlan W H C a l) := by
 unfold impl_IsPlan.f mIsPlan
 have hno : Ev (fun k => impl_IsPlan.j0 k a l true W H C) false := Ev.step (f := fun _ => some false) (fun k => by simp [impl_IsPlan.j0]) (Ev.now _)
 refine Ev.bind (implOpen_ev W H C a hC) ?_
 cases mOpen W H C a with
 | false => simp only [Bool.false_eq_true, if_false, Bool.false_and]; exact hno
 | true =>
  simp only [if_true, Bool.true_and]
  by_cases h : (l.length : Int) ≤ 10
  ·simp only [decide_eq_true h, decide_eq_false (show ¬ (l.length : Int) > 10 from by omega), Bool.true_and]
   have := implLegs_ev W H C l hl hC l [] a rfl
   exact Ev.step (fun k => by simp [impl_IsPlan.j0]) this
  ·simp only [decide_eq_false h, decide_eq_true (show (l.length : Int) > 10 from by omega), Bool.false_and]
   exact hno
theorem specLegs_ev (W H : Int) (C : List Int) (a0 : Int) (l : List S76) (hl : l.length ≤ 4611686018427387904) (hC : C.length ≤ 4611686018427387904) : ∀ (t d : List S76) (a : Int), l = d ++ t → Ev (fun k => spec_IsPlan.l0 k a0 l a (d.length : Int) W H C) (okLegs W H C a t && (mOpen W H C a0 && decide ((l.length : Int) ≤ 10)))
 | [], d, a, h => by
  have hlen : l.length = d.length := by rw [h]; simp
  refine Ev.step (f := fun k => (spec_IsOpen.f k W H C a0).bind fun t252 => (if t252 = true then (some (decide ((l.length : Int) ≤ 10))) else (some false))) (fun k => ?_) ?_
  ·simp only [spec_IsPlan.l0]
   rw [if_neg (by omega)]
  ·refine Ev.bind (specOpen_ev W H C a0 hC) ?_
   unfold okLegs
   cases mOpen W H C a0 with
   | false => simp only [Bool.false_eq_true, if_false, Bool.false_and, Bool.and_false]; exact Ev.now _
   | true => simp only [if_true, Bool.true_and]; exact Ev.now _
 | g :: t, d, a, h => by
  have hlen : l.length = d.length + (t.length + 1) := by rw [h]; simp
  have hr : rd_T76 l (d.length : Int) = g := getD_of z76 (by rw [h]; simp)
  have ih := specLegs_ev W H C a0 l hl hC t (d ++ [g]) g.f0 (by rw [h]; simp)
  rw [show (((d ++ [g]).length : Nat) : Int) = (d.length : Int) + 1 from by simp] at ih
  refine Ev.step (f := fun k => (spec_Days.f k W H C a g.f0).bind fun t254 => (if t254 < 0 then (some false) else ((spec_l1In.f g.f1 0 30).bind fun t256 => (if t256 = true then (spec_IsPlan.l0 k a0 l g.f0 ((d.length : Int) + 1) W H C) else (some false))))) (fun k => ?_) ?_
  ·simp only [spec_IsPlan.l0, hr, wrapi d.length (by omega)]
   rw [if_pos (by omega), if_pos (by omega)]
  ·refine Ev.bind (specDays_ev W H C a g.f0 hC) ?_
   unfold okLegs
   by_cases h1 : mDays W H C a g.f0 < 0
   ·simp only [if_pos h1, Bool.false_and]; exact Ev.now _
   ·simp only [if_neg h1, l1In_eq, Option.bind_some]
    by_cases h2 : 0 ≤ g.f1 ∧ g.f1 ≤ 30
    ·simp only [decide_eq_true h2, if_true, if_pos h2]; exact ih
    ·simp only [decide_eq_false h2, Bool.false_eq_true, if_false, if_neg h2, Bool.false_and]; exact Ev.now _
theorem specIsPlan_ev (W H : Int) (C : List Int) (a : Int) (l : List S76) (hl : l.length ≤ 4611686018427387904) (hC : C.length ≤ 4611686018427387904) : Ev (fun k => spec_IsPlan.f k W H C a l) (mIsPlan W H C a l) := by
 have := specLegs_ev W H C a l hl hC l [] a rfl
 have e : mIsPlan W H C a l = (okLegs W H C a l && (mOpen W H C a && decide ((l.length : Int) ≤ 10))) := by
  unfold mIsPlan
  cases okLegs W H C a l <;> cases mOpen W H C a <;> simp
 rw [e]
 exact this
/-! ### A shortest way -/
theorem bfs_top (N : Int → List Int) (n : Nat) (hN : ∀ x, 0 ≤ x → x < (n : Int) → ∀ c ∈ N x, 0 ≤ c ∧ c < (n : Int)) : ∀ (m : Nat) (b : Int) (d q : List Int), Inv b d q → d.length = n → ∀ v ∈ bfs N m d q, v ≤ b + m
 | 0, b, d, q, h, _, v, hv => by have := h.1 v hv; omega
 | m + 1, b, d, [], h, _, v, hv => by have := h.1 v hv; omega
 | m + 1, b, d, x :: t, hI, h, v, hv => by
  obtain ⟨j0, j1, j2⟩ := hI.2.2 x (List.mem_cons_self ..)
  have hI' : Inv (b + 1) d t := ⟨fun v hv => by have := hI.1 v hv; omega, by have := hI.2.1; omega, fun y hy => hI.2.2 y (List.mem_cons_of_mem _ hy)⟩
  have := bfsIn_ok x b (N x) d t hI' j0 j1 j2 (hI.1 _ (rd_mem j0 j1)) (fun c hc => by rw [h]; exact hN x j0 (by rw [← h]; exact j1) c hc)
  have := bfs_top N n hN m (b + 1) _ _ this.1 (by rw [this.2.1, h]) v hv
  omega
theorem from_top {W H : Int} {C : List Int} {b x : Int} (h : mOpen W H C b = true) (x0 : 0 ≤ x) (x1 : x < (C.length : Int)) : rd (mFrom W C b) x ≤ 64 := by
 obtain ⟨hcell, _⟩ := mOpen_iff.1 h
 obtain ⟨hL, h0, h1⟩ := mCell_iff.1 hcell
 obtain ⟨hI, hn, hl⟩ := start_ok (C := C) h0 h1
 have h64 := mLand_len hL
 have hmem : rd (mFrom W C b) x ∈ mFrom W C b := rd_mem x0 (by have := mFrom_len h; omega)
 have := bfs_top (mNear W C) C.length (fun x hx0 hx1 c hc => by have := near_in (mCell_iff.2 ⟨hL, hx0, hx1⟩) hc; omega) C.length 0 _ _ hI hl (rd (mFrom W C b) x) hmem
 omega
theorem reach_sym {W H : Int} {C : List Int} {a b : Int} (ha : mOpen W H C a = true) (hb : mOpen W H C b = true) (h : 0 ≤ rd (mFrom W C a) b) : 0 ≤ rd (mFrom W C b) a := by
 obtain ⟨abi, adn, a0⟩ := from_fin ha
 obtain ⟨bbi, bdn, b0⟩ := from_fin hb
 obtain ⟨hL, _, _⟩ := mCell_iff.1 (mOpen_iff.1 ha).1
 have key : ∀ (k : Nat) (y : Int), mOpen W H C y = true → rd (mFrom W C a) y = (k : Int) → 0 ≤ rd (mFrom W C b) y → 0 ≤ rd (mFrom W C b) a := by
  intro k
  induction k with
  | zero =>
   intro y hy hk hv
   obtain ⟨_, y0, y1⟩ := mCell_iff.1 (mOpen_iff.1 hy).1
   rw [zero_base ha y0 y1 (by omega)] at hv
   exact hv
  | succ k ih =>
   intro y hy hk hv
   obtain ⟨_, y0, y1⟩ := mCell_iff.1 (mOpen_iff.1 hy).1
   obtain ⟨n1, n2⟩ := near_days ha hy (by omega)
   obtain ⟨p, hp, hpe⟩ := n2 (fun e => by rw [e, a0] at hk; omega)
   exact ih p (near_sym hy hp).2 (by omega) (bdn y y0 y1 hv p hp).1
 obtain ⟨k, hk⟩ := Int.eq_ofNat_of_zero_le h
 exact key k b hb hk (by omega)
def nextOf (W : Int) (C D : List Int) (x : Int) : Int := ((mNear W C x).find? (fun c => decide (rd D c = rd D x - 1))).getD x
def way (W : Int) (C D : List Int) : Nat → Int → List Int
 | 0, _ => []
 | n + 1, x => nextOf W C D x :: way W C D n (nextOf W C D x)
def mWayTo (W H : Int) (C : List Int) (a b : Int) : List Int := if mDays W H C a b < 0 then [] else a :: way W C (mFrom W C b) (rd (mFrom W C b) a).toNat a
theorem next_ok {W H : Int} {C : List Int} {b x : Int} (hb : mOpen W H C b = true) (hx : mOpen W H C x = true) {n : Nat} (hn : rd (mFrom W C b) x = (n : Int) + 1) :
  nextOf W C (mFrom W C b) x ∈ mNear W C x ∧ rd (mFrom W C b) (nextOf W C (mFrom W C b) x) = (n : Int) ∧ mOpen W H C (nextOf W C (mFrom W C b) x) = true ∧ (mNear W C x).find? (fun c => decide (rd (mFrom W C b) c = rd (mFrom W C b) x - 1)) = some (nextOf W C (mFrom W C b) x) := by
 obtain ⟨n1, n2⟩ := near_days hb hx (by omega)
 obtain ⟨p, hp, hpe⟩ := n2 (fun e => by rw [e, (from_fin hb).2.2] at hn; omega)
 have hf : (mNear W C x).find? (fun c => decide (rd (mFrom W C b) c = rd (mFrom W C b) x - 1)) = some (nextOf W C (mFrom W C b) x) := by
  unfold nextOf
  cases h : (mNear W C x).find? (fun c => decide (rd (mFrom W C b) c = rd (mFrom W C b) x - 1)) with
  | none =>
   have := List.find?_eq_none.1 h p hp
   simp [hpe] at this
  | some c => rfl
 have hm := List.mem_of_find?_eq_some hf
 have hq := List.find?_some hf
 simp only [decide_eq_true_eq] at hq
 exact ⟨hm, by omega, (near_sym hx hm).2, hf⟩
theorem mWay_days {W H : Int} {C : List Int} {a b : Int} (h : ¬ mDays W H C a b < 0) : mOpen W H C a = true ∧ mOpen W H C b = true ∧ 0 ≤ rd (mFrom W C b) a := by
 unfold mDays at h
 by_cases c : (mOpen W H C a && mOpen W H C b) = true
 ·rw [if_pos c] at h
  rw [Bool.and_eq_true] at c
  exact ⟨c.1, c.2, reach_sym c.1 c.2 (by omega)⟩
 ·rw [if_neg c] at h
  omega
theorem implWay_in (W H : Int) (C : List Int) (b x : Int) (out ns : List Int) (R : List Int) (hb : mOpen W H C b = true) (hx : mOpen W H C x = true) (hns : ns = mNear W C x) (ho : out.length ≤ 1000) (hr : 0 ≤ rd (mFrom W C b) x) (z : Int)
  (hR : Ev (fun k => impl_WayTo.l0 k b (mFrom W C b) (out ++ [z]) z W H C) R) : ∀ (t e : List Int), ns = e ++ t → t.find? (fun c => decide (rd (mFrom W C b) c = rd (mFrom W C b) x - 1)) = some z → Ev (fun k => impl_WayTo.l1 k b (mFrom W C b) out x ns (ns.length : Int) (e.length : Int) W H C) R
 | [], e, h, hf => by simp at hf
 | c :: t, e, h, hf => by
  obtain ⟨_, x0, x1⟩ := mCell_iff.1 (mOpen_iff.1 hx).1
  have hlen : ns.length = e.length + (t.length + 1) := by rw [h]; simp
  have hl4 : ns.length ≤ 4 := by rw [hns]; exact near_len W C x
  have hrc : rd ns (e.length : Int) = c := getD_of 0 (by rw [h]; simp)
  have hc : c ∈ mNear W C x := by rw [← hns, h]; simp
  obtain ⟨c0, c1, _⟩ := near_in (mOpen_iff.1 hx).1 hc
  have hD := mFrom_len hb
  obtain ⟨m0, m1⟩ := (near_days hb hx hr).1 c hc
  by_cases hq : rd (mFrom W C b) c = rd (mFrom W C b) x - 1
  ·rw [List.find?_cons_of_pos (by simpa using hq)] at hf
   have hf := Option.some.inj hf
   subst hf
   refine Ev.step (fun k => ?_) hR
   simp only [impl_WayTo.l1, hrc]
   rw [if_pos (by omega), if_pos (by omega), if_pos (by omega), if_pos c0, if_pos (by omega), if_pos x0, if_pos (by omega), if_pos (by omega), if_pos (by omega)]
  ·rw [List.find?_cons_of_neg (by simpa using hq)] at hf
   have ih := implWay_in W H C b x out ns R hb hx hns ho hr z hR t (e ++ [c]) (by rw [h]; simp) hf
   rw [show (((e ++ [c]).length : Nat) : Int) = (e.length : Int) + 1 from by simp] at ih
   refine Ev.step (fun k => ?_) ih
   simp only [impl_WayTo.l1, hrc, wrapi e.length (by omega)]
   rw [if_pos (by omega), if_pos (by omega), if_pos (by omega), if_pos c0, if_pos (by omega), if_pos x0, if_pos (by omega), if_neg (by omega)]
theorem implWay_down (W H : Int) (C : List Int) (b : Int) (hb : mOpen W H C b = true) : ∀ (n : Nat) (x : Int) (out : List Int), mOpen W H C x = true → rd (mFrom W C b) x = (n : Int) → out.length + n ≤ 1000 → Ev (fun k => impl_WayTo.l0 k b (mFrom W C b) out x W H C) (out ++ way W C (mFrom W C b) n x)
 | 0, x, out, hx, hn, ho => by
  obtain ⟨_, x0, x1⟩ := mCell_iff.1 (mOpen_iff.1 hx).1
  have e := zero_base hb x0 x1 hn
  refine Ev.step (f := fun _ => some out) (fun k => ?_) (by simp only [way, List.append_nil]; exact Ev.now _)
  simp only [impl_WayTo.l0]
  rw [if_pos e]
 | n + 1, x, out, hx, hn, ho => by
  have hne : x ≠ b := fun e => by rw [e, (from_fin hb).2.2] at hn; omega
  obtain ⟨k1, k2, k3, k4⟩ := next_ok hb hx (n := n) (by omega)
  have ih := implWay_down W H C b hb n (nextOf W C (mFrom W C b) x) (out ++ [nextOf W C (mFrom W C b) x]) k3 k2 (by simp; omega)
  rw [List.append_assoc] at ih
  refine Ev.step (f := fun k => (impl_Near.f k W H C x).bind fun t193 => impl_WayTo.l1 k b (mFrom W C b) out x t193 (t193.length : Int) 0 W H C) (fun k => ?_) ?_
  ·simp only [impl_WayTo.l0]
   rw [if_neg hne]
  ·refine Ev.bind (implNear_ev W H C x (mOpen_iff.1 hx).1) ?_
   exact implWay_in W H C b x out (mNear W C x) _ hb hx rfl (by omega) (by omega) _ ih (mNear W C x) [] rfl k4
theorem implWayTo_ev (W H : Int) (C : List Int) (a b : Int) (hC : C.length ≤ 4611686018427387904) : Ev (fun k => impl_WayTo.f k W H C a b) (mWayTo W H C a b) := by
 unfold impl_WayTo.f mWayTo
 refine Ev.bind (implDays_ev W H C a b hC) ?_
 by_cases h : mDays W H C a b < 0
 ·simp only [if_pos h]; exact Ev.now _
 ·simp only [if_neg h]
  obtain ⟨ha, hb, hr⟩ := mWay_days h
  refine Ev.bind (implDist_ev W H C b hb) ?_
  obtain ⟨_, a0, a1⟩ := mCell_iff.1 (mOpen_iff.1 ha).1
  have ht := from_top hb a0 a1
  have := implWay_down W H C b hb (rd (mFrom W C b) a).toNat a [a] ha (by omega) (by simp; omega)
  exact this
theorem specWay_in (W H : Int) (C : List Int) (b x : Int) (out ns : List Int) (R : List Int) (hb : mOpen W H C b = true) (hx : mOpen W H C x = true) (hns : ns = mNear W C x) (ho : out.length ≤ 1000) (hr : 0 ≤ rd (mFrom W C b) x)
  (hR : Ev (fun k => spec_WayTo.l0 k (nextOf W C (mFrom W C b) x) b ((out ++ [x]) ++ [nextOf W C (mFrom W C b) x]) (mFrom W C b) W H C) R) : ∀ (n : Nat), n ≤ ns.length → Ev (fun k => spec_WayTo.l1 k (((ns.drop n).find? (fun c => decide (rd (mFrom W C b) c = rd (mFrom W C b) x - 1))).getD x) b (out ++ [x]) (mFrom W C b) ns ((n : Int) - 1) W H C) R
 | 0, _ => by
  refine Ev.step (fun k => ?_) hR
  have e : ((ns.drop 0).find? (fun c => decide (rd (mFrom W C b) c = rd (mFrom W C b) x - 1))).getD x = nextOf W C (mFrom W C b) x := by rw [List.drop_zero, hns]; rfl
  simp only [spec_WayTo.l1, e]
  rw [if_neg (by omega), if_pos (by simp; omega)]
 | n + 1, hn => by
  have ih := specWay_in W H C b x out ns R hb hx hns ho hr hR n (by omega)
  obtain ⟨_, x0, x1⟩ := mCell_iff.1 (mOpen_iff.1 hx).1
  have hl4 : ns.length ≤ 4 := by rw [hns]; exact specNear_len W C x
  have hg : ns[n]? = some ns[n] := List.getElem?_eq_getElem (by omega)
  have hrc : rd ns (n : Int) = ns[n] := getD_of 0 hg
  have hc : ns[n] ∈ mNear W C x := by rw [← hns]; exact List.getElem_mem _
  obtain ⟨c0, c1, _⟩ := near_in (mOpen_iff.1 hx).1 hc
  have hD := mFrom_len hb
  have ht := from_top hb x0 x1
  have hlast : wrap64 (((out ++ [x]).length : Int) - 1) = (out.length : Int) := by
   rw [wrap_id (by simp only [List.length_append, List.length_singleton]; omega) (by simp only [List.length_append, List.length_singleton]; omega)]; simp
  have hrl : rd (out ++ [x]) (out.length : Int) = x := getD_of 0 (by simp)
  have hw : wrap64 (rd (mFrom W C b) x - 1) = rd (mFrom W C b) x - 1 := wrap_id (by omega) (by omega)
  have hwn : wrap64 ((n : Int) - 1) = (n : Int) - 1 := wrap_id (by omega) (by omega)
  rw [List.drop_eq_getElem_cons (show n < ns.length by omega)] at ih
  refine Ev.step (fun k => ?_) ih
  simp only [spec_WayTo.l1, show (((n + 1 : Nat) : Int) - 1) = (n : Int) from by omega, hrc, hlast, hrl, hw, hwn]
  rw [if_pos (by omega), if_pos (by omega), if_pos (by omega), if_pos c0, if_pos (by omega), if_pos (by omega), if_pos (by simp; omega), if_pos x0, if_pos (by omega)]
  by_cases hq : rd (mFrom W C b) ns[n] = rd (mFrom W C b) x - 1
  ·rw [if_pos hq, List.find?_cons_of_pos (by simpa using hq)]; rfl
  ·rw [if_neg hq, List.find?_cons_of_neg (by simpa using hq)]
theorem specWay_down (W H : Int) (C : List Int) (b : Int) (hb : mOpen W H C b = true) : ∀ (n : Nat) (x : Int) (out : List Int), mOpen W H C x = true → rd (mFrom W C b) x = (n : Int) → out.length + n ≤ 900 → Ev (fun k => spec_WayTo.l0 k x b (out ++ [x]) (mFrom W C b) W H C) ((out ++ [x]) ++ way W C (mFrom W C b) n x)
 | 0, x, out, hx, hn, ho => by
  obtain ⟨_, x0, x1⟩ := mCell_iff.1 (mOpen_iff.1 hx).1
  have e := zero_base hb x0 x1 hn
  refine Ev.step (f := fun _ => some (out ++ [x])) (fun k => ?_) (by simp only [way, List.append_nil]; exact Ev.now _)
  simp only [spec_WayTo.l0]
  rw [if_pos e]
 | n + 1, x, out, hx, hn, ho => by
  have hne : x ≠ b := fun e => by rw [e, (from_fin hb).2.2] at hn; omega
  obtain ⟨k1, k2, k3, k4⟩ := next_ok hb hx (n := n) (by omega)
  have ih := specWay_down W H C b hb n (nextOf W C (mFrom W C b) x) (out ++ [x]) k3 k2 (by simp; omega)
  have hin := specWay_in W H C b x out (mNear W C x) _ hb hx rfl (by omega) (by omega) ih (mNear W C x).length (Nat.le_refl _)
  have hl4 := specNear_len W C x
  refine Ev.step (f := fun k => (spec_l4Near.f k W H C x).bind fun t343 => spec_WayTo.l1 k x b (out ++ [x]) (mFrom W C b) t343 (wrap64 ((t343.length : Int) - 1)) W H C) (fun k => ?_) ?_
  ·simp only [spec_WayTo.l0]
   rw [if_neg hne]
  ·refine Ev.bind (specNear_ev W H C x (mOpen_iff.1 hx).1) ?_
   rw [List.drop_length] at hin
   simp only [wrap_id (n := ((mNear W C x).length : Int) - 1) (by omega) (by omega)]
   have e : (out ++ [x]) ++ way W C (mFrom W C b) (n + 1) x = ((out ++ [x]) ++ [nextOf W C (mFrom W C b) x]) ++ way W C (mFrom W C b) n (nextOf W C (mFrom W C b) x) := by simp [way]
   rw [e]
   exact hin
theorem specWayTo_ev (W H : Int) (C : List Int) (a b : Int) (hC : C.length ≤ 4611686018427387904) : Ev (fun k => spec_WayTo.f k W H C a b) (mWayTo W H C a b) := by
 unfold spec_WayTo.f mWayTo
 simp only [Option.bind_some]
 refine Ev.bind (specDays_ev W H C a b hC) ?_
 by_cases h : mDays W H C a b < 0
 ·simp only [if_pos h]; exact Ev.now _
 ·simp only [if_neg h]
  obtain ⟨ha, hb, hr⟩ := mWay_days h
  refine Ev.bind (specFrom_ev W H C b hb) ?_
  obtain ⟨_, a0, a1⟩ := mCell_iff.1 (mOpen_iff.1 ha).1
  have ht := from_top hb a0 a1
  have := specWay_down W H C b hb (rd (mFrom W C b) a).toNat a [] ha (by omega) (by simp; omega)
  simp only [List.length_nil, show (0 : Nat) < 17592186044416 from by omega, if_true]
  exact this
/-! ### The cells of a plan -/
theorem way_len (W : Int) (C D : List Int) : ∀ (n : Nat) (x : Int), (way W C D n x).length = n
 | 0, _ => rfl
 | n + 1, x => by simp [way, way_len W C D n]
theorem mWayTo_len {W H : Int} {C : List Int} {a b : Int} (h : ¬ mDays W H C a b < 0) : 1 ≤ (mWayTo W H C a b).length ∧ (mWayTo W H C a b).length ≤ 65 := by
 obtain ⟨ha, hb, hr⟩ := mWay_days h
 obtain ⟨_, a0, a1⟩ := mCell_iff.1 (mOpen_iff.1 ha).1
 have ht := from_top hb a0 a1
 unfold mWayTo
 rw [if_neg h, List.length_cons, way_len]
 omega
theorem way_last {W H : Int} {C : List Int} {b : Int} (hb : mOpen W H C b = true) : ∀ (n : Nat) (x : Int), mOpen W H C x = true → rd (mFrom W C b) x = (n : Int) → (x :: way W C (mFrom W C b) n x).getLast? = some b
 | 0, x, hx, hn => by
  obtain ⟨_, x0, x1⟩ := mCell_iff.1 (mOpen_iff.1 hx).1
  simp [way, zero_base hb x0 x1 hn]
 | n + 1, x, hx, hn => by
  obtain ⟨k1, k2, k3, k4⟩ := next_ok hb hx (n := n) (by omega)
  have := way_last hb n (nextOf W C (mFrom W C b) x) k3 k2
  rw [way, List.getLast?_cons_cons]
  exact this
theorem mWayTo_eq {W H : Int} {C : List Int} {a b : Int} (h : ¬ mDays W H C a b < 0) : mWayTo W H C a b = a :: (mWayTo W H C a b).drop 1 ∧ (mWayTo W H C a b).getLast? = some b := by
 obtain ⟨ha, hb, hr⟩ := mWay_days h
 have := way_last hb (rd (mFrom W C b) a).toNat a ha (by omega)
 unfold mWayTo
 rw [if_neg h]
 exact ⟨rfl, this⟩
def cellsOf (W H : Int) (C : List Int) : Int → List S76 → List Int
 | _, [] => []
 | a, g :: t => (mWayTo W H C a g.f0).drop 1 ++ (List.replicate g.f1.toNat g.f0 ++ cellsOf W H C g.f0 t)
def mPlanCells (W H : Int) (C : List Int) (a : Int) (l : List S76) : List Int := if mIsPlan W H C a l = true then a :: cellsOf W H C a l else []
theorem okLegs_cons {W H : Int} {C : List Int} {a : Int} {g : S76} {t : List S76} (h : okLegs W H C a (g :: t) = true) : ¬ mDays W H C a g.f0 < 0 ∧ (0 ≤ g.f1 ∧ g.f1 ≤ 30) ∧ okLegs W H C g.f0 t = true := by
 unfold okLegs at h
 by_cases h1 : mDays W H C a g.f0 < 0
 ·rw [if_pos h1] at h; cases h
 ·rw [if_neg h1] at h
  by_cases h2 : 0 ≤ g.f1 ∧ g.f1 ≤ 30
  ·rw [if_pos h2] at h; exact ⟨h1, h2, h⟩
  ·rw [if_neg h2] at h; cases h
theorem cellsOf_len (W H : Int) (C : List Int) : ∀ (l : List S76) (a : Int), okLegs W H C a l = true → (cellsOf W H C a l).length ≤ 94 * l.length
 | [], a, _ => by simp [cellsOf]
 | g :: t, a, h => by
  obtain ⟨h1, h2, h3⟩ := okLegs_cons h
  have := mWayTo_len h1
  have ih := cellsOf_len W H C t g.f0 h3
  simp only [cellsOf, List.length_append, List.length_drop, List.length_replicate, List.length_cons]
  omega
theorem mPlanCells_len (W H : Int) (C : List Int) (a : Int) (l : List S76) : (mPlanCells W H C a l).length ≤ 1000 := by
 unfold mPlanCells
 split
 ·rename_i h
  unfold mIsPlan at h
  simp only [Bool.and_eq_true, decide_eq_true_eq] at h
  have := cellsOf_len W H C l a h.2.2
  rw [List.length_cons]
  omega
 ·simp
theorem implStay_ev (W H : Int) (C : List Int) (l : List S76) (i : Nat) (hi : i ≤ 4611686018427387904) (g : S76) (R : List Int) (hs : 0 ≤ g.f1 ∧ g.f1 ≤ 30) : ∀ (n m : Nat) (out : List Int), (n : Int) + m = g.f1 → out.length + n ≤ 2000 → Ev (fun k => impl_PlanCells.l0 k g.f0 (out ++ List.replicate n g.f0) l (l.length : Int) ((i : Int) + 1) W H C) R → Ev (fun k => impl_PlanCells.l1 k out l (l.length : Int) (i : Int) g.f1 (m : Int) W H C g.f0 g.f1) R
 | 0, m, out, hn, ho, hR => by
  refine Ev.step (fun k => ?_) (by simpa using hR)
  simp only [impl_PlanCells.l1, wrapi i hi]
  rw [if_neg (by omega)]
 | n + 1, m, out, hn, ho, hR => by
  rw [List.replicate_succ, ← List.singleton_append, ← List.append_assoc] at hR
  have ih := implStay_ev W H C l i hi g R hs n (m + 1) (out ++ [g.f0]) (by omega) (by simp; omega) hR
  rw [show ((m + 1 : Nat) : Int) = (m : Int) + 1 from by omega] at ih
  refine Ev.step (fun k => ?_) ih
  simp only [impl_PlanCells.l1, wrapi m (by omega)]
  rw [if_pos (by omega), if_pos (by omega)]
theorem implCells_down (W H : Int) (C : List Int) (l : List S76) (hl : l.length ≤ 10) (hC : C.length ≤ 4611686018427387904) : ∀ (t d : List S76) (a : Int) (out : List Int), l = d ++ t → okLegs W H C a t = true → out.length ≤ 1 + 94 * d.length → Ev (fun k => impl_PlanCells.l0 k a out l (l.length : Int) (d.length : Int) W H C) (out ++ cellsOf W H C a t)
 | [], d, a, out, h, _, _ => by
  have hlen : l.length = d.length := by rw [h]; simp
  refine Ev.step (f := fun _ => some out) (fun k => ?_) (by simp only [cellsOf, List.append_nil]; exact Ev.now _)
  simp only [impl_PlanCells.l0]
  rw [if_neg (by omega)]
 | g :: t, d, a, out, h, hok, ho => by
  have hlen : l.length = d.length + (t.length + 1) := by rw [h]; simp
  have hr : rd_T76 l (d.length : Int) = g := getD_of z76 (by rw [h]; simp)
  obtain ⟨h1, h2, h3⟩ := okLegs_cons hok
  have hw := mWayTo_len h1
  have ih := implCells_down W H C l hl hC t (d ++ [g]) g.f0 ((out ++ (mWayTo W H C a g.f0).drop 1) ++ List.replicate g.f1.toNat g.f0) (by rw [h]; simp) h3 (by simp only [List.length_append, List.length_drop, List.length_replicate, List.length_singleton]; omega)
  rw [show (((d ++ [g]).length : Nat) : Int) = (d.length : Int) + 1 from by simp] at ih
  have hst := implStay_ev W H C l d.length (by omega) g _ h2 g.f1.toNat 0 (out ++ (mWayTo W H C a g.f0).drop 1) (by omega) (by simp only [List.length_append, List.length_drop]; omega) ih
  refine Ev.step (f := fun k => (impl_WayTo.f k W H C a g.f0).bind fun t212 => (if 1 ≤ (t212.length : Int) then ((some (t212.drop 1 : List Int)).bind fun y215 => (if out.length + y215.length < 17592186044416 then (impl_PlanCells.l1 k (out ++ y215) l (l.length : Int) (d.length : Int) g.f1 0 W H C g.f0 g.f1) else (none))) else (none))) (fun k => ?_) ?_
  ·simp only [impl_PlanCells.l0, hr]
   rw [if_pos (by omega), if_pos (by omega), if_pos (by omega)]
  ·refine Ev.bind (implWayTo_ev W H C a g.f0 hC) ?_
   simp only [if_pos (show (1 : Int) ≤ ((mWayTo W H C a g.f0).length : Int) from by omega), Option.bind_some]
   simp only [if_pos (show out.length + ((mWayTo W H C a g.f0).drop 1).length < 17592186044416 from by rw [List.length_drop]; omega)]
   simp only [cellsOf]
   rw [← List.append_assoc, ← List.append_assoc]
   exact hst
theorem implPlanCells_ev (W H : Int) (C : List Int) (a : Int) (l : List S76) (hl : l.length ≤ 4611686018427387904) (hC : C.length ≤ 4611686018427387904) : Ev (fun k => impl_PlanCells.f k W H C a l) (mPlanCells W H C a l) := by
 unfold impl_PlanCells.f mPlanCells
 refine Ev.bind (implIsPlan_ev W H C a l hl hC) ?_
 cases h : mIsPlan W H C a l with
 | false => simp only [Bool.false_eq_true, if_false]; exact Ev.now _
 | true =>
  simp only [if_true]
  unfold mIsPlan at h
  simp only [Bool.and_eq_true, decide_eq_true_eq] at h
  exact implCells_down W H C l (by omega) hC l [] a [a] rfl h.2.2 (by simp)
theorem specStay_ev (W H : Int) (C : List Int) (l : List S76) (i : Nat) (hi : i < l.length) (hl : l.length ≤ 10) (g : S76) (hg : rd_T76 l (i : Int) = g) (R : List Int) (hs : 0 ≤ g.f1 ∧ g.f1 ≤ 30) : ∀ (n m : Nat) (out : List Int), (n : Int) + m = g.f1 → out.length + n ≤ 2000 → Ev (fun k => spec_PlanCells.l0 k l (out ++ List.replicate n g.f0) ((i : Int) + 1) W H C) R → Ev (fun k => spec_PlanCells.l1 k l out (i : Int) (m : Int) W H C) R
 | 0, m, out, hn, ho, hR => by
  refine Ev.step (fun k => ?_) (by simpa using hR)
  simp only [spec_PlanCells.l1, wrapi i (by omega), hg]
  rw [if_pos (by omega), if_pos (by omega), if_neg (by omega)]
 | n + 1, m, out, hn, ho, hR => by
  rw [List.replicate_succ, ← List.singleton_append, ← List.append_assoc] at hR
  have ih := specStay_ev W H C l i hi hl g hg R hs n (m + 1) (out ++ [g.f0]) (by omega) (by simp; omega) hR
  rw [show ((m + 1 : Nat) : Int) = (m : Int) + 1 from by omega] at ih
  refine Ev.step (fun k => ?_) ih
  simp only [spec_PlanCells.l1, wrapi m (by omega), hg]
  rw [if_pos (by omega), if_pos (by omega), if_pos (by omega), if_pos (by omega)]
theorem last_app {α : Type} (out w : List α) (a b : α) (hw : w = a :: w.drop 1) (hl : w.getLast? = some b) (ho : out.getLast? = some a) : (out ++ w.drop 1).getLast? = some b := by
 rw [hw] at hl
 cases h : w.drop 1 with
 | nil =>
  rw [h] at hl
  simp at hl
  rw [List.append_nil, ho, hl]
 | cons y ys =>
  rw [h, List.getLast?_cons_cons] at hl
  rw [List.getLast?_append, hl]; rfl
theorem last_rep {α : Type} (out : List α) (b : α) (ho : out.getLast? = some b) : ∀ n : Nat, (out ++ List.replicate n b).getLast? = some b
 | 0 => by simpa using ho
 | n + 1 => by rw [List.replicate_succ', ← List.append_assoc]; simp
theorem specCells_down (W H : Int) (C : List Int) (l : List S76) (hl : l.length ≤ 10) (hC : C.length ≤ 4611686018427387904) : ∀ (t d : List S76) (a : Int) (out : List Int), l = d ++ t → okLegs W H C a t = true → out.length ≤ 1 + 94 * d.length → out.getLast? = some a → Ev (fun k => spec_PlanCells.l0 k l out (d.length : Int) W H C) (out ++ cellsOf W H C a t)
 | [], d, a, out, h, _, _, _ => by
  have hlen : l.length = d.length := by rw [h]; simp
  refine Ev.step (f := fun _ => some out) (fun k => ?_) (by simp only [cellsOf, List.append_nil]; exact Ev.now _)
  simp only [spec_PlanCells.l0]
  rw [if_neg (by omega)]
 | g :: t, d, a, out, h, hok, ho, hla => by
  have hlen : l.length = d.length + (t.length + 1) := by rw [h]; simp
  have hr : rd_T76 l (d.length : Int) = g := getD_of z76 (by rw [h]; simp)
  obtain ⟨h1, h2, h3⟩ := okLegs_cons hok
  have hw := mWayTo_len h1
  obtain ⟨we, wl⟩ := mWayTo_eq h1
  have hol : 0 < out.length := by
   rcases Nat.eq_zero_or_pos out.length with e | e
   ·rw [List.eq_nil_of_length_eq_zero e] at hla; cases hla
   ·exact e
  have hlr : rd out ((out.length - 1 : Nat) : Int) = a := by
   refine getD_of 0 ?_
   rw [← hla, List.getLast?_eq_getElem?]
  have hlast := last_rep _ g.f0 (last_app out _ a g.f0 we wl hla) g.f1.toNat
  have ih := specCells_down W H C l hl hC t (d ++ [g]) g.f0 ((out ++ (mWayTo W H C a g.f0).drop 1) ++ List.replicate g.f1.toNat g.f0) (by rw [h]; simp) h3 (by simp only [List.length_append, List.length_drop, List.length_replicate, List.length_singleton]; omega) hlast
  rw [show (((d ++ [g]).length : Nat) : Int) = (d.length : Int) + 1 from by simp] at ih
  have hst := specStay_ev W H C l d.length (by omega) hl g hr _ h2 g.f1.toNat 0 (out ++ (mWayTo W H C a g.f0).drop 1) (by omega) (by simp only [List.length_append, List.length_drop]; omega) ih
  refine Ev.step (f := fun k => (spec_WayTo.f k W H C a g.f0).bind fun t364 => (if 1 ≤ (t364.length : Int) then ((some (t364.drop 1 : List Int)).bind fun y367 => (if out.length + y367.length < 17592186044416 then (spec_PlanCells.l1 k l (out ++ y367) (d.length : Int) 0 W H C) else (none))) else (none))) (fun k => ?_) ?_
  ·simp only [spec_PlanCells.l0, hr, wrapd out.length hol (by omega), hlr]
   rw [if_pos (by omega), if_pos (by omega), if_pos (by omega), if_pos (by omega)]
  ·refine Ev.bind (specWayTo_ev W H C a g.f0 hC) ?_
   simp only [if_pos (show (1 : Int) ≤ ((mWayTo W H C a g.f0).length : Int) from by omega), Option.bind_some]
   simp only [if_pos (show out.length + ((mWayTo W H C a g.f0).drop 1).length < 17592186044416 from by rw [List.length_drop]; omega)]
   simp only [cellsOf]
   rw [← List.append_assoc, ← List.append_assoc]
   exact hst
theorem specPlanCells_ev (W H : Int) (C : List Int) (a : Int) (l : List S76) (hl : l.length ≤ 4611686018427387904) (hC : C.length ≤ 4611686018427387904) : Ev (fun k => spec_PlanCells.f k W H C a l) (mPlanCells W H C a l) := by
 unfold spec_PlanCells.f mPlanCells
 simp only [Option.bind_some]
 refine Ev.bind (specIsPlan_ev W H C a l hl hC) ?_
 cases h : mIsPlan W H C a l with
 | false => simp only [Bool.false_eq_true, if_false]; exact Ev.now _
 | true =>
  simp only [if_true]
  unfold mIsPlan at h
  simp only [Bool.and_eq_true, decide_eq_true_eq] at h
  simp only [List.length_nil, show (0 : Nat) < 17592186044416 from by omega, if_true]
  exact specCells_down W H C l (by omega) hC l [] a [a] rfl h.2.2 (by simp) (by simp)
def mPlanDays (W H : Int) (C : List Int) (a : Int) (l : List S76) : Int := ((mPlanCells W H C a l).length : Int) - 1
theorem implPlanDays_ev (W H : Int) (C : List Int) (a : Int) (l : List S76) (hl : l.length ≤ 4611686018427387904) (hC : C.length ≤ 4611686018427387904) : Ev (fun k => impl_PlanDays.f k W H C a l) (mPlanDays W H C a l) := by
 unfold impl_PlanDays.f
 refine Ev.bind (implPlanCells_ev W H C a l hl hC) ?_
 have := mPlanCells_len W H C a l
 simp only [wrap_id (n := ((mPlanCells W H C a l).length : Int) - 1) (by omega) (by omega)]
 exact Ev.now _
theorem specPlanDays_ev (W H : Int) (C : List Int) (a : Int) (l : List S76) (hl : l.length ≤ 4611686018427387904) (hC : C.length ≤ 4611686018427387904) : Ev (fun k => spec_PlanDays.f k W H C a l) (mPlanDays W H C a l) := by
 unfold spec_PlanDays.f
 refine Ev.bind (specPlanCells_ev W H C a l hl hC) ?_
 have := mPlanCells_len W H C a l
 simp only [wrap_id (n := ((mPlanCells W H C a l).length : Int) - 1) (by omega) (by omega)]
 exact Ev.now _
def ruleOk (m w : Int) : Prop := (1 ≤ w ∧ w ≤ 10) ∧ (0 ≤ m ∧ m ≤ w - 1)
instance (m w : Int) : Decidable (ruleOk m w) := by unfold ruleOk; infer_instance
theorem specRule_eq (m w : Int) : spec_IsRule.f m w = some (decide (ruleOk m w)) := by
 simp only [spec_IsRule.f, l1In_eq, Option.bind_some, decide_eq_true_eq]
 by_cases h : 1 ≤ w ∧ w ≤ 10
 ·rw [if_pos h, wrap_id (by omega) (by omega)]
  congr 1
  exact decide_eq_decide.2 ⟨fun q => ⟨h, q⟩, fun q => q.2⟩
 ·rw [if_neg h, decide_eq_false (fun q : ruleOk m w => h q.1)]
theorem implRule_eq (m w : Int) : impl_IsRule.f m w = some (decide (ruleOk m w)) := by
 simp only [impl_IsRule.f, InRange_eq, Option.bind_some, decide_eq_true_eq]
 by_cases h : 1 ≤ w ∧ w ≤ 10
 ·rw [if_pos h, wrap_id (by omega) (by omega)]
  congr 1
  exact decide_eq_decide.2 ⟨fun q => ⟨h, q⟩, fun q => q.2⟩
 ·rw [if_neg h, decide_eq_false (fun q : ruleOk m w => h q.1)]
def cnt (l : List Bool) : Int := ((l.filter id).length : Int)
def stepCS : Nat → Int → Bool → Int ⊕ Int := fun _ s x => .inr (if x = true then wrap64 (s + 1) else s)
theorem runCS : ∀ (l : List Bool) (i : Nat) (s : Int), 0 ≤ s → s + l.length ≤ 4611686018427387904 → run stepCS id i s l = s + cnt l
 | [], i, s, _, _ => by simp [run, cnt]
 | x :: t, i, s, h0, h1 => by
  rw [List.length_cons] at h1
  cases x with
  | true =>
   rw [run_inr (s' := s + 1) (by show Sum.inr (if true = true then wrap64 (s + 1) else s) = _; rw [if_pos rfl, wrap_id (by omega) (by omega)]), runCS t (i + 1) (s + 1) (by omega) (by omega)]
   simp only [cnt, List.filter_cons, id, if_true, List.length_cons]
   omega
  | false =>
   rw [run_inr (s' := s) rfl, runCS t (i + 1) s h0 (by omega)]
   rfl
theorem specCS_at (l : List Bool) (hl : l.length ≤ 2097152) : ∀ k, l.length < k → spec_CountStorms.f k l = some (cnt l) := by
 have h := at_loop0 (fun k s i => spec_CountStorms.l0 k l s i) l stepCS id (by omega) 0
  (fun k s => by simp only [spec_CountStorms.l0]; rw [if_neg (by omega)]; rfl)
  (fun k s i x hx hw => by
   have hi := lt_of_get hx
   have hr : rdOf false l (i : Int) = x := getD_of false hx
   simp only [spec_CountStorms.l0, hr, hw]; rw [if_pos (by omega), if_pos (by omega)]
   simp only [stepCS, Sum.elim_inr]; split <;> rfl)
 rw [runCS l 0 0 (by omega) (by omega), Int.zero_add] at h
 exact h
theorem implCS_at (l : List Bool) (hl : l.length ≤ 2097152) : ∀ k, l.length < k → impl_CountStorms.f k l = some (cnt l) := by
 have h := at_loop0 (fun k s i => impl_CountStorms.l0 k s l (l.length : Int) i) l stepCS id (by omega) 0
  (fun k s => by simp only [impl_CountStorms.l0]; rw [if_neg (by omega)]; rfl)
  (fun k s i x hx hw => by
   have hi := lt_of_get hx
   have hr : rdOf false l (i : Int) = x := getD_of false hx
   simp only [impl_CountStorms.l0, hr, hw]; rw [if_pos (by omega), if_pos (by omega), if_pos (by omega)]
   simp only [stepCS, Sum.elim_inr]; split <;> rfl)
 rw [runCS l 0 0 (by omega) (by omega), Int.zero_add] at h
 exact h
def lastN (n : Nat) (l : List Bool) : List Bool := l.drop (l.length - n)
theorem lastN_len (n : Nat) (l : List Bool) : (lastN n l).length ≤ n ∧ (lastN n l).length ≤ l.length := by
 unfold lastN
 rw [List.length_drop]
 omega
theorem lastN_snoc (n : Nat) (l : List Bool) (b : Bool) : lastN (n + 1) (l ++ [b]) = lastN n l ++ [b] := by
 unfold lastN
 rw [List.length_append, List.length_singleton, show l.length + 1 - (n + 1) = l.length - n from by omega, List.drop_append_of_le_length (by omega)]
theorem lastN_lastN (m n : Nat) (l : List Bool) (h : m ≤ n) : lastN m (lastN n l) = lastN m l := by
 unfold lastN
 rw [List.length_drop, List.drop_drop]
 congr 1
 omega
theorem implLast_eq (l : List Bool) (n : Nat) (hl : l.length ≤ 2097153) (hn : n ≤ 1000) : impl_last.f l (n : Int) = some (lastN n l) := by
 unfold impl_last.f
 rw [wrap_id (by omega) (by omega)]
 have e : mx ((l.length : Int) - (n : Int)) 0 = ((l.length - n : Nat) : Int) := by
  unfold mx
  split <;> omega
 rw [e, if_pos (by omega), if_pos (by omega), Int.toNat_natCast]
 rfl
def may (m w : Int) (l : List Bool) : Bool := decide (ruleOk m w ∧ cnt (lastN (w - 1).toNat l) < m)
theorem specMay_at (m w : Int) (l : List Bool) (hl : l.length ≤ 2097152) : ∀ k, l.length < k → spec_MayStorm.f k m w l = some (may m w l) := by
 intro k hk
 simp only [spec_MayStorm.f, specRule_eq, Option.bind_some, decide_eq_true_eq, may]
 by_cases h : ruleOk m w
 ·have hw := h.1
  rw [if_pos h, wrap_id (n := (l.length : Int) + 1) (by omega) (by omega), wrap_id (by omega) (by omega)]
  have e : spec_Max.f 0 ((l.length : Int) + 1 - w) = some ((l.length - (w - 1).toNat : Nat) : Int) := by
   unfold spec_Max.f
   by_cases c : (l.length : Int) + 1 - w > 0
   ·rw [if_pos c]
    congr 1
    omega
   ·rw [if_neg c]
    congr 1
    omega
  rw [e]
  simp only [Option.bind_some, Int.toNat_natCast]
  rw [if_pos (by omega), if_pos (by omega), specCS_at _ (by rw [List.length_drop]; omega) k (by rw [List.length_drop]; omega)]
  simp only [Option.bind_some]
  congr 1
  exact decide_eq_decide.2 ⟨fun q => ⟨h, q⟩, fun q => q.2⟩
 ·rw [if_neg h, decide_eq_false (fun q : ruleOk m w ∧ _ => h q.1)]
theorem implMay_at (m w : Int) (l : List Bool) (hl : l.length ≤ 2097152) : ∀ k, l.length < k → impl_MayStorm.f k m w l = some (may m w l) := by
 intro k hk
 simp only [impl_MayStorm.f, implRule_eq, Option.bind_some, decide_eq_true_eq, may]
 by_cases h : ruleOk m w
 ·have hw := h.1
  have e : w - 1 = ((w - 1).toNat : Int) := by omega
  have hlen := lastN_len (w - 1).toNat l
  rw [if_pos h, wrap_id (by omega) (by omega), e, implLast_eq l _ (by omega) (by omega)]
  simp only [Option.bind_some, Int.toNat_natCast]
  rw [implCS_at _ (by omega) k (by omega)]
  simp only [Option.bind_some]
  congr 1
  exact decide_eq_decide.2 ⟨fun q => ⟨h, q⟩, fun q => q.2⟩
 ·rw [if_neg h, decide_eq_false (fun q : ruleOk m w ∧ _ => h q.1)]
theorem implDay_eq (l : List Bool) (b : Bool) (hl : l.length ≤ 2097152) : impl_AddDay.f l b = some (lastN 10 (l ++ [b])) := by
 have h1 : ([] : List Bool).length + l.length < 140737488355328 := by simp; omega
 have h2 : l.length < 140737488355328 := by omega
 have h3 : ([] : List Bool).length + (lastN 10 (l ++ [b])).length < 140737488355328 := by
  have := (lastN_len 10 (l ++ [b])).1
  simp; omega
 have e := implLast_eq (l ++ [b]) 10 (by simp; omega) (by omega)
 simp only [impl_AddDay.f, Option.bind_some, h1, if_true, List.nil_append, h2, show impl_last.f (l ++ [b]) 10 = some (lastN 10 (l ++ [b])) from e, h3]
/-- Two pasts that are the same as far as a rule can see. -/
def Same (p q : List Bool) : Prop := lastN 10 p = lastN 10 q
theorem may_same {p q : List Bool} (m w : Int) (h : Same p q) : may m w p = may m w q := by
 unfold may
 by_cases r : ruleOk m w
 ·have hw := r.1
  have e : lastN (w - 1).toNat p = lastN (w - 1).toNat q := by
   rw [← lastN_lastN (w - 1).toNat 10 p (by omega), ← lastN_lastN (w - 1).toNat 10 q (by omega), h]
  rw [e]
 ·rw [decide_eq_false (fun q => r q.1), decide_eq_false (fun q => r q.1)]
theorem same_add {p q : List Bool} (b : Bool) (h : Same p q) : Same (p ++ [b]) (lastN 10 (q ++ [b])) := by
 unfold Same
 rw [lastN_lastN 10 10 _ (Nat.le_refl _), lastN_snoc 9, lastN_snoc 9, ← lastN_lastN 9 10 p (by omega), ← lastN_lastN 9 10 q (by omega), h]
theorem cnt_snoc (l : List Bool) : cnt (l ++ [true]) = cnt l + 1 := by
 unfold cnt
 simp
theorem cnt_nonneg (l : List Bool) : 0 ≤ cnt l := by
 unfold cnt
 omega
theorem cnt_tail (l : List Bool) : ∀ (j n : Nat), j ≤ n → (j : Int) ≤ cnt (lastN n (l ++ List.replicate j true))
 | 0, n, _ => cnt_nonneg _
 | j + 1, n, h => by
  obtain ⟨n, rfl⟩ : ∃ m, n = m + 1 := ⟨n - 1, by omega⟩
  rw [List.replicate_succ', ← List.append_assoc, lastN_snoc, cnt_snoc]
  have := cnt_tail l j n (by omega)
  omega
/-- After most storms in a row there is none more. -/
theorem may_end (m w : Int) (l : List Bool) (j : Nat) (hj : m ≤ j) : may m w (l ++ List.replicate j true) = false := by
 refine decide_eq_false (fun h => ?_)
 have hw := h.1
 obtain ⟨i, hi⟩ : ∃ i, j = i + m.toNat := ⟨j - m.toNat, by omega⟩
 have e : l ++ List.replicate j true = (l ++ List.replicate i true) ++ List.replicate m.toNat true := by rw [hi, ← List.replicate_append_replicate, List.append_assoc]
 have := cnt_tail (l ++ List.replicate i true) m.toNat (w - 1).toNat (by have := hw.1; have := hw.2; omega)
 rw [← e] at this
 have h2 := h.2
 have := hw.2
 omega
def okMember (l : List S112) (i : Nat) (x : S112) : Prop := (1 ≤ x.f0 ∧ x.f0 ≤ 99) ∧ (0 ≤ x.f1 ∧ x.f1 ≤ 100) ∧ (1 ≤ x.f2 ∧ x.f2 ≤ 10) ∧ (i = 0 ∨ (l.getD (i - 1) z112).f0 < x.f0)
instance (l : List S112) (i : Nat) (x : S112) : Decidable (okMember l i x) := by unfold okMember; infer_instance
def stepAC (l : List S112) : Nat → Unit → S112 → Bool ⊕ Unit := fun i _ x => if okMember l i x then .inr () else .inl false
def mAreCrew (l : List S112) : Bool := run (stepAC l) (fun _ => decide (1 ≤ (l.length : Int) ∧ (l.length : Int) ≤ 8)) 0 () l
theorem specAC_step (l : List S112) (hl : l.length ≤ 4611686018427387904) (k i : Nat) (x : S112) (hx : l[i]? = some x) : spec_AreCrew.l0 (k + 1) l (i : Int) = spec_AreCrew.j1 k l (i : Int) (!decide (okMember l i x)) := by
 have hi := lt_of_get hx
 have hr : rd_T112 l (i : Int) = x := getD_of z112 hx
 have T : okMember l i x → (!decide (okMember l i x)) = false := fun h => by rw [decide_eq_true h]; rfl
 have F : ¬ okMember l i x → (!decide (okMember l i x)) = true := fun h => by rw [decide_eq_false h]; rfl
 simp only [spec_AreCrew.l0, hr, l1In_eq, Option.bind_some, decide_eq_true_eq]; rw [if_pos (by omega), if_pos (by omega)]
 by_cases c1 : 1 ≤ x.f0 ∧ x.f0 ≤ 99
 ·by_cases c2 : 0 ≤ x.f1 ∧ x.f1 ≤ 100
  ·by_cases c3 : 1 ≤ x.f2 ∧ x.f2 ≤ 10
   ·rw [if_pos c1, if_pos c2, if_pos c3]
    rcases Nat.eq_zero_or_pos i with h0 | h0
    ·rw [if_neg (by omega), T ⟨c1, c2, c3, .inl h0⟩]
    ·have hr' : rd_T112 l ((i - 1 : Nat) : Int) = l.getD (i - 1) z112 := getD_nat ..
     rw [if_pos (by omega), wrapd i h0 (by omega), if_pos (by omega), if_pos (by omega), hr']
     by_cases c4 : (l.getD (i - 1) z112).f0 < x.f0
     ·rw [T ⟨c1, c2, c3, .inr c4⟩, decide_eq_false (by omega)]
     ·rw [F (fun h => h.2.2.2.elim (by omega) c4), decide_eq_true (by omega)]
   ·rw [if_pos c1, if_pos c2, if_neg c3, F (fun h => c3 h.2.2.1)]
  ·rw [if_pos c1, if_neg c2, F (fun h => c2 h.2.1)]
 ·rw [if_neg c1, F (fun h => c1 h.1)]
theorem specAC_down (l : List S112) (hl : l.length ≤ 4611686018427387904) : ∀ (t d : List S112), l = d ++ t → Ev (fun k => spec_AreCrew.l0 k l (d.length : Int)) (run (stepAC l) (fun _ => decide (1 ≤ (l.length : Int) ∧ (l.length : Int) ≤ 8)) d.length () t)
 | [], d, h => by
  have hlen : l.length = d.length := by rw [h]; simp
  refine Ev.step (f := fun _ => some (decide (1 ≤ (l.length : Int) ∧ (l.length : Int) ≤ 8))) (fun k => ?_) (Ev.now _)
  simp only [spec_AreCrew.l0]; rw [if_neg (by omega)]; simp only [l1In_eq, Option.bind_some]
 | x :: t, d, h => by
  have hlen : l.length = d.length + (t.length + 1) := by rw [h]; simp
  have hx : l[d.length]? = some x := by rw [h]; simp
  have ih := specAC_down l hl t (d ++ [x]) (by rw [h]; simp)
  rw [List.length_append, List.length_singleton, show ((d.length + 1 : Nat) : Int) = (d.length : Int) + 1 from by omega] at ih
  refine Ev.step (fun k => specAC_step l hl k d.length x hx) ?_
  by_cases c : okMember l d.length x
  ·rw [run_inr (s' := ()) (show stepAC l d.length () x = .inr () from if_pos c)]
   simp only [decide_eq_true c, Bool.not_true]
   refine Ev.step (fun k => ?_) ih
   simp only [spec_AreCrew.j1, Bool.false_eq_true, if_false, wrapi d.length (by omega)]
  ·rw [run_inl (show stepAC l d.length () x = .inl false from if_neg c)]
   simp only [decide_eq_false c, Bool.not_false]
   exact Ev.step (f := fun _ => some false) (fun k => by simp [spec_AreCrew.j1]) (Ev.now _)
theorem specAC_ev (l : List S112) (hl : l.length ≤ 4611686018427387904) : Ev (fun k => spec_AreCrew.f k l) (mAreCrew l) := specAC_down l hl l [] rfl
theorem implAC_step (l : List S112) (hl : l.length ≤ 4611686018427387904) (k i : Nat) (x : S112) (hx : l[i]? = some x) : impl_AreCrew.l0 (k + 1) l l (l.length : Int) (i : Int) = impl_AreCrew.j1 k l l (l.length : Int) (i : Int) (!decide (okMember l i x)) := by
 have hi := lt_of_get hx
 have hr : rd_T112 l (i : Int) = x := getD_of z112 hx
 have T : okMember l i x → (!decide (okMember l i x)) = false := fun h => by rw [decide_eq_true h]; rfl
 have F : ¬ okMember l i x → (!decide (okMember l i x)) = true := fun h => by rw [decide_eq_false h]; rfl
 simp only [impl_AreCrew.l0, hr, InRange_eq, Option.bind_some, decide_eq_true_eq]; rw [if_pos (by omega), if_pos (by omega), if_pos (by omega)]
 by_cases c1 : 1 ≤ x.f0 ∧ x.f0 ≤ 99
 ·rw [if_pos c1]
  rcases Nat.eq_zero_or_pos i with h0 | h0
  ·rw [if_neg (by omega)]
   by_cases c2 : 0 ≤ x.f1 ∧ x.f1 ≤ 100
   ·rw [if_pos c2]
    by_cases c3 : 1 ≤ x.f2 ∧ x.f2 ≤ 10
    ·rw [T ⟨c1, c2, c3, .inl h0⟩, decide_eq_true c3]; rfl
    ·rw [F (fun h => c3 h.2.2.1), decide_eq_false c3]; rfl
   ·rw [if_neg c2, F (fun h => c2 h.2.1)]
  ·have hr' : rd_T112 l ((i - 1 : Nat) : Int) = l.getD (i - 1) z112 := getD_nat ..
   rw [if_pos (by omega), wrapd i h0 (by omega), if_pos (by omega), if_pos (by omega), hr']
   by_cases c4 : (l.getD (i - 1) z112).f0 < x.f0
   ·rw [if_neg (by omega)]
    by_cases c2 : 0 ≤ x.f1 ∧ x.f1 ≤ 100
    ·rw [if_pos c2]
     by_cases c3 : 1 ≤ x.f2 ∧ x.f2 ≤ 10
     ·rw [T ⟨c1, c2, c3, .inr c4⟩, decide_eq_true c3]; rfl
     ·rw [F (fun h => c3 h.2.2.1), decide_eq_false c3]; rfl
    ·rw [if_neg c2, F (fun h => c2 h.2.1)]
   ·rw [if_pos (by omega), F (fun h => h.2.2.2.elim (by omega) c4)]
 ·rw [if_neg c1, F (fun h => c1 h.1)]
theorem implAC_down (l : List S112) (hl : l.length ≤ 4611686018427387904) : ∀ (t d : List S112), l = d ++ t → Ev (fun k => impl_AreCrew.l0 k l l (l.length : Int) (d.length : Int)) (run (stepAC l) (fun _ => decide (1 ≤ (l.length : Int) ∧ (l.length : Int) ≤ 8)) d.length () t)
 | [], d, h => by
  have hlen : l.length = d.length := by rw [h]; simp
  refine Ev.step (f := fun _ => some (decide (1 ≤ (l.length : Int) ∧ (l.length : Int) ≤ 8))) (fun k => ?_) (Ev.now _)
  simp only [impl_AreCrew.l0]; rw [if_neg (by omega)]; simp only [InRange_eq, Option.bind_some]
 | x :: t, d, h => by
  have hlen : l.length = d.length + (t.length + 1) := by rw [h]; simp
  have hx : l[d.length]? = some x := by rw [h]; simp
  have ih := implAC_down l hl t (d ++ [x]) (by rw [h]; simp)
  rw [List.length_append, List.length_singleton, show ((d.length + 1 : Nat) : Int) = (d.length : Int) + 1 from by omega] at ih
  refine Ev.step (fun k => implAC_step l hl k d.length x hx) ?_
  by_cases c : okMember l d.length x
  ·rw [run_inr (s' := ()) (show stepAC l d.length () x = .inr () from if_pos c)]
   simp only [decide_eq_true c, Bool.not_true]
   refine Ev.step (fun k => ?_) ih
   simp only [impl_AreCrew.j1, Bool.false_eq_true, if_false, wrapi d.length (by omega)]
  ·rw [run_inl (show stepAC l d.length () x = .inl false from if_neg c)]
   simp only [decide_eq_false c, Bool.not_false]
   exact Ev.step (f := fun _ => some false) (fun k => by simp [impl_AreCrew.j1]) (Ev.now _)
theorem implAC_ev (l : List S112) (hl : l.length ≤ 4611686018427387904) : Ev (fun k => impl_AreCrew.f k l) (mAreCrew l) := implAC_down l hl l [] rfl
/-- What a crew is, member by member. -/
theorem runAC_iff (l0 : List S112) (b : Bool) : ∀ (t d : List S112), l0 = d ++ t → (run (stepAC l0) (fun _ => b) d.length () t = true ↔ (∀ i x, d.length ≤ i → l0[i]? = some x → okMember l0 i x) ∧ b = true)
 | [], d, h => by
  rw [run_nil]
  refine ⟨fun hb => ⟨fun i x hi hx => ?_, hb⟩, fun hb => hb.2⟩
  have := lt_of_get hx
  rw [h] at this
  simp at this
  omega
 | x :: t, d, h => by
  have hx : l0[d.length]? = some x := by rw [h]; simp
  by_cases c : okMember l0 d.length x
  ·rw [run_inr (show stepAC l0 d.length () x = .inr () from if_pos c)]
   have ih := runAC_iff l0 b t (d ++ [x]) (by rw [h]; simp)
   rw [List.length_append, List.length_singleton] at ih
   rw [ih]
   refine ⟨fun hb => ⟨fun i y hi hy => ?_, hb.2⟩, fun hb => ⟨fun i y hi hy => hb.1 i y (by omega) hy, hb.2⟩⟩
   rcases Nat.lt_or_ge d.length i with h1 | h1
   ·exact hb.1 i y (by omega) hy
   ·obtain rfl : i = d.length := by omega
    rw [hx] at hy
    injection hy with hy
    exact hy ▸ c
  ·rw [run_inl (show stepAC l0 d.length () x = .inl false from if_neg c)]
   exact ⟨fun hb => (by cases hb), fun hb => absurd (hb.1 d.length x (Nat.le_refl _) hx) c⟩
theorem mAreCrew_iff (l : List S112) : mAreCrew l = true ↔ (∀ i x, l[i]? = some x → okMember l i x) ∧ 1 ≤ l.length ∧ l.length ≤ 8 := by
 have h := runAC_iff l (decide (1 ≤ (l.length : Int) ∧ (l.length : Int) ≤ 8)) l [] rfl
 unfold mAreCrew
 rw [List.length_nil] at h
 rw [h, decide_eq_true_eq]
 exact ⟨fun h => ⟨fun i x hx => h.1 i x (Nat.zero_le _) hx, by omega⟩, fun h => ⟨fun i x _ hx => h.1 i x hx, by omega⟩⟩
theorem crew_member {l : List S112} (h : mAreCrew l = true) {x : S112} (hx : x ∈ l) : (1 ≤ x.f0 ∧ x.f0 ≤ 99) ∧ (0 ≤ x.f1 ∧ x.f1 ≤ 100) ∧ (1 ≤ x.f2 ∧ x.f2 ≤ 10) := by
 obtain ⟨i, hi, he⟩ := List.getElem_of_mem hx
 have := ((mAreCrew_iff l).1 h).1 i x (by rw [List.getElem?_eq_getElem hi, he])
 exact ⟨this.1, this.2.1, this.2.2.1⟩
def needSum (l : List S112) : Int := l.foldl (fun s x => s + x.f2) 0
theorem foldNeed (l : List S112) : ∀ s : Int, l.foldl (fun s x => s + x.f2) s = s + needSum l := by
 unfold needSum
 induction l with
 | nil => intro s; simp
 | cons x t ih => intro s; simp only [List.foldl_cons]; rw [ih (s + x.f2), ih (0 + x.f2)]; omega
theorem needSum_le (l : List S112) (h : ∀ x ∈ l, 1 ≤ x.f2 ∧ x.f2 ≤ 10) : (l.length : Int) ≤ needSum l ∧ needSum l ≤ 10 * l.length := by
 induction l with
 | nil => simp [needSum]
 | cons x t ih =>
  have h1 := h x (by simp)
  have h2 := ih (fun y hy => h y (by simp [hy]))
  have h3 : needSum (x :: t) = x.f2 + needSum t := by
   unfold needSum
   rw [List.foldl_cons, foldNeed t (0 + x.f2)]
   show 0 + x.f2 + needSum t = x.f2 + needSum t
   omega
  rw [h3, List.length_cons]
  omega
def mNeedOf (l : List S112) : Int := if mAreCrew l = true then needSum l else 0
def stepNeed : Nat → Int → S112 → Int ⊕ Int := fun _ s x => .inr (wrap64 (s + x.f2))
theorem runNeed : ∀ (l : List S112) (i : Nat) (s : Int), (∀ x ∈ l, 1 ≤ x.f2 ∧ x.f2 ≤ 10) → 0 ≤ s → s + 10 * l.length ≤ 4611686018427387904 → run stepNeed id i s l = s + needSum l
 | [], i, s, _, _, _ => by simp [run, needSum]
 | x :: t, i, s, h, h0, h1 => by
  have hx := h x (by simp)
  rw [List.length_cons] at h1
  rw [run_inr (s' := s + x.f2) (by show Sum.inr (wrap64 (s + x.f2)) = _; rw [wrap_id (by omega) (by omega)]), runNeed t (i + 1) (s + x.f2) (fun y hy => h y (by simp [hy])) (by omega) (by omega)]
  unfold needSum
  rw [List.foldl_cons, foldNeed t (0 + x.f2)]
  show _ = s + (0 + x.f2 + needSum t)
  unfold needSum
  omega
theorem mNeedOf_range (l : List S112) : 0 ≤ mNeedOf l ∧ mNeedOf l ≤ 80 := by
 unfold mNeedOf
 split
 ·rename_i h
  have h1 := needSum_le l (fun x hx => (crew_member h hx).2.2)
  have h2 := ((mAreCrew_iff l).1 h).2
  omega
 ·omega
theorem specNeedOf_ev (l : List S112) (hl : l.length ≤ 1048576) : Ev (fun k => spec_NeedOf.f k l) (mNeedOf l) := by
 obtain ⟨K, hK0⟩ := specAC_ev l (by omega)
 have hK : ∀ k, K ≤ k → spec_AreCrew.f k l = some (mAreCrew l) := hK0
 cases hc : mAreCrew l with
 | false =>
  refine ⟨K + 1, fun k hk => ?_⟩
  obtain ⟨k, rfl⟩ : ∃ m, k = m + 1 := ⟨k - 1, by omega⟩
  simp only [spec_NeedOf.f, spec_NeedOf.l0, mNeedOf, hc]
  by_cases h : (0 : Int) < (l.length : Int)
  ·rw [if_pos h, hK k (by omega)]
   simp [hc]
  ·rw [if_neg h]
   simp
 | true =>
  have h := at_loop (fun k s i => spec_NeedOf.l0 k l s i) l stepNeed id (by omega) 0 K
   (fun k s _ => by simp only [spec_NeedOf.l0]; rw [if_neg (by omega)]; rfl)
   (fun k s i x hk hx hw => by
    have hi := lt_of_get hx
    have hr : rd_T112 l (i : Int) = x := getD_of z112 hx
    simp only [spec_NeedOf.l0, hr, hw, hK k hk, hc, Option.bind_some, if_true]; rw [if_pos (by omega), if_pos (by omega)]
    rfl)
  refine ev_at (K := l.length + K) (fun k hk => ?_)
  show spec_NeedOf.l0 k l 0 0 = _
  rw [h k hk, runNeed l 0 0 (fun x hx => (crew_member hc hx).2.2) (by omega) (by have := ((mAreCrew_iff l).1 hc).2; omega), mNeedOf, if_pos hc, Int.zero_add]
theorem implNeedOf_ev (l : List S112) (hl : l.length ≤ 1048576) : Ev (fun k => impl_NeedOf.f k l) (mNeedOf l) := by
 unfold impl_NeedOf.f
 refine Ev.bind (implAC_ev l (by omega)) ?_
 unfold mNeedOf
 cases hc : mAreCrew l with
 | false => simp only [Bool.false_eq_true, if_false]; exact Ev.now _
 | true =>
  simp only [if_true]
  have h := at_loop0 (fun k s i => impl_NeedOf.l0 k s l (l.length : Int) i) l stepNeed id (by omega) 0
   (fun k s => by simp only [impl_NeedOf.l0]; rw [if_neg (by omega)]; rfl)
   (fun k s i x hx hw => by
    have hi := lt_of_get hx
    have hr : rd_T112 l (i : Int) = x := getD_of z112 hx
    simp only [impl_NeedOf.l0, hr, hw]; rw [if_pos (by omega), if_pos (by omega), if_pos (by omega)]
    rfl)
  refine ev_at (K := l.length) (fun k hk => ?_)
  rw [h k hk, runNeed l 0 0 (fun x hx => (crew_member hc hx).2.2) (by omega) (by have := ((mAreCrew_iff l).1 hc).2; omega), Int.zero_add]
/-! ### Days at worst: a storm wherever there may be one -/
def wdIn (F : List Bool → Int) (m w : Int) : Nat → List Bool → Int
 | 0, l => 1 + F (l ++ [false])
 | d + 1, l => if may m w l = true then 1 + wdIn F m w d (l ++ [true]) else 1 + F (l ++ [false])
def wd (m w : Int) : Nat → List Bool → Int
 | 0, _ => 0
 | n + 1, l => wdIn (wd m w n) m w m.toNat l
theorem wdIn_succ (F : List Bool → Int) (m w : Int) (d : Nat) (l : List Bool) : wdIn F m w (d + 1) l = if may m w l = true then 1 + wdIn F m w d (l ++ [true]) else 1 + F (l ++ [false]) := rfl
theorem wdIn_range (F : List Bool → Int) (m w A B : Int) (hF : ∀ l, A ≤ F l ∧ F l ≤ B) : ∀ (d : Nat) (l : List Bool), A + 1 ≤ wdIn F m w d l ∧ wdIn F m w d l ≤ B + d + 1
 | 0, l => by
  have := hF (l ++ [false])
  show A + 1 ≤ 1 + F (l ++ [false]) ∧ 1 + F (l ++ [false]) ≤ B + ((0 : Nat) : Int) + 1
  omega
 | d + 1, l => by
  have h1 := hF (l ++ [false])
  have h2 := wdIn_range F m w A B hF d (l ++ [true])
  rw [wdIn_succ]
  split <;> omega
theorem wd_range (m w : Int) (hm : m ≤ 9) : ∀ (n : Nat) (l : List Bool), (n : Int) ≤ wd m w n l ∧ wd m w n l ≤ 11 * n
 | 0, _ => ⟨Int.le_refl _, Int.le_refl _⟩
 | n + 1, l => by
  have := wdIn_range (wd m w n) m w n (11 * n) (wd_range m w hm n) m.toNat l
  show ((n + 1 : Nat) : Int) ≤ wdIn (wd m w n) m w m.toNat l ∧ wdIn (wd m w n) m w m.toNat l ≤ 11 * ((n + 1 : Nat) : Int)
  omega
def mWorst (m w : Int) (l : List Bool) (n : Int) : Int := if ruleOk m w ∧ (0 ≤ n ∧ n ≤ 200) ∧ l.length ≤ 400 then wd m w n.toNat l else -1
theorem implWD_in (m w : Int) (n : Nat) (past : List Bool) (hm : m ≤ 9)
  (hF : ∀ (l q : List Bool) (acc : Int), Same l q → q.length ≤ 1048576 → 0 ≤ acc → acc + 12 * (n : Int) ≤ 1000000 → Ev (fun k => impl_WorstDays.l0 k q (n : Int) acc m w) (acc + wd m w n l)) (hn : n ≤ 200) :
  ∀ (d j : Nat) (q : List Bool) (acc : Int), m.toNat ≤ j + d → Same (past ++ List.replicate j true) q → q.length ≤ 1048576 → 0 ≤ acc → acc + d + 1 + 12 * (n : Int) ≤ 1000000 →
  Ev (fun k => impl_WorstDays.l0 k q ((n : Int) + 1) acc m w) (acc + wdIn (wd m w n) m w d (past ++ List.replicate j true))
 | d, j, q, acc, h, hs, hq, h0, h1 => by
  have e : (past ++ List.replicate j true) ++ [true] = past ++ List.replicate (j + 1) true := by rw [List.replicate_succ', List.append_assoc]
  have l1 := (lastN_len 10 (q ++ [false])).1
  have l2 := (lastN_len 10 (q ++ [true])).1
  have wa : wrap64 (acc + 1) = acc + 1 := wrap_id (by omega) (by omega)
  have wn : wrap64 (((n : Int) + 1) - 1) = (n : Int) := by rw [wrap_id (by omega) (by omega)]; omega
  refine Ev.step (f := fun k => (impl_MayStorm.f k m w q).bind fun t241 => (if t241 = true then (impl_WorstDays.l0 k (lastN 10 (q ++ [t241])) ((n : Int) + 1) (acc + 1) m w) else (impl_WorstDays.l0 k (lastN 10 (q ++ [t241])) (n : Int) (acc + 1) m w))) (fun k => ?_) ?_
  ·simp only [impl_WorstDays.l0, implDay_eq q _ (show q.length ≤ 2097152 by omega), Option.bind_some, wa, wn]
   rw [if_pos (by omega)]
  refine Ev.bind (ev_at (implMay_at m w q (by omega))) ?_
  rw [← may_same m w hs]
  have calm : Ev (fun k => impl_WorstDays.l0 k (lastN 10 (q ++ [false])) (n : Int) (acc + 1) m w) (acc + (1 + wd m w n ((past ++ List.replicate j true) ++ [false]))) := by
   have := hF ((past ++ List.replicate j true) ++ [false]) (lastN 10 (q ++ [false])) (acc + 1) (same_add false hs) (by omega) (by omega) (by omega)
   rw [show acc + (1 + wd m w n ((past ++ List.replicate j true) ++ [false])) = acc + 1 + wd m w n ((past ++ List.replicate j true) ++ [false]) from by omega]
   exact this
  match d, h, h1 with
  | 0, h, h1 =>
   simp only [may_end m w past j (by omega), Bool.false_eq_true, if_false]
   exact calm
  | d + 1, h, h1 =>
   rw [wdIn_succ]
   by_cases c : may m w (past ++ List.replicate j true) = true
   ·have hs' := same_add true hs
    rw [e] at hs'
    have ih := implWD_in m w n past hm hF hn d (j + 1) (lastN 10 (q ++ [true])) (acc + 1) (by omega) hs' (by omega) (by omega) (by omega)
    simp only [if_pos c]
    simp only [c, e]
    rw [show acc + (1 + wdIn (wd m w n) m w d (past ++ List.replicate (j + 1) true)) = acc + 1 + wdIn (wd m w n) m w d (past ++ List.replicate (j + 1) true) from by omega]
    exact ih
   ·have c' : may m w (past ++ List.replicate j true) = false := by
     cases h' : may m w (past ++ List.replicate j true) with
     | false => rfl
     | true => exact absurd h' c
    simp only [c', Bool.false_eq_true, if_false]
    exact calm
theorem implWD_down (m w : Int) (hm : m ≤ 9) : ∀ (n : Nat) (l q : List Bool) (acc : Int), n ≤ 201 → Same l q → q.length ≤ 1048576 → 0 ≤ acc → acc + 12 * (n : Int) ≤ 1000000 → Ev (fun k => impl_WorstDays.l0 k q (n : Int) acc m w) (acc + wd m w n l)
 | 0, l, q, acc, _, _, _, _, _ => by
  refine Ev.step (f := fun _ => some acc) (fun k => ?_) (by rw [show acc + wd m w 0 l = acc from by show acc + 0 = acc; omega]; exact Ev.now _)
  simp only [impl_WorstDays.l0]
  rw [if_neg (by omega)]
 | n + 1, l, q, acc, hn, hs, hq, h0, h1 => by
  have := implWD_in m w n l hm (fun l' q' a h2 h3 h4 h5 => implWD_down m w hm n l' q' a (by omega) h2 h3 h4 h5) (by omega) m.toNat 0 q acc (by omega) (by rw [List.replicate_zero, List.append_nil]; exact hs) hq h0 (by omega)
  rw [List.replicate_zero, List.append_nil] at this
  exact this
theorem implWD_ev (m w : Int) (l : List Bool) (n : Int) (hl : l.length ≤ 1048576) : Ev (fun k => impl_WorstDays.f k m w l n) (mWorst m w l n) := by
 unfold mWorst
 have hb : Ev (fun k => impl_WorstDays.j0 k l n true m w) (-1) := Ev.step (f := fun _ => some (-1)) (fun k => by simp [impl_WorstDays.j0]) (Ev.now _)
 simp only [impl_WorstDays.f, implRule_eq, Option.bind_some, InRange_eq, decide_eq_true_eq]
 by_cases r : ruleOk m w
 ·simp only [if_pos r]
  have hm := r.2
  have hw := r.1
  by_cases h : 0 ≤ n ∧ n ≤ 200
  ·simp only [if_pos h]
   by_cases hp : l.length ≤ 400
   ·rw [if_pos ⟨r, h, hp⟩, decide_eq_false (show ¬ (l.length : Int) > 400 from by omega)]
    have := implWD_down m w (by omega) n.toNat l l 0 (by omega) rfl hl (by omega) (by omega)
    rw [Int.zero_add, show ((n.toNat : Nat) : Int) = n from by omega] at this
    refine Ev.step (fun k => ?_) this
    simp only [impl_WorstDays.j0, Bool.false_eq_true, if_false]
   ·rw [if_neg (fun q => hp q.2.2), decide_eq_true (show (l.length : Int) > 400 from by omega)]
    exact hb
  ·simp only [if_neg h]
   rw [if_neg (fun q => h q.2.1)]
   exact hb
 ·simp only [if_neg r]
  rw [if_neg (fun q => r q.1)]
  exact hb
theorem specWD_in (m w : Int) (n : Nat) (l0 past : List Bool) (hm : m ≤ 9) (hl0 : l0.length ≤ 1000)
  (hF : ∀ (l : List Bool), l0.length ≤ l.length → l.length + 12 * n ≤ 10000 → Ev (fun k => spec_WorstDays.l0 k l0 (n : Int) l m w) ((l.length : Int) - (l0.length : Int) + wd m w n l)) (hn : n ≤ 200) :
  ∀ (d j : Nat), m.toNat ≤ j + d → l0.length ≤ past.length + j → past.length + j + d + 1 + 12 * n ≤ 10000 →
  Ev (fun k => spec_WorstDays.l0 k l0 ((n : Int) + 1) (past ++ List.replicate j true) m w) ((past.length : Int) + j - (l0.length : Int) + wdIn (wd m w n) m w d (past ++ List.replicate j true))
 | d, j, h, h0, h1 => by
  have hlen : (past ++ List.replicate j true).length = past.length + j := by simp
  have e : (past ++ List.replicate j true) ++ [true] = past ++ List.replicate (j + 1) true := by rw [List.replicate_succ', List.append_assoc]
  have wn : wrap64 (((n : Int) + 1) - 1) = (n : Int) := by rw [wrap_id (by omega) (by omega)]; omega
  refine Ev.step (f := fun k => (spec_MayStorm.f k m w (past ++ List.replicate j true)).bind fun t479 => (if t479 = true then (spec_WorstDays.l0 k l0 ((n : Int) + 1) ((past ++ List.replicate j true) ++ [t479]) m w) else (spec_WorstDays.l0 k l0 (n : Int) ((past ++ List.replicate j true) ++ [t479]) m w))) (fun k => ?_) ?_
  ·simp only [spec_WorstDays.l0, Option.bind_some, wn, if_pos (show (past ++ List.replicate j true).length < 140737488355328 from by omega)]
   rw [if_pos (by omega)]
  refine Ev.bind (ev_at (specMay_at m w _ (by omega))) ?_
  have calm : Ev (fun k => spec_WorstDays.l0 k l0 (n : Int) ((past ++ List.replicate j true) ++ [false]) m w) ((past.length : Int) + j - (l0.length : Int) + (1 + wd m w n ((past ++ List.replicate j true) ++ [false]))) := by
   have := hF ((past ++ List.replicate j true) ++ [false]) (by rw [List.length_append, hlen]; simp; omega) (by rw [List.length_append, hlen, List.length_singleton]; omega)
   have e2 : ((((past ++ List.replicate j true) ++ [false]).length : Nat) : Int) = (past.length : Int) + j + 1 := by rw [List.length_append, hlen, List.length_singleton]; omega
   rw [e2] at this
   rw [show (past.length : Int) + j - (l0.length : Int) + (1 + wd m w n ((past ++ List.replicate j true) ++ [false])) = (past.length : Int) + j + 1 - (l0.length : Int) + wd m w n ((past ++ List.replicate j true) ++ [false]) from by omega]
   exact this
  match d, h, h1 with
  | 0, h, h1 =>
   simp only [may_end m w past j (by omega), Bool.false_eq_true, if_false]
   exact calm
  | d + 1, h, h1 =>
   rw [wdIn_succ]
   by_cases c : may m w (past ++ List.replicate j true) = true
   ·have ih := specWD_in m w n l0 past hm hl0 hF hn d (j + 1) (by omega) (by omega) (by omega)
    simp only [if_pos c]
    simp only [c, e]
    rw [show (past.length : Int) + j - (l0.length : Int) + (1 + wdIn (wd m w n) m w d (past ++ List.replicate (j + 1) true)) = (past.length : Int) + ((j + 1 : Nat) : Int) - (l0.length : Int) + wdIn (wd m w n) m w d (past ++ List.replicate (j + 1) true) from by omega]
    exact ih
   ·have c' : may m w (past ++ List.replicate j true) = false := by
     cases h' : may m w (past ++ List.replicate j true) with
     | false => rfl
     | true => exact absurd h' c
    simp only [c', Bool.false_eq_true, if_false]
    exact calm
theorem specWD_down (m w : Int) (hm : m ≤ 9) (l0 : List Bool) (hl0 : l0.length ≤ 1000) : ∀ (n : Nat) (l : List Bool), n ≤ 201 → l0.length ≤ l.length → l.length + 12 * n ≤ 10000 → Ev (fun k => spec_WorstDays.l0 k l0 (n : Int) l m w) ((l.length : Int) - (l0.length : Int) + wd m w n l)
 | 0, l, _, h0, h1 => by
  refine Ev.step (f := fun _ => some ((l.length : Int) - (l0.length : Int))) (fun k => ?_) (by rw [show (l.length : Int) - (l0.length : Int) + wd m w 0 l = (l.length : Int) - (l0.length : Int) from by show _ + 0 = _; omega]; exact Ev.now _)
  simp only [spec_WorstDays.l0, wrap_id (n := (l.length : Int) - (l0.length : Int)) (by omega) (by omega)]
  rw [if_neg (by omega)]
 | n + 1, l, hn, h0, h1 => by
  have := specWD_in m w n l0 l hm hl0 (fun l' h2 h3 => specWD_down m w hm l0 hl0 n l' (by omega) h2 h3) (by omega) m.toNat 0 (by omega) (by omega) (by omega)
  rw [List.replicate_zero, List.append_nil, show (l.length : Int) + ((0 : Nat) : Int) - (l0.length : Int) = (l.length : Int) - (l0.length : Int) from by omega] at this
  exact this
theorem specWD_ev (m w : Int) (l : List Bool) (n : Int) (hl : l.length ≤ 1048576) : Ev (fun k => spec_WorstDays.f k m w l n) (mWorst m w l n) := by
 unfold mWorst
 have hb : Ev (fun k => spec_WorstDays.j0 k l n true m w) (-1) := Ev.step (f := fun _ => some (-1)) (fun k => by simp [spec_WorstDays.j0]) (Ev.now _)
 simp only [spec_WorstDays.f, specRule_eq, Option.bind_some, l1In_eq, decide_eq_true_eq]
 by_cases r : ruleOk m w
 ·simp only [if_pos r]
  have hm := r.2
  have hw := r.1
  by_cases h : 0 ≤ n ∧ n ≤ 200
  ·simp only [if_pos h]
   by_cases hp : l.length ≤ 400
   ·rw [if_pos ⟨r, h, hp⟩, decide_eq_false (show ¬ (l.length : Int) > 400 from by omega)]
    have := specWD_down m w (by omega) l (by omega) n.toNat l (by omega) (Nat.le_refl _) (by omega)
    rw [show (l.length : Int) - (l.length : Int) + wd m w n.toNat l = wd m w n.toNat l from by omega, show ((n.toNat : Nat) : Int) = n from by omega] at this
    refine Ev.step (fun k => ?_) this
    simp only [spec_WorstDays.j0, Bool.false_eq_true, if_false, Option.bind_some, List.nil_append, List.length_nil]
    rw [if_pos (by omega)]
   ·rw [if_neg (fun q => hp q.2.2), decide_eq_true (show (l.length : Int) > 400 from by omega)]
    exact hb
  ·simp only [if_neg h]
   rw [if_neg (fun q => h q.2.1)]
   exact hb
 ·simp only [if_neg r]
  rw [if_neg (fun q => r q.1)]
  exact hb
def mPlanFood (W H : Int) (C : List Int) (a : Int) (l : List S76) (m w : Int) (xs : List S112) (ps : List Bool) : Int := if mPlanDays W H C a l < 0 ∨ ¬ mAreCrew xs = true ∨ mWorst m w ps (mPlanDays W H C a l) < 0 then -1 else mWorst m w ps (mPlanDays W H C a l) * mNeedOf xs
theorem mWorst_range (m w : Int) (ps : List Bool) (d : Int) : mWorst m w ps d = -1 ∨ (d ≤ mWorst m w ps d ∧ 0 ≤ d ∧ mWorst m w ps d ≤ 2200) := by
 unfold mWorst
 by_cases h : ruleOk m w ∧ (0 ≤ d ∧ d ≤ 200) ∧ ps.length ≤ 400
 ·rw [if_pos h]
  have hm := h.1.2
  have hw := h.1.1
  have := wd_range m w (by omega) d.toNat ps
  exact .inr ⟨by omega, h.2.1.1, by omega⟩
 ·rw [if_neg h]; exact .inl rfl
theorem food_range (m w : Int) (ps : List Bool) (d : Int) (xs : List S112) (h : ¬ mWorst m w ps d < 0) : 0 ≤ mWorst m w ps d * mNeedOf xs ∧ mWorst m w ps d * mNeedOf xs ≤ 176000 := by
 have hn := mNeedOf_range xs
 have hw := mWorst_range m w ps d
 refine ⟨Int.mul_nonneg (by omega) hn.1, ?_⟩
 have q1 : mWorst m w ps d * mNeedOf xs ≤ 2200 * mNeedOf xs := Int.mul_le_mul_of_nonneg_right (by omega) hn.1
 omega
theorem implPF_ev (W H : Int) (C : List Int) (a : Int) (l : List S76) (m w at_ food : Int) (xs : List S112) (ps : List Bool) (hl : l.length ≤ 1048576) (hC : C.length ≤ 1048576) (hx : xs.length ≤ 1048576) (hp : ps.length ≤ 1048576) : Ev (fun k => impl_PlanFood.f k W H C a l m w at_ food xs ps) (mPlanFood W H C a l m w xs ps) := by
 unfold impl_PlanFood.f mPlanFood
 have hno : ∀ d : Int, Ev (fun k => impl_PlanFood.j0 k d true m w at_ food xs ps) (-1) := fun d => Ev.step (f := fun _ => some (-1)) (fun k => by simp [impl_PlanFood.j0]) (Ev.now _)
 refine Ev.bind (implPlanDays_ev W H C a l (by omega) (by omega)) ?_
 by_cases h1 : mPlanDays W H C a l < 0
 ·simp only [if_pos h1]
  rw [if_pos (.inl h1)]
  exact hno _
 ·simp only [if_neg h1]
  refine Ev.bind (implAC_ev xs (by omega)) ?_
  cases h2 : mAreCrew xs with
  | false =>
   rw [if_pos (.inr (.inl (by decide)))]
   exact hno _
  | true =>
   refine Ev.step (f := fun k => (impl_WorstDays.f k m w ps (mPlanDays W H C a l)).bind fun t635 => (if t635 < 0 then (some (-1)) else ((impl_NeedOf.f k xs).bind fun t636 => (some (wrap64 (t635 * t636)))))) (fun k => by simp [impl_PlanFood.j0]) ?_
   refine Ev.bind (implWD_ev m w ps _ hp) ?_
   by_cases h3 : mWorst m w ps (mPlanDays W H C a l) < 0
   ·simp only [if_pos h3]
    rw [if_pos (.inr (.inr h3))]
    exact Ev.now _
   ·simp only [if_neg h3]
    rw [if_neg (fun q => q.elim h1 (fun q => q.elim (fun q => q trivial) h3))]
    refine Ev.bind (implNeedOf_ev xs (by omega)) ?_
    have hpr := food_range m w ps (mPlanDays W H C a l) xs h3
    rw [wrap_id (by omega) (by omega)]
    exact Ev.now _
theorem specPF_ev (W H : Int) (C : List Int) (a : Int) (l : List S76) (m w at_ food : Int) (xs : List S112) (ps : List Bool) (hl : l.length ≤ 1048576) (hC : C.length ≤ 1048576) (hx : xs.length ≤ 1048576) (hp : ps.length ≤ 1048576) : Ev (fun k => spec_PlanFood.f k W H C a l m w at_ food xs ps) (mPlanFood W H C a l m w xs ps) := by
 unfold spec_PlanFood.f mPlanFood
 have hno : ∀ d : Int, Ev (fun k => spec_PlanFood.j0 k d true m w at_ food xs ps) (-1) := fun d => Ev.step (f := fun _ => some (-1)) (fun k => by simp [spec_PlanFood.j0]) (Ev.now _)
 refine Ev.bind (specPlanDays_ev W H C a l (by omega) (by omega)) ?_
 by_cases h1 : mPlanDays W H C a l < 0
 ·simp only [if_pos h1]
  rw [if_pos (.inl h1)]
  exact hno _
 ·simp only [if_neg h1]
  refine Ev.bind (specAC_ev xs (by omega)) ?_
  cases h2 : mAreCrew xs with
  | false =>
   rw [if_pos (.inr (.inl (by decide)))]
   exact hno _
  | true =>
   refine Ev.step (f := fun k => (spec_WorstDays.f k m w ps (mPlanDays W H C a l)).bind fun t635 => (if t635 < 0 then (some (-1)) else ((spec_NeedOf.f k xs).bind fun t636 => (some (wrap64 (t636 * t635)))))) (fun k => by simp [spec_PlanFood.j0]) ?_
   refine Ev.bind (specWD_ev m w ps _ hp) ?_
   by_cases h3 : mWorst m w ps (mPlanDays W H C a l) < 0
   ·simp only [if_pos h3]
    rw [if_pos (.inr (.inr h3))]
    exact Ev.now _
   ·simp only [if_neg h3]
    rw [if_neg (fun q => q.elim h1 (fun q => q.elim (fun q => q trivial) h3))]
    refine Ev.bind (specNeedOf_ev xs (by omega)) ?_
    have hpr := food_range m w ps (mPlanDays W H C a l) xs h3
    rw [Int.mul_comm (mNeedOf xs), wrap_id (by omega) (by omega)]
    exact Ev.now _
end FnExactPlanFoodPf
open FnExactPlanFoodPf
theorem FnExactPlanFood : ∀ (a0_0 : Int) (a0_1 : Int) (l0_2 : List Int) (a1 : Int) (l2 : List S130) (a3_0 : Int) (a3_1 : Int) (a4_0 : Int) (a4_1 : Int) (l4_2 : List S152) (l4_3 : List Bool), I64 a0_0 → I64 a0_1 → l0_2.length ≤ maxLen → (∀ y ∈ l0_2, I64 y) → I64 a1 → l2.length ≤ maxLen → (∀ y ∈ l2, (I64 y.f0 ∧ I64 y.f1)) → I64 a3_0 → I64 a3_1 → I64 a4_0 → I64 a4_1 → l4_2.length ≤ maxLen → (∀ y ∈ l4_2, (I64 y.f0 ∧ I64 y.f1 ∧ I64 y.f2 ∧ True)) → l4_3.length ≤ maxLen → (∀ y ∈ l4_3, True) → ∃ k, laws_FnExactPlanFood.f k a0_0 a0_1 l0_2 a1 l2 a3_0 a3_1 a4_0 a4_1 l4_2 l4_3 = some true := by
 intro W H C a l m w at_ food xs ps _ _ hC _ _ hl _ _ _ _ _ hx _ hp _
 apply Ev.rounds (g := fun k => laws_FnExactPlanFood.f k W H C a l m w at_ food xs ps)
 unfold laws_FnExactPlanFood.f
 obtain ⟨r, hr, hb, hr1⟩ := szLand_ok W H C 1048576 hC (by omega) (by omega)
 simp only [hr, Option.bind_some]
 by_cases h : r < 0
 ·simp only [if_pos h]; exact Ev.now _
 ·have hb' := hb h
  simp only [if_neg h, szLegS_eq l r hl (by omega) (by omega), Option.bind_some]
  by_cases h' : r - (l.length : Int) < 0
  ·simp only [if_pos h']; exact Ev.now _
  ·simp only [if_neg h', Option.bind_some]
   obtain ⟨r2, hr2, hb2, _⟩ := szParty_ok at_ food xs ps (r - (l.length : Int)) hx hp (by omega) (by omega)
   simp only [hr2, Option.bind_some]
   by_cases h2 : r2 < 0
   ·simp only [if_pos h2]; exact Ev.now _
   ·have hb2' := hb2 h2
    simp only [if_neg h2]
    have hlm : (l.map cvLeg).length = l.length := List.length_map ..
    have hxm : (xs.map cvMember).length = xs.length := List.length_map ..
    refine Ev.bind (toLand_ev W H C (by omega)) ?_
    refine Ev.bind (toLegS_ev l (by omega)) ?_
    simp only [laws_toRule.f, Option.bind_some]
    refine Ev.bind (toParty_ev at_ food xs ps (by omega) (by omega)) ?_
    refine Ev.bind (specPF_ev W H C a (l.map cvLeg) m w at_ food (xs.map cvMember) ps (by omega) (by omega) (by omega) (by omega)) ?_
    refine Ev.bind (toLand_ev W H C (by omega)) ?_
    refine Ev.bind (toLegS_ev l (by omega)) ?_
    refine Ev.bind (toParty_ev at_ food xs ps (by omega) (by omega)) ?_
    refine Ev.bind (implPF_ev W H C a (l.map cvLeg) m w at_ food (xs.map cvMember) ps (by omega) (by omega) (by omega) (by omega)) ?_
    simp only [if_true]
    refine Ev.bind (toLand_ev W H C (by omega)) ?_
    refine Ev.bind (eqLand_ev W H C (by omega)) ?_
    simp only [if_true]
    refine Ev.bind (toLegS_ev l (by omega)) ?_
    refine Ev.bind (eqLegS_ev (l.map cvLeg) (by omega)) ?_
    simp only [if_true]
    refine Ev.bind (toParty_ev at_ food xs ps (by omega) (by omega)) ?_
    refine Ev.bind (eqParty_ev at_ food (xs.map cvMember) ps (by omega) (by omega)) ?_
    exact Ev.now _
end Go.Proofs.Ytcbkknpmeknppaa.Pure
