/- FnExactPutUp: the pure statement of the law, over the printed functions. No condition beyond the statement's own. -/
import Derived.Test.YtnghncedinngoaaSFnExactPutUpx13
import Derived.Test.YtnghncedinngoaaLib
import Derived.Test.YtnghncedinngoaaOpens
namespace Go.Proofs.Ytnghncedinngoaa.Pure
open Go.RowKit Go.Proofs.Ytnghncedinngoaa.PFnExactPutUp Go.Proofs.YtnghncedinngoaaW.PrintWords Go.Proofs.YtnghncedinngoaaW.PrintLast Go.Proofs.Ytnghncedinngoaa.Lib Go.Proofs.Ytnghncedinngoaa.Opens
set_option linter.unusedVariables false
set_option linter.unusedSimpArgs false
namespace FnExactPutUpPf
theorem szIntS_eq (l : List Int) (a : Int) (hl : l.length ≤ maxLen) (h0 : 0 ≤ a) (h1 : a ≤ 1048576) : laws_szIntS.f l a = some (if a - (l.length : Int) < 0 then -1 else a - (l.length : Int)) := by
  have h : wrap64 (a - (l.length : Int)) = a - (l.length : Int) := wrap_id (by unfold maxLen at hl; omega) (by omega)
  simp only [laws_szIntS.f, h]
  split <;> rfl
theorem szMemberS_eq (l : List S60) (a : Int) (hl : l.length ≤ maxLen) (h0 : 0 ≤ a) (h1 : a ≤ 1048576) : laws_szMemberS.f l a = some (if a - (l.length : Int) < 0 then -1 else a - (l.length : Int)) := by
  have h : wrap64 (a - (l.length : Int)) = a - (l.length : Int) := wrap_id (by unfold maxLen at hl; omega) (by omega)
  simp only [laws_szMemberS.f, h]
  split <;> rfl
theorem toIntS_ev (l : List Int) (hl : l.length ≤ 1048576) : Ev (fun k => laws_toIntS.f k l) l := by
  have h := map_loop (fun k out i => laws_toIntS.l0 k l out i) l id 0 (by omega)
    (fun k out => by simp only [laws_toIntS.l0]; rw [if_neg (by omega)])
    (fun k out i x hx ho hw => by
      have hi := lt_of_get hx
      have hr : rd l (i : Int) = x := getD_of 0 hx
      simp only [laws_toIntS.l0, hr, hw]
      rw [if_pos (by omega), if_pos (by omega), if_pos (by omega), Int.toNat_natCast]; rfl)
  rw [List.map_id] at h
  refine Ev.congr (fun k => ?_) h
  simp only [laws_toIntS.f, Int.toNat_natCast]
  rw [if_pos (by omega), if_pos (by omega)]
def cvMember (x : S60) : S49 := ⟨x.f0, x.f1, x.f2, x.f3⟩
theorem toMemberS_ev (l : List S60) (hl : l.length ≤ 1048576) : Ev (fun k => laws_toMemberS.f k l) (l.map cvMember) := by
  have h := map_loop (fun k out i => laws_toMemberS.l0 k l out i) l cvMember z49 (by omega)
    (fun k out => by simp only [laws_toMemberS.l0]; rw [if_neg (by omega)])
    (fun k out i x hx ho hw => by
      have hi := lt_of_get hx
      have hr : rd_T60 l (i : Int) = x := getD_of z60 hx
      simp only [laws_toMemberS.l0, laws_toMember.f, Option.bind_some, hr, hw]
      rw [if_pos (by omega), if_pos (by omega), if_pos (by omega), Int.toNat_natCast]; rfl)
  refine Ev.congr (fun k => ?_) h
  simp only [laws_toMemberS.f, Int.toNat_natCast]
  rw [if_pos (by omega), if_pos (by omega)]
theorem eqIntS_ev (l : List Int) (hl : l.length ≤ 4611686018427387904) : Ev (fun k => laws_eqIntS.f k l l) true := by
  have h := count_loop (fun k i => laws_eqIntS.l0 k l l i) l.length true hl
    (fun k => by simp only [laws_eqIntS.l0]; rw [if_neg (by omega)])
    (fun k i hi hw => by simp only [laws_eqIntS.l0, hw]; rw [if_pos (by omega), if_pos (by omega), if_pos (by omega)]; simp)
  refine Ev.congr (fun k => ?_) h
  simp only [laws_eqIntS.f, if_true]
theorem eqMember_self (a0 : Int) (a1 : Int) (a2 : Int) (a3 : Bool) : laws_eqMember.f a0 a1 a2 a3 a0 a1 a2 a3 = some true := by
  simp [laws_eqMember.f]
theorem eqMemberS_ev (l : List S49) (hl : l.length ≤ 4611686018427387904) : Ev (fun k => laws_eqMemberS.f k l l) true := by
  have h := count_loop (fun k i => laws_eqMemberS.l0 k l l i) l.length true hl
    (fun k => by simp only [laws_eqMemberS.l0]; rw [if_neg (by omega)])
    (fun k i hi hw => by simp only [laws_eqMemberS.l0, hw]; rw [if_pos (by omega), if_pos (by omega), if_pos (by omega)]; simp only [eqMember_self, Option.bind_some, if_true])
  refine Ev.congr (fun k => ?_) h
  simp only [laws_eqMemberS.f, if_true]
theorem markIntS_ev (l : List Int) (hl : l.length ≤ 2097152) : Ev (fun k => laws_markIntS.f k l 1) (1 + ((1 * l.length : Nat) : Int), marks id 1 l.length) := by
  refine mark_loop (fun k xs m i => laws_markIntS.l0 k xs m i) id 1 l.length (by omega) (by omega) l rfl
    (fun k xs m hx => by simp only [laws_markIntS.l0]; rw [if_neg (by omega)])
    (fun k xs m i hx hi h0 h1 hw => by
      have w1 : wrap64 (m + 1) = m + 1 := wrap_id (by omega) (by omega)
      simp only [laws_markIntS.l0, hw, w1, Int.toNat_natCast]; rw [if_pos (by omega), if_pos (by omega)]; rfl)
theorem heldIntS_ev (n : Nat) (hn : n ≤ 2097152) : Ev (fun k => laws_heldIntS.f k (marks id 1 n) 1) (1 + ((1 * n : Nat) : Int)) := by
  have hlen : (marks id 1 n).length = n := marks_len ..
  refine held_loop (fun k m i => laws_heldIntS.l0 k (marks id 1 n) m i) id 1 n (by omega) (by omega)
    (fun k m => by simp only [laws_heldIntS.l0]; rw [if_neg (by omega)])
    (fun k m i hx hi h0 h1 hw => by
      have hr : rd (marks id 1 n) (i : Int) = m := getD_of 0 hx
      have w1 : wrap64 (m + 1) = m + 1 := wrap_id (by omega) (by omega)
      simp only [laws_heldIntS.l0, hr, hw, w1]; rw [if_pos (by omega), if_pos (by omega)]; simp)
def mkMember (m : Int) : S49 := ⟨m, m + 1, m + 2, (Int.tmod (m + 3) 3 == 0)⟩
theorem markMemberS_at (l : List S49) (m0 : Nat) (hm : m0 ≤ 2199023255552) (hl : l.length ≤ 2097152) : Ev (fun k => laws_markMemberS.f k l (m0 : Int)) (((m0 + 4 * l.length : Nat) : Int), marksAt mkMember 4 m0 l.length) := by
  refine mark_loopAt (fun k xs m i => laws_markMemberS.l0 k xs m i) mkMember 4 m0 l.length (by omega) (by omega) l rfl
    (fun k xs m hx => by simp only [laws_markMemberS.l0]; rw [if_neg (by omega)])
    (fun k xs m i hx hi h0 h1 hw => by
      have w1 : wrap64 (m + 1) = m + 1 := wrap_id (by omega) (by omega)
      have w2 : wrap64 (m + 2) = m + 2 := wrap_id (by omega) (by omega)
      have w3 : wrap64 (m + 3) = m + 3 := wrap_id (by omega) (by omega)
      have w4 : wrap64 (m + 4) = m + 4 := wrap_id (by omega) (by omega)
      have e1 : m + 1 + 1 = m + 2 := by omega
      have e2 : m + 2 + 1 = m + 3 := by omega
      have e3 : m + 3 + 1 = m + 4 := by omega
      have hg : ∀ (ys : List S49) (y : S49), ys.length = l.length → rd_T49 (ys.set i y) (i : Int) = y := fun ys y hy => by simp [rd_T49, List.getD_eq_getElem?_getD, hy, hi]
      simp only [laws_markMemberS.l0, Option.bind_some, Int.toNat_natCast, hw]
      rw [if_pos (by omega), if_pos (by omega)]
      simp only [hg _ _ hx, hg _ _ ((List.length_set ..).trans hx), List.set_set, w1, w2, w3, w4, e1, e2, e3]
      rfl)
theorem markMemberS_ev (l : List S49) (hl : l.length ≤ 2097152) : Ev (fun k => laws_markMemberS.f k l 1) (1 + ((4 * l.length : Nat) : Int), marks mkMember 4 l.length) := by
  have h := markMemberS_at l 1 (by omega) hl
  rw [show (((1 + 4 * l.length : Nat) : Int)) = 1 + ((4 * l.length : Nat) : Int) from by omega] at h
  exact h
theorem l1In_eq (a b c : Int) : spec_l1In.f a b c = some (decide (b ≤ a ∧ a ≤ c)) := by
  unfold spec_l1In.f
  by_cases h : a ≥ b
  · rw [if_pos h]; simp [h]
  · rw [if_neg h]; simp [show ¬ (b ≤ a) from by omega]
theorem InRange_eq (a b c : Int) : impl_InRange.f a b c = some (decide (b ≤ a ∧ a ≤ c)) := by
  unfold impl_InRange.f
  by_cases h : b ≤ a
  · rw [if_pos h]; simp [h]
  · rw [if_neg h]; simp [h]
theorem specHas_at (l : List Int) (n : Int) (hl : l.length ≤ 4611686018427387904) : ∀ k, l.length < k → spec_l14Has.f k l n = some (decide (n ∈ l)) := by
  rw [← run_has n l 0]
  exact at_loop0 (fun k _ i => spec_l14Has.l0 k l n i) l (stepHas n) (fun _ => false) hl ()
    (fun k s => by simp only [spec_l14Has.l0]; rw [if_neg (by omega)])
    (fun k s i x hx hw => by
      have hi := lt_of_get hx
      have hr : rd l (i : Int) = x := getD_of 0 hx
      simp only [spec_l14Has.l0, hr, hw]; rw [if_pos (by omega), if_pos (by omega)]
      simp only [stepHas]; split <;> rfl)
theorem implPlace_at (l : List Int) (n : Int) (hl : l.length ≤ 4611686018427387904) : ∀ k, l.length < k → impl_placeOf.f k l n = some (place n l) :=
  at_loop0 (fun k _ i => impl_placeOf.l0 k n l (l.length : Int) i) l (stepPlace n) (fun _ => -1) hl ()
    (fun k s => by simp only [impl_placeOf.l0]; rw [if_neg (by omega)])
    (fun k s i x hx hw => by
      have hi := lt_of_get hx
      have hr : rd l (i : Int) = x := getD_of 0 hx
      simp only [impl_placeOf.l0, hr, hw]; rw [if_pos (by omega), if_pos (by omega), if_pos (by omega)]
      simp only [stepPlace]; split <;> rfl)
theorem implHas_at (l : List Int) (n : Int) (hl : l.length ≤ 4611686018427387904) : ∀ k, l.length < k → impl_has.f k l n = some (decide (n ∈ l)) := fun k hk => by
  simp only [impl_has.f, implPlace_at l n hl k hk, Option.bind_some, place_has]
def cvTent (x : S53) : S45 := ⟨x.f0, x.f1, x.f2⟩
def stepSz : Nat → Int → S53 → Int ⊕ Int := fun _ s x => if s - (x.f2.length : Int) < 0 then .inl (-1) else .inr (s - (x.f2.length : Int))
theorem runSz : ∀ (l : List S53) (i : Nat) (s : Int), s ≤ 1048576 → ¬ run stepSz id i s l < 0 → ∀ x ∈ l, x.f2.length ≤ 1048576
  | [], _, _, _, _, x, hx => by cases hx
  | y :: t, i, s, hs, hr, x, hx => by
    by_cases h : s - (y.f2.length : Int) < 0
    · rw [run_inl (show stepSz i s y = .inl (-1) from if_pos h)] at hr
      exact absurd (by decide) hr
    · rw [run_inr (show stepSz i s y = .inr (s - (y.f2.length : Int)) from if_neg h)] at hr
      rcases List.mem_cons.1 hx with hx | hx
      · subst hx; omega
      · exact runSz t (i + 1) _ (by omega) hr x hx
theorem szTentS_ok (l : List S53) (a : Int) (hl : l.length ≤ maxLen) (hw : ∀ x ∈ l, x.f2.length ≤ maxLen) (h0 : 0 ≤ a) (h1 : a ≤ 1048576) :
    ∃ r, Ev (fun k => laws_szTentS.f k l a) r ∧ (¬ r < 0 → l.length ≤ 1048576 ∧ (∀ x ∈ l, x.f2.length ≤ 1048576) ∧ r ≤ a) ∧ r ≤ a := by
  have hwr : wrap64 (a - (l.length : Int)) = a - (l.length : Int) := wrap_id (by unfold maxLen at hl; omega) (by omega)
  by_cases h : a - (l.length : Int) < 0
  · refine ⟨-1, ?_, fun h => absurd (by decide) h, by omega⟩
    refine Ev.congr (fun k => ?_) (Ev.now (-1))
    simp only [laws_szTentS.f, hwr]
    rw [if_pos h]
  · have hloop := at_loopI (fun k s i => laws_szTentS.l0 k l s i) l stepSz id (fun _ s => 0 ≤ s ∧ s ≤ a) (by omega) (a - (l.length : Int)) ⟨by omega, by omega⟩ 0
      (fun k s _ _ => by simp only [laws_szTentS.l0]; rw [if_neg (by omega)]; rfl)
      (fun s i x s' hI _ he => by
        simp only [stepSz] at he
        split at he
        · cases he
        · injection he with he
          subst he
          omega)
      (fun k s i x _ hI hx hw' => by
        have hi := lt_of_get hx
        have hr : rd_T53 l (i : Int) = x := getD_of z53 hx
        have hxl := hw x (List.mem_of_getElem? hx)
        have hws : wrap64 (s - (x.f2.length : Int)) = s - (x.f2.length : Int) := wrap_id (by unfold maxLen at hxl; omega) (by omega)
        simp only [laws_szTentS.l0, laws_szTent.f, laws_szIntS.f, hr, hw', hws]; rw [if_pos (by omega), if_pos (by omega)]
        simp only [stepSz]
        by_cases c : s - (x.f2.length : Int) < 0
        · rw [if_pos c, if_pos c]
          rfl
        · rw [if_neg c, if_neg c]
          simp only [Option.bind_some]
          rw [if_neg c]
          simp only [Option.bind_some]
          rw [if_neg c]
          rfl)
    have hle : run stepSz id 0 (a - (l.length : Int)) l ≤ a := by
      have key : ∀ (t : List S53) (i : Nat) (s : Int), -1 ≤ s → s ≤ a → run stepSz id i s t ≤ a := by
        intro t
        induction t with
        | nil => intro i s _ hs; exact hs
        | cons x t ih =>
          intro i s hs1 hs
          by_cases c : s - (x.f2.length : Int) < 0
          · rw [run_inl (show stepSz i s x = .inl (-1) from if_pos c)]; omega
          · rw [run_inr (show stepSz i s x = .inr (s - (x.f2.length : Int)) from if_neg c)]; exact ih _ _ (by omega) (by omega)
      exact key l 0 _ (by omega) (by omega)
    refine ⟨run stepSz id 0 (a - (l.length : Int)) l, ?_, fun hr => ⟨by omega, runSz l 0 _ (by omega) hr, hle⟩, hle⟩
    refine Ev.congr (fun k => ?_) (ev_at hloop)
    simp only [laws_szTentS.f, hwr]
    rw [if_neg h]
theorem toInt_at (l : List Int) (hl : l.length ≤ 1048576) : ∀ k, 1048576 < k → laws_toIntS.f k l = some l := by
  intro k hk
  have hev : ∃ K, K ≤ l.length + 1 ∧ ∀ k, K ≤ k → laws_toIntS.f k l = some l := by
    have key : ∀ (t d : List Int) (k : Nat), l = d ++ t → t.length < k → laws_toIntS.l0 k l (d ++ List.replicate t.length 0) (d.length : Int) = some l := by
      intro t
      induction t with
      | nil =>
        intro d k hd hk
        obtain ⟨k, rfl⟩ : ∃ m, k = m + 1 := ⟨k - 1, by simp at hk; omega⟩
        rw [List.append_nil] at hd
        subst hd
        simp only [laws_toIntS.l0]
        rw [if_neg (by omega)]
        simp
      | cons x t ih =>
        intro d k hd hk
        obtain ⟨k, rfl⟩ : ∃ m, k = m + 1 := ⟨k - 1, by simp at hk; omega⟩
        have hx : l[d.length]? = some x := by rw [hd]; simp
        have hlen : l.length = d.length + (t.length + 1) := by rw [hd]; simp
        have hr : rd l (d.length : Int) = x := getD_of 0 hx
        have := ih (d ++ [x]) k (by rw [hd]; simp) (by simp at hk; omega)
        simp only [laws_toIntS.l0, hr, wrapi d.length (by omega)]
        rw [if_pos (by omega), if_pos (by omega), if_pos (by simp only [List.length_append, List.length_replicate, List.length_cons]; omega), Int.toNat_natCast, List.length_cons, List.replicate_succ, set_append _ _ _ _ _ rfl]
        simpa using this
    refine ⟨l.length + 1, Nat.le_refl _, fun k hk => ?_⟩
    have := key l [] k rfl (by omega)
    simp only [laws_toIntS.f, Int.toNat_natCast]
    rw [if_pos (by omega), if_pos (by omega)]
    exact this
  obtain ⟨K', hK', h'⟩ := hev
  exact h' k (by omega)
theorem toTentS_ev (l : List S53) (hl : l.length ≤ 1048576) (hw : ∀ x ∈ l, x.f2.length ≤ 1048576) : Ev (fun k => laws_toTentS.f k l) (l.map cvTent) := by
  have h := map_loopK (fun k out i => laws_toTentS.l0 k l out i) l cvTent z45 1048577 (by omega)
    (fun k out => by simp only [laws_toTentS.l0]; rw [if_neg (by omega)])
    (fun k out i x hk hx ho hw' => by
      have hi := lt_of_get hx
      have hr : rd_T53 l (i : Int) = x := getD_of z53 hx
      simp only [laws_toTentS.l0, laws_toTent.f, toInt_at x.f2 (hw x (List.mem_of_getElem? hx)) k (by omega), Option.bind_some, hr, hw']
      rw [if_pos (by omega), if_pos (by omega), if_pos (by omega), Int.toNat_natCast]; rfl)
  refine Ev.congr (fun k => ?_) h
  simp only [laws_toTentS.f, Int.toNat_natCast]
  rw [if_pos (by omega), if_pos (by omega)]
theorem eqInt_at (l : List Int) (hl : l.length ≤ 1048576) : ∀ k, 1048576 < k → laws_eqIntS.f k l l = some true := by
  have key : ∀ (d i k : Nat), i + d = l.length → d < k → laws_eqIntS.l0 k l l (i : Int) = some true := by
    intro d
    induction d with
    | zero =>
      intro i k hi hk
      obtain ⟨k, rfl⟩ : ∃ m, k = m + 1 := ⟨k - 1, by omega⟩
      simp only [laws_eqIntS.l0]
      rw [if_neg (by omega)]
    | succ d ih =>
      intro i k hi hk
      obtain ⟨k, rfl⟩ : ∃ m, k = m + 1 := ⟨k - 1, by omega⟩
      have := ih (i + 1) k (by omega) (by omega)
      simp only [laws_eqIntS.l0, wrapi i (by omega)]
      rw [if_pos (by omega), if_pos (by omega), if_pos (by omega)]
      simpa using this
  intro k hk
  simp only [laws_eqIntS.f, if_true]
  exact key l.length 0 k (by omega) (by omega)
theorem eqTentS_ev (l : List S45) (hl : l.length ≤ 4611686018427387904) (hw : ∀ x ∈ l, x.f2.length ≤ 1048576) : Ev (fun k => laws_eqTentS.f k l l) true := by
  have h := count_loopK (fun k i => laws_eqTentS.l0 k l l i) l.length true 1048577 hl
    (fun k => by simp only [laws_eqTentS.l0]; rw [if_neg (by omega)])
    (fun k i hk hi hw' => by
      have hx : l[i]? = some l[i] := List.getElem?_eq_getElem hi
      have hr : rd_T45 l (i : Int) = l[i] := getD_of z45 hx
      simp only [laws_eqTentS.l0, laws_eqTent.f, hr, hw', eqInt_at l[i].f2 (hw _ (List.getElem_mem hi)) k (by omega), Option.bind_some, if_true]
      rw [if_pos (by omega), if_pos (by omega), if_pos (by omega)])
  refine Ev.congr (fun k => ?_) h
  simp only [laws_eqTentS.f, if_true]
theorem cvTent_who (l : List S53) (hw : ∀ x ∈ l, x.f2.length ≤ 1048576) : ∀ x ∈ l.map cvTent, x.f2.length ≤ 1048576 := by
  intro x hx
  obtain ⟨y, hy, rfl⟩ := List.mem_map.1 hx
  exact hw y hy
def addAll (s : List Int) : List Int → Option (List Int)
  | [] => some s
  | y :: t => if y ∈ s then none else addAll (s ++ [y]) t
theorem addAll_cons (s : List Int) (y : Int) (t : List Int) : addAll s (y :: t) = if y ∈ s then none else addAll (s ++ [y]) t := rfl
theorem addAll_len : ∀ (t s s' : List Int), addAll s t = some s' → s'.length = s.length + t.length
  | [], s, s', h => by
    injection h with h
    subst h
    rfl
  | y :: t, s, s', h => by
    rw [addAll_cons] at h
    split at h
    · cases h
    · have := addAll_len t _ s' h
      rw [this, List.length_append, List.length_singleton, List.length_cons]
      omega
def okTent (l : List S45) (i : Nat) (x : S45) : Prop := (1 ≤ x.f0 ∧ x.f0 ≤ 99) ∧ (1 ≤ x.f1 ∧ x.f1 ≤ 6) ∧ ((x.f2.length : Int) ≤ x.f1) ∧ (i = 0 ∨ (l.getD (i - 1) z45).f0 < x.f0)
instance (l : List S45) (i : Nat) (x : S45) : Decidable (okTent l i x) := by unfold okTent; infer_instance
def nextAT (s : List Int) (x : S45) : Bool ⊕ List Int := match addAll s x.f2 with
  | none => .inl false
  | some s' => .inr s'
def stepAT (l : List S45) : Nat → List Int → S45 → Bool ⊕ List Int := fun i s x => if okTent l i x then nextAT s x else .inl false
def mAreTents (l : List S45) : Bool := run (stepAT l) (fun _ => decide ((l.length : Int) ≤ 8)) 0 [] l
theorem specAT_in (l : List S45) (hl : l.length ≤ 1048576) (i : Nat) (x : S45) (hx : l[i]? = some x) (hx6 : x.f2.length ≤ 6) (R : List Int → Bool) : ∀ (t d s : List Int), x.f2 = d ++ t → s.length + t.length ≤ 8000000 →
    (∀ s', addAll s t = some s' → Ev (fun k => spec_AreTents.l0 k l s' ((i : Int) + 1)) (R s')) → Ev (fun k => spec_AreTents.l1 k l s (i : Int) (d.length : Int)) (match addAll s t with | none => false | some s' => R s')
  | [], d, s, h, hs, hR => by
    have hi := lt_of_get hx
    have hr : rd_T45 l (i : Int) = x := getD_of z45 hx
    have hlen : x.f2.length = d.length := by rw [h]; simp
    refine Ev.step (fun k => ?_) (hR s rfl)
    simp only [spec_AreTents.l1, hr, wrapi i (by omega)]
    rw [if_pos (by omega), if_pos (by omega), if_neg (by omega)]
  | y :: t, d, s, h, hs, hR => by
    have hi := lt_of_get hx
    have hr : rd_T45 l (i : Int) = x := getD_of z45 hx
    have hlen : x.f2.length = d.length + (t.length + 1) := by rw [h]; simp
    have hy : x.f2[d.length]? = some y := by rw [h]; simp
    have hry : rd x.f2 (d.length : Int) = y := getD_of 0 hy
    rw [List.length_cons] at hs
    refine Ev.step (f := fun k => (spec_l14Has.f k s y).bind fun t149 => if t149 = true then some false else if s.length < 17592186044416 then spec_AreTents.l1 k l (s ++ [y]) (i : Int) ((d.length : Int) + 1) else none) (fun k => ?_) ?_
    · simp only [spec_AreTents.l1, hr, hry, wrapi d.length (by omega)]
      rw [if_pos (by omega), if_pos (by omega), if_pos (by omega), if_pos (by omega)]
    · refine Ev.bind (ev_at (specHas_at s y (by omega))) ?_
      rw [addAll_cons]
      by_cases c : y ∈ s
      · simp only [decide_eq_true c, if_true, if_pos c]
        exact Ev.now _
      · simp only [decide_eq_false c, Bool.false_eq_true, if_false, if_neg c, show s.length < 17592186044416 from by omega, if_true]
        have ih := specAT_in l hl i x hx hx6 R t (d ++ [y]) (s ++ [y]) (by rw [h]; simp) (by simp; omega) (fun s' hs' => hR s' (by rw [addAll_cons, if_neg c]; exact hs'))
        rw [List.length_append, List.length_singleton, show ((d.length + 1 : Nat) : Int) = (d.length : Int) + 1 from by omega] at ih
        exact ih
theorem specAT_down (l : List S45) (hl : l.length ≤ 1048576) : ∀ (t d : List S45) (s : List Int), l = d ++ t → s.length ≤ 6 * d.length → Ev (fun k => spec_AreTents.l0 k l s (d.length : Int)) (run (stepAT l) (fun _ => decide ((l.length : Int) ≤ 8)) d.length s t)
  | [], d, s, h, hs => by
    have hlen : l.length = d.length := by rw [h]; simp
    refine Ev.step (f := fun _ => some (decide ((l.length : Int) ≤ 8))) (fun k => ?_) (Ev.now _)
    simp only [spec_AreTents.l0]
    rw [if_neg (by omega)]
  | x :: t, d, s, h, hs => by
    have hlen : l.length = d.length + (t.length + 1) := by rw [h]; simp
    have hx : l[d.length]? = some x := by rw [h]; simp
    have hr : rd_T45 l (d.length : Int) = x := getD_of z45 hx
    have hbad : Ev (fun k => spec_AreTents.j1 k l s (d.length : Int) true) false := Ev.step (f := fun _ => some false) (fun k => by simp [spec_AreTents.j1]) (Ev.now _)
    have stop : (¬ okTent l d.length x) → run (stepAT l) (fun _ => decide ((l.length : Int) ≤ 8)) d.length s (x :: t) = false := fun hn => run_inl (if_neg hn)
    by_cases c : okTent l d.length x
    · obtain ⟨c1, c2, c3, c4⟩ := c
      have hgo : Ev (fun k => spec_AreTents.j1 k l s (d.length : Int) false) (run (stepAT l) (fun _ => decide ((l.length : Int) ≤ 8)) d.length s (x :: t)) := by
        refine Ev.step (f := fun k => spec_AreTents.l1 k l s (d.length : Int) 0) (fun k => by simp [spec_AreTents.j1]) ?_
        have hin := specAT_in l hl d.length x hx (by omega) (fun s' => run (stepAT l) (fun _ => decide ((l.length : Int) ≤ 8)) (d.length + 1) s' t) x.f2 [] s rfl (by omega) (fun s' hs' => by
          have hl' := addAll_len _ _ _ hs'
          have ih := specAT_down l hl t (d ++ [x]) s' (by rw [h]; simp) (by simp; omega)
          rw [List.length_append, List.length_singleton, show ((d.length + 1 : Nat) : Int) = (d.length : Int) + 1 from by omega] at ih
          exact ih)
        have e : run (stepAT l) (fun _ => decide ((l.length : Int) ≤ 8)) d.length s (x :: t) = match addAll s x.f2 with | none => false | some s' => run (stepAT l) (fun _ => decide ((l.length : Int) ≤ 8)) (d.length + 1) s' t := by
          rw [run_cons, show stepAT l d.length s x = nextAT s x from if_pos ⟨c1, c2, c3, c4⟩]
          unfold nextAT
          cases addAll s x.f2 <;> rfl
        rw [e]
        exact hin
      rcases Nat.eq_zero_or_pos d.length with h0 | h0
      · refine Ev.step (fun k => ?_) hgo
        simp only [spec_AreTents.l0, hr, l1In_eq, Option.bind_some, decide_eq_true c1, decide_eq_true c2, if_true]
        rw [if_pos (by omega), if_pos (by omega), if_neg (by omega), if_neg (by omega)]
      · have hr' : rd_T45 l ((d.length - 1 : Nat) : Int) = l.getD (d.length - 1) z45 := getD_nat ..
        have c4' : ¬ (l.getD (d.length - 1) z45).f0 ≥ x.f0 := by
          rcases c4 with c4 | c4
          · omega
          · omega
        refine Ev.step (fun k => ?_) hgo
        simp only [spec_AreTents.l0, hr, l1In_eq, Option.bind_some, decide_eq_true c1, decide_eq_true c2, if_true, wrapd d.length h0 (by omega), hr', decide_eq_false c4']
        rw [if_pos (by omega), if_pos (by omega), if_neg (by omega), if_pos (by omega), if_pos (by omega), if_pos (by omega)]
    · rw [stop c]
      refine Ev.step (fun k => ?_) hbad
      simp only [spec_AreTents.l0, hr, l1In_eq, Option.bind_some]
      rw [if_pos (by omega), if_pos (by omega)]
      by_cases c1 : 1 ≤ x.f0 ∧ x.f0 ≤ 99
      · simp only [decide_eq_true c1, if_true]
        by_cases c2 : 1 ≤ x.f1 ∧ x.f1 ≤ 6
        · simp only [decide_eq_true c2, if_true]
          by_cases c3 : (x.f2.length : Int) ≤ x.f1
          · rw [if_neg (by omega)]
            rcases Nat.eq_zero_or_pos d.length with h0 | h0
            · exact absurd ⟨c1, c2, c3, .inl h0⟩ c
            · have hr' : rd_T45 l ((d.length - 1 : Nat) : Int) = l.getD (d.length - 1) z45 := getD_nat ..
              have c4' : (l.getD (d.length - 1) z45).f0 ≥ x.f0 := by
                refine Decidable.byContradiction fun h' => c ⟨c1, c2, c3, .inr (by omega)⟩
              simp only [wrapd d.length h0 (by omega), hr', decide_eq_true c4']
              rw [if_pos (by omega), if_pos (by omega), if_pos (by omega)]
          · rw [if_pos (by omega)]
        · simp only [decide_eq_false c2, Bool.false_eq_true, if_false]
      · simp only [decide_eq_false c1, Bool.false_eq_true, if_false]
theorem specAT_ev (l : List S45) (hl : l.length ≤ 1048576) : Ev (fun k => spec_AreTents.f k l) (mAreTents l) := specAT_down l hl l [] [] rfl (by simp)
theorem implAT_in (l : List S45) (hl : l.length ≤ 1048576) (i : Nat) (xs : List Int) (hx6 : xs.length ≤ 6) (R : List Int → Bool) : ∀ (t d s : List Int), xs = d ++ t → s.length + t.length ≤ 8000000 → i ≤ 1048576 →
    (∀ s', addAll s t = some s' → Ev (fun k => impl_AreTents.l0 k l s' l (l.length : Int) ((i : Int) + 1)) (R s')) → Ev (fun k => impl_AreTents.l1 k l s l (l.length : Int) (i : Int) xs (xs.length : Int) (d.length : Int)) (match addAll s t with | none => false | some s' => R s')
  | [], d, s, h, hs, hi, hR => by
    have hlen : xs.length = d.length := by rw [h]; simp
    refine Ev.step (fun k => ?_) (hR s rfl)
    simp only [impl_AreTents.l1, wrapi i (by omega)]
    rw [if_neg (by omega)]
  | y :: t, d, s, h, hs, hi, hR => by
    have hlen : xs.length = d.length + (t.length + 1) := by rw [h]; simp
    have hy : xs[d.length]? = some y := by rw [h]; simp
    have hry : rd xs (d.length : Int) = y := getD_of 0 hy
    rw [List.length_cons] at hs
    refine Ev.step (f := fun k => (impl_has.f k s y).bind fun t170 => if t170 = true then some false else if s.length < 17592186044416 then impl_AreTents.l1 k l (s ++ [y]) l (l.length : Int) (i : Int) xs (xs.length : Int) ((d.length : Int) + 1) else none) (fun k => ?_) ?_
    · simp only [impl_AreTents.l1, hry, wrapi d.length (by omega)]
      rw [if_pos (by omega), if_pos (by omega), if_pos (by omega)]
    · refine Ev.bind (ev_at (implHas_at s y (by omega))) ?_
      rw [addAll_cons]
      by_cases c : y ∈ s
      · simp only [decide_eq_true c, if_true, if_pos c]
        exact Ev.now _
      · simp only [decide_eq_false c, Bool.false_eq_true, if_false, if_neg c, show s.length < 17592186044416 from by omega, if_true]
        have ih := implAT_in l hl i xs hx6 R t (d ++ [y]) (s ++ [y]) (by rw [h]; simp) (by simp; omega) hi (fun s' hs' => hR s' (by rw [addAll_cons, if_neg c]; exact hs'))
        rw [List.length_append, List.length_singleton, show ((d.length + 1 : Nat) : Int) = (d.length : Int) + 1 from by omega] at ih
        exact ih
theorem implAT_down (l : List S45) (hl : l.length ≤ 1048576) : ∀ (t d : List S45) (s : List Int), l = d ++ t → s.length ≤ 6 * d.length → Ev (fun k => impl_AreTents.l0 k l s l (l.length : Int) (d.length : Int)) (run (stepAT l) (fun _ => decide ((l.length : Int) ≤ 8)) d.length s t)
  | [], d, s, h, hs => by
    have hlen : l.length = d.length := by rw [h]; simp
    refine Ev.step (f := fun _ => some (decide ((l.length : Int) ≤ 8))) (fun k => ?_) (Ev.now _)
    simp only [impl_AreTents.l0]
    rw [if_neg (by omega)]
  | x :: t, d, s, h, hs => by
    have hlen : l.length = d.length + (t.length + 1) := by rw [h]; simp
    have hx : l[d.length]? = some x := by rw [h]; simp
    have hr : rd_T45 l (d.length : Int) = x := getD_of z45 hx
    have hbad : Ev (fun k => impl_AreTents.j1 k l s l (l.length : Int) (d.length : Int) true x.f0 x.f1 x.f2) false := Ev.step (f := fun _ => some false) (fun k => by simp [impl_AreTents.j1]) (Ev.now _)
    have stop : (¬ okTent l d.length x) → run (stepAT l) (fun _ => decide ((l.length : Int) ≤ 8)) d.length s (x :: t) = false := fun hn => run_inl (if_neg hn)
    by_cases c : okTent l d.length x
    · obtain ⟨c1, c2, c3, c4⟩ := c
      have c3' : ¬ (x.f2.length : Int) > x.f1 := by omega
      have hgo : Ev (fun k => impl_AreTents.j1 k l s l (l.length : Int) (d.length : Int) false x.f0 x.f1 x.f2) (run (stepAT l) (fun _ => decide ((l.length : Int) ≤ 8)) d.length s (x :: t)) := by
        refine Ev.step (f := fun k => impl_AreTents.l1 k l s l (l.length : Int) (d.length : Int) x.f2 (x.f2.length : Int) 0) (fun k => by simp [impl_AreTents.j1]) ?_
        have hin := implAT_in l hl d.length x.f2 (by omega) (fun s' => run (stepAT l) (fun _ => decide ((l.length : Int) ≤ 8)) (d.length + 1) s' t) x.f2 [] s rfl (by omega) (by omega) (fun s' hs' => by
          have hl' := addAll_len _ _ _ hs'
          have ih := implAT_down l hl t (d ++ [x]) s' (by rw [h]; simp) (by simp; omega)
          rw [List.length_append, List.length_singleton, show ((d.length + 1 : Nat) : Int) = (d.length : Int) + 1 from by omega] at ih
          exact ih)
        have e : run (stepAT l) (fun _ => decide ((l.length : Int) ≤ 8)) d.length s (x :: t) = match addAll s x.f2 with | none => false | some s' => run (stepAT l) (fun _ => decide ((l.length : Int) ≤ 8)) (d.length + 1) s' t := by
          rw [run_cons, show stepAT l d.length s x = nextAT s x from if_pos ⟨c1, c2, c3, c4⟩]
          unfold nextAT
          cases addAll s x.f2 <;> rfl
        rw [e]
        exact hin
      rcases Nat.eq_zero_or_pos d.length with h0 | h0
      · refine Ev.step (fun k => ?_) hgo
        simp only [impl_AreTents.l0, hr, InRange_eq, Option.bind_some, decide_eq_true c1, decide_eq_true c2, if_true, decide_eq_false c3']
        rw [if_pos (by omega), if_pos (by omega), if_pos (by omega), if_neg (by omega)]
      · have hr' : rd_T45 l ((d.length - 1 : Nat) : Int) = l.getD (d.length - 1) z45 := getD_nat ..
        have c4' : ¬ x.f0 ≤ (l.getD (d.length - 1) z45).f0 := by
          rcases c4 with c4 | c4
          · omega
          · omega
        refine Ev.step (fun k => ?_) hgo
        simp only [impl_AreTents.l0, hr, InRange_eq, Option.bind_some, decide_eq_true c1, decide_eq_true c2, if_true, wrapd d.length h0 (by omega), hr', decide_eq_false c3']
        rw [if_pos (by omega), if_pos (by omega), if_pos (by omega), if_pos (by omega), if_pos (by omega), if_pos (by omega), if_neg c4']
    · rw [stop c]
      refine Ev.step (fun k => ?_) hbad
      simp only [impl_AreTents.l0, hr, InRange_eq, Option.bind_some]
      rw [if_pos (by omega), if_pos (by omega), if_pos (by omega)]
      by_cases c1 : 1 ≤ x.f0 ∧ x.f0 ≤ 99
      · simp only [decide_eq_true c1, if_true]
        rcases Nat.eq_zero_or_pos d.length with h0 | h0
        · rw [if_neg (by omega)]
          by_cases c2 : 1 ≤ x.f1 ∧ x.f1 ≤ 6
          · simp only [decide_eq_true c2, if_true]
            rw [decide_eq_true]
            exact Decidable.byContradiction fun h' => c ⟨c1, c2, by omega, .inl h0⟩
          · simp only [decide_eq_false c2, Bool.false_eq_true, if_false]
        · have hr' : rd_T45 l ((d.length - 1 : Nat) : Int) = l.getD (d.length - 1) z45 := getD_nat ..
          simp only [wrapd d.length h0 (by omega), hr']
          rw [if_pos (by omega), if_pos (by omega), if_pos (by omega)]
          by_cases c4 : x.f0 ≤ (l.getD (d.length - 1) z45).f0
          · rw [if_pos c4]
          · rw [if_neg c4]
            by_cases c2 : 1 ≤ x.f1 ∧ x.f1 ≤ 6
            · simp only [decide_eq_true c2, if_true]
              rw [decide_eq_true]
              exact Decidable.byContradiction fun h' => c ⟨c1, c2, by omega, .inr (by omega)⟩
            · simp only [decide_eq_false c2, Bool.false_eq_true, if_false]
      · simp only [decide_eq_false c1, Bool.false_eq_true, if_false]
theorem implAT_ev (l : List S45) (hl : l.length ≤ 1048576) : Ev (fun k => impl_AreTents.f k l) (mAreTents l) := implAT_down l hl l [] [] rfl (by simp)
theorem runAT_ok (l : List S45) (b : Bool) : ∀ (t d : List S45) (s : List Int), l = d ++ t → run (stepAT l) (fun _ => b) d.length s t = true → (∀ i x, d.length ≤ i → l[i]? = some x → okTent l i x) ∧ b = true
  | [], d, s, h, hr => by
    refine ⟨fun i x hi hx => ?_, hr⟩
    have := lt_of_get hx
    rw [h] at this
    simp at this
    omega
  | x :: t, d, s, h, hr => by
    have hx : l[d.length]? = some x := by rw [h]; simp
    by_cases c : okTent l d.length x
    · rw [run_cons, show stepAT l d.length s x = nextAT s x from if_pos c] at hr
      unfold nextAT at hr
      cases ha : addAll s x.f2 with
      | none => rw [ha] at hr; cases hr
      | some s' =>
        rw [ha] at hr
        have ih := runAT_ok l b t (d ++ [x]) s' (by rw [h]; simp) (by rw [List.length_append, List.length_singleton]; exact hr)
        rw [List.length_append, List.length_singleton] at ih
        refine ⟨fun i y hi hy => ?_, ih.2⟩
        rcases Nat.lt_or_ge d.length i with h1 | h1
        · exact ih.1 i y (by omega) hy
        · obtain rfl : i = d.length := by omega
          rw [hx] at hy
          injection hy with hy
          exact hy ▸ c
    · rw [run_inl (show stepAT l d.length s x = .inl false from if_neg c)] at hr
      cases hr
theorem mAreTents_ok {l : List S45} (h : mAreTents l = true) : (∀ i x, l[i]? = some x → okTent l i x) ∧ l.length ≤ 8 := by
  have := runAT_ok l _ l [] [] rfl h
  rw [List.length_nil] at this
  refine ⟨fun i x hx => this.1 i x (Nat.zero_le _) hx, ?_⟩
  have h2 := of_decide_eq_true this.2
  omega
def okMember (l : List S49) (i : Nat) (x : S49) : Prop := (1 ≤ x.f0 ∧ x.f0 ≤ 99) ∧ (0 ≤ x.f1 ∧ x.f1 ≤ 100) ∧ (1 ≤ x.f2 ∧ x.f2 ≤ 10) ∧ (i = 0 ∨ (l.getD (i - 1) z49).f0 < x.f0)
instance (l : List S49) (i : Nat) (x : S49) : Decidable (okMember l i x) := by unfold okMember; infer_instance
def stepAC (l : List S49) : Nat → Unit → S49 → Bool ⊕ Unit := fun i _ x => if okMember l i x then .inr () else .inl false
def mAreCrew (l : List S49) : Bool := run (stepAC l) (fun _ => decide (1 ≤ (l.length : Int) ∧ (l.length : Int) ≤ 8)) 0 () l
theorem specAC_at (l : List S49) (hl : l.length ≤ 4611686018427387904) : ∀ k, l.length < k → spec_AreCrew.f k l = some (mAreCrew l) :=
  at_loop0 (fun k _ i => spec_AreCrew.l0 k l i) l (stepAC l) _ hl ()
    (fun k s => by simp only [spec_AreCrew.l0]; rw [if_neg (by omega)]; simp only [l1In_eq, Option.bind_some])
    (fun k s i x hx hw => by
      have hi := lt_of_get hx
      have hr : rd_T49 l (i : Int) = x := getD_of z49 hx
      simp only [spec_AreCrew.l0, hr, hw, l1In_eq, Option.bind_some, decide_eq_true_eq]; rw [if_pos (by omega), if_pos (by omega)]
      simp only [stepAC]
      by_cases c1 : 1 ≤ x.f0 ∧ x.f0 ≤ 99
      · by_cases c2 : 0 ≤ x.f1 ∧ x.f1 ≤ 100
        · by_cases c3 : 1 ≤ x.f2 ∧ x.f2 ≤ 10
          · rw [if_pos c1, if_pos c2, if_pos c3]
            rcases Nat.eq_zero_or_pos i with h0 | h0
            · subst h0
              rw [if_neg (by omega), if_pos (show okMember l _ x from ⟨c1, c2, c3, .inl rfl⟩)]; rfl
            · have hr' : rd_T49 l ((i - 1 : Nat) : Int) = l.getD (i - 1) z49 := getD_nat ..
              rw [if_pos (by omega), wrapd i h0 (by omega), if_pos (by omega), if_pos (by omega), hr']
              by_cases c4 : (l.getD (i - 1) z49).f0 < x.f0
              · rw [if_neg (by omega), if_pos (show okMember l _ x from ⟨c1, c2, c3, .inr c4⟩)]; rfl
              · rw [if_pos (by omega), if_neg (show ¬ okMember l _ x from fun h => h.2.2.2.elim (by omega) c4)]; rfl
          · rw [if_pos c1, if_pos c2, if_neg c3, if_neg (show ¬ okMember l _ x from fun h => c3 h.2.2.1)]; rfl
        · rw [if_pos c1, if_neg c2, if_neg (show ¬ okMember l _ x from fun h => c2 h.2.1)]; rfl
      · rw [if_neg c1, if_neg (show ¬ okMember l _ x from fun h => c1 h.1)]; rfl)
theorem implAC_at (l : List S49) (hl : l.length ≤ 4611686018427387904) : ∀ k, l.length < k → impl_AreCrew.f k l = some (mAreCrew l) :=
  at_loop0 (fun k _ i => impl_AreCrew.l0 k l l (l.length : Int) i) l (stepAC l) _ hl ()
    (fun k s => by simp only [impl_AreCrew.l0]; rw [if_neg (by omega)]; simp only [InRange_eq, Option.bind_some])
    (fun k s i x hx hw => by
      have hi := lt_of_get hx
      have hr : rd_T49 l (i : Int) = x := getD_of z49 hx
      simp only [impl_AreCrew.l0, hr, hw, InRange_eq, Option.bind_some, decide_eq_true_eq]; rw [if_pos (by omega), if_pos (by omega), if_pos (by omega)]
      simp only [stepAC]
      by_cases c1 : 1 ≤ x.f0 ∧ x.f0 ≤ 99
      · rw [if_pos c1]
        rcases Nat.eq_zero_or_pos i with h0 | h0
        · subst h0
          rw [if_neg (by omega)]
          by_cases c2 : 0 ≤ x.f1 ∧ x.f1 ≤ 100
          · rw [if_pos c2]
            by_cases c3 : 1 ≤ x.f2 ∧ x.f2 ≤ 10
            · rw [if_pos c3, if_pos (show okMember l _ x from ⟨c1, c2, c3, .inl rfl⟩)]; rfl
            · rw [if_neg c3, if_neg (show ¬ okMember l _ x from fun h => c3 h.2.2.1)]; rfl
          · rw [if_neg c2, if_neg (show ¬ okMember l _ x from fun h => c2 h.2.1)]; rfl
        · have hr' : rd_T49 l ((i - 1 : Nat) : Int) = l.getD (i - 1) z49 := getD_nat ..
          rw [if_pos (by omega), wrapd i h0 (by omega), if_pos (by omega), if_pos (by omega), hr']
          by_cases c4 : (l.getD (i - 1) z49).f0 < x.f0
          · rw [if_neg (by omega)]
            by_cases c2 : 0 ≤ x.f1 ∧ x.f1 ≤ 100
            · rw [if_pos c2]
              by_cases c3 : 1 ≤ x.f2 ∧ x.f2 ≤ 10
              · rw [if_pos c3, if_pos (show okMember l _ x from ⟨c1, c2, c3, .inr c4⟩)]; rfl
              · rw [if_neg c3, if_neg (show ¬ okMember l _ x from fun h => c3 h.2.2.1)]; rfl
            · rw [if_neg c2, if_neg (show ¬ okMember l _ x from fun h => c2 h.2.1)]; rfl
          · rw [if_pos (by omega), if_neg (show ¬ okMember l _ x from fun h => h.2.2.2.elim (by omega) c4)]; rfl
      · rw [if_neg c1, if_neg (show ¬ okMember l _ x from fun h => c1 h.1)]; rfl)
/-- What a crew is, member by member. -/
theorem runAC_iff (l0 : List S49) (b : Bool) : ∀ (t d : List S49), l0 = d ++ t → (run (stepAC l0) (fun _ => b) d.length () t = true ↔ (∀ i x, d.length ≤ i → l0[i]? = some x → okMember l0 i x) ∧ b = true)
  | [], d, h => by
    rw [run_nil]
    refine ⟨fun hb => ⟨fun i x hi hx => ?_, hb⟩, fun hb => hb.2⟩
    have := lt_of_get hx
    rw [h] at this
    simp at this
    omega
  | x :: t, d, h => by
    have hx : l0[d.length]? = some x := by rw [h]; simp
    by_cases c : okMember l0 d.length x
    · rw [run_inr (show stepAC l0 d.length () x = .inr () from if_pos c)]
      have ih := runAC_iff l0 b t (d ++ [x]) (by rw [h]; simp)
      rw [List.length_append, List.length_singleton] at ih
      rw [ih]
      refine ⟨fun hb => ⟨fun i y hi hy => ?_, hb.2⟩, fun hb => ⟨fun i y hi hy => hb.1 i y (by omega) hy, hb.2⟩⟩
      rcases Nat.lt_or_ge d.length i with h1 | h1
      · exact hb.1 i y (by omega) hy
      · obtain rfl : i = d.length := by omega
        rw [hx] at hy
        injection hy with hy
        exact hy ▸ c
    · rw [run_inl (show stepAC l0 d.length () x = .inl false from if_neg c)]
      exact ⟨fun hb => (by cases hb), fun hb => absurd (hb.1 d.length x (Nat.le_refl _) hx) c⟩
theorem mAreCrew_iff (l : List S49) : mAreCrew l = true ↔ (∀ i x, l[i]? = some x → okMember l i x) ∧ 1 ≤ l.length ∧ l.length ≤ 8 := by
  have h := runAC_iff l (decide (1 ≤ (l.length : Int) ∧ (l.length : Int) ≤ 8)) l [] rfl
  unfold mAreCrew
  rw [List.length_nil] at h
  rw [h, decide_eq_true_eq]
  exact ⟨fun h => ⟨fun i x hx => h.1 i x (Nat.zero_le _) hx, by omega⟩, fun h => ⟨fun i x _ hx => h.1 i x hx, by omega⟩⟩
theorem crew_member {l : List S49} (h : mAreCrew l = true) {x : S49} (hx : x ∈ l) : (1 ≤ x.f0 ∧ x.f0 ≤ 99) ∧ (0 ≤ x.f1 ∧ x.f1 ≤ 100) ∧ (1 ≤ x.f2 ∧ x.f2 ≤ 10) := by
  obtain ⟨i, hi, he⟩ := List.getElem_of_mem hx
  have := ((mAreCrew_iff l).1 h).1 i x (by rw [List.getElem?_eq_getElem hi, he])
  exact ⟨this.1, this.2.1, this.2.2.1⟩
def bedSum : List S45 → Int
  | [] => 0
  | x :: t => (x.f1 - (x.f2.length : Int)) + bedSum t
def mBeds (l : List S45) : Int := if mAreTents l = true then bedSum l else 0
theorem tent_in {l : List S45} (h : mAreTents l = true) {x : S45} (hx : x ∈ l) : (1 ≤ x.f1 ∧ x.f1 ≤ 6) ∧ (x.f2.length : Int) ≤ x.f1 := by
  obtain ⟨i, hi, he⟩ := List.getElem_of_mem hx
  have := (mAreTents_ok h).1 i x (by rw [List.getElem?_eq_getElem hi, he])
  exact ⟨this.2.1, this.2.2.1⟩
theorem implBF_down (l : List S45) (hl : l.length ≤ 1048576) (ha : mAreTents l = true) : ∀ (t d : List S45) (s : Int), l = d ++ t → 0 ≤ s → s ≤ 6 * d.length → Ev (fun k => impl_BedsFree.l0 k s l (l.length : Int) (d.length : Int)) (s + bedSum t)
  | [], d, s, h, h0, h1 => by
    have hlen : l.length = d.length := by rw [h]; simp
    refine Ev.step (f := fun _ => some (s + bedSum [])) (fun k => ?_) (Ev.now _)
    simp only [impl_BedsFree.l0, bedSum, Int.add_zero]
    rw [if_neg (by omega)]
  | x :: t, d, s, h, h0, h1 => by
    have h8 := (mAreTents_ok ha).2
    have hlen : l.length = d.length + (t.length + 1) := by rw [h]; simp
    have hx : l[d.length]? = some x := by rw [h]; simp
    have hr : rd_T45 l (d.length : Int) = x := getD_of z45 hx
    have ht := tent_in ha (x := x) (by rw [h]; simp)
    have ih := implBF_down l hl ha t (d ++ [x]) (s + (x.f1 - (x.f2.length : Int))) (by rw [h]; simp) (by omega) (by simp; omega)
    rw [List.length_append, List.length_singleton, show ((d.length + 1 : Nat) : Int) = (d.length : Int) + 1 from by omega] at ih
    have e : s + bedSum (x :: t) = s + (x.f1 - (x.f2.length : Int)) + bedSum t := by show s + ((x.f1 - (x.f2.length : Int)) + bedSum t) = _; omega
    rw [e]
    refine Ev.step (fun k => ?_) ih
    simp only [impl_BedsFree.l0, hr, wrapi d.length (by omega), wrap_id (n := x.f1 - (x.f2.length : Int)) (by omega) (by omega), wrap_id (n := s + (x.f1 - (x.f2.length : Int))) (by omega) (by omega)]
    rw [if_pos (by omega), if_pos (by omega), if_pos (by omega)]
theorem implBF_ev (l : List S45) (hl : l.length ≤ 1048576) : Ev (fun k => impl_BedsFree.f k l) (mBeds l) := by
  unfold impl_BedsFree.f mBeds
  refine Ev.bind (implAT_ev l hl) ?_
  by_cases ha : mAreTents l = true
  · simp only [ha, if_true]
    have := implBF_down l hl ha l [] 0 rfl (by omega) (by simp)
    rw [Int.zero_add] at this
    exact this
  · simp only [ha, if_false]
    exact Ev.now _
/-! ### Tents marked, and found so -/
def mkT : Nat → List S45 → List S45
  | _, [] => []
  | a, t :: ts => ⟨(a : Int), (a : Int) + 1, marksAt id 1 (a + 2) t.f2.length⟩ :: mkT (a + 2 + t.f2.length) ts
def cntT : Nat → List S45 → Nat
  | a, [] => a
  | a, t :: ts => cntT (a + 2 + t.f2.length) ts
theorem cntT_le : ∀ (ts : List S45) (a : Nat), a ≤ cntT a ts
  | [], a => Nat.le_refl a
  | t :: ts, a => Nat.le_trans (by omega) (cntT_le ts (a + 2 + t.f2.length))
theorem cntT_ge : ∀ (ts : List S45) (a : Nat), (∀ x ∈ ts, x.f2.length ≤ 1048576) → cntT a ts ≤ a + 1048578 * ts.length
  | [], a, _ => by simp [cntT]
  | t :: ts, a, h => by
    have h1 := h t (by simp)
    have h2 := cntT_ge ts (a + 2 + t.f2.length) (fun x hx => h x (by simp [hx]))
    simp only [cntT, List.length_cons]
    omega
theorem markInt_at (l : List Int) (m0 : Nat) (hm : m0 + l.length ≤ 4611686018427387904) : Ev (fun k => laws_markIntS.f k l (m0 : Int)) (((m0 + l.length : Nat) : Int), marksAt id 1 m0 l.length) := by
  have h := mark_loopAt (fun k xs m i => laws_markIntS.l0 k xs m i) id 1 m0 l.length (by omega) (by omega) l rfl
    (fun k xs m hx => by simp only [laws_markIntS.l0]; rw [if_neg (by omega)])
    (fun k xs m i hx hi h0 h1 hw => by
      have w1 : wrap64 (m + 1) = m + 1 := wrap_id (by omega) (by omega)
      simp only [laws_markIntS.l0, hw, w1, Int.toNat_natCast]; rw [if_pos (by omega), if_pos (by omega)]; rfl)
  rw [Nat.one_mul] at h
  exact h
theorem marksAt_get (m0 n i : Nat) (h : i < n) : (marksAt id 1 m0 n)[i]? = some ((m0 + i : Nat) : Int) := by
  simp [marksAt, List.getElem?_range h]
theorem marksAt_len (m0 n : Nat) : (marksAt (id : Int → Int) 1 m0 n).length = n := by simp [marksAt]
theorem heldInt_at (m0 n : Nat) (hm : m0 + n ≤ 4611686018427387904) : Ev (fun k => laws_heldIntS.f k (marksAt id 1 m0 n) (m0 : Int)) ((m0 + n : Nat) : Int) := by
  have key : ∀ (d i k : Nat), i + d = n → d < k → laws_heldIntS.l0 k (marksAt id 1 m0 n) ((m0 + i : Nat) : Int) (i : Int) = some ((m0 + n : Nat) : Int) := by
    intro d
    induction d with
    | zero =>
      intro i k hi hk
      obtain ⟨k, rfl⟩ : ∃ m, k = m + 1 := ⟨k - 1, by omega⟩
      obtain rfl : i = n := by omega
      simp only [laws_heldIntS.l0]
      rw [if_neg (by rw [marksAt_len]; omega)]
    | succ d ih =>
      intro i k hi hk
      obtain ⟨k, rfl⟩ : ∃ m, k = m + 1 := ⟨k - 1, by omega⟩
      have hr : rd (marksAt id 1 m0 n) (i : Int) = ((m0 + i : Nat) : Int) := getD_of 0 (marksAt_get m0 n i (by omega))
      have w1 : wrap64 (((m0 + i : Nat) : Int) + 1) = ((m0 + (i + 1) : Nat) : Int) := by rw [wrap_id (by omega) (by omega)]; omega
      have := ih (i + 1) k (by omega) (by omega)
      simp only [laws_heldIntS.l0, hr, w1, wrapi i (by omega)]
      rw [if_pos (by rw [marksAt_len]; omega), if_pos (by omega)]
      simpa using this
  exact ⟨n + 1, fun k hk => by simpa [laws_heldIntS.f] using key n 0 k (by omega) (by omega)⟩
theorem markT_down : ∀ (t d : List S45) (a : Nat), cntT a t ≤ 4611686018427387000 → d.length + t.length ≤ 4611686018427387904 → Ev (fun k => laws_markTentS.l0 k (d ++ t) (a : Int) (d.length : Int)) ((cntT a t : Int), d ++ mkT a t)
  | [], d, a, h, hl => by
    refine Ev.step (f := fun _ => some ((a : Int), d ++ [])) (fun k => ?_) (Ev.now _)
    simp only [laws_markTentS.l0]
    rw [if_neg (show ¬ ((d.length : Int) < ((d ++ ([] : List S45)).length : Int)) from by simp)]
  | x :: t, d, a, h, hl => by
    have hge := cntT_le t (a + 2 + x.f2.length)
    simp only [cntT] at h ⊢
    simp only [List.length_cons] at hl
    have hr : rd_T45 (d ++ x :: t) (d.length : Int) = x := getD_of z45 (by simp)
    have w1 : wrap64 ((a : Int) + 1) = (a : Int) + 1 := wrap_id (by omega) (by omega)
    have w2 : wrap64 ((a : Int) + 1 + 1) = ((a + 2 : Nat) : Int) := by rw [wrap_id (by omega) (by omega)]; omega
    refine Ev.step (f := fun k => (laws_markIntS.f k x.f2 ((a + 2 : Nat) : Int)).bind fun bt => laws_markTentS.l0 k ((d ++ x :: t).set d.length (⟨(a : Int), (a : Int) + 1, bt.2⟩ : S45)) bt.1 ((d.length : Int) + 1)) (fun k => ?_) ?_
    · simp only [laws_markTentS.l0, hr, w1, w2, wrapi d.length (by omega), Int.toNat_natCast]
      rw [if_pos (by simp only [List.length_append, List.length_cons]; omega), if_pos (by omega)]
    · refine Ev.bind (markInt_at x.f2 (a + 2) (by omega)) ?_
      have ih := markT_down t (d ++ [(⟨(a : Int), (a : Int) + 1, marksAt id 1 (a + 2) x.f2.length⟩ : S45)]) (a + 2 + x.f2.length) h (by simp only [List.length_append, List.length_singleton]; omega)
      rw [List.length_append, List.length_singleton, show ((d.length + 1 : Nat) : Int) = (d.length : Int) + 1 from by omega] at ih
      simp only [set_append d x _ t d.length rfl]
      simpa [mkT] using ih
theorem markTentS_ev (l : List S45) (hl : l.length ≤ 1048576) (hw : ∀ x ∈ l, x.f2.length ≤ 1048576) : Ev (fun k => laws_markTentS.f k l 1) ((cntT 1 l : Int), mkT 1 l) := by
  have h := markT_down l [] 1 (Nat.le_trans (cntT_ge l 1 hw) (by omega)) (by simp; omega)
  simpa [laws_markTentS.f] using h
theorem mkT_len : ∀ (l : List S45) (a : Nat), (mkT a l).length = l.length
  | [], _ => rfl
  | t :: ts, a => by simp [mkT, mkT_len ts]
theorem heldT_down : ∀ (t : List S45) (d : List S45) (a : Nat), cntT a t ≤ 4611686018427387000 → d.length + t.length ≤ 4611686018427387904 → Ev (fun k => laws_heldTentS.l0 k (d ++ mkT a t) (a : Int) (d.length : Int)) (cntT a t : Int)
  | [], d, a, h, hl => by
    refine Ev.step (f := fun _ => some (a : Int)) (fun k => ?_) (Ev.now _)
    simp only [laws_heldTentS.l0]
    rw [if_neg (show ¬ ((d.length : Int) < ((d ++ mkT a ([] : List S45)).length : Int)) from by simp [mkT])]
  | x :: t, d, a, h, hl => by
    have hge := cntT_le t (a + 2 + x.f2.length)
    simp only [cntT] at h ⊢
    simp only [List.length_cons] at hl
    simp only [mkT]
    have hr : rd_T45 (d ++ (⟨(a : Int), (a : Int) + 1, marksAt id 1 (a + 2) x.f2.length⟩ : S45) :: mkT (a + 2 + x.f2.length) t) (d.length : Int) = ⟨(a : Int), (a : Int) + 1, marksAt id 1 (a + 2) x.f2.length⟩ := getD_of z45 (by simp)
    have w1 : wrap64 ((a : Int) + 1) = (a : Int) + 1 := wrap_id (by omega) (by omega)
    have w2 : wrap64 ((a : Int) + 1 + 1) = ((a + 2 : Nat) : Int) := by rw [wrap_id (by omega) (by omega)]; omega
    refine Ev.step (f := fun k => (laws_heldIntS.f k (marksAt id 1 (a + 2) x.f2.length) ((a + 2 : Nat) : Int)).bind fun t139 => (if t139 < 0 then (some (-1)) else (laws_heldTentS.l0 k (d ++ (⟨(a : Int), (a : Int) + 1, marksAt id 1 (a + 2) x.f2.length⟩ : S45) :: mkT (a + 2 + x.f2.length) t) t139 ((d.length : Int) + 1)))) (fun k => ?_) ?_
    · simp only [laws_heldTentS.l0, hr, w1, w2, wrapi d.length (by omega), if_true]
      rw [if_pos (by simp only [List.length_append, List.length_cons]; omega), if_pos (by omega)]
    · refine Ev.bind (heldInt_at (a + 2) x.f2.length (by omega)) ?_
      have ih := heldT_down t (d ++ [(⟨(a : Int), (a : Int) + 1, marksAt id 1 (a + 2) x.f2.length⟩ : S45)]) (a + 2 + x.f2.length) h (by simp only [List.length_append, List.length_singleton]; omega)
      rw [List.length_append, List.length_singleton, show ((d.length + 1 : Nat) : Int) = (d.length : Int) + 1 from by omega] at ih
      simp only [show ¬ (((a + 2 + x.f2.length : Nat) : Int) < 0) from by omega, if_false]
      simpa using ih
theorem heldTentS_ev (l : List S45) (hl : l.length ≤ 1048576) (hw : ∀ x ∈ l, x.f2.length ≤ 1048576) : Ev (fun k => laws_heldTentS.f k (mkT 1 l) 1) (cntT 1 l : Int) := by
  have h := heldT_down l [] 1 (Nat.le_trans (cntT_ge l 1 hw) (by omega)) (by simp; omega)
  simpa [laws_heldTentS.f] using h
/-! ### Who sleeps where -/
def clr (x : S45) : S45 := ⟨x.f0, x.f1, []⟩
def fillT : List S45 → List Int → List S45
  | [], _ => []
  | t :: ts, p => ⟨t.f0, t.f1, p.take t.f1.toNat⟩ :: fillT ts (p.drop t.f1.toNat)
def sumN : List S45 → Nat
  | [] => 0
  | t :: ts => t.f1.toNat + sumN ts
def put1 (n : Int) : List S45 → List S45
  | [] => []
  | t :: ts => if (t.f2.length : Int) = t.f1 then t :: put1 n ts else ⟨t.f0, t.f1, t.f2 ++ [n]⟩ :: ts
theorem fillT_nil : ∀ ts : List S45, fillT ts [] = ts.map clr
  | [] => rfl
  | t :: ts => by simp [fillT, fillT_nil ts, clr]
theorem fillT_len : ∀ (ts : List S45) (p : List Int), (fillT ts p).length = ts.length
  | [], _ => rfl
  | t :: ts, p => by simp [fillT, fillT_len ts]
theorem fillT_who : ∀ (ts : List S45) (p : List Int), ∀ y ∈ fillT ts p, y.f2.length ≤ p.length
  | [], _, y, h => by cases h
  | t :: ts, p, y, h => by
    rcases List.mem_cons.1 h with rfl | h
    · simp only [List.length_take]; omega
    · have := fillT_who ts (p.drop t.f1.toNat) y h
      rw [List.length_drop] at this
      omega
theorem put1_fill (n : Int) : ∀ (ts : List S45) (p : List Int), (∀ x ∈ ts, 0 ≤ x.f1) → p.length < sumN ts → put1 n (fillT ts p) = fillT ts (p ++ [n])
  | [], p, _, h => by simp [sumN] at h
  | t :: ts, p, hf, h => by
    have h0 := hf t (by simp)
    simp only [sumN] at h
    simp only [fillT, put1, List.length_take]
    by_cases c : p.length < t.f1.toNat
    · rw [if_neg (by omega), List.take_of_length_le (by omega : p.length ≤ t.f1.toNat), List.take_of_length_le (by simp; omega : (p ++ [n]).length ≤ t.f1.toNat), List.drop_eq_nil_of_le (by omega : p.length ≤ t.f1.toNat), List.drop_eq_nil_of_le (by simp; omega : (p ++ [n]).length ≤ t.f1.toNat)]
    · rw [if_pos (by omega), put1_fill n ts (p.drop t.f1.toNat) (fun x hx => hf x (by simp [hx])) (by rw [List.length_drop]; omega), List.take_append_of_le_length (by omega), List.drop_append_of_le_length (by omega)]
theorem fill_free : ∀ (ts : List S45) (p : List Int), (∀ x ∈ ts, 0 ≤ x.f1) → p.length < sumN ts → ∃ y ∈ fillT ts p, (y.f2.length : Int) ≠ y.f1
  | [], p, _, h => by simp [sumN] at h
  | t :: ts, p, hf, h => by
    have h0 := hf t (by simp)
    simp only [sumN] at h
    by_cases c : p.length < t.f1.toNat
    · exact ⟨_, List.mem_cons_self, by simp only [List.length_take]; omega⟩
    · obtain ⟨y, hy, hn⟩ := fill_free ts (p.drop t.f1.toNat) (fun x hx => hf x (by simp [hx])) (by rw [List.length_drop]; omega)
      exact ⟨y, List.mem_cons_of_mem _ hy, hn⟩
theorem bedSum_clr : ∀ ts : List S45, (∀ x ∈ ts, 0 ≤ x.f1) → bedSum (ts.map clr) = (sumN ts : Int)
  | [], _ => rfl
  | t :: ts, h => by
    have h0 := h t (by simp)
    have ih := bedSum_clr ts (fun x hx => h x (by simp [hx]))
    simp only [List.map_cons, bedSum, sumN, ih, clr, List.length_nil]
    omega
theorem runAT_clr (l : List S45) (b : Bool) : ∀ (t : List S45) (i : Nat) (s : List Int), (∀ j x, t[j]? = some x → okTent (l.map clr) (i + j) (clr x)) → run (stepAT (l.map clr)) (fun _ => b) i s (t.map clr) = b
  | [], _, _, _ => rfl
  | x :: t, i, s, h => by
    have h0 := h 0 x rfl
    rw [Nat.add_zero] at h0
    rw [List.map_cons, run_inr (show stepAT (l.map clr) i s (clr x) = .inr s by simp only [stepAT, if_pos h0]; rfl)]
    exact runAT_clr l b t (i + 1) s (fun j y hy => by have := h (j + 1) y hy; rwa [show i + (j + 1) = i + 1 + j by omega] at this)
theorem mAreTents_clr {l : List S45} (h : mAreTents l = true) : mAreTents (l.map clr) = true := by
  obtain ⟨h1, h2⟩ := mAreTents_ok h
  unfold mAreTents
  rw [List.length_map, decide_eq_true (show (l.length : Int) ≤ 8 by omega)]
  refine runAT_clr l true l 0 [] (fun j x hx => ?_)
  rw [Nat.zero_add]
  obtain ⟨a, b, c, d⟩ := h1 j x hx
  refine ⟨a, b, ?_, ?_⟩
  · show ((0 : Nat) : Int) ≤ x.f1
    omega
  · rcases d with d | d
    · exact .inl d
    · right
      have hj := lt_of_get hx
      rw [List.getD_eq_getElem?_getD, List.getElem?_eq_getElem (by omega : j - 1 < l.length), Option.getD_some] at d
      rw [List.getD_eq_getElem?_getD, List.getElem?_map, List.getElem?_eq_getElem (by omega : j - 1 < l.length), Option.map_some, Option.getD_some]
      exact d
theorem tents_f1 {l : List S45} (h : mAreTents l = true) : ∀ x ∈ l, 1 ≤ x.f1 ∧ x.f1 ≤ 6 := fun x hx => (tent_in h hx).1
theorem sumN_le : ∀ ts : List S45, (∀ x ∈ ts, 1 ≤ x.f1 ∧ x.f1 ≤ 6) → sumN ts ≤ 6 * ts.length
  | [], _ => by simp [sumN]
  | t :: ts, h => by
    have h0 := h t (by simp)
    have := sumN_le ts (fun x hx => h x (by simp [hx]))
    simp only [sumN, List.length_cons]
    omega
def idsOf (c : List S49) : List Int := c.map fun x => x.f0
def mPutUp (l : List S45) (c : List S49) : List S45 × Bool := if mAreTents l = true ∧ mAreCrew c = true ∧ ¬ sumN l < c.length then (fillT l (idsOf c), true) else (l, false)
/-! ### PutUp, the program's -/
theorem copyOf_eq (l : List Int) (hl : l.length ≤ 1048576) : impl_copyOf.f l = some l := by
  simp only [impl_copyOf.f, Option.bind_some, List.nil_append, List.length_nil, Nat.zero_add]
  rw [if_pos (by omega)]
theorem implCopy_down (l : List S45) (hl : l.length ≤ 1048576) (hw : ∀ x ∈ l, x.f2.length ≤ 1048576) : ∀ (t d : List S45), l = d ++ t → Ev (fun k => impl_copyTents.l0 k d l (l.length : Int) (d.length : Int)) l
  | [], d, h => by
    refine Ev.step (f := fun _ => some d) (fun k => ?_) ?_
    · simp only [impl_copyTents.l0]
      rw [if_neg (by rw [h]; simp)]
    · rw [List.append_nil] at h
      rw [h]
      exact Ev.now _
  | x :: t, d, h => by
    have hlen : l.length = d.length + (t.length + 1) := by rw [h]; simp
    have hx : l[d.length]? = some x := by rw [h]; simp
    have hr : rd_T45 l (d.length : Int) = x := getD_of z45 hx
    have ih := implCopy_down l hl hw t (d ++ [x]) (by rw [h]; simp)
    rw [List.length_append, List.length_singleton, show ((d.length + 1 : Nat) : Int) = (d.length : Int) + 1 from by omega] at ih
    refine Ev.step (fun k => ?_) ih
    simp only [impl_copyTents.l0, hr, wrapi d.length (by omega), copyOf_eq x.f2 (hw x (List.mem_of_getElem? hx)), Option.bind_some]
    rw [if_pos (by omega), if_pos (by omega), if_pos (by omega), if_pos (by omega)]
theorem implCopy_ev (l : List S45) (hl : l.length ≤ 1048576) (hw : ∀ x ∈ l, x.f2.length ≤ 1048576) : Ev (fun k => impl_copyTents.f k l) l := implCopy_down l hl hw l [] rfl
theorem implClr_down (l : List S45) (hl : l.length ≤ 1048576) (c : List S49) (R : List S45 × Bool)
    (hR : Ev (fun k => (impl_BedsFree.f k (l.map clr)).bind fun t279 => (if t279 < (c.length : Int) then ((impl_copyTents.f k l).bind fun t280 => (some (t280, false))) else (impl_PutUp.l1 k (l.map clr) c (c.length : Int) 0))) R) :
    ∀ (t d : List S45), l = d ++ t → Ev (fun k => impl_PutUp.l0 k l c (d.map clr ++ t) (l.length : Int) (d.length : Int)) R
  | [], d, h => by
    refine Ev.step (fun k => ?_) hR
    rw [List.append_nil] at h
    subst h
    simp only [impl_PutUp.l0, List.append_nil]
    rw [if_neg (by omega)]
  | x :: t, d, h => by
    have hlen : l.length = d.length + (t.length + 1) := by rw [h]; simp
    have hr : rd_T45 (d.map clr ++ x :: t) (d.length : Int) = x := getD_of z45 (by simp)
    have ih := implClr_down l hl c R hR t (d ++ [x]) (by rw [h]; simp)
    rw [List.length_append, List.length_singleton, show ((d.length + 1 : Nat) : Int) = (d.length : Int) + 1 from by omega] at ih
    refine Ev.step (fun k => ?_) ih
    simp only [impl_PutUp.l0, hr, wrapi d.length (by omega), Int.toNat_natCast]
    rw [if_pos (by omega), if_pos (by omega), if_pos (by simp only [List.length_append, List.length_map, List.length_cons]; omega), set_append (d.map clr) x _ t d.length (by simp)]
    simp [clr]
theorem implPut_down (c : List S49) (n j : Int) (m0 m1 m2 : Int) (m3 : Bool) (R : List S45 × Bool) :
    ∀ (t d : List S45), d.length + t.length ≤ 1048576 → (∀ x ∈ t, x.f2.length ≤ 1048576) → (∃ y ∈ t, (y.f2.length : Int) ≠ y.f1) →
    Ev (fun k => impl_PutUp.l1 k (d ++ put1 m0 t) c n (wrap64 (j + 1))) R → Ev (fun k => impl_PutUp.l2 k (d ++ t) (d.length : Int) c n j m0 m1 m2 m3) R
  | [], d, _, _, h, _ => by obtain ⟨y, hy, _⟩ := h; cases hy
  | x :: t, d, hl, hw, h, hR => by
    simp only [List.length_cons] at hl
    have hr : rd_T45 (d ++ x :: t) (d.length : Int) = x := getD_of z45 (by simp)
    have hwx := hw x (by simp)
    by_cases cx : (x.f2.length : Int) = x.f1
    · have h' : ∃ y ∈ t, (y.f2.length : Int) ≠ y.f1 := by
        obtain ⟨y, hy, hn⟩ := h
        rcases List.mem_cons.1 hy with rfl | hy
        · exact absurd cx hn
        · exact ⟨y, hy, hn⟩
      have ih := implPut_down c n j m0 m1 m2 m3 R t (d ++ [x]) (by simp only [List.length_append, List.length_singleton]; omega) (fun y hy => hw y (by simp [hy])) h' (by simpa [put1, if_pos cx] using hR)
      rw [List.length_append, List.length_singleton, show ((d.length + 1 : Nat) : Int) = (d.length : Int) + 1 from by omega] at ih
      refine Ev.step (fun k => ?_) ih
      simp only [impl_PutUp.l2, hr, wrapi d.length (by omega)]
      rw [if_pos (by omega), if_pos (by simp only [List.length_append, List.length_cons]; omega), if_pos cx]
      simp
    · refine Ev.step (fun k => ?_) hR
      simp only [impl_PutUp.l2, hr, Int.toNat_natCast]
      rw [if_pos (by omega), if_pos (by simp only [List.length_append, List.length_cons]; omega), if_neg cx, if_pos (by omega), set_append d x _ t d.length rfl]
      simp [put1, if_neg cx]
theorem implFill_down (l : List S45) (hl : l.length ≤ 1048576) (hf : ∀ x ∈ l, 0 ≤ x.f1) (c : List S49) (hc : c.length ≤ 1048576) (hs : c.length ≤ sumN l) : ∀ (n j : Nat), j + n = c.length →
    Ev (fun k => impl_PutUp.l1 k (fillT l ((idsOf c).take j)) c (c.length : Int) (j : Int)) (fillT l (idsOf c), true)
  | 0, j, h => by
    refine Ev.step (f := fun _ => some (fillT l (idsOf c), true)) (fun k => ?_) (Ev.now _)
    simp only [impl_PutUp.l1]
    rw [if_neg (by omega), List.take_of_length_le (by simp [idsOf]; omega)]
  | n + 1, j, h => by
    have hj : j < c.length := by omega
    have hx : c[j]? = some c[j] := List.getElem?_eq_getElem hj
    have hr : rd_T49 c (j : Int) = c[j] := getD_of z49 hx
    have hlen : ((idsOf c).take j).length = j := by simp [idsOf]; omega
    have hput : put1 c[j].f0 (fillT l ((idsOf c).take j)) = fillT l ((idsOf c).take (j + 1)) := by
      rw [put1_fill _ _ _ hf (by omega), List.take_add_one, show (idsOf c)[j]? = some c[j].f0 from by simp [idsOf, hj]]
      rfl
    have ih := implFill_down l hl hf c hc hs n (j + 1) (by omega)
    rw [show ((j + 1 : Nat) : Int) = (j : Int) + 1 from by omega] at ih
    refine Ev.step (f := fun k => impl_PutUp.l2 k (fillT l ((idsOf c).take j)) 0 c (c.length : Int) (j : Int) c[j].f0 c[j].f1 c[j].f2 c[j].f3) (fun k => ?_) ?_
    · simp only [impl_PutUp.l1, hr]
      rw [if_pos (by omega), if_pos (by omega), if_pos (by omega)]
    · refine implPut_down c (c.length : Int) (j : Int) _ _ _ _ _ (fillT l ((idsOf c).take j)) [] (by simp [fillT_len]; omega) (fun x hx => Nat.le_trans (fillT_who _ _ x hx) (by omega)) (fill_free _ _ hf (by omega)) ?_
      rw [List.nil_append, hput, wrapi j (by omega)]
      exact ih
theorem implPutUp_ev (l : List S45) (hl : l.length ≤ 1048576) (hw : ∀ x ∈ l, x.f2.length ≤ 1048576) (c : List S49) (hc : c.length ≤ 1048576) : Ev (fun k => impl_PutUp.f k l c) (mPutUp l c) := by
  unfold impl_PutUp.f
  refine Ev.bind (implCopy_ev l hl hw) ?_
  refine Ev.bind (implAT_ev l hl) ?_
  have no : ∀ b : Bool, b = true → ¬ (mAreTents l = true ∧ mAreCrew c = true ∧ ¬ sumN l < c.length) → Ev (fun k => impl_PutUp.j0 k l c l b) (mPutUp l c) := by
    intro b hb hn
    refine Ev.step (f := fun _ => some (l, false)) (fun k => ?_) ?_
    · simp only [impl_PutUp.j0, hb, if_true]
    · unfold mPutUp
      rw [if_neg hn]
      exact Ev.now _
  by_cases ha : mAreTents l = true
  · simp only [ha, if_true]
    refine Ev.bind (ev_at (implAC_at c (by omega))) ?_
    by_cases hcr : mAreCrew c = true
    · simp only [hcr, Bool.not_true]
      refine Ev.step (f := fun k => impl_PutUp.l0 k l c l (l.length : Int) 0) (fun k => by simp only [impl_PutUp.j0, Bool.false_eq_true, if_false]) ?_
      have hf : ∀ x ∈ l, 0 ≤ x.f1 := fun x hx => by have := tents_f1 ha x hx; omega
      refine implClr_down l hl c _ ?_ l [] rfl
      refine Ev.bind (implBF_ev (l.map clr) (by simpa using hl)) ?_
      rw [show mBeds (l.map clr) = (sumN l : Int) from by unfold mBeds; rw [if_pos (mAreTents_clr ha), bedSum_clr l hf]]
      unfold mPutUp
      by_cases hs : sumN l < c.length
      · rw [if_neg (fun h => h.2.2 hs)]
        simp only [show ((sumN l : Int) < (c.length : Int)) from by omega, if_true]
        exact Ev.bind (implCopy_ev l hl hw) (Ev.now _)
      · rw [if_pos ⟨ha, hcr, hs⟩]
        simp only [show ¬ ((sumN l : Int) < (c.length : Int)) from by omega, if_false]
        have h := implFill_down l hl hf c hc (by omega) c.length 0 (by omega)
        rw [List.take_zero, fillT_nil] at h
        exact h
    · simp only [hcr, Bool.not_false]
      exact no true rfl (fun h => hcr h.2.1)
  · simp only [ha, if_false]
    exact no true rfl (fun h => ha h.1)
/-! ### PutUp, the reference's -/
theorem specCopy_down (l : List S45) (hl : l.length ≤ 1048576) (hw : ∀ x ∈ l, x.f2.length ≤ 1048576) : ∀ (t d : List S45), l = d ++ t → Ev (fun k => spec_l23Copy.l0 k l d (d.length : Int)) l
  | [], d, h => by
    refine Ev.step (f := fun _ => some d) (fun k => ?_) ?_
    · simp only [spec_l23Copy.l0]
      rw [if_neg (by rw [h]; simp)]
    · rw [List.append_nil] at h
      rw [h]
      exact Ev.now _
  | x :: t, d, h => by
    have hlen : l.length = d.length + (t.length + 1) := by rw [h]; simp
    have hx : l[d.length]? = some x := by rw [h]; simp
    have hr : rd_T45 l (d.length : Int) = x := getD_of z45 hx
    have hwx := hw x (List.mem_of_getElem? hx)
    have ih := specCopy_down l hl hw t (d ++ [x]) (by rw [h]; simp)
    rw [List.length_append, List.length_singleton, show ((d.length + 1 : Nat) : Int) = (d.length : Int) + 1 from by omega] at ih
    refine Ev.step (fun k => ?_) ih
    simp only [spec_l23Copy.l0, hr, wrapi d.length (by omega), Option.bind_some, List.nil_append, List.length_nil, Nat.zero_add]
    rw [if_pos (by omega), if_pos (by omega), if_pos (by omega), if_pos (by omega)]
theorem specCopy_ev (l : List S45) (hl : l.length ≤ 1048576) (hw : ∀ x ∈ l, x.f2.length ≤ 1048576) : Ev (fun k => spec_l23Copy.f k l) l := specCopy_down l hl hw l [] rfl
theorem specClr_down (l0 l : List S45) (hl : l.length ≤ 1048576) (c : List S49) (R : List S45 × Bool) (hR : Ev (fun k => spec_PutUp.l1 k l0 c (l.map clr) 0 0) R) :
    ∀ (t d : List S45), l = d ++ t → Ev (fun k => spec_PutUp.l0 k l0 c (d.map clr ++ t) (d.length : Int)) R
  | [], d, h => by
    refine Ev.step (fun k => ?_) hR
    rw [List.append_nil] at h
    subst h
    simp only [spec_PutUp.l0, List.append_nil]
    rw [if_neg (by simp)]
  | x :: t, d, h => by
    have hlen : l.length = d.length + (t.length + 1) := by rw [h]; simp
    have hr : rd_T45 (d.map clr ++ x :: t) (d.length : Int) = x := getD_of z45 (by simp)
    have ih := specClr_down l0 l hl c R hR t (d ++ [x]) (by rw [h]; simp)
    rw [List.length_append, List.length_singleton, show ((d.length + 1 : Nat) : Int) = (d.length : Int) + 1 from by omega] at ih
    refine Ev.step (fun k => ?_) ih
    simp only [spec_PutUp.l0, hr, wrapi d.length (by omega), Int.toNat_natCast]
    rw [if_pos (by simp only [List.length_append, List.length_map, List.length_cons]; omega), if_pos (by omega), set_append (d.map clr) x _ t d.length (by simp)]
    simp [clr]
/-- The end: what is answered where no tent is left, or the arguments are no plan. -/
theorem specEnd (l x6 : List S45) (hl : l.length ≤ 1048576) (hw : ∀ x ∈ l, x.f2.length ≤ 1048576) (c : List S49) (hc : c.length ≤ 1048576) (j : Nat) (x9 : Int) :
    Ev (fun k => spec_PutUp.j2 k l c x6 (j : Int) x9 false) (if j < c.length ∨ ¬ (mAreTents l = true ∧ mAreCrew c = true) then (l, false) else (x6, true)) := by
  refine Ev.step (f := fun k => if (j : Int) < (c.length : Int) then ((spec_l23Copy.f k l).bind fun t202 => (some (t202, false))) else ((spec_AreTents.f k l).bind fun t205 => (if t205 = true then ((spec_AreCrew.f k c).bind fun t206 => (if t206 = true then (some (x6, true)) else ((spec_l23Copy.f k l).bind fun t207 => (some (t207, false))))) else ((spec_l23Copy.f k l).bind fun t210 => (some (t210, false)))))) (fun k => by simp only [spec_PutUp.j2, Bool.false_eq_true, if_false]) ?_
  have hcp : Ev (fun k => (spec_l23Copy.f k l).bind fun t => some (t, false)) (l, false) := Ev.bind (specCopy_ev l hl hw) (Ev.now _)
  by_cases h : j < c.length
  · simp only [show ((j : Int) < (c.length : Int)) from by omega, if_true]
    rw [if_pos (.inl h)]
    exact hcp
  · simp only [show ¬ ((j : Int) < (c.length : Int)) from by omega, if_false]
    refine Ev.bind (specAT_ev l hl) ?_
    by_cases ha : mAreTents l = true
    · simp only [ha, if_true]
      refine Ev.bind (ev_at (specAC_at c (by omega))) ?_
      by_cases hcr : mAreCrew c = true
      · simp only [hcr, if_true]
        rw [if_neg (by simp [h])]
        exact Ev.now _
      · simp only [hcr, if_false]
        rw [if_pos (by simp)]
        exact hcp
    · simp only [ha, if_false]
      rw [if_pos (by simp [ha])]
      exact hcp
theorem specNext (l x6 : List S45) (hl : l.length ≤ 1048576) (c : List S49) (hc : c.length ≤ 1048576) (j : Int) (i : Nat) (R : List S45 × Bool)
    (hR : Ev (fun k => spec_PutUp.j2 k l c x6 j (i : Int) (decide (i < x6.length ∧ mAreTents l = true ∧ mAreCrew c = true))) R) : Ev (fun k => spec_PutUp.l1 k l c x6 j (i : Int)) R := by
  by_cases h : i < x6.length
  · refine Ev.step (f := fun k => (spec_AreTents.f k l).bind fun t192 => (if t192 = true then ((spec_AreCrew.f k c).bind fun t193 => (spec_PutUp.j2 k l c x6 j (i : Int) t193)) else (spec_PutUp.j2 k l c x6 j (i : Int) false))) (fun k => by simp only [spec_PutUp.l1]; rw [if_pos (by omega)]) ?_
    refine Ev.bind (specAT_ev l hl) ?_
    by_cases ha : mAreTents l = true
    · simp only [ha, if_true]
      refine Ev.bind (ev_at (specAC_at c (by omega))) ?_
      simp only [h, ha, true_and, Bool.decide_eq_true] at hR
      exact hR
    · simp only [ha, if_false]
      simp only [h, ha, false_and, and_false, decide_false] at hR
      exact hR
  · refine Ev.step (f := fun k => spec_PutUp.j2 k l c x6 j (i : Int) false) (fun k => by simp only [spec_PutUp.l1]; rw [if_neg (by omega)]) ?_
    simp only [h, false_and, decide_false] at hR
    exact hR
/-- One tent is filled. -/
theorem specTent (l : List S45) (c : List S49) (hc : c.length ≤ 1048576) (d t : List S45) (hd : d.length ≤ 1048576) (f0 f1 : Int) (hf1 : f1 ≤ 6) (R : List S45 × Bool) : ∀ (n j : Nat) (w : List Int), (w.length : Int) ≤ f1 → f1 = w.length + (n : Nat) →
    Ev (fun k => spec_PutUp.l1 k l c (d ++ ⟨f0, f1, w ++ ((idsOf c).drop j).take n⟩ :: t) ((j + min n (c.length - j) : Nat) : Int) ((d.length + 1 : Nat) : Int)) R →
    Ev (fun k => spec_PutUp.l2 k l c (d ++ ⟨f0, f1, w⟩ :: t) (j : Int) (d.length : Int)) R := by
  intro n
  induction n with
  | zero =>
    intro j w h0 h1 hR
    have hr : rd_T45 (d ++ (⟨f0, f1, w⟩ : S45) :: t) (d.length : Int) = ⟨f0, f1, w⟩ := getD_of z45 (by simp)
    refine Ev.step (fun k => ?_) hR
    simp only [spec_PutUp.l2, hr, wrapi d.length (by omega)]
    rw [if_pos (by omega), if_pos (by simp only [List.length_append, List.length_cons]; omega), if_neg (by omega)]
    simp
  | succ n ih =>
    intro j w h0 h1 hR
    have hr : rd_T45 (d ++ (⟨f0, f1, w⟩ : S45) :: t) (d.length : Int) = ⟨f0, f1, w⟩ := getD_of z45 (by simp)
    by_cases hj : j < c.length
    · have hx : c[j]? = some c[j] := List.getElem?_eq_getElem hj
      have hrc : rd_T49 c (j : Int) = c[j] := getD_of z49 hx
      have hdr : (idsOf c).drop j = c[j].f0 :: (idsOf c).drop (j + 1) := by
        rw [List.drop_eq_getElem_cons (by simp [idsOf]; exact hj)]
        simp [idsOf]
      have e2 : j + 1 + min n (c.length - (j + 1)) = j + min (n + 1) (c.length - j) := by omega
      have := ih (j + 1) (w ++ [c[j].f0]) (by simp; omega) (by simp; omega) (by
        rw [e2]
        rw [hdr, List.take_succ_cons] at hR
        simpa using hR)
      rw [show ((j + 1 : Nat) : Int) = (j : Int) + 1 from by omega] at this
      refine Ev.step (fun k => ?_) this
      simp only [spec_PutUp.l2, hr, hrc, wrapi j (by omega), Int.toNat_natCast]
      rw [if_pos (by omega), if_pos (by simp only [List.length_append, List.length_cons]; omega), if_pos (by omega), if_pos (by omega), if_pos (by omega), if_pos (by omega), set_append d _ _ t d.length rfl]
      simp
    · have e1 : (idsOf c).drop j = [] := List.drop_eq_nil_of_le (by simp [idsOf]; omega)
      rw [e1, List.take_nil, List.append_nil, show j + min (n + 1) (c.length - j) = j by omega] at hR
      refine Ev.step (fun k => ?_) hR
      simp only [spec_PutUp.l2, hr, wrapi d.length (by omega)]
      rw [if_pos (by omega), if_pos (by simp only [List.length_append, List.length_cons]; omega), if_pos (by omega), if_neg (by omega)]
      simp
theorem specFill (l : List S45) (hl : l.length ≤ 1048576) (hw : ∀ x ∈ l, x.f2.length ≤ 1048576) (c : List S49) (hc : c.length ≤ 1048576) (ha : mAreTents l = true) (hcr : mAreCrew c = true) : ∀ (ts d : List S45) (j : Nat), (∀ x ∈ ts, 1 ≤ x.f1 ∧ x.f1 ≤ 6) → d.length + ts.length ≤ 1048576 → j ≤ c.length →
    Ev (fun k => spec_PutUp.l1 k l c (d ++ ts.map clr) (j : Int) (d.length : Int)) (if sumN ts < c.length - j then (l, false) else (d ++ fillT ts ((idsOf c).drop j), true))
  | [], d, j, _, hd, hj => by
    refine specNext l _ hl c hc _ d.length _ ?_
    rw [decide_eq_false (by simp)]
    have h := specEnd l (d ++ [].map clr) hl hw c hc j (d.length : Int)
    rw [show (if sumN ([] : List S45) < c.length - j then (l, false) else (d ++ fillT [] ((idsOf c).drop j), true)) = (if j < c.length ∨ ¬ (mAreTents l = true ∧ mAreCrew c = true) then (l, false) else (d ++ [].map clr, true)) from by
      by_cases h : j < c.length
      · rw [if_pos (show sumN ([] : List S45) < c.length - j from by simp only [sumN]; omega), if_pos (.inl h)]
      · rw [if_neg (show ¬ (sumN ([] : List S45) < c.length - j) from by simp only [sumN]; omega), if_neg (by simp [h, ha, hcr])]
        rfl]
    exact h
  | t :: ts, d, j, hf, hd, hj => by
    have ht := hf t (by simp)
    simp only [List.length_cons] at hd
    refine specNext l _ hl c hc _ d.length _ ?_
    rw [decide_eq_true ⟨by simp, ha, hcr⟩]
    refine Ev.step (f := fun k => spec_PutUp.l2 k l c (d ++ (t :: ts).map clr) (j : Int) (d.length : Int)) (fun k => by simp only [spec_PutUp.j2, if_true]) ?_
    refine specTent l c hc d (ts.map clr) (by omega) t.f0 t.f1 (by omega) _ t.f1.toNat j [] (by simp; omega) (by simp; omega) ?_
    have ih := specFill l hl hw c hc ha hcr ts (d ++ [⟨t.f0, t.f1, ((idsOf c).drop j).take t.f1.toNat⟩]) (j + min t.f1.toNat (c.length - j)) (fun x hx => hf x (by simp [hx])) (by simp only [List.length_append, List.length_singleton]; omega) (by omega)
    have hdd : (idsOf c).drop (j + min t.f1.toNat (c.length - j)) = ((idsOf c).drop j).drop t.f1.toNat := by
      rw [List.drop_drop]
      by_cases h : t.f1.toNat ≤ c.length - j
      · rw [Nat.min_eq_left h]
      · rw [List.drop_eq_nil_of_le (by simp [idsOf]; omega), List.drop_eq_nil_of_le (by simp [idsOf]; omega)]
    rw [hdd, List.length_append, List.length_singleton] at ih
    have e : (if sumN ts < c.length - (j + min t.f1.toNat (c.length - j)) then (l, false) else (d ++ [⟨t.f0, t.f1, ((idsOf c).drop j).take t.f1.toNat⟩] ++ fillT ts (((idsOf c).drop j).drop t.f1.toNat), true)) = (if sumN (t :: ts) < c.length - j then (l, false) else (d ++ fillT (t :: ts) ((idsOf c).drop j), true)) := by
      by_cases h : t.f1.toNat + sumN ts < c.length - j
      · rw [if_pos (show sumN (t :: ts) < c.length - j from h), if_pos (by omega)]
      · rw [if_neg (show ¬ (sumN (t :: ts) < c.length - j) from h), if_neg (by omega)]
        simp [fillT]
    rw [e] at ih
    simpa using ih
theorem specPutUp_ev (l : List S45) (hl : l.length ≤ 1048576) (hw : ∀ x ∈ l, x.f2.length ≤ 1048576) (c : List S49) (hc : c.length ≤ 1048576) : Ev (fun k => spec_PutUp.f k l c) (mPutUp l c) := by
  unfold spec_PutUp.f
  refine Ev.bind (specCopy_ev l hl hw) ?_
  refine specClr_down l l hl c _ ?_ l [] rfl
  by_cases h : mAreTents l = true ∧ mAreCrew c = true
  · have hs := specFill l hl hw c hc h.1 h.2 l [] 0 (tents_f1 h.1) (by simp; omega) (by omega)
    have e : mPutUp l c = (if sumN l < c.length - 0 then (l, false) else ([] ++ fillT l ((idsOf c).drop 0), true)) := by
      unfold mPutUp
      by_cases hn : sumN l < c.length
      · rw [if_neg (fun h => h.2.2 hn), if_pos (by omega)]
      · rw [if_pos ⟨h.1, h.2, hn⟩, if_neg (by omega)]
        simp
    rw [e]
    exact hs
  · have hs := specNext l (l.map clr) hl c hc 0 0 (mPutUp l c) (by
      rw [decide_eq_false (fun h' => h h'.2)]
      have := specEnd l (l.map clr) hl hw c hc 0 0
      rw [if_pos (.inr h)] at this
      unfold mPutUp
      rw [if_neg (fun h' => h ⟨h'.1, h'.2.1⟩)]
      exact this)
    exact hs
theorem Ev.guard {α : Type} {P : Nat → Prop} [∀ k, Decidable (P k)] {A : Nat → Option α} {r : α} (hP : ∃ K, ∀ k, K ≤ k → P k) (hA : Ev A r) : Ev (fun k => if P k then A k else none) r := by
  obtain ⟨K, hP⟩ := hP
  obtain ⟨K', hA⟩ := hA
  exact ⟨max K K', fun k hk => by
    show (if P k then A k else none) = some r
    rw [if_pos (hP k (by omega))]
    exact hA k (by omega)⟩
theorem mPutUp_who (l : List S45) (c : List S49) (hw : ∀ x ∈ l, x.f2.length ≤ 1048576) (hc : c.length ≤ 1048576) : ∀ x ∈ (mPutUp l c).1, x.f2.length ≤ 1048576 := by
  intro x hx
  unfold mPutUp at hx
  split at hx
  · have := fillT_who l (idsOf c) x hx
    simp only [idsOf, List.length_map] at this
    omega
  · exact hw x hx
theorem mPutUp_len (l : List S45) (c : List S49) : (mPutUp l c).1.length = l.length := by
  unfold mPutUp
  split
  · exact fillT_len l (idsOf c)
  · rfl
end FnExactPutUpPf
open FnExactPutUpPf
theorem FnExactPutUp : ∀ (l0 : List S53) (l1 : List S60), l0.length ≤ maxLen → (∀ y ∈ l0, (I64 y.f0 ∧ I64 y.f1 ∧ (y.f2.length ≤ maxLen ∧ ∀ x ∈ y.f2, I64 x))) → l1.length ≤ maxLen → (∀ y ∈ l1, (I64 y.f0 ∧ I64 y.f1 ∧ I64 y.f2 ∧ True)) → ∃ k, laws_FnExactPutUp.f k l0 l1 = some true := by
  intro l0 l1 hl hy hl1 _
  apply Ev.rounds (g := fun k => laws_FnExactPutUp.f k l0 l1)
  unfold laws_FnExactPutUp.f
  obtain ⟨r, hr, hb, hle⟩ := szTentS_ok l0 1048576 hl (fun x hx => (hy x hx).2.2.1) (by omega) (by omega)
  refine Ev.bind hr ?_
  by_cases h : r < 0
  · simp only [if_pos h]; exact Ev.now _
  · simp only [if_neg h]
    obtain ⟨b1, b2, _⟩ := hb h
    simp only [szMemberS_eq l1 r hl1 (by omega) (by omega), Option.bind_some]
    by_cases h2 : r - (l1.length : Int) < 0
    · simp only [if_pos h2, show ((-1 : Int) < 0) from by omega, if_true]; exact Ev.now _
    · simp only [if_neg h2]
      have hlen : (l0.map cvTent).length = l0.length := List.length_map ..
      have hlen1 : (l1.map cvMember).length = l1.length := List.length_map ..
      have hwho := cvTent_who l0 b2
      refine Ev.bind (toTentS_ev l0 b1 b2) ?_
      refine Ev.bind (toMemberS_ev l1 (by omega)) ?_
      refine Ev.bind (specPutUp_ev _ (by omega) hwho _ (by omega)) ?_
      refine Ev.bind (implPutUp_ev _ (by omega) hwho _ (by omega)) ?_
      have hgw := mPutUp_who (l0.map cvTent) (l1.map cvMember) hwho (by omega)
      have hgl := mPutUp_len (l0.map cvTent) (l1.map cvMember)
      refine Ev.guard ?_ ?_
      · obtain ⟨K1, e1⟩ := eqTentS_ev (mPutUp (l0.map cvTent) (l1.map cvMember)).1 (by omega) hgw
        obtain ⟨K2, e2⟩ := eqTentS_ev (l0.map cvTent) (by omega) hwho
        obtain ⟨K3, e3⟩ := eqMemberS_ev (l1.map cvMember) (by omega)
        exact ⟨max K1 (max K2 K3), fun k hk => ⟨e1 k (by omega), rfl, e2 k (by omega), e3 k (by omega)⟩⟩
      · refine Ev.bind (markTentS_ev _ (by omega) hwho) ?_
        have hcl := cntT_ge (l0.map cvTent) 1 hwho
        refine Ev.bind (markMemberS_at _ (cntT 1 (l0.map cvTent)) (by omega) (by omega)) ?_
        simp only [show ¬ (((cntT 1 (l0.map cvTent) + 4 * (l1.map cvMember).length : Nat) : Int) < 0) from by omega, if_false]
        refine Ev.bind (markTentS_ev _ (by omega) hgw) ?_
        refine Ev.guard ?_ (Ev.now _)
        obtain ⟨K, e⟩ := heldTentS_ev (mPutUp (l0.map cvTent) (l1.map cvMember)).1 (by omega) hgw
        exact ⟨K, fun k hk => ⟨e k hk, by omega⟩⟩
end Go.Proofs.Ytnghncedinngoaa.Pure
