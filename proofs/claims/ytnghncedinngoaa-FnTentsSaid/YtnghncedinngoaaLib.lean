/- Plain lemmas on loops over lists, for the pure statements: what a printed loop comes to, told by a step function over the list. No program in sight. -/
import Derived.Test.YtnghncedinngoaaWWords
namespace Go.Proofs.Ytnghncedinngoaa.Lib
open Go.RowKit Go.Proofs.YtnghncedinngoaaW.PrintWords

theorem lt_of_get {α : Type} {xs : List α} {i : Nat} {x : α} (h : xs[i]? = some x) : i < xs.length := (List.getElem?_eq_some_iff.1 h).1
theorem getD_of {α : Type} {xs : List α} {i : Nat} {x : α} (z : α) (h : xs[i]? = some x) : xs.getD (i : Int).toNat z = x := by
  rw [Int.toNat_natCast, List.getD_eq_getElem?_getD, h, Option.getD_some]
theorem wrapi (i : Nat) (h : i ≤ 4611686018427387904) : wrap64 ((i : Int) + 1) = (i : Int) + 1 := by
  unfold wrap64
  omega
theorem wrapd (i : Nat) (h0 : 0 < i) (h : i ≤ 4611686018427387904) : wrap64 ((i : Int) - 1) = ((i - 1 : Nat) : Int) := by
  unfold wrap64
  omega
theorem getD_nat {α : Type} (xs : List α) (i : Nat) (z : α) : xs.getD (i : Int).toNat z = xs.getD i z := by rw [Int.toNat_natCast]
theorem getD_get {α : Type} {xs : List α} {i : Nat} {x : α} (z : α) (h : xs[i]? = some x) : xs.getD i z = x := by
  rw [List.getD_eq_getElem?_getD, h, Option.getD_some]
theorem wrap_id {n : Int} (h0 : -9223372036854775808 ≤ n) (h1 : n ≤ 9223372036854775807) : wrap64 n = n := by
  unfold wrap64
  omega

/-! ### A loop that reads a list from left to right -/
def run {σ α ρ : Type} (f : Nat → σ → α → ρ ⊕ σ) (fin : σ → ρ) : Nat → σ → List α → ρ
  | _, s, [] => fin s
  | i, s, x :: t => match f i s x with
    | .inl r => r
    | .inr s' => run f fin (i + 1) s' t
theorem run_cons {σ α ρ : Type} (f : Nat → σ → α → ρ ⊕ σ) (fin : σ → ρ) (i : Nat) (s : σ) (x : α) (t : List α) : run f fin i s (x :: t) = Sum.elim id (fun s' => run f fin (i + 1) s' t) (f i s x) := by
  conv => lhs; unfold run
  cases f i s x <;> rfl
theorem run_nil {σ α ρ : Type} (f : Nat → σ → α → ρ ⊕ σ) (fin : σ → ρ) (i : Nat) (s : σ) : run f fin i s [] = fin s := rfl
theorem run_inl {σ α ρ : Type} {f : Nat → σ → α → ρ ⊕ σ} {fin : σ → ρ} {i : Nat} {s : σ} {x : α} {t : List α} {r : ρ} (h : f i s x = .inl r) : run f fin i s (x :: t) = r := by rw [run_cons, h]; rfl
theorem run_inr {σ α ρ : Type} {f : Nat → σ → α → ρ ⊕ σ} {fin : σ → ρ} {i : Nat} {s s' : σ} {x : α} {t : List α} (h : f i s x = .inr s') : run f fin i s (x :: t) = run f fin (i + 1) s' t := by rw [run_cons, h]; rfl
/-- From some number of rounds on (told: which), the loop comes to what the list recursion comes to. -/
theorem list_loop {σ α ρ : Type} (L : Nat → σ → Int → Option ρ) (xs : List α) (f : Nat → σ → α → ρ ⊕ σ) (fin : σ → ρ) (K : Nat) (hn : xs.length ≤ 4611686018427387904)
    (hend : ∀ k s, K ≤ k → L (k + 1) s (xs.length : Int) = some (fin s))
    (hstep : ∀ (k : Nat) (s : σ) (i : Nat) (x : α), K ≤ k → xs[i]? = some x → wrap64 ((i : Int) + 1) = (i : Int) + 1 → L (k + 1) s (i : Int) = Sum.elim some (fun s' => L k s' ((i : Int) + 1)) (f i s x)) :
    ∀ (t : List α) (i k : Nat) (s : σ), xs.drop i = t → i + t.length = xs.length → t.length + K < k → L k s (i : Int) = some (run f fin i s t) := by
  intro t
  induction t with
  | nil =>
    intro i k s _ hi hk
    obtain ⟨k, rfl⟩ : ∃ m, k = m + 1 := ⟨k - 1, by simp at hk; omega⟩
    simp only [List.length_nil, Nat.add_zero] at hi hk
    rw [hi]
    exact hend k s (by omega)
  | cons x t ih =>
    intro i k s hd hi hk
    obtain ⟨k, rfl⟩ : ∃ m, k = m + 1 := ⟨k - 1, by simp at hk; omega⟩
    simp only [List.length_cons] at hi hk
    have hx : xs[i]? = some x := by
      have h := congrArg (fun l => l[0]?) hd
      simpa using h
    have hd' : xs.drop (i + 1) = t := by
      rw [← List.drop_drop, hd]
      rfl
    rw [hstep k s i x (by omega) hx (wrapi i (by omega))]
    unfold run
    cases hf : f i s x with
    | inl r => rfl
    | inr s' => exact ih (i + 1) k s' hd' (by omega) (by omega)
theorem ev_loop {σ α ρ : Type} (L : Nat → σ → Int → Option ρ) (xs : List α) (f : Nat → σ → α → ρ ⊕ σ) (fin : σ → ρ) (hn : xs.length ≤ 4611686018427387904) (s : σ)
    (h : ∃ K, (∀ k s, K ≤ k → L (k + 1) s (xs.length : Int) = some (fin s)) ∧
      ∀ (k : Nat) (s : σ) (i : Nat) (x : α), K ≤ k → xs[i]? = some x → wrap64 ((i : Int) + 1) = (i : Int) + 1 → L (k + 1) s (i : Int) = Sum.elim some (fun s' => L k s' ((i : Int) + 1)) (f i s x)) :
    Ev (fun k => L k s 0) (run f fin 0 s xs) := by
  obtain ⟨K, hend, hstep⟩ := h
  exact ⟨xs.length + K + 1, fun k hk => list_loop L xs f fin K hn hend hstep xs 0 k s rfl (by simp) (by omega)⟩
/-- The same, nothing in a round needing rounds of its own. -/
theorem ev_loop0 {σ α ρ : Type} (L : Nat → σ → Int → Option ρ) (xs : List α) (f : Nat → σ → α → ρ ⊕ σ) (fin : σ → ρ) (hn : xs.length ≤ 4611686018427387904) (s : σ)
    (hend : ∀ k s, L (k + 1) s (xs.length : Int) = some (fin s))
    (hstep : ∀ (k : Nat) (s : σ) (i : Nat) (x : α), xs[i]? = some x → wrap64 ((i : Int) + 1) = (i : Int) + 1 → L (k + 1) s (i : Int) = Sum.elim some (fun s' => L k s' ((i : Int) + 1)) (f i s x)) :
    Ev (fun k => L k s 0) (run f fin 0 s xs) :=
  ev_loop L xs f fin hn s ⟨0, fun k s _ => hend k s, fun k s i x _ hx hw => hstep k s i x hx hw⟩

theorem at_loop {σ α ρ : Type} (L : Nat → σ → Int → Option ρ) (xs : List α) (f : Nat → σ → α → ρ ⊕ σ) (fin : σ → ρ) (hn : xs.length ≤ 4611686018427387904) (s : σ) (K : Nat)
    (hend : ∀ k s, K ≤ k → L (k + 1) s (xs.length : Int) = some (fin s))
    (hstep : ∀ (k : Nat) (s : σ) (i : Nat) (x : α), K ≤ k → xs[i]? = some x → wrap64 ((i : Int) + 1) = (i : Int) + 1 → L (k + 1) s (i : Int) = Sum.elim some (fun s' => L k s' ((i : Int) + 1)) (f i s x)) :
    ∀ k, xs.length + K < k → L k s 0 = some (run f fin 0 s xs) :=
  fun k hk => list_loop L xs f fin K hn hend hstep xs 0 k s rfl (by simp) (by omega)
theorem at_loop0 {σ α ρ : Type} (L : Nat → σ → Int → Option ρ) (xs : List α) (f : Nat → σ → α → ρ ⊕ σ) (fin : σ → ρ) (hn : xs.length ≤ 4611686018427387904) (s : σ)
    (hend : ∀ k s, L (k + 1) s (xs.length : Int) = some (fin s))
    (hstep : ∀ (k : Nat) (s : σ) (i : Nat) (x : α), xs[i]? = some x → wrap64 ((i : Int) + 1) = (i : Int) + 1 → L (k + 1) s (i : Int) = Sum.elim some (fun s' => L k s' ((i : Int) + 1)) (f i s x)) :
    ∀ k, xs.length < k → L k s 0 = some (run f fin 0 s xs) :=
  fun k hk => at_loop L xs f fin hn s 0 (fun k s _ => hend k s) (fun k s i x _ hx hw => hstep k s i x hx hw) k (by omega)
theorem ev_at {ρ : Type} {g : Nat → Option ρ} {r : ρ} {K : Nat} (h : ∀ k, K < k → g k = some r) : Ev g r := ⟨K + 1, fun k hk => h k (by omega)⟩
/-- The same under an invariant of the state. -/
theorem list_loopI {σ α ρ : Type} (L : Nat → σ → Int → Option ρ) (xs : List α) (f : Nat → σ → α → ρ ⊕ σ) (fin : σ → ρ) (Inv : Nat → σ → Prop) (K : Nat) (hn : xs.length ≤ 4611686018427387904)
    (hend : ∀ k s, K ≤ k → Inv xs.length s → L (k + 1) s (xs.length : Int) = some (fin s))
    (hinv : ∀ (s : σ) (i : Nat) (x : α) (s' : σ), Inv i s → xs[i]? = some x → f i s x = .inr s' → Inv (i + 1) s')
    (hstep : ∀ (k : Nat) (s : σ) (i : Nat) (x : α), K ≤ k → Inv i s → xs[i]? = some x → wrap64 ((i : Int) + 1) = (i : Int) + 1 → L (k + 1) s (i : Int) = Sum.elim some (fun s' => L k s' ((i : Int) + 1)) (f i s x)) :
    ∀ (t : List α) (i k : Nat) (s : σ), Inv i s → xs.drop i = t → i + t.length = xs.length → t.length + K < k → L k s (i : Int) = some (run f fin i s t) := by
  intro t
  induction t with
  | nil =>
    intro i k s hI _ hi hk
    obtain ⟨k, rfl⟩ : ∃ m, k = m + 1 := ⟨k - 1, by simp at hk; omega⟩
    simp only [List.length_nil, Nat.add_zero] at hi hk
    subst hi
    exact hend k s (by omega) hI
  | cons x t ih =>
    intro i k s hI hd hi hk
    obtain ⟨k, rfl⟩ : ∃ m, k = m + 1 := ⟨k - 1, by simp at hk; omega⟩
    simp only [List.length_cons] at hi hk
    have hx : xs[i]? = some x := by
      have h := congrArg (fun l => l[0]?) hd
      simpa using h
    have hd' : xs.drop (i + 1) = t := by
      rw [← List.drop_drop, hd]
      rfl
    rw [hstep k s i x (by omega) hI hx (wrapi i (by omega))]
    cases hf : f i s x with
    | inl r => rw [run_inl hf]; rfl
    | inr s' => rw [run_inr hf]; exact ih (i + 1) k s' (hinv s i x s' hI hx hf) hd' (by omega) (by omega)
theorem at_loopI {σ α ρ : Type} (L : Nat → σ → Int → Option ρ) (xs : List α) (f : Nat → σ → α → ρ ⊕ σ) (fin : σ → ρ) (Inv : Nat → σ → Prop) (hn : xs.length ≤ 4611686018427387904) (s : σ) (hI : Inv 0 s) (K : Nat)
    (hend : ∀ k s, K ≤ k → Inv xs.length s → L (k + 1) s (xs.length : Int) = some (fin s))
    (hinv : ∀ (s : σ) (i : Nat) (x : α) (s' : σ), Inv i s → xs[i]? = some x → f i s x = .inr s' → Inv (i + 1) s')
    (hstep : ∀ (k : Nat) (s : σ) (i : Nat) (x : α), K ≤ k → Inv i s → xs[i]? = some x → wrap64 ((i : Int) + 1) = (i : Int) + 1 → L (k + 1) s (i : Int) = Sum.elim some (fun s' => L k s' ((i : Int) + 1)) (f i s x)) :
    ∀ k, xs.length + K < k → L k s 0 = some (run f fin 0 s xs) :=
  fun k hk => list_loopI L xs f fin Inv K hn hend hinv hstep xs 0 k s hI rfl (by simp) (by omega)
/-- Is a number in a list? Where first? -/
def stepHas (n : Int) : Nat → Unit → Int → Bool ⊕ Unit := fun _ _ x => if x = n then .inl true else .inr ()
theorem run_has (n : Int) : ∀ (l : List Int) (i : Nat), run (stepHas n) (fun _ => false) i () l = decide (n ∈ l)
  | [], _ => by simp [run]
  | x :: t, i => by
    by_cases h : x = n
    · rw [run_inl (show stepHas n i () x = .inl true from if_pos h)]
      simp [h]
    · have h' : n ≠ x := fun e => h e.symm
      rw [run_inr (show stepHas n i () x = .inr () from if_neg h), run_has n t (i + 1)]
      simp [h']
def stepPlace (n : Int) : Nat → Unit → Int → Int ⊕ Unit := fun i _ x => if x = n then .inl (i : Int) else .inr ()
def place (n : Int) (l : List Int) : Int := run (stepPlace n) (fun _ => -1) 0 () l
theorem run_place (n : Int) : ∀ (l : List Int) (i : Nat), (n ∈ l → (i : Int) ≤ run (stepPlace n) (fun _ => -1) i () l) ∧ (n ∉ l → run (stepPlace n) (fun _ => -1) i () l = -1)
  | [], _ => by simp [run]
  | x :: t, i => by
    by_cases h : x = n
    · rw [run_inl (show stepPlace n i () x = .inl (i : Int) from if_pos h)]
      simp [h]
    · have h' : n ≠ x := fun e => h e.symm
      rw [run_inr (show stepPlace n i () x = .inr () from if_neg h)]
      obtain ⟨h1, h2⟩ := run_place n t (i + 1)
      refine ⟨fun hm => ?_, fun hm => h2 (fun hm' => hm (List.mem_cons_of_mem _ hm'))⟩
      have := h1 ((List.mem_cons.1 hm).resolve_left h')
      omega
theorem place_has (n : Int) (l : List Int) : decide (place n l ≥ 0) = decide (n ∈ l) := by
  obtain ⟨h1, h2⟩ := run_place n l 0
  by_cases h : n ∈ l
  · have := h1 h
    rw [decide_eq_true h, decide_eq_true]
    unfold place
    omega
  · have := h2 h
    rw [decide_eq_false h, decide_eq_false]
    unfold place
    omega

/-! ### Searches forwards and backwards over whole numbers -/
def firstFrom (p : Int → Bool) : Int → Nat → Int
  | _, 0 => -1
  | h, n + 1 => if p h = true then h else firstFrom p (h + 1) n
theorem firstFrom_spec (p : Int → Bool) : ∀ (n : Nat) (h : Int), (firstFrom p h n = -1 ∧ ∀ j : Nat, j < n → p (h + j) = false) ∨ ∃ j : Nat, j < n ∧ firstFrom p h n = h + j ∧ p (h + j) = true ∧ ∀ i : Nat, i < j → p (h + i) = false
  | 0, h => .inl ⟨rfl, fun j hj => absurd hj (by omega)⟩
  | n + 1, h => by
    unfold firstFrom
    cases hp : p h with
    | true => exact .inr ⟨0, by omega, by simp, by simpa using hp, fun i hi => absurd hi (by omega)⟩
    | false =>
      have shift : ∀ j : Nat, h + 1 + (j : Int) = h + ((j + 1 : Nat) : Int) := fun j => by omega
      rcases firstFrom_spec p n (h + 1) with ⟨h1, h2⟩ | ⟨j, hj, h1, h2, h3⟩
      · refine .inl ⟨by simpa using h1, fun j hj => ?_⟩
        cases j with
        | zero => simpa using hp
        | succ j => rw [← shift]; exact h2 j (by omega)
      · refine .inr ⟨j + 1, by omega, ?_, by rw [← shift]; exact h2, fun i hi => ?_⟩
        · rw [if_neg (by simp), h1, shift]
        · cases i with
          | zero => simpa using hp
          | succ i => rw [← shift]; exact h3 i (by omega)
def backFrom (p : Int → Bool) : Int → Nat → Int
  | _, 0 => -1
  | h, n + 1 => if p h = true then h else backFrom p (h - 1) n
theorem backFrom_spec (p : Int → Bool) : ∀ (n : Nat) (h : Int), (backFrom p h n = -1 ∧ ∀ j : Nat, j < n → p (h - j) = false) ∨ ∃ j : Nat, j < n ∧ backFrom p h n = h - j ∧ p (h - j) = true ∧ ∀ i : Nat, i < j → p (h - i) = false
  | 0, h => .inl ⟨rfl, fun j hj => absurd hj (by omega)⟩
  | n + 1, h => by
    unfold backFrom
    cases hp : p h with
    | true => exact .inr ⟨0, by omega, by simp, by simpa using hp, fun i hi => absurd hi (by omega)⟩
    | false =>
      have shift : ∀ j : Nat, h - 1 - (j : Int) = h - ((j + 1 : Nat) : Int) := fun j => by omega
      rcases backFrom_spec p n (h - 1) with ⟨h1, h2⟩ | ⟨j, hj, h1, h2, h3⟩
      · refine .inl ⟨by simpa using h1, fun j hj => ?_⟩
        cases j with
        | zero => simpa using hp
        | succ j => rw [← shift]; exact h2 j (by omega)
      · refine .inr ⟨j + 1, by omega, ?_, by rw [← shift]; exact h2, fun i hi => ?_⟩
        · rw [if_neg (by simp), h1, shift]
        · cases i with
          | zero => simpa using hp
          | succ i => rw [← shift]; exact h3 i (by omega)
/-- How many of so many numbers from h on. -/
def cntFrom (p : Int → Bool) (h : Int) : Nat → Int
  | 0 => 0
  | n + 1 => cntFrom p h n + if p (h + n) = true then 1 else 0
theorem cntFrom_succ (p : Int → Bool) (h : Int) (n : Nat) : cntFrom p h (n + 1) = cntFrom p h n + if p (h + n) = true then 1 else 0 := rfl
theorem firstFrom_succ (p : Int → Bool) (h : Int) (n : Nat) : firstFrom p h (n + 1) = if p h = true then h else firstFrom p (h + 1) n := rfl
theorem backFrom_succ (p : Int → Bool) (h : Int) (n : Nat) : backFrom p h (n + 1) = if p h = true then h else backFrom p (h - 1) n := rfl
theorem cntFrom_range (p : Int → Bool) (h : Int) : ∀ n : Nat, 0 ≤ cntFrom p h n ∧ cntFrom p h n ≤ n
  | 0 => by simp [cntFrom]
  | n + 1 => by
    have := cntFrom_range p h n
    unfold cntFrom
    split <;> omega
theorem cntFrom_none (h : Int) (p : Int → Bool) (hp : ∀ i : Nat, p (h + i) = false) : ∀ n : Nat, cntFrom p h n = 0
  | 0 => rfl
  | n + 1 => by
    unfold cntFrom
    rw [cntFrom_none h p hp n, hp n]
    rfl

/-! ### A list made element by element into a row of zeros -/
theorem set_append {α : Type} (a : List α) (z y : α) (b : List α) (i : Nat) (h : a.length = i) : (a ++ z :: b).set i y = (a ++ [y]) ++ b := by
  subst h
  simp
theorem map_loop {α β : Type} (L : Nat → List β → Int → Option (List β)) (xs : List α) (cv : α → β) (z : β) (hn : xs.length ≤ 4611686018427387904)
    (hend : ∀ k out, L (k + 1) out (xs.length : Int) = some out)
    (hstep : ∀ (k : Nat) (out : List β) (i : Nat) (x : α), xs[i]? = some x → i < out.length → wrap64 ((i : Int) + 1) = (i : Int) + 1 → L (k + 1) out (i : Int) = L k (out.set i (cv x)) ((i : Int) + 1)) :
    Ev (fun k => L k (List.replicate xs.length z) 0) (xs.map cv) := by
  have key : ∀ (t d : List α) (k : Nat), xs = d ++ t → t.length < k → L k (d.map cv ++ List.replicate t.length z) (d.length : Int) = some (xs.map cv) := by
    intro t
    induction t with
    | nil =>
      intro d k hd hk
      obtain ⟨k, rfl⟩ : ∃ m, k = m + 1 := ⟨k - 1, by simp at hk; omega⟩
      rw [List.append_nil] at hd
      subst hd
      simp only [List.length_nil, List.replicate_zero, List.append_nil]
      exact hend k _
    | cons x t ih =>
      intro d k hd hk
      obtain ⟨k, rfl⟩ : ∃ m, k = m + 1 := ⟨k - 1, by simp at hk; omega⟩
      have hx : xs[d.length]? = some x := by rw [hd]; simp
      have hlen : xs.length = d.length + (t.length + 1) := by rw [hd]; simp
      rw [hstep k _ d.length x hx (by simp) (wrapi _ (by omega)), List.length_cons, List.replicate_succ, set_append _ _ _ _ _ (by simp)]
      have := ih (d ++ [x]) k (by rw [hd]; simp) (by simp at hk; omega)
      simpa using this
  exact ⟨xs.length + 1, fun k hk => key xs [] k rfl (by omega)⟩

/-! ### A loop that only counts -/
theorem count_loop {ρ : Type} (L : Nat → Int → Option ρ) (n : Nat) (r : ρ) (hn : n ≤ 4611686018427387904) (hend : ∀ k, L (k + 1) (n : Int) = some r)
    (hstep : ∀ (k i : Nat), i < n → wrap64 ((i : Int) + 1) = (i : Int) + 1 → L (k + 1) (i : Int) = L k ((i : Int) + 1)) : Ev (fun k => L k 0) r := by
  have key : ∀ (d i k : Nat), i + d = n → d < k → L k (i : Int) = some r := by
    intro d
    induction d with
    | zero =>
      intro i k hi hk
      obtain ⟨k, rfl⟩ : ∃ m, k = m + 1 := ⟨k - 1, by omega⟩
      obtain rfl : i = n := by omega
      exact hend k
    | succ d ih =>
      intro i k hi hk
      obtain ⟨k, rfl⟩ : ∃ m, k = m + 1 := ⟨k - 1, by omega⟩
      rw [hstep k i (by omega) (wrapi i (by omega))]
      exact ih (i + 1) k (by omega) (by omega)
  exact ⟨n + 1, fun k hk => key n 0 k (by omega) (by omega)⟩

/-! ### The same where a round has rounds of its own -/
theorem map_loopK {α β : Type} (L : Nat → List β → Int → Option (List β)) (xs : List α) (cv : α → β) (z : β) (K : Nat) (hn : xs.length ≤ 4611686018427387904)
    (hend : ∀ k out, L (k + 1) out (xs.length : Int) = some out)
    (hstep : ∀ (k : Nat) (out : List β) (i : Nat) (x : α), K ≤ k → xs[i]? = some x → i < out.length → wrap64 ((i : Int) + 1) = (i : Int) + 1 → L (k + 1) out (i : Int) = L k (out.set i (cv x)) ((i : Int) + 1)) :
    Ev (fun k => L k (List.replicate xs.length z) 0) (xs.map cv) := by
  have key : ∀ (t d : List α) (k : Nat), xs = d ++ t → t.length + K < k → L k (d.map cv ++ List.replicate t.length z) (d.length : Int) = some (xs.map cv) := by
    intro t
    induction t with
    | nil =>
      intro d k hd hk
      obtain ⟨k, rfl⟩ : ∃ m, k = m + 1 := ⟨k - 1, by simp at hk; omega⟩
      rw [List.append_nil] at hd
      subst hd
      simp only [List.length_nil, List.replicate_zero, List.append_nil]
      exact hend k _
    | cons x t ih =>
      intro d k hd hk
      obtain ⟨k, rfl⟩ : ∃ m, k = m + 1 := ⟨k - 1, by simp at hk; omega⟩
      have hx : xs[d.length]? = some x := by rw [hd]; simp
      have hlen : xs.length = d.length + (t.length + 1) := by rw [hd]; simp
      rw [List.length_cons] at hk
      rw [hstep k _ d.length x (by omega) hx (by simp) (wrapi _ (by omega)), List.length_cons, List.replicate_succ, set_append _ _ _ _ _ (by simp)]
      have := ih (d ++ [x]) k (by rw [hd]; simp) (by omega)
      simpa using this
  exact ⟨xs.length + K + 1, fun k hk => key xs [] k rfl (by omega)⟩
theorem count_loopK {ρ : Type} (L : Nat → Int → Option ρ) (n : Nat) (r : ρ) (K : Nat) (hn : n ≤ 4611686018427387904) (hend : ∀ k, L (k + 1) (n : Int) = some r)
    (hstep : ∀ (k i : Nat), K ≤ k → i < n → wrap64 ((i : Int) + 1) = (i : Int) + 1 → L (k + 1) (i : Int) = L k ((i : Int) + 1)) : Ev (fun k => L k 0) r := by
  have key : ∀ (d i k : Nat), i + d = n → d + K < k → L k (i : Int) = some r := by
    intro d
    induction d with
    | zero =>
      intro i k hi hk
      obtain ⟨k, rfl⟩ : ∃ m, k = m + 1 := ⟨k - 1, by omega⟩
      obtain rfl : i = n := by omega
      exact hend k
    | succ d ih =>
      intro i k hi hk
      obtain ⟨k, rfl⟩ : ∃ m, k = m + 1 := ⟨k - 1, by omega⟩
      rw [hstep k i (by omega) (by omega) (wrapi i (by omega))]
      exact ih (i + 1) k (by omega) (by omega)
  exact ⟨n + K + 1, fun k hk => key n 0 k (by omega) (by omega)⟩

/-! ### Marks laid into a list, and found there -/
def marksAt {β : Type} (mk : Int → β) (c : Nat) (m0 : Nat) (n : Nat) : List β := (List.range n).map fun i => mk (((m0 + c * i : Nat) : Int))
def marks {β : Type} (mk : Int → β) (c : Nat) (n : Nat) : List β := marksAt mk c 1 n
theorem mark_loopAt {β : Type} (L : Nat → List β → Int → Int → Option (Int × List β)) (mk : Int → β) (c m0 : Nat) (n : Nat) (hn : m0 + c * n ≤ 4611686018427387904) (hn' : n ≤ 4611686018427387904) (xs : List β) (hl : xs.length = n)
    (hend : ∀ k xs m, xs.length = n → L (k + 1) xs m (n : Int) = some (m, xs))
    (hstep : ∀ (k : Nat) (xs : List β) (m : Int) (i : Nat), xs.length = n → i < n → 0 ≤ m → m + c ≤ 4611686018427387905 → wrap64 ((i : Int) + 1) = (i : Int) + 1 → L (k + 1) xs m (i : Int) = L k (xs.set i (mk m)) (m + c) ((i : Int) + 1)) :
    Ev (fun k => L k xs (m0 : Int) 0) (((m0 + c * n : Nat) : Int), marksAt mk c m0 n) := by
  have key : ∀ (d i k : Nat) (ys : List β), i + d = n → d < k → ys.length = d → L k (marksAt mk c m0 i ++ ys) (((m0 + c * i : Nat) : Int)) (i : Int) = some (((m0 + c * n : Nat) : Int), marksAt mk c m0 n) := by
    intro d
    induction d with
    | zero =>
      intro i k ys hi hk hy
      obtain ⟨k, rfl⟩ : ∃ m, k = m + 1 := ⟨k - 1, by omega⟩
      obtain rfl : i = n := by omega
      obtain rfl := List.eq_nil_of_length_eq_zero hy
      rw [List.append_nil]
      exact hend k _ _ (by simp [marksAt])
    | succ d ih =>
      intro i k ys hi hk hy
      obtain ⟨k, rfl⟩ : ∃ m, k = m + 1 := ⟨k - 1, by omega⟩
      obtain ⟨y, ys, rfl⟩ := List.exists_cons_of_length_eq_add_one hy
      simp only [List.length_cons, Nat.add_right_cancel_iff] at hy
      have h1 : c * i + c ≤ c * n := by
        have : c * (i + 1) ≤ c * n := Nat.mul_le_mul_left c (by omega)
        rw [Nat.mul_add, Nat.mul_one] at this
        exact this
      rw [hstep k _ _ i (by simp [marksAt, hy]; omega) (by omega) (by omega) (by omega) (wrapi i (by omega)), set_append _ _ _ _ _ (by simp [marksAt])]
      have h2 : marksAt mk c m0 i ++ [mk (((m0 + c * i : Nat) : Int))] = marksAt mk c m0 (i + 1) := by simp [marksAt, List.range_succ]
      have h3 : (((m0 + c * i : Nat) : Int)) + c = ((m0 + c * (i + 1) : Nat) : Int) := by rw [Nat.mul_add, Nat.mul_one]; omega
      rw [h2, h3]
      exact ih (i + 1) k ys (by omega) (by omega) hy
  exact ⟨n + 1, fun k hk => by simpa [marksAt] using key n 0 k xs (by omega) (by omega) hl⟩
theorem mark_loop {β : Type} (L : Nat → List β → Int → Int → Option (Int × List β)) (mk : Int → β) (c : Nat) (n : Nat) (hn : c * n ≤ 2305843009213693952) (hn' : n ≤ 4611686018427387904) (xs : List β) (hl : xs.length = n)
    (hend : ∀ k xs m, xs.length = n → L (k + 1) xs m (n : Int) = some (m, xs))
    (hstep : ∀ (k : Nat) (xs : List β) (m : Int) (i : Nat), xs.length = n → i < n → 0 ≤ m → m + c ≤ 4611686018427387905 → wrap64 ((i : Int) + 1) = (i : Int) + 1 → L (k + 1) xs m (i : Int) = L k (xs.set i (mk m)) (m + c) ((i : Int) + 1)) :
    Ev (fun k => L k xs 1 0) (1 + ((c * n : Nat) : Int), marks mk c n) := by
  have h := mark_loopAt L mk c 1 n (by omega) hn' xs hl hend hstep
  rw [show (((1 + c * n : Nat) : Int)) = 1 + ((c * n : Nat) : Int) from by omega] at h
  exact h
theorem held_loop {β : Type} (L : Nat → Int → Int → Option Int) (mk : Int → β) (c : Nat) (n : Nat) (hn : c * n ≤ 4611686018427387904) (hn' : n ≤ 4611686018427387904)
    (hend : ∀ k m, L (k + 1) m (n : Int) = some m)
    (hstep : ∀ (k : Nat) (m : Int) (i : Nat), (marks mk c n)[i]? = some (mk m) → i < n → 0 ≤ m → m + c ≤ 4611686018427387905 → wrap64 ((i : Int) + 1) = (i : Int) + 1 → L (k + 1) m (i : Int) = L k (m + c) ((i : Int) + 1)) :
    Ev (fun k => L k 1 0) (1 + ((c * n : Nat) : Int)) := by
  have key : ∀ (d i k : Nat), i + d = n → d < k → L k (1 + ((c * i : Nat) : Int)) (i : Int) = some (1 + ((c * n : Nat) : Int)) := by
    intro d
    induction d with
    | zero =>
      intro i k hi hk
      obtain ⟨k, rfl⟩ : ∃ m, k = m + 1 := ⟨k - 1, by omega⟩
      obtain rfl : i = n := by omega
      exact hend k _
    | succ d ih =>
      intro i k hi hk
      obtain ⟨k, rfl⟩ : ∃ m, k = m + 1 := ⟨k - 1, by omega⟩
      have h1 : c * i + c ≤ c * n := by
        have : c * (i + 1) ≤ c * n := Nat.mul_le_mul_left c (by omega)
        rw [Nat.mul_add, Nat.mul_one] at this
        exact this
      rw [hstep k _ i (by rw [show (1 + ((c * i : Nat) : Int)) = (((1 + c * i : Nat)) : Int) from by omega]; simp [marks, marksAt, List.getElem?_range (show i < n by omega)]) (by omega) (by omega) (by omega) (wrapi i (by omega))]
      have h3 : (1 + ((c * i : Nat) : Int)) + c = 1 + ((c * (i + 1) : Nat) : Int) := by rw [Nat.mul_add, Nat.mul_one]; omega
      rw [h3]
      exact ih (i + 1) k (by omega) (by omega)
  exact ⟨n + 1, fun k hk => by simpa using key n 0 k (by omega) (by omega)⟩
theorem marks_len {β : Type} (mk : Int → β) (c n : Nat) : (marks mk c n).length = n := by simp [marks, marksAt]
end Go.Proofs.Ytnghncedinngoaa.Lib
