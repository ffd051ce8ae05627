/- Plain lemmas on loops over lists, for the pure statements: what a printed loop comes to, told by a step function over the list. No program in sight. -/
import Derived.Test.YtcbkknpmeknppaaWWords
namespace Go.Proofs.Ytcbkknpmeknppaa.Lib
open Go.RowKit Go.Proofs.YtcbkknpmeknppaaW.PrintWords

theorem lt_of_get {α : Type} {xs : List α} {i : Nat} {x : α} (h : xs[i]? = some x) : i < xs.length := (List.getElem?_eq_some_iff.1 h).1
theorem getD_of {α : Type} {xs : List α} {i : Nat} {x : α} (z : α) (h : xs[i]? = some x) : xs.getD (i : Int).toNat z = x := by
  rw [Int.toNat_natCast, List.getD_eq_getElem?_getD, h, Option.getD_some]
theorem wrapi (i : Nat) (h : i ≤ 4611686018427387904) : wrap64 ((i : Int) + 1) = (i : Int) + 1 := by
  unfold wrap64
  omega
theorem wrapd (i : Nat) (h0 : 0 < i) (h : i ≤ 4611686018427387904) : wrap64 ((i : Int) - 1) = ((i - 1 : Nat) : Int) := by
  unfold wrap64
  omega
theorem getD_nat {α : Type} (xs : List α) (i : Nat) (z : α) : xs.getD (i : Int).toNat z = xs.getD i z := by rw [Int.toNat_natCast]
theorem wrap_id {n : Int} (h0 : -9223372036854775808 ≤ n) (h1 : n ≤ 9223372036854775807) : wrap64 n = n := by
  unfold wrap64
  omega

def run {σ α ρ : Type} (f : Nat → σ → α → ρ ⊕ σ) (fin : σ → ρ) : Nat → σ → List α → ρ
  | _, s, [] => fin s
  | i, s, x :: t => match f i s x with
    | .inl r => r
    | .inr s' => run f fin (i + 1) s' t
theorem run_cons {σ α ρ : Type} (f : Nat → σ → α → ρ ⊕ σ) (fin : σ → ρ) (i : Nat) (s : σ) (x : α) (t : List α) : run f fin i s (x :: t) = Sum.elim id (fun s' => run f fin (i + 1) s' t) (f i s x) := by
  conv => lhs; unfold run
  cases f i s x <;> rfl
theorem run_nil {σ α ρ : Type} (f : Nat → σ → α → ρ ⊕ σ) (fin : σ → ρ) (i : Nat) (s : σ) : run f fin i s [] = fin s := rfl
theorem run_inl {σ α ρ : Type} {f : Nat → σ → α → ρ ⊕ σ} {fin : σ → ρ} {i : Nat} {s : σ} {x : α} {t : List α} {r : ρ} (h : f i s x = .inl r) : run f fin i s (x :: t) = r := by rw [run_cons, h]; rfl
theorem run_inr {σ α ρ : Type} {f : Nat → σ → α → ρ ⊕ σ} {fin : σ → ρ} {i : Nat} {s s' : σ} {x : α} {t : List α} (h : f i s x = .inr s') : run f fin i s (x :: t) = run f fin (i + 1) s' t := by rw [run_cons, h]; rfl
theorem list_loop {σ α ρ : Type} (L : Nat → σ → Int → Option ρ) (xs : List α) (f : Nat → σ → α → ρ ⊕ σ) (fin : σ → ρ) (K : Nat) (hn : xs.length ≤ 4611686018427387904)
    (hend : ∀ k s, K ≤ k → L (k + 1) s (xs.length : Int) = some (fin s))
    (hstep : ∀ (k : Nat) (s : σ) (i : Nat) (x : α), K ≤ k → xs[i]? = some x → wrap64 ((i : Int) + 1) = (i : Int) + 1 → L (k + 1) s (i : Int) = Sum.elim some (fun s' => L k s' ((i : Int) + 1)) (f i s x)) :
    ∀ (t : List α) (i k : Nat) (s : σ), xs.drop i = t → i + t.length = xs.length → t.length + K < k → L k s (i : Int) = some (run f fin i s t) := by
  intro t
  induction t with
  | nil =>
    intro i k s _ hi hk
    obtain ⟨k, rfl⟩ : ∃ m, k = m + 1 := ⟨k - 1, by simp at hk; omega⟩
    simp only [List.length_nil, Nat.add_zero] at hi hk
    rw [hi]
    exact hend k s (by omega)
  | cons x t ih =>
    intro i k s hd hi hk
    obtain ⟨k, rfl⟩ : ∃ m, k = m + 1 := ⟨k - 1, by simp at hk; omega⟩
    simp only [List.length_cons] at hi hk
    have hx : xs[i]? = some x := by
      have h := congrArg (fun l => l[0]?) hd
      simpa using h
    have hd' : xs.drop (i + 1) = t := by
      rw [← List.drop_drop, hd]
      rfl
    rw [hstep k s i x (by omega) hx (wrapi i (by omega))]
    unfold run
    cases hf : f i s x with
    | inl r => rfl
    | inr s' => exact ih (i + 1) k s' hd' (by omega) (by omega)
theorem ev_loop {σ α ρ : Type} (L : Nat → σ → Int → Option ρ) (xs : List α) (f : Nat → σ → α → ρ ⊕ σ) (fin : σ → ρ) (hn : xs.length ≤ 4611686018427387904) (s : σ)
    (h : ∃ K, (∀ k s, K ≤ k → L (k + 1) s (xs.length : Int) = some (fin s)) ∧
      ∀ (k : Nat) (s : σ) (i : Nat) (x : α), K ≤ k → xs[i]? = some x → wrap64 ((i : Int) + 1) = (i : Int) + 1 → L (k + 1) s (i : Int) = Sum.elim some (fun s' => L k s' ((i : Int) + 1)) (f i s x)) :
    Ev (fun k => L k s 0) (run f fin 0 s xs) := by
  obtain ⟨K, hend, hstep⟩ := h
  exact ⟨xs.length + K + 1, fun k hk => list_loop L xs f fin K hn hend hstep xs 0 k s rfl (by simp) (by omega)⟩
theorem ev_loop0 {σ α ρ : Type} (L : Nat → σ → Int → Option ρ) (xs : List α) (f : Nat → σ → α → ρ ⊕ σ) (fin : σ → ρ) (hn : xs.length ≤ 4611686018427387904) (s : σ)
    (hend : ∀ k s, L (k + 1) s (xs.length : Int) = some (fin s))
    (hstep : ∀ (k : Nat) (s : σ) (i : Nat) (x : α), xs[i]? = some x → wrap64 ((i : Int) + 1) = (i : Int) + 1 → L (k + 1) s (i : Int) = Sum.elim some (fun s' => L k s' ((i : Int) + 1)) (f i s x)) :
    Ev (fun k => L k s 0) (run f fin 0 s xs) :=
  ev_loop L xs f fin hn s ⟨0, fun k s _ => hend k s, fun k s i x _ hx hw => hstep k s i x hx hw⟩

theorem at_loop {σ α ρ : Type} (L : Nat → σ → Int → Option ρ) (xs : List α) (f : Nat → σ → α → ρ ⊕ σ) (fin : σ → ρ) (hn : xs.length ≤ 4611686018427387904) (s : σ) (K : Nat)
    (hend : ∀ k s, K ≤ k → L (k + 1) s (xs.length : Int) = some (fin s))
    (hstep : ∀ (k : Nat) (s : σ) (i : Nat) (x : α), K ≤ k → xs[i]? = some x → wrap64 ((i : Int) + 1) = (i : Int) + 1 → L (k + 1) s (i : Int) = Sum.elim some (fun s' => L k s' ((i : Int) + 1)) (f i s x)) :
    ∀ k, xs.length + K < k → L k s 0 = some (run f fin 0 s xs) :=
  fun k hk => list_loop L xs f fin K hn hend hstep xs 0 k s rfl (by simp) (by omega)
theorem at_loop0 {σ α ρ : Type} (L : Nat → σ → Int → Option ρ) (xs : List α) (f : Nat → σ → α → ρ ⊕ σ) (fin : σ → ρ) (hn : xs.length ≤ 4611686018427387904) (s : σ)
    (hend : ∀ k s, L (k + 1) s (xs.length : Int) = some (fin s))
    (hstep : ∀ (k : Nat) (s : σ) (i : Nat) (x : α), xs[i]? = some x → wrap64 ((i : Int) + 1) = (i : Int) + 1 → L (k + 1) s (i : Int) = Sum.elim some (fun s' => L k s' ((i : Int) + 1)) (f i s x)) :
    ∀ k, xs.length < k → L k s 0 = some (run f fin 0 s xs) :=
  fun k hk => at_loop L xs f fin hn s 0 (fun k s _ => hend k s) (fun k s i x _ hx hw => hstep k s i x hx hw) k (by omega)
theorem ev_at {ρ : Type} {g : Nat → Option ρ} {r : ρ} {K : Nat} (h : ∀ k, K < k → g k = some r) : Ev g r := ⟨K + 1, fun k hk => h k (by omega)⟩
theorem set_append {α : Type} (a : List α) (z y : α) (b : List α) (i : Nat) (h : a.length = i) : (a ++ z :: b).set i y = (a ++ [y]) ++ b := by
  subst h
  simp
theorem map_loop {α β : Type} (L : Nat → List β → Int → Option (List β)) (xs : List α) (cv : α → β) (z : β) (hn : xs.length ≤ 4611686018427387904)
    (hend : ∀ k out, L (k + 1) out (xs.length : Int) = some out)
    (hstep : ∀ (k : Nat) (out : List β) (i : Nat) (x : α), xs[i]? = some x → i < out.length → wrap64 ((i : Int) + 1) = (i : Int) + 1 → L (k + 1) out (i : Int) = L k (out.set i (cv x)) ((i : Int) + 1)) :
    Ev (fun k => L k (List.replicate xs.length z) 0) (xs.map cv) := by
  have key : ∀ (t d : List α) (k : Nat), xs = d ++ t → t.length < k → L k (d.map cv ++ List.replicate t.length z) (d.length : Int) = some (xs.map cv) := by
    intro t
    induction t with
    | nil =>
      intro d k hd hk
      obtain ⟨k, rfl⟩ : ∃ m, k = m + 1 := ⟨k - 1, by simp at hk; omega⟩
      rw [List.append_nil] at hd
      subst hd
      simp only [List.length_nil, List.replicate_zero, List.append_nil]
      exact hend k _
    | cons x t ih =>
      intro d k hd hk
      obtain ⟨k, rfl⟩ : ∃ m, k = m + 1 := ⟨k - 1, by simp at hk; omega⟩
      have hx : xs[d.length]? = some x := by rw [hd]; simp
      have hlen : xs.length = d.length + (t.length + 1) := by rw [hd]; simp
      rw [hstep k _ d.length x hx (by simp) (wrapi _ (by omega)), List.length_cons, List.replicate_succ, set_append _ _ _ _ _ (by simp)]
      have := ih (d ++ [x]) k (by rw [hd]; simp) (by simp at hk; omega)
      simpa using this
  exact ⟨xs.length + 1, fun k hk => key xs [] k rfl (by omega)⟩

theorem count_loop {ρ : Type} (L : Nat → Int → Option ρ) (n : Nat) (r : ρ) (hn : n ≤ 4611686018427387904) (hend : ∀ k, L (k + 1) (n : Int) = some r)
    (hstep : ∀ (k i : Nat), i < n → wrap64 ((i : Int) + 1) = (i : Int) + 1 → L (k + 1) (i : Int) = L k ((i : Int) + 1)) : Ev (fun k => L k 0) r := by
  have key : ∀ (d i k : Nat), i + d = n → d < k → L k (i : Int) = some r := by
    intro d
    induction d with
    | zero =>
      intro i k hi hk
      obtain ⟨k, rfl⟩ : ∃ m, k = m + 1 := ⟨k - 1, by omega⟩
      obtain rfl : i = n := by omega
      exact hend k
    | succ d ih =>
      intro i k hi hk
      obtain ⟨k, rfl⟩ : ∃ m, k = m + 1 := ⟨k - 1, by omega⟩
      rw [hstep k i (by omega) (wrapi i (by omega))]
      exact ih (i + 1) k (by omega) (by omega)
  exact ⟨n + 1, fun k hk => key n 0 k (by omega) (by omega)⟩

end Go.Proofs.Ytcbkknpmeknppaa.Lib
