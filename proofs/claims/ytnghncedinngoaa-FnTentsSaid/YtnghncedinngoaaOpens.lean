/- Reading lemmas. What reads as a datum of a type (the form's own reader) is of the kind by which the printed contracts tell a value; used by the rows of laws whose parameters are structs or slices of structs. -/
import Derived.Test.YtnghncedinngoaaWWords
import Derived.ChangeArms
import Derived.DataElems
import Derived.DataReads
import Derived.WideShapes
namespace Go.Proofs.Ytnghncedinngoaa.Opens
open Go.Proofs.YtnghncedinngoaaW.PrintWords

/-- Whatever cells read as a datum of type t are of kind d, and what they hold is good. -/
def Opens {α : Type} (P : Program) (t : TypeId) (d : Kd α) (G : α → Prop) : Prop :=
  ∀ (H : Type) (enc : TypeId × Value → H) (w : World) (base : Nat) (spare : Nat → Bool) (held : Bool) (fuel : Nat) (cs : List Value) (x : DataW H × List MemPlace),
    DataW.trod enc P w base spare held fuel t cs = some x → ∃ a, G a ∧ d.K w a cs

/-- A whole number of 64 bits. -/
def I64 (n : Int) : Prop := -9223372036854775808 ≤ n ∧ n ≤ 9223372036854775807
theorem i64_of_wf {n : Int} (h : (Lit.int .i64 n).wf = true) : I64 n := by
  have h' : -9223372036854775808 ≤ n ∧ n ≤ 9223372036854775807 := by simpa [Lit.wf, IntKind.min, IntKind.max, IntKind.signed, IntKind.bits] using h
  exact h'

theorem opens_int {P : Program} {t : TypeId} (ht : P.underlying t = some (.int .i64)) : Opens P t (Kd.int .i64) I64 := by
  intro H enc w base spare held fuel cs x h
  obtain ⟨n, rfl, _, hw⟩ := DataW.trod_int ht h
  exact ⟨n, i64_of_wf hw, rfl⟩
theorem opens_bool {P : Program} {t : TypeId} (ht : P.underlying t = some .bool) : Opens P t Kd.bool (fun _ => True) := by
  intro H enc w base spare held fuel cs x h
  obtain ⟨b, rfl, _⟩ := DataW.trod_bool ht h
  exact ⟨b, trivial, rfl⟩

theorem list_of {α : Type} {p : Nat → α → Prop} : ∀ n : Nat, (∀ i, i < n → ∃ x, p i x) → ∃ xs : List α, xs.length = n ∧ ∀ i x, xs[i]? = some x → p i x
  | 0, _ => ⟨[], rfl, fun i x h => by simp at h⟩
  | n + 1, h => by
    obtain ⟨xs, hl, hx⟩ := list_of n (fun i hi => h i (Nat.lt_succ_of_lt hi))
    obtain ⟨y, hy⟩ := h n (Nat.lt_succ_self n)
    refine ⟨xs ++ [y], by simp [hl], fun i x hi => ?_⟩
    rcases Nat.lt_or_ge i n with hlt | hge
    · rw [List.getElem?_append_left (by omega)] at hi
      exact hx i x hi
    · rw [List.getElem?_append_right (by omega)] at hi
      obtain rfl : i = n := by
        have h1 := (List.getElem?_eq_some_iff.1 hi).1
        simp only [List.length_singleton] at h1
        omega
      rw [hl, Nat.sub_self] at hi
      simp only [List.getElem?_cons_zero, Option.some.injEq] at hi
      exact hi ▸ hy

/-- A slice whose elements are of a kind, told by its own value. -/
theorem slice_form {α : Type} {P : Program} {t e : TypeId} {d : Kd α} {G : α → Prop} (ht : P.underlying t = some (.slice e)) (hc : P.cellsOf e = d.sz) (h : Opens P e d G)
    {H : Type} {enc : TypeId × Value → H} {w : World} {base : Nat} {spare : Nat → Bool} {held : Bool} {fuel : Nat} {cs : List Value} {x : DataW H × List MemPlace} (hx : DataW.trod enc P w base spare held fuel t cs = some x) :
    ∃ (A : Option Addr) (c : Nat) (xs : List α), cs = [.slice A xs.length c] ∧ xs.length ≤ c ∧ xs.length ≤ maxLen ∧ (∀ y ∈ xs, G y) ∧ d.C w A xs.length xs := by
  rcases DataW.trod_slice ht hx with ⟨rfl, _⟩ | ⟨a, len, cap, elems, rest, n, _, rfl, _, _, hl, hm, hlen, hel, _⟩
  · refine ⟨none, 0, [], rfl, Nat.le_refl _, Nat.zero_le _, (fun y hy => absurd hy (by simp)), rfl, by simp, fun h0 => absurd h0 (by simp)⟩
  · obtain ⟨xs, hxl, hxs⟩ := list_of (p := fun i (y : α) => G y ∧ ∃ c, w.cells? base (a.add (i * P.cellsOf e)) (P.cellsOf e) = some c ∧ d.K w y c) len (fun i hi => by
      have h1 := hel i hi
      rw [List.getElem?_eq_getElem (by omega)] at h1
      obtain ⟨c, hc1, hc2⟩ := Option.bind_eq_some_iff.1 h1
      obtain ⟨y, gy, ky⟩ := h _ _ _ _ _ _ _ _ _ hc2
      exact ⟨y, gy, c, hc1, ky⟩)
    subst hxl
    refine ⟨some a, cap, xs, rfl, hl, Nat.le_trans hl hm, fun y hy => ?_, rfl, ?_, fun _ => ⟨a, rfl, fun j p hj => ?_⟩⟩
    · obtain ⟨i, hi, he⟩ := List.getElem_of_mem hy
      exact (hxs i y (by rw [List.getElem?_eq_getElem hi, he])).1
    · have : xs.length ≤ maxLen := Nat.le_trans hl hm
      unfold maxLen at this
      omega
    · obtain ⟨_, c, hc1, hk⟩ := hxs j p hj
      obtain ⟨_, hcl, hcell⟩ := World.cells?_some hc1
      refine ⟨c, d.K_len hk, hk, fun i u hu => ?_⟩
      have hi : i < P.cellsOf e := by
        have := (List.getElem?_eq_some_iff.1 hu).1
        omega
      have h2 := hcell i hi
      rw [Addr.add_add, hc, hu] at h2
      exact h2
theorem opens_slice {α : Type} {P : Program} {t e : TypeId} {d : Kd α} {G : α → Prop} (q : Nat) (ht : P.underlying t = some (.slice e)) (hc : P.cellsOf e = d.sz) (h : Opens P e d G) :
    Opens P t (Kd.slice q d) (fun xs => xs.length ≤ maxLen ∧ ∀ x ∈ xs, G x) := by
  intro H enc w base spare held fuel cs x hx
  obtain ⟨A, c, xs, rfl, hl, hm, hG, hC⟩ := slice_form ht hc h hx
  exact ⟨xs, ⟨hm, hG⟩, A, c, rfl, hl, hC⟩

/-- The fields from offset s on. -/
def OpensF {α : Type} (P : Program) (fs : List Field) (s : Nat) (d : Kd α) (G : α → Prop) : Prop :=
  ∀ (H : Type) (enc : TypeId × Value → H) (w : World) (base : Nat) (spare : Nat → Bool) (held : Bool) (n : Nat) (cs : List Value), cs.length = s + d.sz →
    (∀ f ∈ fs, ∃ x, DataW.trod enc P w base spare held n f.type ((cs.drop f.offset).take (P.cellsOf f.type)) = some x) → ∃ a, G a ∧ d.K w a (cs.drop s)
theorem opensF_one {α : Type} {P : Program} {f : Field} {s : Nat} {d : Kd α} {G : α → Prop} (h : Opens P f.type d G) (ho : f.offset = s) (hc : P.cellsOf f.type = d.sz) : OpensF P [f] s d G := by
  intro H enc w base spare held n cs hl hf
  obtain ⟨x, hx⟩ := hf f (by simp)
  obtain ⟨a, ga, ka⟩ := h _ _ _ _ _ _ _ _ _ hx
  refine ⟨a, ga, ?_⟩
  rw [ho, hc, List.take_of_length_le (by rw [List.length_drop]; omega)] at ka
  exact ka
theorem opensF_cons {α β : Type} {P : Program} {f : Field} {fs : List Field} {s : Nat} {d : Kd α} {d' : Kd β} {G : α → Prop} {G' : β → Prop} (h : Opens P f.type d G) (ho : f.offset = s) (hc : P.cellsOf f.type = d.sz)
    (hr : OpensF P fs (s + d.sz) d' G') : OpensF P (f :: fs) s (Kd.pair d d') (fun x => G x.1 ∧ G' x.2) := by
  intro H enc w base spare held n cs hl hf
  have hl' : cs.length = s + (d.sz + d'.sz) := hl
  obtain ⟨x, hx⟩ := hf f (by simp)
  obtain ⟨a, ga, ka⟩ := h _ _ _ _ _ _ _ _ _ hx
  obtain ⟨b, gb, kb⟩ := hr _ _ _ _ _ _ _ cs (by omega) (fun f' hf' => hf f' (by simp [hf']))
  rw [ho, hc] at ka
  refine ⟨(a, b), ⟨ga, gb⟩, (cs.drop s).take d.sz, cs.drop (s + d.sz), ?_, ka, kb⟩
  rw [← List.drop_drop, List.take_append_drop]
theorem opens_struct {α : Type} {P : Program} {t : TypeId} {fs : Array Field} {d : Kd α} {G : α → Prop} (ht : P.underlying t = some (.struct fs)) (hc : P.cellsOf t = d.sz) (h : OpensF P fs.toList 0 d G) : Opens P t d G := by
  intro H enc w base spare held fuel cs x hx
  obtain ⟨xs, n, _, _, hl, hlen, hf⟩ := DataW.trod_struct ht hx
  obtain ⟨a, ga, ka⟩ := h H enc w base spare held n cs (by rw [hl, hc, Nat.zero_add]) (fun f hfm => by
    obtain ⟨i, hi, he⟩ := List.getElem_of_mem hfm
    have hi' : i < fs.size := by simpa using hi
    have h1 := hf i f (by rw [Array.getElem?_eq_getElem hi']; exact congrArg some (by simpa using he))
    rw [List.getElem?_eq_getElem (by omega)] at h1
    exact ⟨_, h1⟩)
  exact ⟨a, ga, ka⟩
theorem opens_iso {α β : Type} {P : Program} {t : TypeId} {d : Kd α} {G : α → Prop} (h : Opens P t d G) (f : β → α) (g : α → β) (hfg : ∀ x, f (g x) = x) : Opens P t (Kd.iso d f) (fun y => G (f y)) := by
  intro H enc w base spare held fuel cs x hx
  obtain ⟨a, ga, ka⟩ := h _ _ _ _ _ _ _ _ _ hx
  exact ⟨g a, show G (f (g a)) by rw [hfg]; exact ga, show d.K w (f (g a)) cs by rw [hfg]; exact ka⟩
theorem opens_imp {α : Type} {P : Program} {t : TypeId} {d : Kd α} {G G' : α → Prop} (h : Opens P t d G) (hG : ∀ x, G x → G' x) : Opens P t d G' := by
  intro H enc w base spare held fuel cs x hx
  obtain ⟨a, ga, ka⟩ := h _ _ _ _ _ _ _ _ _ hx
  exact ⟨a, hG a ga, ka⟩
/-- One field of a struct that came in by value. -/
theorem field_open {P : Program} {t : TypeId} {fs : Array Field} {H : Type} {enc : TypeId × Value → H} {w : World} {base : Nat} {spare : Nat → Bool} {held : Bool} {fuel : Nat} {cs : List Value} {x : DataW H × List MemPlace}
    (ht : P.underlying t = some (.struct fs)) (hx : DataW.trod enc P w base spare held fuel t cs = some x) (i : Nat) (f : Field) (hf : fs[i]? = some f) (n : Nat) (hn : P.cellsOf f.type = n) :
    ∃ m y, DataW.trod enc P w base spare held m f.type ((cs.drop f.offset).take n) = some y := by
  obtain ⟨xs, m, _, _, _, hlen, h⟩ := DataW.trod_struct ht hx
  have h1 := h i f hf
  have hi : i < xs.length := by
    have := (Array.getElem?_eq_some_iff.1 hf).1
    omega
  rw [List.getElem?_eq_getElem hi, hn] at h1
  exact ⟨m, _, h1⟩
theorem list2 {α : Type} {l : List α} (h : l.length = 2) : ∃ a b, l = [a, b] := by
  match l, h with
  | [a, b], _ => exact ⟨a, b, rfl⟩
theorem list3 {α : Type} {l : List α} (h : l.length = 3) : ∃ a b c, l = [a, b, c] := by
  match l, h with
  | [a, b, c], _ => exact ⟨a, b, c, rfl⟩
theorem list4 {α : Type} {l : List α} (h : l.length = 4) : ∃ a b c d, l = [a, b, c, d] := by
  match l, h with
  | [a, b, c, d], _ => exact ⟨a, b, c, d, rfl⟩
end Go.Proofs.Ytnghncedinngoaa.Opens
