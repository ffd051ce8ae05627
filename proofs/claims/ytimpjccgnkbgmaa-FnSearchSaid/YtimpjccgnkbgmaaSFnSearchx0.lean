/- Contracts of functions that the law FnSearch reaches, for its row: lines that the kit's printer wrote for this claim, set shorter by a program of this session (own.py), and what fell in Lean proved anew. Lean checks them. -/
import Derived.Test.YtimpjccgnkbgmaaProg
import Derived.Below
import Derived.Deep.Draws
import Derived.Deep.AppendLies
import Derived.Maps.AppendAt
import Derived.OwnWalk
import Derived.Laws.BytesArg
import Derived.Laws.MakeOwn
import Derived.Laws.OwnMore
import Derived.Deep.OwnRows
import Derived.Tactics
import Derived.Lib.ConvBytes
import Derived.Laws.Slices
import Derived.WalkKit
import Derived.KernelRfl
import Derived.RowKit3
import Derived.Deep.LoopGhost
import Derived.Deep.QuietTactic
import Derived.BigQuiet
import Derived.WideLaws
import Derived.Deep.DeepCutAuto
import Derived.Deep.CutBlock
import Derived.Deep.RegionHeld3
import Derived.Laws.Rows
import Derived.Lib.AppendStr
import Derived.ArgAppend
import Derived.Laws.IdiomCopy
import Derived.OrdersHeld
import Derived.Laws.BitsLemmas
import Derived.RowKit
import Derived.Test.YtimpjccgnkbgmaaWWords
import Derived.Test.YtimpjccgnkbgmaaWLast
import Derived.Test.YtimpjccgnkbgmaaWTab
import Derived.Test.YtimpjccgnkbgmaaWFour
import Derived.Test.YtimpjccgnkbgmaaWQPut
import Derived.Test.YtimpjccgnkbgmaaWApart
import Derived.Test.YtimpjccgnkbgmaaWArr
import Derived.Test.YtimpjccgnkbgmaaWZeros
import Derived.Test.YtimpjccgnkbgmaaWFoot
import Derived.Test.YtimpjccgnkbgmaaWKept
import Derived.Test.YtimpjccgnkbgmaaWShare
import Derived.Test.YtimpjccgnkbgmaaWN
import Derived.Test.YtimpjccgnkbgmaaWFootNe
import Derived.Test.YtimpjccgnkbgmaaWAt
import Derived.Test.YtimpjccgnkbgmaaWEqStruct
import Derived.Test.YtimpjccgnkbgmaaWRepsOne
import Derived.Test.YtimpjccgnkbgmaaWInv
import Derived.Test.YtimpjccgnkbgmaaWInvWords
import Derived.Test.YtimpjccgnkbgmaaWGuard
import Derived.Test.YtimpjccgnkbgmaaWNEv
import Derived.Test.YtimpjccgnkbgmaaWMore
namespace Go.Proofs.Ytimpjccgnkbgmaa.PFnSearch
open Go.RowKit Go.Proofs.YtimpjccgnkbgmaaW.PrintWords Go.Proofs.YtimpjccgnkbgmaaW.PrintLast Go.Proofs.YtimpjccgnkbgmaaW.PrintMore
attribute [local go_sem] max2_int min2_int max_two min_two max_three min_three max_four min_four   -- for this text's walks alone
set_option linter.unusedVariables false
set_option linter.unusedSimpArgs false



theorem ct {w w' : World} {a : Addr} {v : Value} (h : Below w.heap.size w w') (e : w.cell? a = some v) : w'.cell? a = some v := (h.cell (World.block_lt_of_cell? w _ e)).trans e
theorem sA {α : Type} (l : List α) (i : Nat) (a : α) : l.toArray.setIfInBounds i a = (l.set i a).toArray := List.setIfInBounds_toArray ..
theorem s0 {α : Type} {x a : α} {xs : List α} : (x :: xs).set 0 a = a :: xs := rfl
theorem s1 {α : Type} {n : Nat} {x a : α} {xs : List α} : (x :: xs).set (n + 1) a = x :: xs.set n a := rfl
abbrev am {P : Prop} (h : P) : Aside0 P := ⟨h⟩
abbrev bl := @World.block_lt_of_cell?
abbrev bA := @below_alloc
abbrev bN := @pw_below_drewN
abbrev bD := @below_drew1
abbrev kA := @Kd.R_alloc
abbrev kN := @Kd.R_drewN
abbrev kD := @Kd.R_drew
abbrev cA := @Kd.C_alloc
abbrev cN := @Kd.C_drewN
abbrev cD := @Kd.C_drew
abbrev dN := @blk_drewN
abbrev dD := @blk_drew
abbrev dA := @blk_alloc
abbrev bS := @Option.bind_eq_some_iff
abbrev odt := @of_decide_eq_true
theorem bcl3 {w : World} {g : Nat} {t : TypeId} {x0 x1 x2 : Value} (h : w.heap[g]? = some (.cells #[x0, x1, x2] t (0, 0))) : w.cell? ⟨g, 0, none⟩ = some x0 ∧ w.cell? ⟨g, 1, none⟩ = some x1 ∧ w.cell? ⟨g, 2, none⟩ = some x2 ∧ w.frozen? ⟨g, 0, none⟩ = false ∧ w.frozen? ⟨g, 1, none⟩ = false ∧ w.frozen? ⟨g, 2, none⟩ = false := ⟨(blk_cell h 0).trans rfl, (blk_cell h 1).trans rfl, (blk_cell h 2).trans rfl, blk_frozen h 0, blk_frozen h 1, blk_frozen h 2⟩
theorem pV {P : Program} {ops : Array Oper} {Q : Exit → Act → World → Prop} {md : Region.Mode} {S : World → Prop} {ds : List Nat} {i : Nat} {N : Option Tmp} {oi : Oper} {v : Value} {fuel : Nat} {l : Array Bool} {a : Act} {w : World} {a' : Act} (l' : Array Bool) (hi : ops[i]? = some oi) (hN : oi.dst = N) (hc : anyB md ops l l' i = true) (h : wpAnyLast P md ops Q S ds fuel l' a' w) (hQ : ∀ c a w, Q (.panic c) (a.put oi.dst v) w → Q (.panic c) a w := by exact fun _ _ _ h => h) (hw : Region.wanted oi (yielded ops a.tmps) = true := by rfl) (hv : ∀ w', (execOp a.eval oi).run P w' = .ok (.value v) w' := by intro w'; go_simp; (with_reducible rfl)) (ha : a.put N v = a' := by simp only [Act.put, sA, s0, s1, i64_w, i32_w]; rfl) : wpAnyLast P md ops Q S ds (fuel + 1) l a w := pure_ l' hi hN hc hQ (Or.inl ⟨hw, hv⟩) ha h
theorem pW {P : Program} {ops : Array Oper} {Q : Exit → Act → World → Prop} {md : Region.Mode} {S : World → Prop} {ds : List Nat} {i : Nat} {N : Option Tmp} {oi : Oper} {fuel : Nat} {l : Array Bool} {a : Act} {w : World} {a' : Act} (l' : Array Bool) (hi : ops[i]? = some oi) (hN : oi.dst = N) (hc : anyB md ops l l' i = true) (h : wpAnyLast P md ops Q S ds fuel l' a' w) (hQ : ∀ c a w, Q (.panic c) (a.put oi.dst undef) w → Q (.panic c) a w := by exact fun _ _ _ h => h) (hw : Region.wanted oi (yielded ops a.tmps) = false := by rfl) (ha : a.put N undef = a' := by simp only [Act.put, sA, s0, s1, i64_w, i32_w]; rfl) : wpAnyLast P md ops Q S ds (fuel + 1) l a w := pure_ l' hi hN hc hQ (Or.inr ⟨hw, rfl⟩) ha h
theorem tV2 {P : Program} {ops : Array Oper} {Q : Exit → Act → World → Prop} {md : Region.Mode} {S : World → Prop} {ds : List Nat} {i : Nat} {N : Option Tmp} {oi : Oper} {v : Value} {fuel : Nat} {l : Array Bool} {a : Act} {w : World} {a' : Act} (l' : Array Bool) (hi : ops[i]? = some oi) (hN : oi.dst = N) (hc : takeB md ops ds l l' i = true) (hS : S w) (h : wpAnyLast P md ops Q S ds fuel l' a' w) (hQ : ∀ c a w, Q (.panic c) (a.put oi.dst v) w → Q (.panic c) a w := by exact fun _ _ _ h => h) (hw : Region.wanted oi (yielded ops a.tmps) = true := by rfl) (hv : ∀ w', S w' → (execOp a.eval oi).run P w' = .ok (.value v) w' := by rintro w' ⟨s0, s1⟩; go_simp; with_reducible rfl) (ha : a.put N v = a' := by simp only [Act.put, sA, s0, s1, i64_w, i32_w]; rfl) : wpAnyLast P md ops Q S ds (fuel + 1) l a w := take_ l' hi hN hc hQ (Or.inl ⟨hw, hv⟩) hS ha h
theorem tV3 {P : Program} {ops : Array Oper} {Q : Exit → Act → World → Prop} {md : Region.Mode} {S : World → Prop} {ds : List Nat} {i : Nat} {N : Option Tmp} {oi : Oper} {v : Value} {fuel : Nat} {l : Array Bool} {a : Act} {w : World} {a' : Act} (l' : Array Bool) (hi : ops[i]? = some oi) (hN : oi.dst = N) (hc : takeB md ops ds l l' i = true) (hS : S w) (h : wpAnyLast P md ops Q S ds fuel l' a' w) (hQ : ∀ c a w, Q (.panic c) (a.put oi.dst v) w → Q (.panic c) a w := by exact fun _ _ _ h => h) (hw : Region.wanted oi (yielded ops a.tmps) = true := by rfl) (hv : ∀ w', S w' → (execOp a.eval oi).run P w' = .ok (.value v) w' := by rintro w' ⟨s0, s1, s2⟩; go_simp; with_reducible rfl) (ha : a.put N v = a' := by simp only [Act.put, sA, s0, s1, i64_w, i32_w]; rfl) : wpAnyLast P md ops Q S ds (fuel + 1) l a w := take_ l' hi hN hc hQ (Or.inl ⟨hw, hv⟩) hS ha h
theorem tV4 {P : Program} {ops : Array Oper} {Q : Exit → Act → World → Prop} {md : Region.Mode} {S : World → Prop} {ds : List Nat} {i : Nat} {N : Option Tmp} {oi : Oper} {v : Value} {fuel : Nat} {l : Array Bool} {a : Act} {w : World} {a' : Act} (l' : Array Bool) (hi : ops[i]? = some oi) (hN : oi.dst = N) (hc : takeB md ops ds l l' i = true) (hS : S w) (h : wpAnyLast P md ops Q S ds fuel l' a' w) (hQ : ∀ c a w, Q (.panic c) (a.put oi.dst v) w → Q (.panic c) a w := by exact fun _ _ _ h => h) (hw : Region.wanted oi (yielded ops a.tmps) = true := by rfl) (hv : ∀ w', S w' → (execOp a.eval oi).run P w' = .ok (.value v) w' := by rintro w' ⟨s0, s1, s2, s3⟩; go_simp; with_reducible rfl) (ha : a.put N v = a' := by simp only [Act.put, sA, s0, s1, i64_w, i32_w]; rfl) : wpAnyLast P md ops Q S ds (fuel + 1) l a w := take_ l' hi hN hc hQ (Or.inl ⟨hw, hv⟩) hS ha h
theorem tV5 {P : Program} {ops : Array Oper} {Q : Exit → Act → World → Prop} {md : Region.Mode} {S : World → Prop} {ds : List Nat} {i : Nat} {N : Option Tmp} {oi : Oper} {v : Value} {fuel : Nat} {l : Array Bool} {a : Act} {w : World} {a' : Act} (l' : Array Bool) (hi : ops[i]? = some oi) (hN : oi.dst = N) (hc : takeB md ops ds l l' i = true) (hS : S w) (h : wpAnyLast P md ops Q S ds fuel l' a' w) (hQ : ∀ c a w, Q (.panic c) (a.put oi.dst v) w → Q (.panic c) a w := by exact fun _ _ _ h => h) (hw : Region.wanted oi (yielded ops a.tmps) = true := by rfl) (hv : ∀ w', S w' → (execOp a.eval oi).run P w' = .ok (.value v) w' := by rintro w' ⟨s0, s1, s2, s3, s4⟩; go_simp; with_reducible rfl) (ha : a.put N v = a' := by simp only [Act.put, sA, s0, s1, i64_w, i32_w]; rfl) : wpAnyLast P md ops Q S ds (fuel + 1) l a w := take_ l' hi hN hc hQ (Or.inl ⟨hw, hv⟩) hS ha h
theorem tV6 {P : Program} {ops : Array Oper} {Q : Exit → Act → World → Prop} {md : Region.Mode} {S : World → Prop} {ds : List Nat} {i : Nat} {N : Option Tmp} {oi : Oper} {v : Value} {fuel : Nat} {l : Array Bool} {a : Act} {w : World} {a' : Act} (l' : Array Bool) (hi : ops[i]? = some oi) (hN : oi.dst = N) (hc : takeB md ops ds l l' i = true) (hS : S w) (h : wpAnyLast P md ops Q S ds fuel l' a' w) (hQ : ∀ c a w, Q (.panic c) (a.put oi.dst v) w → Q (.panic c) a w := by exact fun _ _ _ h => h) (hw : Region.wanted oi (yielded ops a.tmps) = true := by rfl) (hv : ∀ w', S w' → (execOp a.eval oi).run P w' = .ok (.value v) w' := by rintro w' ⟨s0, s1, s2, s3, s4, s5⟩; go_simp; with_reducible rfl) (ha : a.put N v = a' := by simp only [Act.put, sA, s0, s1, i64_w, i32_w]; rfl) : wpAnyLast P md ops Q S ds (fuel + 1) l a w := take_ l' hi hN hc hQ (Or.inl ⟨hw, hv⟩) hS ha h
theorem qT {P : Prop} (h : P := by exact any_of HT_.out (by kernel_rfl)) : P := h
abbrev Y : Bool := true
abbrev Z : Bool := false
def errW : Option Int → Value
 | none => .nilIface
 | some c => .iface 0 (.int .i64 c)
theorem errW_none : errW none = .nilIface := rfl
theorem errW_some (c : Int) : errW (some c) = .iface 0 (.int .i64 c) := rfl

theorem info3 : (Try.prog.info? 3).map (fun i => (i.zero, i.size, i.bytes)) = some (some (.int .i64 0), 1, 8) := by kernel_rfl
-- the values' own types
def rd_L2 (xs : List (List Int)) (i : Int) : (List Int) := xs.getD i.toNat ([] : List Int)
section
variable {P : Prop}
theorem qq1 (h : P := by (with_reducible repeat (first | refine dN ?_ _ | refine dD ?_ | refine dA ?_ _));refine blk_put (cs:=#[.int .i64 t580,.int .i64 t581,.slice none 0 0]) ?_ 2 _ rfl;(with_reducible repeat (first | refine dN ?_ _ | refine dD ?_ | refine dA ?_ _));refine blk_put (cs:=#[.int .i64 t580,.int .i64 0,.slice none 0 0]) ?_ 1 _ rfl;(with_reducible repeat (first | refine dN ?_ _ | refine dD ?_ | refine dA ?_ _));refine blk_put (cs:=#[.int .i64 0,.int .i64 0,.slice none 0 0]) ?_ 0 _ rfl;(with_reducible repeat (first | refine dN ?_ _ | refine dD ?_ | refine dA ?_ _));exact BK589.out) : P := h
theorem qq2 (h : P := by (with_reducible repeat (first | refine dN ?_ _ | refine dD ?_ | refine dA ?_ _));refine blk_put (cs:=#[.int .i64 t533,.int .i64 t534,.slice none 0 0]) ?_ 2 _ rfl;(with_reducible repeat (first | refine dN ?_ _ | refine dD ?_ | refine dA ?_ _));refine blk_put (cs:=#[.int .i64 t533,.int .i64 0,.slice none 0 0]) ?_ 1 _ rfl;(with_reducible repeat (first | refine dN ?_ _ | refine dD ?_ | refine dA ?_ _));refine blk_put (cs:=#[.int .i64 0,.int .i64 0,.slice none 0 0]) ?_ 0 _ rfl;(with_reducible repeat (first | refine dN ?_ _ | refine dD ?_ | refine dA ?_ _));exact BK541.out) : P := h
theorem qq3 (h : P := by (with_reducible repeat (first | refine dN ?_ _ | refine dD ?_ | refine dA ?_ _));refine blk_put (cs:=#[.int .i64 t507,.int .i64 t508,.slice none 0 0]) ?_ 2 _ rfl;(with_reducible repeat (first | refine dN ?_ _ | refine dD ?_ | refine dA ?_ _));refine blk_put (cs:=#[.int .i64 t507,.int .i64 0,.slice none 0 0]) ?_ 1 _ rfl;(with_reducible repeat (first | refine dN ?_ _ | refine dD ?_ | refine dA ?_ _));refine blk_put (cs:=#[.int .i64 0,.int .i64 0,.slice none 0 0]) ?_ 0 _ rfl;(with_reducible repeat (first | refine dN ?_ _ | refine dD ?_ | refine dA ?_ _));exact BK506.out) : P := h
theorem qq4 (h : P := by (with_reducible repeat (first | refine dN ?_ _ | refine dD ?_ | refine dA ?_ _));refine blk_put (cs:=#[.int .i64 t460,.int .i64 t461,.slice none 0 0]) ?_ 2 _ rfl;(with_reducible repeat (first | refine dN ?_ _ | refine dD ?_ | refine dA ?_ _));refine blk_put (cs:=#[.int .i64 t460,.int .i64 0,.slice none 0 0]) ?_ 1 _ rfl;(with_reducible repeat (first | refine dN ?_ _ | refine dD ?_ | refine dA ?_ _));refine blk_put (cs:=#[.int .i64 0,.int .i64 0,.slice none 0 0]) ?_ 0 _ rfl;(with_reducible repeat (first | refine dN ?_ _ | refine dD ?_ | refine dA ?_ _));exact BK466.out) : P := h
theorem qq5 (h : P := by (with_reducible repeat (first | refine dN ?_ _ | refine dD ?_ | refine dA ?_ _));refine blk_put (cs:=#[.int .i64 t403,.int .i64 t404,.slice none 0 0]) ?_ 2 _ rfl;(with_reducible repeat (first | refine dN ?_ _ | refine dD ?_ | refine dA ?_ _));refine blk_put (cs:=#[.int .i64 t403,.int .i64 0,.slice none 0 0]) ?_ 1 _ rfl;(with_reducible repeat (first | refine dN ?_ _ | refine dD ?_ | refine dA ?_ _));refine blk_put (cs:=#[.int .i64 0,.int .i64 0,.slice none 0 0]) ?_ 0 _ rfl;(with_reducible repeat (first | refine dN ?_ _ | refine dD ?_ | refine dA ?_ _));exact BK410.out) : P := h
theorem qq6 (h : P := by (with_reducible repeat (first | refine dN ?_ _ | refine dD ?_ | refine dA ?_ _));refine blk_put (cs:=#[.int .i64 t202,.int .i64 t203,.slice none 0 0]) ?_ 2 _ rfl;(with_reducible repeat (first | refine dN ?_ _ | refine dD ?_ | refine dA ?_ _));refine blk_put (cs:=#[.int .i64 t202,.int .i64 0,.slice none 0 0]) ?_ 1 _ rfl;(with_reducible repeat (first | refine dN ?_ _ | refine dD ?_ | refine dA ?_ _));refine blk_put (cs:=#[.int .i64 0,.int .i64 0,.slice none 0 0]) ?_ 0 _ rfl;(with_reducible repeat (first | refine dN ?_ _ | refine dD ?_ | refine dA ?_ _));exact BK208.out) : P := h
theorem qq7 (h : P := by refine (Kd.Q_reads' (e:=3) (base:=w.heap.size) (ok:=fun k_ => some k_ ≠ (.slice Ao11 t586.length co11 : Value).ownBlock) (n:=t582.length) (c:=co10) ?_).2.2;exact qq16) : P := h
theorem qq8 (h : P := by refine (Kd.R_reads' (e:=3) (base:=w.heap.size) (ok:=fun k_ => some k_ ≠ (.slice Ao10 t582.length co10 : Value).ownBlock) (n:=t586.length) (c:=co11) ?_).2.2;exact qq21) : P := h
theorem qq9 (h : P := by (with_reducible repeat (first | refine dN ?_ _ | refine dD ?_ | refine dA ?_ _));refine blk_far ?_ NB532_541.out _;(with_reducible repeat (first | refine dN ?_ _ | refine dD ?_ | refine dA ?_ _));refine blk_far ?_ NB532_541.out _;(with_reducible repeat (first | refine dN ?_ _ | refine dD ?_ | refine dA ?_ _));refine blk_far ?_ NB532_541.out _;(with_reducible repeat (first | refine dN ?_ _ | refine dD ?_ | refine dA ?_ _));exact BK532.out) : P := h
theorem qq10 (h : P := by (with_reducible repeat (first | refine dN ?_ _ | refine dD ?_ | refine dA ?_ _));refine blk_far ?_ NB459_466.out _;(with_reducible repeat (first | refine dN ?_ _ | refine dD ?_ | refine dA ?_ _));refine blk_far ?_ NB459_466.out _;(with_reducible repeat (first | refine dN ?_ _ | refine dD ?_ | refine dA ?_ _));refine blk_far ?_ NB459_466.out _;(with_reducible repeat (first | refine dN ?_ _ | refine dD ?_ | refine dA ?_ _));exact BK459.out) : P := h
theorem qq11 (h : P := by (with_reducible repeat (first | refine dN ?_ _ | refine dD ?_ | refine dA ?_ _));refine blk_far ?_ NB402_410.out _;(with_reducible repeat (first | refine dN ?_ _ | refine dD ?_ | refine dA ?_ _));refine blk_far ?_ NB402_410.out _;(with_reducible repeat (first | refine dN ?_ _ | refine dD ?_ | refine dA ?_ _));refine blk_far ?_ NB402_410.out _;(with_reducible repeat (first | refine dN ?_ _ | refine dD ?_ | refine dA ?_ _));exact BK402.out) : P := h
theorem qq12 (h : P := by (with_reducible repeat (first | refine dN ?_ _ | refine dD ?_ | refine dA ?_ _));refine blk_far ?_ NB201_208.out _;(with_reducible repeat (first | refine dN ?_ _ | refine dD ?_ | refine dA ?_ _));refine blk_far ?_ NB201_208.out _;(with_reducible repeat (first | refine dN ?_ _ | refine dD ?_ | refine dA ?_ _));refine blk_far ?_ NB201_208.out _;(with_reducible repeat (first | refine dN ?_ _ | refine dD ?_ | refine dA ?_ _));exact BK201.out) : P := h
theorem qq13 (h : P := by (with_reducible repeat (first | apply Kd.Q_alloc | apply Kd.Q_drewN | apply Kd.Q_drew));exact (Kd.Q_mono (Kd.Q_far (p:=⟨gb629,2,none⟩) (Kd.Q_far (p:=⟨gb629,1,none⟩) (Kd.Q_far (p:=⟨gb629,0,none⟩) (Kd.Q_types HO_615002.out BK629.out (by decide)) (fun _ hk => hk.2) (.int .i64 t620)) (fun _ hk => hk.2) (.int .i64 t621)) (fun _ hk => hk.2) (.slice Ao36 t622.length co36)) (fun _ h_ => h_.1))) : P := h
theorem qq14 (h : P := by (with_reducible repeat (first | apply Kd.Q_alloc | apply Kd.Q_drewN | apply Kd.Q_drew));exact (Kd.Q_mono (Kd.Q_far (p:=⟨gb653,2,none⟩) (Kd.Q_far (p:=⟨gb653,1,none⟩) (Kd.Q_far (p:=⟨gb653,0,none⟩) (Kd.Q_types HO647.out BK653.out (by decide)) (fun _ hk => hk.2) (.int .i64 t643)) (fun _ hk => hk.2) (.int .i64 t644)) (fun _ hk => hk.2) (.slice Ao82 t645.length co82)) (fun _ h_ => h_.1))) : P := h
theorem qq15 (h : P := by (with_reducible repeat (first | apply Kd.Q_alloc | apply Kd.Q_drewN | apply Kd.Q_drew));exact (Kd.Q_mono (Kd.Q_far (p:=⟨gb629,2,none⟩) (Kd.Q_far (p:=⟨gb629,1,none⟩) (Kd.Q_far (p:=⟨gb629,0,none⟩) (Kd.Q_types HO624.out BK629.out (by decide)) (fun _ hk => hk.2) (.int .i64 t620)) (fun _ hk => hk.2) (.int .i64 t621)) (fun _ hk => hk.2) (.slice Ao36 t622.length co36)) (fun _ h_ => h_.1))) : P := h
theorem qq16 (h : P := by (with_reducible repeat (first | apply Kd.Q_alloc | apply Kd.Q_drewN | apply Kd.Q_drew));exact (Kd.Q_mono (Kd.Q_far (p:=⟨gb589,2,none⟩) (Kd.Q_far (p:=⟨gb589,1,none⟩) (Kd.Q_far (p:=⟨gb589,0,none⟩) (Kd.Q_types HO584.out BK589.out (by decide)) (fun _ hk => hk.2) (.int .i64 t580)) (fun _ hk => hk.2) (.int .i64 t581)) (fun _ hk => hk.2) (.slice Ao10 t582.length co10)) (fun _ h_ => h_.1))) : P := h
theorem qq17 (h : P := by (with_reducible repeat (first | apply Kd.Q_alloc | apply Kd.Q_drewN | apply Kd.Q_drew));exact (Kd.Q_mono (Kd.Q_far (p:=⟨gb514,2,none⟩) (Kd.Q_far (p:=⟨gb514,1,none⟩) (Kd.Q_far (p:=⟨gb514,0,none⟩) (Kd.Q_types HO511.out BK514.out (by decide)) (fun _ hk => hk.2) (.int .i64 t507)) (fun _ hk => hk.2) (.int .i64 t508)) (fun _ hk => hk.2) (.slice Ao11 t509.length co11)) (fun _ h_ => h_.1))) : P := h
theorem qq18 (h : P := by (with_reducible repeat (first | apply Kd.Q_alloc | apply Kd.Q_drewN | apply Kd.Q_drew));exact (Kd.Q_mono (Kd.Q_far (p:=⟨gb614,2,none⟩) (Kd.Q_far (p:=⟨gb614,1,none⟩) (Kd.Q_far (p:=⟨gb614,0,none⟩) (Kd.Q_types HO611.out BK614.out (by decide)) (fun _ hk => hk.2) (.int .i64 t607)) (fun _ hk => hk.2) (.int .i64 t608)) (fun _ hk => hk.2) (.slice Ao9 t609.length co9)) (fun _ h_ => h_.1))) : P := h
theorem qq19 (h : P := by (with_reducible repeat (first | apply kA | apply kN | apply kD));exact (Kd.R_mono (Kd.R_far (p:=⟨gb653,2,none⟩) (Kd.R_far (p:=⟨gb653,1,none⟩) (Kd.R_far (p:=⟨gb653,0,none⟩) (Kd.R_types HO651.out BK653.out (by decide)) (fun _ hk => hk.2) (.int .i64 t643)) (fun _ hk => hk.2) (.int .i64 t644)) (fun _ hk => hk.2) (.slice Ao82 t645.length co82)) (fun _ h_ => h_.1))) : P := h
theorem qq20 (h : P := by (with_reducible repeat (first | apply kA | apply kN | apply kD));exact (Kd.R_mono (Kd.R_far (p:=⟨gb629,2,none⟩) (Kd.R_far (p:=⟨gb629,1,none⟩) (Kd.R_far (p:=⟨gb629,0,none⟩) (Kd.R_types HO628.out BK629.out (by decide)) (fun _ hk => hk.2) (.int .i64 t620)) (fun _ hk => hk.2) (.int .i64 t621)) (fun _ hk => hk.2) (.slice Ao36 t622.length co36)) (fun _ h_ => h_.1))) : P := h
theorem qq21 (h : P := by (with_reducible repeat (first | apply kA | apply kN | apply kD));exact (Kd.R_mono (Kd.R_far (p:=⟨gb589,2,none⟩) (Kd.R_far (p:=⟨gb589,1,none⟩) (Kd.R_far (p:=⟨gb589,0,none⟩) (Kd.R_types HO588.out BK589.out (by decide)) (fun _ hk => hk.2) (.int .i64 t580)) (fun _ hk => hk.2) (.int .i64 t581)) (fun _ hk => hk.2) (.slice Ao10 t582.length co10)) (fun _ h_ => h_.1))) : P := h
theorem qq22 (h : P := by (with_reducible repeat (first | apply kA | apply kN | apply kD));exact (Kd.R_mono (Kd.R_far (p:=⟨gb629,2,none⟩) (Kd.R_far (p:=⟨gb629,1,none⟩) (Kd.R_far (p:=⟨gb629,0,none⟩) (Kd.R_types HO_6.out BK629.out (by decide)) (fun _ hk => hk.2) (.int .i64 t620)) (fun _ hk => hk.2) (.int .i64 t621)) (fun _ hk => hk.2) (.slice Ao36 t622.length co36)) (fun _ h_ => h_.1))) : P := h
theorem qq23 (h : P := by (with_reducible repeat (first | apply kA | apply kN | apply kD));exact Kd.R_mono (Kd.R_far (p:=⟨gb506,2,none⟩) (Kd.R_far (p:=⟨gb506,1,none⟩) (Kd.R_far (p:=⟨gb506,0,none⟩) (Kd.R_types HO_7.out BK506.out (by decide)) (fun _ hk => hk.2) (.int .i64 t507)) (fun _ hk => hk.2) (.int .i64 t508)) (fun _ hk => hk.2) (.slice Ao11 t509.length co11)) (fun _ hk => hk.1)) : P := h
theorem qq24 (h : P := by repeat (first | exact (Kd.C_below HR0_2.out qq111) | (with_reducible refine cA ?_ _) | (with_reducible refine cN ?_ _) | (with_reducible refine cD ?_))) : P := h
theorem qq25 (h : P := by rw [hg];exact Nat.ne_of_lt (IsS58.lt (show IsS58 w0 _ g s0_0 s0_1 s0_2 from by repeat (first | (with_reducible first | exact HI0.out | apply IsS58.alloc | apply IsS58.drewN | apply IsS58.drew | apply IsS58.set_1 | apply IsS58.set_2) | exact HI0.out)))) : P := h
theorem qq26 (h : P := by rw [hg];exact Nat.ne_of_gt (IsS58.lt (show IsS58 w0 _ g s0_0 s0_1 s0_2 from by repeat (first | (with_reducible first | exact HI0.out | apply IsS58.alloc | apply IsS58.drewN | apply IsS58.drew | apply IsS58.set_1 | apply IsS58.set_2) | exact HI0.out)))) : P := h
theorem qq27 (h : P := by repeat (first | (with_reducible first | exact HI545.out | apply IsS58.alloc | apply IsS58.drewN | apply IsS58.drew | apply IsS58.set_1 | apply IsS58.set_2 | refine IsS58.far ?_ NB545_532.out _ | refine IsS58.far ?_ NB545_541.out _) | exact HI545.out)) : P := h
theorem qq28 (h : P := by repeat (first | (with_reducible first | exact HI521.out | apply IsS58.alloc | apply IsS58.drewN | apply IsS58.drew | apply IsS58.set_1 | apply IsS58.set_2 | refine IsS58.far ?_ NB521_506.out _ | refine IsS58.far ?_ NB521_514.out _) | exact HI521.out)) : P := h
theorem qq29 (h : P := by repeat (first | (with_reducible first | exact HI414.out | apply IsS58.alloc | apply IsS58.drewN | apply IsS58.drew | apply IsS58.set_1 | apply IsS58.set_2 | refine IsS58.far ?_ NB414_402.out _ | refine IsS58.far ?_ NB414_410.out _) | exact HI414.out)) : P := h
theorem qq30 (h : P := by repeat (first | (with_reducible first | exact HI212.out | apply IsS58.alloc | apply IsS58.drewN | apply IsS58.drew | apply IsS58.set_1 | apply IsS58.set_2 | refine IsS58.far ?_ NB212_201.out _ | refine IsS58.far ?_ NB212_208.out _) | exact HI212.out)) : P := h
theorem qq31 (h : P := by repeat (first | (with_reducible first | exact HI177.out | apply IsS58.alloc | apply IsS58.drewN | apply IsS58.drew | apply IsS58.set_1 | apply IsS58.set_2 | refine IsS58.far ?_ NB177_173.out _ | refine IsS58.far ?_ NB177_185.out _) | exact HI177.out)) : P := h
theorem qq32 (h : P := by exact (fun k_ hk => ⟨Kd.fresh' (Kd.R_lt qq248) k_ hk,Kd.fresh' (Kd.R_lt qq247) k_ hk⟩)) : P := h
theorem qq33 (h : P := by repeat (first | (with_reducible first | exact HI0.out | apply IsS58.alloc | apply IsS58.drewN | apply IsS58.drew | apply IsS58.set_1 | apply IsS58.set_2 | refine IsS58.far ?_ NB0_145.out _ | refine IsS58.far ?_ NB0_153.out _) | exact HI0.out)) : P := h
theorem qq34 (h : P := by repeat (first | (with_reducible first | exact HI0.out | apply IsS58.alloc | apply IsS58.drewN | apply IsS58.drew | apply IsS58.set_1 | apply IsS58.set_2 | refine IsS58.far ?_ NB0_127.out _ | refine IsS58.far ?_ NB0_134.out _) | exact HI0.out)) : P := h
theorem qq35 (h : P := by rw [hg];exact (keep_size (w:=w) (g:=g) (row:=none) qq57)) : P := h
theorem qq36 (h : P := by rw [hg];exact (keep_size (w:=w) (g:=g) (row:=none) qq58)) : P := h
theorem qq37 (h : P := by rw [hg];exact Nat.ne_of_lt (blk_lt (g:=gb614) (o:=.cells #[.int .i64 t607,.int .i64 t608,.slice Ao9 t609.length co9] 26 (0,0)) qq180)) : P := h
theorem qq38 (h : P := by rw [hg];exact Nat.ne_of_gt (blk_lt (g:=gb614) (o:=.cells #[.int .i64 t607,.int .i64 t608,.slice Ao9 t609.length co9] 26 (0,0)) qq180)) : P := h
theorem qq39 (h : P := by repeat (first | (with_reducible first | exact HK.out | apply KeepBut.set_ | apply keep_drewN | apply keep_drew | apply keep_alloc | refine keep_far ?_ GW145.out _ | refine keep_far ?_ GW153.out _) | exact HK.out)) : P := h
theorem qq40 (h : P := by repeat (first | (with_reducible first | exact HK.out | apply KeepBut.set_ | apply keep_drewN | apply keep_drew | apply keep_alloc | refine keep_far ?_ GW127.out _ | refine keep_far ?_ GW134.out _) | exact HK.out)) : P := h
theorem qq41 (h : P := by repeat (first | (with_reducible first | exact HI177.out | apply IsS58.alloc | apply IsS58.drewN | apply IsS58.drew | apply IsS58.set_1 | apply IsS58.set_2 | refine IsS58.far ?_ NB177_173.out _) | exact HI177.out)) : P := h
theorem qq42 (h : P := by (with_reducible repeat (first | refine dN ?_ _ | refine dD ?_ | refine dA ?_ _));refine blk_far ?_ NB145_153.out _;(with_reducible repeat (first | refine dN ?_ _ | refine dD ?_ | refine dA ?_ _));exact BK145.out) : P := h
theorem qq43 (h : P := by rw [hg];exact (below_size qq59)) : P := h
theorem qq44 (h : P := by repeat (first | (with_reducible first | exact HB.out | apply bA | apply bN | apply bD | refine below_set ?_ (IsS58.ge HI545.out) | refine below_set ?_ GE532.out | refine below_set ?_ GE541.out) | exact HB.out)) : P := h
theorem qq45 (h : P := by repeat (first | (with_reducible first | exact HB.out | apply bA | apply bN | apply bD | refine below_set ?_ (IsS58.ge HI521.out) | refine below_set ?_ GE506.out | refine below_set ?_ GE514.out) | exact HB.out)) : P := h
theorem qq46 (h : P := by repeat (first | (with_reducible first | exact HB.out | apply bA | apply bN | apply bD | refine below_set ?_ (IsS58.ge HI470.out) | refine below_set ?_ GE459.out | refine below_set ?_ GE466.out) | exact HB.out)) : P := h
theorem qq47 (h : P := by repeat (first | (with_reducible first | exact HB.out | apply bA | apply bN | apply bD | refine below_set ?_ (IsS58.ge HI414.out) | refine below_set ?_ GE402.out | refine below_set ?_ GE410.out) | exact HB.out)) : P := h
theorem qq48 (h : P := by repeat (first | (with_reducible first | exact HB.out | apply bA | apply bN | apply bD | refine below_set ?_ (IsS58.ge HI212.out) | refine below_set ?_ GE201.out | refine below_set ?_ GE208.out) | exact HB.out)) : P := h
theorem qq49 (h : P := by repeat (first | (with_reducible first | exact HB.out | apply bA | apply bN | apply bD | refine below_set ?_ (IsS58.ge HI177.out) | refine below_set ?_ GE173.out | refine below_set ?_ GE185.out) | exact HB.out)) : P := h
theorem qq50 (h : P := by repeat (first | (with_reducible first | exact HB.out | apply bA | apply bN | apply bD | refine below_set ?_ (IsS58.ge HI0.out) | refine below_set ?_ GE145.out | refine below_set ?_ GE153.out) | exact HB.out)) : P := h
theorem qq51 (h : P := by repeat (first | (with_reducible first | exact HB.out | apply bA | apply bN | apply bD | refine below_set ?_ (IsS58.ge HI0.out) | refine below_set ?_ GE127.out | refine below_set ?_ GE134.out) | exact HB.out)) : P := h
theorem qq52 (h : P := by repeat (first | (with_reducible first | exact HI0.out | apply IsS58.alloc | apply IsS58.drewN | apply IsS58.drew | apply IsS58.set_1 | apply IsS58.set_2 | refine IsS58.far ?_ NB0_145.out _) | exact HI0.out)) : P := h
theorem qq53 (h : P := by repeat (first | (with_reducible first | exact HI0.out | apply IsS58.alloc | apply IsS58.drewN | apply IsS58.drew | apply IsS58.set_1 | apply IsS58.set_2 | refine IsS58.far ?_ NB0_127.out _) | exact HI0.out)) : P := h
theorem qq54 (h : P := by rw [hg];exact (keep_size (w:=w) (g:=g) (row:=none) qq97)) : P := h
theorem qq55 (h : P := by rw [hg];exact (below_size qq69)) : P := h
theorem qq56 (h : P := by repeat (first | (with_reducible first | exact HB.out | apply bA | apply bN | apply bD | refine below_set ?_ GE614.out | refine below_set ?_ GE629.out | refine below_set ?_ GE653.out) | exact HB.out)) : P := h
theorem qq57 (h : P := by repeat (first | (with_reducible first | exact HK.out | apply KeepBut.set_ | apply keep_drewN | apply keep_drew | apply keep_alloc | refine keep_far ?_ GW145.out _) | exact HK.out)) : P := h
theorem qq58 (h : P := by repeat (first | (with_reducible first | exact HK.out | apply KeepBut.set_ | apply keep_drewN | apply keep_drew | apply keep_alloc | refine keep_far ?_ GW127.out _) | exact HK.out)) : P := h
theorem qq59 (h : P := by repeat (first | (with_reducible first | exact HB.out | apply bA | apply bN | apply bD | refine below_set ?_ (IsS58.ge HI177.out) | refine below_set ?_ GE173.out) | exact HB.out)) : P := h
theorem qq60 (h : P := by repeat (first | (with_reducible first | exact HB.out | apply bA | apply bN | apply bD | refine below_set ?_ (IsS58.ge HI0.out) | refine below_set ?_ GE145.out) | exact HB.out)) : P := h
theorem qq61 (h : P := by repeat (first | (with_reducible first | exact HB.out | apply bA | apply bN | apply bD | refine below_set ?_ (IsS58.ge HI0.out) | refine below_set ?_ GE127.out) | exact HB.out)) : P := h
theorem qq62 (h : P := by repeat (first | (with_reducible first | exact HI0.out | apply IsS58.alloc | apply IsS58.drewN | apply IsS58.drew | apply IsS58.set_1 | apply IsS58.set_2) | exact HI0.out)) : P := h
theorem qq63 (h : P := by rw [hg];exact (below_size qq109)) : P := h
theorem qq64 (h : P := by rw [hg];exact (below_size qq114)) : P := h
theorem qq65 (h : P := by rw [hg];exact (below_size qq115)) : P := h
theorem qq66 (h : P := by rw [hg];exact (below_size qq118)) : P := h
theorem qq67 (h : P := by rw [hg];exact (below_size qq120)) : P := h
theorem qq68 (h : P := by rw [hg];exact (below_size qq138)) : P := h
theorem qq69 (h : P := by repeat (first | (with_reducible first | exact HB.out | apply bA | apply bN | apply bD | refine below_set ?_ GE614.out | refine below_set ?_ GE629.out) | exact HB.out)) : P := h
theorem qq70 (h : P := by repeat (first | (with_reducible first | exact HB.out | apply bA | apply bN | apply bD | refine below_set ?_ GE506.out | refine below_set ?_ GE514.out) | exact HB.out)) : P := h
theorem qq71 (h : P := by first | rfl | (simp [errW_none,errW_some] <;> rfl) | (simp only [← hji53];first | rfl | (simp [errW_none,errW_some] <;> rfl)) | (simp [*,errW_none,errW_some] <;> rfl)) : P := h
theorem qq72 (h : P := by first | rfl | (simp [errW_none,errW_some] <;> rfl) | (simp only [← hji41];first | rfl | (simp [errW_none,errW_some] <;> rfl)) | (simp [*,errW_none,errW_some] <;> rfl)) : P := h
theorem qq73 (h : P := by repeat (first | (with_reducible first | exact HB.out | apply bA | apply bN | apply bD | refine below_set ?_ GB12.out | refine below_set ?_ GE360.out) | exact HB.out)) : P := h
theorem qq74 (h : P := by (try simp only [List.map_toArray,List.map_cons,List.map_nil]);first | done | (simp only [hji55];rfl) | rfl | (simp only [List.length_drop,List.length_take];rfl)) : P := h
theorem qq75 (h : P := by (try simp only [List.map_toArray,List.map_cons,List.map_nil]);first | done | (simp only [hji16];rfl) | rfl | (simp only [List.length_drop,List.length_take];rfl)) : P := h
theorem qq76 (h : P := by (try simp only [List.map_toArray,List.map_cons,List.map_nil]);first | done | (simp only [hji10];rfl) | rfl | (simp only [List.length_drop,List.length_take];rfl)) : P := h
theorem qq77 (h : P := by exact (below_size qq116)) : P := h
theorem qq78 (h : P := by exact (below_size qq119)) : P := h
theorem qq79 (h : P := by exact (below_size qq124)) : P := h
theorem qq80 (h : P := by exact (below_size qq131)) : P := h
theorem qq81 (h : P := by repeat (first | exact (Kd.Q_reads' HO_630002.out).2.2 | (with_reducible refine cA ?_ _) | (with_reducible refine cN ?_ _) | (with_reducible refine cD ?_))) : P := h
theorem qq82 (h : P := by repeat (first | exact (Kd.Q_reads' HO_615002.out).2.2 | (with_reducible refine cA ?_ _) | (with_reducible refine cN ?_ _) | (with_reducible refine cD ?_))) : P := h
theorem qq83 (h : P := by repeat (first | exact (Kd.C_below HR0_2.out HB.out) | (with_reducible refine cA ?_ _) | (with_reducible refine cN ?_ _) | (with_reducible refine cD ?_))) : P := h
theorem qq84 (h : P := by (with_reducible repeat (first | apply Kd.Q_alloc | apply Kd.Q_drewN | apply Kd.Q_drew));exact Kd.Q_mono HO_630002.out (fun _ hk => ⟨hk.1.1.2.2,hk.1.2⟩)) : P := h
theorem qq85 (h : P := by (with_reducible repeat (first | apply Kd.Q_alloc | apply Kd.Q_drewN | apply Kd.Q_drew));exact Kd.Q_mono HO_615002.out (fun _ hk => ⟨hk.1.1.2.2,hk.1.2⟩)) : P := h
theorem qq86 (h : P := by repeat (first | exact (Kd.R_reads' HO_23.out).2.2 | (with_reducible refine cA ?_ _) | (with_reducible refine cN ?_ _) | (with_reducible refine cD ?_))) : P := h
theorem qq87 (h : P := by repeat (first | exact (Kd.R_reads' HO_22.out).2.2 | (with_reducible refine cA ?_ _) | (with_reducible refine cN ?_ _) | (with_reducible refine cD ?_))) : P := h
theorem qq88 (h : P := by repeat (first | exact (Kd.R_reads' HO_21.out).2.2 | (with_reducible refine cA ?_ _) | (with_reducible refine cN ?_ _) | (with_reducible refine cD ?_))) : P := h
theorem qq89 (h : P := by repeat (first | exact (Kd.R_reads' HO_12.out).2.2 | (with_reducible refine cA ?_ _) | (with_reducible refine cN ?_ _) | (with_reducible refine cD ?_))) : P := h
theorem qq90 (h : P := by repeat (first | exact (Kd.R_reads' HO_11.out).2.2 | (with_reducible refine cA ?_ _) | (with_reducible refine cN ?_ _) | (with_reducible refine cD ?_))) : P := h
theorem qq91 (h : P := by repeat (first | exact (Kd.R_reads' HO651.out).2.2 | (with_reducible refine cA ?_ _) | (with_reducible refine cN ?_ _) | (with_reducible refine cD ?_))) : P := h
theorem qq92 (h : P := by repeat (first | exact (Kd.R_reads' HO563.out).2.2 | (with_reducible refine cA ?_ _) | (with_reducible refine cN ?_ _) | (with_reducible refine cD ?_))) : P := h
theorem qq93 (h : P := by repeat (first | exact (Kd.C_below HR2.out HB.out) | (with_reducible refine cA ?_ _) | (with_reducible refine cN ?_ _) | (with_reducible refine cD ?_))) : P := h
theorem qq94 (h : P := by repeat (first | exact (Kd.C_below HR1.out HB.out) | (with_reducible refine cA ?_ _) | (with_reducible refine cN ?_ _) | (with_reducible refine cD ?_))) : P := h
theorem qq95 (h : P := by repeat (first | exact (Kd.C_below HR0.out HB.out) | (with_reducible refine cA ?_ _) | (with_reducible refine cN ?_ _) | (with_reducible refine cD ?_))) : P := h
theorem qq96 (h : P := by repeat (first | exact (Kd.R_reads' HO_6.out).2.2 | (with_reducible refine cA ?_ _) | (with_reducible refine cN ?_ _) | (with_reducible refine cD ?_))) : P := h
theorem qq97 (h : P := by repeat (first | (with_reducible first | exact HK.out | apply KeepBut.set_ | apply keep_drewN | apply keep_drew | apply keep_alloc) | exact HK.out)) : P := h
theorem qq98 (h : P := by exact qq116) : P := h
theorem qq99 (h : P := by exact qq119) : P := h
theorem qq100 (h : P := by exact qq124) : P := h
theorem qq101 (h : P := by exact qq131) : P := h
theorem qq102 (h : P := by (try simp only [hl5_2]);(try simp only [hl5_3]);(with_reducible repeat (first | refine dN ?_ _ | refine dD ?_ | refine dA ?_ _));exact BK360.out) : P := h
theorem qq103 (h : P := by repeat (first | (with_reducible first | exact HB.out | apply bA | apply bN | apply bD | refine below_set ?_ (IsS58.ge HI0.out)) | exact HB.out)) : P := h
theorem qq104 (h : P := by (with_reducible repeat (first | apply Kd.Q_alloc | apply Kd.Q_drewN | apply Kd.Q_drew));exact Kd.Q_mono HO647.out (fun _ hk => ⟨hk.1.2,hk.2⟩)) : P := h
theorem qq105 (h : P := by first | exact Kd.R_nil _ _ _ _ _ | exact Kd.N_nil _ _ _ _ _ | exact Kd.V_nil _ _ _ _ _ | exact Kd.Q_nil _ _ _ _ _ | exact Kd.S_nil _ _ _ _ _) : P := h
theorem qq106 (h : P := by (with_reducible repeat (first | apply Kd.Q_alloc | apply Kd.Q_drewN | apply Kd.Q_drew));exact Kd.Q_mono HO_6.out (fun _ hk => ⟨hk.2,hk.1⟩)) : P := h
theorem qq107 (h : P := by rw [hg];exact (below_size qq166)) : P := h
theorem qq108 (h : P := by rw [hg];exact (below_size qq176)) : P := h
theorem qq109 (h : P := by repeat (first | (with_reducible first | exact HB.out | apply bA | apply bN | apply bD | refine below_set ?_ GE614.out) | exact HB.out)) : P := h
theorem qq110 (h : P := by repeat (first | (with_reducible first | exact HB.out | apply bA | apply bN | apply bD | refine below_set ?_ GE589.out) | exact HB.out)) : P := h
theorem qq111 (h : P := by repeat (first | (with_reducible first | exact HB.out | apply bA | apply bN | apply bD | refine below_set ?_ GE571.out) | exact HB.out)) : P := h
theorem qq112 (h : P := by repeat (first | (with_reducible first | exact HB.out | apply bA | apply bN | apply bD | refine below_set ?_ GE565.out) | exact HB.out)) : P := h
theorem qq113 (h : P := by repeat (first | (with_reducible first | exact HB.out | apply bA | apply bN | apply bD | refine below_set ?_ GE557.out) | exact HB.out)) : P := h
theorem qq114 (h : P := by repeat (first | (with_reducible first | exact HB.out | apply bA | apply bN | apply bD | refine below_set ?_ GE532.out) | exact HB.out)) : P := h
theorem qq115 (h : P := by repeat (first | (with_reducible first | exact HB.out | apply bA | apply bN | apply bD | refine below_set ?_ GE506.out) | exact HB.out)) : P := h
theorem qq116 (h : P := by repeat (first | (with_reducible first | exact HB.out | apply bA | apply bN | apply bD | refine below_set ?_ GE481.out) | exact HB.out)) : P := h
theorem qq117 (h : P := by repeat (first | (with_reducible first | exact HB.out | apply bA | apply bN | apply bD | refine below_set ?_ GE474.out) | exact HB.out)) : P := h
theorem qq118 (h : P := by repeat (first | (with_reducible first | exact HB.out | apply bA | apply bN | apply bD | refine below_set ?_ GE459.out) | exact HB.out)) : P := h
theorem qq119 (h : P := by repeat (first | (with_reducible first | exact HB.out | apply bA | apply bN | apply bD | refine below_set ?_ GE421.out) | exact HB.out)) : P := h
theorem qq120 (h : P := by repeat (first | (with_reducible first | exact HB.out | apply bA | apply bN | apply bD | refine below_set ?_ GE402.out) | exact HB.out)) : P := h
theorem qq121 (h : P := by repeat (first | (with_reducible first | exact HB.out | apply bA | apply bN | apply bD | refine below_set ?_ GE398.out) | exact HB.out)) : P := h
theorem qq122 (h : P := by repeat (first | (with_reducible first | exact HB.out | apply bA | apply bN | apply bD | refine below_set ?_ GE385.out) | exact HB.out)) : P := h
theorem qq123 (h : P := by repeat (first | (with_reducible first | exact HB.out | apply bA | apply bN | apply bD | refine below_set ?_ GE360.out) | exact HB.out)) : P := h
theorem qq124 (h : P := by repeat (first | (with_reducible first | exact HB.out | apply bA | apply bN | apply bD | refine below_set ?_ GE336.out) | exact HB.out)) : P := h
theorem qq125 (h : P := by repeat (first | (with_reducible first | exact HB.out | apply bA | apply bN | apply bD | refine below_set ?_ GE333.out) | exact HB.out)) : P := h
theorem qq126 (h : P := by repeat (first | (with_reducible first | exact HB.out | apply bA | apply bN | apply bD | refine below_set ?_ GE330.out) | exact HB.out)) : P := h
theorem qq127 (h : P := by repeat (first | (with_reducible first | exact HB.out | apply bA | apply bN | apply bD | refine below_set ?_ GE325.out) | exact HB.out)) : P := h
theorem qq128 (h : P := by repeat (first | (with_reducible first | exact HB.out | apply bA | apply bN | apply bD | refine below_set ?_ GE314.out) | exact HB.out)) : P := h
theorem qq129 (h : P := by repeat (first | (with_reducible first | exact HB.out | apply bA | apply bN | apply bD | refine below_set ?_ GE310.out) | exact HB.out)) : P := h
theorem qq130 (h : P := by repeat (first | (with_reducible first | exact HB.out | apply bA | apply bN | apply bD | refine below_set ?_ GE299.out) | exact HB.out)) : P := h
theorem qq131 (h : P := by repeat (first | (with_reducible first | exact HB.out | apply bA | apply bN | apply bD | refine below_set ?_ GE261.out) | exact HB.out)) : P := h
theorem qq132 (h : P := by repeat (first | (with_reducible first | exact HB.out | apply bA | apply bN | apply bD | refine below_set ?_ GE244.out) | exact HB.out)) : P := h
theorem qq133 (h : P := by repeat (first | (with_reducible first | exact HB.out | apply bA | apply bN | apply bD | refine below_set ?_ GE239.out) | exact HB.out)) : P := h
theorem qq134 (h : P := by repeat (first | (with_reducible first | exact HB.out | apply bA | apply bN | apply bD | refine below_set ?_ GE236.out) | exact HB.out)) : P := h
theorem qq135 (h : P := by repeat (first | (with_reducible first | exact HB.out | apply bA | apply bN | apply bD | refine below_set ?_ GE233.out) | exact HB.out)) : P := h
theorem qq136 (h : P := by repeat (first | (with_reducible first | exact HB.out | apply bA | apply bN | apply bD | refine below_set ?_ GE229.out) | exact HB.out)) : P := h
theorem qq137 (h : P := by repeat (first | (with_reducible first | exact HB.out | apply bA | apply bN | apply bD | refine below_set ?_ GE219.out) | exact HB.out)) : P := h
theorem qq138 (h : P := by repeat (first | (with_reducible first | exact HB.out | apply bA | apply bN | apply bD | refine below_set ?_ GE201.out) | exact HB.out)) : P := h
theorem qq139 (h : P := by (try simp only [List.map_toArray,List.map_cons,List.map_nil]);first | done | rfl | (simp only [List.length_drop,List.length_take];rfl)) : P := h
theorem qq140 (h : P := by exact (fun k_ hk => Kd.fresh' (Kd.R_lt qq232) k_ hk)) : P := h
theorem qq141 (h : P := by (with_reducible repeat (first | apply Kd.Q_alloc | apply Kd.Q_drewN | apply Kd.Q_drew));exact Kd.Q_mono HO511.out (fun _ hk => hk.2)) : P := h
theorem qq142 (h : P := by exact (fun k_ hk => Kd.fresh' (Kd.R_lt qq248) k_ hk)) : P := h
theorem qq143 (h : P := by repeat (first | exact HR0.out | (with_reducible refine cA ?_ _) | (with_reducible refine cN ?_ _) | (with_reducible refine cD ?_))) : P := h
theorem qq144 (h : P := by (try simp only [hl5_2]);(try simp only [hl5_3]);(with_reducible repeat (first | apply kA | apply kN | apply kD));exact HO_9.out) : P := h
theorem qq145 (h : P := by have hw_ : ((ji34) : Int) = x12_2 + 1:=qq253;rw [hw_];omega) : P := h
theorem qq146 (h : P := by exact (below_size qq176)) : P := h
theorem qq147 (h : P := by exact qq159) : P := h
theorem qq148 (h : P := by (with_reducible repeat (first | apply kA | apply kN | apply kD));exact Kd.R_mono HO438.out (fun _ hk => ⟨trivial,hk⟩)) : P := h
theorem qq149 (h : P := by (with_reducible repeat (first | apply kA | apply kN | apply kD));exact Kd.R_mono HO435.out (fun _ hk => ⟨trivial,hk⟩)) : P := h
theorem qq150 (h : P := by (with_reducible repeat (first | apply kA | apply kN | apply kD));exact Kd.R_mono HO_8.out (fun _ hk => ⟨trivial,hk⟩)) : P := h
theorem qq151 (h : P := by (with_reducible repeat (first | apply kA | apply kN | apply kD));exact Kd.R_mono HO_57.out (fun _ hk => ⟨hk.2,hk.1⟩)) : P := h
theorem qq152 (h : P := by (with_reducible repeat (first | apply kA | apply kN | apply kD));exact Kd.R_mono HO_9.out (fun _ hk => ⟨hk.2,hk.1⟩)) : P := h
theorem qq153 (h : P := by (with_reducible repeat (first | apply kA | apply kN | apply kD));exact Kd.R_mono HO_8.out (fun _ hk => ⟨hk.2,hk.1⟩)) : P := h
theorem qq154 (h : P := by (with_reducible repeat (first | apply kA | apply kN | apply kD));exact Kd.R_mono HO_5.out (fun _ hk => ⟨hk.2,hk.1⟩)) : P := h
theorem qq155 (h : P := by exact qq176) : P := h
theorem qq156 (h : P := by (with_reducible repeat (first | apply kA | apply kN | apply kD));exact Kd.R_mono HO_7.out (fun _ hk => trivial)) : P := h
theorem qq157 (h : P := by (with_reducible repeat (first | apply kA | apply kN | apply kD));exact Kd.R_mono HO_5.out (fun _ hk => trivial)) : P := h
theorem qq158 (h : P := by (with_reducible repeat (first | apply kA | apply kN | apply kD));exact Kd.R_mono HO517.out (fun _ hk => hk.2)) : P := h
theorem qq159 (h : P := by (with_reducible repeat (first | apply kA | apply kN | apply kD));exact Kd.R_mono HO484.out (fun _ hk => hk.2)) : P := h
theorem qq160 (h : P := by (with_reducible repeat (first | apply kA | apply kN | apply kD));exact Kd.R_mono HO_8.out (fun _ hk => hk.2)) : P := h
theorem qq161 (h : P := by (with_reducible repeat (first | apply kA | apply kN | apply kD));exact Kd.R_mono HO_5.out (fun _ hk => hk.2)) : P := h
theorem qq162 (h : P := by (with_reducible repeat (first | apply Kd.Q_alloc | apply Kd.Q_drewN | apply Kd.Q_drew));exact HO_654002.out) : P := h
theorem qq163 (h : P := by (with_reducible repeat (first | apply Kd.Q_alloc | apply Kd.Q_drewN | apply Kd.Q_drew));exact HO_630002.out) : P := h
theorem qq164 (h : P := by (with_reducible repeat (first | apply Kd.Q_alloc | apply Kd.Q_drewN | apply Kd.Q_drew));exact HO_615002.out) : P := h
theorem qq165 (h : P := by (with_reducible repeat (first | apply Kd.Q_alloc | apply Kd.Q_drewN | apply Kd.Q_drew));exact HO_515002.out) : P := h
theorem qq166 (h : P := by repeat (first | (with_reducible first | exact HBW.out | apply bA | apply bN | apply bD) | exact HBW.out)) : P := h
theorem qq167 (h : P := by (with_reducible repeat (first | apply Kd.Q_alloc | apply Kd.Q_drewN | apply Kd.Q_drew));exact HO647.out) : P := h
theorem qq168 (h : P := by (with_reducible repeat (first | apply Kd.Q_alloc | apply Kd.Q_drewN | apply Kd.Q_drew));exact HO584.out) : P := h
theorem qq169 (h : P := by (with_reducible repeat (first | apply Kd.Q_alloc | apply Kd.Q_drewN | apply Kd.Q_drew));exact HO537.out) : P := h
theorem qq170 (h : P := by (with_reducible repeat (first | apply Kd.Q_alloc | apply Kd.Q_drewN | apply Kd.Q_drew));exact HO511.out) : P := h
theorem qq171 (h : P := by (with_reducible repeat (first | apply Kd.Q_alloc | apply Kd.Q_drewN | apply Kd.Q_drew));exact HO464.out) : P := h
theorem qq172 (h : P := by (with_reducible repeat (first | apply Kd.Q_alloc | apply Kd.Q_drewN | apply Kd.Q_drew));exact HO407.out) : P := h
theorem qq173 (h : P := by (with_reducible repeat (first | apply Kd.Q_alloc | apply Kd.Q_drewN | apply Kd.Q_drew));exact HO281.out) : P := h
theorem qq174 (h : P := by (with_reducible repeat (first | apply Kd.Q_alloc | apply Kd.Q_drewN | apply Kd.Q_drew));exact HO206.out) : P := h
theorem qq175 (h : P := by (with_reducible repeat (first | apply Kd.Q_alloc | apply Kd.Q_drewN | apply Kd.Q_drew));exact HO182.out) : P := h
theorem qq176 (h : P := by repeat (first | (with_reducible first | exact HB.out | apply bA | apply bN | apply bD) | exact HB.out)) : P := h
theorem qq177 (h : P := by (with_reducible repeat (first | apply Kd.Q_alloc | apply Kd.Q_drewN | apply Kd.Q_drew));exact HO_6.out) : P := h
theorem qq178 (h : P := by (with_reducible repeat (first | refine dN ?_ _ | refine dD ?_ | refine dA ?_ _));exact BK653.out) : P := h
theorem qq179 (h : P := by (with_reducible repeat (first | refine dN ?_ _ | refine dD ?_ | refine dA ?_ _));exact BK629.out) : P := h
theorem qq180 (h : P := by (with_reducible repeat (first | refine dN ?_ _ | refine dD ?_ | refine dA ?_ _));exact BK614.out) : P := h
theorem qq181 (h : P := by (with_reducible repeat (first | refine dN ?_ _ | refine dD ?_ | refine dA ?_ _));exact BK571.out) : P := h
theorem qq182 (h : P := by (with_reducible repeat (first | refine dN ?_ _ | refine dD ?_ | refine dA ?_ _));exact BK565.out) : P := h
theorem qq183 (h : P := by (with_reducible repeat (first | refine dN ?_ _ | refine dD ?_ | refine dA ?_ _));exact BK557.out) : P := h
theorem qq184 (h : P := by (with_reducible repeat (first | refine dN ?_ _ | refine dD ?_ | refine dA ?_ _));exact BK541.out) : P := h
theorem qq185 (h : P := by (with_reducible repeat (first | refine dN ?_ _ | refine dD ?_ | refine dA ?_ _));exact BK532.out) : P := h
theorem qq186 (h : P := by (with_reducible repeat (first | refine dN ?_ _ | refine dD ?_ | refine dA ?_ _));exact BK514.out) : P := h
theorem qq187 (h : P := by (with_reducible repeat (first | refine dN ?_ _ | refine dD ?_ | refine dA ?_ _));exact BK506.out) : P := h
theorem qq188 (h : P := by (with_reducible repeat (first | refine dN ?_ _ | refine dD ?_ | refine dA ?_ _));exact BK481.out) : P := h
theorem qq189 (h : P := by (with_reducible repeat (first | refine dN ?_ _ | refine dD ?_ | refine dA ?_ _));exact BK474.out) : P := h
theorem qq190 (h : P := by (with_reducible repeat (first | refine dN ?_ _ | refine dD ?_ | refine dA ?_ _));exact BK459.out) : P := h
theorem qq191 (h : P := by (with_reducible repeat (first | refine dN ?_ _ | refine dD ?_ | refine dA ?_ _));exact BK421.out) : P := h
theorem qq192 (h : P := by (with_reducible repeat (first | refine dN ?_ _ | refine dD ?_ | refine dA ?_ _));exact BK410.out) : P := h
theorem qq193 (h : P := by (with_reducible repeat (first | refine dN ?_ _ | refine dD ?_ | refine dA ?_ _));exact BK402.out) : P := h
theorem qq194 (h : P := by (with_reducible repeat (first | refine dN ?_ _ | refine dD ?_ | refine dA ?_ _));exact BK385.out) : P := h
theorem qq195 (h : P := by (with_reducible repeat (first | refine dN ?_ _ | refine dD ?_ | refine dA ?_ _));exact BK360.out) : P := h
theorem qq196 (h : P := by (with_reducible repeat (first | refine dN ?_ _ | refine dD ?_ | refine dA ?_ _));exact BK336.out) : P := h
theorem qq197 (h : P := by (with_reducible repeat (first | refine dN ?_ _ | refine dD ?_ | refine dA ?_ _));exact BK333.out) : P := h
theorem qq198 (h : P := by (with_reducible repeat (first | refine dN ?_ _ | refine dD ?_ | refine dA ?_ _));exact BK330.out) : P := h
theorem qq199 (h : P := by (with_reducible repeat (first | refine dN ?_ _ | refine dD ?_ | refine dA ?_ _));exact BK325.out) : P := h
theorem qq200 (h : P := by (with_reducible repeat (first | refine dN ?_ _ | refine dD ?_ | refine dA ?_ _));exact BK314.out) : P := h
theorem qq201 (h : P := by (with_reducible repeat (first | refine dN ?_ _ | refine dD ?_ | refine dA ?_ _));exact BK299.out) : P := h
theorem qq202 (h : P := by (with_reducible repeat (first | refine dN ?_ _ | refine dD ?_ | refine dA ?_ _));exact BK261.out) : P := h
theorem qq203 (h : P := by (with_reducible repeat (first | refine dN ?_ _ | refine dD ?_ | refine dA ?_ _));exact BK244.out) : P := h
theorem qq204 (h : P := by (with_reducible repeat (first | refine dN ?_ _ | refine dD ?_ | refine dA ?_ _));exact BK239.out) : P := h
theorem qq205 (h : P := by (with_reducible repeat (first | refine dN ?_ _ | refine dD ?_ | refine dA ?_ _));exact BK236.out) : P := h
theorem qq206 (h : P := by (with_reducible repeat (first | refine dN ?_ _ | refine dD ?_ | refine dA ?_ _));exact BK233.out) : P := h
theorem qq207 (h : P := by (with_reducible repeat (first | refine dN ?_ _ | refine dD ?_ | refine dA ?_ _));exact BK208.out) : P := h
theorem qq208 (h : P := by (with_reducible repeat (first | refine dN ?_ _ | refine dD ?_ | refine dA ?_ _));exact BK201.out) : P := h
theorem qq209 (h : P := by (with_reducible repeat (first | refine dN ?_ _ | refine dD ?_ | refine dA ?_ _));exact BK185.out) : P := h
theorem qq210 (h : P := by (with_reducible repeat (first | refine dN ?_ _ | refine dD ?_ | refine dA ?_ _));exact BK173.out) : P := h
theorem qq211 (h : P := by (with_reducible repeat (first | refine dN ?_ _ | refine dD ?_ | refine dA ?_ _));exact BK153.out) : P := h
theorem qq212 (h : P := by (with_reducible repeat (first | refine dN ?_ _ | refine dD ?_ | refine dA ?_ _));exact BK145.out) : P := h
theorem qq213 (h : P := by (with_reducible repeat (first | refine dN ?_ _ | refine dD ?_ | refine dA ?_ _));exact BK134.out) : P := h
theorem qq214 (h : P := by (with_reducible repeat (first | refine dN ?_ _ | refine dD ?_ | refine dA ?_ _));exact BK127.out) : P := h
theorem qq215 (h : P := by have:=HJ2.out;have:=HJ12.out;have:=HJ17.out;have:=HJ25.out;first | omega | exact Nat.le_refl _) : P := h
theorem qq216 (h : P := by first | rfl | (simp [errW_none,errW_some] <;> rfl) | (simp [*,errW_none,errW_some] <;> rfl)) : P := h
theorem qq217 (h : P := by exact qq238) : P := h
theorem qq218 (h : P := by exact (Reps.one (show Kd.M (Kd.int .i64) _ _ _ a1 [.int .i64 a1] from rfl) (Reps.none _ _))) : P := h
theorem qq219 (h : P := by exact qq249) : P := h
theorem qq220 (h : P := by exact qq251) : P := h
theorem qq221 (h : P := by (with_reducible repeat (first | apply kA | apply kN | apply kD));exact HO_135002.out) : P := h
theorem qq222 (h : P := by (with_reducible repeat (first | apply kA | apply kN | apply kD));exact HO_57.out) : P := h
theorem qq223 (h : P := by (with_reducible repeat (first | apply kA | apply kN | apply kD));exact HO_25.out) : P := h
theorem qq224 (h : P := by (with_reducible repeat (first | apply kA | apply kN | apply kD));exact HO_12.out) : P := h
theorem qq225 (h : P := by (with_reducible repeat (first | apply kA | apply kN | apply kD));exact HO_11.out) : P := h
theorem qq226 (h : P := by (with_reducible repeat (first | apply kA | apply kN | apply kD));exact HO663.out) : P := h
theorem qq227 (h : P := by (with_reducible repeat (first | apply kA | apply kN | apply kD));exact HO661.out) : P := h
theorem qq228 (h : P := by (with_reducible repeat (first | apply kA | apply kN | apply kD));exact HO651.out) : P := h
theorem qq229 (h : P := by (with_reducible repeat (first | apply kA | apply kN | apply kD));exact HO588.out) : P := h
theorem qq230 (h : P := by (with_reducible repeat (first | apply kA | apply kN | apply kD));exact HO540.out) : P := h
theorem qq231 (h : P := by (with_reducible repeat (first | apply kA | apply kN | apply kD));exact HO517.out) : P := h
theorem qq232 (h : P := by (with_reducible repeat (first | apply kA | apply kN | apply kD));exact HO488.out) : P := h
theorem qq233 (h : P := by (with_reducible repeat (first | apply kA | apply kN | apply kD));exact HO484.out) : P := h
theorem qq234 (h : P := by (with_reducible repeat (first | apply kA | apply kN | apply kD));exact HO438.out) : P := h
theorem qq235 (h : P := by (with_reducible repeat (first | apply kA | apply kN | apply kD));exact HO435.out) : P := h
theorem qq236 (h : P := by (with_reducible repeat (first | apply kA | apply kN | apply kD));exact HO424.out) : P := h
theorem qq237 (h : P := by (with_reducible repeat (first | apply kA | apply kN | apply kD));exact HO388.out) : P := h
theorem qq238 (h : P := by (with_reducible repeat (first | apply kA | apply kN | apply kD));exact HO351.out) : P := h
theorem qq239 (h : P := by (with_reducible repeat (first | apply kA | apply kN | apply kD));exact HO339.out) : P := h
theorem qq240 (h : P := by (with_reducible repeat (first | apply kA | apply kN | apply kD));exact HO319.out) : P := h
theorem qq241 (h : P := by (with_reducible repeat (first | apply kA | apply kN | apply kD));exact HO306.out) : P := h
theorem qq242 (h : P := by (with_reducible repeat (first | apply kA | apply kN | apply kD));exact HO303.out) : P := h
theorem qq243 (h : P := by (with_reducible repeat (first | apply kA | apply kN | apply kD));exact HO248.out) : P := h
theorem qq244 (h : P := by (with_reducible repeat (first | apply kA | apply kN | apply kD));exact HO150.out) : P := h
theorem qq245 (h : P := by (with_reducible repeat (first | apply kA | apply kN | apply kD));exact HO137.out) : P := h
theorem qq246 (h : P := by have:=HJ2.out;have:=HJ12.out;have:=HJ17.out;first | omega | exact Nat.le_refl _) : P := h
theorem qq247 (h : P := by (with_reducible repeat (first | apply kA | apply kN | apply kD));exact HO_9.out) : P := h
theorem qq248 (h : P := by (with_reducible repeat (first | apply kA | apply kN | apply kD));exact HO_8.out) : P := h
theorem qq249 (h : P := by (with_reducible repeat (first | apply kA | apply kN | apply kD));exact HO_7.out) : P := h
theorem qq250 (h : P := by (with_reducible repeat (first | apply kA | apply kN | apply kD));exact HO_6.out) : P := h
theorem qq251 (h : P := by (with_reducible repeat (first | apply kA | apply kN | apply kD));exact HO_5.out) : P := h
theorem qq252 (h : P := by have:=HK1.out;have:=HK2.out;have:=HK3.out;first | omega | exact Nat.le_refl _) : P := h
theorem qq253 (h : P := by have h00_:=h0_;rw [← hji34] at h00_ ⊢;unfold wrap64 at h00_ ⊢;omega) : P := h
theorem qq254 (h : P := by have:=HJ2.out;have:=HJ12.out;first | omega | exact Nat.le_refl _) : P := h
theorem qq255 (h : P := by have:=HK1.out;have:=HK2.out;first | omega | exact Nat.le_refl _) : P := h
theorem qq256 (h : P := by have:=HK1.out;have:=HK2.out;have:=HK3.out;have:=HK4.out;omega) : P := h
theorem qq257 (h : P := by repeat (first | exact Drawn0.refl _ | apply Drawn0.step)) : P := h
theorem qq258 (h : P := by first | (with_reducible assumption) | assumption) : P := h
theorem qq259 (h : P := by have:=HK1.out;have:=HK2.out;have:=HK3.out;omega) : P := h
theorem qq260 (h : P := by first | rfl | (simp;done) | (simp [*];done)) : P := h
theorem qq261 (h : P := by first | (go_simp;done) | (go_simp;rfl)) : P := h
theorem qq262 (h : P := by rw [Ny593.out,List.length_take];omega) : P := h
theorem qq263 (h : P := by exact (Kd.Q_reads' HO_630002.out).2.1) : P := h
theorem qq264 (h : P := by exact (Kd.Q_reads' HO_615002.out).2.1) : P := h
theorem qq265 (h : P := by first | omega | exact Nat.le_refl _) : P := h
theorem qq266 (h : P := by have:=HK1.out;have:=HK2.out;omega) : P := h
theorem qq267 (h : P := by exact (Kd.R_reads' HO_11.out).2.1) : P := h
theorem qq268 (h : P := by exact (Kd.R_reads' HO651.out).2.1) : P := h
theorem qq269 (h : P := by exact (Kd.R_reads' HO588.out).2.1) : P := h
theorem qq270 (h : P := by exact (Kd.Q_reads' HO584.out).2.1) : P := h
theorem qq271 (h : P := by exact (Kd.R_reads' HO_6.out).2.1) : P := h
theorem qq272 (h : P := by exact (fun _ _ => trivial)) : P := h
theorem qq273 (h : P := by have:=LMc39.out;omega) : P := h
theorem qq274 (h : P := by exact (Reps.none _ _)) : P := h
theorem qq275 (h : P := by have:=HK1.out;omega) : P := h
theorem qq276 (h : P := by exact HC0_2.out) : P := h
theorem qq277 (h : P := by exact Kd.R_mono (Kd.R_keep (IsS58.apart (show IsS58 w0 _ g s0_0 t155 t156 from by repeat (first | (with_reducible first | exact HI0.out | apply IsS58.alloc | apply IsS58.drewN | apply IsS58.drew | apply IsS58.set_1 | apply IsS58.set_2 | refine IsS58.far ?_ NB0_145.out _ | refine IsS58.far ?_ NB0_153.out _) | exact HI0.out)) qq244 (by decide)) hk (fun _ h => h.2)) (fun _ h => h.1)) : P := h
theorem qq278 (h : P := by exact blk_grown (g:=gb336) (o:=.cells #[.int .i64 a0_0,.int .i64 a0_1,.slice (some ad352) l0_2.length c0_2] 26 (0,0)) qq196 hg (Kd.R_ne HO351.out BK336.out (by decide))) : P := h
theorem qq279 (h : P := by exact blk_grown (g:=gb336) (o:=.cells #[.int .i64 a0_0,.int .i64 a0_1,.slice (some ad356) l0_2.length c0_2] 26 (0,0)) qq196 hg (Kd.R_ne HO_5.out BK336.out (by decide))) : P := h
theorem qq280 (h : P := by exact blk_grown (g:=gb421) (o:=.cells #[.int .i64 a0_0,.int .i64 a0_1,.slice A0_2 l0_2.length c0_2] 26 (0,0)) qq191 hg (Kd.R_ne HO435.out BK421.out (by decide))) : P := h
theorem qq281 (h : P := by exact blk_grown (g:=gb421) (o:=.cells #[.int .i64 a0_0,.int .i64 a0_1,.slice A0_2 l0_2.length c0_2] 26 (0,0)) qq191 hg (Kd.R_ne HO438.out BK421.out (by decide))) : P := h
theorem qq282 (h : P := by exact blk_grown (g:=gb481) (o:=.cells #[.int .i64 a0_0,.int .i64 a0_1,.slice A0_2 l0_2.length c0_2] 26 (0,0)) qq188 hg (Kd.R_ne HO484.out BK481.out (by decide))) : P := h
theorem qq283 (h : P := by exact blk_grown (g:=gb261) (o:=.cells #[.int .i64 a0_0,.int .i64 a0_1,.slice A0_2 l0_2.length c0_2] 26 (0,0)) qq202 hg (Kd.R_ne HO_5.out BK261.out (by decide))) : P := h
theorem qq284 (h : P := by exact blk_grown (g:=gb261) (o:=.cells #[.int .i64 a0_0,.int .i64 a0_1,.slice A0_2 l0_2.length c0_2] 26 (0,0)) qq202 hg (Kd.Q_ne HO_6.out BK261.out (by decide))) : P := h
theorem qq285 (h : P := by exact blk_grown (g:=gb336) (o:=.cells #[.int .i64 a0_0,.int .i64 a0_1,.slice A0_2 l0_2.length c0_2] 26 (0,0)) qq196 hg (Kd.R_ne HO_5.out BK336.out (by decide))) : P := h
theorem qq286 (h : P := by exact blk_grown (g:=gb360) (o:=.cells #[.int .i64 a0_0,.int .i64 a0_1,.slice A0_2 l0_2.length c0_2] 26 (0,0)) qq195 hg (Kd.R_ne HO_5.out BK360.out (by decide))) : P := h
theorem qq287 (h : P := by exact blk_grown (g:=gb481) (o:=.cells #[.int .i64 a0_0,.int .i64 a0_1,.slice A0_2 l0_2.length c0_2] 26 (0,0)) qq188 hg (Kd.R_ne HO_7.out BK481.out (by decide))) : P := h
theorem qq288 (h : P := by exact blk_grown (g:=gb127) (o:=.cells #[.int .i64 0,.int .i64 0,.slice none 0 0] 26 (0,0)) qq214 hg (Kd.R_ne HO_135002.out BK127.out (by decide))) : P := h
theorem qq289 (h : P := by exact KeepBut.blk hk (g':=gb185) (o:=.cells #[.int .i64 t178,.int .i64 t179,.slice Ao15 t180.length co15] 26 (0,0)) qq209 NB185_177.out (by simp)) : P := h
theorem qq290 (h : P := by exact KeepBut.blk hk (g':=gb514) (o:=.cells #[.int .i64 t507,.int .i64 t508,.slice Ao11 t509.length co11] 26 (0,0)) qq186 NB514_521.out (by simp)) : P := h
theorem qq291 (h : P := by exact KeepBut.blk hk (g':=gb541) (o:=.cells #[.int .i64 t533,.int .i64 t534,.slice Ao11 t535.length co11] 26 (0,0)) qq184 NB541_545.out (by simp)) : P := h
theorem qq292 (h : P := by exact KeepBut.blk hk (g':=gb153) (o:=.cells #[.int .i64 t146,.int .i64 t147,.slice Ao11 t148.length co11] 26 (0,0)) qq211 NB153_0.out (by simp)) : P := h
theorem qq293 (h : P := by exact Kd.R_mono (ok':=(fun k_ => some k_ ≠ (.slice (some ⟨go54,0,none⟩) y433.length co51 : Value).ownBlock)) HO438.out (fun k_ hk => hk.2)) : P := h
theorem qq294 (h : P := by exact KeepBut.blk hk (g':=gb173) (o:=.cells #[.int .i64 0,.int .i64 0,.slice none 0 0] 26 (0,0)) qq210 NB173_177.out (by simp)) : P := h
theorem qq295 (h : P := by exact KeepBut.blk hk (g':=gb506) (o:=.cells #[.int .i64 0,.int .i64 0,.slice none 0 0] 26 (0,0)) qq187 NB506_521.out (by simp)) : P := h
theorem qq296 (h : P := by exact KeepBut.blk hk (g':=gb532) (o:=.cells #[.int .i64 0,.int .i64 0,.slice none 0 0] 26 (0,0)) qq185 NB532_545.out (by simp)) : P := h
theorem qq297 (h : P := by exact KeepBut.blk hk (g':=gb127) (o:=.cells #[.int .i64 0,.int .i64 0,.slice none 0 0] 26 (0,0)) qq214 NB127_0.out (by simp)) : P := h
theorem qq298 (h : P := by exact KeepBut.blk hk (g':=gb145) (o:=.cells #[.int .i64 0,.int .i64 0,.slice none 0 0] 26 (0,0)) qq212 NB145_0.out (by simp)) : P := h
theorem qq299 (h : P := by exact blk_below (g:=gb233) (o:=.cells #[.int .i64 a0_0,.int .i64 a0_1,.slice A0_2 l0_2.length c0_2] 26 (0,0)) qq206 hb) : P := h
theorem qq300 (h : P := by exact blk_below (g:=gb236) (o:=.cells #[.int .i64 a0_0,.int .i64 a0_1,.slice A0_2 l0_2.length c0_2] 26 (0,0)) qq205 hb) : P := h
theorem qq301 (h : P := by exact blk_below (g:=gb239) (o:=.cells #[.int .i64 a0_0,.int .i64 a0_1,.slice A0_2 l0_2.length c0_2] 26 (0,0)) qq204 hb) : P := h
theorem qq302 (h : P := by exact blk_below (g:=gb244) (o:=.cells #[.int .i64 a0_0,.int .i64 a0_1,.slice A0_2 l0_2.length c0_2] 26 (0,0)) qq203 hb) : P := h
theorem qq303 (h : P := by exact blk_below (g:=gb261) (o:=.cells #[.int .i64 a0_0,.int .i64 a0_1,.slice A0_2 l0_2.length c0_2] 26 (0,0)) qq202 hb) : P := h
theorem qq304 (h : P := by exact blk_below (g:=gb299) (o:=.cells #[.int .i64 a0_0,.int .i64 a0_1,.slice A0_2 l0_2.length c0_2] 26 (0,0)) qq201 hb) : P := h
theorem qq305 (h : P := by exact blk_below (g:=gb314) (o:=.cells #[.int .i64 a0_0,.int .i64 a0_1,.slice A0_2 l0_2.length c0_2] 26 (0,0)) qq200 hb) : P := h
theorem qq306 (h : P := by exact blk_below (g:=gb330) (o:=.cells #[.int .i64 a0_0,.int .i64 a0_1,.slice A0_2 l0_2.length c0_2] 26 (0,0)) qq198 hb) : P := h
theorem qq307 (h : P := by exact blk_below (g:=gb333) (o:=.cells #[.int .i64 a0_0,.int .i64 a0_1,.slice A0_2 l0_2.length c0_2] 26 (0,0)) qq197 hb) : P := h
theorem qq308 (h : P := by exact blk_below (g:=gb336) (o:=.cells #[.int .i64 a0_0,.int .i64 a0_1,.slice A0_2 l0_2.length c0_2] 26 (0,0)) qq196 hb) : P := h
theorem qq309 (h : P := by exact blk_below (g:=gb360) (o:=.cells #[.int .i64 a0_0,.int .i64 a0_1,.slice A0_2 l0_2.length c0_2] 26 (0,0)) qq195 hb) : P := h
theorem qq310 (h : P := by exact blk_below (g:=gb385) (o:=.cells #[.int .i64 a0_0,.int .i64 a0_1,.slice A0_2 l0_2.length c0_2] 26 (0,0)) qq194 hb) : P := h
theorem qq311 (h : P := by exact blk_below (g:=gb421) (o:=.cells #[.int .i64 a0_0,.int .i64 a0_1,.slice A0_2 l0_2.length c0_2] 26 (0,0)) qq191 hb) : P := h
theorem qq312 (h : P := by exact blk_below (g:=gb474) (o:=.cells #[.int .i64 a0_0,.int .i64 a0_1,.slice A0_2 l0_2.length c0_2] 26 (0,0)) qq189 hb) : P := h
theorem qq313 (h : P := by exact blk_below (g:=gb481) (o:=.cells #[.int .i64 a0_0,.int .i64 a0_1,.slice A0_2 l0_2.length c0_2] 26 (0,0)) qq188 hb) : P := h
theorem qq314 (h : P := by exact blk_below (g:=gb557) (o:=.cells #[.int .i64 a0_0,.int .i64 a0_1,.slice A0_2 l0_2.length c0_2] 26 (0,0)) qq183 hb) : P := h
theorem qq315 (h : P := by exact blk_below (g:=gb565) (o:=.cells #[.int .i64 a0_0,.int .i64 a0_1,.slice A0_2 l0_2.length c0_2] 26 (0,0)) qq182 hb) : P := h
theorem qq316 (h : P := by exact blk_below (g:=gb571) (o:=.cells #[.int .i64 a0_0,.int .i64 a0_1,.slice A0_2 l0_2.length c0_2] 26 (0,0)) qq181 hb) : P := h
theorem qq317 (h : P := by exact blk_below (g:=gb629) (o:=.cells #[.int .i64 t620,.int .i64 t621,.slice Ao36 t622.length co36] 26 (0,0)) qq179 hb) : P := h
theorem qq318 (h : P := by exact blk_below (g:=gb653) (o:=.cells #[.int .i64 t643,.int .i64 t644,.slice Ao82 t645.length co82] 26 (0,0)) qq178 hb) : P := h
theorem qq319 (h : P := by exact blk_below (g:=gb589) (o:=.cells #[.int .i64 t580,.int .i64 t581,.slice Ao10 t582.length co10] 26 (0,0)) qq1 hb) : P := h
theorem qq320 (h : P := by exact blk_below (g:=gb614) (o:=.cells #[.int .i64 t607,.int .i64 t608,.slice Ao9 t609.length co9] 26 (0,0)) qq180 hb) : P := h
theorem qq321 (h : P := by exact Kd.Q_mono (Kd.Q_told (Kd.Q_told (Kd.Q_old qq164 hb) (Kd.Q_base ho0)) (Kd.R_base ho1)) (fun _ h_ => h_.1)) : P := h
theorem qq322 (h : P := by exact Kd.R_after (ok:=(fun k_ => some k_ ≠ (.slice Ao25 t492.length co25 : Value).ownBlock)) qq153 hg hat) : P := h
theorem qq323 (h : P := by exact blk_below (g:=gb127) (o:=.cells #[.int .i64 0,.int .i64 0,.slice none 0 0] 26 (0,0)) qq214 hb) : P := h
theorem qq324 (h : P := by exact blk_below (g:=gb145) (o:=.cells #[.int .i64 0,.int .i64 0,.slice none 0 0] 26 (0,0)) qq212 hb) : P := h
theorem qq325 (h : P := by exact blk_below (g:=gb173) (o:=.cells #[.int .i64 0,.int .i64 0,.slice none 0 0] 26 (0,0)) qq210 hb) : P := h
theorem qq326 (h : P := by exact blk_below (g:=gb201) (o:=.cells #[.int .i64 0,.int .i64 0,.slice none 0 0] 26 (0,0)) qq208 hb) : P := h
theorem qq327 (h : P := by exact blk_below (g:=gb402) (o:=.cells #[.int .i64 0,.int .i64 0,.slice none 0 0] 26 (0,0)) qq193 hb) : P := h
theorem qq328 (h : P := by exact blk_below (g:=gb459) (o:=.cells #[.int .i64 0,.int .i64 0,.slice none 0 0] 26 (0,0)) qq190 hb) : P := h
theorem qq329 (h : P := by exact blk_below (g:=gb506) (o:=.cells #[.int .i64 0,.int .i64 0,.slice none 0 0] 26 (0,0)) qq187 hb) : P := h
theorem qq330 (h : P := by exact blk_below (g:=gb532) (o:=.cells #[.int .i64 0,.int .i64 0,.slice none 0 0] 26 (0,0)) qq185 hb) : P := h
theorem qq331 (h : P := by exact Kd.R_lower (Kd.R_new' (Kd.R_new' ho0 (Kd.R_lt qq249)) (Kd.R_lt qq248)) (below_size qq116)) : P := h
theorem qq332 (h : P := by exact Kd.R_lower (Kd.R_new' (Kd.R_new' ho0 (Kd.Q_lt qq16)) (Kd.R_lt qq21)) (below_size qq110)) : P := h
theorem qq333 (h : P := by exact Kd.R_after (ok:=(fun k_ => some k_ ≠ (v487 : Value).ownBlock)) qq152 hg hat) : P := h
theorem qq334 (h : P := by exact Kd.R_lower (Kd.R_new' ho0 (Kd.R_lt qq233)) (below_size qq116)) : P := h
theorem qq335 (h : P := by exact KeepBut.trans qq97 (KeepBut.of_below hb g none) (.inl rfl)) : P := h
theorem qq336 (h : P := by exact Kd.R_after (ok:=(fun _ => True)) qq232 hg hat) : P := h
theorem qq337 (h : P := by exact Kd.R_elder' qq249 (Kd.R_base ho0) hb) : P := h
theorem qq338 (h : P := by exact Kd.Q_lower ho0 (below_size qq176)) : P := h
theorem qq339 (h : P := by exact KeepBut.trans qq97 hk (.inl rfl)) : P := h
theorem qq340 (h : P := by exact KeepBut.trans qq39 hk (.inl rfl)) : P := h
theorem qq341 (h : P := by exact (qq108 : w.heap.size ≤ gb229)) : P := h
theorem qq342 (h : P := by exact (qq108 : w.heap.size ≤ gb233)) : P := h
theorem qq343 (h : P := by exact (qq108 : w.heap.size ≤ gb236)) : P := h
theorem qq344 (h : P := by exact (qq108 : w.heap.size ≤ gb244)) : P := h
theorem qq345 (h : P := by exact (qq108 : w.heap.size ≤ gb299)) : P := h
theorem qq346 (h : P := by exact (qq108 : w.heap.size ≤ gb314)) : P := h
theorem qq347 (h : P := by exact (qq108 : w.heap.size ≤ gb330)) : P := h
theorem qq348 (h : P := by exact (qq108 : w.heap.size ≤ gb333)) : P := h
theorem qq349 (h : P := by exact (qq108 : w.heap.size ≤ gb336)) : P := h
theorem qq350 (h : P := by exact (qq108 : w.heap.size ≤ gb385)) : P := h
theorem qq351 (h : P := by exact (qq108 : w.heap.size ≤ gb474)) : P := h
theorem qq352 (h : P := by exact (qq108 : w.heap.size ≤ gb481)) : P := h
theorem qq353 (h : P := by exact (qq108 : w.heap.size ≤ gb589)) : P := h
theorem qq354 (h : P := by exact Below.refl w.heap.size w) : P := h
theorem qq355 (h : P := by exact Kd.Q_drew HO_615002.out) : P := h
theorem qq356 (h : P := by exact Kd.Q_drew HO_630002.out) : P := h
theorem qq357 (h : P := by exact KeepBut.refl w g none) : P := h
theorem qq358 (h : P := by exact below_step qq176 hb) : P := h
theorem qq359 (h : P := by exact below_step qq132 hb) : P := h
theorem qq360 (h : P := by exact Kd.R_below qq251 hb) : P := h
theorem qq361 (h : P := by exact below_step qq131 hb) : P := h
theorem qq362 (h : P := by exact below_step qq128 hb) : P := h
theorem qq363 (h : P := by exact below_step qq117 hb) : P := h
theorem qq364 (h : P := by exact below_step qq116 hb) : P := h
theorem qq365 (h : P := by exact Kd.R_below qq233 hb) : P := h
theorem qq366 (h : P := by exact below_step qq113 hb) : P := h
theorem qq367 (h : P := by exact below_step qq109 hb) : P := h
theorem qq368 (h : P := by exact Kd.Q_below qq164 hb) : P := h
theorem qq369 (h : P := by exact Kd.R_drew HO_11.out) : P := h
theorem qq370 (h : P := by exact Kd.R_drew HO_12.out) : P := h
theorem qq371 (h : P := by exact Kd.R_below qq225 hb) : P := h
theorem qq372 (h : P := by exact Kd.R_below qq224 hb) : P := h
theorem qq373 (h : P := by exact Kd.Q_below qq163 hb) : P := h
theorem qq374 (h : P := by exact below_drew1 HB.out) : P := h
theorem qq375 (h : P := by exact below_step qq69 hb) : P := h
theorem qq376 (h : P := by exact blk_drew BK614.out) : P := h
theorem qq377 (h : P := by exact blk_drew BK629.out) : P := h
end
end Go.Proofs.Ytimpjccgnkbgmaa.PFnSearch
