/- Contracts of functions that the law FnSearch reaches, for its row: lines that the kit's printer wrote for this claim, set shorter by a program of this session (own.py), and what fell in Lean proved anew. Lean checks them. -/
import Derived.Test.YtimpjccgnkbgmaaSFnSearchx0
import Derived.Test.YtimpjccgnkbgmaaSFnSearchx6
import Derived.Test.YtimpjccgnkbgmaaSFnSearchx9
namespace Go.Proofs.Ytimpjccgnkbgmaa.PFnSearch
open Go.RowKit Go.Proofs.YtimpjccgnkbgmaaW.PrintWords Go.Proofs.YtimpjccgnkbgmaaW.PrintLast Go.Proofs.YtimpjccgnkbgmaaW.PrintMore
attribute [local go_sem] max2_int min2_int max_two min_two max_three min_three max_four min_four   -- for this text's walks alone
set_option linter.unusedVariables false
set_option linter.unusedSimpArgs false

/-! ### impl_SearchOrder: function 10 -/
mutual
def impl_SearchOrder.l0 : Nat → Int → List Int → List Int → List Int → Int → Int → Int → Int → List Int → Option (List Int)
 | 0,_,_,_,_,_,_,_,_,_ => none
 | k + 1,x1,x7,x8,x15,x16,x17,x422000,x422001,x422002 => if x17 < x16 then (if 0 ≤ x17 then (if x17 < (x15.length : Int) then ((impl_Days.f k x422000 x422001 x422002 x1 (rd x15 x17)).bind fun t429 => (if t429 < 0 then (impl_SearchOrder.j3 k x1 x7 x8 x15 x16 x17 x422000 x422001 x422002) else (impl_SearchOrder.l1 k x1 x7 x8 (rd x15 x17) t429 (x7.length : Int) x15 x16 x17 x422000 x422001 x422002))) else (none)) else (none)) else (some x7)
def impl_SearchOrder.j3 : Nat → Int → List Int → List Int → List Int → Int → Int → Int → Int → List Int → Option (List Int)
 | 0,_,_,_,_,_,_,_,_,_ => none
 | k + 1,x1,x7,x8,x15,x16,x17,x422000,x422001,x422002 => impl_SearchOrder.l0 k x1 x7 x8 x15 x16 (wrap64 (x17 + 1)) x422000 x422001 x422002
def impl_SearchOrder.l1 : Nat → Int → List Int → List Int → Int → Int → Int → List Int → Int → Int → Int → Int → List Int → Option (List Int)
 | 0,_,_,_,_,_,_,_,_,_,_,_,_ => none
 | k + 1,x1,x7,x8,x10,x11,x12,x15,x16,x17,x422000,x422001,x422002 => if x12 > 0 then (if 0 ≤ (wrap64 (x12 - 1)) then (if (wrap64 (x12 - 1)) < (x8.length : Int) then (if (rd x8 (wrap64 (x12 - 1))) > x11 then (impl_SearchOrder.j2 k x1 x7 x8 x10 x11 x12 x15 x16 x17 true x422000 x422001 x422002) else (if (rd x8 (wrap64 (x12 - 1))) = x11 then (if (wrap64 (x12 - 1)) < (x7.length : Int) then (impl_SearchOrder.j2 k x1 x7 x8 x10 x11 x12 x15 x16 x17 (decide ((rd x7 (wrap64 (x12 - 1))) > x10)) x422000 x422001 x422002) else (none)) else (impl_SearchOrder.j2 k x1 x7 x8 x10 x11 x12 x15 x16 x17 false x422000 x422001 x422002))) else (none)) else (none)) else (impl_SearchOrder.j2 k x1 x7 x8 x10 x11 x12 x15 x16 x17 false x422000 x422001 x422002)
def impl_SearchOrder.j2 : Nat → Int → List Int → List Int → Int → Int → Int → List Int → Int → Int → Bool → Int → Int → List Int → Option (List Int)
 | 0,_,_,_,_,_,_,_,_,_,_,_,_,_ => none
 | k + 1,x1,x7,x8,x10,x11,x12,x15,x16,x17,x57,x422000,x422001,x422002 => if x57 = true then (impl_SearchOrder.l1 k x1 x7 x8 x10 x11 (wrap64 (x12 - 1)) x15 x16 x17 x422000 x422001 x422002) else (if x7.length < 17592186044416 then ((some (x7 ++ [0] : List Int)).bind fun y433 => (if x8.length < 17592186044416 then ((some (x8 ++ [0] : List Int)).bind fun y436 => (if 0 ≤ (wrap64 (x12 + 1)) then (if (wrap64 (x12 + 1)) ≤ (y433.length : Int) then (if 0 ≤ x12 then (if x12 ≤ (y433.length : Int) then (if (wrap64 (x12 + 1)) ≤ (y436.length : Int) then (if x12 ≤ (y436.length : Int) then (if x12 < (y433.length : Int) then (if x12 < (y436.length : Int) then (impl_SearchOrder.j3 k x1 ((y433.take ((wrap64 (x12 + 1)) : Int).toNat ++ (y433.drop (x12 : Int).toNat).take (y433.length - ((wrap64 (x12 + 1)) : Int).toNat)).set (x12 : Int).toNat x10) ((y436.take ((wrap64 (x12 + 1)) : Int).toNat ++ (y436.drop (x12 : Int).toNat).take (y436.length - ((wrap64 (x12 + 1)) : Int).toNat)).set (x12 : Int).toNat x11) x15 x16 x17 x422000 x422001 x422002) else (none)) else (none)) else (none)) else (none)) else (none)) else (none)) else (none)) else (none))) else (none))) else (none))
end
def impl_SearchOrder.f (k : Nat) (a0_0 : Int) (a0_1 : Int) (l0_2 : List Int) (a1 : Int) (l2 : List Int) : Option (List Int) := impl_SearchOrder.l0 k a1 (([] : List Int)) (([] : List Int)) l2 (l2.length : Int) 0 a0_0 a0_1 l0_2
def impl_SearchOrder.T11 : Bool × List (List Nat × List Nat) := (true, [([], []), ([], []), ([1], [1]), ([0, 2], [0, 2]), ([], []), ([], []), ([4, 5], [4, 5]), ([3, 6], [3, 6])])
def impl_SearchOrder.B11 : List Nat := [0, 0, 2, 7, 0, 0, 48, 127]
theorem impl_SearchOrder.tab11 : rtab .any (opsOf Try.f10 11) = impl_SearchOrder.T11 := by kernel_rfl
theorem impl_SearchOrder.bits11 : waitsOk impl_SearchOrder.T11.2 impl_SearchOrder.B11 = true := by kernel_rfl
def impl_SearchOrder.T12 : Bool × List (List Nat × List Nat) := (true, [([], []), ([], []), ([1], [1]), ([0, 2], [0, 2]), ([], []), ([], []), ([4, 5], [4, 5]), ([3, 6], [3, 6])])
def impl_SearchOrder.B12 : List Nat := [0, 0, 2, 7, 0, 0, 48, 127]
theorem impl_SearchOrder.tab12 : rtab .any (opsOf Try.f10 12) = impl_SearchOrder.T12 := by kernel_rfl
theorem impl_SearchOrder.bits12 : waitsOk impl_SearchOrder.T12.2 impl_SearchOrder.B12 = true := by kernel_rfl
set_option maxHeartbeats 8000000 in
set_option maxRecDepth 100000 in
theorem impl_SearchOrder.calls (k : Nat) (a0_0 : Int) (a0_1 : Int) (A0_2 : Option Addr) (c0_2 : Nat) (l0_2 : List Int) (a1 : Int) (A2 : Option Addr) (c2 : Nat) (l2 : List Int) (r : List Int) (w : World) (hr0_2 : Kd.C (Kd.int .i64) w A0_2 l0_2.length l0_2) (hc0_2 : l0_2.length ≤ c0_2) (hr2 : Kd.C (Kd.int .i64) w A2 l2.length l2) (hc2 : l2.length ≤ c2) (h : impl_SearchOrder.f k a0_0 a0_1 l0_2 a1 l2 = some r) :
  Calls Try.prog 10 #[.agg #[.int .i64 a0_0,.int .i64 a0_1,.slice A0_2 l0_2.length c0_2],.int .i64 a1,.slice A2 l2.length c2] w fun e w' => ∃ v0_ : Value,e = .returned (v0_) ∧ Kd.R (Kd.int .i64) 3 w' w.heap.size (fun _ => True) v0_ r ∧ Below w.heap.size w w':=by
 have hu26:=Try.underlying26;have HR0_2:=am hr0_2;have HC0_2:=am hc0_2;clear hr0_2 hc0_2;have HR2:=am hr2;have HC2:=am hc2;clear hr2 hc2;have HB:=am qq354;have H : (impl_SearchOrder.l0 k a1 (([] : List Int)) (([] : List Int)) l2 (l2.length : Int) 0 a0_0 a0_1 l0_2) = some r:=h;clear h;obtain ⟨y422,hy422⟩ : ∃ y_ : List Int,y_ = (([] : List Int)):=⟨_,rfl⟩
 replace H : (impl_SearchOrder.l0 k a1 y422 (([] : List Int)) l2 (l2.length : Int) 0 a0_0 a0_1 l0_2) = some r:=by first | (rw [hy422];with_reducible exact H) | (have H2_:=(Option.bind_some _ _).symm.trans H;rw [hy422];with_reducible exact H2_) | (have H2_:=(Option.bind_some _ _).symm.trans H;with_reducible exact H2_) | with_reducible exact H | (rw [hy422];exact H) | exact H
 have Ny422:=am hy422;clear hy422;obtain ⟨y425,hy425⟩ : ∃ y_ : List Int,y_ = (([] : List Int)):=⟨_,rfl⟩
 replace H : (impl_SearchOrder.l0 k a1 y422 y425 l2 (l2.length : Int) 0 a0_0 a0_1 l0_2) = some r:=by first | (rw [hy425];with_reducible exact H) | (have H2_:=(Option.bind_some _ _).symm.trans H;rw [hy425];with_reducible exact H2_) | (have H2_:=(Option.bind_some _ _).symm.trans H;with_reducible exact H2_) | with_reducible exact H | (rw [hy425];exact H) | exact H
 have Ny425:=am hy425;clear hy425;have H':=am H;clear H
 go_enter Try.func10,Try.ntmps10
 go_wp2_with (first | ((with_reducible refine gate_dst (N:=3) rfl ?_);refine box_event ?hg (N:=3) ?hd (cs:=#[.int .i64 a0_0,.int .i64 a0_1,.slice A0_2 l0_2.length c0_2]) (t:=26) ?hr ?_;(case hd => rfl);(case hg => rfl);(case hr => exact qq261);intro gb421 hg w4 hbox hb;have BK421:=am (hbox);have GW421:=am ((qq108 : w.heap.size ≤ gb421));have GE421:=am ((qq108 : w.heap.size ≤ gb421));replace HB:=am qq358;clear hb hbox hg) | ((with_reducible refine gate_dst (N:=13) rfl ?_);refine Kd.R_lit (Kd.int .i64) _ 3 ?hg (N:=13) ?hd (xs:=([] : List Int)) (inner:=[]) (ok:=fun _ => True) (okp:=fun _ => True) ?hr ?hp (fun _ hk => hk) trivial (Below.refl _ _) (Nat.le_refl _) (by simp) ?_;(case hd => rfl);(case hg => rfl);(case hr => exact qq261);(case hp => exact qq274);intro v423 w5 ho6 hb hg_ hnew_;clear hg_ hnew_;(first | rw [← Ny422.out] at ho6 | (simp only [Int.reduceToNat] at ho6;rw [← Ny422.out] at ho6));have HO424:=am (Kd.R_lower ho6 (below_size qq119));replace BK421:=am qq311;replace HB:=am (below_step qq119 hb);clear hb ho6) | ((with_reducible refine gate_dst (N:=14) rfl ?_);refine Kd.R_lit (Kd.int .i64) _ 3 ?hg (N:=14) ?hd (xs:=([] : List Int)) (inner:=[]) (ok:=fun _ => True) (okp:=fun _ => True) ?hr ?hp (fun _ hk => hk) trivial (Below.refl _ _) (Nat.le_refl _) (by simp) ?_;(case hd => rfl);(case hg => rfl);(case hr => exact qq261);(case hp => exact qq274);intro v426 w7 ho8 hb hg_ hnew_;clear hg_ hnew_;(first | rw [← Ny425.out] at ho8 | (simp only [Int.reduceToNat] at ho8;rw [← Ny425.out] at ho8));have HO427:=am (Kd.R_lower (Kd.R_new' ho8 (Kd.R_lt qq236)) (below_size qq119));replace HO424:=am (Kd.R_elder' qq236 (Kd.R_base ho8) hb);replace BK421:=am qq311;replace HB:=am (below_step qq119 hb);clear hb ho8))
 go_loopg [7,8,17] k (fun kq v7 v8 v17 w' => ∃ (x7_1 : List Int) (x8_1 : List Int) (x17_1 : Int),v17 = .int .i64 x17_1 ∧ Aside0 (impl_SearchOrder.l0 kq a1 x7_1 x8_1 l2 (l2.length : Int) x17_1 a0_0 a0_1 l0_2 = some r) ∧ Aside0 (kq ≤ k) ∧ Aside0 (Kd.R (Kd.int .i64) 3 w' w.heap.size (fun k_ => some k_ ≠ (v8 : Value).ownBlock) v7 x7_1) ∧ Aside0 (Kd.R (Kd.int .i64) 3 w' w.heap.size (fun k_ => some k_ ≠ (v7 : Value).ownBlock) v8 x8_1) ∧ Aside0 (w'.heap[gb421]? = some (.cells #[.int .i64 a0_0,.int .i64 a0_1,(.slice A0_2 l0_2.length c0_2)] 26 (0,0))) ∧ Aside0 (Below w.heap.size w w'))
 case atStart => exact ⟨(y422),(y425),(0),qq260,H',⟨Nat.le_refl _⟩,⟨by (with_reducible repeat (first | apply kA | apply kN | apply kD));exact Kd.R_mono HO424.out (fun _ hk => hk.2)⟩,⟨by (with_reducible repeat (first | apply kA | apply kN | apply kD));exact Kd.R_mono HO427.out (fun _ hk => hk.2)⟩,⟨qq191⟩,⟨qq119⟩⟩
 case round =>
  clear H'
  try clear c1
  try clear c2
  try clear p2
  obtain ⟨x7_1,x8_1,x17_1,rfl,HA,HK1,HO_7,HO_8,BK421,HB⟩:=hrel
  cases gk with
  | zero => exact absurd HA.out (by simp [impl_SearchOrder.l0])
  | succ k1 =>
   have H:=HA.out;clear HA;simp only [impl_SearchOrder.l0] at H
   by_cases c9 : x17_1 < (l2.length : Int)
   ·rw [if_pos c9] at H;have c9b0 : decide (x17_1 < (l2.length : Int)) = true:=decide_eq_true c9;clear c9;have HC10:=am H;clear H
    go_upto_block 1 with (fail)
    go_cut [7,8] (fun v7 v8 wc => ∃ (kq : Nat) (x7_9 : List Int) (x8_9 : List Int),Aside0 (impl_SearchOrder.j3 kq a1 x7_9 x8_9 l2 (l2.length : Int) x17_1 a0_0 a0_1 l0_2 = some r) ∧ Aside0 (kq ≤ k1) ∧ Aside0 (Kd.R (Kd.int .i64) 3 wc w.heap.size (fun k_ => some k_ ≠ (v8 : Value).ownBlock) v7 x7_9) ∧ Aside0 (Kd.R (Kd.int .i64) 3 wc w.heap.size (fun k_ => some k_ ≠ (v7 : Value).ownBlock) v8 x8_9) ∧ Aside0 (wc.heap[gb421]? = some (.cells #[.int .i64 a0_0,.int .i64 a0_1,(.slice A0_2 l0_2.length c0_2)] 26 (0,0))) ∧ Aside0 (Below w.heap.size w wc))
    case first =>
     have H:=HC10.out;clear HC10
     by_cases c11 : 0 ≤ x17_1
     ·rw [if_pos c11] at H;have c11b0 : decide (0 ≤ x17_1) = true:=decide_eq_true c11;clear c11;(first | rw [c11b0] | (simp only [i64_w,i32_w];rw [c11b0]) | skip)
      by_cases c12 : x17_1 < (l2.length : Int)
      ·rw [if_pos c12] at H;have c12b0 : decide (x17_1 < (l2.length : Int)) = true:=decide_eq_true c12;clear c12;replace H:=bS.mp H;obtain ⟨t429,A130,H⟩:=H;replace H : (if t429 < 0 then (impl_SearchOrder.j3 k1 a1 x7_1 x8_1 l2 (l2.length : Int) x17_1 a0_0 a0_1 l0_2) else (impl_SearchOrder.l1 k1 a1 x7_1 x8_1 (rd l2 x17_1) t429 (x7_1.length : Int) l2 (l2.length : Int) x17_1 a0_0 a0_1 l0_2)) = some r:=H;have A13:=am A130;clear A130
       by_cases c14 : t429 < 0
       ·rw [if_pos c14] at H;have c14b0 : decide (t429 < 0) = true:=decide_eq_true c14;clear c14;have H':=am H;clear H;have p428 : 0 ≤ (x17_1 : Int):=odt qq258;have q428 : x17_1 < (l2.length : Int):=odt qq258;obtain ⟨ad428,e428,hx428_0⟩:=Kd.at_int HR2.out x17_1 p428 q428
        cases e428
        replace hx428_0:=(ct HB.out hx428_0 :)
        replace p428:=eq_true p428;replace q428:=eq_true q428;obtain ⟨hcz15_0,hcz15_1,hcz15_2,hfz15_0,hfz15_1,hfz15_2⟩:=bcl3 BK421.out;go_wp2_with (first | ((with_reducible refine gate_callee (f:=7) rfl ?_);refine goesL_ (some 24) rfl rfl Try.func7 (by kernel_rfl) rfl #[.agg #[.int .i64 a0_0,.int .i64 a0_1,.slice A0_2 l0_2.length c0_2],.int .i64 a1,.int .i64 (rd l2 x17_1)] rfl qq139 ?_;(with_reducible refine (impl_Days.calls k1 a0_0 a0_1 _ _ l0_2 a1 (rd l2 x17_1) t429 _ ?side1 ?side2 A13.out).mono ?_);(case side1 => exact qq83);(case side2 => exact qq276);rintro e w16 ⟨rfl,hb⟩;refine ⟨_,rfl,?_⟩;replace HO_7:=am (Kd.R_below qq249 hb);replace HO_8:=am (Kd.R_below qq248 hb);replace BK421:=am qq311;replace HB:=am (below_step qq119 hb);(try clear hb);(try clear hb2);(try clear hk);(try clear hi)))
        go_meet
        case rel => exact ⟨_,(x7_1),(x8_1),H',⟨by have:=HK1.out;first | omega | exact Nat.le_refl _⟩,⟨qq249⟩,⟨qq248⟩,⟨qq191⟩,⟨qq119⟩⟩
       ·rw [if_neg c14] at H;have c14b0 : decide (t429 < 0) = false:=decide_eq_false c14;clear c14;have H':=am H;clear H;have p428 : 0 ≤ (x17_1 : Int):=odt qq258;have q428 : x17_1 < (l2.length : Int):=odt qq258;obtain ⟨ad428,e428,hx428_0⟩:=Kd.at_int HR2.out x17_1 p428 q428
        cases e428
        replace hx428_0:=(ct HB.out hx428_0 :)
        replace p428:=eq_true p428;replace q428:=eq_true q428;obtain ⟨hcz17_0,hcz17_1,hcz17_2,hfz17_0,hfz17_1,hfz17_2⟩:=bcl3 BK421.out;go_wp2_with (first | ((with_reducible refine gate_callee (f:=7) rfl ?_);refine goesL_ (some 24) rfl rfl Try.func7 (by kernel_rfl) rfl #[.agg #[.int .i64 a0_0,.int .i64 a0_1,.slice A0_2 l0_2.length c0_2],.int .i64 a1,.int .i64 (rd l2 x17_1)] rfl qq139 ?_;(with_reducible refine (impl_Days.calls k1 a0_0 a0_1 _ _ l0_2 a1 (rd l2 x17_1) t429 _ ?side1 ?side2 A13.out).mono ?_);(case side1 => exact qq83);(case side2 => exact qq276);rintro e w18 ⟨rfl,hb⟩;refine ⟨_,rfl,?_⟩;replace HO_7:=am (Kd.R_below qq249 hb);replace HO_8:=am (Kd.R_below qq248 hb);replace BK421:=am qq311;replace HB:=am (below_step qq119 hb);(try clear hb);(try clear hb2);(try clear hk);(try clear hi);obtain ⟨Ao19,co19,eo19⟩:=Kd.R_slice HO_7.out;subst eo19))
        go_loopg [12] k1 (fun kq v12 w' => ∃ (x12_2 : Int),v12 = .int .i64 x12_2 ∧ Aside0 (impl_SearchOrder.l1 kq a1 x7_1 x8_1 (rd l2 x17_1) t429 x12_2 l2 (l2.length : Int) x17_1 a0_0 a0_1 l0_2 = some r) ∧ Aside0 (kq ≤ k1) ∧ Aside0 (Kd.R (Kd.int .i64) 3 w' w.heap.size (fun k_ => some k_ ≠ (u8 : Value).ownBlock) (.slice Ao19 x7_1.length co19) x7_1) ∧ Aside0 (Kd.R (Kd.int .i64) 3 w' w.heap.size (fun k_ => some k_ ≠ ((.slice Ao19 x7_1.length co19) : Value).ownBlock) u8 x8_1) ∧ Aside0 (w'.heap[gb421]? = some (.cells #[.int .i64 a0_0,.int .i64 a0_1,(.slice A0_2 l0_2.length c0_2)] 26 (0,0))) ∧ Aside0 (Below w.heap.size w w'))
        case atStart => exact ⟨((x7_1.length : Int)),qq260,H',⟨Nat.le_refl _⟩,⟨qq249⟩,⟨qq248⟩,⟨qq191⟩,⟨qq119⟩⟩
        case round =>
         clear H'
         try clear c1
         try clear c2
         try clear p2
         try clear p4
         try clear q4
         try clear hx4
         try clear c7
         try clear c9
         try clear c9b0
         try clear c10
         try clear c11
         try clear c11b0
         try clear c12
         try clear c12b0
         try clear c14
         try clear c14b0
         try clear hcz15_0
         try clear hcz15_1
         try clear hcz15_2
         try clear hcz17_0
         try clear hcz17_1
         try clear hcz17_2
         try clear hfz15_0
         try clear hfz15_1
         try clear hfz15_2
         try clear hfz17_0
         try clear hfz17_1
         try clear hfz17_2
         try clear hx428_0
         try clear p2
         try clear p428
         try clear q428
         obtain ⟨x12_2,rfl,HA,HK2,HO_7,HO_8,BK421,HB⟩:=hrel
         cases gk with
         | zero => exact absurd HA.out (by simp [impl_SearchOrder.l1])
         | succ k2 =>
          have H:=HA.out;clear HA;simp only [impl_SearchOrder.l1] at H;have HC20:=am H;clear H
          go_upto_region 8 with (fail)
          go_cut [57] (fun v57 wc => ∃ (kq : Nat) (x57_19 : Bool),v57 = .bool x57_19 ∧ Aside0 (impl_SearchOrder.j2 kq a1 x7_1 x8_1 (rd l2 x17_1) t429 x12_2 l2 (l2.length : Int) x17_1 x57_19 a0_0 a0_1 l0_2 = some r) ∧ Aside0 (kq ≤ k2) ∧ Aside0 (Kd.R (Kd.int .i64) 3 wc w.heap.size (fun k_ => some k_ ≠ (u8 : Value).ownBlock) (.slice Ao19 x7_1.length co19) x7_1) ∧ Aside0 (Kd.R (Kd.int .i64) 3 wc w.heap.size (fun k_ => some k_ ≠ ((.slice Ao19 x7_1.length co19) : Value).ownBlock) u8 x8_1) ∧ Aside0 (wc.heap[gb421]? = some (.cells #[.int .i64 a0_0,.int .i64 a0_1,(.slice A0_2 l0_2.length c0_2)] 26 (0,0))) ∧ Aside0 (Below w.heap.size w wc))
          case first =>
           have H:=HC20.out;clear HC20
           by_cases c21 : x12_2 > 0
           ·rw [if_pos c21] at H;have c21b0 : decide (0 < x12_2) = true:=decide_eq_true c21;clear c21;(first | rw [c21b0] | (simp only [i64_w,i32_w];rw [c21b0]) | skip);obtain ⟨ji22,hji22⟩ : ∃ j_ : Int,(wrap64 (x12_2 - 1)) = j_:=⟨_,rfl⟩
            replace H : (if 0 ≤ (ji22) then (if (ji22) < (x8_1.length : Int) then (if (rd x8_1 (ji22)) > t429 then (impl_SearchOrder.j2 k2 a1 x7_1 x8_1 (rd l2 x17_1) t429 x12_2 l2 (l2.length : Int) x17_1 true a0_0 a0_1 l0_2) else (if (rd x8_1 (ji22)) = t429 then (if (ji22) < (x7_1.length : Int) then (impl_SearchOrder.j2 k2 a1 x7_1 x8_1 (rd l2 x17_1) t429 x12_2 l2 (l2.length : Int) x17_1 (decide ((rd x7_1 (ji22)) > (rd l2 x17_1))) a0_0 a0_1 l0_2) else (none)) else (impl_SearchOrder.j2 k2 a1 x7_1 x8_1 (rd l2 x17_1) t429 x12_2 l2 (l2.length : Int) x17_1 false a0_0 a0_1 l0_2))) else (none)) else (none)) = some r:=by first | (rw [hji22] at H;exact H) | (simp only [hji22] at H ⊢;exact H)
            have hji22w : (IntKind.i64.wrap (x12_2 - 1)) = ji22:=(i64_w _).trans hji22
            by_cases c23 : 0 ≤ (ji22)
            ·rw [if_pos c23] at H;have c23b0 : decide (0 ≤ (ji22)) = true:=decide_eq_true c23;clear c23
             by_cases c24 : (ji22) < (x8_1.length : Int)
             ·rw [if_pos c24] at H;have c24b0 : decide ((ji22) < (x8_1.length : Int)) = true:=decide_eq_true c24;clear c24
              by_cases c25 : (rd x8_1 (ji22)) > t429
              ·rw [if_pos c25] at H;have c25b0 : decide (t429 < (rd x8_1 (ji22))) = true:=decide_eq_true c25;clear c25;have H':=am H;clear H;obtain ⟨Ao26,co26,eo26⟩:=Kd.R_slice HO_8.out;subst eo26;have p430 : 0 ≤ ((ji22) : Int):=odt qq258;have q430 : (ji22) < (x8_1.length : Int):=odt qq258;obtain ⟨ad430,e430,hx430_0⟩:=Kd.at_int (Kd.R_reads' HO_8.out).2.2 (ji22) p430 q430
               cases e430
               replace p430:=eq_true p430;replace q430:=eq_true q430;go_wp2
               go_meet
               case rel => exact ⟨_,(true),qq260,H',⟨qq255⟩,⟨qq249⟩,⟨qq248⟩,⟨qq191⟩,⟨qq119⟩⟩
              ·rw [if_neg c25] at H;have c25b0 : decide (t429 < (rd x8_1 (ji22))) = false:=decide_eq_false c25;clear c25
               by_cases c27 : (rd x8_1 (ji22)) = t429
               ·rw [if_pos c27] at H;have c27b0 : ((rd x8_1 (ji22)) == t429) = true:=beq_iff_eq.mpr c27;have c27b1 : ((rd x8_1 (ji22)) != t429) = false:=bne_eq_false_iff_eq.mpr c27;clear c27
                by_cases c28 : (ji22) < (x7_1.length : Int)
                ·rw [if_pos c28] at H;have c28b0 : decide ((ji22) < (x7_1.length : Int)) = true:=decide_eq_true c28;clear c28;have H':=am H;clear H;obtain ⟨Ao29,co29,eo29⟩:=Kd.R_slice HO_8.out;subst eo29;have p430 : 0 ≤ ((ji22) : Int):=odt qq258;have q430 : (ji22) < (x8_1.length : Int):=odt qq258;obtain ⟨ad430,e430,hx430_0⟩:=Kd.at_int (Kd.R_reads' HO_8.out).2.2 (ji22) p430 q430
                 cases e430
                 replace p430:=eq_true p430;replace q430:=eq_true q430;have p431 : 0 ≤ ((ji22) : Int):=odt qq258;have q431 : (ji22) < (x8_1.length : Int):=odt qq258;obtain ⟨ad431,e431,hx431_0⟩:=Kd.at_int (Kd.R_reads' HO_8.out).2.2 (ji22) p431 q431;obtain rfl : ad430 = ad431:=(by injection e431)
                 replace p431:=eq_true p431;replace q431:=eq_true q431;have p432 : 0 ≤ ((ji22) : Int):=odt qq258;have q432 : (ji22) < (x7_1.length : Int):=odt qq258;obtain ⟨ad432,e432,hx432_0⟩:=Kd.at_int (Kd.R_reads' HO_7.out).2.2 (ji22) p432 q432
                 cases e432
                 replace p432:=eq_true p432;replace q432:=eq_true q432;go_wp2
                 go_meet
                 case rel => exact ⟨_,(decide ((rd x7_1 (ji22)) > (rd l2 x17_1))),(by first | rfl | (simp;done) | (simp only [← hji22] <;> (first | rfl | simp)) | (simp [*];done)),H',⟨qq255⟩,⟨qq249⟩,⟨qq248⟩,⟨qq191⟩,⟨qq119⟩⟩
                ·rw [if_neg c28] at H;exact absurd H (by simp)
               ·rw [if_neg c27] at H;have c27b0 : ((rd x8_1 (ji22)) == t429) = false:=beq_eq_false_iff_ne.mpr c27;have c27b1 : ((rd x8_1 (ji22)) != t429) = true:=bne_iff_ne.mpr c27;have H':=am H;clear H;obtain ⟨Ao30,co30,eo30⟩:=Kd.R_slice HO_8.out;subst eo30;have p430 : 0 ≤ ((ji22) : Int):=odt qq258;have q430 : (ji22) < (x8_1.length : Int):=odt qq258;obtain ⟨ad430,e430,hx430_0⟩:=Kd.at_int (Kd.R_reads' HO_8.out).2.2 (ji22) p430 q430
                cases e430
                replace p430:=eq_true p430;replace q430:=eq_true q430;have p431 : 0 ≤ ((ji22) : Int):=odt qq258;have q431 : (ji22) < (x8_1.length : Int):=odt qq258;obtain ⟨ad431,e431,hx431_0⟩:=Kd.at_int (Kd.R_reads' HO_8.out).2.2 (ji22) p431 q431;obtain rfl : ad430 = ad431:=(by injection e431)
                replace p431:=eq_true p431;replace q431:=eq_true q431;go_wp2
                go_meet
                case rel => exact ⟨_,(false),qq260,H',⟨qq255⟩,⟨qq249⟩,⟨qq248⟩,⟨qq191⟩,⟨qq119⟩⟩
             ·rw [if_neg c24] at H;exact absurd H (by simp)
            ·rw [if_neg c23] at H;exact absurd H (by simp)
           ·rw [if_neg c21] at H;have c21b0 : decide (0 < x12_2) = false:=decide_eq_false c21;clear c21;(first | rw [c21b0] | (simp only [i64_w,i32_w];rw [c21b0]) | skip);have H':=am H;clear H;go_wp2
            go_meet
            case rel => exact ⟨_,(false),qq260,H',⟨qq255⟩,⟨qq249⟩,⟨qq248⟩,⟨qq191⟩,⟨qq119⟩⟩
          case rest =>
           clear HC20
           try clear c1
           try clear c2
           try clear p2
           try clear p4
           try clear q4
           try clear hx4
           try clear p6
           try clear c7
           try clear c9
           try clear c9b0
           try clear c10
           try clear c11
           try clear c11b0
           try clear c12
           try clear c12b0
           try clear c14
           try clear c14b0
           try clear c21
           try clear c21b0
           try clear c23
           try clear c23b0
           try clear c24
           try clear c24b0
           try clear c25
           try clear c25b0
           try clear c27
           try clear c27b0
           try clear c27b1
           try clear c28
           try clear c28b0
           try clear hcz15_0
           try clear hcz15_1
           try clear hcz15_2
           try clear hcz17_0
           try clear hcz17_1
           try clear hcz17_2
           try clear hfz15_0
           try clear hfz15_1
           try clear hfz15_2
           try clear hfz17_0
           try clear hfz17_1
           try clear hfz17_2
           try clear hx428_0
           try clear hx430_0
           try clear hx431_0
           try clear hx432_0
           try clear p2
           try clear p4
           try clear p428
           try clear p430
           try clear p431
           try clear p432
           try clear q4
           try clear q428
           try clear q430
           try clear q431
           try clear q432
           obtain ⟨kq,x57_19,rfl,HA,HJ19,HO_7,HO_8,BK421,HB⟩:=hcut
           cases kq with
           | zero => exact absurd HA.out (by simp [impl_SearchOrder.j2])
           | succ kj19 =>
            have H:=HA.out;clear HA;simp only [impl_SearchOrder.j2] at H
            by_cases c31 : x57_19 = true
            ·subst c31;have H1 : (impl_SearchOrder.l1 kj19 a1 x7_1 x8_1 (rd l2 x17_1) t429 (wrap64 (x12_2 - 1)) l2 (l2.length : Int) x17_1 a0_0 a0_1 l0_2) = some r:=by rw [if_pos rfl] at H;exact H
             clear H;have H:=H1;clear H1;have H':=am H;clear H;go_wp2
             go_roundg kj19
             case measure => have:=HK1.out;have:=HK2.out;have:=HJ19.out;omega
             case rel => exact ⟨(wrap64 (x12_2 - 1)),qq260,H',⟨by have:=HK1.out;have:=HK2.out;have:=HJ19.out;omega⟩,⟨qq249⟩,⟨qq248⟩,⟨qq191⟩,⟨qq119⟩⟩
            ·replace c31:=Bool.eq_false_iff.mpr c31;subst c31;have H1 : (if x7_1.length < 17592186044416 then ((some (x7_1 ++ [0] : List Int)).bind fun y433 => (if x8_1.length < 17592186044416 then ((some (x8_1 ++ [0] : List Int)).bind fun y436 => (if 0 ≤ (wrap64 (x12_2 + 1)) then (if (wrap64 (x12_2 + 1)) ≤ (y433.length : Int) then (if 0 ≤ x12_2 then (if x12_2 ≤ (y433.length : Int) then (if (wrap64 (x12_2 + 1)) ≤ (y436.length : Int) then (if x12_2 ≤ (y436.length : Int) then (if x12_2 < (y433.length : Int) then (if x12_2 < (y436.length : Int) then (impl_SearchOrder.j3 kj19 a1 ((y433.take ((wrap64 (x12_2 + 1)) : Int).toNat ++ (y433.drop (x12_2 : Int).toNat).take (y433.length - ((wrap64 (x12_2 + 1)) : Int).toNat)).set (x12_2 : Int).toNat (rd l2 x17_1)) ((y436.take ((wrap64 (x12_2 + 1)) : Int).toNat ++ (y436.drop (x12_2 : Int).toNat).take (y436.length - ((wrap64 (x12_2 + 1)) : Int).toNat)).set (x12_2 : Int).toNat t429) l2 (l2.length : Int) x17_1 a0_0 a0_1 l0_2) else (none)) else (none)) else (none)) else (none)) else (none)) else (none)) else (none)) else (none))) else (none))) else (none)) = some r:=by rw [if_neg (show ¬ (false = true) by decide)] at H;exact H
             clear H;have H:=H1;clear H1
             by_cases c32 : x7_1.length < 17592186044416
             ·rw [if_pos c32] at H;have LMc32:=am c32;clear c32;obtain ⟨y433,hy433⟩ : ∃ y_ : List Int,y_ = (x7_1 ++ [0]):=⟨_,rfl⟩
              replace H : (if x8_1.length < 17592186044416 then ((some (x8_1 ++ [0] : List Int)).bind fun y436 => (if 0 ≤ (wrap64 (x12_2 + 1)) then (if (wrap64 (x12_2 + 1)) ≤ (y433.length : Int) then (if 0 ≤ x12_2 then (if x12_2 ≤ (y433.length : Int) then (if (wrap64 (x12_2 + 1)) ≤ (y436.length : Int) then (if x12_2 ≤ (y436.length : Int) then (if x12_2 < (y433.length : Int) then (if x12_2 < (y436.length : Int) then (impl_SearchOrder.j3 kj19 a1 ((y433.take ((wrap64 (x12_2 + 1)) : Int).toNat ++ (y433.drop (x12_2 : Int).toNat).take (y433.length - ((wrap64 (x12_2 + 1)) : Int).toNat)).set (x12_2 : Int).toNat (rd l2 x17_1)) ((y436.take ((wrap64 (x12_2 + 1)) : Int).toNat ++ (y436.drop (x12_2 : Int).toNat).take (y436.length - ((wrap64 (x12_2 + 1)) : Int).toNat)).set (x12_2 : Int).toNat t429) l2 (l2.length : Int) x17_1 a0_0 a0_1 l0_2) else (none)) else (none)) else (none)) else (none)) else (none)) else (none)) else (none)) else (none))) else (none)) = some r:=by first | (rw [hy433];with_reducible exact H) | (have H2_:=(Option.bind_some _ _).symm.trans H;rw [hy433];with_reducible exact H2_) | (have H2_:=(Option.bind_some _ _).symm.trans H;with_reducible exact H2_) | with_reducible exact H | (rw [hy433];exact H) | exact H
              have Ny433:=am hy433;clear hy433
              by_cases c33 : x8_1.length < 17592186044416
              ·rw [if_pos c33] at H;have LMc33:=am c33;clear c33;obtain ⟨y436,hy436⟩ : ∃ y_ : List Int,y_ = (x8_1 ++ [0]):=⟨_,rfl⟩
               replace H : (if 0 ≤ (wrap64 (x12_2 + 1)) then (if (wrap64 (x12_2 + 1)) ≤ (y433.length : Int) then (if 0 ≤ x12_2 then (if x12_2 ≤ (y433.length : Int) then (if (wrap64 (x12_2 + 1)) ≤ (y436.length : Int) then (if x12_2 ≤ (y436.length : Int) then (if x12_2 < (y433.length : Int) then (if x12_2 < (y436.length : Int) then (impl_SearchOrder.j3 kj19 a1 ((y433.take ((wrap64 (x12_2 + 1)) : Int).toNat ++ (y433.drop (x12_2 : Int).toNat).take (y433.length - ((wrap64 (x12_2 + 1)) : Int).toNat)).set (x12_2 : Int).toNat (rd l2 x17_1)) ((y436.take ((wrap64 (x12_2 + 1)) : Int).toNat ++ (y436.drop (x12_2 : Int).toNat).take (y436.length - ((wrap64 (x12_2 + 1)) : Int).toNat)).set (x12_2 : Int).toNat t429) l2 (l2.length : Int) x17_1 a0_0 a0_1 l0_2) else (none)) else (none)) else (none)) else (none)) else (none)) else (none)) else (none)) else (none)) = some r:=by first | (rw [hy436];with_reducible exact H) | (have H2_:=(Option.bind_some _ _).symm.trans H;rw [hy436];with_reducible exact H2_) | (have H2_:=(Option.bind_some _ _).symm.trans H;with_reducible exact H2_) | with_reducible exact H | (rw [hy436];exact H) | exact H
               have Ny436:=am hy436;clear hy436;obtain ⟨ji34,hji34⟩ : ∃ j_ : Int,(wrap64 (x12_2 + 1)) = j_:=⟨_,rfl⟩
               replace H : (if 0 ≤ (ji34) then (if (ji34) ≤ (y433.length : Int) then (if 0 ≤ x12_2 then (if x12_2 ≤ (y433.length : Int) then (if (ji34) ≤ (y436.length : Int) then (if x12_2 ≤ (y436.length : Int) then (if x12_2 < (y433.length : Int) then (if x12_2 < (y436.length : Int) then (impl_SearchOrder.j3 kj19 a1 ((y433.take ((ji34) : Int).toNat ++ (y433.drop (x12_2 : Int).toNat).take (y433.length - ((ji34) : Int).toNat)).set (x12_2 : Int).toNat (rd l2 x17_1)) ((y436.take ((ji34) : Int).toNat ++ (y436.drop (x12_2 : Int).toNat).take (y436.length - ((ji34) : Int).toNat)).set (x12_2 : Int).toNat t429) l2 (l2.length : Int) x17_1 a0_0 a0_1 l0_2) else (none)) else (none)) else (none)) else (none)) else (none)) else (none)) else (none)) else (none)) = some r:=by first | (rw [hji34] at H;exact H) | (simp only [hji34] at H ⊢;exact H)
               have hji34w : (IntKind.i64.wrap (x12_2 + 1)) = ji34:=(i64_w _).trans hji34
               by_cases c35 : 0 ≤ (ji34)
               ·rw [if_pos c35] at H;have c35b0:=eq_true c35;have c35b1 : decide (0 ≤ (ji34)) = true:=decide_eq_true c35;clear c35
                by_cases c36 : (ji34) ≤ (y433.length : Int)
                ·rw [if_pos c36] at H;have c36b0:=eq_true c36;have c36b1 : decide ((ji34) ≤ (y433.length : Int)) = true:=decide_eq_true c36;clear c36;obtain ⟨y439,hy439⟩ : ∃ y_ : List Int,y_ = (y433.drop ((ji34) : Int).toNat):=⟨_,rfl⟩
                 replace H : (if 0 ≤ x12_2 then (if x12_2 ≤ (y433.length : Int) then (if (ji34) ≤ (y436.length : Int) then (if x12_2 ≤ (y436.length : Int) then (if x12_2 < (y433.length : Int) then (if x12_2 < (y436.length : Int) then (impl_SearchOrder.j3 kj19 a1 ((y433.take ((ji34) : Int).toNat ++ (y433.drop (x12_2 : Int).toNat).take (y433.length - ((ji34) : Int).toNat)).set (x12_2 : Int).toNat (rd l2 x17_1)) ((y436.take ((ji34) : Int).toNat ++ (y436.drop (x12_2 : Int).toNat).take (y436.length - ((ji34) : Int).toNat)).set (x12_2 : Int).toNat t429) l2 (l2.length : Int) x17_1 a0_0 a0_1 l0_2) else (none)) else (none)) else (none)) else (none)) else (none)) else (none)) = some r:=by first | (rw [hy439];with_reducible exact H) | (have H2_:=(Option.bind_some _ _).symm.trans H;rw [hy439];with_reducible exact H2_) | (have H2_:=(Option.bind_some _ _).symm.trans H;with_reducible exact H2_) | with_reducible exact H | (rw [hy439];exact H) | exact H
                 have Ny439:=am hy439;clear hy439
                 by_cases c37 : 0 ≤ x12_2
                 ·rw [if_pos c37] at H;have c37b0:=eq_true c37;have c37b1 : decide (0 ≤ x12_2) = true:=decide_eq_true c37;clear c37
                  by_cases c38 : x12_2 ≤ (y433.length : Int)
                  ·rw [if_pos c38] at H;have c38b0:=eq_true c38;have c38b1 : decide (x12_2 ≤ (y433.length : Int)) = true:=decide_eq_true c38;clear c38;obtain ⟨y443,hy443⟩ : ∃ y_ : List Int,y_ = (y433.drop (x12_2 : Int).toNat):=⟨_,rfl⟩
                   replace H : (if (ji34) ≤ (y436.length : Int) then (if x12_2 ≤ (y436.length : Int) then (if x12_2 < (y433.length : Int) then (if x12_2 < (y436.length : Int) then (impl_SearchOrder.j3 kj19 a1 ((y433.take ((ji34) : Int).toNat ++ (y433.drop (x12_2 : Int).toNat).take (y433.length - ((ji34) : Int).toNat)).set (x12_2 : Int).toNat (rd l2 x17_1)) ((y436.take ((ji34) : Int).toNat ++ (y436.drop (x12_2 : Int).toNat).take (y436.length - ((ji34) : Int).toNat)).set (x12_2 : Int).toNat t429) l2 (l2.length : Int) x17_1 a0_0 a0_1 l0_2) else (none)) else (none)) else (none)) else (none)) = some r:=by first | (rw [hy443];with_reducible exact H) | (have H2_:=(Option.bind_some _ _).symm.trans H;rw [hy443];with_reducible exact H2_) | (have H2_:=(Option.bind_some _ _).symm.trans H;with_reducible exact H2_) | with_reducible exact H | (rw [hy443];exact H) | exact H
                   have Ny443:=am hy443;clear hy443;obtain ⟨y447,hy447⟩ : ∃ y_ : List Int,y_ = (y433.take ((ji34) : Int).toNat ++ (y433.drop (x12_2 : Int).toNat).take (y433.length - ((ji34) : Int).toNat)):=⟨_,rfl⟩
                   replace H : (if (ji34) ≤ (y436.length : Int) then (if x12_2 ≤ (y436.length : Int) then (if x12_2 < (y433.length : Int) then (if x12_2 < (y436.length : Int) then (impl_SearchOrder.j3 kj19 a1 (y447.set (x12_2 : Int).toNat (rd l2 x17_1)) ((y436.take ((ji34) : Int).toNat ++ (y436.drop (x12_2 : Int).toNat).take (y436.length - ((ji34) : Int).toNat)).set (x12_2 : Int).toNat t429) l2 (l2.length : Int) x17_1 a0_0 a0_1 l0_2) else (none)) else (none)) else (none)) else (none)) = some r:=by first | (rw [hy447];with_reducible exact H) | (have H2_:=(Option.bind_some _ _).symm.trans H;rw [hy447];with_reducible exact H2_) | (have H2_:=(Option.bind_some _ _).symm.trans H;with_reducible exact H2_) | with_reducible exact H | (rw [hy447];exact H) | exact H
                   have Ny447:=am hy447;clear hy447;have c39b0:=eq_true (odt qq258 : 0 ≤ (ji34))
                   by_cases c40 : (ji34) ≤ (y436.length : Int)
                   ·rw [if_pos c40] at H;have c40b0:=eq_true c40;have c40b1 : decide ((ji34) ≤ (y436.length : Int)) = true:=decide_eq_true c40;clear c40;obtain ⟨y448,hy448⟩ : ∃ y_ : List Int,y_ = (y436.drop ((ji34) : Int).toNat):=⟨_,rfl⟩
                    replace H : (if x12_2 ≤ (y436.length : Int) then (if x12_2 < (y433.length : Int) then (if x12_2 < (y436.length : Int) then (impl_SearchOrder.j3 kj19 a1 (y447.set (x12_2 : Int).toNat (rd l2 x17_1)) ((y436.take ((ji34) : Int).toNat ++ (y436.drop (x12_2 : Int).toNat).take (y436.length - ((ji34) : Int).toNat)).set (x12_2 : Int).toNat t429) l2 (l2.length : Int) x17_1 a0_0 a0_1 l0_2) else (none)) else (none)) else (none)) = some r:=by first | (rw [hy448];with_reducible exact H) | (have H2_:=(Option.bind_some _ _).symm.trans H;rw [hy448];with_reducible exact H2_) | (have H2_:=(Option.bind_some _ _).symm.trans H;with_reducible exact H2_) | with_reducible exact H | (rw [hy448];exact H) | exact H
                    have Ny448:=am hy448;clear hy448;have c41b0:=eq_true (odt qq258 : 0 ≤ x12_2)
                    by_cases c42 : x12_2 ≤ (y436.length : Int)
                    ·rw [if_pos c42] at H;have c42b0:=eq_true c42;have c42b1 : decide (x12_2 ≤ (y436.length : Int)) = true:=decide_eq_true c42;clear c42;obtain ⟨y452,hy452⟩ : ∃ y_ : List Int,y_ = (y436.drop (x12_2 : Int).toNat):=⟨_,rfl⟩
                     replace H : (if x12_2 < (y433.length : Int) then (if x12_2 < (y436.length : Int) then (impl_SearchOrder.j3 kj19 a1 (y447.set (x12_2 : Int).toNat (rd l2 x17_1)) ((y436.take ((ji34) : Int).toNat ++ (y436.drop (x12_2 : Int).toNat).take (y436.length - ((ji34) : Int).toNat)).set (x12_2 : Int).toNat t429) l2 (l2.length : Int) x17_1 a0_0 a0_1 l0_2) else (none)) else (none)) = some r:=by first | (rw [hy452];with_reducible exact H) | (have H2_:=(Option.bind_some _ _).symm.trans H;rw [hy452];with_reducible exact H2_) | (have H2_:=(Option.bind_some _ _).symm.trans H;with_reducible exact H2_) | with_reducible exact H | (rw [hy452];exact H) | exact H
                     have Ny452:=am hy452;clear hy452;obtain ⟨y456,hy456⟩ : ∃ y_ : List Int,y_ = (y436.take ((ji34) : Int).toNat ++ (y436.drop (x12_2 : Int).toNat).take (y436.length - ((ji34) : Int).toNat)):=⟨_,rfl⟩
                     replace H : (if x12_2 < (y433.length : Int) then (if x12_2 < (y436.length : Int) then (impl_SearchOrder.j3 kj19 a1 (y447.set (x12_2 : Int).toNat (rd l2 x17_1)) (y456.set (x12_2 : Int).toNat t429) l2 (l2.length : Int) x17_1 a0_0 a0_1 l0_2) else (none)) else (none)) = some r:=by first | (rw [hy456];with_reducible exact H) | (have H2_:=(Option.bind_some _ _).symm.trans H;rw [hy456];with_reducible exact H2_) | (have H2_:=(Option.bind_some _ _).symm.trans H;with_reducible exact H2_) | with_reducible exact H | (rw [hy456];exact H) | exact H
                     have Ny456:=am hy456;clear hy456
                     by_cases c43 : x12_2 < (y433.length : Int)
                     ·rw [if_pos c43] at H;have c43b0 : decide (x12_2 < (y433.length : Int)) = true:=decide_eq_true c43;clear c43;obtain ⟨y457,hy457⟩ : ∃ y_ : List Int,y_ = (y447.set (x12_2 : Int).toNat (rd l2 x17_1)):=⟨_,rfl⟩
                      replace H : (if x12_2 < (y436.length : Int) then (impl_SearchOrder.j3 kj19 a1 y457 (y456.set (x12_2 : Int).toNat t429) l2 (l2.length : Int) x17_1 a0_0 a0_1 l0_2) else (none)) = some r:=by first | (rw [hy457];with_reducible exact H) | (have H2_:=(Option.bind_some _ _).symm.trans H;rw [hy457];with_reducible exact H2_) | (have H2_:=(Option.bind_some _ _).symm.trans H;with_reducible exact H2_) | with_reducible exact H | (rw [hy457];exact H) | exact H
                      have Ny457:=am hy457;clear hy457
                      by_cases c45 : x12_2 < (y436.length : Int)
                      ·rw [if_pos c45] at H;have c45b0 : decide (x12_2 < (y436.length : Int)) = true:=decide_eq_true c45;clear c45;obtain ⟨y458,hy458⟩ : ∃ y_ : List Int,y_ = (y456.set (x12_2 : Int).toNat t429):=⟨_,rfl⟩
                       replace H : (impl_SearchOrder.j3 kj19 a1 y457 y458 l2 (l2.length : Int) x17_1 a0_0 a0_1 l0_2) = some r:=by first | (rw [hy458];with_reducible exact H) | (have H2_:=(Option.bind_some _ _).symm.trans H;rw [hy458];with_reducible exact H2_) | (have H2_:=(Option.bind_some _ _).symm.trans H;with_reducible exact H2_) | with_reducible exact H | (rw [hy458];exact H) | exact H
                       have Ny458:=am hy458;clear hy458;have H':=am H;clear H
                       try go_wp2_with (first | ((with_reducible refine gate_builtin (b:=.append) (xs:=#[.tmp 60,.tmp 61]) rfl ?_);at_builtin;refine Kd.R_append (Kd.int .i64) (w0:=w) w.heap.size rfl (.tmp 60) (.tmp 61) 24 3 (.int .i64 0) 8 rfl Try.underlying24 info3 rfl (by decide) (by omega) (.slice Ao19 x7_1.length co19) x7_1 0 [.int .i64 0] (fun k_ => some k_ ≠ (u8 : Value).ownBlock) (fun _ => False) rfl rfl ?aP (fun _ hk => hk.elim) ?aF ?aO ?aB ?aS ?aL ?_;(case aP => exact rfl);(case aB => exact qq99);(case aF => exact qq142);(case aO => exact qq219);(case aS => exact qq78);(case aL => have:=LMc32.out;omega);intro v434 w47 ho hb hg hat;rw [← Ny433.out] at ho;replace HO_8:=am (Kd.R_after (ok:=(fun _ => True)) qq150 hg hat);replace BK421:=am (blk_grown (g:=gb421) (o:=.cells #[.int .i64 a0_0,.int .i64 a0_1,.slice A0_2 l0_2.length c0_2] 26 (0,0)) qq191 hg (Kd.R_ne HO_7.out BK421.out (by decide)));replace HB:=am (hb);have HO435:=am (ho);clear HO_7;clear ho hb hg hat) | ((with_reducible refine gate_builtin (b:=.append) (xs:=#[.tmp 63,.tmp 64]) rfl ?_);at_builtin;refine Kd.R_append (Kd.int .i64) (w0:=w) w.heap.size rfl (.tmp 63) (.tmp 64) 24 3 (.int .i64 0) 8 rfl Try.underlying24 info3 rfl (by decide) (by omega) u8 x8_1 0 [.int .i64 0] (fun k_ => some k_ ≠ (v434 : Value).ownBlock) (fun _ => False) rfl rfl ?aP (fun _ hk => hk.elim) ?aF ?aO ?aB ?aS ?aL ?_;(case aP => exact rfl);(case aB => exact qq99);(case aF => exact (fun k_ hk => Kd.fresh' (Kd.R_lt qq235) k_ hk));(case aO => exact qq160);(case aS => exact qq78);(case aL => have:=LMc33.out;omega);intro v437 w48 ho hb hg hat;rw [← Ny436.out] at ho;replace BK421:=am (blk_grown (g:=gb421) (o:=.cells #[.int .i64 a0_0,.int .i64 a0_1,.slice A0_2 l0_2.length c0_2] 26 (0,0)) qq191 hg (Kd.R_ne HO_8.out BK421.out (by decide)));replace HO435:=am (Kd.R_after (ok:=(fun _ => True)) qq149 hg hat);replace HB:=am (hb);have HO438:=am (ho);clear HO_8;clear ho hb hg hat))
                       replace HO435:=am (Kd.R_drew HO435.out);replace HO438:=am (Kd.R_drew HO438.out);replace BK421:=am (blk_drew BK421.out);replace HB:=am qq374;obtain ⟨Ao51,co51,eo51⟩:=Kd.R_slice HO435.out;(first | subst eo51 | (injection eo51 with f1_ f2_ f3_;have f4_:=f1_.symm;have f5_:=f3_.symm;clear f1_ f2_ f3_;subst f4_;subst f5_));have q50 : ((ji34) : Int) ≤ ((y433.length : Int) : Int):=odt qq258;obtain ⟨i050,hi050,_,hsz50,_⟩:=info_parts info3;have hroom50 : y433.length ≤ co51:=(Kd.R_reads' HO435.out).2.1;have hC50 : Kd.C (Kd.int .i64) _ Ao51 y433.length y433:=(Kd.R_reads' HO435.out).2.2;have q050 : (0 : Int) ≤ ((ji34) : Int):=odt qq258;have hcut50:=cut_from (P:=Try.prog) 24 3 .i64 Try.underlying24 hi050 1 hsz50 Ao51 y433.length co51 (ji34) q050 q50;have hr50:=Kd.C_drop (m:=((ji34) : Int).toNat) (c:=co51) hC50 (by omega) hroom50;obtain ⟨A50,hA50⟩ : ∃ A1,A1 = (if co51 = ((ji34) : Int).toNat then Ao51 else (Ao51 : Option Addr).map (·.add (((ji34) : Int).toNat * 1))):=⟨_,rfl⟩
                       obtain ⟨c50,hc50⟩ : ∃ c1,c1 = co51 - ((ji34) : Int).toNat:=⟨_,rfl⟩
                       have hy50 : y439.length = y433.length - ((ji34) : Int).toNat:=(by rw [Ny439.out,List.length_drop] <;> omega)
                       rw [show (y433).drop ((ji34) : Int).toNat = y439 from Ny439.out.symm] at hr50;replace hr50 : Kd.C (Kd.int .i64) _ A50 y439.length y439:=(by rw [hA50];exact hr50)
                       rw [← hy50,← hA50,← hc50] at hcut50;have HR442:=am hr50;have HC442:=am (show y439.length ≤ c50 from by rw [hy50,hc50];exact Nat.sub_le_sub_right hroom50 _);clear hr50 hC50 hroom50 hi050 hsz50 hc50;have KY50:=am hy50;have KA50:=am hA50;clear hy50 hA50;have KL50:=am (show ((ji34) : Int).toNat ≤ y433.length from by omega);replace q50:=eq_true q50;have q52 : (x12_2 : Int) ≤ ((y433.length : Int) : Int):=odt qq258;obtain ⟨i052,hi052,_,hsz52,_⟩:=info_parts info3;have hroom52 : y433.length ≤ co51:=(Kd.R_reads' HO435.out).2.1;have hC52 : Kd.C (Kd.int .i64) _ Ao51 y433.length y433:=(Kd.R_reads' HO435.out).2.2;have q052 : (0 : Int) ≤ (x12_2 : Int):=odt qq258;have hcut52:=cut_from (P:=Try.prog) 24 3 .i64 Try.underlying24 hi052 1 hsz52 Ao51 y433.length co51 x12_2 q052 q52;have hr52:=Kd.C_drop (m:=(x12_2 : Int).toNat) (c:=co51) hC52 (by omega) hroom52;obtain ⟨A52,hA52⟩ : ∃ A1,A1 = (if co51 = (x12_2 : Int).toNat then Ao51 else (Ao51 : Option Addr).map (·.add ((x12_2 : Int).toNat * 1))):=⟨_,rfl⟩
                       obtain ⟨c52,hc52⟩ : ∃ c1,c1 = co51 - (x12_2 : Int).toNat:=⟨_,rfl⟩
                       have hy52 : y443.length = y433.length - (x12_2 : Int).toNat:=(by rw [Ny443.out,List.length_drop] <;> omega)
                       rw [show (y433).drop (x12_2 : Int).toNat = y443 from Ny443.out.symm] at hr52;replace hr52 : Kd.C (Kd.int .i64) _ A52 y443.length y443:=(by rw [hA52];exact hr52)
                       rw [← hy52,← hA52,← hc52] at hcut52;have HR446:=am hr52;have HC446:=am (show y443.length ≤ c52 from by rw [hy52,hc52];exact Nat.sub_le_sub_right hroom52 _);clear hr52 hC52 hroom52 hi052 hsz52 hc52;have KY52:=am hy52;have KA52:=am hA52;clear hy52 hA52;have KL52:=am (show (x12_2 : Int).toNat ≤ y433.length from by omega);replace q52:=eq_true q52;have n_:=am (Kd.R_mono (ok':=(fun k_ => some k_ ≠ (v437 : Value).ownBlock)) HO435.out (fun k_ hk => hk.2));clear HO435;have HO435:=n_;clear n_;obtain ⟨go54,co54,eo54,gb54,gl54,cl54,HG54⟩:=Kd.R_form HO435.out (by have hj_ : 0 ≤ (x12_2 : Int):=odt qq258;have hl_ : ((ji34) : Int) ≤ (y433.length : Int):=odt qq258;have hh_ : (x12_2 : Int) ≤ (y433.length : Int):=odt qq258;rw [← hji34] at hl_;unfold wrap64 at hl_;omega);(first | cases eo54 | (injection eo54 with ea_ en_ ec_;(first | subst ea_ | (injection ea_ with ea_;subst ea_));subst ec_;clear en_));have GB54:=am gb54;have GG54:=am HG54;clear gb54 gl54 HG54;refine start_ (n:=8) (S:=fun w' => True) (ds:=[]) #[Z,Z,Z,Z,Z,Z,Z,Z] (by kernel_rfl) rfl rfl trivial (fun hHeld => ?_);refine with_tabW impl_SearchOrder.tab11 impl_SearchOrder.bits11 (fun HT_ HW_ => ?_)
                       generalize w48.drew = w49 at HO435 HO438 BK421 HB GG54 HR442 HR446 hHeld ⊢
                       refine pV (i:=0) (N:=some 66) #[Y,Z,Z,Z,Z,Z,Z,Z] rfl rfl qT ?_
                       refine pV (i:=1) (N:=some 67) #[Y,Y,Z,Z,Z,Z,Z,Z] rfl rfl qT ?_
                       refine pV (i:=2) (N:=some 68) #[Y,Y,Y,Z,Z,Z,Z,Z] rfl rfl qT ?_
                       refine pV (i:=3) (N:=some 69) #[Y,Y,Y,Y,Z,Z,Z,Z] rfl rfl qT ?_
                       refine pV (i:=4) (N:=some 70) #[Y,Y,Y,Y,Y,Z,Z,Z] rfl rfl qT ?_
                       refine pV (i:=5) (N:=some 71) #[Y,Y,Y,Y,Y,Y,Z,Z] rfl rfl qT ?_
                       refine pV (i:=6) (N:=some 72) #[Y,Y,Y,Y,Y,Y,Y,Z] rfl rfl qT ?_
                       refine one_ (i:=7) (N:=some 73) #[Y,Y,Y,Y,Y,Y,Y,Y] rfl rfl (one_of HT_.out (by kernel_rfl)) (by decide) (fun K hK => ?_);have hj_ : 0 ≤ (x12_2 : Int):=odt qq258;have hl_ : ((ji34) : Int) ≤ (y433.length : Int):=odt qq258;have hh_ : (x12_2 : Int) ≤ (y433.length : Int):=odt qq258;have hb_:=(Kd.R_reads' HO435.out).2.2.2.1;have h0_ : (0 : Int) ≤ ((ji34) : Int):=odt qq258;have hk_ : ((ji34) : Int).toNat = (x12_2 : Int).toNat + 1:=qq145
                       refine shift_w_step (w0:=w) w.heap.size (by rfl) (.tmp 69) (.tmp 72) 24 3 rfl Try.underlying24 (by kernel_rfl) (g:=go54) (n:=y433.length) (c:=co51) ((ji34) : Int).toNat (x12_2 : Int).toNat rfl rfl ?hA ?hA2 ?hm ?hm2 hk_ ?hk qq235 qq119 (below_size qq119) ?_;(case hA => exact KA50.out);(case hA2 => exact KA52.out);(case hm => have ha_:=KY50.out;omega);(case hm2 => have ha_:=KY52.out;omega);(case hk => omega);intro w53 ho hb hg;clear hj_ hl_ hh_ hb_ hk_ h0_;rw [← Ny447.out] at ho;replace BK421:=am qq280;replace HO435:=am (ho);replace HO438:=am (Kd.R_after (v:=(.slice (some ⟨go54,0,none⟩) y433.length co51)) (v1:=.slice (some ⟨go54,0,none⟩) y433.length co51) (ok:=(fun _ => True)) qq148 hg (.inl rfl));replace HB:=am (hb);clear ho hb hg;refine hK.out _ _ trivial (fun hHeld => ?_);clear hK K;refine norm_ (a':=?_) ?_ ?_;rotate_left
                       ·show Act.put _ (some 73) _ = _
                        simp only [Act.put,sA,s0,s1,i64_w,i32_w];rfl
                       refine done_ (done_of HT_.out (by kernel_rfl)) ?_
                       try go_wp2
                       replace HO435:=am (Kd.R_drew HO435.out);replace HO438:=am (Kd.R_drew HO438.out);replace BK421:=am (blk_drew BK421.out);replace HB:=am qq374;obtain ⟨Ao57,co57,eo57⟩:=Kd.R_slice HO438.out;(first | subst eo57 | (injection eo57 with f1_ f2_ f3_;have f4_:=f1_.symm;have f5_:=f3_.symm;clear f1_ f2_ f3_;subst f4_;subst f5_));have q56 : ((ji34) : Int) ≤ ((y436.length : Int) : Int):=odt qq258;obtain ⟨i056,hi056,_,hsz56,_⟩:=info_parts info3;have hroom56 : y436.length ≤ co57:=(Kd.R_reads' HO438.out).2.1;have hC56 : Kd.C (Kd.int .i64) _ Ao57 y436.length y436:=(Kd.R_reads' HO438.out).2.2;have q056 : (0 : Int) ≤ ((ji34) : Int):=odt qq258;have hcut56:=cut_from (P:=Try.prog) 24 3 .i64 Try.underlying24 hi056 1 hsz56 Ao57 y436.length co57 (ji34) q056 q56;have hr56:=Kd.C_drop (m:=((ji34) : Int).toNat) (c:=co57) hC56 (by omega) hroom56;obtain ⟨A56,hA56⟩ : ∃ A1,A1 = (if co57 = ((ji34) : Int).toNat then Ao57 else (Ao57 : Option Addr).map (·.add (((ji34) : Int).toNat * 1))):=⟨_,rfl⟩
                       obtain ⟨c56,hc56⟩ : ∃ c1,c1 = co57 - ((ji34) : Int).toNat:=⟨_,rfl⟩
                       have hy56 : y448.length = y436.length - ((ji34) : Int).toNat:=(by rw [Ny448.out,List.length_drop] <;> omega)
                       rw [show (y436).drop ((ji34) : Int).toNat = y448 from Ny448.out.symm] at hr56;replace hr56 : Kd.C (Kd.int .i64) _ A56 y448.length y448:=(by rw [hA56];exact hr56)
                       rw [← hy56,← hA56,← hc56] at hcut56;have HR451:=am hr56;have HC451:=am (show y448.length ≤ c56 from by rw [hy56,hc56];exact Nat.sub_le_sub_right hroom56 _);clear hr56 hC56 hroom56 hi056 hsz56 hc56;have KY56:=am hy56;have KA56:=am hA56;clear hy56 hA56;have KL56:=am (show ((ji34) : Int).toNat ≤ y436.length from by omega);replace q56:=eq_true q56;have q58 : (x12_2 : Int) ≤ ((y436.length : Int) : Int):=odt qq258;obtain ⟨i058,hi058,_,hsz58,_⟩:=info_parts info3;have hroom58 : y436.length ≤ co57:=(Kd.R_reads' HO438.out).2.1;have hC58 : Kd.C (Kd.int .i64) _ Ao57 y436.length y436:=(Kd.R_reads' HO438.out).2.2;have q058 : (0 : Int) ≤ (x12_2 : Int):=odt qq258;have hcut58:=cut_from (P:=Try.prog) 24 3 .i64 Try.underlying24 hi058 1 hsz58 Ao57 y436.length co57 x12_2 q058 q58;have hr58:=Kd.C_drop (m:=(x12_2 : Int).toNat) (c:=co57) hC58 (by omega) hroom58;obtain ⟨A58,hA58⟩ : ∃ A1,A1 = (if co57 = (x12_2 : Int).toNat then Ao57 else (Ao57 : Option Addr).map (·.add ((x12_2 : Int).toNat * 1))):=⟨_,rfl⟩
                       obtain ⟨c58,hc58⟩ : ∃ c1,c1 = co57 - (x12_2 : Int).toNat:=⟨_,rfl⟩
                       have hy58 : y452.length = y436.length - (x12_2 : Int).toNat:=(by rw [Ny452.out,List.length_drop] <;> omega)
                       rw [show (y436).drop (x12_2 : Int).toNat = y452 from Ny452.out.symm] at hr58;replace hr58 : Kd.C (Kd.int .i64) _ A58 y452.length y452:=(by rw [hA58];exact hr58)
                       rw [← hy58,← hA58,← hc58] at hcut58;have HR455:=am hr58;have HC455:=am (show y452.length ≤ c58 from by rw [hy58,hc58];exact Nat.sub_le_sub_right hroom58 _);clear hr58 hC58 hroom58 hi058 hsz58 hc58;have KY58:=am hy58;have KA58:=am hA58;clear hy58 hA58;have KL58:=am (show (x12_2 : Int).toNat ≤ y436.length from by omega);replace q58:=eq_true q58;have n_:=am qq293;clear HO438;have HO438:=n_;clear n_;obtain ⟨go60,co60,eo60,gb60,gl60,cl60,HG60⟩:=Kd.R_form HO438.out (by have hj_ : 0 ≤ (x12_2 : Int):=odt qq258;have hl_ : ((ji34) : Int) ≤ (y436.length : Int):=odt qq258;have hh_ : (x12_2 : Int) ≤ (y436.length : Int):=odt qq258;rw [← hji34] at hl_;unfold wrap64 at hl_;omega);(first | cases eo60 | (injection eo60 with ea_ en_ ec_;(first | subst ea_ | (injection ea_ with ea_;subst ea_));subst ec_;clear en_));have GB60:=am gb60;have GG60:=am HG60;clear gb60 gl60 HG60;refine start_ (n:=8) (S:=fun w' => True) (ds:=[]) #[Z,Z,Z,Z,Z,Z,Z,Z] (by kernel_rfl) rfl rfl trivial (fun hHeld => ?_);refine with_tabW impl_SearchOrder.tab12 impl_SearchOrder.bits12 (fun HT_ HW_ => ?_)
                       generalize w53.drew = w55 at HO435 HO438 BK421 HB GG60 HR451 HR455 hHeld ⊢
                       refine pV (i:=0) (N:=some 74) #[Y,Z,Z,Z,Z,Z,Z,Z] rfl rfl qT ?_
                       refine pV (i:=1) (N:=some 75) #[Y,Y,Z,Z,Z,Z,Z,Z] rfl rfl qT ?_
                       refine pV (i:=2) (N:=some 76) #[Y,Y,Y,Z,Z,Z,Z,Z] rfl rfl qT ?_
                       refine pV (i:=3) (N:=some 77) #[Y,Y,Y,Y,Z,Z,Z,Z] rfl rfl qT ?_
                       refine pV (i:=4) (N:=some 78) #[Y,Y,Y,Y,Y,Z,Z,Z] rfl rfl qT ?_
                       refine pV (i:=5) (N:=some 79) #[Y,Y,Y,Y,Y,Y,Z,Z] rfl rfl qT ?_
                       refine pV (i:=6) (N:=some 80) #[Y,Y,Y,Y,Y,Y,Y,Z] rfl rfl qT ?_
                       refine one_ (i:=7) (N:=some 81) #[Y,Y,Y,Y,Y,Y,Y,Y] rfl rfl (one_of HT_.out (by kernel_rfl)) (by decide) (fun K hK => ?_);have hj_ : 0 ≤ (x12_2 : Int):=odt qq258;have hl_ : ((ji34) : Int) ≤ (y436.length : Int):=odt qq258;have hh_ : (x12_2 : Int) ≤ (y436.length : Int):=odt qq258;have hb_:=(Kd.R_reads' HO438.out).2.2.2.1;have h0_ : (0 : Int) ≤ ((ji34) : Int):=odt qq258;have hk_ : ((ji34) : Int).toNat = (x12_2 : Int).toNat + 1:=qq145
                       refine shift_w_step (w0:=w) w.heap.size (by rfl) (.tmp 77) (.tmp 80) 24 3 rfl Try.underlying24 (by kernel_rfl) (g:=go60) (n:=y436.length) (c:=co57) ((ji34) : Int).toNat (x12_2 : Int).toNat rfl rfl ?hA ?hA2 ?hm ?hm2 hk_ ?hk qq234 qq119 (below_size qq119) ?_;(case hA => exact KA56.out);(case hA2 => exact KA58.out);(case hm => have ha_:=KY56.out;omega);(case hm2 => have ha_:=KY58.out;omega);(case hk => omega);intro w59 ho hb hg;clear hj_ hl_ hh_ hb_ hk_ h0_;rw [← Ny456.out] at ho;replace BK421:=am qq281;replace HO435:=am (Kd.R_after (v:=(.slice (some ⟨go60,0,none⟩) y436.length co57)) (v1:=.slice (some ⟨go60,0,none⟩) y436.length co57) (ok:=(fun _ => True)) qq149 hg (.inl rfl));replace HO438:=am (ho);replace HB:=am (hb);clear ho hb hg;refine hK.out _ _ trivial (fun hHeld => ?_);clear hK K;refine norm_ (a':=?_) ?_ ?_;rotate_left
                       ·show Act.put _ (some 81) _ = _
                        simp only [Act.put,sA,s0,s1,i64_w,i32_w];rfl
                       refine done_ (done_of HT_.out (by kernel_rfl)) ?_;have p44 : 0 ≤ (x12_2 : Int):=odt qq258;have q44 : (x12_2 : Int) < ((y433.length : Int) : Int):=odt qq258;obtain ⟨hx44_0,hf44_0⟩:=Kd.R_celln 0 HO435.out (x12_2 : Int) p44 q44;replace p44:=eq_true p44;replace q44:=eq_true q44;have n_:=am (Kd.R_mono (ok':=(fun k_ => some k_ ≠ (.slice (some ⟨go60,0,none⟩) y436.length co57 : Value).ownBlock)) HO435.out (fun k_ hk => hk.2));clear HO435;have HO435:=n_;clear n_;obtain ⟨hy61_,hz61_⟩:=Kd.R_celln 0 HO435.out (x12_2 : Int) (odt qq258) (odt qq258);have HP61:=Kd.R_putg HO435.out (x12_2 : Int) (rd l2 x17_1)
                       try go_wp2_with (first | ((with_reducible refine gate_store (t:=3) (p:=88) rfl ?_);refine store_event (t:=3) (p:=88) (v:=?vo_w62) (w1:=(w59.setCell ⟨go54,(x12_2 : Int).toNat,none⟩ (.int .i64 (rd l2 x17_1)))) ?hg ?ho ?hn ?hr ?_;(case ho => rfl);(case hg => rfl);(case hn => rfl);(case hr => exact qq261);intro w62 hw;have hg : w59.grownBy w62 (some go54):=(by rw [hw];exact HP61.2);have hp_ : Kd.R (Kd.int .i64) 3 w62 w.heap.size (fun k_ => some k_ ≠ (.slice (some ⟨go60,0,none⟩) y436.length co57 : Value).ownBlock) (.slice (some ⟨go54,0,none⟩) y433.length co51) y457:=(by rw [hw,Ny457.out];exact HP61.1);clear HP61;replace BK421:=am qq280;replace HO435:=am (hp_);replace HO438:=am (Kd.R_after (v:=(.slice (some ⟨go54,0,none⟩) y433.length co51)) (v1:=(.slice (some ⟨go54,0,none⟩) y433.length co51)) (ok:=(fun _ => True)) qq148 hg (.inl rfl));replace HB:=am ((by rw [hw];exact below_set (HB.out) GB54.out : Below w.heap.size w w62));clear hg hw hp_;have p46 : 0 ≤ (x12_2 : Int):=odt qq258;have q46 : (x12_2 : Int) < ((y436.length : Int) : Int):=odt qq258;obtain ⟨hx46_0,hf46_0⟩:=Kd.R_celln 0 HO438.out (x12_2 : Int) p46 q46;replace p46:=eq_true p46;replace q46:=eq_true q46;have n_:=am qq293;clear HO438;have HO438:=n_;clear n_;obtain ⟨hy63_,hz63_⟩:=Kd.R_celln 0 HO438.out (x12_2 : Int) (odt qq258) (odt qq258);have HP63:=Kd.R_putg HO438.out (x12_2 : Int) t429) | ((with_reducible refine gate_store (t:=3) (p:=89) rfl ?_);refine store_event (t:=3) (p:=89) (v:=?vo_w64) (w1:=(w62.setCell ⟨go60,(x12_2 : Int).toNat,none⟩ (.int .i64 t429))) ?hg ?ho ?hn ?hr ?_;(case ho => rfl);(case hg => rfl);(case hn => rfl);(case hr => exact qq261);intro w64 hw;have hg : w62.grownBy w64 (some go60):=(by rw [hw];exact HP63.2);have hp_ : Kd.R (Kd.int .i64) 3 w64 w.heap.size (fun k_ => some k_ ≠ (.slice (some ⟨go54,0,none⟩) y433.length co51 : Value).ownBlock) (.slice (some ⟨go60,0,none⟩) y436.length co57) y458:=(by rw [hw,Ny458.out];exact HP63.1);clear HP63;replace BK421:=am qq281;replace HO435:=am (Kd.R_after (v:=(.slice (some ⟨go60,0,none⟩) y436.length co57)) (v1:=(.slice (some ⟨go60,0,none⟩) y436.length co57)) (ok:=(fun _ => True)) qq149 hg (.inl rfl));replace HO438:=am (hp_);replace HB:=am ((by rw [hw];exact below_set (HB.out) GB60.out : Below w.heap.size w w64));clear hg hw hp_))
                       go_meet
                       case rel => exact ⟨_,(y457),(y458),H',⟨by have:=HK1.out;have:=HK2.out;have:=HJ19.out;first | omega | exact Nat.le_refl _⟩,⟨by (with_reducible repeat (first | apply kA | apply kN | apply kD));exact Kd.R_mono HO435.out (fun _ hk => hk.2)⟩,⟨qq234⟩,⟨qq191⟩,⟨qq119⟩⟩
                      ·rw [if_neg c45] at H;exact absurd H (by simp)
                     ·rw [if_neg c43] at H;exact absurd H (by simp)
                    ·rw [if_neg c42] at H;exact absurd H (by simp)
                   ·rw [if_neg c40] at H;exact absurd H (by simp)
                  ·rw [if_neg c38] at H;exact absurd H (by simp)
                 ·rw [if_neg c37] at H;exact absurd H (by simp)
                ·rw [if_neg c36] at H;exact absurd H (by simp)
               ·rw [if_neg c35] at H;exact absurd H (by simp)
              ·rw [if_neg c33] at H;exact absurd H (by simp)
             ·rw [if_neg c32] at H;exact absurd H (by simp)
      ·rw [if_neg c12] at H;exact absurd H (by simp)
     ·rw [if_neg c11] at H;exact absurd H (by simp)
    case rest =>
     clear HC10
     try clear c1
     try clear c2
     try clear p2
     try clear c3
     try clear c4
     try clear p4
     try clear q4
     try clear hx4
     try clear hf4
     try clear c5
     try clear q5
     try clear p6
     try clear c7
     try clear c9
     try clear c9b0
     try clear c10
     try clear c11
     try clear c11b0
     try clear c12
     try clear c12b0
     try clear c14
     try clear c14b0
     try clear c21
     try clear c21b0
     try clear c23
     try clear c23b0
     try clear c24
     try clear c24b0
     try clear c25
     try clear c25b0
     try clear c27
     try clear c27b0
     try clear c27b1
     try clear c28
     try clear c28b0
     try clear c31
     try clear c32
     try clear c33
     try clear c35
     try clear c35b0
     try clear c35b1
     try clear c36
     try clear c36b0
     try clear c36b1
     try clear c37
     try clear c37b0
     try clear c37b1
     try clear c38
     try clear c38b0
     try clear c38b1
     try clear c39
     try clear c39b0
     try clear c40
     try clear c40b0
     try clear c40b1
     try clear c41
     try clear c41b0
     try clear c42
     try clear c42b0
     try clear c42b1
     try clear p42
     try clear q42
     try clear hx42
     try clear c43
     try clear c43b0
     try clear p43
     try clear q43
     try clear hx43
     try clear p44
     try clear q44
     try clear hx44
     try clear hf44
     try clear c45
     try clear c45b0
     try clear p46
     try clear q46
     try clear hx46
     try clear hf46
     try clear c50
     try clear q50
     try clear c52
     try clear q52
     try clear c56
     try clear q56
     try clear c58
     try clear q58
     try clear p64
     try clear hcz15_0
     try clear hcz15_1
     try clear hcz15_2
     try clear hcz17_0
     try clear hcz17_1
     try clear hcz17_2
     try clear hfz15_0
     try clear hfz15_1
     try clear hfz15_2
     try clear hfz17_0
     try clear hfz17_1
     try clear hfz17_2
     try clear hx428_0
     try clear hx430_0
     try clear hx431_0
     try clear hx432_0
     try clear hx44_0
     try clear hx46_0
     try clear p2
     try clear p4
     try clear p428
     try clear p430
     try clear p431
     try clear p432
     try clear p44
     try clear p46
     try clear p6
     try clear q050
     try clear q052
     try clear q056
     try clear q058
     try clear q4
     try clear q428
     try clear q430
     try clear q431
     try clear q432
     try clear q44
     try clear q46
     try clear q50
     try clear q52
     try clear q56
     try clear q58
     obtain ⟨kq,x7_9,x8_9,HA,HJ9,HO_7,HO_8,BK421,HB⟩:=hcut
     cases kq with
     | zero => exact absurd HA.out (by simp [impl_SearchOrder.j3])
     | succ kj9 =>
      have H:=HA.out;clear HA;simp only [impl_SearchOrder.j3] at H;have H':=am H;clear H;go_wp2
      go_roundg kj9
      case measure => have:=HK1.out;have:=HJ9.out;omega
      case rel => exact ⟨(x7_9),(x8_9),(wrap64 (x17_1 + 1)),qq260,H',⟨by have:=HK1.out;have:=HJ9.out;omega⟩,⟨qq249⟩,⟨qq248⟩,⟨qq191⟩,⟨qq119⟩⟩
   ·rw [if_neg c9] at H;have c9b0 : decide (x17_1 < (l2.length : Int)) = false:=decide_eq_false c9;clear c9;obtain rfl:=Option.some.inj H;go_wp2
    go_ret
    exact ⟨_,qq216,qq156,qq119⟩

end Go.Proofs.Ytimpjccgnkbgmaa.PFnSearch
