/- Contracts of functions that the law FnSearch reaches, for its row: lines that the kit's printer wrote for this claim, set shorter by a program of this session (own.py), and what fell in Lean proved anew. Lean checks them. -/
import Derived.Test.YtimpjccgnkbgmaaSFnSearchx0
import Derived.Test.YtimpjccgnkbgmaaSFnSearchx3
import Derived.Test.YtimpjccgnkbgmaaSFnSearchx6
import Derived.Test.YtimpjccgnkbgmaaSFnSearchx9
import Derived.Test.YtimpjccgnkbgmaaSFnSearchx11
import Derived.Test.YtimpjccgnkbgmaaSFnSearchx12
import Derived.Test.YtimpjccgnkbgmaaSFnSearchx13
namespace Go.Proofs.Ytimpjccgnkbgmaa.PFnSearch
open Go.RowKit Go.Proofs.YtimpjccgnkbgmaaW.PrintWords Go.Proofs.YtimpjccgnkbgmaaW.PrintLast Go.Proofs.YtimpjccgnkbgmaaW.PrintMore
attribute [local go_sem] max2_int min2_int max_two min_two max_three min_three max_four min_four   -- for this text's walks alone
set_option linter.unusedVariables false
set_option linter.unusedSimpArgs false

/-! ### impl_MeetDay: function 12 -/
mutual
def impl_MeetDay.j0 : Nat → Int → List Int → Int → Bool → Int → Int → List Int → Option (Int × Int)
 | 0,_,_,_,_,_,_,_ => none
 | k + 1,x1,x2,x3,x21,x566000,x566001,x566002 => if x21 = true then (some ((-1),(-1))) else (impl_MeetDay.l0 k x1 x2 x3 x3 x566000 x566001 x566002)
def impl_MeetDay.l0 : Nat → Int → List Int → Int → Int → Int → Int → List Int → Option (Int × Int)
 | 0,_,_,_,_,_,_,_ => none
 | k + 1,x1,x2,x3,x10,x566000,x566001,x566002 => if x10 ≤ 200 then (if 0 ≤ (mn x10 (wrap64 ((x2.length : Int) - 1))) then (if (mn x10 (wrap64 ((x2.length : Int) - 1))) < (x2.length : Int) then ((impl_Days.f k x566000 x566001 x566002 x1 (rd x2 (mn x10 (wrap64 ((x2.length : Int) - 1))))).bind fun t569 => (if t569 ≥ 0 then (if t569 ≤ (wrap64 (x10 - x3)) then (some (x10,rd x2 (mn x10 (wrap64 ((x2.length : Int) - 1))))) else (impl_MeetDay.l0 k x1 x2 x3 (wrap64 (x10 + 1)) x566000 x566001 x566002)) else (impl_MeetDay.l0 k x1 x2 x3 (wrap64 (x10 + 1)) x566000 x566001 x566002))) else (none)) else (none)) else (some ((-1),(-1)))
end
def impl_MeetDay.f (k : Nat) (a0_0 : Int) (a0_1 : Int) (l0_2 : List Int) (a1 : Int) (l2 : List Int) (a3 : Int) : Option (Int × Int) := (impl_IsWay.f k a0_0 a0_1 l0_2 l2).bind fun t566 => (if t566 = true then ((impl_InRange.f a3 0 100).bind fun t567 => (impl_MeetDay.j0 k a1 l2 a3 (!t567) a0_0 a0_1 l0_2)) else (impl_MeetDay.j0 k a1 l2 a3 true a0_0 a0_1 l0_2))
set_option maxHeartbeats 8000000 in
set_option maxRecDepth 100000 in
theorem impl_MeetDay.calls (k : Nat) (a0_0 : Int) (a0_1 : Int) (A0_2 : Option Addr) (c0_2 : Nat) (l0_2 : List Int) (a1 : Int) (A2 : Option Addr) (c2 : Nat) (l2 : List Int) (a3 : Int) (r1 : Int) (r2 : Int) (w : World) (hr0_2 : Kd.C (Kd.int .i64) w A0_2 l0_2.length l0_2) (hc0_2 : l0_2.length ≤ c0_2) (hr2 : Kd.C (Kd.int .i64) w A2 l2.length l2) (hc2 : l2.length ≤ c2) (h : impl_MeetDay.f k a0_0 a0_1 l0_2 a1 l2 a3 = some (r1, r2)) :
  Calls Try.prog 12 #[.agg #[.int .i64 a0_0,.int .i64 a0_1,.slice A0_2 l0_2.length c0_2],.int .i64 a1,.slice A2 l2.length c2,.int .i64 a3] w fun e w' => e = .returned (.tuple #[.int .i64 r1,.int .i64 r2]) ∧ Below w.heap.size w w':=by
 have hu26:=Try.underlying26;have HR0_2:=am hr0_2;have HC0_2:=am hc0_2;clear hr0_2 hc0_2;have HR2:=am hr2;have HC2:=am hc2;clear hr2 hc2;have HB:=am qq354;have H : ((impl_IsWay.f k a0_0 a0_1 l0_2 l2).bind fun t566 => (if t566 = true then ((impl_InRange.f a3 0 100).bind fun t567 => (impl_MeetDay.j0 k a1 l2 a3 (!t567) a0_0 a0_1 l0_2)) else (impl_MeetDay.j0 k a1 l2 a3 true a0_0 a0_1 l0_2))) = some (r1,r2):=h;clear h;have HC5:=am H;clear H
 go_enter Try.func12,Try.ntmps12
 go_upto_region 1 with (first | ((with_reducible refine gate_dst (N:=4) rfl ?_);refine box_event ?hg (N:=4) ?hd (cs:=#[.int .i64 a0_0,.int .i64 a0_1,.slice A0_2 l0_2.length c0_2]) (t:=26) ?hr ?_;(case hd => rfl);(case hg => rfl);(case hr => exact qq261);intro gb565 hg w6 hbox hb;have BK565:=am (hbox);have GW565:=am ((qq108 : w.heap.size ≤ gb565));have GE565:=am ((qq108 : w.heap.size ≤ gb565));replace HB:=am qq358;clear hb hbox hg))
 (try simp only [Act.put,sA,s0,s1])
 go_cut [21] (fun v21 wc => ∃ (kq : Nat) (x21_4 : Bool),v21 = .bool x21_4 ∧ Aside0 (impl_MeetDay.j0 kq a1 l2 a3 x21_4 a0_0 a0_1 l0_2 = some (r1,r2)) ∧ Aside0 (kq ≤ k) ∧ Aside0 (wc.heap[gb565]? = some (.cells #[.int .i64 a0_0,.int .i64 a0_1,(.slice A0_2 l0_2.length c0_2)] 26 (0,0))) ∧ Aside0 (Below w.heap.size w wc))
 case first =>
  have H:=HC5.out;clear HC5;replace H:=bS.mp H;obtain ⟨t566,A70,H⟩:=H;replace H : (if t566 = true then ((impl_InRange.f a3 0 100).bind fun t567 => (impl_MeetDay.j0 k a1 l2 a3 (!t567) a0_0 a0_1 l0_2)) else (impl_MeetDay.j0 k a1 l2 a3 true a0_0 a0_1 l0_2)) = some (r1,r2):=H;have A7:=am A70;clear A70
  by_cases c8 : t566 = true
  ·subst c8;have H1 : ((impl_InRange.f a3 0 100).bind fun t567 => (impl_MeetDay.j0 k a1 l2 a3 (!t567) a0_0 a0_1 l0_2)) = some (r1,r2):=by rw [if_pos rfl] at H;exact H
   clear H;have H:=H1;clear H1;replace H:=bS.mp H;obtain ⟨t567,A90,H⟩:=H;replace H : (impl_MeetDay.j0 k a1 l2 a3 (!t567) a0_0 a0_1 l0_2) = some (r1,r2):=H;have A9:=am A90;clear A90;have H':=am H;clear H;obtain ⟨hcz10_0,hcz10_1,hcz10_2,hfz10_0,hfz10_1,hfz10_2⟩:=bcl3 BK565.out;go_wp2_with (first | ((with_reducible refine gate_callee (f:=25) rfl ?_);refine goesL_ (some 15) rfl rfl Try.func25 (by kernel_rfl) rfl #[.agg #[.int .i64 a0_0,.int .i64 a0_1,.slice A0_2 l0_2.length c0_2],.slice A2 l2.length c2] rfl qq139 ?_;(with_reducible refine (impl_IsWay.calls k a0_0 a0_1 _ _ l0_2 _ _ l2 true _ ?side1 ?side2 ?side3 ?side4 A7.out).mono ?_);(case side1 => exact qq83);(case side2 => exact qq276);(case side3 => exact qq93);(case side4 => exact HC2.out);rintro e w11 ⟨rfl,hb⟩;refine ⟨_,rfl,?_⟩;replace BK565:=am qq315;replace HB:=am (below_step qq112 hb);(try clear hb);(try clear hb2);(try clear hk);(try clear hi)) | (go_at_call 26;(with_reducible refine (impl_InRange.calls a3 0 100 t567 _ A9.out).mono ?_);rintro e w' ⟨rfl,⟨nd,rfl⟩⟩))
   go_meet
   case rel => exact ⟨_,(!t567),qq260,H',⟨qq265⟩,⟨qq182⟩,⟨qq112⟩⟩
  ·replace c8:=Bool.eq_false_iff.mpr c8;subst c8;have H1 : (impl_MeetDay.j0 k a1 l2 a3 true a0_0 a0_1 l0_2) = some (r1,r2):=by rw [if_neg (show ¬ (false = true) by decide)] at H;exact H
   clear H;have H:=H1;clear H1;have H':=am H;clear H;obtain ⟨hcz12_0,hcz12_1,hcz12_2,hfz12_0,hfz12_1,hfz12_2⟩:=bcl3 BK565.out;go_wp2_with (first | ((with_reducible refine gate_callee (f:=25) rfl ?_);refine goesL_ (some 15) rfl rfl Try.func25 (by kernel_rfl) rfl #[.agg #[.int .i64 a0_0,.int .i64 a0_1,.slice A0_2 l0_2.length c0_2],.slice A2 l2.length c2] rfl qq139 ?_;(with_reducible refine (impl_IsWay.calls k a0_0 a0_1 _ _ l0_2 _ _ l2 false _ ?side1 ?side2 ?side3 ?side4 A7.out).mono ?_);(case side1 => exact qq83);(case side2 => exact qq276);(case side3 => exact qq93);(case side4 => exact HC2.out);rintro e w13 ⟨rfl,hb⟩;refine ⟨_,rfl,?_⟩;replace BK565:=am qq315;replace HB:=am (below_step qq112 hb);(try clear hb);(try clear hb2);(try clear hk);(try clear hi)))
   go_meet
   case rel => exact ⟨_,(true),qq260,H',⟨qq265⟩,⟨qq182⟩,⟨qq112⟩⟩
 case rest =>
  clear HC5
  try clear c1
  try clear c2
  try clear p2
  try clear c8
  try clear c12
  try clear hcz10_0
  try clear hcz10_1
  try clear hcz10_2
  try clear hcz12_0
  try clear hcz12_1
  try clear hcz12_2
  try clear hfz10_0
  try clear hfz10_1
  try clear hfz10_2
  try clear hfz12_0
  try clear hfz12_1
  try clear hfz12_2
  obtain ⟨kq,x21_4,rfl,HA,HJ4,BK565,HB⟩:=hcut
  cases kq with
  | zero => exact absurd HA.out (by simp [impl_MeetDay.j0])
  | succ kj4 =>
   have H:=HA.out;clear HA;simp only [impl_MeetDay.j0] at H
   by_cases c14 : x21_4 = true
   ·subst c14;have H1 : (some ((-1),(-1))) = some (r1,r2):=by rw [if_pos rfl] at H;exact H
    clear H;have H:=H1;clear H1;simp only [Option.some.injEq,Prod.mk.injEq] at H;obtain ⟨rfl,rfl⟩:=H;go_wp2
    go_ret2
    exact ⟨qq216,qq112⟩
   ·replace c14:=Bool.eq_false_iff.mpr c14;subst c14;have H1 : (impl_MeetDay.l0 kj4 a1 l2 a3 a3 a0_0 a0_1 l0_2) = some (r1,r2):=by rw [if_neg (show ¬ (false = true) by decide)] at H;exact H
    clear H;have H:=H1;clear H1;have H':=am H;clear H;go_wp2
    go_loopg [10] kj4 (fun kq v10 w' => ∃ (x10_2 : Int),v10 = .int .i64 x10_2 ∧ Aside0 (impl_MeetDay.l0 kq a1 l2 a3 x10_2 a0_0 a0_1 l0_2 = some (r1,r2)) ∧ Aside0 (kq ≤ kj4) ∧ Aside0 (w'.heap[gb565]? = some (.cells #[.int .i64 a0_0,.int .i64 a0_1,(.slice A0_2 l0_2.length c0_2)] 26 (0,0))) ∧ Aside0 (Below w.heap.size w w'))
    case atStart => exact ⟨(a3),qq260,H',⟨Nat.le_refl _⟩,⟨qq182⟩,⟨qq112⟩⟩
    case round =>
     clear H'
     try clear c1
     try clear c2
     try clear p2
     try clear c8
     try clear c12
     try clear c14
     try clear hcz10_0
     try clear hcz10_1
     try clear hcz10_2
     try clear hcz12_0
     try clear hcz12_1
     try clear hcz12_2
     try clear hfz10_0
     try clear hfz10_1
     try clear hfz10_2
     try clear hfz12_0
     try clear hfz12_1
     try clear hfz12_2
     try clear p2
     obtain ⟨x10_2,rfl,HA,HK2,BK565,HB⟩:=hrel
     cases gk with
     | zero => exact absurd HA.out (by simp [impl_MeetDay.l0])
     | succ k2 =>
      have H:=HA.out;clear HA;simp only [impl_MeetDay.l0] at H
      by_cases c15 : x10_2 ≤ 200
      ·rw [if_pos c15] at H;have c15b0 : decide (x10_2 ≤ 200) = true:=decide_eq_true c15;clear c15;obtain ⟨ji16,hji16⟩ : ∃ j_ : Int,(mn x10_2 (wrap64 ((l2.length : Int) - 1))) = j_:=⟨_,rfl⟩
       replace H : (if 0 ≤ (ji16) then (if (ji16) < (l2.length : Int) then ((impl_Days.f k2 a0_0 a0_1 l0_2 a1 (rd l2 (ji16))).bind fun t569 => (if t569 ≥ 0 then (if t569 ≤ (wrap64 (x10_2 - a3)) then (some (x10_2,rd l2 (ji16))) else (impl_MeetDay.l0 k2 a1 l2 a3 (wrap64 (x10_2 + 1)) a0_0 a0_1 l0_2)) else (impl_MeetDay.l0 k2 a1 l2 a3 (wrap64 (x10_2 + 1)) a0_0 a0_1 l0_2))) else (none)) else (none)) = some (r1,r2):=by first | (rw [hji16] at H;exact H) | (simp only [hji16] at H ⊢;exact H)
       have hji16_ : (if (wrap64 ((l2.length : Int) - 1)) < x10_2 then (wrap64 ((l2.length : Int) - 1)) else x10_2) = ji16:=hji16
       by_cases c17 : 0 ≤ (ji16)
       ·rw [if_pos c17] at H;have c17b0 : decide (0 ≤ (ji16)) = true:=decide_eq_true c17;clear c17
        by_cases c18 : (ji16) < (l2.length : Int)
        ·rw [if_pos c18] at H;have c18b0 : decide ((ji16) < (l2.length : Int)) = true:=decide_eq_true c18;clear c18;replace H:=bS.mp H;obtain ⟨t569,A190,H⟩:=H;replace H : (if t569 ≥ 0 then (if t569 ≤ (wrap64 (x10_2 - a3)) then (some (x10_2,rd l2 (ji16))) else (impl_MeetDay.l0 k2 a1 l2 a3 (wrap64 (x10_2 + 1)) a0_0 a0_1 l0_2)) else (impl_MeetDay.l0 k2 a1 l2 a3 (wrap64 (x10_2 + 1)) a0_0 a0_1 l0_2)) = some (r1,r2):=H;have A19:=am A190;clear A190
         by_cases c20 : t569 ≥ 0
         ·rw [if_pos c20] at H;have c20b0 : decide (0 ≤ t569) = true:=decide_eq_true c20;clear c20
          by_cases c21 : t569 ≤ (wrap64 (x10_2 - a3))
          ·rw [if_pos c21] at H;have c21b0 : decide (t569 ≤ (wrap64 (x10_2 - a3))) = true:=decide_eq_true c21;clear c21;simp only [Option.some.injEq,Prod.mk.injEq] at H;obtain ⟨rfl,rfl⟩:=H;have p568 : 0 ≤ ((ji16) : Int):=odt qq258;have q568 : (ji16) < (l2.length : Int):=odt qq258;obtain ⟨ad568,e568,hx568_0⟩:=Kd.at_int HR2.out (ji16) p568 q568
           cases e568
           replace hx568_0:=(ct HB.out hx568_0 :)
           replace p568:=eq_true p568;replace q568:=eq_true q568;obtain ⟨hcz22_0,hcz22_1,hcz22_2,hfz22_0,hfz22_1,hfz22_2⟩:=bcl3 BK565.out;go_wp2_with (first | ((with_reducible refine gate_callee (f:=7) rfl ?_);refine goesL_ (some 38) rfl rfl Try.func7 (by kernel_rfl) rfl #[.agg #[.int .i64 a0_0,.int .i64 a0_1,.slice A0_2 l0_2.length c0_2],.int .i64 a1,.int .i64 (rd l2 (ji16))] rfl qq75 ?_;(with_reducible refine (impl_Days.calls k2 a0_0 a0_1 _ _ l0_2 a1 (rd l2 (ji16)) t569 _ ?side1 ?side2 A19.out).mono ?_);(case side1 => exact qq83);(case side2 => exact qq276);rintro e w23 ⟨rfl,hb⟩;refine ⟨_,rfl,?_⟩;replace BK565:=am qq315;replace HB:=am (below_step qq112 hb);(try clear hb);(try clear hb2);(try clear hk);(try clear hi)))
           go_ret2
           exact ⟨by first | rfl | (simp [errW_none,errW_some] <;> rfl) | (simp only [← hji16];first | rfl | (simp [errW_none,errW_some] <;> rfl)) | (simp [*,errW_none,errW_some] <;> rfl),qq112⟩
          ·rw [if_neg c21] at H;have c21b0 : decide (t569 ≤ (wrap64 (x10_2 - a3))) = false:=decide_eq_false c21;clear c21;have H':=am H;clear H;have p568 : 0 ≤ ((ji16) : Int):=odt qq258;have q568 : (ji16) < (l2.length : Int):=odt qq258;obtain ⟨ad568,e568,hx568_0⟩:=Kd.at_int HR2.out (ji16) p568 q568
           cases e568
           replace hx568_0:=(ct HB.out hx568_0 :)
           replace p568:=eq_true p568;replace q568:=eq_true q568;obtain ⟨hcz24_0,hcz24_1,hcz24_2,hfz24_0,hfz24_1,hfz24_2⟩:=bcl3 BK565.out;go_wp2_with (first | ((with_reducible refine gate_callee (f:=7) rfl ?_);refine goesL_ (some 38) rfl rfl Try.func7 (by kernel_rfl) rfl #[.agg #[.int .i64 a0_0,.int .i64 a0_1,.slice A0_2 l0_2.length c0_2],.int .i64 a1,.int .i64 (rd l2 (ji16))] rfl qq75 ?_;(with_reducible refine (impl_Days.calls k2 a0_0 a0_1 _ _ l0_2 a1 (rd l2 (ji16)) t569 _ ?side1 ?side2 A19.out).mono ?_);(case side1 => exact qq83);(case side2 => exact qq276);rintro e w25 ⟨rfl,hb⟩;refine ⟨_,rfl,?_⟩;replace BK565:=am qq315;replace HB:=am (below_step qq112 hb);(try clear hb);(try clear hb2);(try clear hk);(try clear hi)))
           go_roundg k2
           case measure => have:=HJ4.out;have:=HK2.out;omega
           case rel => exact ⟨(wrap64 (x10_2 + 1)),qq260,H',⟨by have:=HJ4.out;have:=HK2.out;omega⟩,⟨qq182⟩,⟨qq112⟩⟩
         ·rw [if_neg c20] at H;have c20b0 : decide (0 ≤ t569) = false:=decide_eq_false c20;clear c20;have H':=am H;clear H;have p568 : 0 ≤ ((ji16) : Int):=odt qq258;have q568 : (ji16) < (l2.length : Int):=odt qq258;obtain ⟨ad568,e568,hx568_0⟩:=Kd.at_int HR2.out (ji16) p568 q568
          cases e568
          replace hx568_0:=(ct HB.out hx568_0 :)
          replace p568:=eq_true p568;replace q568:=eq_true q568;obtain ⟨hcz26_0,hcz26_1,hcz26_2,hfz26_0,hfz26_1,hfz26_2⟩:=bcl3 BK565.out;go_wp2_with (first | ((with_reducible refine gate_callee (f:=7) rfl ?_);refine goesL_ (some 38) rfl rfl Try.func7 (by kernel_rfl) rfl #[.agg #[.int .i64 a0_0,.int .i64 a0_1,.slice A0_2 l0_2.length c0_2],.int .i64 a1,.int .i64 (rd l2 (ji16))] rfl qq75 ?_;(with_reducible refine (impl_Days.calls k2 a0_0 a0_1 _ _ l0_2 a1 (rd l2 (ji16)) t569 _ ?side1 ?side2 A19.out).mono ?_);(case side1 => exact qq83);(case side2 => exact qq276);rintro e w27 ⟨rfl,hb⟩;refine ⟨_,rfl,?_⟩;replace BK565:=am qq315;replace HB:=am (below_step qq112 hb);(try clear hb);(try clear hb2);(try clear hk);(try clear hi)))
          go_roundg k2
          case measure => have:=HJ4.out;have:=HK2.out;omega
          case rel => exact ⟨(wrap64 (x10_2 + 1)),qq260,H',⟨by have:=HJ4.out;have:=HK2.out;omega⟩,⟨qq182⟩,⟨qq112⟩⟩
        ·rw [if_neg c18] at H;exact absurd H (by simp)
       ·rw [if_neg c17] at H;exact absurd H (by simp)
      ·rw [if_neg c15] at H;have c15b0 : decide (x10_2 ≤ 200) = false:=decide_eq_false c15;clear c15;simp only [Option.some.injEq,Prod.mk.injEq] at H;obtain ⟨rfl,rfl⟩:=H;go_wp2
       go_ret2
       exact ⟨qq216,qq112⟩

/-! ### spec_l14Has: function 38 -/
def spec_l14Has.l0 : Nat → List Int → Int → Int → Option (Bool)
 | 0,_,_,_ => none
 | k + 1,x0,x1,x5 => if x5 < (x0.length : Int) then (if 0 ≤ x5 then (if (rd x0 x5) = x1 then (some true) else (spec_l14Has.l0 k x0 x1 (wrap64 (x5 + 1)))) else (none)) else (some false)
def spec_l14Has.f (k : Nat) (l0 : List Int) (a1 : Int) : Option (Bool) := spec_l14Has.l0 k l0 a1 0
set_option maxHeartbeats 8000000 in
set_option maxRecDepth 100000 in
theorem spec_l14Has.calls (k : Nat) (A0 : Option Addr) (c0 : Nat) (l0 : List Int) (a1 : Int) (r : Bool) (w : World) (hr0 : Kd.C (Kd.int .i64) w A0 l0.length l0) (hc0 : l0.length ≤ c0) (h : spec_l14Has.f k l0 a1 = some r) :
  Calls Try.prog 38 #[.slice A0 l0.length c0,.int .i64 a1] w fun e w' => e = .returned (.bool r) ∧ Drawn0 w w':=by
 have HR0:=am hr0;have HC0:=am hc0;clear hr0 hc0;have H : (spec_l14Has.l0 k l0 a1 0) = some r:=h;clear h;have H':=am H;clear H
 go_enter Try.func38,Try.ntmps38
 go_wp2
 go_loopg [5] k (fun kq v5 w' => ∃ (x5_1 : Int),v5 = .int .i64 x5_1 ∧ Aside0 (spec_l14Has.l0 kq l0 a1 x5_1 = some r) ∧ Aside0 (kq ≤ k) ∧ Drawn0 w w')
 case atStart => exact ⟨(0),qq260,H',⟨Nat.le_refl _⟩,qq257⟩
 case round =>
  clear H'
  try clear p2
  obtain ⟨x5_1,rfl,HA,HK1,⟨m1,rfl⟩⟩:=hrel
  cases gk with
  | zero => exact absurd HA.out (by simp [spec_l14Has.l0])
  | succ k1 =>
   have H:=HA.out;clear HA;simp only [spec_l14Has.l0] at H
   by_cases c3 : x5_1 < (l0.length : Int)
   ·rw [if_pos c3] at H;have c3b0 : decide (x5_1 < (l0.length : Int)) = true:=decide_eq_true c3;clear c3
    by_cases c4 : 0 ≤ x5_1
    ·rw [if_pos c4] at H;have c4b0 : decide (0 ≤ x5_1) = true:=decide_eq_true c4;clear c4
     by_cases c5 : (rd l0 x5_1) = a1
     ·rw [if_pos c5] at H;have c5b0 : ((rd l0 x5_1) == a1) = true:=beq_iff_eq.mpr c5;have c5b1 : ((rd l0 x5_1) != a1) = false:=bne_eq_false_iff_eq.mpr c5;clear c5;obtain rfl:=Option.some.inj H;have p570 : 0 ≤ (x5_1 : Int):=odt qq258;have q570 : x5_1 < (l0.length : Int):=odt qq258;obtain ⟨ad570,e570,hx570_0⟩:=Kd.at_int HR0.out x5_1 p570 q570
      cases e570
      replace p570:=eq_true p570;replace q570:=eq_true q570;go_wp2
      go_ret
      exact ⟨qq260,qq257⟩
     ·rw [if_neg c5] at H;have c5b0 : ((rd l0 x5_1) == a1) = false:=beq_eq_false_iff_ne.mpr c5;have c5b1 : ((rd l0 x5_1) != a1) = true:=bne_iff_ne.mpr c5;have H':=am H;clear H;have p570 : 0 ≤ (x5_1 : Int):=odt qq258;have q570 : x5_1 < (l0.length : Int):=odt qq258;obtain ⟨ad570,e570,hx570_0⟩:=Kd.at_int HR0.out x5_1 p570 q570
      cases e570
      replace p570:=eq_true p570;replace q570:=eq_true q570;go_wp2
      go_roundg k1
      case measure => have:=HK1.out;omega
      case rel => exact ⟨(wrap64 (x5_1 + 1)),qq260,H',⟨qq275⟩,qq257⟩
    ·rw [if_neg c4] at H;exact absurd H (by simp)
   ·rw [if_neg c3] at H;have c3b0 : decide (x5_1 < (l0.length : Int)) = false:=decide_eq_false c3;clear c3;obtain rfl:=Option.some.inj H;go_wp2
    go_ret
    exact ⟨qq260,qq257⟩

/-! ### spec_SearchOrder: function 27 -/
mutual
def spec_SearchOrder.l0 : Nat → Int → List Int → List Int → Int → Int → Int → List Int → Option (List Int)
 | 0,_,_,_,_,_,_,_ => none
 | k + 1,x1,x2,x7,x8,x572000,x572001,x572002 => if x8 ≤ (x572002.length : Int) then (spec_SearchOrder.l1 k x1 x2 x7 x8 0 x572000 x572001 x572002) else (some x7)
def spec_SearchOrder.l1 : Nat → Int → List Int → List Int → Int → Int → Int → Int → List Int → Option (List Int)
 | 0,_,_,_,_,_,_,_,_ => none
 | k + 1,x1,x2,x7,x8,x9,x572000,x572001,x572002 => if x9 < (x572002.length : Int) then ((spec_l14Has.f k x2 x9).bind fun t575 => (if t575 = true then ((spec_Days.f k x572000 x572001 x572002 x1 x9).bind fun t576 => (if t576 = x8 then (if x7.length < 17592186044416 then (spec_SearchOrder.l1 k x1 x2 (x7 ++ [x9]) x8 (wrap64 (x9 + 1)) x572000 x572001 x572002) else (none)) else (spec_SearchOrder.l1 k x1 x2 x7 x8 (wrap64 (x9 + 1)) x572000 x572001 x572002))) else (spec_SearchOrder.l1 k x1 x2 x7 x8 (wrap64 (x9 + 1)) x572000 x572001 x572002))) else (spec_SearchOrder.l0 k x1 x2 x7 (wrap64 (x8 + 1)) x572000 x572001 x572002)
end
def spec_SearchOrder.f (k : Nat) (a0_0 : Int) (a0_1 : Int) (l0_2 : List Int) (a1 : Int) (l2 : List Int) : Option (List Int) := spec_SearchOrder.l0 k a1 l2 (([] : List Int)) 0 a0_0 a0_1 l0_2
set_option maxHeartbeats 8000000 in
set_option maxRecDepth 100000 in
theorem spec_SearchOrder.calls (k : Nat) (a0_0 : Int) (a0_1 : Int) (A0_2 : Option Addr) (c0_2 : Nat) (l0_2 : List Int) (a1 : Int) (A2 : Option Addr) (c2 : Nat) (l2 : List Int) (r : List Int) (w : World) (hr0_2 : Kd.C (Kd.int .i64) w A0_2 l0_2.length l0_2) (hc0_2 : l0_2.length ≤ c0_2) (hr2 : Kd.C (Kd.int .i64) w A2 l2.length l2) (hc2 : l2.length ≤ c2) (h : spec_SearchOrder.f k a0_0 a0_1 l0_2 a1 l2 = some r) :
  Calls Try.prog 27 #[.agg #[.int .i64 a0_0,.int .i64 a0_1,.slice A0_2 l0_2.length c0_2],.int .i64 a1,.slice A2 l2.length c2] w fun e w' => ∃ v0_ : Value,e = .returned (v0_) ∧ Kd.R (Kd.int .i64) 3 w' w.heap.size (fun _ => True) v0_ r ∧ Below w.heap.size w w':=by
 have hu26:=Try.underlying26;have HR0_2:=am hr0_2;have HC0_2:=am hc0_2;clear hr0_2 hc0_2;have HR2:=am hr2;have HC2:=am hc2;clear hr2 hc2;have HB:=am qq354;have H : (spec_SearchOrder.l0 k a1 l2 (([] : List Int)) 0 a0_0 a0_1 l0_2) = some r:=h;clear h;obtain ⟨y572,hy572⟩ : ∃ y_ : List Int,y_ = (([] : List Int)):=⟨_,rfl⟩
 replace H : (spec_SearchOrder.l0 k a1 l2 y572 0 a0_0 a0_1 l0_2) = some r:=by first | (rw [hy572];with_reducible exact H) | (have H2_:=(Option.bind_some _ _).symm.trans H;rw [hy572];with_reducible exact H2_) | (have H2_:=(Option.bind_some _ _).symm.trans H;with_reducible exact H2_) | with_reducible exact H | (rw [hy572];exact H) | exact H
 have Ny572:=am hy572;clear hy572;have H':=am H;clear H
 go_enter Try.func27,Try.ntmps27
 go_wp2_with (first | ((with_reducible refine gate_dst (N:=3) rfl ?_);refine box_event ?hg (N:=3) ?hd (cs:=#[.int .i64 a0_0,.int .i64 a0_1,.slice A0_2 l0_2.length c0_2]) (t:=26) ?hr ?_;(case hd => rfl);(case hg => rfl);(case hr => exact qq261);intro gb571 hg w4 hbox hb;have BK571:=am (hbox);have GW571:=am ((qq108 : w.heap.size ≤ gb571));have GE571:=am ((qq108 : w.heap.size ≤ gb571));replace HB:=am qq358;clear hb hbox hg) | ((with_reducible refine gate_dst (N:=10) rfl ?_);refine Kd.R_lit (Kd.int .i64) _ 3 ?hg (N:=10) ?hd (xs:=([] : List Int)) (inner:=[]) (ok:=fun _ => True) (okp:=fun _ => True) ?hr ?hp (fun _ hk => hk) trivial (Below.refl _ _) (Nat.le_refl _) (by simp) ?_;(case hd => rfl);(case hg => rfl);(case hr => exact qq261);(case hp => exact qq274);intro v573 w5 ho6 hb hg_ hnew_;clear hg_ hnew_;(first | rw [← Ny572.out] at ho6 | (simp only [Int.reduceToNat] at ho6;rw [← Ny572.out] at ho6));have HO574:=am (Kd.R_lower ho6 (below_size qq111));replace BK571:=am qq316;replace HB:=am (below_step qq111 hb);clear hb ho6))
 go_loopg [7,8] k (fun kq v7 v8 w' => ∃ (x7_1 : List Int) (x8_1 : Int),v8 = .int .i64 x8_1 ∧ Aside0 (spec_SearchOrder.l0 kq a1 l2 x7_1 x8_1 a0_0 a0_1 l0_2 = some r) ∧ Aside0 (kq ≤ k) ∧ Aside0 (Kd.R (Kd.int .i64) 3 w' w.heap.size (fun _ => True) v7 x7_1) ∧ Aside0 (w'.heap[gb571]? = some (.cells #[.int .i64 a0_0,.int .i64 a0_1,(.slice A0_2 l0_2.length c0_2)] 26 (0,0))) ∧ Aside0 (Below w.heap.size w w'))
 case atStart => exact ⟨(y572),(0),qq260,H',⟨Nat.le_refl _⟩,⟨by (with_reducible repeat (first | apply kA | apply kN | apply kD));exact HO574.out⟩,⟨qq181⟩,⟨qq111⟩⟩
 case round =>
  clear H'
  try clear c2
  try clear p2
  obtain ⟨x7_1,x8_1,rfl,HA,HK1,HO_7,BK571,HB⟩:=hrel
  cases gk with
  | zero => exact absurd HA.out (by simp [spec_SearchOrder.l0])
  | succ k1 =>
   have H:=HA.out;clear HA;simp only [spec_SearchOrder.l0] at H
   by_cases c7 : x8_1 ≤ (l0_2.length : Int)
   ·rw [if_pos c7] at H;have c7b0 : decide (x8_1 ≤ (l0_2.length : Int)) = true:=decide_eq_true c7;clear c7;have H':=am H;clear H;obtain ⟨hcz8_0,hcz8_1,hcz8_2,hfz8_0,hfz8_1,hfz8_2⟩:=bcl3 BK571.out;go_wp2
    go_loopg [7,9] k1 (fun kq v7 v9 w' => ∃ (x7_2 : List Int) (x9_2 : Int),v9 = .int .i64 x9_2 ∧ Aside0 (spec_SearchOrder.l1 kq a1 l2 x7_2 x8_1 x9_2 a0_0 a0_1 l0_2 = some r) ∧ Aside0 (kq ≤ k1) ∧ Aside0 (Kd.R (Kd.int .i64) 3 w' w.heap.size (fun _ => True) v7 x7_2) ∧ Aside0 (w'.heap[gb571]? = some (.cells #[.int .i64 a0_0,.int .i64 a0_1,(.slice A0_2 l0_2.length c0_2)] 26 (0,0))) ∧ Aside0 (Below w.heap.size w w'))
    case atStart => exact ⟨(x7_1),(0),qq260,H',⟨Nat.le_refl _⟩,⟨qq249⟩,⟨qq181⟩,⟨qq111⟩⟩
    case round =>
     clear H'
     try clear c2
     try clear p2
     try clear c7
     try clear c7b0
     try clear hcz8_0
     try clear hcz8_1
     try clear hcz8_2
     try clear hfz8_0
     try clear hfz8_1
     try clear hfz8_2
     try clear p2
     obtain ⟨x7_2,x9_2,rfl,HA,HK2,HO_7,BK571,HB⟩:=hrel
     cases gk with
     | zero => exact absurd HA.out (by simp [spec_SearchOrder.l1])
     | succ k2 =>
      have H:=HA.out;clear HA;simp only [spec_SearchOrder.l1] at H
      by_cases c9 : x9_2 < (l0_2.length : Int)
      ·rw [if_pos c9] at H;have c9b0 : decide (x9_2 < (l0_2.length : Int)) = true:=decide_eq_true c9;clear c9;replace H:=bS.mp H;obtain ⟨t575,A100,H⟩:=H;replace H : (if t575 = true then ((spec_Days.f k2 a0_0 a0_1 l0_2 a1 x9_2).bind fun t576 => (if t576 = x8_1 then (if x7_2.length < 17592186044416 then (spec_SearchOrder.l1 k2 a1 l2 (x7_2 ++ [x9_2]) x8_1 (wrap64 (x9_2 + 1)) a0_0 a0_1 l0_2) else (none)) else (spec_SearchOrder.l1 k2 a1 l2 x7_2 x8_1 (wrap64 (x9_2 + 1)) a0_0 a0_1 l0_2))) else (spec_SearchOrder.l1 k2 a1 l2 x7_2 x8_1 (wrap64 (x9_2 + 1)) a0_0 a0_1 l0_2)) = some r:=H;have A10:=am A100;clear A100
       by_cases c11 : t575 = true
       ·subst c11;have H1 : ((spec_Days.f k2 a0_0 a0_1 l0_2 a1 x9_2).bind fun t576 => (if t576 = x8_1 then (if x7_2.length < 17592186044416 then (spec_SearchOrder.l1 k2 a1 l2 (x7_2 ++ [x9_2]) x8_1 (wrap64 (x9_2 + 1)) a0_0 a0_1 l0_2) else (none)) else (spec_SearchOrder.l1 k2 a1 l2 x7_2 x8_1 (wrap64 (x9_2 + 1)) a0_0 a0_1 l0_2))) = some r:=by rw [if_pos rfl] at H;exact H
        clear H;have H:=H1;clear H1;replace H:=bS.mp H;obtain ⟨t576,A120,H⟩:=H;replace H : (if t576 = x8_1 then (if x7_2.length < 17592186044416 then (spec_SearchOrder.l1 k2 a1 l2 (x7_2 ++ [x9_2]) x8_1 (wrap64 (x9_2 + 1)) a0_0 a0_1 l0_2) else (none)) else (spec_SearchOrder.l1 k2 a1 l2 x7_2 x8_1 (wrap64 (x9_2 + 1)) a0_0 a0_1 l0_2)) = some r:=H;have A12:=am A120;clear A120
        by_cases c13 : t576 = x8_1
        ·rw [if_pos c13] at H;have c13b0 : (t576 == x8_1) = true:=beq_iff_eq.mpr c13;have c13b1 : (t576 != x8_1) = false:=bne_eq_false_iff_eq.mpr c13;clear c13
         by_cases c14 : x7_2.length < 17592186044416
         ·rw [if_pos c14] at H;have LMc14:=am c14;clear c14;obtain ⟨y577,hy577⟩ : ∃ y_ : List Int,y_ = (x7_2 ++ [x9_2]):=⟨_,rfl⟩
          replace H : (spec_SearchOrder.l1 k2 a1 l2 y577 x8_1 (wrap64 (x9_2 + 1)) a0_0 a0_1 l0_2) = some r:=by first | (rw [hy577];with_reducible exact H) | (have H2_:=(Option.bind_some _ _).symm.trans H;rw [hy577];with_reducible exact H2_) | (have H2_:=(Option.bind_some _ _).symm.trans H;with_reducible exact H2_) | with_reducible exact H | (rw [hy577];exact H) | exact H
          have Ny577:=am hy577;clear hy577;have H':=am H;clear H;obtain ⟨hcz15_0,hcz15_1,hcz15_2,hfz15_0,hfz15_1,hfz15_2⟩:=bcl3 BK571.out;go_wp2_with (first | ((with_reducible refine gate_callee (f:=38) rfl ?_);refine goesL_ (some 27) rfl rfl Try.func38 (by kernel_rfl) rfl #[.slice A2 l2.length c2,.int .i64 x9_2] rfl qq139 ?_;(with_reducible refine (spec_l14Has.calls k2 _ _ l2 x9_2 true _ ?side1 ?side2 A10.out).mono ?_);(case side1 => exact qq93);(case side2 => exact HC2.out);rintro e w' ⟨rfl,⟨nd,rfl⟩⟩;refine ⟨_,rfl,?_⟩) | (go_at_call 39;(with_reducible refine (spec_Days.calls k2 a0_0 a0_1 _ _ l0_2 a1 x9_2 t576 _ ?side1 ?side2 A12.out).mono ?_);(case side1 => exact qq24);(case side2 => exact qq276);rintro e w16 ⟨rfl,hb⟩;replace HO_7:=am (Kd.R_below qq249 hb);replace BK571:=am qq316;replace HB:=am (below_step qq111 hb);(try clear hb);(try clear hb2);(try clear hk);(try clear hi)) | ((with_reducible refine gate_builtin (b:=.append) (xs:=#[.tmp 36,.tmp 38]) rfl ?_);at_builtin;refine Kd.R_append (Kd.int .i64) (w0:=w) w.heap.size rfl (.tmp 36) (.tmp 38) 24 3 (.int .i64 0) 8 rfl Try.underlying24 info3 rfl (by decide) (by omega) u7 x7_2 x9_2 [.int .i64 x9_2] (fun _ => True) (fun _ => False) rfl rfl ?aP (fun _ hk => hk.elim) ?aF ?aO ?aB ?aS ?aL ?_;(case aP => exact rfl);(case aB => exact qq111);(case aF => exact qq272);(case aO => exact qq219);(case aS => exact (below_size qq111));(case aL => have:=LMc14.out;omega);intro v578 w17 ho hb hg hat;rw [← Ny577.out] at ho;replace BK571:=am (blk_grown (g:=gb571) (o:=.cells #[.int .i64 a0_0,.int .i64 a0_1,.slice A0_2 l0_2.length c0_2] 26 (0,0)) qq181 hg (Kd.R_ne HO_7.out BK571.out (by decide)));replace HB:=am (hb);have HO579:=am (ho);clear HO_7;clear ho hb hg hat))
          go_roundg k2
          case measure => have:=HK1.out;have:=HK2.out;omega
          case rel => exact ⟨(y577),(wrap64 (x9_2 + 1)),qq260,H',⟨qq266⟩,⟨by (with_reducible repeat (first | apply kA | apply kN | apply kD));exact HO579.out⟩,⟨qq181⟩,⟨qq111⟩⟩
         ·rw [if_neg c14] at H;exact absurd H (by simp)
        ·rw [if_neg c13] at H;have c13b0 : (t576 == x8_1) = false:=beq_eq_false_iff_ne.mpr c13;have c13b1 : (t576 != x8_1) = true:=bne_iff_ne.mpr c13;have H':=am H;clear H;obtain ⟨hcz18_0,hcz18_1,hcz18_2,hfz18_0,hfz18_1,hfz18_2⟩:=bcl3 BK571.out;go_wp2_with (first | ((with_reducible refine gate_callee (f:=38) rfl ?_);refine goesL_ (some 27) rfl rfl Try.func38 (by kernel_rfl) rfl #[.slice A2 l2.length c2,.int .i64 x9_2] rfl qq139 ?_;(with_reducible refine (spec_l14Has.calls k2 _ _ l2 x9_2 true _ ?side1 ?side2 A10.out).mono ?_);(case side1 => exact qq93);(case side2 => exact HC2.out);rintro e w' ⟨rfl,⟨nd,rfl⟩⟩;refine ⟨_,rfl,?_⟩) | (go_at_call 39;(with_reducible refine (spec_Days.calls k2 a0_0 a0_1 _ _ l0_2 a1 x9_2 t576 _ ?side1 ?side2 A12.out).mono ?_);(case side1 => exact qq24);(case side2 => exact qq276);rintro e w19 ⟨rfl,hb⟩;replace HO_7:=am (Kd.R_below qq249 hb);replace BK571:=am qq316;replace HB:=am (below_step qq111 hb);(try clear hb);(try clear hb2);(try clear hk);(try clear hi)))
         go_roundg k2
         case measure => have:=HK1.out;have:=HK2.out;omega
         case rel => exact ⟨(x7_2),(wrap64 (x9_2 + 1)),qq260,H',⟨qq266⟩,⟨qq249⟩,⟨qq181⟩,⟨qq111⟩⟩
       ·replace c11:=Bool.eq_false_iff.mpr c11;subst c11;have H1 : (spec_SearchOrder.l1 k2 a1 l2 x7_2 x8_1 (wrap64 (x9_2 + 1)) a0_0 a0_1 l0_2) = some r:=by rw [if_neg (show ¬ (false = true) by decide)] at H;exact H
        clear H;have H:=H1;clear H1;have H':=am H;clear H;obtain ⟨hcz20_0,hcz20_1,hcz20_2,hfz20_0,hfz20_1,hfz20_2⟩:=bcl3 BK571.out;go_wp2_with (first | ((with_reducible refine gate_callee (f:=38) rfl ?_);refine goesL_ (some 27) rfl rfl Try.func38 (by kernel_rfl) rfl #[.slice A2 l2.length c2,.int .i64 x9_2] rfl qq139 ?_;(with_reducible refine (spec_l14Has.calls k2 _ _ l2 x9_2 false _ ?side1 ?side2 A10.out).mono ?_);(case side1 => exact qq93);(case side2 => exact HC2.out);rintro e w' ⟨rfl,⟨nd,rfl⟩⟩;refine ⟨_,rfl,?_⟩))
        go_roundg k2
        case measure => have:=HK1.out;have:=HK2.out;omega
        case rel => exact ⟨(x7_2),(wrap64 (x9_2 + 1)),qq260,H',⟨qq266⟩,⟨qq249⟩,⟨qq181⟩,⟨qq111⟩⟩
      ·rw [if_neg c9] at H;have c9b0 : decide (x9_2 < (l0_2.length : Int)) = false:=decide_eq_false c9;clear c9;have H':=am H;clear H;obtain ⟨hcz21_0,hcz21_1,hcz21_2,hfz21_0,hfz21_1,hfz21_2⟩:=bcl3 BK571.out;go_wp2
       go_roundg k2
       case measure => have:=HK1.out;have:=HK2.out;omega
       case rel => exact ⟨(x7_2),(wrap64 (x8_1 + 1)),qq260,H',⟨qq266⟩,⟨qq249⟩,⟨qq181⟩,⟨qq111⟩⟩
   ·rw [if_neg c7] at H;have c7b0 : decide (x8_1 ≤ (l0_2.length : Int)) = false:=decide_eq_false c7;clear c7;obtain rfl:=Option.some.inj H;obtain ⟨hcz22_0,hcz22_1,hcz22_2,hfz22_0,hfz22_1,hfz22_2⟩:=bcl3 BK571.out;go_wp2
    go_ret
    exact ⟨_,qq216,qq249,qq111⟩

/-! ### spec_DrawStillIn: function 13 -/
def spec_DrawStillIn.f (k : Nat) (l0 : List Int) : Option (List Int × List Int) := (spec_DrawSearchOrder.f k l0).bind fun bt580 => ((spec_SearchOrder.f k bt580.1 bt580.2.1 bt580.2.2.1 bt580.2.2.2.1 bt580.2.2.2.2).bind fun t590 => (if 0 ≤ (wrap64 ((t590.length : Int) / 2)) then (if (wrap64 ((t590.length : Int) / 2)) ≤ (t590.length : Int) then (some (bt580.2.2.2.2, (t590.take ((wrap64 ((t590.length : Int) / 2)) : Int).toNat))) else (none)) else (none)))
set_option maxHeartbeats 8000000 in
set_option maxRecDepth 100000 in
theorem spec_DrawStillIn.calls (k : Nat) (A0 : Option Addr) (c0 : Nat) (l0 : List Int) (r1 : List Int) (r2 : List Int) (w : World) (hr0 : Kd.C (Kd.int .u8) w A0 l0.length l0) (hc0 : l0.length ≤ c0) (h : spec_DrawStillIn.f k l0 = some (r1, r2)) :
  Calls Try.prog 13 #[.slice A0 l0.length c0] w fun e w' => ∃ v0_ v1_ : Value,e = .returned (.tuple #[v0_,v1_]) ∧ Kd.R (Kd.int .i64) 3 w' w.heap.size (fun k_ => some k_ ≠ (v1_ : Value).ownBlock) v0_ r1 ∧ Kd.R (Kd.int .i64) 3 w' w.heap.size (fun k_ => some k_ ≠ (v0_ : Value).ownBlock) v1_ r2 ∧ Below w.heap.size w w':=by
 have hu26:=Try.underlying26;have HR0:=am hr0;have HC0:=am hc0;clear hr0 hc0;have HB:=am qq354;have H : ((spec_DrawSearchOrder.f k l0).bind fun bt580 => ((spec_SearchOrder.f k bt580.1 bt580.2.1 bt580.2.2.1 bt580.2.2.2.1 bt580.2.2.2.2).bind fun t590 => (if 0 ≤ (wrap64 ((t590.length : Int) / 2)) then (if (wrap64 ((t590.length : Int) / 2)) ≤ (t590.length : Int) then (some (bt580.2.2.2.2,(t590.take ((wrap64 ((t590.length : Int) / 2)) : Int).toNat))) else (none)) else (none)))) = some (r1,r2):=h;clear h;replace H:=bS.mp H;obtain ⟨⟨t580,t581,t582,t585,t586⟩,A20,H⟩:=H;replace H : ((spec_SearchOrder.f k t580 t581 t582 t585 t586).bind fun t590 => (if 0 ≤ (wrap64 ((t590.length : Int) / 2)) then (if (wrap64 ((t590.length : Int) / 2)) ≤ (t590.length : Int) then (some (t586,(t590.take ((wrap64 ((t590.length : Int) / 2)) : Int).toNat))) else (none)) else (none))) = some (r1,r2):=H;have A2:=am A20;clear A20;replace H:=bS.mp H;obtain ⟨t590,A30,H⟩:=H;replace H : (if 0 ≤ (wrap64 ((t590.length : Int) / 2)) then (if (wrap64 ((t590.length : Int) / 2)) ≤ (t590.length : Int) then (some (t586,(t590.take ((wrap64 ((t590.length : Int) / 2)) : Int).toNat))) else (none)) else (none)) = some (r1,r2):=H;have A3:=am A30;clear A30;obtain ⟨ji4,hji4⟩ : ∃ j_ : Int,(wrap64 ((t590.length : Int) / 2)) = j_:=⟨_,rfl⟩
 replace H : (if 0 ≤ (ji4) then (if (ji4) ≤ (t590.length : Int) then (some (t586,(t590.take ((ji4) : Int).toNat))) else (none)) else (none)) = some (r1,r2):=by first | (rw [hji4] at H;exact H) | (simp only [hji4] at H ⊢;exact H)
 (try rw [hji4] at A2);(try rw [hji4] at A3);have hji4w : (IntKind.i64.wrap ((t590.length : Int) / 2)) = ji4:=(i64_w _).trans hji4
 by_cases c5 : 0 ≤ (ji4)
 ·rw [if_pos c5] at H;have c5b0:=eq_true c5;have c5b1 : decide (0 ≤ (ji4)) = true:=decide_eq_true c5;clear c5
  by_cases c6 : (ji4) ≤ (t590.length : Int)
  ·rw [if_pos c6] at H;have c6b0:=eq_true c6;have c6b1 : decide ((ji4) ≤ (t590.length : Int)) = true:=decide_eq_true c6;clear c6;obtain ⟨y593,hy593⟩ : ∃ y_ : List Int,y_ = (t590.take ((ji4) : Int).toNat):=⟨_,rfl⟩
   replace H : (some (t586,y593)) = some (r1,r2):=by first | (rw [hy593];with_reducible exact H) | (have H2_:=(Option.bind_some _ _).symm.trans H;rw [hy593];with_reducible exact H2_) | (have H2_:=(Option.bind_some _ _).symm.trans H;with_reducible exact H2_) | with_reducible exact H | (rw [hy593];exact H) | exact H
   have Ny593:=am hy593;clear hy593;simp only [Option.some.injEq,Prod.mk.injEq] at H;obtain ⟨rfl,rfl⟩:=H
   go_enter Try.func13,Try.ntmps13
   go_wp2_with (first | (go_at_call 9;(with_reducible refine (spec_DrawSearchOrder.calls k _ _ l0 t580 t581 t582 t585 t586 _ ?side1 ?side2 A2.out).mono ?_);(case side1 => exact qq143);(case side2 => exact HC0.out);rintro e w7 ⟨v583,v587,rfl,ho0,ho1,hb⟩;have HO584:=am qq338;have HO588:=am (Kd.R_lower ho1 (below_size qq176));replace HB:=am qq358;(try clear hb);(try clear hb2);(try clear hk);(try clear hi);(try clear ho0);(try clear ho1)) | ((with_reducible refine gate_dst (N:=4) rfl ?_);refine box_event ?hg (N:=4) ?hd (cs:=#[.int .i64 0,.int .i64 0,.slice none 0 0]) (t:=26) ?hr ?_;(case hd => rfl);(case hg => rfl);(case hr => exact qq261);intro gb589 hg w8 hbox hb;replace HO584:=am (Kd.Q_below qq168 hb);replace HO588:=am (Kd.R_below qq229 hb);have BK589:=am (hbox);have GW589:=am qq353;have GE589:=am qq353;replace HB:=am qq358;clear hb hbox hg;obtain ⟨hcz9_0,hcz9_1,hcz9_2,hfz9_0,hfz9_1,hfz9_2⟩:=bcl3 BK589.out;obtain ⟨Ao10,co10,eo10,_⟩:=Kd.Q_slice HO584.out;subst eo10;obtain ⟨Ao11,co11,eo11⟩:=Kd.R_slice HO588.out;subst eo11) | (go_at_call 27;(with_reducible refine (spec_SearchOrder.calls k t580 t581 _ _ t582 t585 _ _ t586 t590 _ ?side1 ?side2 ?side3 ?side4 A3.out).mono ?_);(case side1 => exact qq7);(case side2 => exact qq270);(case side3 => exact qq8);(case side4 => exact qq269);rintro e w12 ⟨v591,rfl,ho0,hb⟩;have HO592:=am qq332;replace HO584:=am (Kd.Q_elder' qq16 (Kd.R_base ho0) hb);replace HO588:=am (Kd.R_elder' qq21 (Kd.R_base ho0) hb);replace BK589:=am qq319;replace HB:=am (below_step qq110 hb);(try clear hb);(try clear hb2);(try clear hk);(try clear hi);(try clear ho0);obtain ⟨Ao13,co13,eo13⟩:=Kd.R_slice HO592.out;subst eo13;have q14 : ((ji4) : Int) ≤ ((t590.length : Int) : Int):=odt qq258;obtain ⟨i014,hi014,_,hsz14,_⟩:=info_parts info3;have hcut14:=cut_to (P:=Try.prog) 24 3 .i64 Try.underlying24 hi014 Ao13 t590.length co13 (ji4) (odt qq258) q14 (Kd.R_reads' HO592.out).2.1;have hr14:=Kd.R_take (m:=((ji4) : Int).toNat) HO592.out (by omega);have hy14 : y593.length = ((ji4) : Int).toNat:=qq262;rw [← Ny593.out] at hr14;rw [← hy14] at hr14 hcut14;clear hy14 hi014 hsz14 HO592;have HO595:=am hr14;clear hr14;replace q14:=eq_true q14))
   repeat (go_quiet (first | (go_at_call 9;(with_reducible refine (spec_DrawSearchOrder.calls k _ _ l0 t580 t581 t582 t585 t586 _ ?side1 ?side2 A2.out).mono ?_);(case side1 => exact qq143);(case side2 => exact HC0.out);rintro e w7 ⟨v583,v587,rfl,ho0,ho1,hb⟩;have HO584:=am qq338;have HO588:=am (Kd.R_lower ho1 (below_size qq176));replace HB:=am qq358;(try clear hb);(try clear hb2);(try clear hk);(try clear hi);(try clear ho0);(try clear ho1)) | ((with_reducible refine gate_dst (N:=4) rfl ?_);refine box_event ?hg (N:=4) ?hd (cs:=#[.int .i64 0,.int .i64 0,.slice none 0 0]) (t:=26) ?hr ?_;(case hd => rfl);(case hg => rfl);(case hr => exact qq261);intro gb589 hg w8 hbox hb;replace HO584:=am (Kd.Q_below qq168 hb);replace HO588:=am (Kd.R_below qq229 hb);have BK589:=am (hbox);have GW589:=am qq353;have GE589:=am qq353;replace HB:=am qq358;clear hb hbox hg;obtain ⟨hcz9_0,hcz9_1,hcz9_2,hfz9_0,hfz9_1,hfz9_2⟩:=bcl3 BK589.out;obtain ⟨Ao10,co10,eo10,_⟩:=Kd.Q_slice HO584.out;subst eo10;obtain ⟨Ao11,co11,eo11⟩:=Kd.R_slice HO588.out;subst eo11) | (go_at_call 27;(with_reducible refine (spec_SearchOrder.calls k t580 t581 _ _ t582 t585 _ _ t586 t590 _ ?side1 ?side2 ?side3 ?side4 A3.out).mono ?_);(case side1 => exact qq7);(case side2 => exact qq270);(case side3 => exact qq8);(case side4 => exact qq269);rintro e w12 ⟨v591,rfl,ho0,hb⟩;have HO592:=am qq332;replace HO584:=am (Kd.Q_elder' qq16 (Kd.R_base ho0) hb);replace HO588:=am (Kd.R_elder' qq21 (Kd.R_base ho0) hb);replace BK589:=am qq319;replace HB:=am (below_step qq110 hb);(try clear hb);(try clear hb2);(try clear hk);(try clear hi);(try clear ho0);obtain ⟨Ao13,co13,eo13⟩:=Kd.R_slice HO592.out;subst eo13;have q14 : ((ji4) : Int) ≤ ((t590.length : Int) : Int):=odt qq258;obtain ⟨i014,hi014,_,hsz14,_⟩:=info_parts info3;have hcut14:=cut_to (P:=Try.prog) 24 3 .i64 Try.underlying24 hi014 Ao13 t590.length co13 (ji4) (odt qq258) q14 (Kd.R_reads' HO592.out).2.1;have hr14:=Kd.R_take (m:=((ji4) : Int).toNat) HO592.out (by omega);have hy14 : y593.length = ((ji4) : Int).toNat:=qq262;rw [← Ny593.out] at hr14;rw [← hy14] at hr14 hcut14;clear hy14 hi014 hsz14 HO592;have HO595:=am hr14;clear hr14;replace q14:=eq_true q14));try go_wp2_with (first | (go_at_call 9;(with_reducible refine (spec_DrawSearchOrder.calls k _ _ l0 t580 t581 t582 t585 t586 _ ?side1 ?side2 A2.out).mono ?_);(case side1 => exact qq143);(case side2 => exact HC0.out);rintro e w7 ⟨v583,v587,rfl,ho0,ho1,hb⟩;have HO584:=am qq338;have HO588:=am (Kd.R_lower ho1 (below_size qq176));replace HB:=am qq358;(try clear hb);(try clear hb2);(try clear hk);(try clear hi);(try clear ho0);(try clear ho1)) | ((with_reducible refine gate_dst (N:=4) rfl ?_);refine box_event ?hg (N:=4) ?hd (cs:=#[.int .i64 0,.int .i64 0,.slice none 0 0]) (t:=26) ?hr ?_;(case hd => rfl);(case hg => rfl);(case hr => exact qq261);intro gb589 hg w8 hbox hb;replace HO584:=am (Kd.Q_below qq168 hb);replace HO588:=am (Kd.R_below qq229 hb);have BK589:=am (hbox);have GW589:=am qq353;have GE589:=am qq353;replace HB:=am qq358;clear hb hbox hg;obtain ⟨hcz9_0,hcz9_1,hcz9_2,hfz9_0,hfz9_1,hfz9_2⟩:=bcl3 BK589.out;obtain ⟨Ao10,co10,eo10,_⟩:=Kd.Q_slice HO584.out;subst eo10;obtain ⟨Ao11,co11,eo11⟩:=Kd.R_slice HO588.out;subst eo11) | (go_at_call 27;(with_reducible refine (spec_SearchOrder.calls k t580 t581 _ _ t582 t585 _ _ t586 t590 _ ?side1 ?side2 ?side3 ?side4 A3.out).mono ?_);(case side1 => exact qq7);(case side2 => exact qq270);(case side3 => exact qq8);(case side4 => exact qq269);rintro e w12 ⟨v591,rfl,ho0,hb⟩;have HO592:=am qq332;replace HO584:=am (Kd.Q_elder' qq16 (Kd.R_base ho0) hb);replace HO588:=am (Kd.R_elder' qq21 (Kd.R_base ho0) hb);replace BK589:=am qq319;replace HB:=am (below_step qq110 hb);(try clear hb);(try clear hb2);(try clear hk);(try clear hi);(try clear ho0);obtain ⟨Ao13,co13,eo13⟩:=Kd.R_slice HO592.out;subst eo13;have q14 : ((ji4) : Int) ≤ ((t590.length : Int) : Int):=odt qq258;obtain ⟨i014,hi014,_,hsz14,_⟩:=info_parts info3;have hcut14:=cut_to (P:=Try.prog) 24 3 .i64 Try.underlying24 hi014 Ao13 t590.length co13 (ji4) (odt qq258) q14 (Kd.R_reads' HO592.out).2.1;have hr14:=Kd.R_take (m:=((ji4) : Int).toNat) HO592.out (by omega);have hy14 : y593.length = ((ji4) : Int).toNat:=qq262;rw [← Ny593.out] at hr14;rw [← hy14] at hr14 hcut14;clear hy14 hi014 hsz14 HO592;have HO595:=am hr14;clear hr14;replace q14:=eq_true q14)))
   go_ret2
   exact ⟨_,_,by first | rfl | (simp [errW_none,errW_some] <;> rfl) | (simp only [← hji4];first | rfl | (simp [errW_none,errW_some] <;> rfl)) | (simp [*,errW_none,errW_some] <;> rfl),by (with_reducible repeat (first | apply kA | apply kN | apply kD));exact Kd.R_mono HO588.out (fun k_ hk => by first | exact hk.2 | (cases Ao13 <;> exact hk.2)),by (with_reducible repeat (first | apply kA | apply kN | apply kD));exact Kd.R_mono HO595.out (fun k_ hk => by first | exact hk.2 | (cases Ao13 <;> exact hk.2)),qq110⟩
  ·rw [if_neg c6] at H;exact absurd H (by simp)
 ·rw [if_neg c5] at H;exact absurd H (by simp)

/-! ### impl_StillIn: function 14 -/
def impl_StillIn.l0 : Nat → List Int → List Int → List Int → Int → Int → Option (List Int)
 | 0,_,_,_,_,_ => none
 | k + 1,x1,x5,x9,x10,x11 => if x11 < x10 then (if 0 ≤ x11 then (if x11 < (x9.length : Int) then ((impl_has.f k x1 (rd x9 x11)).bind fun t600 => (if t600 = true then (impl_StillIn.l0 k x1 x5 x9 x10 (wrap64 (x11 + 1))) else (if x5.length < 17592186044416 then (impl_StillIn.l0 k x1 (x5 ++ [rd x9 x11]) x9 x10 (wrap64 (x11 + 1))) else (none)))) else (none)) else (none)) else (some x5)
def impl_StillIn.f (k : Nat) (l0 : List Int) (l1 : List Int) : Option (List Int) := impl_StillIn.l0 k l1 (([] : List Int)) l0 (l0.length : Int) 0
set_option maxHeartbeats 8000000 in
set_option maxRecDepth 100000 in
theorem impl_StillIn.calls (k : Nat) (A0 : Option Addr) (c0 : Nat) (l0 : List Int) (A1 : Option Addr) (c1 : Nat) (l1 : List Int) (r : List Int) (w : World) (hr0 : Kd.C (Kd.int .i64) w A0 l0.length l0) (hc0 : l0.length ≤ c0) (hr1 : Kd.C (Kd.int .i64) w A1 l1.length l1) (hc1 : l1.length ≤ c1) (h : impl_StillIn.f k l0 l1 = some r) :
  Calls Try.prog 14 #[.slice A0 l0.length c0,.slice A1 l1.length c1] w fun e w' => ∃ v0_ : Value,e = .returned (v0_) ∧ Kd.R (Kd.int .i64) 3 w' w.heap.size (fun _ => True) v0_ r ∧ Below w.heap.size w w':=by
 have HR0:=am hr0;have HC0:=am hc0;clear hr0 hc0;have HR1:=am hr1;have HC1:=am hc1;clear hr1 hc1;have HB:=am qq354;have H : (impl_StillIn.l0 k l1 (([] : List Int)) l0 (l0.length : Int) 0) = some r:=h;clear h;obtain ⟨y596,hy596⟩ : ∃ y_ : List Int,y_ = (([] : List Int)):=⟨_,rfl⟩
 replace H : (impl_StillIn.l0 k l1 y596 l0 (l0.length : Int) 0) = some r:=by first | (rw [hy596];with_reducible exact H) | (have H2_:=(Option.bind_some _ _).symm.trans H;rw [hy596];with_reducible exact H2_) | (have H2_:=(Option.bind_some _ _).symm.trans H;with_reducible exact H2_) | with_reducible exact H | (rw [hy596];exact H) | exact H
 have Ny596:=am hy596;clear hy596;have H':=am H;clear H
 go_enter Try.func14,Try.ntmps14
 go_wp2_with (first | ((with_reducible refine gate_dst (N:=8) rfl ?_);refine Kd.R_lit (Kd.int .i64) _ 3 ?hg (N:=8) ?hd (xs:=([] : List Int)) (inner:=[]) (ok:=fun _ => True) (okp:=fun _ => True) ?hr ?hp (fun _ hk => hk) trivial (Below.refl _ _) (Nat.le_refl _) (by simp) ?_;(case hd => rfl);(case hg => rfl);(case hr => exact qq261);(case hp => exact qq274);intro v597 w3 ho4 hb hg_ hnew_;clear hg_ hnew_;(first | rw [← Ny596.out] at ho4 | (simp only [Int.reduceToNat] at ho4;rw [← Ny596.out] at ho4));have HO598:=am (Kd.R_lower ho4 (below_size qq176));replace HB:=am qq358;clear hb ho4))
 go_loopg [5,11] k (fun kq v5 v11 w' => ∃ (x5_1 : List Int) (x11_1 : Int),v11 = .int .i64 x11_1 ∧ Aside0 (impl_StillIn.l0 kq l1 x5_1 l0 (l0.length : Int) x11_1 = some r) ∧ Aside0 (kq ≤ k) ∧ Aside0 (Kd.R (Kd.int .i64) 3 w' w.heap.size (fun _ => True) v5 x5_1) ∧ Aside0 (Below w.heap.size w w'))
 case atStart => exact ⟨(y596),(0),qq260,H',⟨Nat.le_refl _⟩,⟨by (with_reducible repeat (first | apply kA | apply kN | apply kD));exact HO598.out⟩,⟨qq176⟩⟩
 case round =>
  clear H'
  try clear c1
  try clear p2
  obtain ⟨x5_1,x11_1,rfl,HA,HK1,HO_5,HB⟩:=hrel
  cases gk with
  | zero => exact absurd HA.out (by simp [impl_StillIn.l0])
  | succ k1 =>
   have H:=HA.out;clear HA;simp only [impl_StillIn.l0] at H
   by_cases c5 : x11_1 < (l0.length : Int)
   ·rw [if_pos c5] at H;have c5b0 : decide (x11_1 < (l0.length : Int)) = true:=decide_eq_true c5;clear c5
    by_cases c6 : 0 ≤ x11_1
    ·rw [if_pos c6] at H;have c6b0 : decide (0 ≤ x11_1) = true:=decide_eq_true c6;clear c6
     by_cases c7 : x11_1 < (l0.length : Int)
     ·rw [if_pos c7] at H;have c7b0 : decide (x11_1 < (l0.length : Int)) = true:=decide_eq_true c7;clear c7;replace H:=bS.mp H;obtain ⟨t600,A80,H⟩:=H;replace H : (if t600 = true then (impl_StillIn.l0 k1 l1 x5_1 l0 (l0.length : Int) (wrap64 (x11_1 + 1))) else (if x5_1.length < 17592186044416 then (impl_StillIn.l0 k1 l1 (x5_1 ++ [rd l0 x11_1]) l0 (l0.length : Int) (wrap64 (x11_1 + 1))) else (none))) = some r:=H;have A8:=am A80;clear A80
      by_cases c9 : t600 = true
      ·subst c9;have H1 : (impl_StillIn.l0 k1 l1 x5_1 l0 (l0.length : Int) (wrap64 (x11_1 + 1))) = some r:=by rw [if_pos rfl] at H;exact H
       clear H;have H:=H1;clear H1;have H':=am H;clear H;have p599 : 0 ≤ (x11_1 : Int):=odt qq258;have q599 : x11_1 < (l0.length : Int):=odt qq258;obtain ⟨ad599,e599,hx599_0⟩:=Kd.at_int HR0.out x11_1 p599 q599
       cases e599
       replace hx599_0:=(ct HB.out hx599_0 :)
       replace p599:=eq_true p599;replace q599:=eq_true q599;go_wp2_with (first | ((with_reducible refine gate_callee (f:=28) rfl ?_);refine goesL_ (some 17) rfl rfl Try.func28 (by kernel_rfl) rfl #[.slice A1 l1.length c1,.int .i64 (rd l0 x11_1)] rfl qq139 ?_;(with_reducible refine (impl_has.calls k1 _ _ l1 (rd l0 x11_1) true _ ?side1 ?side2 A8.out).mono ?_);(case side1 => exact qq94);(case side2 => exact HC1.out);rintro e w' ⟨rfl,⟨nd,rfl⟩⟩;refine ⟨_,rfl,?_⟩))
       go_roundg k1
       case measure => have:=HK1.out;omega
       case rel => exact ⟨(x5_1),(wrap64 (x11_1 + 1)),qq260,H',⟨qq275⟩,⟨qq251⟩,⟨qq176⟩⟩
      ·replace c9:=Bool.eq_false_iff.mpr c9;subst c9;have H1 : (if x5_1.length < 17592186044416 then (impl_StillIn.l0 k1 l1 (x5_1 ++ [rd l0 x11_1]) l0 (l0.length : Int) (wrap64 (x11_1 + 1))) else (none)) = some r:=by rw [if_neg (show ¬ (false = true) by decide)] at H;exact H
       clear H;have H:=H1;clear H1
       by_cases c10 : x5_1.length < 17592186044416
       ·rw [if_pos c10] at H;have LMc10:=am c10;clear c10;obtain ⟨y601,hy601⟩ : ∃ y_ : List Int,y_ = (x5_1 ++ [rd l0 x11_1]):=⟨_,rfl⟩
        replace H : (impl_StillIn.l0 k1 l1 y601 l0 (l0.length : Int) (wrap64 (x11_1 + 1))) = some r:=by first | (rw [hy601];with_reducible exact H) | (have H2_:=(Option.bind_some _ _).symm.trans H;rw [hy601];with_reducible exact H2_) | (have H2_:=(Option.bind_some _ _).symm.trans H;with_reducible exact H2_) | with_reducible exact H | (rw [hy601];exact H) | exact H
        have Ny601:=am hy601;clear hy601;have H':=am H;clear H;have p599 : 0 ≤ (x11_1 : Int):=odt qq258;have q599 : x11_1 < (l0.length : Int):=odt qq258;obtain ⟨ad599,e599,hx599_0⟩:=Kd.at_int HR0.out x11_1 p599 q599
        cases e599
        replace hx599_0:=(ct HB.out hx599_0 :)
        replace p599:=eq_true p599;replace q599:=eq_true q599;go_wp2_with (first | ((with_reducible refine gate_callee (f:=28) rfl ?_);refine goesL_ (some 17) rfl rfl Try.func28 (by kernel_rfl) rfl #[.slice A1 l1.length c1,.int .i64 (rd l0 x11_1)] rfl qq139 ?_;(with_reducible refine (impl_has.calls k1 _ _ l1 (rd l0 x11_1) false _ ?side1 ?side2 A8.out).mono ?_);(case side1 => exact qq94);(case side2 => exact HC1.out);rintro e w' ⟨rfl,⟨nd,rfl⟩⟩;refine ⟨_,rfl,?_⟩) | ((with_reducible refine gate_builtin (b:=.append) (xs:=#[.tmp 19,.tmp 21]) rfl ?_);at_builtin;refine Kd.R_append (Kd.int .i64) (w0:=w) w.heap.size rfl (.tmp 19) (.tmp 21) 24 3 (.int .i64 0) 8 rfl Try.underlying24 info3 rfl (by decide) (by omega) u5 x5_1 (rd l0 x11_1) [.int .i64 (rd l0 x11_1)] (fun _ => True) (fun _ => False) rfl rfl ?aP (fun _ hk => hk.elim) ?aF ?aO ?aB ?aS ?aL ?_;(case aP => exact rfl);(case aB => exact qq155);(case aF => exact qq272);(case aO => exact qq220);(case aS => exact qq146);(case aL => have:=LMc10.out;omega);intro v602 w11 ho hb hg hat;rw [← Ny601.out] at ho;replace HB:=am (hb);have HO603:=am (ho);clear HO_5;clear ho hb hg hat))
        go_roundg k1
        case measure => have:=HK1.out;omega
        case rel => exact ⟨(y601),(wrap64 (x11_1 + 1)),qq260,H',⟨qq275⟩,⟨by (with_reducible repeat (first | apply kA | apply kN | apply kD));exact HO603.out⟩,⟨qq176⟩⟩
       ·rw [if_neg c10] at H;exact absurd H (by simp)
     ·rw [if_neg c7] at H;exact absurd H (by simp)
    ·rw [if_neg c6] at H;exact absurd H (by simp)
   ·rw [if_neg c5] at H;have c5b0 : decide (x11_1 < (l0.length : Int)) = false:=decide_eq_false c5;clear c5;obtain rfl:=Option.some.inj H;go_wp2
    go_ret
    exact ⟨_,qq216,qq251,qq176⟩

end Go.Proofs.Ytimpjccgnkbgmaa.PFnSearch
