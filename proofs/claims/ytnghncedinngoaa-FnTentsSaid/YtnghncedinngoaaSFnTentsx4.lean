/- Contracts of functions that the law FnTents reaches, for its row: lines that the kit's printer wrote for this claim, set shorter by a program of this session (own.py), and what fell in Lean proved anew. Lean checks them. -/
import Derived.Test.YtnghncedinngoaaSFnTentsx0
import Derived.Test.YtnghncedinngoaaSFnTentsx1
import Derived.Test.YtnghncedinngoaaSFnTentsx2
import Derived.Test.YtnghncedinngoaaSFnTentsx3
namespace Go.Proofs.Ytnghncedinngoaa.PFnTents
open Go.RowKit Go.Proofs.YtnghncedinngoaaW.PrintWords Go.Proofs.YtnghncedinngoaaW.PrintLast Go.Proofs.YtnghncedinngoaaW.PrintMore
attribute [local go_sem] max2_int min2_int max_two min_two max_three min_three max_four min_four   -- for this text's walks alone
set_option linter.unusedVariables false
set_option linter.unusedSimpArgs false

abbrev m0_4 : Array Bool := #[Z,Z,Z,Z,Z,Z,Z,Z,Z,Z,Z,Z,Z,Z,Z,Z,Z,Z,Z,Z,Z]
abbrev m1_4 : Array Bool := #[Y,Z,Z,Z,Z,Z,Z,Z,Z,Z,Z,Z,Z,Z,Z,Z,Z,Z,Z,Z,Z]
abbrev m2_4 : Array Bool := #[Y,Y,Z,Z,Z,Z,Z,Z,Z,Z,Z,Z,Z,Z,Z,Z,Z,Z,Z,Z,Z]
abbrev m3_4 : Array Bool := #[Y,Y,Y,Z,Z,Z,Z,Z,Z,Z,Z,Z,Z,Z,Z,Z,Z,Z,Z,Z,Z]
abbrev m4_4 : Array Bool := #[Y,Y,Y,Y,Z,Z,Z,Z,Z,Z,Z,Z,Z,Z,Z,Z,Z,Z,Z,Z,Z]
abbrev m5_4 : Array Bool := #[Y,Y,Y,Y,Y,Y,Z,Z,Z,Z,Z,Z,Z,Z,Z,Z,Z,Z,Z,Z,Z]
abbrev m6_4 : Array Bool := #[Y,Y,Y,Y,Y,Y,Y,Y,Y,Y,Y,Y,Y,Y,Y,Y,Y,Y,Z,Z,Z]
abbrev m7_4 : Array Bool := #[Y,Y,Y,Y,Y,Y,Y,Y,Y,Y,Y,Y,Y,Y,Y,Y,Y,Y,Y,Z,Z]
abbrev m8_4 : Array Bool := #[Y,Y,Y,Y,Y,Y,Y,Y,Y,Y,Y,Y,Y,Y,Y,Y,Y,Y,Y,Y,Z]
abbrev m9_4 : Array Bool := #[Y,Y,Y,Y,Y,Y,Y,Y,Y,Y,Y,Y,Y,Y,Y,Y,Y,Y,Y,Y,Y]
abbrev m10_4 : Array Bool := #[Y,Y,Y,Y,Z,Y,Z,Z,Z,Z,Z,Z,Z,Z,Z,Z,Z,Z,Z,Z,Z]
abbrev m11_4 : Array Bool := #[Y,Y,Y,Y,Y,Y,Y,Z,Z,Z,Z,Z,Z,Z,Z,Z,Z,Z,Z,Z,Z]
abbrev m12_4 : Array Bool := #[Y,Y,Y,Y,Y,Y,Y,Y,Z,Z,Z,Z,Z,Z,Z,Z,Z,Z,Z,Z,Z]
abbrev m13_4 : Array Bool := #[Y,Y,Y,Y,Y,Y,Y,Y,Y,Z,Z,Z,Z,Z,Z,Z,Z,Z,Z,Z,Z]
abbrev m14_4 : Array Bool := #[Y,Y,Y,Y,Y,Y,Y,Y,Y,Y,Z,Z,Z,Z,Z,Z,Z,Z,Z,Z,Z]
abbrev m15_4 : Array Bool := #[Y,Y,Y,Y,Y,Y,Y,Y,Y,Y,Y,Z,Z,Z,Z,Z,Z,Z,Z,Z,Z]
abbrev m16_4 : Array Bool := #[Y,Y,Y,Y,Y,Y,Y,Y,Y,Y,Y,Y,Z,Z,Z,Z,Z,Z,Z,Z,Z]
/-! ### impl_MoveTo: function 9 -/
mutual
def impl_MoveTo.j0 : Nat → List (S45) → Int → Int → List (S45) → Int → Bool → Option ((List (S45)) × Bool)
 | 0,_,_,_,_,_,_ => none
 | k + 1,x0,x1,x2,x8,x9,x29 => if x29 = true then (some (x8,false)) else (impl_MoveTo.l0 k x0 x1 x2 x8 x9 (x8.length : Int) 0)
def impl_MoveTo.l0 : Nat → List (S45) → Int → Int → List (S45) → Int → Int → Int → Option ((List (S45)) × Bool)
 | 0,_,_,_,_,_,_,_ => none
 | k + 1,x0,x1,x2,x8,x9,x32,x33 => if x33 < x32 then (if 0 ≤ x33 then (if x33 < (x8.length : Int) then (if ((rd_T45 x8 x33).f0) = x9 then ((impl_placeOf.f k ((rd_T45 x8 x33).f2) x1).bind fun t144 => (if 0 ≤ t144 then (if t144 ≤ (((rd_T45 x8 x33).f2).length : Int) then (if 0 ≤ (wrap64 (t144 + 1)) then (if (wrap64 (t144 + 1)) ≤ (((rd_T45 x8 x33).f2).length : Int) then (impl_MoveTo.l0 k x0 x1 x2 (x8.set (x33 : Int).toNat (⟨(rd_T45 x8 x33).f0,(rd_T45 x8 x33).f1,(((rd_T45 x8 x33).f2).eraseIdx (t144 : Int).toNat)⟩ : S45)) x9 x32 (wrap64 (x33 + 1))) else (none)) else (none)) else (none)) else (none))) else (impl_MoveTo.l0 k x0 x1 x2 x8 x9 x32 (wrap64 (x33 + 1)))) else (none)) else (none)) else (impl_MoveTo.l1 k x0 x1 x2 x8 (x8.length : Int) 0)
def impl_MoveTo.l1 : Nat → List (S45) → Int → Int → List (S45) → Int → Int → Option ((List (S45)) × Bool)
 | 0,_,_,_,_,_,_ => none
 | k + 1,x0,x1,x2,x8,x72,x73 => if x73 < x72 then (if 0 ≤ x73 then (if x73 < (x8.length : Int) then (if ((rd_T45 x8 x73).f0) = x2 then (if (((rd_T45 x8 x73).f2).length : Int) < ((rd_T45 x8 x73).f1) then (if ((rd_T45 x8 x73).f2).length < 17592186044416 then (some ((x8.set (x73 : Int).toNat (⟨(rd_T45 x8 x73).f0,(rd_T45 x8 x73).f1,(((rd_T45 x8 x73).f2) ++ [x1])⟩ : S45)),true)) else (none)) else (impl_MoveTo.l1 k x0 x1 x2 x8 x72 (wrap64 (x73 + 1)))) else (impl_MoveTo.l1 k x0 x1 x2 x8 x72 (wrap64 (x73 + 1)))) else (none)) else (none)) else ((impl_copyTents.f k x0).bind fun t167 => (some (t167,false)))
end
def impl_MoveTo.f (k : Nat) (l0 : List (S45)) (a1 : Int) (a2 : Int) : Option ((List (S45)) × Bool) := (impl_copyTents.f k l0).bind fun t137 => ((impl_TentOf.f k l0 a1).bind fun t140 => ((impl_AreTents.f k l0).bind fun t141 => (if t141 = true then (if t140 = 0 then (impl_MoveTo.j0 k l0 a1 a2 t137 t140 true) else (impl_MoveTo.j0 k l0 a1 a2 t137 t140 (t140 == a2))) else (impl_MoveTo.j0 k l0 a1 a2 t137 t140 true))))
theorem impl_MoveTo.mono_l : ∀ k, (∀ y0 y1 y2 y3 y4 y5, LeO (impl_MoveTo.j0 k y0 y1 y2 y3 y4 y5) (impl_MoveTo.j0 (k + 1) y0 y1 y2 y3 y4 y5)) ∧ (∀ y0 y1 y2 y3 y4 y5 y6, LeO (impl_MoveTo.l0 k y0 y1 y2 y3 y4 y5 y6) (impl_MoveTo.l0 (k + 1) y0 y1 y2 y3 y4 y5 y6)) ∧ (∀ y0 y1 y2 y3 y4 y5, LeO (impl_MoveTo.l1 k y0 y1 y2 y3 y4 y5) (impl_MoveTo.l1 (k + 1) y0 y1 y2 y3 y4 y5))
 | 0 => ⟨fun _ _ _ _ _ _ r h => by simp [impl_MoveTo.j0] at h,fun _ _ _ _ _ _ _ r h => by simp [impl_MoveTo.l0] at h,fun _ _ _ _ _ _ r h => by simp [impl_MoveTo.l1] at h⟩
 | k + 1 => by
  obtain ⟨ih0,ih1,ih2⟩:=impl_MoveTo.mono_l k
  refine ⟨?_,?_,?_⟩
  ·intro y0 y1 y2 y3 y4 y5
   unfold impl_MoveTo.j0
   repeat' first
   | (with_reducible exact ih0 _ _ _ _ _ _)
   | (with_reducible exact ih1 _ _ _ _ _ _ _)
   | (with_reducible exact ih2 _ _ _ _ _ _)
   | (with_reducible exact impl_AreTents.mono _ _)
   | (with_reducible exact impl_TentOf.mono _ _ _)
   | (with_reducible exact impl_copyTents.mono _ _)
   | (with_reducible exact impl_placeOf.mono _ _ _)
   | (with_reducible exact LeO.refl _)
   | (with_reducible exact LeO.none _)
   | (with_reducible refine LeO.ite ?_ ?_)
   | (with_reducible refine LeO.bind ?_ (fun _ => ?_))
   | exact ih0 _ _ _ _ _ _
   | exact ih1 _ _ _ _ _ _ _
   | exact ih2 _ _ _ _ _ _
   | exact impl_AreTents.mono _ _
   | exact impl_TentOf.mono _ _ _
   | exact impl_copyTents.mono _ _
   | exact impl_placeOf.mono _ _ _
   | exact LeO.none _
   | refine LeO.ite ?_ ?_
   | refine LeO.bind ?_ (fun _ => ?_)
  ·intro y0 y1 y2 y3 y4 y5 y6
   unfold impl_MoveTo.l0
   repeat' first
   | (with_reducible exact ih0 _ _ _ _ _ _)
   | (with_reducible exact ih1 _ _ _ _ _ _ _)
   | (with_reducible exact ih2 _ _ _ _ _ _)
   | (with_reducible exact impl_AreTents.mono _ _)
   | (with_reducible exact impl_TentOf.mono _ _ _)
   | (with_reducible exact impl_copyTents.mono _ _)
   | (with_reducible exact impl_placeOf.mono _ _ _)
   | (with_reducible exact LeO.refl _)
   | (with_reducible exact LeO.none _)
   | (with_reducible refine LeO.ite ?_ ?_)
   | (with_reducible refine LeO.bind ?_ (fun _ => ?_))
   | exact ih0 _ _ _ _ _ _
   | exact ih1 _ _ _ _ _ _ _
   | exact ih2 _ _ _ _ _ _
   | exact impl_AreTents.mono _ _
   | exact impl_TentOf.mono _ _ _
   | exact impl_copyTents.mono _ _
   | exact impl_placeOf.mono _ _ _
   | exact LeO.none _
   | refine LeO.ite ?_ ?_
   | refine LeO.bind ?_ (fun _ => ?_)
  ·intro y0 y1 y2 y3 y4 y5
   unfold impl_MoveTo.l1
   repeat' first
   | (with_reducible exact ih0 _ _ _ _ _ _)
   | (with_reducible exact ih1 _ _ _ _ _ _ _)
   | (with_reducible exact ih2 _ _ _ _ _ _)
   | (with_reducible exact impl_AreTents.mono _ _)
   | (with_reducible exact impl_TentOf.mono _ _ _)
   | (with_reducible exact impl_copyTents.mono _ _)
   | (with_reducible exact impl_placeOf.mono _ _ _)
   | (with_reducible exact LeO.refl _)
   | (with_reducible exact LeO.none _)
   | (with_reducible refine LeO.ite ?_ ?_)
   | (with_reducible refine LeO.bind ?_ (fun _ => ?_))
   | exact ih0 _ _ _ _ _ _
   | exact ih1 _ _ _ _ _ _ _
   | exact ih2 _ _ _ _ _ _
   | exact impl_AreTents.mono _ _
   | exact impl_TentOf.mono _ _ _
   | exact impl_copyTents.mono _ _
   | exact impl_placeOf.mono _ _ _
   | exact LeO.none _
   | refine LeO.ite ?_ ?_
   | refine LeO.bind ?_ (fun _ => ?_)
theorem impl_MoveTo.mono : ∀ a0 a1 a2 k, LeO (impl_MoveTo.f k a0 a1 a2) (impl_MoveTo.f (k + 1) a0 a1 a2) := by
 intro a0 a1 a2 k
 obtain ⟨ih0,ih1,ih2⟩:=impl_MoveTo.mono_l k
 unfold impl_MoveTo.f
 repeat' first
   | (with_reducible exact ih0 _ _ _ _ _ _)
   | (with_reducible exact ih1 _ _ _ _ _ _ _)
   | (with_reducible exact ih2 _ _ _ _ _ _)
   | (with_reducible exact impl_AreTents.mono _ _)
   | (with_reducible exact impl_TentOf.mono _ _ _)
   | (with_reducible exact impl_copyTents.mono _ _)
   | (with_reducible exact impl_placeOf.mono _ _ _)
   | (with_reducible exact LeO.refl _)
   | (with_reducible exact LeO.none _)
   | (with_reducible refine LeO.ite ?_ ?_)
   | (with_reducible refine LeO.bind ?_ (fun _ => ?_))
   | exact ih0 _ _ _ _ _ _
   | exact ih1 _ _ _ _ _ _ _
   | exact ih2 _ _ _ _ _ _
   | exact impl_AreTents.mono _ _
   | exact impl_TentOf.mono _ _ _
   | exact impl_copyTents.mono _ _
   | exact impl_placeOf.mono _ _ _
   | exact LeO.none _
   | refine LeO.ite ?_ ?_
   | refine LeO.bind ?_ (fun _ => ?_)
def impl_MoveTo.T9 : Bool × List (List Nat × List Nat) := (true, [([], []), ([], []), ([], []), ([], []), ([2, 3], [2, 3]), ([4], [4]), ([5], [5]), ([], []), ([6, 7], [6, 7]), ([], []), ([], []), ([9, 10], [9, 10]), ([11], [11]), ([12], [12]), ([], []), ([14], [14]), ([13, 15], [13, 15]), ([8, 16], [8, 16]), ([0, 1, 0, 1, 2, 3, 4, 5, 6, 7, 8, 9, 10, 11, 12, 13, 14, 15, 16, 17], [0, 1]), ([18, 0, 1, 2, 3, 4, 5, 6, 7, 8, 9, 10, 11, 12, 13, 14, 15, 16, 17], [18]), ([19, 17, 17, 0, 1, 2, 3, 4, 5, 6, 7, 8, 9, 10, 11, 12, 13, 14, 15, 16, 17], [17, 19])])
def impl_MoveTo.B9 : List Nat := [0, 0, 0, 0, 12, 28, 60, 0, 252, 0, 0, 1536, 3584, 7680, 0, 16384, 65024, 131068, 262143, 524287, 1048575]
theorem impl_MoveTo.tab9 : rtab .any (opsOf Try.f9 9) = impl_MoveTo.T9 := by kernel_rfl
theorem impl_MoveTo.bits9 : waitsOk impl_MoveTo.T9.2 impl_MoveTo.B9 = true := by kernel_rfl
def impl_MoveTo.T14 : Bool × List (List Nat × List Nat) := (true, [([], []), ([], []), ([0, 1], [0, 1]), ([2], [2]), ([3], [3]), ([], []), ([4, 5], [4, 5]), ([6], [6]), ([7], [7]), ([7], [7]), ([8, 9, 7], [7, 8, 9]), ([10, 7], [7, 10]), ([11, 7], [7, 11]), ([12, 7], [7, 12]), ([7], [7]), ([7], [7]), ([14, 15, 7], [7, 14, 15]), ([16, 7], [7, 16]), ([17, 7], [7, 17]), ([13, 18, 7], [7, 13, 18]), ([7, 19], [7, 19])])
def impl_MoveTo.B14 : List Nat := [0, 0, 3, 7, 15, 0, 63, 127, 255, 255, 1023, 2047, 4095, 8191, 255, 255, 49407, 114943, 246015, 524287, 1048575]
theorem impl_MoveTo.tab14 : rtab .any (opsOf Try.f9 14) = impl_MoveTo.T14 := by kernel_rfl
theorem impl_MoveTo.bits14 : waitsOk impl_MoveTo.T14.2 impl_MoveTo.B14 = true := by kernel_rfl
set_option maxHeartbeats 8000000 in
set_option maxRecDepth 100000 in
theorem impl_MoveTo.calls (k : Nat) (A0 : Option Addr) (c0 : Nat) (l0 : List (S45)) (a1 : Int) (a2 : Int) (r1 : List (S45)) (r2 : Bool) (w : World) (hr0 : Kd.C k45 w A0 l0.length l0) (hc0 : l0.length ≤ c0) (h : impl_MoveTo.f k l0 a1 a2 = some (r1, r2)) :
  Calls Try.prog 9 #[.slice A0 l0.length c0,.int .i64 a1,.int .i64 a2] w fun e w' => ∃ v0_ : Value,e = .returned (.tuple #[v0_,.bool r2]) ∧ Kd.S k45 45 w' w.heap.size (fun _ => True) v0_ r1 ∧ Below w.heap.size w w':=by
 have HR0:=am hr0;have HC0:=am hc0;clear hr0 hc0;have HB:=am qq135;have H : ((impl_copyTents.f k l0).bind fun t137 => ((impl_TentOf.f k l0 a1).bind fun t140 => ((impl_AreTents.f k l0).bind fun t141 => (if t141 = true then (if t140 = 0 then (impl_MoveTo.j0 k l0 a1 a2 t137 t140 true) else (impl_MoveTo.j0 k l0 a1 a2 t137 t140 (t140 == a2))) else (impl_MoveTo.j0 k l0 a1 a2 t137 t140 true))))) = some (r1,r2):=h;clear h;replace H:=bS.mp H;obtain ⟨t137,A40,H⟩:=H;replace H : ((impl_TentOf.f k l0 a1).bind fun t140 => ((impl_AreTents.f k l0).bind fun t141 => (if t141 = true then (if t140 = 0 then (impl_MoveTo.j0 k l0 a1 a2 t137 t140 true) else (impl_MoveTo.j0 k l0 a1 a2 t137 t140 (t140 == a2))) else (impl_MoveTo.j0 k l0 a1 a2 t137 t140 true)))) = some (r1,r2):=H;have A4:=am A40;clear A40;replace H:=bS.mp H;obtain ⟨t140,A50,H⟩:=H;replace H : ((impl_AreTents.f k l0).bind fun t141 => (if t141 = true then (if t140 = 0 then (impl_MoveTo.j0 k l0 a1 a2 t137 t140 true) else (impl_MoveTo.j0 k l0 a1 a2 t137 t140 (t140 == a2))) else (impl_MoveTo.j0 k l0 a1 a2 t137 t140 true))) = some (r1,r2):=H;have A5:=am A50;clear A50;have HC6:=am H;clear H
 go_enter Try.func9,Try.ntmps9
 go_upto_region 2 with (first | ((with_reducible refine gate_callee (f:=30) rfl ?_);refine goesL_ (some 14) rfl rfl Try.func30 (by kernel_rfl) rfl #[.slice A0 l0.length c0] rfl qq50 ?_;(with_reducible refine (impl_copyTents.calls k _ _ l0 t137 _ ?side1 ?side2 A4.out).mono ?_);(case side1 => exact qq51);(case side2 => exact HC0.out);rintro e w7 ⟨v138,rfl,ho0,hb⟩;refine ⟨_,rfl,?_⟩;have HO139:=am qq131;replace HB:=am qq138;(try clear hb);(try clear hb2);(try clear hk);(try clear hi);(try clear ho0)) | ((with_reducible refine gate_callee (f:=23) rfl ?_);refine goesL_ (some 17) rfl rfl Try.func23 (by kernel_rfl) rfl #[.slice A0 l0.length c0,.int .i64 a1] rfl qq50 ?_;(with_reducible refine (impl_TentOf.calls k _ _ l0 a1 t140 _ ?side1 ?side2 A5.out).mono ?_);(case side1 => exact qq29);(case side2 => exact HC0.out);rintro e w8 ⟨rfl,hb⟩;refine ⟨_,rfl,?_⟩;replace HO139:=am (Kd.S_below qq72 hb);replace HB:=am qq138;(try clear hb);(try clear hb2);(try clear hk);(try clear hi)))
 (try simp only [Act.put,sA,s0,s1])
 go_cut [29] (fun v29 wc => ∃ (kq : Nat) (x29_5 : Bool),v29 = .bool x29_5 ∧ Aside0 (impl_MoveTo.j0 kq l0 a1 a2 t137 t140 x29_5 = some (r1,r2)) ∧ Aside0 (kq ≤ k) ∧ Aside0 (Kd.S k45 45 wc w.heap.size (fun _ => True) v138 t137) ∧ Aside0 (Below w.heap.size w wc))
 case first =>
  have H:=HC6.out;clear HC6;replace H:=bS.mp H;obtain ⟨t141,A90,H⟩:=H;replace H : (if t141 = true then (if t140 = 0 then (impl_MoveTo.j0 k l0 a1 a2 t137 t140 true) else (impl_MoveTo.j0 k l0 a1 a2 t137 t140 (t140 == a2))) else (impl_MoveTo.j0 k l0 a1 a2 t137 t140 true)) = some (r1,r2):=H;have A9:=am A90;clear A90
  by_cases c10 : t141 = true
  ·subst c10;have H1 : (if t140 = 0 then (impl_MoveTo.j0 k l0 a1 a2 t137 t140 true) else (impl_MoveTo.j0 k l0 a1 a2 t137 t140 (t140 == a2))) = some (r1,r2):=by rw [if_pos rfl] at H;exact H
   clear H;have H:=H1;clear H1
   by_cases c11 : t140 = 0
   ·rw [if_pos c11] at H;have c11b0 : (t140 == 0) = true:=beq_iff_eq.mpr c11;have c11b1 : (t140 != 0) = false:=bne_eq_false_iff_eq.mpr c11;clear c11;(first | rw [c11b0] | (simp only [i64_w,i32_w];rw [c11b0]) | skip);have H':=am H;clear H;go_wp2_with (first | ((with_reducible refine gate_callee (f:=21) rfl ?_);refine goesL_ (some 19) rfl rfl Try.func21 (by kernel_rfl) rfl #[.slice A0 l0.length c0] rfl qq50 ?_;(with_reducible refine (impl_AreTents.calls k _ _ l0 true _ ?side1 ?side2 A9.out).mono ?_);(case side1 => exact qq29);(case side2 => exact HC0.out);rintro e w12 ⟨rfl,hb⟩;refine ⟨_,rfl,?_⟩;replace HO139:=am (Kd.S_below qq72 hb);replace HB:=am qq138;(try clear hb);(try clear hb2);(try clear hk);(try clear hi)))
    go_meet
    case rel => exact ⟨_,(true),qq95,H',⟨qq98⟩,⟨qq72⟩,⟨qq73⟩⟩
   ·rw [if_neg c11] at H;have c11b0 : (t140 == 0) = false:=beq_eq_false_iff_ne.mpr c11;have c11b1 : (t140 != 0) = true:=bne_iff_ne.mpr c11;(first | rw [c11b0] | (simp only [i64_w,i32_w];rw [c11b0]) | skip);have H':=am H;clear H;go_wp2_with (first | ((with_reducible refine gate_callee (f:=21) rfl ?_);refine goesL_ (some 19) rfl rfl Try.func21 (by kernel_rfl) rfl #[.slice A0 l0.length c0] rfl qq50 ?_;(with_reducible refine (impl_AreTents.calls k _ _ l0 true _ ?side1 ?side2 A9.out).mono ?_);(case side1 => exact qq29);(case side2 => exact HC0.out);rintro e w13 ⟨rfl,hb⟩;refine ⟨_,rfl,?_⟩;replace HO139:=am (Kd.S_below qq72 hb);replace HB:=am qq138;(try clear hb);(try clear hb2);(try clear hk);(try clear hi)))
    go_meet
    case rel => exact ⟨_,((t140 == a2)),qq95,H',⟨qq98⟩,⟨qq72⟩,⟨qq73⟩⟩
  ·replace c10:=Bool.eq_false_iff.mpr c10;subst c10;have H1 : (impl_MoveTo.j0 k l0 a1 a2 t137 t140 true) = some (r1,r2):=by rw [if_neg (show ¬ (false = true) by decide)] at H;exact H
   clear H;have H:=H1;clear H1;have H':=am H;clear H;go_wp2_with (first | ((with_reducible refine gate_callee (f:=21) rfl ?_);refine goesL_ (some 19) rfl rfl Try.func21 (by kernel_rfl) rfl #[.slice A0 l0.length c0] rfl qq50 ?_;(with_reducible refine (impl_AreTents.calls k _ _ l0 false _ ?side1 ?side2 A9.out).mono ?_);(case side1 => exact qq29);(case side2 => exact HC0.out);rintro e w14 ⟨rfl,hb⟩;refine ⟨_,rfl,?_⟩;replace HO139:=am (Kd.S_below qq72 hb);replace HB:=am qq138;(try clear hb);(try clear hb2);(try clear hk);(try clear hi)))
   go_meet
   case rel => exact ⟨_,(true),qq95,H',⟨qq98⟩,⟨qq72⟩,⟨qq73⟩⟩
 case rest =>
  clear HC6
  try clear c1
  try clear c2
  try clear p2
  try clear c3
  try clear c9
  try clear c10
  try clear c11
  try clear c11b0
  try clear c11b1
  obtain ⟨kq,x29_5,rfl,HA,HJ5,HO_8,HB⟩:=hcut
  cases kq with
  | zero => exact absurd HA.out (by simp [impl_MoveTo.j0])
  | succ kj5 =>
   have H:=HA.out;clear HA;simp only [impl_MoveTo.j0] at H
   by_cases c15 : x29_5 = true
   ·subst c15;have H1 : (some (t137,false)) = some (r1,r2):=by rw [if_pos rfl] at H;exact H
    clear H;have H:=H1;clear H1;simp only [Option.some.injEq,Prod.mk.injEq] at H;obtain ⟨rfl,rfl⟩:=H;go_wp2
    go_ret2
    exact ⟨_,qq81,qq74,qq73⟩
   ·replace c15:=Bool.eq_false_iff.mpr c15;subst c15;have H1 : (impl_MoveTo.l0 kj5 l0 a1 a2 t137 t140 (t137.length : Int) 0) = some (r1,r2):=by rw [if_neg (show ¬ (false = true) by decide)] at H;exact H
    clear H;have H:=H1;clear H1;have H':=am H;clear H;obtain ⟨Ao16,co16,eo16⟩:=Kd.S_slice HO_8.out;subst eo16;go_wp2
    go_loopg [33] kj5 (fun kq v33 w' => ∃ (x8_2 : List (S45)) (x33_2 : Int),v33 = .int .i64 x33_2 ∧ Aside0 (impl_MoveTo.l0 kq l0 a1 a2 x8_2 t140 (t137.length : Int) x33_2 = some (r1,r2)) ∧ Aside0 (kq ≤ kj5) ∧ Aside0 (Kd.S k45 45 w' w.heap.size (fun _ => True) (.slice Ao16 t137.length co16) x8_2) ∧ Aside0 (Below w.heap.size w w'))
    case atStart => exact ⟨(t137),(0),qq95,H',⟨Nat.le_refl _⟩,⟨qq74⟩,⟨qq73⟩⟩
    case round =>
     clear H'
     try clear c1
     try clear c2
     try clear p2
     try clear c3
     try clear c9
     try clear c10
     try clear c11
     try clear c11b0
     try clear c11b1
     try clear c15
     try clear p2
     obtain ⟨x8_2,x33_2,rfl,HA,HK2,HO_8,HB⟩:=hrel;have hl8_2:=(Kd.S_reads' HO_8.out).1;rw [hl8_2] at HO_8;(try simp only [hl8_2])
     cases gk with
     | zero => exact absurd HA.out (by simp [impl_MoveTo.l0])
     | succ k2 =>
      have H:=HA.out;clear HA;simp only [impl_MoveTo.l0] at H
      by_cases c17 : x33_2 < (t137.length : Int)
      ·rw [if_pos c17] at H;have c17b0 : decide (x33_2 < (t137.length : Int)) = true:=decide_eq_true c17
       try have c17bz : decide (x33_2 < (x8_2.length : Int)) = true:=by rw [← hl8_2];exact c17b0
       clear c17
       by_cases c18 : 0 ≤ x33_2
       ·rw [if_pos c18] at H;have c18b0 : decide (0 ≤ x33_2) = true:=decide_eq_true c18;clear c18
        by_cases c19 : x33_2 < (x8_2.length : Int)
        ·rw [if_pos c19] at H;have c19b0 : decide (x33_2 < (x8_2.length : Int)) = true:=decide_eq_true c19;clear c19
         by_cases c20 : ((rd_T45 x8_2 x33_2).f0) = t140
         ·rw [if_pos c20] at H;have c20b0 : (((rd_T45 x8_2 x33_2).f0) == t140) = true:=beq_iff_eq.mpr c20;have c20b1 : (((rd_T45 x8_2 x33_2).f0) != t140) = false:=bne_eq_false_iff_eq.mpr c20;clear c20;replace H:=bS.mp H;obtain ⟨t144,A210,H⟩:=H;replace H : (if 0 ≤ t144 then (if t144 ≤ (((rd_T45 x8_2 x33_2).f2).length : Int) then (if 0 ≤ (wrap64 (t144 + 1)) then (if (wrap64 (t144 + 1)) ≤ (((rd_T45 x8_2 x33_2).f2).length : Int) then (impl_MoveTo.l0 k2 l0 a1 a2 (x8_2.set (x33_2 : Int).toNat (⟨(rd_T45 x8_2 x33_2).f0,(rd_T45 x8_2 x33_2).f1,(((rd_T45 x8_2 x33_2).f2).eraseIdx (t144 : Int).toNat)⟩ : S45)) t140 (t137.length : Int) (wrap64 (x33_2 + 1))) else (none)) else (none)) else (none)) else (none)) = some (r1,r2):=H;have A21:=am A210;clear A210
          by_cases c22 : 0 ≤ t144
          ·rw [if_pos c22] at H;have c22b0:=eq_true c22;have c22b1 : decide (0 ≤ t144) = true:=decide_eq_true c22;clear c22
           by_cases c23 : t144 ≤ (((rd_T45 x8_2 x33_2).f2).length : Int)
           ·rw [if_pos c23] at H;have c23b0:=eq_true c23;have c23b1 : decide (t144 ≤ (((rd_T45 x8_2 x33_2).f2).length : Int)) = true:=decide_eq_true c23;clear c23;obtain ⟨y146,hy146⟩ : ∃ y_ : List Int,y_ = (((rd_T45 x8_2 x33_2).f2).take (t144 : Int).toNat):=⟨_,rfl⟩
            replace H : (if 0 ≤ (wrap64 (t144 + 1)) then (if (wrap64 (t144 + 1)) ≤ (((rd_T45 x8_2 x33_2).f2).length : Int) then (impl_MoveTo.l0 k2 l0 a1 a2 (x8_2.set (x33_2 : Int).toNat (⟨(rd_T45 x8_2 x33_2).f0,(rd_T45 x8_2 x33_2).f1,(((rd_T45 x8_2 x33_2).f2).eraseIdx (t144 : Int).toNat)⟩ : S45)) t140 (t137.length : Int) (wrap64 (x33_2 + 1))) else (none)) else (none)) = some (r1,r2):=by first | (rw [hy146];with_reducible exact H) | (have H2_:=(Option.bind_some _ _).symm.trans H;rw [hy146];with_reducible exact H2_) | (have H2_:=(Option.bind_some _ _).symm.trans H;with_reducible exact H2_) | with_reducible exact H | (rw [hy146];exact H) | exact H
            have Ny146:=am hy146;clear hy146;obtain ⟨ji24,hji24⟩ : ∃ j_ : Int,(wrap64 (t144 + 1)) = j_:=⟨_,rfl⟩
            replace H : (if 0 ≤ (ji24) then (if (ji24) ≤ (((rd_T45 x8_2 x33_2).f2).length : Int) then (impl_MoveTo.l0 k2 l0 a1 a2 (x8_2.set (x33_2 : Int).toNat (⟨(rd_T45 x8_2 x33_2).f0,(rd_T45 x8_2 x33_2).f1,(((rd_T45 x8_2 x33_2).f2).eraseIdx (t144 : Int).toNat)⟩ : S45)) t140 (t137.length : Int) (wrap64 (x33_2 + 1))) else (none)) else (none)) = some (r1,r2):=by first | (rw [hji24] at H;exact H) | (simp only [hji24] at H ⊢;exact H)
            (try rw [hji24] at A21);have hji24w : (IntKind.i64.wrap (t144 + 1)) = ji24:=(i64_w _).trans hji24
            by_cases c25 : 0 ≤ (ji24)
            ·rw [if_pos c25] at H;have c25b0:=eq_true c25;have c25b1 : decide (0 ≤ (ji24)) = true:=decide_eq_true c25;clear c25
             by_cases c26 : (ji24) ≤ (((rd_T45 x8_2 x33_2).f2).length : Int)
             ·rw [if_pos c26] at H;have c26b0:=eq_true c26;have c26b1 : decide ((ji24) ≤ (((rd_T45 x8_2 x33_2).f2).length : Int)) = true:=decide_eq_true c26;clear c26;obtain ⟨y151,hy151⟩ : ∃ y_ : List Int,y_ = (((rd_T45 x8_2 x33_2).f2).drop ((ji24) : Int).toNat):=⟨_,rfl⟩
              replace H : (impl_MoveTo.l0 k2 l0 a1 a2 (x8_2.set (x33_2 : Int).toNat (⟨(rd_T45 x8_2 x33_2).f0,(rd_T45 x8_2 x33_2).f1,(((rd_T45 x8_2 x33_2).f2).eraseIdx (t144 : Int).toNat)⟩ : S45)) t140 (t137.length : Int) (wrap64 (x33_2 + 1))) = some (r1,r2):=by first | (rw [hy151];with_reducible exact H) | (have H2_:=(Option.bind_some _ _).symm.trans H;rw [hy151];with_reducible exact H2_) | (have H2_:=(Option.bind_some _ _).symm.trans H;with_reducible exact H2_) | with_reducible exact H | (rw [hy151];exact H) | exact H
              have Ny151:=am hy151;clear hy151;obtain ⟨y155,hy155⟩ : ∃ y_ : List Int,y_ = (((rd_T45 x8_2 x33_2).f2).eraseIdx (t144 : Int).toNat):=⟨_,rfl⟩
              replace H : (impl_MoveTo.l0 k2 l0 a1 a2 (x8_2.set (x33_2 : Int).toNat (⟨(rd_T45 x8_2 x33_2).f0,(rd_T45 x8_2 x33_2).f1,y155⟩ : S45)) t140 (t137.length : Int) (wrap64 (x33_2 + 1))) = some (r1,r2):=by first | (rw [hy155];with_reducible exact H) | (have H2_:=(Option.bind_some _ _).symm.trans H;rw [hy155];with_reducible exact H2_) | (have H2_:=(Option.bind_some _ _).symm.trans H;with_reducible exact H2_) | with_reducible exact H | (rw [hy155];exact H) | exact H
              have Ny155:=am hy155;clear hy155;obtain ⟨y158,hy158⟩ : ∃ y_ : List (S45),y_ = (x8_2.set (x33_2 : Int).toNat (⟨(rd_T45 x8_2 x33_2).f0,(rd_T45 x8_2 x33_2).f1,y155⟩ : S45)):=⟨_,rfl⟩
              replace H : (impl_MoveTo.l0 k2 l0 a1 a2 y158 t140 (t137.length : Int) (wrap64 (x33_2 + 1))) = some (r1,r2):=by first | (rw [hy158];with_reducible exact H) | (have H2_:=(Option.bind_some _ _).symm.trans H;rw [hy158];with_reducible exact H2_) | (have H2_:=(Option.bind_some _ _).symm.trans H;with_reducible exact H2_) | with_reducible exact H | (rw [hy158];exact H) | exact H
              have Ny158:=am hy158;clear hy158;have H':=am H;clear H;have p142 : 0 ≤ (x33_2 : Int):=odt qq94;have q142 : x33_2 < (x8_2.length : Int):=odt qq94;obtain ⟨ad142,A142_2,c142_2,e142,hx142_0,hx142_1,hx142_2,hl142_2,hi142_2⟩:=at_T45 (Kd.S_reads' HO_8.out).2.2 x33_2 p142 q142
              cases e142
              obtain ⟨ce142,hce142,hMe142,hcc142⟩:=Kd.S_get HO_8.out z45 x33_2 p142 qq59;obtain ⟨ve142_2,rfl,ge142_2⟩:=k45_openM hMe142;have hv142_2:=hcc142 2 _ rfl;rw [add_field _ _ 2 (by omega)] at hv142_2;replace hv142_2:=Option.some.inj (hv142_2.symm.trans hx142_2);rw [hv142_2] at ge142_2;have HL142_2:=am (show Kd.R (Kd.int .i64) 3 _ _ _ _ ((rd_T45 x8_2 x33_2).f2) from ge142_2);clear hv142_2 ge142_2;have HX142_2:=am hx142_2;clear hcc142 hce142;have HR142_2:=am hi142_2;have HC142_2:=am hl142_2;clear hi142_2 hl142_2;replace p142:=eq_true p142;replace q142:=eq_true q142;have p143 : 0 ≤ (x33_2 : Int):=odt qq94;have q143 : x33_2 < (x8_2.length : Int):=odt qq94;obtain ⟨ad143,A143_2,c143_2,e143,hx143_0,hx143_1,hx143_2,hl143_2,hi143_2⟩:=at_T45 (Kd.S_reads' HO_8.out).2.2 x33_2 p143 q143;obtain rfl : ad142 = ad143:=(by injection e143)
              obtain ⟨ce143,hce143,hMe143,hcc143⟩:=Kd.S_get HO_8.out z45 x33_2 p143 (by first | exact q143 | exact odt qq94 | (have e_:=(Kd.S_reads' HO_8.out).1;omega));obtain ⟨ve143_2,rfl,ge143_2⟩:=k45_openM hMe143;have hv143_2:=hcc143 2 _ rfl;rw [add_field _ _ 2 (by omega)] at hv143_2;replace hv143_2:=Option.some.inj (hv143_2.symm.trans hx143_2);rw [hv143_2] at ge143_2;have HL143_2:=am (show Kd.R (Kd.int .i64) 3 _ _ _ _ ((rd_T45 x8_2 x33_2).f2) from ge143_2);clear hv143_2 ge143_2;have HX143_2:=am hx143_2;clear hcc143 hce143;have HR143_2:=am hi143_2;have HC143_2:=am hl143_2;clear hi143_2 hl143_2;replace p143:=eq_true p143;replace q143:=eq_true q143;have ea_:=Option.some.inj (hx142_2.symm.trans hx143_2)
              injection ea_ with ea_ en_ ec_
              subst ea_;subst ec_;clear en_
              try go_wp2_with (first | ((with_reducible refine gate_callee (f:=31) rfl ?_);refine goesL_ (some 49) rfl rfl Try.func31 (by kernel_rfl) rfl #[.slice A142_2 ((rd_T45 x8_2 x33_2).f2).length c142_2,.int .i64 a1] rfl qq50 ?_;(with_reducible refine (impl_placeOf.calls k2 _ _ ((rd_T45 x8_2 x33_2).f2) a1 t144 _ ?side1 ?side2 A21.out).mono ?_);(case side1 => repeat (first | exact qq17 | (with_reducible refine cA ?_ _) | (with_reducible refine cN ?_ _) | (with_reducible refine cD ?_)));(case side2 => exact HC143_2.out);rintro e w' ⟨rfl,⟨nd,rfl⟩⟩;refine ⟨_,rfl,?_⟩;(try (rw [drewN_self wr];generalize hq_ : World.drewN wr _ = wr;have n0_ : Aside0 (Kd.R (Kd.int .i64) 3 wr w.heap.size (fun k_ => some k_ ≠ (.slice (some ad142) x8_2.length co16 : Value).ownBlock) (.slice A142_2 ((rd_T45 x8_2 x33_2).f2).length c142_2) ((rd_T45 x8_2 x33_2).f2)):=⟨by rw [← hq_];exact (by (with_reducible repeat (first | apply kA | apply kN | apply kD));exact Kd.R_mono HL142_2.out (fun _ hk => hk.2))⟩;have n1_ : Aside0 (Kd.R (Kd.int .i64) 3 wr w.heap.size (fun k_ => some k_ ≠ (.slice (some ad142) x8_2.length co16 : Value).ownBlock) (.slice A142_2 ((rd_T45 x8_2 x33_2).f2).length c142_2) ((rd_T45 x8_2 x33_2).f2)):=⟨by rw [← hq_];exact (by (with_reducible repeat (first | apply kA | apply kN | apply kD));exact Kd.R_mono HL143_2.out (fun _ hk => hk.2))⟩;have n2_ : Aside0 (Kd.S k45 45 wr w.heap.size (fun _ => True) (.slice (some ad142) x8_2.length co16) x8_2):=⟨by rw [← hq_];exact qq74⟩;have n3_ : Aside0 (Below w.heap.size w wr):=⟨by rw [← hq_];exact qq73⟩;have n4_ : Aside0 (Kd.C (Kd.int .i64) wr A142_2 ((rd_T45 x8_2 x33_2).f2).length ((rd_T45 x8_2 x33_2).f2)):=⟨by rw [← hq_];exact (by repeat (first | (with_reducible exact HR142_2.out) | (with_reducible refine cA ?_ _) | (with_reducible refine cN ?_ _) | (with_reducible refine cD ?_) | exact HR142_2.out))⟩;have n5_ : Aside0 (Kd.C (Kd.int .i64) wr A142_2 ((rd_T45 x8_2 x33_2).f2).length ((rd_T45 x8_2 x33_2).f2)):=⟨by rw [← hq_];exact qq17⟩;clear HL142_2 HL143_2 HO_8 HB HR142_2 HR143_2 hq_;have HL142_2:=n0_;have HL143_2:=n1_;have HO_8:=n2_;have HB:=n3_;have HR142_2:=n4_;have HR143_2:=n5_;clear n0_ n1_ n2_ n3_ n4_ n5_))))
              replace HO_8:=am (Kd.S_drew HO_8.out);replace HL142_2:=am (Kd.R_drew HL142_2.out);replace HL143_2:=am (Kd.R_drew HL143_2.out);replace HR142_2:=am (Kd.C_drew HR142_2.out);replace HR143_2:=am (Kd.C_drew HR143_2.out);replace HB:=am qq141;have p145 : 0 ≤ (x33_2 : Int):=odt qq94;have q145 : x33_2 < (x8_2.length : Int):=odt qq94;obtain ⟨ad145,A145_2,c145_2,e145,hx145_0,hx145_1,hx145_2,hl145_2,hi145_2⟩:=at_T45 (Kd.S_reads' HO_8.out).2.2 x33_2 p145 q145;obtain rfl : ad142 = ad145:=(by injection e145)
              obtain ⟨ce145,hce145,hMe145,hcc145⟩:=Kd.S_get HO_8.out z45 x33_2 p145 (by first | exact q145 | exact odt qq94 | (have e_:=(Kd.S_reads' HO_8.out).1;omega));obtain ⟨ve145_2,rfl,ge145_2⟩:=k45_openM hMe145;have hv145_2:=hcc145 2 _ rfl;rw [add_field _ _ 2 (by omega)] at hv145_2;replace hv145_2:=Option.some.inj (hv145_2.symm.trans hx145_2);rw [hv145_2] at ge145_2;have HL145_2:=am (show Kd.R (Kd.int .i64) 3 _ _ _ _ ((rd_T45 x8_2 x33_2).f2) from ge145_2);clear hv145_2 ge145_2;have HX145_2:=am hx145_2;clear hcc145 hce145;have HR145_2:=am hi145_2;have HC145_2:=am hl145_2;clear hi145_2 hl145_2;replace p145:=eq_true p145;replace q145:=eq_true q145;have q29 : (t144 : Int) ≤ ((((rd_T45 x8_2 x33_2).f2).length : Int) : Int):=odt qq94;obtain ⟨i029,hi029,_,hsz29,_⟩:=info_parts info3;have hroom29 : ((rd_T45 x8_2 x33_2).f2).length ≤ c145_2:=HC145_2.out;have hC29 : Kd.C (Kd.int .i64) _ A145_2 ((rd_T45 x8_2 x33_2).f2).length ((rd_T45 x8_2 x33_2).f2):=(by repeat (first | (with_reducible exact HR145_2.out) | (with_reducible refine cA ?_ _) | (with_reducible refine cN ?_ _) | (with_reducible refine cD ?_) | exact HR145_2.out))
              have hcut29:=cut_to (P:=Try.prog) 43 3 .i64 Try.underlying43 hi029 A145_2 ((rd_T45 x8_2 x33_2).f2).length c145_2 t144 (odt qq94) q29 hroom29;have hr29:=Kd.C_take (m:=(t144 : Int).toNat) hC29 (by omega);have hy29 : y146.length = (t144 : Int).toNat:=(by rw [Ny146.out,List.length_take];omega)
              rw [← Ny146.out] at hr29;rw [← hy29] at hcut29;have HR149:=am hr29;have HC149:=am (show y146.length ≤ c145_2 from by omega);clear hr29 hC29 hroom29 hi029 hsz29;have KY29:=am hy29;clear hy29;replace q29:=eq_true q29;have p150 : 0 ≤ (x33_2 : Int):=odt qq94;have q150 : x33_2 < (x8_2.length : Int):=odt qq94;obtain ⟨ad150,A150_2,c150_2,e150,hx150_0,hx150_1,hx150_2,hl150_2,hi150_2⟩:=at_T45 (Kd.S_reads' HO_8.out).2.2 x33_2 p150 q150;obtain rfl : ad142 = ad150:=(by injection e150)
              obtain ⟨ce150,hce150,hMe150,hcc150⟩:=Kd.S_get HO_8.out z45 x33_2 p150 (by first | exact q150 | exact odt qq94 | (have e_:=(Kd.S_reads' HO_8.out).1;omega));obtain ⟨ve150_2,rfl,ge150_2⟩:=k45_openM hMe150;have hv150_2:=hcc150 2 _ rfl;rw [add_field _ _ 2 (by omega)] at hv150_2;replace hv150_2:=Option.some.inj (hv150_2.symm.trans hx150_2);rw [hv150_2] at ge150_2;have HL150_2:=am (show Kd.R (Kd.int .i64) 3 _ _ _ _ ((rd_T45 x8_2 x33_2).f2) from ge150_2);clear hv150_2 ge150_2;have HX150_2:=am hx150_2;clear hcc150 hce150;have HR150_2:=am hi150_2;have HC150_2:=am hl150_2;clear hi150_2 hl150_2;replace p150:=eq_true p150;replace q150:=eq_true q150;have ea_:=Option.some.inj (hx145_2.symm.trans hx150_2)
              injection ea_ with ea_ en_ ec_
              subst ea_;subst ec_;clear en_;have q30 : ((ji24) : Int) ≤ ((((rd_T45 x8_2 x33_2).f2).length : Int) : Int):=odt qq94;obtain ⟨i030,hi030,_,hsz30,_⟩:=info_parts info3;have hroom30 : ((rd_T45 x8_2 x33_2).f2).length ≤ c145_2:=HC150_2.out;have hC30 : Kd.C (Kd.int .i64) _ A145_2 ((rd_T45 x8_2 x33_2).f2).length ((rd_T45 x8_2 x33_2).f2):=(by repeat (first | (with_reducible exact HR150_2.out) | (with_reducible refine cA ?_ _) | (with_reducible refine cN ?_ _) | (with_reducible refine cD ?_) | exact HR150_2.out))
              have q030 : (0 : Int) ≤ ((ji24) : Int):=odt qq94;have hcut30:=cut_from (P:=Try.prog) 43 3 .i64 Try.underlying43 hi030 1 hsz30 A145_2 ((rd_T45 x8_2 x33_2).f2).length c145_2 (ji24) q030 q30;have hr30:=Kd.C_drop (m:=((ji24) : Int).toNat) (c:=c145_2) hC30 (by omega) hroom30;obtain ⟨A30,hA30⟩ : ∃ A1,A1 = (if c145_2 = ((ji24) : Int).toNat then A145_2 else (A145_2 : Option Addr).map (·.add (((ji24) : Int).toNat * 1))):=⟨_,rfl⟩
              obtain ⟨c30,hc30⟩ : ∃ c1,c1 = c145_2 - ((ji24) : Int).toNat:=⟨_,rfl⟩
              have hy30 : y151.length = ((rd_T45 x8_2 x33_2).f2).length - ((ji24) : Int).toNat:=(by rw [Ny151.out,List.length_drop] <;> omega)
              rw [show ((rd_T45 x8_2 x33_2).f2).drop ((ji24) : Int).toNat = y151 from Ny151.out.symm] at hr30;replace hr30 : Kd.C (Kd.int .i64) _ A30 y151.length y151:=(by rw [hA30];exact hr30)
              rw [← hy30,← hA30,← hc30] at hcut30;have HR154:=am hr30;have HC154:=am (show y151.length ≤ c30 from by rw [hy30,hc30];exact Nat.sub_le_sub_right hroom30 _);clear hr30 hC30 hroom30 hi030 hsz30 hc30;have KY30:=am hy30;have KA30:=am hA30;clear hy30 hA30;replace q30:=eq_true q30;obtain ⟨go31,co31,eo31,gb31,gl31,cl31,HG31⟩:=Kd.S_form HO_8.out (by have h_ : (x33_2 : Int) < ((x8_2.length : Int) : Int):=odt qq94;have h2_ : 0 ≤ (x33_2 : Int):=(odt qq94);omega);(first | cases eo31 | (injection eo31 with ea_ en_ ec_;(first | subst ea_ | (injection ea_ with ea_;subst ea_));subst ec_;clear en_));have GB31:=am gb31;have GG31:=am HG31;clear gb31 gl31 HG31;(first | simp only [add_plain] at hx142_0 | skip);(first | simp only [add_plain] at hx142_1 | skip);(first | simp only [add_plain] at hx142_2 | skip);(first | simp only [add_plain] at hx143_0 | skip);(first | simp only [add_plain] at hx143_1 | skip);(first | simp only [add_plain] at hx143_2 | skip);(first | simp only [add_plain] at hx145_0 | skip);(first | simp only [add_plain] at hx145_1 | skip);(first | simp only [add_plain] at hx145_2 | skip);(first | simp only [add_plain] at hx150_0 | skip);(first | simp only [add_plain] at hx150_1 | skip);(first | simp only [add_plain] at hx150_2 | skip);obtain ⟨oki31,ce31,hcl31,hM31,hcc31,_,_,hH31⟩:=Kd.S_elem HO_8.out z45 (x33_2 : Int) (odt qq94) (by have h_ : (x33_2 : Int) < ((x8_2.length : Int) : Int):=odt qq94;first | exact h_ | (have e_:=(Kd.S_reads' HO_8.out).1;omega) | simpa using h_);obtain ⟨ve31_2,rfl,ge31_2⟩:=k45_openM hM31;have hv31:=hcc31 2 _ rfl;have hX31:=HX145_2.out;(try simp only [add_plain] at hX31);(try simp only [Nat.add_zero] at hv31);replace hv31:=Option.some.inj (hv31.symm.trans hX31);subst hv31;clear hX31 hcc31 hcl31;have UU31:=am (show Kd.R (Kd.int .i64) 3 _ w.heap.size oki31 (.slice A145_2 ((rd_T45 x8_2 x33_2).f2).length c145_2) ((rd_T45 x8_2 x33_2).f2) from ge31_2);have HH31:=am hH31;have HN31:=am (Kd.S_reads' HO_8.out).1;clear hH31 ge31_2;refine start_ (n:=21) (S:=fun w' => w'.cell? ⟨go31,((x33_2).toNat * 3),none⟩ = some (.int .i64 ((rd_T45 x8_2 x33_2).f0)) ∧ w'.cell? ⟨go31,((x33_2).toNat * 3) + 1,none⟩ = some (.int .i64 ((rd_T45 x8_2 x33_2).f1)) ∧ w'.cell? ⟨go31,((x33_2).toNat * 3) + 2,none⟩ = some (.slice A145_2 ((rd_T45 x8_2 x33_2).f2).length c145_2) ∧ w'.cell? ⟨go31,((x33_2).toNat * 3),none⟩ = some (.int .i64 ((rd_T45 x8_2 x33_2).f0)) ∧ w'.cell? ⟨go31,((x33_2).toNat * 3) + 1,none⟩ = some (.int .i64 ((rd_T45 x8_2 x33_2).f1)) ∧ w'.cell? ⟨go31,((x33_2).toNat * 3) + 2,none⟩ = some (.slice A145_2 ((rd_T45 x8_2 x33_2).f2).length c145_2)) (ds:=[20]) m0_4 (by kernel_rfl) rfl rfl ⟨hx145_0,hx145_1,hx145_2,hx150_0,hx150_1,hx150_2⟩ (fun hHeld => ?_);refine with_tabW impl_MoveTo.tab9 impl_MoveTo.bits9 (fun HT_ HW_ => ?_)
              generalize wr.drew = w28 at HO_8 HL142_2 HL143_2 HR142_2 HR143_2 HB GG31 HH31 HL145_2 HL150_2 HR145_2 HR149 HR150_2 HR154 HX145_2 HX150_2 UU31 hx142_0 hx142_1 hx142_2 hx143_0 hx143_1 hx143_2 hx145_0 hx145_1 hx145_2 hx150_0 hx150_1 hx150_2 hHeld ⊢
              refine pV (i:=0) (N:=some 50) m1_4 rfl rfl qT ?_
              refine pV (i:=1) (N:=some 51) m2_4 rfl rfl qT ?_
              refine pV (i:=2) (N:=some 52) m3_4 rfl rfl qT ?_
              refine pV (i:=3) (N:=some 53) m4_4 rfl rfl qT ?_
              refine pV (i:=4) (N:=some 54) #[Y,Y,Y,Y,Y,Z,Z,Z,Z,Z,Z,Z,Z,Z,Z,Z,Z,Z,Z,Z,Z] rfl rfl qT ?_
              refine pV (i:=5) (N:=some 55) m5_4 rfl rfl qT ?_
              refine pV (i:=7) (N:=some 57) #[Y,Y,Y,Y,Y,Y,Z,Y,Z,Z,Z,Z,Z,Z,Z,Z,Z,Z,Z,Z,Z] rfl rfl qT ?_
              refine pV (i:=9) (N:=some 59) #[Y,Y,Y,Y,Y,Y,Z,Y,Z,Y,Z,Z,Z,Z,Z,Z,Z,Z,Z,Z,Z] rfl rfl qT ?_
              refine pV (i:=10) (N:=some 60) #[Y,Y,Y,Y,Y,Y,Z,Y,Z,Y,Y,Z,Z,Z,Z,Z,Z,Z,Z,Z,Z] rfl rfl qT ?_
              refine pV (i:=11) (N:=some 61) #[Y,Y,Y,Y,Y,Y,Z,Y,Z,Y,Y,Y,Z,Z,Z,Z,Z,Z,Z,Z,Z] rfl rfl qT ?_
              refine pV (i:=12) (N:=some 62) #[Y,Y,Y,Y,Y,Y,Z,Y,Z,Y,Y,Y,Y,Z,Z,Z,Z,Z,Z,Z,Z] rfl rfl qT ?_
              refine pV (i:=14) (N:=some 64) #[Y,Y,Y,Y,Y,Y,Z,Y,Z,Y,Y,Y,Y,Z,Y,Z,Z,Z,Z,Z,Z] rfl rfl qT ?_
              refine pV (i:=15) (N:=some 65) #[Y,Y,Y,Y,Y,Y,Z,Y,Z,Y,Y,Y,Y,Z,Y,Y,Z,Z,Z,Z,Z] rfl rfl qT ?_
              refine tV6 (i:=6) (N:=some 56) #[Y,Y,Y,Y,Y,Y,Y,Y,Z,Y,Y,Y,Y,Z,Y,Y,Z,Z,Z,Z,Z] rfl rfl (take_ofW HT_.out HW_.out (by kernel_rfl)) hHeld ?_
              refine pV (i:=8) (N:=some 58) #[Y,Y,Y,Y,Y,Y,Y,Y,Y,Y,Y,Y,Y,Z,Y,Y,Z,Z,Z,Z,Z] rfl rfl qT ?_
              refine tV6 (i:=13) (N:=some 63) #[Y,Y,Y,Y,Y,Y,Y,Y,Y,Y,Y,Y,Y,Y,Y,Y,Z,Z,Z,Z,Z] rfl rfl (take_ofW HT_.out HW_.out (by kernel_rfl)) hHeld ?_
              refine pV (i:=16) (N:=some 66) #[Y,Y,Y,Y,Y,Y,Y,Y,Y,Y,Y,Y,Y,Y,Y,Y,Y,Z,Z,Z,Z] rfl rfl qT ?_
              refine one_ (i:=17) (N:=some 67) m6_4 rfl rfl (one_of HT_.out (by kernel_rfl)) (by decide) (fun K hK => ?_);have hj_ : 0 ≤ (t144 : Int):=odt qq94;have hl_ : (ji24 : Int) ≤ (((rd_T45 x8_2 x33_2).f2).length : Int):=odt qq94;have hh_ : (t144 : Int) ≤ (((rd_T45 x8_2 x33_2).f2).length : Int):=odt qq94;have hb_:=(Kd.R_reads' UU31.out).2.2.2.1;have h0_ : (0 : Int) ≤ (ji24 : Int):=odt qq94;have hy1_:=KY29.out;have hk_ : (ji24 : Int).toNat = y146.length + 1:=(by have hw_ : (ji24 : Int) = t144 + 1:=(by have h00_:=h0_;rw [← hji24] at h00_ ⊢;unfold wrap64 at h00_ ⊢;omega);rw [hw_];omega)
              refine del_w_step (Kd.int .i64) (w0:=w) w.heap.size (by rfl) (.tmp 58) (.tmp 66) 43 3 rfl Try.underlying43 (by kernel_rfl) (B:=A145_2) (n:=((rd_T45 x8_2 x33_2).f2).length) (c:=c145_2) (k:=y146.length) (ok:=(fun k_ => oki31 k_ ∨ ((fun _ => True)) k_ ∧ w28.heap.size ≤ k_)) (xs:=((rd_T45 x8_2 x33_2).f2)) rfl rfl ?hA ?hm ?aO ?hk qq73 (below_size qq73) ?_;(case hA => have ha_:=KA30.out;rw [hk_] at ha_;exact ha_);(case hm => have ha_:=KY30.out;omega);(case hk => omega);(case aO => exact (by (with_reducible repeat (first | apply kA | apply kN | apply kD));exact Kd.R_mono UU31.out (fun _ hk => .inl hk)));intro w32 ho hb hg;(first | have HS0_:=cell_grown hg (hHeld.1) qq6 | have HS0_:=cell_grown hg (cell_unalloc (hHeld.1) qq21) qq6);(first | have HS1_:=cell_grown hg (hHeld.2.1) qq6 | have HS1_:=cell_grown hg (cell_unalloc (hHeld.2.1) qq21) qq6);(first | have HS2_:=cell_grown hg (hHeld.2.2.1) qq6 | have HS2_:=cell_grown hg (cell_unalloc (hHeld.2.2.1) qq21) qq6);(first | have HS3_:=cell_grown hg (hHeld.2.2.2.1) qq6 | have HS3_:=cell_grown hg (cell_unalloc (hHeld.2.2.2.1) qq21) qq6);(first | have HS4_:=cell_grown hg (hHeld.2.2.2.2.1) qq6 | have HS4_:=cell_grown hg (cell_unalloc (hHeld.2.2.2.2.1) qq21) qq6);(first | have HS5_:=cell_grown hg (hHeld.2.2.2.2.2) qq6 | have HS5_:=cell_grown hg (cell_unalloc (hHeld.2.2.2.2.2) qq21) qq6);clear hj_ hl_ hh_ hb_ hk_ h0_;rw [hy1_,← Ny155.out] at ho;clear hy1_;have hn_ : ((rd_T45 x8_2 x33_2).f2).length - 1 = y155.length:=(by have:=(Kd.R_reads' ho).1;omega)
              rw [hn_] at ho ⊢;clear hn_;replace HB:=am (hb);replace HH31:=am (Kd.H_grown (Kd.H_widen (by repeat (first | exact HH31.out | refine Kd.H_alloc ?_ _ | refine Kd.H_drewN ?_ _ | refine Kd.H_drew ?_))) hg (fun k_ e_ => .inl (UU31.out.1 k_ e_)));have HO157:=am (ho);clear HO_8 UU31 HL142_2 HL143_2 HL145_2 HL150_2;clear ho hb hg;have p27 : 0 ≤ (x33_2 : Int):=odt qq94;have q27 : (x33_2 : Int) < ((x8_2.length : Int) : Int):=odt qq94;replace p27:=eq_true p27;replace q27:=eq_true q27;obtain ⟨_,_,hraw33,_,_,hcc33,_⟩:=Kd.H_raw HH31.out (odt qq94) qq12;obtain ⟨_,hfr33⟩:=Kd.H_at HH31.out (odt qq94) qq12;have hx33_0:=hcc33 2 _ rfl;have hf33_0:=hfr33 2;(try rw [show (k45).sz = 3 from rfl] at hx33_0);(try rw [show (k45).sz = 3 from rfl] at hf33_0);have HP33:=Kd.S_seg0 HH31.out (odt qq94) qq12 (seg:=[.slice A145_2 y155.length c145_2]) (j:=2) (show 3 ≤ 3 from by decide) (x':=(⟨(rd_T45 x8_2 x33_2).f0,(rd_T45 x8_2 x33_2).f1,y155⟩ : S45)) (k45_mkM _ _ _ (⟨(rd_T45 x8_2 x33_2).f0,(rd_T45 x8_2 x33_2).f1,y155⟩ : S45) HO157.out) (fun _ hk => hk);clear hcc33 hfr33;have HS33:=HP33.1;rw [← Ny158.out] at HS33;have HQ33:=am HS33;obtain ⟨_,hgg33⟩:=Kd.R_typed hraw33 go31 rfl;have GG33_:=am hgg33;clear HP33 HS33 hgg33;refine hK.out _ _ ⟨HS0_,HS1_,HS2_,HS3_,HS4_,HS5_⟩ (fun hHeld => ?_);clear hK K;refine norm_ (a':=?_) ?_ ?_;rotate_left
              ·show Act.put _ (some 67) _ = _
               simp only [Act.put,sA,s0,s1,i64_w,i32_w];rfl
              refine pV (i:=18) (N:=some 68) m7_4 rfl rfl qT ?_
              refine pV (i:=19) (N:=some 69) m8_4 rfl rfl qT ?_
              refine last_ (i:=20) (N:=none) m9_4 rfl rfl (one_of HT_.out (by kernel_rfl)) (by decide) (fun K hK => ?_);refine skip_ (w1:=?_) (by rfl) rfl ?_ ?_;rotate_left
              ·go_simp;rfl
              refine hK.out _ _ ?_;clear hK K;refine done_ (done_of HT_.out (by kernel_rfl)) ?_
              try go_wp2
              (try simp only [← hl8_2])
              go_roundg k2
              case measure => have:=HJ5.out;have:=HK2.out;omega
              case rel => exact ⟨(y158),(wrap64 (x33_2 + 1)),qq95,H',⟨by have:=HJ5.out;have:=HK2.out;omega⟩,⟨by (try simp only [hl8_2]);(with_reducible repeat (first | apply Kd.S_alloc | apply Kd.S_drewN | apply Kd.S_drew));exact HQ33.out⟩,⟨by repeat (first | (with_reducible first | exact HB.out | apply bA | apply bN | apply bD | refine below_set ?_ GB31.out) | exact HB.out)⟩⟩
             ·rw [if_neg c26] at H;exact absurd H (by simp)
            ·rw [if_neg c25] at H;exact absurd H (by simp)
           ·rw [if_neg c23] at H;exact absurd H (by simp)
          ·rw [if_neg c22] at H;exact absurd H (by simp)
         ·rw [if_neg c20] at H;have c20b0 : (((rd_T45 x8_2 x33_2).f0) == t140) = false:=beq_eq_false_iff_ne.mpr c20;have c20b1 : (((rd_T45 x8_2 x33_2).f0) != t140) = true:=bne_iff_ne.mpr c20;have H':=am H;clear H;have p142 : 0 ≤ (x33_2 : Int):=odt qq94;have q142 : x33_2 < (x8_2.length : Int):=odt qq94;obtain ⟨ad142,A142_2,c142_2,e142,hx142_0,hx142_1,hx142_2,hl142_2,hi142_2⟩:=at_T45 (Kd.S_reads' HO_8.out).2.2 x33_2 p142 q142
          cases e142
          obtain ⟨ce142,hce142,hMe142,hcc142⟩:=Kd.S_get HO_8.out z45 x33_2 p142 qq59;obtain ⟨ve142_2,rfl,ge142_2⟩:=k45_openM hMe142;have hv142_2:=hcc142 2 _ rfl;rw [add_field _ _ 2 (by omega)] at hv142_2;replace hv142_2:=Option.some.inj (hv142_2.symm.trans hx142_2);rw [hv142_2] at ge142_2;have HL142_2:=am (show Kd.R (Kd.int .i64) 3 _ _ _ _ ((rd_T45 x8_2 x33_2).f2) from ge142_2);clear hv142_2 ge142_2;have HX142_2:=am hx142_2;clear hcc142 hce142;have HR142_2:=am hi142_2;have HC142_2:=am hl142_2;clear hi142_2 hl142_2;replace p142:=eq_true p142;replace q142:=eq_true q142;go_wp2
          (try simp only [← hl8_2])
          go_roundg k2
          case measure => have:=HJ5.out;have:=HK2.out;omega
          case rel => exact ⟨(x8_2),(wrap64 (x33_2 + 1)),qq95,H',⟨by have:=HJ5.out;have:=HK2.out;omega⟩,⟨qq61⟩,⟨qq73⟩⟩
        ·rw [if_neg c19] at H;exact absurd H (by simp)
       ·rw [if_neg c18] at H;exact absurd H (by simp)
      ·rw [if_neg c17] at H;have c17b0 : decide (x33_2 < (t137.length : Int)) = false:=decide_eq_false c17
       try have c17bz : decide (x33_2 < (x8_2.length : Int)) = false:=by rw [← hl8_2];exact c17b0
       clear c17;have H':=am H;clear H;go_wp2
       go_loopg [73] k2 (fun kq v73 w' => ∃ (x8_3 : List (S45)) (x73_3 : Int),v73 = .int .i64 x73_3 ∧ Aside0 (impl_MoveTo.l1 kq l0 a1 a2 x8_3 (x8_2.length : Int) x73_3 = some (r1,r2)) ∧ Aside0 (kq ≤ k2) ∧ Aside0 (Kd.S k45 45 w' w.heap.size (fun _ => True) (.slice Ao16 x8_2.length co16) x8_3) ∧ Aside0 (Below w.heap.size w w'))
       case atStart => exact ⟨(x8_2),(0),qq95,H',⟨Nat.le_refl _⟩,⟨qq61⟩,⟨qq73⟩⟩
       case round =>
        clear H'
        try clear c1
        try clear p1
        try clear q1
        try clear hx1
        try clear c2
        try clear p2
        try clear q2
        try clear c3
        try clear q3
        try clear hx3
        try clear hf3
        try clear p6
        try clear c9
        try clear c10
        try clear c11
        try clear c11b0
        try clear c11b1
        try clear c14
        try clear p14
        try clear q14
        try clear hx14
        try clear c15
        try clear p15
        try clear q15
        try clear hx15
        try clear c17
        try clear c17b0
        try clear c18
        try clear c18b0
        try clear c19
        try clear c19b0
        try clear c20
        try clear c20b0
        try clear c20b1
        try clear c21
        try clear c22
        try clear c22b0
        try clear c22b1
        try clear c23
        try clear c23b0
        try clear c23b1
        try clear c25
        try clear c25b0
        try clear c25b1
        try clear c26
        try clear c26b0
        try clear c26b1
        try clear p27
        try clear q27
        try clear q29
        try clear c30
        try clear q30
        try clear c31
        try clear c33
        try clear hx33
        try clear hf33
        try clear hx142_0
        try clear hx142_1
        try clear hx142_2
        try clear hx143_0
        try clear hx143_1
        try clear hx143_2
        try clear hx145_0
        try clear hx145_1
        try clear hx145_2
        try clear hx150_0
        try clear hx150_1
        try clear hx150_2
        try clear hx33_0
        try clear p142
        try clear p143
        try clear p145
        try clear p150
        try clear p2
        try clear p27
        try clear q030
        try clear q142
        try clear q143
        try clear q145
        try clear q150
        try clear q27
        try clear q29
        try clear q30
        obtain ⟨x8_3,x73_3,rfl,HA,HK3,HO_8,HB⟩:=hrel;have hl8_3:=(Kd.S_reads' HO_8.out).1;rw [hl8_3] at HO_8;(try simp only [hl8_3])
        cases gk with
        | zero => exact absurd HA.out (by simp [impl_MoveTo.l1])
        | succ k3 =>
         have H:=HA.out;clear HA;simp only [impl_MoveTo.l1] at H
         by_cases c35 : x73_3 < (x8_2.length : Int)
         ·rw [if_pos c35] at H;have c35b0 : decide (x73_3 < (x8_2.length : Int)) = true:=decide_eq_true c35
          try have c35bz : decide (x73_3 < (x8_3.length : Int)) = true:=by rw [← hl8_3];exact c35b0
          clear c35
          by_cases c36 : 0 ≤ x73_3
          ·rw [if_pos c36] at H;have c36b0 : decide (0 ≤ x73_3) = true:=decide_eq_true c36;clear c36
           by_cases c37 : x73_3 < (x8_3.length : Int)
           ·rw [if_pos c37] at H;have c37b0 : decide (x73_3 < (x8_3.length : Int)) = true:=decide_eq_true c37;clear c37
            by_cases c38 : ((rd_T45 x8_3 x73_3).f0) = a2
            ·rw [if_pos c38] at H;have c38b0 : (((rd_T45 x8_3 x73_3).f0) == a2) = true:=beq_iff_eq.mpr c38;have c38b1 : (((rd_T45 x8_3 x73_3).f0) != a2) = false:=bne_eq_false_iff_eq.mpr c38;clear c38
             by_cases c39 : (((rd_T45 x8_3 x73_3).f2).length : Int) < ((rd_T45 x8_3 x73_3).f1)
             ·rw [if_pos c39] at H;have c39b0 : decide ((((rd_T45 x8_3 x73_3).f2).length : Int) < ((rd_T45 x8_3 x73_3).f1)) = true:=decide_eq_true c39;clear c39
              by_cases c40 : ((rd_T45 x8_3 x73_3).f2).length < 17592186044416
              ·rw [if_pos c40] at H;have LMc40:=am c40;clear c40;obtain ⟨y163,hy163⟩ : ∃ y_ : List Int,y_ = (((rd_T45 x8_3 x73_3).f2) ++ [a1]):=⟨_,rfl⟩
               replace H : (some ((x8_3.set (x73_3 : Int).toNat (⟨(rd_T45 x8_3 x73_3).f0,(rd_T45 x8_3 x73_3).f1,y163⟩ : S45)),true)) = some (r1,r2):=by first | (rw [hy163];with_reducible exact H) | (have H2_:=(Option.bind_some _ _).symm.trans H;rw [hy163];with_reducible exact H2_) | (have H2_:=(Option.bind_some _ _).symm.trans H;with_reducible exact H2_) | with_reducible exact H | (rw [hy163];exact H) | exact H
               have Ny163:=am hy163;clear hy163;obtain ⟨y166,hy166⟩ : ∃ y_ : List (S45),y_ = (x8_3.set (x73_3 : Int).toNat (⟨(rd_T45 x8_3 x73_3).f0,(rd_T45 x8_3 x73_3).f1,y163⟩ : S45)):=⟨_,rfl⟩
               replace H : (some (y166,true)) = some (r1,r2):=by first | (rw [hy166];with_reducible exact H) | (have H2_:=(Option.bind_some _ _).symm.trans H;rw [hy166];with_reducible exact H2_) | (have H2_:=(Option.bind_some _ _).symm.trans H;with_reducible exact H2_) | with_reducible exact H | (rw [hy166];exact H) | exact H
               have Ny166:=am hy166;clear hy166;simp only [Option.some.injEq,Prod.mk.injEq] at H;obtain ⟨rfl,rfl⟩:=H
               try go_wp2
               replace HO_8:=am (Kd.S_drew HO_8.out);replace HB:=am qq141;have p159 : 0 ≤ (x73_3 : Int):=odt qq94;have q159 : x73_3 < (x8_3.length : Int):=odt qq94;obtain ⟨ad159,A159_2,c159_2,e159,hx159_0,hx159_1,hx159_2,hl159_2,hi159_2⟩:=at_T45 (Kd.S_reads' HO_8.out).2.2 x73_3 p159 q159
               cases e159
               obtain ⟨ce159,hce159,hMe159,hcc159⟩:=Kd.S_get HO_8.out z45 x73_3 p159 qq58;obtain ⟨ve159_2,rfl,ge159_2⟩:=k45_openM hMe159;have hv159_2:=hcc159 2 _ rfl;rw [add_field _ _ 2 (by omega)] at hv159_2;replace hv159_2:=Option.some.inj (hv159_2.symm.trans hx159_2);rw [hv159_2] at ge159_2;have HL159_2:=am qq121;clear hv159_2 ge159_2;have HX159_2:=am hx159_2;clear hcc159 hce159;have HR159_2:=am hi159_2;have HC159_2:=am hl159_2;clear hi159_2 hl159_2;replace p159:=eq_true p159;replace q159:=eq_true q159;have p160 : 0 ≤ (x73_3 : Int):=odt qq94;have q160 : x73_3 < (x8_3.length : Int):=odt qq94;obtain ⟨ad160,A160_2,c160_2,e160,hx160_0,hx160_1,hx160_2,hl160_2,hi160_2⟩:=at_T45 (Kd.S_reads' HO_8.out).2.2 x73_3 p160 q160;obtain rfl : ad159 = ad160:=(by injection e160)
               obtain ⟨ce160,hce160,hMe160,hcc160⟩:=Kd.S_get HO_8.out z45 x73_3 p160 qq57;obtain ⟨ve160_2,rfl,ge160_2⟩:=k45_openM hMe160;have hv160_2:=hcc160 2 _ rfl;rw [add_field _ _ 2 (by omega)] at hv160_2;replace hv160_2:=Option.some.inj (hv160_2.symm.trans hx160_2);rw [hv160_2] at ge160_2;have HL160_2:=am (show Kd.R (Kd.int .i64) 3 _ _ _ _ ((rd_T45 x8_3 x73_3).f2) from ge160_2);clear hv160_2 ge160_2;have HX160_2:=am hx160_2;clear hcc160 hce160;have HR160_2:=am hi160_2;have HC160_2:=am hl160_2;clear hi160_2 hl160_2;replace p160:=eq_true p160;replace q160:=eq_true q160;have ea_:=Option.some.inj (hx159_2.symm.trans hx160_2)
               injection ea_ with ea_ en_ ec_
               subst ea_;subst ec_;clear en_;have p161 : 0 ≤ (x73_3 : Int):=odt qq94;have q161 : x73_3 < (x8_3.length : Int):=odt qq94;obtain ⟨ad161,A161_2,c161_2,e161,hx161_0,hx161_1,hx161_2,hl161_2,hi161_2⟩:=at_T45 (Kd.S_reads' HO_8.out).2.2 x73_3 p161 q161;obtain rfl : ad159 = ad161:=(by injection e161)
               obtain ⟨ce161,hce161,hMe161,hcc161⟩:=Kd.S_get HO_8.out z45 x73_3 p161 qq56;obtain ⟨ve161_2,rfl,ge161_2⟩:=k45_openM hMe161;have hv161_2:=hcc161 2 _ rfl;rw [add_field _ _ 2 (by omega)] at hv161_2;replace hv161_2:=Option.some.inj (hv161_2.symm.trans hx161_2);rw [hv161_2] at ge161_2;have HL161_2:=am (show Kd.R (Kd.int .i64) 3 _ _ _ _ ((rd_T45 x8_3 x73_3).f2) from ge161_2);clear hv161_2 ge161_2;have HX161_2:=am hx161_2;clear hcc161 hce161;have HR161_2:=am hi161_2;have HC161_2:=am hl161_2;clear hi161_2 hl161_2;replace p161:=eq_true p161;replace q161:=eq_true q161;have ea_:=Option.some.inj (hx159_2.symm.trans hx161_2)
               injection ea_ with ea_ en_ ec_
               subst ea_;subst ec_;clear en_;refine start_ (n:=21) (S:=fun w' => w'.cell? (ad159.add ((x73_3).toNat * 3)) = some (.int .i64 ((rd_T45 x8_3 x73_3).f0)) ∧ w'.cell? ⟨(ad159.add ((x73_3).toNat * 3)).block,(ad159.add ((x73_3).toNat * 3)).off + 1,none⟩ = some (.int .i64 ((rd_T45 x8_3 x73_3).f1)) ∧ w'.cell? ⟨(ad159.add ((x73_3).toNat * 3)).block,(ad159.add ((x73_3).toNat * 3)).off + 2,none⟩ = some (.slice A159_2 ((rd_T45 x8_3 x73_3).f2).length c159_2) ∧ w'.cell? (ad159.add ((x73_3).toNat * 3)) = some (.int .i64 ((rd_T45 x8_3 x73_3).f0)) ∧ w'.cell? ⟨(ad159.add ((x73_3).toNat * 3)).block,(ad159.add ((x73_3).toNat * 3)).off + 1,none⟩ = some (.int .i64 ((rd_T45 x8_3 x73_3).f1)) ∧ w'.cell? ⟨(ad159.add ((x73_3).toNat * 3)).block,(ad159.add ((x73_3).toNat * 3)).off + 2,none⟩ = some (.slice A159_2 ((rd_T45 x8_3 x73_3).f2).length c159_2) ∧ w'.cell? (ad159.add ((x73_3).toNat * 3)) = some (.int .i64 ((rd_T45 x8_3 x73_3).f0)) ∧ w'.cell? ⟨(ad159.add ((x73_3).toNat * 3)).block,(ad159.add ((x73_3).toNat * 3)).off + 1,none⟩ = some (.int .i64 ((rd_T45 x8_3 x73_3).f1)) ∧ w'.cell? ⟨(ad159.add ((x73_3).toNat * 3)).block,(ad159.add ((x73_3).toNat * 3)).off + 2,none⟩ = some (.slice A159_2 ((rd_T45 x8_3 x73_3).f2).length c159_2)) (ds:=[]) m0_4 (by kernel_rfl) rfl rfl ⟨hx159_0,hx159_1,hx159_2,hx160_0,hx160_1,hx160_2,hx161_0,hx161_1,hx161_2⟩ (fun hHeld => ?_);refine with_tabW impl_MoveTo.tab14 impl_MoveTo.bits14 (fun HT_ HW_ => ?_)
               generalize wr.drew = w42 at HO_8 HB HL159_2 HL160_2 HL161_2 HR159_2 HR160_2 HR161_2 HX159_2 HX160_2 HX161_2 hx159_0 hx159_1 hx159_2 hx160_0 hx160_1 hx160_2 hx161_0 hx161_1 hx161_2 hHeld ⊢
               refine pV (i:=0) (N:=some 76) m1_4 rfl rfl qT ?_
               refine pV (i:=1) (N:=some 77) m2_4 rfl rfl qT ?_
               refine pV (i:=2) (N:=some 78) m3_4 rfl rfl qT ?_
               refine pV (i:=3) (N:=some 79) m4_4 rfl rfl qT ?_
               refine pV (i:=5) (N:=some 81) m10_4 rfl rfl qT ?_
               refine take_ (i:=4) (N:=some 80) (v:=?_) (a':=?_) m5_4 rfl rfl (take_ofW HT_.out HW_.out (by kernel_rfl)) (fun _ _ _ h => h) (Or.inl ⟨by rfl,?_⟩) hHeld ?_ ?_;rotate_left
               ·rintro w' ⟨s0,s1,s2,s3,s4,s5,s6,s7,s8⟩
                go_simp;with_reducible rfl
               rotate_left
               ·simp only [Act.put,sA,s0,s1,i64_w,i32_w];rfl
               refine pV (i:=6) (N:=some 82) m11_4 rfl rfl qT ?_
               refine pV (i:=7) (N:=some 83) m12_4 rfl rfl qT ?_
               refine pV (i:=8) (N:=some 84) m13_4 rfl rfl qT ?_
               refine pV (i:=9) (N:=some 85) m14_4 rfl rfl qT ?_
               refine pV (i:=10) (N:=some 86) m15_4 rfl rfl qT ?_
               refine pV (i:=11) (N:=some 87) m16_4 rfl rfl qT ?_
               refine pV (i:=14) (N:=some 90) #[Y,Y,Y,Y,Y,Y,Y,Y,Y,Y,Y,Y,Z,Z,Y,Z,Z,Z,Z,Z,Z] rfl rfl qT ?_
               refine pV (i:=15) (N:=some 91) #[Y,Y,Y,Y,Y,Y,Y,Y,Y,Y,Y,Y,Z,Z,Y,Y,Z,Z,Z,Z,Z] rfl rfl qT ?_
               refine pV (i:=16) (N:=some 92) #[Y,Y,Y,Y,Y,Y,Y,Y,Y,Y,Y,Y,Z,Z,Y,Y,Y,Z,Z,Z,Z] rfl rfl qT ?_
               refine pV (i:=17) (N:=some 93) #[Y,Y,Y,Y,Y,Y,Y,Y,Y,Y,Y,Y,Z,Z,Y,Y,Y,Y,Z,Z,Z] rfl rfl qT ?_
               refine take_ (i:=12) (N:=some 88) (v:=?_) (a':=?_) #[Y,Y,Y,Y,Y,Y,Y,Y,Y,Y,Y,Y,Y,Z,Y,Y,Y,Y,Z,Z,Z] rfl rfl (take_ofW HT_.out HW_.out (by kernel_rfl)) (fun _ _ _ h => h) (Or.inl ⟨by rfl,?_⟩) hHeld ?_ ?_;rotate_left
               ·rintro w' ⟨s0,s1,s2,s3,s4,s5,s6,s7,s8⟩
                go_simp;with_reducible rfl
               rotate_left
               ·simp only [Act.put,sA,s0,s1,i64_w,i32_w];rfl
               refine pV (i:=13) (N:=some 89) m6_4 rfl rfl qT ?_
               refine take_ (i:=18) (N:=some 94) (v:=?_) (a':=?_) m7_4 rfl rfl (take_ofW HT_.out HW_.out (by kernel_rfl)) (fun _ _ _ h => h) (Or.inl ⟨by rfl,?_⟩) hHeld ?_ ?_;rotate_left
               ·rintro w' ⟨s0,s1,s2,s3,s4,s5,s6,s7,s8⟩
                go_simp;with_reducible rfl
               rotate_left
               ·simp only [Act.put,sA,s0,s1,i64_w,i32_w];rfl
               refine pV (i:=19) (N:=some 95) m8_4 rfl rfl qT ?_
               refine pV (i:=20) (N:=some 96) m9_4 rfl rfl qT ?_
               refine done_ (done_of HT_.out (by kernel_rfl)) ?_;have p162 : 0 ≤ (x73_3 : Int):=odt qq94;have q162 : x73_3 < (x8_3.length : Int):=odt qq94;obtain ⟨ad162,A162_2,c162_2,e162,hx162_0,hx162_1,hx162_2,hl162_2,hi162_2⟩:=at_T45 (Kd.S_reads' HO_8.out).2.2 x73_3 p162 q162;obtain rfl : ad159 = ad162:=(by injection e162)
               obtain ⟨ce162,hce162,hMe162,hcc162⟩:=Kd.S_get HO_8.out z45 x73_3 p162 (by first | exact q162 | exact odt qq94 | (have e_:=(Kd.S_reads' HO_8.out).1;omega));obtain ⟨ve162_2,rfl,ge162_2⟩:=k45_openM hMe162;have hv162_2:=hcc162 2 _ rfl;rw [add_field _ _ 2 (by omega)] at hv162_2;replace hv162_2:=Option.some.inj (hv162_2.symm.trans hx162_2);rw [hv162_2] at ge162_2;have HL162_2:=am (show Kd.R (Kd.int .i64) 3 _ _ _ _ ((rd_T45 x8_3 x73_3).f2) from ge162_2);clear hv162_2 ge162_2;have HX162_2:=am hx162_2;clear hcc162 hce162;have HR162_2:=am hi162_2;have HC162_2:=am hl162_2;clear hi162_2 hl162_2;replace p162:=eq_true p162;replace q162:=eq_true q162;have ea_:=Option.some.inj (hx159_2.symm.trans hx162_2)
               injection ea_ with ea_ en_ ec_
               subst ea_;subst ec_;clear en_;obtain ⟨go43,co43,eo43,gb43,gl43,cl43,HG43⟩:=Kd.S_form HO_8.out (by have h_ : (x73_3 : Int) < ((x8_3.length : Int) : Int):=odt qq94;have h2_ : 0 ≤ (x73_3 : Int):=(odt qq94);omega);(first | cases eo43 | (injection eo43 with ea_ en_ ec_;(first | subst ea_ | (injection ea_ with ea_;subst ea_));subst ec_;clear en_));have GB43:=am gb43;have GG43:=am HG43;clear gb43 gl43 HG43;(first | simp only [add_plain] at hx159_0 | skip);(first | simp only [add_plain] at hx159_1 | skip);(first | simp only [add_plain] at hx159_2 | skip);(first | simp only [add_plain] at hx160_0 | skip);(first | simp only [add_plain] at hx160_1 | skip);(first | simp only [add_plain] at hx160_2 | skip);(first | simp only [add_plain] at hx161_0 | skip);(first | simp only [add_plain] at hx161_1 | skip);(first | simp only [add_plain] at hx161_2 | skip);(first | simp only [add_plain] at hx162_0 | skip);(first | simp only [add_plain] at hx162_1 | skip);(first | simp only [add_plain] at hx162_2 | skip);obtain ⟨oki43,ce43,hcl43,hM43,hcc43,_,_,hH43⟩:=Kd.S_elem HO_8.out z45 (x73_3 : Int) (odt qq94) (by have h_ : (x73_3 : Int) < ((x8_3.length : Int) : Int):=odt qq94;first | exact h_ | (have e_:=(Kd.S_reads' HO_8.out).1;omega) | simpa using h_);obtain ⟨ve43_2,rfl,ge43_2⟩:=k45_openM hM43;have hv43:=hcc43 2 _ rfl;have hX43:=HX162_2.out;(try simp only [add_plain] at hX43);(try simp only [Nat.add_zero] at hv43);replace hv43:=Option.some.inj (hv43.symm.trans hX43);subst hv43;clear hX43 hcc43 hcl43;have UU43:=am (show Kd.R (Kd.int .i64) 3 _ w.heap.size oki43 (.slice A159_2 ((rd_T45 x8_3 x73_3).f2).length c159_2) ((rd_T45 x8_3 x73_3).f2) from ge43_2);have HH43:=am hH43;have HN43:=am (Kd.S_reads' HO_8.out).1;clear hH43 ge43_2
               try go_wp2_with (first | ((with_reducible refine gate_builtin (b:=.append) (xs:=#[.tmp 103,.tmp 105]) rfl ?_);(try (refine gate_guard (by rfl) ?_;dsimp only));at_builtin;refine Kd.R_append (Kd.int .i64) (w0:=w) w.heap.size rfl (.tmp 103) (.tmp 105) 43 3 (.int .i64 0) 8 rfl Try.underlying43 info3 rfl (by decide) (by omega) (.slice A159_2 ((rd_T45 x8_3 x73_3).f2).length c159_2) ((rd_T45 x8_3 x73_3).f2) a1 [.int .i64 a1] (fun k_ => oki43 k_ ∨ ((fun _ => True)) k_ ∧ w42.heap.size ≤ k_) (fun _ => False) rfl rfl ?aP (fun _ hk => hk.elim) ?aF ?aO ?aB ?aS ?aL ?_;(case aP => exact rfl);(case aB => exact qq63);(case aF => exact qq97);(case aO => exact (by (with_reducible repeat (first | apply kA | apply kN | apply kD));exact Kd.R_mono UU43.out (fun _ hk => .inl hk)));(case aS => exact qq60);(case aL => have:=LMc40.out;omega);intro v164 w44 ho hb hg hat;rw [← Ny163.out] at ho;replace HB:=am (hb);replace HH43:=am (Kd.H_grown (Kd.H_widen (by repeat (first | exact HH43.out | refine Kd.H_alloc ?_ _ | refine Kd.H_drewN ?_ _ | refine Kd.H_drew ?_))) hg (fun k_ e_ => .inl (UU43.out.1 k_ e_)));have HO165:=am (ho);clear HO_8 UU43 HL159_2 HL160_2 HL161_2 HL162_2;clear ho hb hg hat;have p41 : 0 ≤ (x73_3 : Int):=odt qq94;have q41 : (x73_3 : Int) < ((x8_3.length : Int) : Int):=odt qq94;replace p41:=eq_true p41;replace q41:=eq_true q41;obtain ⟨Ao47,co47,eo47⟩:=Kd.R_slice HO165.out;subst eo47;obtain ⟨_,_,hraw45,_,_,hcc45,_⟩:=Kd.H_raw HH43.out (odt qq94) qq11;obtain ⟨_,hfr45⟩:=Kd.H_at HH43.out (odt qq94) qq11;have hx45_0:=hcc45 2 _ rfl;have hf45_0:=hfr45 2;(try rw [show (k45).sz = 3 from rfl] at hx45_0);(try rw [show (k45).sz = 3 from rfl] at hf45_0);have HP45:=Kd.S_seg0 HH43.out (odt qq94) qq11 (seg:=[.slice Ao47 y163.length co47]) (j:=2) (show 3 ≤ 3 from by decide) (x':=(⟨(rd_T45 x8_3 x73_3).f0,(rd_T45 x8_3 x73_3).f1,y163⟩ : S45)) (k45_mkM _ _ _ (⟨(rd_T45 x8_3 x73_3).f0,(rd_T45 x8_3 x73_3).f1,y163⟩ : S45) HO165.out) (fun _ hk => hk);clear hcc45 hfr45) | ((with_reducible refine gate_store (t:=43) (p:=108) rfl ?_);refine store_event (t:=43) (p:=108) (v:=?vo_w46) (w1:=(w44.setCell ⟨go43,(x73_3 : Int).toNat * 3 + 2,none⟩ (.slice Ao47 y163.length co47))) ?hg ?ho ?hn ?hr ?_;(case ho => rfl);(case hg => rfl);(case hn => rfl);(case hr => exact qq96);intro w46 hw;have hg : w44.grownBy w46 (some go43):=(by rw [hw];exact HP45.2);have hp_ : Kd.S k45 45 w46 w.heap.size (fun _ => True) (.slice (some ⟨go43,0,none⟩) x8_3.length co16) y166:=(by rw [hw,Ny166.out];exact HP45.1);clear HP45;replace HB:=am ((by rw [hw];exact below_set HB.out GB43.out : Below w.heap.size w w46));have HO_8:=am (hp_);clear HO165 HH43;clear hg hw hp_ hraw45))
               go_ret2
               exact ⟨_,qq81,qq74,qq73⟩
              ·rw [if_neg c40] at H;exact absurd H (by simp)
             ·rw [if_neg c39] at H;have c39b0 : decide ((((rd_T45 x8_3 x73_3).f2).length : Int) < ((rd_T45 x8_3 x73_3).f1)) = false:=decide_eq_false c39;clear c39;have H':=am H;clear H
              try go_wp2
              replace HO_8:=am (Kd.S_drew HO_8.out);replace HB:=am qq141;have p159 : 0 ≤ (x73_3 : Int):=odt qq94;have q159 : x73_3 < (x8_3.length : Int):=odt qq94;obtain ⟨ad159,A159_2,c159_2,e159,hx159_0,hx159_1,hx159_2,hl159_2,hi159_2⟩:=at_T45 (Kd.S_reads' HO_8.out).2.2 x73_3 p159 q159
              cases e159
              obtain ⟨ce159,hce159,hMe159,hcc159⟩:=Kd.S_get HO_8.out z45 x73_3 p159 qq58;obtain ⟨ve159_2,rfl,ge159_2⟩:=k45_openM hMe159;have hv159_2:=hcc159 2 _ rfl;rw [add_field _ _ 2 (by omega)] at hv159_2;replace hv159_2:=Option.some.inj (hv159_2.symm.trans hx159_2);rw [hv159_2] at ge159_2;have HL159_2:=am qq121;clear hv159_2 ge159_2;have HX159_2:=am hx159_2;clear hcc159 hce159;have HR159_2:=am hi159_2;have HC159_2:=am hl159_2;clear hi159_2 hl159_2;replace p159:=eq_true p159;replace q159:=eq_true q159;have p160 : 0 ≤ (x73_3 : Int):=odt qq94;have q160 : x73_3 < (x8_3.length : Int):=odt qq94;obtain ⟨ad160,A160_2,c160_2,e160,hx160_0,hx160_1,hx160_2,hl160_2,hi160_2⟩:=at_T45 (Kd.S_reads' HO_8.out).2.2 x73_3 p160 q160;obtain rfl : ad159 = ad160:=(by injection e160)
              obtain ⟨ce160,hce160,hMe160,hcc160⟩:=Kd.S_get HO_8.out z45 x73_3 p160 qq57;obtain ⟨ve160_2,rfl,ge160_2⟩:=k45_openM hMe160;have hv160_2:=hcc160 2 _ rfl;rw [add_field _ _ 2 (by omega)] at hv160_2;replace hv160_2:=Option.some.inj (hv160_2.symm.trans hx160_2);rw [hv160_2] at ge160_2;have HL160_2:=am (show Kd.R (Kd.int .i64) 3 _ _ _ _ ((rd_T45 x8_3 x73_3).f2) from ge160_2);clear hv160_2 ge160_2;have HX160_2:=am hx160_2;clear hcc160 hce160;have HR160_2:=am hi160_2;have HC160_2:=am hl160_2;clear hi160_2 hl160_2;replace p160:=eq_true p160;replace q160:=eq_true q160;have ea_:=Option.some.inj (hx159_2.symm.trans hx160_2)
              injection ea_ with ea_ en_ ec_
              subst ea_;subst ec_;clear en_;have p161 : 0 ≤ (x73_3 : Int):=odt qq94;have q161 : x73_3 < (x8_3.length : Int):=odt qq94;obtain ⟨ad161,A161_2,c161_2,e161,hx161_0,hx161_1,hx161_2,hl161_2,hi161_2⟩:=at_T45 (Kd.S_reads' HO_8.out).2.2 x73_3 p161 q161;obtain rfl : ad159 = ad161:=(by injection e161)
              obtain ⟨ce161,hce161,hMe161,hcc161⟩:=Kd.S_get HO_8.out z45 x73_3 p161 qq56;obtain ⟨ve161_2,rfl,ge161_2⟩:=k45_openM hMe161;have hv161_2:=hcc161 2 _ rfl;rw [add_field _ _ 2 (by omega)] at hv161_2;replace hv161_2:=Option.some.inj (hv161_2.symm.trans hx161_2);rw [hv161_2] at ge161_2;have HL161_2:=am (show Kd.R (Kd.int .i64) 3 _ _ _ _ ((rd_T45 x8_3 x73_3).f2) from ge161_2);clear hv161_2 ge161_2;have HX161_2:=am hx161_2;clear hcc161 hce161;have HR161_2:=am hi161_2;have HC161_2:=am hl161_2;clear hi161_2 hl161_2;replace p161:=eq_true p161;replace q161:=eq_true q161;have ea_:=Option.some.inj (hx159_2.symm.trans hx161_2)
              injection ea_ with ea_ en_ ec_
              subst ea_;subst ec_;clear en_;refine start_ (n:=21) (S:=fun w' => w'.cell? (ad159.add ((x73_3).toNat * 3)) = some (.int .i64 ((rd_T45 x8_3 x73_3).f0)) ∧ w'.cell? ⟨(ad159.add ((x73_3).toNat * 3)).block,(ad159.add ((x73_3).toNat * 3)).off + 1,none⟩ = some (.int .i64 ((rd_T45 x8_3 x73_3).f1)) ∧ w'.cell? ⟨(ad159.add ((x73_3).toNat * 3)).block,(ad159.add ((x73_3).toNat * 3)).off + 2,none⟩ = some (.slice A159_2 ((rd_T45 x8_3 x73_3).f2).length c159_2) ∧ w'.cell? (ad159.add ((x73_3).toNat * 3)) = some (.int .i64 ((rd_T45 x8_3 x73_3).f0)) ∧ w'.cell? ⟨(ad159.add ((x73_3).toNat * 3)).block,(ad159.add ((x73_3).toNat * 3)).off + 1,none⟩ = some (.int .i64 ((rd_T45 x8_3 x73_3).f1)) ∧ w'.cell? ⟨(ad159.add ((x73_3).toNat * 3)).block,(ad159.add ((x73_3).toNat * 3)).off + 2,none⟩ = some (.slice A159_2 ((rd_T45 x8_3 x73_3).f2).length c159_2) ∧ w'.cell? (ad159.add ((x73_3).toNat * 3)) = some (.int .i64 ((rd_T45 x8_3 x73_3).f0)) ∧ w'.cell? ⟨(ad159.add ((x73_3).toNat * 3)).block,(ad159.add ((x73_3).toNat * 3)).off + 1,none⟩ = some (.int .i64 ((rd_T45 x8_3 x73_3).f1)) ∧ w'.cell? ⟨(ad159.add ((x73_3).toNat * 3)).block,(ad159.add ((x73_3).toNat * 3)).off + 2,none⟩ = some (.slice A159_2 ((rd_T45 x8_3 x73_3).f2).length c159_2)) (ds:=[]) m0_4 (by kernel_rfl) rfl rfl ⟨hx159_0,hx159_1,hx159_2,hx160_0,hx160_1,hx160_2,hx161_0,hx161_1,hx161_2⟩ (fun hHeld => ?_);refine with_tabW impl_MoveTo.tab14 impl_MoveTo.bits14 (fun HT_ HW_ => ?_)
              generalize wr.drew = w48 at HO_8 HB HL159_2 HL160_2 HL161_2 HR159_2 HR160_2 HR161_2 HX159_2 HX160_2 HX161_2 hx159_0 hx159_1 hx159_2 hx160_0 hx160_1 hx160_2 hx161_0 hx161_1 hx161_2 hHeld ⊢
              refine pV (i:=0) (N:=some 76) m1_4 rfl rfl qT ?_
              refine pV (i:=1) (N:=some 77) m2_4 rfl rfl qT ?_
              refine pV (i:=2) (N:=some 78) m3_4 rfl rfl qT ?_
              refine pV (i:=3) (N:=some 79) m4_4 rfl rfl qT ?_
              refine pV (i:=5) (N:=some 81) m10_4 rfl rfl qT ?_
              refine take_ (i:=4) (N:=some 80) (v:=?_) (a':=?_) m5_4 rfl rfl (take_ofW HT_.out HW_.out (by kernel_rfl)) (fun _ _ _ h => h) (Or.inl ⟨by rfl,?_⟩) hHeld ?_ ?_;rotate_left
              ·rintro w' ⟨s0,s1,s2,s3,s4,s5,s6,s7,s8⟩
               go_simp;with_reducible rfl
              rotate_left
              ·simp only [Act.put,sA,s0,s1,i64_w,i32_w];rfl
              refine pV (i:=6) (N:=some 82) m11_4 rfl rfl qT ?_
              refine pV (i:=7) (N:=some 83) m12_4 rfl rfl qT ?_
              refine pV (i:=8) (N:=some 84) m13_4 rfl rfl qT ?_
              refine pV (i:=9) (N:=some 85) m14_4 rfl rfl qT ?_
              refine pV (i:=10) (N:=some 86) m15_4 rfl rfl qT ?_
              refine pV (i:=11) (N:=some 87) m16_4 rfl rfl qT ?_
              refine pV (i:=14) (N:=some 90) #[Y,Y,Y,Y,Y,Y,Y,Y,Y,Y,Y,Y,Z,Z,Y,Z,Z,Z,Z,Z,Z] rfl rfl qT ?_
              refine pV (i:=15) (N:=some 91) #[Y,Y,Y,Y,Y,Y,Y,Y,Y,Y,Y,Y,Z,Z,Y,Y,Z,Z,Z,Z,Z] rfl rfl qT ?_
              refine pV (i:=16) (N:=some 92) #[Y,Y,Y,Y,Y,Y,Y,Y,Y,Y,Y,Y,Z,Z,Y,Y,Y,Z,Z,Z,Z] rfl rfl qT ?_
              refine pV (i:=17) (N:=some 93) #[Y,Y,Y,Y,Y,Y,Y,Y,Y,Y,Y,Y,Z,Z,Y,Y,Y,Y,Z,Z,Z] rfl rfl qT ?_
              refine take_ (i:=12) (N:=some 88) (v:=?_) (a':=?_) #[Y,Y,Y,Y,Y,Y,Y,Y,Y,Y,Y,Y,Y,Z,Y,Y,Y,Y,Z,Z,Z] rfl rfl (take_ofW HT_.out HW_.out (by kernel_rfl)) (fun _ _ _ h => h) (Or.inl ⟨by rfl,?_⟩) hHeld ?_ ?_;rotate_left
              ·rintro w' ⟨s0,s1,s2,s3,s4,s5,s6,s7,s8⟩
               go_simp;with_reducible rfl
              rotate_left
              ·simp only [Act.put,sA,s0,s1,i64_w,i32_w];rfl
              refine pV (i:=13) (N:=some 89) m6_4 rfl rfl qT ?_
              refine take_ (i:=18) (N:=some 94) (v:=?_) (a':=?_) m7_4 rfl rfl (take_ofW HT_.out HW_.out (by kernel_rfl)) (fun _ _ _ h => h) (Or.inl ⟨by rfl,?_⟩) hHeld ?_ ?_;rotate_left
              ·rintro w' ⟨s0,s1,s2,s3,s4,s5,s6,s7,s8⟩
               go_simp;with_reducible rfl
              rotate_left
              ·simp only [Act.put,sA,s0,s1,i64_w,i32_w];rfl
              refine pV (i:=19) (N:=some 95) m8_4 rfl rfl qT ?_
              refine pV (i:=20) (N:=some 96) m9_4 rfl rfl qT ?_
              refine done_ (done_of HT_.out (by kernel_rfl)) ?_
              try go_wp2
              (try simp only [← hl8_3])
              go_roundg k3
              case measure => have:=HJ5.out;have:=HK2.out;have:=HK3.out;omega
              case rel => exact ⟨(x8_3),(wrap64 (x73_3 + 1)),qq95,H',⟨by have:=HJ5.out;have:=HK2.out;have:=HK3.out;omega⟩,⟨qq30⟩,⟨qq73⟩⟩
            ·rw [if_neg c38] at H;have c38b0 : (((rd_T45 x8_3 x73_3).f0) == a2) = false:=beq_eq_false_iff_ne.mpr c38;have c38b1 : (((rd_T45 x8_3 x73_3).f0) != a2) = true:=bne_iff_ne.mpr c38;have H':=am H;clear H
             try go_wp2
             replace HO_8:=am (Kd.S_drew HO_8.out);replace HB:=am qq141;have p159 : 0 ≤ (x73_3 : Int):=odt qq94;have q159 : x73_3 < (x8_3.length : Int):=odt qq94;obtain ⟨ad159,A159_2,c159_2,e159,hx159_0,hx159_1,hx159_2,hl159_2,hi159_2⟩:=at_T45 (Kd.S_reads' HO_8.out).2.2 x73_3 p159 q159
             cases e159
             obtain ⟨ce159,hce159,hMe159,hcc159⟩:=Kd.S_get HO_8.out z45 x73_3 p159 qq58;obtain ⟨ve159_2,rfl,ge159_2⟩:=k45_openM hMe159;have hv159_2:=hcc159 2 _ rfl;rw [add_field _ _ 2 (by omega)] at hv159_2;replace hv159_2:=Option.some.inj (hv159_2.symm.trans hx159_2);rw [hv159_2] at ge159_2;have HL159_2:=am qq121;clear hv159_2 ge159_2;have HX159_2:=am hx159_2;clear hcc159 hce159;have HR159_2:=am hi159_2;have HC159_2:=am hl159_2;clear hi159_2 hl159_2;replace p159:=eq_true p159;replace q159:=eq_true q159;refine start_ (n:=21) (S:=fun w' => w'.cell? (ad159.add ((x73_3).toNat * 3)) = some (.int .i64 ((rd_T45 x8_3 x73_3).f0)) ∧ w'.cell? ⟨(ad159.add ((x73_3).toNat * 3)).block,(ad159.add ((x73_3).toNat * 3)).off + 1,none⟩ = some (.int .i64 ((rd_T45 x8_3 x73_3).f1)) ∧ w'.cell? ⟨(ad159.add ((x73_3).toNat * 3)).block,(ad159.add ((x73_3).toNat * 3)).off + 2,none⟩ = some (.slice A159_2 ((rd_T45 x8_3 x73_3).f2).length c159_2)) (ds:=[]) m0_4 (by kernel_rfl) rfl rfl ⟨hx159_0,hx159_1,hx159_2⟩ (fun hHeld => ?_);refine with_tabW impl_MoveTo.tab14 impl_MoveTo.bits14 (fun HT_ HW_ => ?_)
             generalize wr.drew = w49 at HO_8 HB HL159_2 HR159_2 HX159_2 hx159_0 hx159_1 hx159_2 hHeld ⊢
             refine pV (i:=0) (N:=some 76) m1_4 rfl rfl qT ?_
             refine pV (i:=1) (N:=some 77) m2_4 rfl rfl qT ?_
             refine pV (i:=2) (N:=some 78) m3_4 rfl rfl qT ?_
             refine pV (i:=3) (N:=some 79) m4_4 rfl rfl qT ?_
             refine pV (i:=5) (N:=some 81) m10_4 rfl rfl qT ?_
             refine tV3 (i:=4) (N:=some 80) m5_4 rfl rfl (take_ofW HT_.out HW_.out (by kernel_rfl)) hHeld ?_
             refine pV (i:=6) (N:=some 82) m11_4 rfl rfl qT ?_
             refine pV (i:=7) (N:=some 83) m12_4 rfl rfl qT ?_
             refine pW (i:=8) (N:=some 84) m13_4 rfl rfl qT ?_
             refine pW (i:=9) (N:=some 85) m14_4 rfl rfl qT ?_
             refine pW (i:=10) (N:=some 86) m15_4 rfl rfl qT ?_
             refine pW (i:=11) (N:=some 87) m16_4 rfl rfl qT ?_
             refine pW (i:=12) (N:=some 88) #[Y,Y,Y,Y,Y,Y,Y,Y,Y,Y,Y,Y,Y,Z,Z,Z,Z,Z,Z,Z,Z] rfl rfl qT ?_
             refine pW (i:=13) (N:=some 89) #[Y,Y,Y,Y,Y,Y,Y,Y,Y,Y,Y,Y,Y,Y,Z,Z,Z,Z,Z,Z,Z] rfl rfl qT ?_
             refine pW (i:=14) (N:=some 90) #[Y,Y,Y,Y,Y,Y,Y,Y,Y,Y,Y,Y,Y,Y,Y,Z,Z,Z,Z,Z,Z] rfl rfl qT ?_
             refine pW (i:=15) (N:=some 91) #[Y,Y,Y,Y,Y,Y,Y,Y,Y,Y,Y,Y,Y,Y,Y,Y,Z,Z,Z,Z,Z] rfl rfl qT ?_
             refine pW (i:=16) (N:=some 92) #[Y,Y,Y,Y,Y,Y,Y,Y,Y,Y,Y,Y,Y,Y,Y,Y,Y,Z,Z,Z,Z] rfl rfl qT ?_
             refine pW (i:=17) (N:=some 93) m6_4 rfl rfl qT ?_
             refine pW (i:=18) (N:=some 94) m7_4 rfl rfl qT ?_
             refine pW (i:=19) (N:=some 95) m8_4 rfl rfl qT ?_
             refine pV (i:=20) (N:=some 96) m9_4 rfl rfl qT ?_
             refine done_ (done_of HT_.out (by kernel_rfl)) ?_
             try go_wp2
             (try simp only [← hl8_3])
             go_roundg k3
             case measure => have:=HJ5.out;have:=HK2.out;have:=HK3.out;omega
             case rel => exact ⟨(x8_3),(wrap64 (x73_3 + 1)),qq95,H',⟨by have:=HJ5.out;have:=HK2.out;have:=HK3.out;omega⟩,⟨qq30⟩,⟨qq73⟩⟩
           ·rw [if_neg c37] at H;exact absurd H (by simp)
          ·rw [if_neg c36] at H;exact absurd H (by simp)
         ·rw [if_neg c35] at H;have c35b0 : decide (x73_3 < (x8_2.length : Int)) = false:=decide_eq_false c35
          try have c35bz : decide (x73_3 < (x8_3.length : Int)) = false:=by rw [← hl8_3];exact c35b0
          clear c35;replace H:=bS.mp H;obtain ⟨t167,A500,H⟩:=H;replace H : (some (t167,false)) = some (r1,r2):=H;have A50:=am A500;clear A500;simp only [Option.some.injEq,Prod.mk.injEq] at H;obtain ⟨rfl,rfl⟩:=H;go_wp2_with (first | ((with_reducible refine gate_callee (f:=30) rfl ?_);refine goesL_ (some 112) rfl rfl Try.func30 (by kernel_rfl) rfl #[.slice A0 l0.length c0] rfl qq50 ?_;(with_reducible refine (impl_copyTents.calls k3 _ _ l0 t167 _ ?side1 ?side2 A50.out).mono ?_);(case side1 => exact qq29);(case side2 => exact HC0.out);rintro e w51 ⟨v168,rfl,ho0,hb⟩;refine ⟨_,rfl,?_⟩;have HO169:=am (Kd.S_lower (Kd.S_new' ho0 (Kd.S_lt qq74)) (below_size qq73));replace HO_8:=am (Kd.S_elder' qq74 (Kd.S_base ho0) hb);replace HB:=am qq138;(try clear hb);(try clear hb2);(try clear hk);(try clear hi);(try clear ho0)))
          go_ret2
          exact ⟨_,qq81,by (with_reducible repeat (first | apply Kd.S_alloc | apply Kd.S_drewN | apply Kd.S_drew));exact Kd.S_mono HO169.out (fun _ hk => trivial),qq73⟩

end Go.Proofs.Ytnghncedinngoaa.PFnTents
