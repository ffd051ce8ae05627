/- Contracts of functions that the law FnWeathers reaches, for its row: lines that the kit's printer wrote for this claim, set shorter by a program of this session (own.py), and what fell in Lean proved anew. Lean checks them. -/
import Derived.Test.YtcbkknpmeknppaaSFnWeathersx0
import Derived.Test.YtcbkknpmeknppaaSFnWeathersx1
import Derived.Test.YtcbkknpmeknppaaSFnWeathersx3
import Derived.Test.YtcbkknpmeknppaaSFnWeathersx5
import Derived.Test.YtcbkknpmeknppaaSFnWeathersx6
import Derived.Test.YtcbkknpmeknppaaSFnWeathersx8
namespace Go.Proofs.Ytcbkknpmeknppaa.PFnWeathers
open Go.RowKit Go.Proofs.YtcbkknpmeknppaaW.PrintWords Go.Proofs.YtcbkknpmeknppaaW.PrintLast Go.Proofs.YtcbkknpmeknppaaW.PrintMore
attribute [local go_sem] max2_int min2_int max_two min_two max_three min_three max_four min_four   -- for this text's walks alone
set_option linter.unusedVariables false
set_option linter.unusedSimpArgs false

/-! ### impl_CountWeathers: function 25 -/
mutual
def impl_CountWeathers.j0 : Nat → List Bool → Int → Bool → Int → Int → Option (Int)
 | 0,_,_,_,_,_ => none
 | k + 1,x1,x2,x15,x300000,x300001 => if x15 = true then (some 0) else (if x2 = 0 then (some 1) else ((impl_AddDay.f x1 false).bind fun t302 => ((impl_CountWeathers.f k x300000 x300001 t302 (wrap64 (x2 - 1))).bind fun t305 => ((impl_MayStorm.f k x300000 x300001 x1).bind fun t306 => (if t306 = true then ((impl_AddDay.f x1 true).bind fun t307 => ((impl_CountWeathers.f k x300000 x300001 t307 (wrap64 (x2 - 1))).bind fun t310 => (some (wrap64 (t305 + t310))))) else (some t305))))))
def impl_CountWeathers.f : Nat → Int → Int → List Bool → Int → Option (Int)
 | 0,_,_,_,_ => none
 | k + 1,a0_0,a0_1,l1,a2 => (impl_IsRule.f a0_0 a0_1).bind fun t300 => (if t300 = true then ((impl_InRange.f a2 0 10).bind fun t301 => (impl_CountWeathers.j0 k l1 a2 (!t301) a0_0 a0_1)) else (impl_CountWeathers.j0 k l1 a2 true a0_0 a0_1))
end
def impl_CountWeathers.T7 : Bool × List (List Nat × List Nat) := (true, [([], []), ([], []), ([], []), ([2], [2]), ([], []), ([4], [4]), ([1, 3, 5, 3], [1, 3, 5]), ([0, 6], [0, 6]), ([7, 6, 0, 1, 2, 3, 4, 5, 6, 7], [0, 7])])
def impl_CountWeathers.B7 : List Nat := [0, 0, 0, 4, 0, 16, 62, 127, 255]
theorem impl_CountWeathers.tab7 : rtab .any (opsOf Try.f25 7) = impl_CountWeathers.T7 := by kernel_rfl
theorem impl_CountWeathers.bits7 : waitsOk impl_CountWeathers.T7.2 impl_CountWeathers.B7 = true := by kernel_rfl
set_option maxHeartbeats 8000000 in
set_option maxRecDepth 100000 in
theorem impl_CountWeathers.calls (k : Nat) : ∀ (a0_0 : Int) (a0_1 : Int) (A1 : Option Addr) (c1 : Nat) (l1 : List Bool) (a2 : Int) (r : Int) (w : World) (hr1 : Kd.C Kd.bool w A1 l1.length l1) (hc1 : l1.length ≤ c1) (h : impl_CountWeathers.f k a0_0 a0_1 l1 a2 = some r),
  Calls Try.prog 25 #[.agg #[.int .i64 a0_0,.int .i64 a0_1],.slice A1 l1.length c1,.int .i64 a2] w fun e w' => e = .returned (.int .i64 r) ∧ Below w.heap.size w w':=by
 induction k using Nat.strongRecOn with
 | _ k ih =>
 intro a0_0 a0_1 A1 c1 l1 a2 r w hr1 hc1 h
 cases k with
 | zero => exact absurd h (by simp [impl_CountWeathers.f])
 | succ k =>
 simp only [impl_CountWeathers.f] at h;have hu37:=Try.underlying37;have HR1:=am hr1;have HC1:=am hc1;clear hr1 hc1;have HB:=am (Below.refl w.heap.size w);have H : ((impl_IsRule.f a0_0 a0_1).bind fun t300 => (if t300 = true then ((impl_InRange.f a2 0 10).bind fun t301 => (impl_CountWeathers.j0 k l1 a2 (!t301) a0_0 a0_1)) else (impl_CountWeathers.j0 k l1 a2 true a0_0 a0_1))) = some r:=h;clear h;have HC4:=am H;clear H
 go_enter Try.func25,Try.ntmps25
 go_upto_region 1 with (first | ((with_reducible refine gate_dst (N:=3) rfl ?_);refine box_event ?hg (N:=3) ?hd (cs:=#[.int .i64 a0_0,.int .i64 a0_1]) (t:=37) ?hr ?_;(case hd => rfl);(case hg => rfl);(case hr => exact qq299);intro gb299 hg w5 hbox hb;have BK299:=am (hbox);have GW299:=am ((qq153 : w.heap.size ≤ gb299));have GE299:=am ((qq153 : w.heap.size ≤ gb299));replace HB:=am (below_step qq189 hb);clear hb hbox hg))
 (try simp only [Act.put,sA,s0,s1])
 go_cut [15] (fun v15 wc => ∃ (kq : Nat) (x15_3 : Bool),v15 = .bool x15_3 ∧ Aside0 (impl_CountWeathers.j0 kq l1 a2 x15_3 a0_0 a0_1 = some r) ∧ Aside0 (kq ≤ k) ∧ Aside0 (wc.heap[gb299]? = some (.cells #[.int .i64 a0_0,.int .i64 a0_1] 37 (0,0))) ∧ Aside0 (Below w.heap.size w wc))
 case first =>
  have H:=HC4.out;clear HC4;replace H:=bS.mp H;obtain ⟨t300,A60,H⟩:=H;replace H : (if t300 = true then ((impl_InRange.f a2 0 10).bind fun t301 => (impl_CountWeathers.j0 k l1 a2 (!t301) a0_0 a0_1)) else (impl_CountWeathers.j0 k l1 a2 true a0_0 a0_1)) = some r:=H;have A6:=am A60;clear A60
  by_cases c7 : t300 = true
  ·subst c7;have H1 : ((impl_InRange.f a2 0 10).bind fun t301 => (impl_CountWeathers.j0 k l1 a2 (!t301) a0_0 a0_1)) = some r:=by rw [if_pos rfl] at H;exact H
   clear H;have H:=H1;clear H1;replace H:=bS.mp H;obtain ⟨t301,A80,H⟩:=H;replace H : (impl_CountWeathers.j0 k l1 a2 (!t301) a0_0 a0_1) = some r:=H;have A8:=am A80;clear A80;have H':=am H;clear H;obtain ⟨hcz9_0,hcz9_1,hfz9_0,hfz9_1⟩:=bcl2 BK299.out;go_wp2_with (first | ((with_reducible refine gate_callee (f:=26) rfl ?_);refine goesL_ (some 9) rfl rfl Try.func26 (by kernel_rfl) rfl #[.agg #[.int .i64 a0_0,.int .i64 a0_1]] rfl qq177 ?_;(with_reducible refine (impl_IsRule.calls a0_0 a0_1 true _ A6.out).mono ?_);rintro e w10 ⟨rfl,hb⟩;refine ⟨_,rfl,?_⟩;replace BK299:=am (blk_below (g:=gb299) (o:=.cells #[.int .i64 a0_0,.int .i64 a0_1] 37 (0,0)) qq229 hb);replace HB:=am (below_step qq169 hb);(try clear hb);(try clear hb2);(try clear hk);(try clear hi)) | (go_at_call 76;(with_reducible refine (impl_InRange.calls a2 0 10 t301 _ A8.out).mono ?_);rintro e w' ⟨rfl,⟨nd,rfl⟩⟩))
   go_meet
   case rel => exact ⟨_,(!t301),qq298,H',⟨qq301⟩,⟨qq229⟩,⟨qq169⟩⟩
  ·replace c7:=Bool.eq_false_iff.mpr c7;subst c7;have H1 : (impl_CountWeathers.j0 k l1 a2 true a0_0 a0_1) = some r:=by rw [if_neg (show ¬ (false = true) by decide)] at H;exact H
   clear H;have H:=H1;clear H1;have H':=am H;clear H;obtain ⟨hcz11_0,hcz11_1,hfz11_0,hfz11_1⟩:=bcl2 BK299.out;go_wp2_with (first | ((with_reducible refine gate_callee (f:=26) rfl ?_);refine goesL_ (some 9) rfl rfl Try.func26 (by kernel_rfl) rfl #[.agg #[.int .i64 a0_0,.int .i64 a0_1]] rfl qq177 ?_;(with_reducible refine (impl_IsRule.calls a0_0 a0_1 false _ A6.out).mono ?_);rintro e w12 ⟨rfl,hb⟩;refine ⟨_,rfl,?_⟩;replace BK299:=am (blk_below (g:=gb299) (o:=.cells #[.int .i64 a0_0,.int .i64 a0_1] 37 (0,0)) qq229 hb);replace HB:=am (below_step qq169 hb);(try clear hb);(try clear hb2);(try clear hk);(try clear hi)))
   go_meet
   case rel => exact ⟨_,(true),qq298,H',⟨qq301⟩,⟨qq229⟩,⟨qq169⟩⟩
 case rest =>
  clear HC4
  try clear c1
  try clear c2
  try clear p2
  try clear c7
  try clear hcz11_0
  try clear hcz11_1
  try clear hcz9_0
  try clear hcz9_1
  try clear hfz11_0
  try clear hfz11_1
  try clear hfz9_0
  try clear hfz9_1
  obtain ⟨kq,x15_3,rfl,HA,HJ3,BK299,HB⟩:=hcut
  cases kq with
  | zero => exact absurd HA.out (by simp [impl_CountWeathers.j0])
  | succ kj3 =>
   have H:=HA.out;clear HA;simp only [impl_CountWeathers.j0] at H
   by_cases c13 : x15_3 = true
   ·subst c13;have H1 : (some 0) = some r:=by rw [if_pos rfl] at H;exact H
    clear H;have H:=H1;clear H1;obtain rfl:=Option.some.inj H;go_wp2
    go_ret
    exact ⟨qq244,qq169⟩
   ·replace c13:=Bool.eq_false_iff.mpr c13;subst c13;have H1 : (if a2 = 0 then (some 1) else ((impl_AddDay.f l1 false).bind fun t302 => ((impl_CountWeathers.f kj3 a0_0 a0_1 t302 (wrap64 (a2 - 1))).bind fun t305 => ((impl_MayStorm.f kj3 a0_0 a0_1 l1).bind fun t306 => (if t306 = true then ((impl_AddDay.f l1 true).bind fun t307 => ((impl_CountWeathers.f kj3 a0_0 a0_1 t307 (wrap64 (a2 - 1))).bind fun t310 => (some (wrap64 (t305 + t310))))) else (some t305)))))) = some r:=by rw [if_neg (show ¬ (false = true) by decide)] at H;exact H
    clear H;have H:=H1;clear H1
    by_cases c14 : a2 = 0
    ·rw [if_pos c14] at H;have c14b0 : (a2 == 0) = true:=beq_iff_eq.mpr c14;have c14b1 : (a2 != 0) = false:=bne_eq_false_iff_eq.mpr c14;clear c14;obtain rfl:=Option.some.inj H;go_wp2
     go_ret
     exact ⟨qq244,qq169⟩
    ·rw [if_neg c14] at H;have c14b0 : (a2 == 0) = false:=beq_eq_false_iff_ne.mpr c14;have c14b1 : (a2 != 0) = true:=bne_iff_ne.mpr c14;replace H:=bS.mp H;obtain ⟨t302,A150,H⟩:=H;replace H : ((impl_CountWeathers.f kj3 a0_0 a0_1 t302 (wrap64 (a2 - 1))).bind fun t305 => ((impl_MayStorm.f kj3 a0_0 a0_1 l1).bind fun t306 => (if t306 = true then ((impl_AddDay.f l1 true).bind fun t307 => ((impl_CountWeathers.f kj3 a0_0 a0_1 t307 (wrap64 (a2 - 1))).bind fun t310 => (some (wrap64 (t305 + t310))))) else (some t305)))) = some r:=H;have A15:=am A150;clear A150;replace H:=bS.mp H;obtain ⟨t305,A160,H⟩:=H;replace H : ((impl_MayStorm.f kj3 a0_0 a0_1 l1).bind fun t306 => (if t306 = true then ((impl_AddDay.f l1 true).bind fun t307 => ((impl_CountWeathers.f kj3 a0_0 a0_1 t307 (wrap64 (a2 - 1))).bind fun t310 => (some (wrap64 (t305 + t310))))) else (some t305))) = some r:=H;have A16:=am A160;clear A160;replace H:=bS.mp H;obtain ⟨t306,A170,H⟩:=H;replace H : (if t306 = true then ((impl_AddDay.f l1 true).bind fun t307 => ((impl_CountWeathers.f kj3 a0_0 a0_1 t307 (wrap64 (a2 - 1))).bind fun t310 => (some (wrap64 (t305 + t310))))) else (some t305)) = some r:=H;have A17:=am A170;clear A170
     by_cases c18 : t306 = true
     ·subst c18;have H1 : ((impl_AddDay.f l1 true).bind fun t307 => ((impl_CountWeathers.f kj3 a0_0 a0_1 t307 (wrap64 (a2 - 1))).bind fun t310 => (some (wrap64 (t305 + t310))))) = some r:=by rw [if_pos rfl] at H;exact H
      clear H;have H:=H1;clear H1;replace H:=bS.mp H;obtain ⟨t307,A190,H⟩:=H;replace H : ((impl_CountWeathers.f kj3 a0_0 a0_1 t307 (wrap64 (a2 - 1))).bind fun t310 => (some (wrap64 (t305 + t310)))) = some r:=H;have A19:=am A190;clear A190;replace H:=bS.mp H;obtain ⟨t310,A200,H⟩:=H;replace H : (some (wrap64 (t305 + t310))) = some r:=H;have A20:=am A200;clear A200;obtain rfl:=Option.some.inj H
      try go_wp2
      replace BK299:=am (blk_drew BK299.out);replace HB:=am (below_drew1 HB.out);refine start_ (n:=7) (S:=fun w' => w'.cell? ⟨gb299,0,none⟩ = some (.int .i64 a0_0) ∧ w'.cell? ⟨gb299,1,none⟩ = some (.int .i64 a0_1)) (ds:=[]) #[Z,Z,Z,Z,Z,Z,Z] (by kernel_rfl) rfl rfl ⟨(blk_cell BK299.out 0).trans rfl,(blk_cell BK299.out 1).trans rfl⟩ (fun hHeld => ?_)
      generalize wc.drew = w21 at BK299 HB hHeld ⊢
      refine pV (i:=1) (N:=some 19) #[Z,Y,Z,Z,Z,Z,Z] rfl rfl (by kernel_rfl) ?_
      refine pV (i:=3) (N:=some 21) #[Z,Y,Z,Y,Z,Z,Z] rfl rfl (by kernel_rfl) ?_
      refine pV (i:=4) (N:=some 22) #[Z,Y,Z,Y,Y,Z,Z] rfl rfl (by kernel_rfl) ?_
      refine tV2 (i:=0) (N:=some 18) #[Y,Y,Z,Y,Y,Z,Z] rfl rfl (by kernel_rfl) hHeld ?_
      refine one_ (i:=2) (N:=some 20) #[Y,Y,Y,Y,Y,Z,Z] rfl rfl (by kernel_rfl) (by decide) (fun K hK => ?_);refine goes_ Try.func82 (by kernel_rfl) rfl #[.slice A1 l1.length c1,.bool false] (by rfl) rfl rfl qq177 ?_;with_reducible refine (impl_AddDay.calls _ _ l1 false t302 _ ?side1 ?side2 A15.out).mono ?_
      (case side1 => exact qq142);(case side2 => exact HC1.out)
      rintro e w22 ⟨v303,rfl,ho0,hb⟩
      refine ⟨_,rfl,?_⟩;have HO304:=am (Kd.R_lower ho0 (below_size qq169));replace BK299:=am (blk_below (g:=gb299) (o:=.cells #[.int .i64 a0_0,.int .i64 a0_1] 37 (0,0)) qq229 hb);replace HB:=am (below_step qq169 hb);(try clear hb);(try clear hb2);(try clear hk);(try clear hi);(try clear ho0);obtain ⟨Ao23,co23,eo23⟩:=Kd.R_slice HO304.out;(first | subst eo23 | (injection eo23 with f1_ f2_ f3_;have f4_:=f1_.symm;have f5_:=f3_.symm;clear f1_ f2_ f3_;subst f4_;subst f5_));refine hK.out _ _ ⟨(blk_cell BK299.out 0).trans rfl,(blk_cell BK299.out 1).trans rfl⟩ (fun hHeld => ?_);clear hK K;refine norm_ (a':=?_) ?_ ?_;rotate_left
      ·show Act.put _ (some 20) _ = _
       simp only [Act.put,sA,s0,s1,i64_w,i32_w];rfl
      refine one_ (i:=5) (N:=some 23) #[Y,Y,Y,Y,Y,Y,Z] rfl rfl (by kernel_rfl) (by decide) (fun K hK => ?_);refine goes_ Try.func25 (by kernel_rfl) rfl #[.agg #[.int .i64 a0_0,.int .i64 a0_1],.slice Ao23 t302.length co23,.int .i64 (wrap64 (a2 - 1))] (by rfl) rfl rfl qq177 ?_;with_reducible refine (ih kj3 qq308 a0_0 a0_1 _ _ t302 (wrap64 (a2 - 1)) t305 _ ?side1 ?side2 A16.out).mono ?_
      (case side1 => exact qq139);(case side2 => exact (Kd.R_reads' HO304.out).2.1)
      rintro e w24 ⟨rfl,hb⟩
      refine ⟨_,rfl,?_⟩;replace HO304:=am (Kd.R_below qq278 hb);replace BK299:=am (blk_below (g:=gb299) (o:=.cells #[.int .i64 a0_0,.int .i64 a0_1] 37 (0,0)) qq229 hb);replace HB:=am (below_step qq169 hb);(try clear hb);(try clear hb2);(try clear hk);(try clear hi);refine hK.out _ _ ⟨(blk_cell BK299.out 0).trans rfl,(blk_cell BK299.out 1).trans rfl⟩ (fun hHeld => ?_);clear hK K;refine norm_ (a':=?_) ?_ ?_;rotate_left
      ·show Act.put _ (some 23) _ = _
       simp only [Act.put,sA,s0,s1,i64_w,i32_w];rfl
      refine pV (i:=6) (N:=some 7) #[Y,Y,Y,Y,Y,Y,Y] rfl rfl (by kernel_rfl) ?_
      refine done_ (by kernel_rfl) ?_;obtain ⟨hcz25_0,hcz25_1,hfz25_0,hfz25_1⟩:=bcl2 BK299.out
      try go_wp2_with (first | ((with_reducible refine gate_callee (f:=83) rfl ?_);refine goesL_ (some 26) rfl rfl Try.func83 (by kernel_rfl) rfl #[.agg #[.int .i64 a0_0,.int .i64 a0_1],.slice A1 l1.length c1] rfl qq177 ?_;(with_reducible refine (impl_MayStorm.calls kj3 a0_0 a0_1 _ _ l1 true _ ?side1 ?side2 A17.out).mono ?_);(case side1 => exact qq142);(case side2 => exact HC1.out);rintro e w26 ⟨rfl,hb⟩;refine ⟨_,rfl,?_⟩;replace HO304:=am (Kd.R_below qq278 hb);replace BK299:=am (blk_below (g:=gb299) (o:=.cells #[.int .i64 a0_0,.int .i64 a0_1] 37 (0,0)) qq229 hb);replace HB:=am (below_step qq169 hb);(try clear hb);(try clear hb2);(try clear hk);(try clear hi)))
      replace HO304:=am (Kd.R_drew HO304.out);replace BK299:=am (blk_drew BK299.out);replace HB:=am (below_drew1 HB.out);refine start_ (n:=9) (S:=fun w' => w'.cell? ⟨gb299,0,none⟩ = some (.int .i64 a0_0) ∧ w'.cell? ⟨gb299,1,none⟩ = some (.int .i64 a0_1)) (ds:=[]) #[Z,Z,Z,Z,Z,Z,Z,Z,Z] (by kernel_rfl) rfl rfl ⟨(blk_cell BK299.out 0).trans rfl,(blk_cell BK299.out 1).trans rfl⟩ (fun hHeld => ?_);refine with_tabW impl_CountWeathers.tab7 impl_CountWeathers.bits7 (fun HT_ HW_ => ?_)
      generalize w26.drew = w27 at HO304 BK299 HB hHeld ⊢
      refine pV (i:=0) (N:=some 27) #[Y,Z,Z,Z,Z,Z,Z,Z,Z] rfl rfl qT ?_
      refine pV (i:=2) (N:=some 29) #[Y,Z,Y,Z,Z,Z,Z,Z,Z] rfl rfl qT ?_
      refine pV (i:=4) (N:=some 31) #[Y,Z,Y,Z,Y,Z,Z,Z,Z] rfl rfl qT ?_
      refine pV (i:=5) (N:=some 32) #[Y,Z,Y,Z,Y,Y,Z,Z,Z] rfl rfl qT ?_
      refine tV2 (i:=1) (N:=some 28) #[Y,Y,Y,Z,Y,Y,Z,Z,Z] rfl rfl (take_ofW HT_.out HW_.out (by kernel_rfl)) hHeld ?_
      refine one_ (i:=3) (N:=some 30) #[Y,Y,Y,Y,Y,Y,Z,Z,Z] rfl rfl (one_of HT_.out (by kernel_rfl)) (by decide) (fun K hK => ?_);refine goes_ Try.func82 (by kernel_rfl) rfl #[.slice A1 l1.length c1,.bool true] (by rfl) rfl rfl qq177 ?_;with_reducible refine (impl_AddDay.calls _ _ l1 true t307 _ ?side1 ?side2 A19.out).mono ?_
      (case side1 => exact qq142);(case side2 => exact HC1.out)
      rintro e w28 ⟨v308,rfl,ho0,hb⟩
      refine ⟨_,rfl,?_⟩;have HO309:=am (Kd.R_lower (Kd.R_new' ho0 (Kd.R_lt qq278)) (below_size qq169));replace HO304:=am (Kd.R_elder' qq278 (Kd.R_base ho0) hb);replace BK299:=am (blk_below (g:=gb299) (o:=.cells #[.int .i64 a0_0,.int .i64 a0_1] 37 (0,0)) qq229 hb);replace HB:=am (below_step qq169 hb);(try clear hb);(try clear hb2);(try clear hk);(try clear hi);(try clear ho0);obtain ⟨Ao29,co29,eo29⟩:=Kd.R_slice HO309.out;(first | subst eo29 | (injection eo29 with f1_ f2_ f3_;have f4_:=f1_.symm;have f5_:=f3_.symm;clear f1_ f2_ f3_;subst f4_;subst f5_));refine hK.out _ _ ⟨(blk_cell BK299.out 0).trans rfl,(blk_cell BK299.out 1).trans rfl⟩ (fun hHeld => ?_);clear hK K;refine norm_ (a':=?_) ?_ ?_;rotate_left
      ·show Act.put _ (some 30) _ = _
       simp only [Act.put,sA,s0,s1,i64_w,i32_w];rfl
      refine one_ (i:=6) (N:=some 33) #[Y,Y,Y,Y,Y,Y,Y,Z,Z] rfl rfl (one_of HT_.out (by kernel_rfl)) (by decide) (fun K hK => ?_);refine goes_ Try.func25 (by kernel_rfl) rfl #[.agg #[.int .i64 a0_0,.int .i64 a0_1],.slice Ao29 t307.length co29,.int .i64 (wrap64 (a2 - 1))] (by rfl) rfl rfl qq177 ?_;with_reducible refine (ih kj3 qq308 a0_0 a0_1 _ _ t307 (wrap64 (a2 - 1)) t310 _ ?side1 ?side2 A20.out).mono ?_
      (case side1 => repeat (first | exact (Kd.R_reads' HO309.out).2.2 | (with_reducible refine cA ?_ _) | (with_reducible refine cN ?_ _) | (with_reducible refine cD ?_)));(case side2 => exact (Kd.R_reads' HO309.out).2.1)
      rintro e w30 ⟨rfl,hb⟩
      refine ⟨_,rfl,?_⟩;replace HO304:=am (Kd.R_below qq278 hb);replace HO309:=am (Kd.R_below (by (with_reducible repeat (first | apply kA | apply kN | apply kD));exact HO309.out) hb);replace BK299:=am (blk_below (g:=gb299) (o:=.cells #[.int .i64 a0_0,.int .i64 a0_1] 37 (0,0)) qq229 hb);replace HB:=am (below_step qq169 hb);(try clear hb);(try clear hb2);(try clear hk);(try clear hi);refine hK.out _ _ ⟨(blk_cell BK299.out 0).trans rfl,(blk_cell BK299.out 1).trans rfl⟩ (fun hHeld => ?_);clear hK K;refine norm_ (a':=?_) ?_ ?_;rotate_left
      ·show Act.put _ (some 33) _ = _
       simp only [Act.put,sA,s0,s1,i64_w,i32_w];rfl
      refine pV (i:=7) (N:=some 34) #[Y,Y,Y,Y,Y,Y,Y,Y,Z] rfl rfl qT ?_
      refine pV (i:=8) (N:=some 7) #[Y,Y,Y,Y,Y,Y,Y,Y,Y] rfl rfl qT ?_
      refine done_ (done_of HT_.out (by kernel_rfl)) ?_
      try go_wp2
      go_ret
      exact ⟨qq244,qq169⟩
     ·replace c18:=Bool.eq_false_iff.mpr c18;subst c18;have H1 : (some t305) = some r:=by rw [if_neg (show ¬ (false = true) by decide)] at H;exact H
      clear H;have H:=H1;clear H1;obtain rfl:=Option.some.inj H
      try go_wp2
      replace BK299:=am (blk_drew BK299.out);replace HB:=am (below_drew1 HB.out);refine start_ (n:=7) (S:=fun w' => w'.cell? ⟨gb299,0,none⟩ = some (.int .i64 a0_0) ∧ w'.cell? ⟨gb299,1,none⟩ = some (.int .i64 a0_1)) (ds:=[]) #[Z,Z,Z,Z,Z,Z,Z] (by kernel_rfl) rfl rfl ⟨(blk_cell BK299.out 0).trans rfl,(blk_cell BK299.out 1).trans rfl⟩ (fun hHeld => ?_)
      generalize wc.drew = w31 at BK299 HB hHeld ⊢
      refine pV (i:=1) (N:=some 19) #[Z,Y,Z,Z,Z,Z,Z] rfl rfl (by kernel_rfl) ?_
      refine pV (i:=3) (N:=some 21) #[Z,Y,Z,Y,Z,Z,Z] rfl rfl (by kernel_rfl) ?_
      refine pV (i:=4) (N:=some 22) #[Z,Y,Z,Y,Y,Z,Z] rfl rfl (by kernel_rfl) ?_
      refine tV2 (i:=0) (N:=some 18) #[Y,Y,Z,Y,Y,Z,Z] rfl rfl (by kernel_rfl) hHeld ?_
      refine one_ (i:=2) (N:=some 20) #[Y,Y,Y,Y,Y,Z,Z] rfl rfl (by kernel_rfl) (by decide) (fun K hK => ?_);refine goes_ Try.func82 (by kernel_rfl) rfl #[.slice A1 l1.length c1,.bool false] (by rfl) rfl rfl qq177 ?_;with_reducible refine (impl_AddDay.calls _ _ l1 false t302 _ ?side1 ?side2 A15.out).mono ?_
      (case side1 => exact qq142);(case side2 => exact HC1.out)
      rintro e w32 ⟨v303,rfl,ho0,hb⟩
      refine ⟨_,rfl,?_⟩;have HO304:=am (Kd.R_lower ho0 (below_size qq169));replace BK299:=am (blk_below (g:=gb299) (o:=.cells #[.int .i64 a0_0,.int .i64 a0_1] 37 (0,0)) qq229 hb);replace HB:=am (below_step qq169 hb);(try clear hb);(try clear hb2);(try clear hk);(try clear hi);(try clear ho0);obtain ⟨Ao33,co33,eo33⟩:=Kd.R_slice HO304.out;(first | subst eo33 | (injection eo33 with f1_ f2_ f3_;have f4_:=f1_.symm;have f5_:=f3_.symm;clear f1_ f2_ f3_;subst f4_;subst f5_));refine hK.out _ _ ⟨(blk_cell BK299.out 0).trans rfl,(blk_cell BK299.out 1).trans rfl⟩ (fun hHeld => ?_);clear hK K;refine norm_ (a':=?_) ?_ ?_;rotate_left
      ·show Act.put _ (some 20) _ = _
       simp only [Act.put,sA,s0,s1,i64_w,i32_w];rfl
      refine one_ (i:=5) (N:=some 23) #[Y,Y,Y,Y,Y,Y,Z] rfl rfl (by kernel_rfl) (by decide) (fun K hK => ?_);refine goes_ Try.func25 (by kernel_rfl) rfl #[.agg #[.int .i64 a0_0,.int .i64 a0_1],.slice Ao33 t302.length co33,.int .i64 (wrap64 (a2 - 1))] (by rfl) rfl rfl qq177 ?_;with_reducible refine (ih kj3 qq308 a0_0 a0_1 _ _ t302 (wrap64 (a2 - 1)) t305 _ ?side1 ?side2 A16.out).mono ?_
      (case side1 => exact qq139);(case side2 => exact (Kd.R_reads' HO304.out).2.1)
      rintro e w34 ⟨rfl,hb⟩
      refine ⟨_,rfl,?_⟩;replace HO304:=am (Kd.R_below qq278 hb);replace BK299:=am (blk_below (g:=gb299) (o:=.cells #[.int .i64 a0_0,.int .i64 a0_1] 37 (0,0)) qq229 hb);replace HB:=am (below_step qq169 hb);(try clear hb);(try clear hb2);(try clear hk);(try clear hi);refine hK.out _ _ ⟨(blk_cell BK299.out 0).trans rfl,(blk_cell BK299.out 1).trans rfl⟩ (fun hHeld => ?_);clear hK K;refine norm_ (a':=?_) ?_ ?_;rotate_left
      ·show Act.put _ (some 23) _ = _
       simp only [Act.put,sA,s0,s1,i64_w,i32_w];rfl
      refine pV (i:=6) (N:=some 7) #[Y,Y,Y,Y,Y,Y,Y] rfl rfl (by kernel_rfl) ?_
      refine done_ (by kernel_rfl) ?_;obtain ⟨hcz35_0,hcz35_1,hfz35_0,hfz35_1⟩:=bcl2 BK299.out
      try go_wp2_with (first | ((with_reducible refine gate_callee (f:=83) rfl ?_);refine goesL_ (some 26) rfl rfl Try.func83 (by kernel_rfl) rfl #[.agg #[.int .i64 a0_0,.int .i64 a0_1],.slice A1 l1.length c1] rfl qq177 ?_;(with_reducible refine (impl_MayStorm.calls kj3 a0_0 a0_1 _ _ l1 false _ ?side1 ?side2 A17.out).mono ?_);(case side1 => exact qq142);(case side2 => exact HC1.out);rintro e w36 ⟨rfl,hb⟩;refine ⟨_,rfl,?_⟩;replace HO304:=am (Kd.R_below qq278 hb);replace BK299:=am (blk_below (g:=gb299) (o:=.cells #[.int .i64 a0_0,.int .i64 a0_1] 37 (0,0)) qq229 hb);replace HB:=am (below_step qq169 hb);(try clear hb);(try clear hb2);(try clear hk);(try clear hi)))
      go_ret
      exact ⟨qq244,qq169⟩

/-! ### spec_DrawKeeps: function 85 -/
def spec_DrawKeeps.f (k : Nat) (l0 : List Int) : Option (Int × Int × List Bool) := (spec_l1New.f k l0).bind fun bt312 => ((spec_l6Any.f k bt312.1 bt312.2.1 bt312.2.2).bind fun bt316 => (some (bt316.1, bt316.2.1, bt316.2.2.1)))
set_option maxHeartbeats 8000000 in
set_option maxRecDepth 100000 in
theorem spec_DrawKeeps.calls (k : Nat) (A0 : Option Addr) (c0 : Nat) (l0 : List Int) (r1 : Int) (r2 : Int) (r3 : List Bool) (w : World) (hr0 : Kd.C (Kd.int .u8) w A0 l0.length l0) (hc0 : l0.length ≤ c0) (h : spec_DrawKeeps.f k l0 = some (r1, r2, r3)) :
  Calls Try.prog 85 #[.slice A0 l0.length c0] w fun e w' => ∃ v2_ : Value,e = .returned (.tuple #[.agg #[.int .i64 r1,.int .i64 r2],v2_]) ∧ Kd.R Kd.bool 4 w' w.heap.size (fun _ => True) v2_ r3 ∧ Below w.heap.size w w':=by
 have hu37:=Try.underlying37;have HR0:=am hr0;have HC0:=am hc0;clear hr0 hc0;have HB:=am (Below.refl w.heap.size w);have H : ((spec_l1New.f k l0).bind fun bt312 => ((spec_l6Any.f k bt312.1 bt312.2.1 bt312.2.2).bind fun bt316 => (some (bt316.1,bt316.2.1,bt316.2.2.1)))) = some (r1,r2,r3):=h;clear h;replace H:=bS.mp H;obtain ⟨⟨t312,t313,t314⟩,A20,H⟩:=H;replace H : ((spec_l6Any.f k t312 t313 t314).bind fun bt316 => (some (bt316.1,bt316.2.1,bt316.2.2.1))) = some (r1,r2,r3):=H;have A2:=am A20;clear A20;replace H:=bS.mp H;obtain ⟨⟨t316,t317,t318,t321,t322⟩,A30,H⟩:=H;replace H : (some (t316,t317,t318)) = some (r1,r2,r3):=H;have A3:=am A30;clear A30;simp only [Option.some.injEq,Prod.mk.injEq] at H;obtain ⟨rfl,rfl,rfl⟩:=H
 go_enter Try.func85,Try.ntmps85
 go_wp2_with (first | ((with_reducible refine gate_dst (N:=2) rfl ?_);refine box_event ?hg (N:=2) ?hd (cs:=#[.int .i64 0,.int .i64 0]) (t:=37) ?hr ?_;(case hd => rfl);(case hg => rfl);(case hr => exact qq299);intro gb311 hg w4 hbox hb;have BK311:=am (hbox);have GW311:=am ((qq153 : w.heap.size ≤ gb311));have GE311:=am ((qq153 : w.heap.size ≤ gb311));replace HB:=am (below_step qq189 hb);clear hb hbox hg) | ((with_reducible refine gate_callee (f:=73) rfl ?_);refine goesL_ (some 6) rfl rfl Try.func73 (by kernel_rfl) rfl #[.slice A0 l0.length c0] rfl qq177 ?_;(with_reducible refine (spec_l1New.calls k _ _ l0 t312 t313 t314 w _ ?side1 ?side2 ?side3 A2.out).mono ?_);(case side1 => repeat (first | (with_reducible first | exact HB.out | apply bA | apply bN | apply bD | refine below_set ?_ GE311.out) | exact HB.out));(case side2 => exact HR0.out);(case side3 => exact HC0.out);rintro e w5 ⟨g315,rfl,hi,hb,hb2⟩;refine ⟨_,rfl,?_⟩;replace HB:=am (hb);have HI315:=am (hi);have NB315_311:=am (IsS141.ne_blk hi (blk_below (g:=gb311) (o:=.cells #[.int .i64 0,.int .i64 0] 37 (0,0)) qq228 hb2) (by decide));have NB311_315:=am (Ne.symm (IsS141.ne_blk hi (blk_below (g:=gb311) (o:=.cells #[.int .i64 0,.int .i64 0] 37 (0,0)) qq228 hb2) (by decide)));replace BK311:=am (blk_below (g:=gb311) (o:=.cells #[.int .i64 0,.int .i64 0] 37 (0,0)) qq228 hb2);(try clear hb);(try clear hb2);(try clear hk);(try clear hi)) | ((with_reducible refine gate_callee (f:=84) rfl ?_);refine goesL_ (some 8) rfl rfl Try.func84 (by kernel_rfl) rfl #[.pointer (some ⟨g315,0,none⟩)] rfl qq177 ?_;(with_reducible refine (spec_l6Any.calls k g315 t312 t313 t314 t316 t317 t318 t321 t322 w _ ?side1 ?side2 A3.out).mono ?_);(case side1 => repeat (first | (with_reducible first | exact HI315.out | apply IsS141.alloc | apply IsS141.drewN | apply IsS141.drew | apply IsS141.set_1 | apply IsS141.set_2 | refine IsS141.far ?_ NB315_311.out _) | exact HI315.out));(case side2 => exact qq114);rintro e w6 ⟨v319,rfl,ho0,hi,hb,hk⟩;refine ⟨_,rfl,?_⟩;replace BK311:=am (KeepBut.blk hk (g':=gb311) (o:=.cells #[.int .i64 0,.int .i64 0] 37 (0,0)) qq228 NB311_315.out (by simp));have HO320:=am (Kd.R_lower ho0 (below_size qq114));replace HB:=am (hb);replace HI315:=am (hi);(try clear hb);(try clear hb2);(try clear hk);(try clear hi);(try clear ho0);have hnb7:=NB311_315.out;have hnc7:=NB315_311.out;obtain ⟨hcz8_0,hcz8_1,hfz8_0,hfz8_1⟩:=bcl2 BK311.out))
 refine bodyPost_ret (results_ct rfl _ _ gb311 37 #[.int .i64 t316,.int .i64 t317] (0,0) _ rfl (by (with_reducible repeat (first | refine dN ?_ _ | refine dD ?_ | refine dA ?_ _));refine blk_put (cs:=#[.int .i64 t316,.int .i64 0]) ?_ 1 _ rfl;(with_reducible repeat (first | refine dN ?_ _ | refine dD ?_ | refine dA ?_ _));refine blk_put (cs:=#[.int .i64 0,.int .i64 0]) ?_ 0 _ rfl;(with_reducible repeat (first | refine dN ?_ _ | refine dD ?_ | refine dA ?_ _));exact BK311.out) Try.underlying37 rfl (by kernel_rfl)) rfl ?_;exact ⟨_,qq244,by (with_reducible repeat (first | apply kA | apply kN | apply kD));exact Kd.R_mono (Kd.R_far (p:=⟨gb311,1,none⟩) (Kd.R_far (p:=⟨gb311,0,none⟩) (Kd.R_types HO320.out BK311.out (by decide)) (fun _ hk => hk.2) (.int .i64 t316)) (fun _ hk => hk.2) (.int .i64 t317)) (fun _ hk => trivial),qq114⟩

/-! ### spec_DrawLongestStorm: function 27 -/
def spec_DrawLongestStorm.f (k : Nat) (l0 : List Int) : Option (Int × Int × List Bool) := (spec_DrawKeeps.f k l0).bind fun bt324 => (some (bt324.1, bt324.2.1, bt324.2.2))
set_option maxHeartbeats 8000000 in
set_option maxRecDepth 100000 in
theorem spec_DrawLongestStorm.calls (k : Nat) (A0 : Option Addr) (c0 : Nat) (l0 : List Int) (r1 : Int) (r2 : Int) (r3 : List Bool) (w : World) (hr0 : Kd.C (Kd.int .u8) w A0 l0.length l0) (hc0 : l0.length ≤ c0) (h : spec_DrawLongestStorm.f k l0 = some (r1, r2, r3)) :
  Calls Try.prog 27 #[.slice A0 l0.length c0] w fun e w' => ∃ v2_ : Value,e = .returned (.tuple #[.agg #[.int .i64 r1,.int .i64 r2],v2_]) ∧ Kd.R Kd.bool 4 w' w.heap.size (fun _ => True) v2_ r3 ∧ Below w.heap.size w w':=by
 have hu37:=Try.underlying37;have HR0:=am hr0;have HC0:=am hc0;clear hr0 hc0;have HB:=am (Below.refl w.heap.size w);have H : ((spec_DrawKeeps.f k l0).bind fun bt324 => (some (bt324.1,bt324.2.1,bt324.2.2))) = some (r1,r2,r3):=h;clear h;replace H:=bS.mp H;obtain ⟨⟨t324,t325,t326⟩,A20,H⟩:=H;replace H : (some (t324,t325,t326)) = some (r1,r2,r3):=H;have A2:=am A20;clear A20;simp only [Option.some.injEq,Prod.mk.injEq] at H;obtain ⟨rfl,rfl,rfl⟩:=H
 go_enter Try.func27,Try.ntmps27
 go_wp2_with (first | ((with_reducible refine gate_dst (N:=2) rfl ?_);refine box_event ?hg (N:=2) ?hd (cs:=#[.int .i64 0,.int .i64 0]) (t:=37) ?hr ?_;(case hd => rfl);(case hg => rfl);(case hr => exact qq299);intro gb323 hg w3 hbox hb;have BK323:=am (hbox);have GW323:=am ((qq153 : w.heap.size ≤ gb323));have GE323:=am ((qq153 : w.heap.size ≤ gb323));replace HB:=am (below_step qq189 hb);clear hb hbox hg) | ((with_reducible refine gate_callee (f:=85) rfl ?_);refine goesL_ (some 5) rfl rfl Try.func85 (by kernel_rfl) rfl #[.slice A0 l0.length c0] rfl qq177 ?_;(with_reducible refine (spec_DrawKeeps.calls k _ _ l0 t324 t325 t326 _ ?side1 ?side2 A2.out).mono ?_);(case side1 => exact qq143);(case side2 => exact HC0.out);rintro e w4 ⟨v327,rfl,ho0,hb⟩;refine ⟨_,rfl,?_⟩;have HO328:=am (Kd.R_lower ho0 (below_size qq168));replace BK323:=am (blk_below (g:=gb323) (o:=.cells #[.int .i64 0,.int .i64 0] 37 (0,0)) (by (with_reducible repeat (first | refine dN ?_ _ | refine dD ?_ | refine dA ?_ _));exact BK323.out) hb);replace HB:=am (below_step qq168 hb);(try clear hb);(try clear hb2);(try clear hk);(try clear hi);(try clear ho0);obtain ⟨hcz5_0,hcz5_1,hfz5_0,hfz5_1⟩:=bcl2 BK323.out))
 refine bodyPost_ret (results_ct rfl _ _ gb323 37 #[.int .i64 t324,.int .i64 t325] (0,0) _ rfl (by (with_reducible repeat (first | refine dN ?_ _ | refine dD ?_ | refine dA ?_ _));refine blk_put (cs:=#[.int .i64 t324,.int .i64 0]) ?_ 1 _ rfl;(with_reducible repeat (first | refine dN ?_ _ | refine dD ?_ | refine dA ?_ _));refine blk_put (cs:=#[.int .i64 0,.int .i64 0]) ?_ 0 _ rfl;(with_reducible repeat (first | refine dN ?_ _ | refine dD ?_ | refine dA ?_ _));exact BK323.out) Try.underlying37 rfl (by kernel_rfl)) rfl ?_;exact ⟨_,qq244,by (with_reducible repeat (first | apply kA | apply kN | apply kD));exact Kd.R_mono (Kd.R_far (p:=⟨gb323,1,none⟩) (Kd.R_far (p:=⟨gb323,0,none⟩) (Kd.R_types HO328.out BK323.out (by decide)) (fun _ hk => hk.2) (.int .i64 t324)) (fun _ hk => hk.2) (.int .i64 t325)) (fun _ hk => trivial),qq168⟩

/-! ### impl_LongestStorm: function 28 -/
def impl_LongestStorm.l0 : Nat → List Bool → Int → Int → Int → Option (Int)
 | 0,_,_,_,_ => none
 | k + 1,x1,x5,x330000,x330001 => (impl_MayStorm.f k x330000 x330001 x1).bind fun t330 => (if t330 = true then ((impl_AddDay.f x1 true).bind fun t331 => (impl_LongestStorm.l0 k t331 (wrap64 (x5 + 1)) x330000 x330001)) else (some x5))
def impl_LongestStorm.f (k : Nat) (a0_0 : Int) (a0_1 : Int) (l1 : List Bool) : Option (Int) := impl_LongestStorm.l0 k l1 0 a0_0 a0_1
set_option maxHeartbeats 8000000 in
set_option maxRecDepth 100000 in
theorem impl_LongestStorm.calls (k : Nat) (a0_0 : Int) (a0_1 : Int) (P1_ : Nat → Prop) (A1 : Option Addr) (c1 : Nat) (l1 : List Bool) (r : Int) (w : World) (hs1 : Kd.V Kd.bool 4 w w.heap.size (fun k_ => P1_ k_) (.slice A1 l1.length c1) l1) (h : impl_LongestStorm.f k a0_0 a0_1 l1 = some r) :
  Calls Try.prog 28 #[.agg #[.int .i64 a0_0,.int .i64 a0_1],.slice A1 l1.length c1] w fun e w' => e = .returned (.int .i64 r) ∧ Below w.heap.size w w':=by
 have hu37:=Try.underlying37;have HO1:=am (show Kd.V Kd.bool 4 w w.heap.size (fun k_ => (P1_ k_ ∨ w.heap.size ≤ k_)) (.slice A1 l1.length c1) l1 from Kd.V_mono hs1 (fun k_ hk => .inl hk));have HB:=am (Below.refl w.heap.size w);have H : (impl_LongestStorm.l0 k l1 0 a0_0 a0_1) = some r:=h;clear h;have H':=am H;clear H
 go_enter Try.func28,Try.ntmps28
 go_wp2_with (first | ((with_reducible refine gate_dst (N:=2) rfl ?_);refine box_event ?hg (N:=2) ?hd (cs:=#[.int .i64 a0_0,.int .i64 a0_1]) (t:=37) ?hr ?_;(case hd => rfl);(case hg => rfl);(case hr => exact qq299);intro gb329 hg w3 hbox hb;replace HO1:=am (Kd.V_below (Kd.V_elderB qq192 gb329 (Nat.le_of_eq hg.symm)) hb);have BK329:=am (hbox);have GW329:=am ((qq153 : w.heap.size ≤ gb329));have GE329:=am ((qq153 : w.heap.size ≤ gb329));replace HB:=am (below_step qq189 hb);clear hb hbox hg))
 go_loopg [1,5] k (fun kq v1 v5 w' => ∃ (x1_1 : List Bool) (x5_1 : Int),v5 = .int .i64 x5_1 ∧ Aside0 (impl_LongestStorm.l0 kq x1_1 x5_1 a0_0 a0_1 = some r) ∧ Aside0 (kq ≤ k) ∧ Aside0 (Kd.V Kd.bool 4 w' w.heap.size (fun k_ => (P1_ k_ ∨ w.heap.size ≤ k_) ∧ k_ ≠ gb329) v1 x1_1) ∧ Aside0 (w'.heap[gb329]? = some (.cells #[.int .i64 a0_0,.int .i64 a0_1] 37 (0,0))) ∧ Aside0 (Below w.heap.size w w'))
 case atStart => exact ⟨(l1),(0),qq298,H',⟨Nat.le_refl _⟩,⟨qq192⟩,⟨qq227⟩,⟨qq167⟩⟩
 case round =>
  clear H'
  try clear c1
  try clear c2
  try clear p2
  obtain ⟨x1_1,x5_1,rfl,HA,HK1,HO_1,BK329,HB⟩:=hrel
  cases gk with
  | zero => exact absurd HA.out (by simp [impl_LongestStorm.l0])
  | succ k1 =>
   have H:=HA.out;clear HA;simp only [impl_LongestStorm.l0] at H;replace H:=bS.mp H;obtain ⟨t330,A40,H⟩:=H;replace H : (if t330 = true then ((impl_AddDay.f x1_1 true).bind fun t331 => (impl_LongestStorm.l0 k1 t331 (wrap64 (x5_1 + 1)) a0_0 a0_1)) else (some x5_1)) = some r:=H;have A4:=am A40;clear A40
   by_cases c5 : t330 = true
   ·subst c5;have H1 : ((impl_AddDay.f x1_1 true).bind fun t331 => (impl_LongestStorm.l0 k1 t331 (wrap64 (x5_1 + 1)) a0_0 a0_1)) = some r:=by rw [if_pos rfl] at H;exact H
    clear H;have H:=H1;clear H1;replace H:=bS.mp H;obtain ⟨t331,A60,H⟩:=H;replace H : (impl_LongestStorm.l0 k1 t331 (wrap64 (x5_1 + 1)) a0_0 a0_1) = some r:=H;have A6:=am A60;clear A60;have H':=am H;clear H;obtain ⟨hcz7_0,hcz7_1,hfz7_0,hfz7_1⟩:=bcl2 BK329.out;obtain ⟨Ao8,co8,eo8⟩:=Kd.V_slice HO_1.out;subst eo8;go_wp2_with (first | ((with_reducible refine gate_callee (f:=83) rfl ?_);refine goesL_ (some 8) rfl rfl Try.func83 (by kernel_rfl) rfl #[.agg #[.int .i64 a0_0,.int .i64 a0_1],.slice Ao8 x1_1.length co8] rfl qq177 ?_;(with_reducible refine (impl_MayStorm.calls k1 a0_0 a0_1 _ _ x1_1 true _ ?side1 ?side2 A4.out).mono ?_);(case side1 => exact qq144);(case side2 => exact qq303);rintro e w9 ⟨rfl,hb⟩;refine ⟨_,rfl,?_⟩;replace HO_1:=am (Kd.V_below qq190 hb);replace BK329:=am (blk_below (g:=gb329) (o:=.cells #[.int .i64 a0_0,.int .i64 a0_1] 37 (0,0)) qq227 hb);replace HB:=am (below_step qq167 hb);(try clear hb);(try clear hb2);(try clear hk);(try clear hi)) | ((with_reducible refine gate_callee (f:=82) rfl ?_);refine goesL_ (some 10) rfl rfl Try.func82 (by kernel_rfl) rfl #[.slice Ao8 x1_1.length co8,.bool true] rfl qq177 ?_;(with_reducible refine (impl_AddDay.calls _ _ x1_1 true t331 _ ?side1 ?side2 A6.out).mono ?_);(case side1 => exact qq144);(case side2 => exact qq303);rintro e w10 ⟨v332,rfl,ho0,hb⟩;refine ⟨_,rfl,?_⟩;replace HO_1:=am (Kd.V_elder' qq190 (Kd.R_base ho0) hb);have HO333:=am (Kd.R_lower (Kd.R_newM (M:=fun k_ => (w.heap.size ≤ k_)) ho0 (below_size qq167) (fun k_ h_ => h_)) (below_size qq167));replace BK329:=am (blk_below (g:=gb329) (o:=.cells #[.int .i64 a0_0,.int .i64 a0_1] 37 (0,0)) qq227 hb);replace HB:=am (below_step qq167 hb);(try clear hb);(try clear hb2);(try clear hk);(try clear hi);(try clear ho0)))
    go_roundg k1
    case measure => have:=HK1.out;omega
    case rel => exact ⟨(t331),(wrap64 (x5_1 + 1)),qq298,H',⟨qq307⟩,⟨Kd.V_mono (Kd.R_V (by (with_reducible repeat (first | apply kA | apply kN | apply kD));exact Kd.R_mono (ok':=fun k => w.heap.size ≤ k ∧ k ≠ gb329) (Kd.R_types HO333.out BK329.out (by decide)) (fun _ hk => ⟨hk.1.1,hk.2⟩))) (fun k_ hk => by first | exact ⟨(.inr (hk.1)),hk.2⟩ | exact (.inr (hk)))⟩,⟨qq227⟩,⟨qq167⟩⟩
   ·replace c5:=Bool.eq_false_iff.mpr c5;subst c5;have H1 : (some x5_1) = some r:=by rw [if_neg (show ¬ (false = true) by decide)] at H;exact H
    clear H;have H:=H1;clear H1;obtain rfl:=Option.some.inj H;obtain ⟨hcz11_0,hcz11_1,hfz11_0,hfz11_1⟩:=bcl2 BK329.out;obtain ⟨Ao12,co12,eo12⟩:=Kd.V_slice HO_1.out;subst eo12;go_wp2_with (first | ((with_reducible refine gate_callee (f:=83) rfl ?_);refine goesL_ (some 8) rfl rfl Try.func83 (by kernel_rfl) rfl #[.agg #[.int .i64 a0_0,.int .i64 a0_1],.slice Ao12 x1_1.length co12] rfl qq177 ?_;(with_reducible refine (impl_MayStorm.calls k1 a0_0 a0_1 _ _ x1_1 false _ ?side1 ?side2 A4.out).mono ?_);(case side1 => exact qq144);(case side2 => exact qq303);rintro e w13 ⟨rfl,hb⟩;refine ⟨_,rfl,?_⟩;replace HO_1:=am (Kd.V_below qq190 hb);replace BK329:=am (blk_below (g:=gb329) (o:=.cells #[.int .i64 a0_0,.int .i64 a0_1] 37 (0,0)) qq227 hb);replace HB:=am (below_step qq167 hb);(try clear hb);(try clear hb2);(try clear hk);(try clear hi)))
    go_ret
    exact ⟨qq244,qq167⟩

/-! ### spec_l10Storms: function 86 -/
def spec_l10Storms.l0 : Nat → Int → List Bool → Int → List Int → Int → Int → Option (List Bool × Int × Int)
 | 0,_,_,_,_,_,_ => none
 | k + 1,x1,x5,x6,x1000,x1001,x1002 => if x6 < x1 then ((spec_l1Once.f x1000 x1001 x1002 4).bind fun bt337 => (if x5.length < 140737488355328 then (spec_l10Storms.l0 k x1 (x5 ++ [bt337.1]) (wrap64 (x6 + 1)) x1000 bt337.2.1 bt337.2.2) else (none))) else (some (x5,x1001,x1002))
def spec_l10Storms.f (k : Nat) (s0_0 : List Int) (s0_1 : Int) (s0_2 : Int) (a1 : Int) : Option (List Bool × Int × Int) := spec_l10Storms.l0 k a1 (([] : List Bool)) 0 s0_0 s0_1 s0_2
set_option maxHeartbeats 8000000 in
set_option maxRecDepth 100000 in
theorem spec_l10Storms.calls (k : Nat) (g : Nat) (s0_0 : List Int) (s0_1 : Int) (s0_2 : Int) (a1 : Int) (r1 : List Bool) (r2 : Int) (r3 : Int) (w0 w : World) (hI : IsS141 w0 w g s0_0 s0_1 s0_2) (hB : Below w0.heap.size w0 w) (h : spec_l10Storms.f k s0_0 s0_1 s0_2 a1 = some (r1, r2, r3)) :
  Calls Try.prog 86 #[.pointer (some ⟨g,0,none⟩),.int .i64 a1] w fun e w' => ∃ v0_ : Value,e = .returned (v0_) ∧ Kd.R Kd.bool 4 w' w.heap.size (fun _ => True) v0_ r1 ∧ IsS141 w0 w' g s0_0 r2 r3 ∧ Below w0.heap.size w0 w' ∧ KeepBut w w' g none:=by
 have HI0:=am hI;have HK:=am (KeepBut.refl w g none);have HL:=am hB.size;clear hI;have HW0:=am hB.size;have HB:=am hB;clear hB;have H : (spec_l10Storms.l0 k a1 (([] : List Bool)) 0 s0_0 s0_1 s0_2) = some (r1,r2,r3):=h;clear h;obtain ⟨y334,hy334⟩ : ∃ y_ : List Bool,y_ = (([] : List Bool)):=⟨_,rfl⟩
 replace H : (spec_l10Storms.l0 k a1 y334 0 s0_0 s0_1 s0_2) = some (r1,r2,r3):=by first | (rw [hy334];with_reducible exact H) | (have H2_:=(Option.bind_some _ _).symm.trans H;rw [hy334];with_reducible exact H2_) | (have H2_:=(Option.bind_some _ _).symm.trans H;with_reducible exact H2_) | with_reducible exact H | (rw [hy334];exact H) | exact H
 have Ny334:=am hy334;clear hy334;have H':=am H;clear H
 go_enter Try.func86,Try.ntmps86
 go_wp2_with (first | ((with_reducible refine gate_dst (N:=7) rfl ?_);refine Kd.R_lit Kd.bool _ 4 ?hg (N:=7) ?hd (xs:=([] : List Bool)) (inner:=[]) (ok:=fun _ => True) (okp:=fun _ => True) ?hr ?hp (fun _ hk => hk) trivial (Below.refl _ _) (Nat.le_refl _) (by simp) ?_;(case hd => rfl);(case hg => rfl);(case hr => exact qq299);(case hp => exact qq306);intro v335 w3 ho4 hb hg_ hnew_;clear hg_ hnew_;(first | rw [← Ny334.out] at ho4 | (simp only [Int.reduceToNat] at ho4;rw [← Ny334.out] at ho4));have HO336:=am (Kd.R_lower ho4 (keep_size (w:=w) (g:=g) (row:=none) qq146));replace HK:=am (KeepBut.trans qq146 (KeepBut.of_below hb g none) (.inl rfl));replace HB:=am (below_step qq149 hb);replace HI0:=am (IsS141.below qq122 hb);clear hb ho4))
 go_loopg [5,6] k (fun kq v5 v6 w' => ∃ (x5_1 : List Bool) (x6_1 : Int) (x1001_1 : Int) (x1002_1 : Int),v6 = .int .i64 x6_1 ∧ Aside0 (spec_l10Storms.l0 kq a1 x5_1 x6_1 s0_0 x1001_1 x1002_1 = some (r1,r2,r3)) ∧ Aside0 (kq ≤ k) ∧ Aside0 (Kd.R Kd.bool 4 w' w.heap.size (fun _ => True) v5 x5_1) ∧ Aside0 (IsS141 w0 w' g s0_0 x1001_1 x1002_1) ∧ Aside0 (KeepBut w w' g none) ∧ Aside0 (Below w0.heap.size w0 w'))
 case atStart => exact ⟨(y334),(0),(s0_1),(s0_2),qq298,H',⟨Nat.le_refl _⟩,⟨by (with_reducible repeat (first | apply kA | apply kN | apply kD));exact HO336.out⟩,⟨qq122⟩,⟨qq146⟩,⟨qq149⟩⟩
 case round =>
  clear H'
  try clear p2
  obtain ⟨x5_1,x6_1,x1001_1,x1002_1,rfl,HA,HK1,HO_5,HI0,HK,HB⟩:=hrel
  cases gk with
  | zero => exact absurd HA.out (by simp [spec_l10Storms.l0])
  | succ k1 =>
   have H:=HA.out;clear HA;simp only [spec_l10Storms.l0] at H
   by_cases c5 : x6_1 < a1
   ·rw [if_pos c5] at H;have c5b0 : decide (x6_1 < a1) = true:=decide_eq_true c5;clear c5;replace H:=bS.mp H;obtain ⟨⟨t337,t338,t339⟩,A60,H⟩:=H;replace H : (if x5_1.length < 140737488355328 then (spec_l10Storms.l0 k1 a1 (x5_1 ++ [t337]) (wrap64 (x6_1 + 1)) s0_0 t338 t339) else (none)) = some (r1,r2,r3):=H;have A6:=am A60;clear A60
    by_cases c7 : x5_1.length < 140737488355328
    ·rw [if_pos c7] at H;have LMc7:=am c7;clear c7;obtain ⟨y340,hy340⟩ : ∃ y_ : List Bool,y_ = (x5_1 ++ [t337]):=⟨_,rfl⟩
     replace H : (spec_l10Storms.l0 k1 a1 y340 (wrap64 (x6_1 + 1)) s0_0 t338 t339) = some (r1,r2,r3):=by first | (rw [hy340];with_reducible exact H) | (have H2_:=(Option.bind_some _ _).symm.trans H;rw [hy340];with_reducible exact H2_) | (have H2_:=(Option.bind_some _ _).symm.trans H;with_reducible exact H2_) | with_reducible exact H | (rw [hy340];exact H) | exact H
     have Ny340:=am hy340;clear hy340;have H':=am H;clear H;go_wp2_with (first | ((with_reducible refine gate_callee (f:=81) rfl ?_);refine goesL_ (some 15) rfl rfl Try.func81 (by kernel_rfl) rfl #[.pointer (some ⟨g,0,none⟩),.int .i64 4] rfl qq177 ?_;(with_reducible refine (spec_l1Once.calls g s0_0 x1001_1 x1002_1 4 t337 t338 t339 w0 _ ?side1 ?side2 A6.out).mono ?_);(case side1 => exact qq122);(case side2 => exact qq149);rintro e w8 ⟨rfl,hi,hb,hk⟩;refine ⟨_,rfl,?_⟩;replace HO_5:=am (Kd.R_mono (Kd.R_keep (IsS141.apart (show IsS141 w0 _ g s0_0 x1001_1 x1002_1 from by repeat (first | (with_reducible first | exact HI0.out | apply IsS141.alloc | apply IsS141.drewN | apply IsS141.drew | apply IsS141.set_1 | apply IsS141.set_2) | exact HI0.out)) qq289 (by decide)) hk (fun _ h => h.2)) (fun _ h => h.1));replace HK:=am (KeepBut.trans qq146 hk (.inl rfl));replace HB:=am (hb);replace HI0:=am (hi);(try clear hb);(try clear hb2);(try clear hk);(try clear hi)) | ((with_reducible refine gate_builtin (b:=.append) (xs:=#[.tmp 13,.tmp 16]) rfl ?_);at_builtin;refine Kd.R_append Kd.bool w.heap.size rfl (.tmp 13) (.tmp 16) 25 4 (.bool false) 1 rfl Try.underlying25 info4 rfl (by decide) (by omega) u5 x5_1 t337 [.bool t337] (fun _ => True) (fun _ => False) rfl rfl ?aP (fun _ hk => hk.elim) ?aF ?aO (Below.refl _ _) ?aS ?aL ?_;(case aP => exact rfl);(case aF => exact qq304);(case aO => exact qq249);(case aS => exact qq104);(case aL => have:=LMc7.out;omega);intro v341 w9 ho hb hg hat;rw [← Ny340.out] at ho;replace HB:=am (below_weaken qq149 HL.out hb);replace HI0:=am (IsS141.grown qq122 hg (IsS141.own_ne HI0.out HO_5.out (by decide)));replace HK:=am (KeepBut.trans qq146 (KeepBut.of_grown hg g) (Kd.R_base2 HO_5.out));have HO342:=am (ho);clear HO_5;clear ho hb hg hat))
     go_roundg k1
     case measure => have:=HK1.out;omega
     case rel => exact ⟨(y340),(wrap64 (x6_1 + 1)),(t338),(t339),qq298,H',⟨qq307⟩,⟨by (with_reducible repeat (first | apply kA | apply kN | apply kD));exact HO342.out⟩,⟨qq122⟩,⟨qq146⟩,⟨qq149⟩⟩
    ·rw [if_neg c7] at H;exact absurd H (by simp)
   ·rw [if_neg c5] at H;have c5b0 : decide (x6_1 < a1) = false:=decide_eq_false c5;clear c5;simp only [Option.some.injEq,Prod.mk.injEq] at H;obtain ⟨rfl,rfl,rfl⟩:=H;go_wp2
    go_ret
    exact ⟨_,qq244,qq289,qq122,qq149,qq146⟩

end Go.Proofs.Ytcbkknpmeknppaa.PFnWeathers
