/- Contracts of functions that the law FnWeathers reaches, for its row: lines that the kit's printer wrote for this claim, set shorter by a program of this session (own.py), and what fell in Lean proved anew. Lean checks them. -/
import Derived.Test.YtcbkknpmeknppaaSFnWeathersx0
import Derived.Test.YtcbkknpmeknppaaSFnWeathersx1
import Derived.Test.YtcbkknpmeknppaaSFnWeathersx5
import Derived.Test.YtcbkknpmeknppaaSFnWeathersx6
namespace Go.Proofs.Ytcbkknpmeknppaa.PFnWeathers
open Go.RowKit Go.Proofs.YtcbkknpmeknppaaW.PrintWords Go.Proofs.YtcbkknpmeknppaaW.PrintLast Go.Proofs.YtcbkknpmeknppaaW.PrintMore
attribute [local go_sem] max2_int min2_int max_two min_two max_three min_three max_four min_four   -- for this text's walks alone
set_option linter.unusedVariables false
set_option linter.unusedSimpArgs false

/-! ### impl_SlowestDays: function 22 -/
mutual
def impl_SlowestDays.j0 : Nat → List Bool → Int → Bool → Int → Int → Option (Int)
 | 0,_,_,_,_,_ => none
 | k + 1,x1,x2,x15,x227000,x227001 => if x15 = true then (some (-1)) else (if x2 = 0 then (some 0) else ((impl_AddDay.f x1 false).bind fun t229 => ((impl_SlowestDays.f k x227000 x227001 t229 (wrap64 (x2 - 1))).bind fun t232 => ((impl_MayStorm.f k x227000 x227001 x1).bind fun t233 => (if t233 = true then ((impl_AddDay.f x1 true).bind fun t234 => ((impl_SlowestDays.f k x227000 x227001 t234 x2).bind fun t237 => (some (mx (wrap64 (1 + t232)) (wrap64 (1 + t237)))))) else (some (wrap64 (1 + t232))))))))
def impl_SlowestDays.f : Nat → Int → Int → List Bool → Int → Option (Int)
 | 0,_,_,_,_ => none
 | k + 1,a0_0,a0_1,l1,a2 => (impl_IsRule.f a0_0 a0_1).bind fun t227 => (if t227 = true then ((impl_InRange.f a2 0 3).bind fun t228 => (impl_SlowestDays.j0 k l1 a2 (!t228) a0_0 a0_1)) else (impl_SlowestDays.j0 k l1 a2 true a0_0 a0_1))
end
def impl_SlowestDays.T5 : Bool × List (List Nat × List Nat) := (true, [([], []), ([], []), ([1], [1]), ([], []), ([3], [3]), ([0, 2, 4, 2], [0, 2, 4]), ([5], [5]), ([6, 5, 0, 1, 2, 3, 4, 5, 6], [6])])
def impl_SlowestDays.B5 : List Nat := [0, 0, 2, 0, 8, 31, 63, 127]
theorem impl_SlowestDays.tab5 : rtab .any (opsOf Try.f22 5) = impl_SlowestDays.T5 := by kernel_rfl
theorem impl_SlowestDays.bits5 : waitsOk impl_SlowestDays.T5.2 impl_SlowestDays.B5 = true := by kernel_rfl
def impl_SlowestDays.T7 : Bool × List (List Nat × List Nat) := (true, [([], []), ([], []), ([], []), ([2], [2]), ([], []), ([1, 3, 4, 3], [1, 3, 4]), ([5], [5]), ([0, 6], [0, 6]), ([7, 5, 0, 1, 2, 3, 4, 5, 6, 7], [0, 7])])
def impl_SlowestDays.B7 : List Nat := [0, 0, 0, 4, 0, 30, 62, 127, 255]
theorem impl_SlowestDays.tab7 : rtab .any (opsOf Try.f22 7) = impl_SlowestDays.T7 := by kernel_rfl
theorem impl_SlowestDays.bits7 : waitsOk impl_SlowestDays.T7.2 impl_SlowestDays.B7 = true := by kernel_rfl
set_option maxHeartbeats 8000000 in
set_option maxRecDepth 100000 in
theorem impl_SlowestDays.calls (k : Nat) : ∀ (a0_0 : Int) (a0_1 : Int) (A1 : Option Addr) (c1 : Nat) (l1 : List Bool) (a2 : Int) (r : Int) (w : World) (hr1 : Kd.C Kd.bool w A1 l1.length l1) (hc1 : l1.length ≤ c1) (h : impl_SlowestDays.f k a0_0 a0_1 l1 a2 = some r),
  Calls Try.prog 22 #[.agg #[.int .i64 a0_0,.int .i64 a0_1],.slice A1 l1.length c1,.int .i64 a2] w fun e w' => e = .returned (.int .i64 r) ∧ Below w.heap.size w w':=by
 induction k using Nat.strongRecOn with
 | _ k ih =>
 intro a0_0 a0_1 A1 c1 l1 a2 r w hr1 hc1 h
 cases k with
 | zero => exact absurd h (by simp [impl_SlowestDays.f])
 | succ k =>
 simp only [impl_SlowestDays.f] at h;have hu37:=Try.underlying37;have HR1:=am hr1;have HC1:=am hc1;clear hr1 hc1;have HB:=am (Below.refl w.heap.size w);have H : ((impl_IsRule.f a0_0 a0_1).bind fun t227 => (if t227 = true then ((impl_InRange.f a2 0 3).bind fun t228 => (impl_SlowestDays.j0 k l1 a2 (!t228) a0_0 a0_1)) else (impl_SlowestDays.j0 k l1 a2 true a0_0 a0_1))) = some r:=h;clear h;have HC4:=am H;clear H
 go_enter Try.func22,Try.ntmps22
 go_upto_region 1 with (first | ((with_reducible refine gate_dst (N:=3) rfl ?_);refine box_event ?hg (N:=3) ?hd (cs:=#[.int .i64 a0_0,.int .i64 a0_1]) (t:=37) ?hr ?_;(case hd => rfl);(case hg => rfl);(case hr => exact qq299);intro gb226 hg w5 hbox hb;have BK226:=am (hbox);have GW226:=am ((qq153 : w.heap.size ≤ gb226));have GE226:=am ((qq153 : w.heap.size ≤ gb226));replace HB:=am (below_step qq189 hb);clear hb hbox hg))
 (try simp only [Act.put,sA,s0,s1])
 go_cut [15] (fun v15 wc => ∃ (kq : Nat) (x15_3 : Bool),v15 = .bool x15_3 ∧ Aside0 (impl_SlowestDays.j0 kq l1 a2 x15_3 a0_0 a0_1 = some r) ∧ Aside0 (kq ≤ k) ∧ Aside0 (wc.heap[gb226]? = some (.cells #[.int .i64 a0_0,.int .i64 a0_1] 37 (0,0))) ∧ Aside0 (Below w.heap.size w wc))
 case first =>
  have H:=HC4.out;clear HC4;replace H:=bS.mp H;obtain ⟨t227,A60,H⟩:=H;replace H : (if t227 = true then ((impl_InRange.f a2 0 3).bind fun t228 => (impl_SlowestDays.j0 k l1 a2 (!t228) a0_0 a0_1)) else (impl_SlowestDays.j0 k l1 a2 true a0_0 a0_1)) = some r:=H;have A6:=am A60;clear A60
  by_cases c7 : t227 = true
  ·subst c7;have H1 : ((impl_InRange.f a2 0 3).bind fun t228 => (impl_SlowestDays.j0 k l1 a2 (!t228) a0_0 a0_1)) = some r:=by rw [if_pos rfl] at H;exact H
   clear H;have H:=H1;clear H1;replace H:=bS.mp H;obtain ⟨t228,A80,H⟩:=H;replace H : (impl_SlowestDays.j0 k l1 a2 (!t228) a0_0 a0_1) = some r:=H;have A8:=am A80;clear A80;have H':=am H;clear H;obtain ⟨hcz9_0,hcz9_1,hfz9_0,hfz9_1⟩:=bcl2 BK226.out;go_wp2_with (first | ((with_reducible refine gate_callee (f:=26) rfl ?_);refine goesL_ (some 9) rfl rfl Try.func26 (by kernel_rfl) rfl #[.agg #[.int .i64 a0_0,.int .i64 a0_1]] rfl qq177 ?_;(with_reducible refine (impl_IsRule.calls a0_0 a0_1 true _ A6.out).mono ?_);rintro e w10 ⟨rfl,hb⟩;refine ⟨_,rfl,?_⟩;replace BK226:=am (blk_below (g:=gb226) (o:=.cells #[.int .i64 a0_0,.int .i64 a0_1] 37 (0,0)) qq235 hb);replace HB:=am (below_step qq171 hb);(try clear hb);(try clear hb2);(try clear hk);(try clear hi)) | (go_at_call 76;(with_reducible refine (impl_InRange.calls a2 0 3 t228 _ A8.out).mono ?_);rintro e w' ⟨rfl,⟨nd,rfl⟩⟩))
   go_meet
   case rel => exact ⟨_,(!t228),qq298,H',⟨qq301⟩,⟨qq235⟩,⟨qq171⟩⟩
  ·replace c7:=Bool.eq_false_iff.mpr c7;subst c7;have H1 : (impl_SlowestDays.j0 k l1 a2 true a0_0 a0_1) = some r:=by rw [if_neg (show ¬ (false = true) by decide)] at H;exact H
   clear H;have H:=H1;clear H1;have H':=am H;clear H;obtain ⟨hcz11_0,hcz11_1,hfz11_0,hfz11_1⟩:=bcl2 BK226.out;go_wp2_with (first | ((with_reducible refine gate_callee (f:=26) rfl ?_);refine goesL_ (some 9) rfl rfl Try.func26 (by kernel_rfl) rfl #[.agg #[.int .i64 a0_0,.int .i64 a0_1]] rfl qq177 ?_;(with_reducible refine (impl_IsRule.calls a0_0 a0_1 false _ A6.out).mono ?_);rintro e w12 ⟨rfl,hb⟩;refine ⟨_,rfl,?_⟩;replace BK226:=am (blk_below (g:=gb226) (o:=.cells #[.int .i64 a0_0,.int .i64 a0_1] 37 (0,0)) qq235 hb);replace HB:=am (below_step qq171 hb);(try clear hb);(try clear hb2);(try clear hk);(try clear hi)))
   go_meet
   case rel => exact ⟨_,(true),qq298,H',⟨qq301⟩,⟨qq235⟩,⟨qq171⟩⟩
 case rest =>
  clear HC4
  try clear c1
  try clear c2
  try clear p2
  try clear c7
  try clear hcz11_0
  try clear hcz11_1
  try clear hcz9_0
  try clear hcz9_1
  try clear hfz11_0
  try clear hfz11_1
  try clear hfz9_0
  try clear hfz9_1
  obtain ⟨kq,x15_3,rfl,HA,HJ3,BK226,HB⟩:=hcut
  cases kq with
  | zero => exact absurd HA.out (by simp [impl_SlowestDays.j0])
  | succ kj3 =>
   have H:=HA.out;clear HA;simp only [impl_SlowestDays.j0] at H
   by_cases c13 : x15_3 = true
   ·subst c13;have H1 : (some (-1)) = some r:=by rw [if_pos rfl] at H;exact H
    clear H;have H:=H1;clear H1;obtain rfl:=Option.some.inj H;go_wp2
    go_ret
    exact ⟨qq244,qq171⟩
   ·replace c13:=Bool.eq_false_iff.mpr c13;subst c13;have H1 : (if a2 = 0 then (some 0) else ((impl_AddDay.f l1 false).bind fun t229 => ((impl_SlowestDays.f kj3 a0_0 a0_1 t229 (wrap64 (a2 - 1))).bind fun t232 => ((impl_MayStorm.f kj3 a0_0 a0_1 l1).bind fun t233 => (if t233 = true then ((impl_AddDay.f l1 true).bind fun t234 => ((impl_SlowestDays.f kj3 a0_0 a0_1 t234 a2).bind fun t237 => (some (mx (wrap64 (1 + t232)) (wrap64 (1 + t237)))))) else (some (wrap64 (1 + t232)))))))) = some r:=by rw [if_neg (show ¬ (false = true) by decide)] at H;exact H
    clear H;have H:=H1;clear H1
    by_cases c14 : a2 = 0
    ·rw [if_pos c14] at H;have c14b0 : (a2 == 0) = true:=beq_iff_eq.mpr c14;have c14b1 : (a2 != 0) = false:=bne_eq_false_iff_eq.mpr c14;clear c14;obtain rfl:=Option.some.inj H;go_wp2
     go_ret
     exact ⟨qq244,qq171⟩
    ·rw [if_neg c14] at H;have c14b0 : (a2 == 0) = false:=beq_eq_false_iff_ne.mpr c14;have c14b1 : (a2 != 0) = true:=bne_iff_ne.mpr c14;replace H:=bS.mp H;obtain ⟨t229,A150,H⟩:=H;replace H : ((impl_SlowestDays.f kj3 a0_0 a0_1 t229 (wrap64 (a2 - 1))).bind fun t232 => ((impl_MayStorm.f kj3 a0_0 a0_1 l1).bind fun t233 => (if t233 = true then ((impl_AddDay.f l1 true).bind fun t234 => ((impl_SlowestDays.f kj3 a0_0 a0_1 t234 a2).bind fun t237 => (some (mx (wrap64 (1 + t232)) (wrap64 (1 + t237)))))) else (some (wrap64 (1 + t232)))))) = some r:=H;have A15:=am A150;clear A150;replace H:=bS.mp H;obtain ⟨t232,A160,H⟩:=H;replace H : ((impl_MayStorm.f kj3 a0_0 a0_1 l1).bind fun t233 => (if t233 = true then ((impl_AddDay.f l1 true).bind fun t234 => ((impl_SlowestDays.f kj3 a0_0 a0_1 t234 a2).bind fun t237 => (some (mx (wrap64 (1 + t232)) (wrap64 (1 + t237)))))) else (some (wrap64 (1 + t232))))) = some r:=H;have A16:=am A160;clear A160;replace H:=bS.mp H;obtain ⟨t233,A170,H⟩:=H;replace H : (if t233 = true then ((impl_AddDay.f l1 true).bind fun t234 => ((impl_SlowestDays.f kj3 a0_0 a0_1 t234 a2).bind fun t237 => (some (mx (wrap64 (1 + t232)) (wrap64 (1 + t237)))))) else (some (wrap64 (1 + t232)))) = some r:=H;have A17:=am A170;clear A170
     by_cases c18 : t233 = true
     ·subst c18;have H1 : ((impl_AddDay.f l1 true).bind fun t234 => ((impl_SlowestDays.f kj3 a0_0 a0_1 t234 a2).bind fun t237 => (some (mx (wrap64 (1 + t232)) (wrap64 (1 + t237)))))) = some r:=by rw [if_pos rfl] at H;exact H
      clear H;have H:=H1;clear H1;replace H:=bS.mp H;obtain ⟨t234,A190,H⟩:=H;replace H : ((impl_SlowestDays.f kj3 a0_0 a0_1 t234 a2).bind fun t237 => (some (mx (wrap64 (1 + t232)) (wrap64 (1 + t237))))) = some r:=H;have A19:=am A190;clear A190;replace H:=bS.mp H;obtain ⟨t237,A200,H⟩:=H;replace H : (some (mx (wrap64 (1 + t232)) (wrap64 (1 + t237)))) = some r:=H;have A20:=am A200;clear A200;obtain ⟨ji21,hji21⟩ : ∃ j_ : Int,(mx (wrap64 (1 + t232)) (wrap64 (1 + t237))) = j_:=⟨_,rfl⟩
      replace H : (some ji21) = some r:=by first | (rw [hji21] at H;exact H) | (simp only [hji21] at H ⊢;exact H)
      (try rw [hji21] at A15);(try rw [hji21] at A16);(try rw [hji21] at A17);(try rw [hji21] at A19);(try rw [hji21] at A20);have hji21_ : (if (wrap64 (1 + t232)) < (wrap64 (1 + t237)) then (wrap64 (1 + t237)) else (wrap64 (1 + t232))) = ji21:=hji21;obtain rfl:=Option.some.inj H
      try go_wp2
      replace BK226:=am (blk_drew BK226.out);replace HB:=am (below_drew1 HB.out);refine start_ (n:=8) (S:=fun w' => w'.cell? ⟨gb226,0,none⟩ = some (.int .i64 a0_0) ∧ w'.cell? ⟨gb226,1,none⟩ = some (.int .i64 a0_1)) (ds:=[]) #[Z,Z,Z,Z,Z,Z,Z,Z] (by kernel_rfl) rfl rfl ⟨(blk_cell BK226.out 0).trans rfl,(blk_cell BK226.out 1).trans rfl⟩ (fun hHeld => ?_);refine with_tabW impl_SlowestDays.tab5 impl_SlowestDays.bits5 (fun HT_ HW_ => ?_)
      generalize wc.drew = w22 at BK226 HB hHeld ⊢
      refine pV (i:=1) (N:=some 19) #[Z,Y,Z,Z,Z,Z,Z,Z] rfl rfl qT ?_
      refine pV (i:=3) (N:=some 21) #[Z,Y,Z,Y,Z,Z,Z,Z] rfl rfl qT ?_
      refine pV (i:=4) (N:=some 22) #[Z,Y,Z,Y,Y,Z,Z,Z] rfl rfl qT ?_
      refine tV2 (i:=0) (N:=some 18) #[Y,Y,Z,Y,Y,Z,Z,Z] rfl rfl (take_ofW HT_.out HW_.out (by kernel_rfl)) hHeld ?_
      refine one_ (i:=2) (N:=some 20) #[Y,Y,Y,Y,Y,Z,Z,Z] rfl rfl (one_of HT_.out (by kernel_rfl)) (by decide) (fun K hK => ?_);refine goes_ Try.func82 (by kernel_rfl) rfl #[.slice A1 l1.length c1,.bool false] (by rfl) rfl rfl qq177 ?_;with_reducible refine (impl_AddDay.calls _ _ l1 false t229 _ ?side1 ?side2 A15.out).mono ?_
      (case side1 => exact qq142);(case side2 => exact HC1.out)
      rintro e w23 ⟨v230,rfl,ho0,hb⟩
      refine ⟨_,rfl,?_⟩;have HO231:=am (Kd.R_lower ho0 (below_size qq171));replace BK226:=am (blk_below (g:=gb226) (o:=.cells #[.int .i64 a0_0,.int .i64 a0_1] 37 (0,0)) qq235 hb);replace HB:=am (below_step qq171 hb);(try clear hb);(try clear hb2);(try clear hk);(try clear hi);(try clear ho0);obtain ⟨Ao24,co24,eo24⟩:=Kd.R_slice HO231.out;(first | subst eo24 | (injection eo24 with f1_ f2_ f3_;have f4_:=f1_.symm;have f5_:=f3_.symm;clear f1_ f2_ f3_;subst f4_;subst f5_));refine hK.out _ _ ⟨(blk_cell BK226.out 0).trans rfl,(blk_cell BK226.out 1).trans rfl⟩ (fun hHeld => ?_);clear hK K;refine norm_ (a':=?_) ?_ ?_;rotate_left
      ·show Act.put _ (some 20) _ = _
       simp only [Act.put,sA,s0,s1,i64_w,i32_w];rfl
      refine one_ (i:=5) (N:=some 23) #[Y,Y,Y,Y,Y,Y,Z,Z] rfl rfl (one_of HT_.out (by kernel_rfl)) (by decide) (fun K hK => ?_);refine goes_ Try.func22 (by kernel_rfl) rfl #[.agg #[.int .i64 a0_0,.int .i64 a0_1],.slice Ao24 t229.length co24,.int .i64 (wrap64 (a2 - 1))] (by rfl) rfl rfl qq177 ?_;with_reducible refine (ih kj3 qq308 a0_0 a0_1 _ _ t229 (wrap64 (a2 - 1)) t232 _ ?side1 ?side2 A16.out).mono ?_
      (case side1 => exact qq140);(case side2 => exact (Kd.R_reads' HO231.out).2.1)
      rintro e w25 ⟨rfl,hb⟩
      refine ⟨_,rfl,?_⟩;replace HO231:=am (Kd.R_below qq281 hb);replace BK226:=am (blk_below (g:=gb226) (o:=.cells #[.int .i64 a0_0,.int .i64 a0_1] 37 (0,0)) qq235 hb);replace HB:=am (below_step qq171 hb);(try clear hb);(try clear hb2);(try clear hk);(try clear hi);refine hK.out _ _ ⟨(blk_cell BK226.out 0).trans rfl,(blk_cell BK226.out 1).trans rfl⟩ (fun hHeld => ?_);clear hK K;refine norm_ (a':=?_) ?_ ?_;rotate_left
      ·show Act.put _ (some 23) _ = _
       simp only [Act.put,sA,s0,s1,i64_w,i32_w];rfl
      refine pV (i:=6) (N:=some 24) #[Y,Y,Y,Y,Y,Y,Y,Z] rfl rfl qT ?_
      refine pV (i:=7) (N:=some 7) #[Y,Y,Y,Y,Y,Y,Y,Y] rfl rfl qT ?_
      refine done_ (done_of HT_.out (by kernel_rfl)) ?_;obtain ⟨hcz26_0,hcz26_1,hfz26_0,hfz26_1⟩:=bcl2 BK226.out
      try go_wp2_with (first | ((with_reducible refine gate_callee (f:=83) rfl ?_);refine goesL_ (some 27) rfl rfl Try.func83 (by kernel_rfl) rfl #[.agg #[.int .i64 a0_0,.int .i64 a0_1],.slice A1 l1.length c1] rfl qq177 ?_;(with_reducible refine (impl_MayStorm.calls kj3 a0_0 a0_1 _ _ l1 true _ ?side1 ?side2 A17.out).mono ?_);(case side1 => exact qq142);(case side2 => exact HC1.out);rintro e w27 ⟨rfl,hb⟩;refine ⟨_,rfl,?_⟩;replace HO231:=am (Kd.R_below qq281 hb);replace BK226:=am (blk_below (g:=gb226) (o:=.cells #[.int .i64 a0_0,.int .i64 a0_1] 37 (0,0)) qq235 hb);replace HB:=am (below_step qq171 hb);(try clear hb);(try clear hb2);(try clear hk);(try clear hi)))
      replace HO231:=am (Kd.R_drew HO231.out);replace BK226:=am (blk_drew BK226.out);replace HB:=am (below_drew1 HB.out);refine start_ (n:=9) (S:=fun w' => w'.cell? ⟨gb226,0,none⟩ = some (.int .i64 a0_0) ∧ w'.cell? ⟨gb226,1,none⟩ = some (.int .i64 a0_1)) (ds:=[]) #[Z,Z,Z,Z,Z,Z,Z,Z,Z] (by kernel_rfl) rfl rfl ⟨(blk_cell BK226.out 0).trans rfl,(blk_cell BK226.out 1).trans rfl⟩ (fun hHeld => ?_);refine with_tabW impl_SlowestDays.tab7 impl_SlowestDays.bits7 (fun HT_ HW_ => ?_)
      generalize w27.drew = w28 at HO231 BK226 HB hHeld ⊢
      refine pV (i:=0) (N:=some 28) #[Y,Z,Z,Z,Z,Z,Z,Z,Z] rfl rfl qT ?_
      refine pV (i:=2) (N:=some 30) #[Y,Z,Y,Z,Z,Z,Z,Z,Z] rfl rfl qT ?_
      refine pV (i:=4) (N:=some 32) #[Y,Z,Y,Z,Y,Z,Z,Z,Z] rfl rfl qT ?_
      refine tV2 (i:=1) (N:=some 29) #[Y,Y,Y,Z,Y,Z,Z,Z,Z] rfl rfl (take_ofW HT_.out HW_.out (by kernel_rfl)) hHeld ?_
      refine one_ (i:=3) (N:=some 31) #[Y,Y,Y,Y,Y,Z,Z,Z,Z] rfl rfl (one_of HT_.out (by kernel_rfl)) (by decide) (fun K hK => ?_);refine goes_ Try.func82 (by kernel_rfl) rfl #[.slice A1 l1.length c1,.bool true] (by rfl) rfl rfl qq177 ?_;with_reducible refine (impl_AddDay.calls _ _ l1 true t234 _ ?side1 ?side2 A19.out).mono ?_
      (case side1 => exact qq142);(case side2 => exact HC1.out)
      rintro e w29 ⟨v235,rfl,ho0,hb⟩
      refine ⟨_,rfl,?_⟩;have HO236:=am (Kd.R_lower (Kd.R_new' ho0 (Kd.R_lt qq281)) (below_size qq171));replace HO231:=am (Kd.R_elder' qq281 (Kd.R_base ho0) hb);replace BK226:=am (blk_below (g:=gb226) (o:=.cells #[.int .i64 a0_0,.int .i64 a0_1] 37 (0,0)) qq235 hb);replace HB:=am (below_step qq171 hb);(try clear hb);(try clear hb2);(try clear hk);(try clear hi);(try clear ho0);obtain ⟨Ao30,co30,eo30⟩:=Kd.R_slice HO236.out;(first | subst eo30 | (injection eo30 with f1_ f2_ f3_;have f4_:=f1_.symm;have f5_:=f3_.symm;clear f1_ f2_ f3_;subst f4_;subst f5_));refine hK.out _ _ ⟨(blk_cell BK226.out 0).trans rfl,(blk_cell BK226.out 1).trans rfl⟩ (fun hHeld => ?_);clear hK K;refine norm_ (a':=?_) ?_ ?_;rotate_left
      ·show Act.put _ (some 31) _ = _
       simp only [Act.put,sA,s0,s1,i64_w,i32_w];rfl
      refine one_ (i:=5) (N:=some 33) #[Y,Y,Y,Y,Y,Y,Z,Z,Z] rfl rfl (one_of HT_.out (by kernel_rfl)) (by decide) (fun K hK => ?_);refine goes_ Try.func22 (by kernel_rfl) rfl #[.agg #[.int .i64 a0_0,.int .i64 a0_1],.slice Ao30 t234.length co30,.int .i64 a2] (by rfl) rfl rfl qq177 ?_;with_reducible refine (ih kj3 qq308 a0_0 a0_1 _ _ t234 a2 t237 _ ?side1 ?side2 A20.out).mono ?_
      (case side1 => repeat (first | exact (Kd.R_reads' HO236.out).2.2 | (with_reducible refine cA ?_ _) | (with_reducible refine cN ?_ _) | (with_reducible refine cD ?_)));(case side2 => exact (Kd.R_reads' HO236.out).2.1)
      rintro e w31 ⟨rfl,hb⟩
      refine ⟨_,rfl,?_⟩;replace HO231:=am (Kd.R_below qq281 hb);replace HO236:=am (Kd.R_below (by (with_reducible repeat (first | apply kA | apply kN | apply kD));exact HO236.out) hb);replace BK226:=am (blk_below (g:=gb226) (o:=.cells #[.int .i64 a0_0,.int .i64 a0_1] 37 (0,0)) qq235 hb);replace HB:=am (below_step qq171 hb);(try clear hb);(try clear hb2);(try clear hk);(try clear hi);refine hK.out _ _ ⟨(blk_cell BK226.out 0).trans rfl,(blk_cell BK226.out 1).trans rfl⟩ (fun hHeld => ?_);clear hK K;refine norm_ (a':=?_) ?_ ?_;rotate_left
      ·show Act.put _ (some 33) _ = _
       simp only [Act.put,sA,s0,s1,i64_w,i32_w];rfl
      refine pV (i:=6) (N:=some 34) #[Y,Y,Y,Y,Y,Y,Y,Z,Z] rfl rfl qT ?_
      refine pV (i:=7) (N:=some 35) #[Y,Y,Y,Y,Y,Y,Y,Y,Z] rfl rfl qT ?_
      refine pV (i:=8) (N:=some 7) #[Y,Y,Y,Y,Y,Y,Y,Y,Y] rfl rfl qT ?_
      refine done_ (done_of HT_.out (by kernel_rfl)) ?_
      try go_wp2
      go_ret
      exact ⟨by first | rfl | (simp [errW_none,errW_some] <;> rfl) | (simp only [← hji21];first | rfl | (simp [errW_none,errW_some] <;> rfl)) | (simp [*,errW_none,errW_some] <;> rfl),qq171⟩
     ·replace c18:=Bool.eq_false_iff.mpr c18;subst c18;have H1 : (some (wrap64 (1 + t232))) = some r:=by rw [if_neg (show ¬ (false = true) by decide)] at H;exact H
      clear H;have H:=H1;clear H1;obtain rfl:=Option.some.inj H
      try go_wp2
      replace BK226:=am (blk_drew BK226.out);replace HB:=am (below_drew1 HB.out);refine start_ (n:=8) (S:=fun w' => w'.cell? ⟨gb226,0,none⟩ = some (.int .i64 a0_0) ∧ w'.cell? ⟨gb226,1,none⟩ = some (.int .i64 a0_1)) (ds:=[]) #[Z,Z,Z,Z,Z,Z,Z,Z] (by kernel_rfl) rfl rfl ⟨(blk_cell BK226.out 0).trans rfl,(blk_cell BK226.out 1).trans rfl⟩ (fun hHeld => ?_);refine with_tabW impl_SlowestDays.tab5 impl_SlowestDays.bits5 (fun HT_ HW_ => ?_)
      generalize wc.drew = w32 at BK226 HB hHeld ⊢
      refine pV (i:=1) (N:=some 19) #[Z,Y,Z,Z,Z,Z,Z,Z] rfl rfl qT ?_
      refine pV (i:=3) (N:=some 21) #[Z,Y,Z,Y,Z,Z,Z,Z] rfl rfl qT ?_
      refine pV (i:=4) (N:=some 22) #[Z,Y,Z,Y,Y,Z,Z,Z] rfl rfl qT ?_
      refine tV2 (i:=0) (N:=some 18) #[Y,Y,Z,Y,Y,Z,Z,Z] rfl rfl (take_ofW HT_.out HW_.out (by kernel_rfl)) hHeld ?_
      refine one_ (i:=2) (N:=some 20) #[Y,Y,Y,Y,Y,Z,Z,Z] rfl rfl (one_of HT_.out (by kernel_rfl)) (by decide) (fun K hK => ?_);refine goes_ Try.func82 (by kernel_rfl) rfl #[.slice A1 l1.length c1,.bool false] (by rfl) rfl rfl qq177 ?_;with_reducible refine (impl_AddDay.calls _ _ l1 false t229 _ ?side1 ?side2 A15.out).mono ?_
      (case side1 => exact qq142);(case side2 => exact HC1.out)
      rintro e w33 ⟨v230,rfl,ho0,hb⟩
      refine ⟨_,rfl,?_⟩;have HO231:=am (Kd.R_lower ho0 (below_size qq171));replace BK226:=am (blk_below (g:=gb226) (o:=.cells #[.int .i64 a0_0,.int .i64 a0_1] 37 (0,0)) qq235 hb);replace HB:=am (below_step qq171 hb);(try clear hb);(try clear hb2);(try clear hk);(try clear hi);(try clear ho0);obtain ⟨Ao34,co34,eo34⟩:=Kd.R_slice HO231.out;(first | subst eo34 | (injection eo34 with f1_ f2_ f3_;have f4_:=f1_.symm;have f5_:=f3_.symm;clear f1_ f2_ f3_;subst f4_;subst f5_));refine hK.out _ _ ⟨(blk_cell BK226.out 0).trans rfl,(blk_cell BK226.out 1).trans rfl⟩ (fun hHeld => ?_);clear hK K;refine norm_ (a':=?_) ?_ ?_;rotate_left
      ·show Act.put _ (some 20) _ = _
       simp only [Act.put,sA,s0,s1,i64_w,i32_w];rfl
      refine one_ (i:=5) (N:=some 23) #[Y,Y,Y,Y,Y,Y,Z,Z] rfl rfl (one_of HT_.out (by kernel_rfl)) (by decide) (fun K hK => ?_);refine goes_ Try.func22 (by kernel_rfl) rfl #[.agg #[.int .i64 a0_0,.int .i64 a0_1],.slice Ao34 t229.length co34,.int .i64 (wrap64 (a2 - 1))] (by rfl) rfl rfl qq177 ?_;with_reducible refine (ih kj3 qq308 a0_0 a0_1 _ _ t229 (wrap64 (a2 - 1)) t232 _ ?side1 ?side2 A16.out).mono ?_
      (case side1 => exact qq140);(case side2 => exact (Kd.R_reads' HO231.out).2.1)
      rintro e w35 ⟨rfl,hb⟩
      refine ⟨_,rfl,?_⟩;replace HO231:=am (Kd.R_below qq281 hb);replace BK226:=am (blk_below (g:=gb226) (o:=.cells #[.int .i64 a0_0,.int .i64 a0_1] 37 (0,0)) qq235 hb);replace HB:=am (below_step qq171 hb);(try clear hb);(try clear hb2);(try clear hk);(try clear hi);refine hK.out _ _ ⟨(blk_cell BK226.out 0).trans rfl,(blk_cell BK226.out 1).trans rfl⟩ (fun hHeld => ?_);clear hK K;refine norm_ (a':=?_) ?_ ?_;rotate_left
      ·show Act.put _ (some 23) _ = _
       simp only [Act.put,sA,s0,s1,i64_w,i32_w];rfl
      refine pV (i:=6) (N:=some 24) #[Y,Y,Y,Y,Y,Y,Y,Z] rfl rfl qT ?_
      refine pV (i:=7) (N:=some 7) #[Y,Y,Y,Y,Y,Y,Y,Y] rfl rfl qT ?_
      refine done_ (done_of HT_.out (by kernel_rfl)) ?_;obtain ⟨hcz36_0,hcz36_1,hfz36_0,hfz36_1⟩:=bcl2 BK226.out
      try go_wp2_with (first | ((with_reducible refine gate_callee (f:=83) rfl ?_);refine goesL_ (some 27) rfl rfl Try.func83 (by kernel_rfl) rfl #[.agg #[.int .i64 a0_0,.int .i64 a0_1],.slice A1 l1.length c1] rfl qq177 ?_;(with_reducible refine (impl_MayStorm.calls kj3 a0_0 a0_1 _ _ l1 false _ ?side1 ?side2 A17.out).mono ?_);(case side1 => exact qq142);(case side2 => exact HC1.out);rintro e w37 ⟨rfl,hb⟩;refine ⟨_,rfl,?_⟩;replace HO231:=am (Kd.R_below qq281 hb);replace BK226:=am (blk_below (g:=gb226) (o:=.cells #[.int .i64 a0_0,.int .i64 a0_1] 37 (0,0)) qq235 hb);replace HB:=am (below_step qq171 hb);(try clear hb);(try clear hb2);(try clear hk);(try clear hi)))
      go_ret
      exact ⟨qq244,qq171⟩

/-! ### impl_WorstDays: function 23 -/
mutual
def impl_WorstDays.j0 : Nat → List Bool → Int → Bool → Int → Int → Option (Int)
 | 0,_,_,_,_,_ => none
 | k + 1,x1,x2,x21,x239000,x239001 => if x21 = true then (some (-1)) else (impl_WorstDays.l0 k x1 x2 0 x239000 x239001)
def impl_WorstDays.l0 : Nat → List Bool → Int → Int → Int → Int → Option (Int)
 | 0,_,_,_,_,_ => none
 | k + 1,x1,x2,x7,x239000,x239001 => if x2 > 0 then ((impl_MayStorm.f k x239000 x239001 x1).bind fun t241 => (if t241 = true then ((impl_AddDay.f x1 t241).bind fun t242 => (impl_WorstDays.l0 k t242 x2 (wrap64 (x7 + 1)) x239000 x239001)) else ((impl_AddDay.f x1 t241).bind fun t245 => (impl_WorstDays.l0 k t245 (wrap64 (x2 - 1)) (wrap64 (x7 + 1)) x239000 x239001)))) else (some x7)
end
def impl_WorstDays.f (k : Nat) (a0_0 : Int) (a0_1 : Int) (l1 : List Bool) (a2 : Int) : Option (Int) := (impl_IsRule.f a0_0 a0_1).bind fun t239 => (if t239 = true then ((impl_InRange.f a2 0 200).bind fun t240 => (if t240 = true then (impl_WorstDays.j0 k l1 a2 (decide ((l1.length : Int) > 400)) a0_0 a0_1) else (impl_WorstDays.j0 k l1 a2 true a0_0 a0_1))) else (impl_WorstDays.j0 k l1 a2 true a0_0 a0_1))
set_option maxHeartbeats 8000000 in
set_option maxRecDepth 100000 in
theorem impl_WorstDays.calls (k : Nat) (a0_0 : Int) (a0_1 : Int) (P1_ : Nat → Prop) (A1 : Option Addr) (c1 : Nat) (l1 : List Bool) (a2 : Int) (r : Int) (w : World) (hs1 : Kd.V Kd.bool 4 w w.heap.size (fun k_ => P1_ k_) (.slice A1 l1.length c1) l1) (h : impl_WorstDays.f k a0_0 a0_1 l1 a2 = some r) :
  Calls Try.prog 23 #[.agg #[.int .i64 a0_0,.int .i64 a0_1],.slice A1 l1.length c1,.int .i64 a2] w fun e w' => e = .returned (.int .i64 r) ∧ Below w.heap.size w w':=by
 have hu37:=Try.underlying37;have HO1:=am (show Kd.V Kd.bool 4 w w.heap.size (fun k_ => (P1_ k_ ∨ w.heap.size ≤ k_)) (.slice A1 l1.length c1) l1 from Kd.V_mono hs1 (fun k_ hk => .inl hk));have HB:=am (Below.refl w.heap.size w);have H : ((impl_IsRule.f a0_0 a0_1).bind fun t239 => (if t239 = true then ((impl_InRange.f a2 0 200).bind fun t240 => (if t240 = true then (impl_WorstDays.j0 k l1 a2 (decide ((l1.length : Int) > 400)) a0_0 a0_1) else (impl_WorstDays.j0 k l1 a2 true a0_0 a0_1))) else (impl_WorstDays.j0 k l1 a2 true a0_0 a0_1))) = some r:=h;clear h;have HC4:=am H;clear H
 go_enter Try.func23,Try.ntmps23
 go_upto_region 1 with (first | ((with_reducible refine gate_dst (N:=3) rfl ?_);(try (refine gate_guard (by rfl) ?_;dsimp only));refine box_event ?hg (N:=3) ?hd (cs:=#[.int .i64 a0_0,.int .i64 a0_1]) (t:=37) ?hr ?_;(case hd => rfl);(case hg => rfl);(case hr => exact qq299);intro gb238 hg w5 hbox hb;replace HO1:=am (Kd.V_below (Kd.V_elderB qq192 gb238 (Nat.le_of_eq hg.symm)) hb);have BK238:=am (hbox);have GW238:=am ((qq153 : w.heap.size ≤ gb238));have GE238:=am ((qq153 : w.heap.size ≤ gb238));replace HB:=am (below_step qq189 hb);clear hb hbox hg))
 (try simp only [Act.put,sA,s0,s1])
 go_cut [21] (fun v21 wc => ∃ (kq : Nat) (x21_3 : Bool),v21 = .bool x21_3 ∧ Aside0 (impl_WorstDays.j0 kq l1 a2 x21_3 a0_0 a0_1 = some r) ∧ Aside0 (kq ≤ k) ∧ Aside0 (Kd.V Kd.bool 4 wc w.heap.size (fun k_ => (P1_ k_ ∨ w.heap.size ≤ k_) ∧ k_ ≠ gb238) (.slice A1 l1.length c1) l1) ∧ Aside0 (wc.heap[gb238]? = some (.cells #[.int .i64 a0_0,.int .i64 a0_1] 37 (0,0))) ∧ Aside0 (Below w.heap.size w wc))
 case first =>
  have H:=HC4.out;clear HC4;replace H:=bS.mp H;obtain ⟨t239,A60,H⟩:=H;replace H : (if t239 = true then ((impl_InRange.f a2 0 200).bind fun t240 => (if t240 = true then (impl_WorstDays.j0 k l1 a2 (decide ((l1.length : Int) > 400)) a0_0 a0_1) else (impl_WorstDays.j0 k l1 a2 true a0_0 a0_1))) else (impl_WorstDays.j0 k l1 a2 true a0_0 a0_1)) = some r:=H;have A6:=am A60;clear A60
  by_cases c7 : t239 = true
  ·subst c7;have H1 : ((impl_InRange.f a2 0 200).bind fun t240 => (if t240 = true then (impl_WorstDays.j0 k l1 a2 (decide ((l1.length : Int) > 400)) a0_0 a0_1) else (impl_WorstDays.j0 k l1 a2 true a0_0 a0_1))) = some r:=by rw [if_pos rfl] at H;exact H
   clear H;have H:=H1;clear H1;replace H:=bS.mp H;obtain ⟨t240,A80,H⟩:=H;replace H : (if t240 = true then (impl_WorstDays.j0 k l1 a2 (decide ((l1.length : Int) > 400)) a0_0 a0_1) else (impl_WorstDays.j0 k l1 a2 true a0_0 a0_1)) = some r:=H;have A8:=am A80;clear A80
   by_cases c9 : t240 = true
   ·subst c9;have H1 : (impl_WorstDays.j0 k l1 a2 (decide ((l1.length : Int) > 400)) a0_0 a0_1) = some r:=by rw [if_pos rfl] at H;exact H
    clear H;have H:=H1;clear H1;have H':=am H;clear H;obtain ⟨hcz10_0,hcz10_1,hfz10_0,hfz10_1⟩:=bcl2 BK238.out;go_wp2_with (first | ((with_reducible refine gate_callee (f:=26) rfl ?_);refine goesL_ (some 10) rfl rfl Try.func26 (by kernel_rfl) rfl #[.agg #[.int .i64 a0_0,.int .i64 a0_1]] rfl qq177 ?_;(with_reducible refine (impl_IsRule.calls a0_0 a0_1 true _ A6.out).mono ?_);rintro e w11 ⟨rfl,hb⟩;refine ⟨_,rfl,?_⟩;replace HO1:=am (Kd.V_below qq192 hb);replace BK238:=am (blk_below (g:=gb238) (o:=.cells #[.int .i64 a0_0,.int .i64 a0_1] 37 (0,0)) qq234 hb);replace HB:=am (below_step qq170 hb);(try clear hb);(try clear hb2);(try clear hk);(try clear hi)) | (go_at_call 76;(with_reducible refine (impl_InRange.calls a2 0 200 true _ A8.out).mono ?_);rintro e w' ⟨rfl,⟨nd,rfl⟩⟩))
    go_meet
    case rel => exact ⟨_,(decide ((l1.length : Int) > 400)),qq298,H',⟨qq301⟩,⟨qq192⟩,⟨qq234⟩,⟨qq170⟩⟩
   ·replace c9:=Bool.eq_false_iff.mpr c9;subst c9;have H1 : (impl_WorstDays.j0 k l1 a2 true a0_0 a0_1) = some r:=by rw [if_neg (show ¬ (false = true) by decide)] at H;exact H
    clear H;have H:=H1;clear H1;have H':=am H;clear H;obtain ⟨hcz12_0,hcz12_1,hfz12_0,hfz12_1⟩:=bcl2 BK238.out;go_wp2_with (first | ((with_reducible refine gate_callee (f:=26) rfl ?_);refine goesL_ (some 10) rfl rfl Try.func26 (by kernel_rfl) rfl #[.agg #[.int .i64 a0_0,.int .i64 a0_1]] rfl qq177 ?_;(with_reducible refine (impl_IsRule.calls a0_0 a0_1 true _ A6.out).mono ?_);rintro e w13 ⟨rfl,hb⟩;refine ⟨_,rfl,?_⟩;replace HO1:=am (Kd.V_below qq192 hb);replace BK238:=am (blk_below (g:=gb238) (o:=.cells #[.int .i64 a0_0,.int .i64 a0_1] 37 (0,0)) qq234 hb);replace HB:=am (below_step qq170 hb);(try clear hb);(try clear hb2);(try clear hk);(try clear hi)) | (go_at_call 76;(with_reducible refine (impl_InRange.calls a2 0 200 false _ A8.out).mono ?_);rintro e w' ⟨rfl,⟨nd,rfl⟩⟩))
    go_meet
    case rel => exact ⟨_,(true),qq298,H',⟨qq301⟩,⟨qq192⟩,⟨qq234⟩,⟨qq170⟩⟩
  ·replace c7:=Bool.eq_false_iff.mpr c7;subst c7;have H1 : (impl_WorstDays.j0 k l1 a2 true a0_0 a0_1) = some r:=by rw [if_neg (show ¬ (false = true) by decide)] at H;exact H
   clear H;have H:=H1;clear H1;have H':=am H;clear H;obtain ⟨hcz14_0,hcz14_1,hfz14_0,hfz14_1⟩:=bcl2 BK238.out;go_wp2_with (first | ((with_reducible refine gate_callee (f:=26) rfl ?_);refine goesL_ (some 10) rfl rfl Try.func26 (by kernel_rfl) rfl #[.agg #[.int .i64 a0_0,.int .i64 a0_1]] rfl qq177 ?_;(with_reducible refine (impl_IsRule.calls a0_0 a0_1 false _ A6.out).mono ?_);rintro e w15 ⟨rfl,hb⟩;refine ⟨_,rfl,?_⟩;replace HO1:=am (Kd.V_below qq192 hb);replace BK238:=am (blk_below (g:=gb238) (o:=.cells #[.int .i64 a0_0,.int .i64 a0_1] 37 (0,0)) qq234 hb);replace HB:=am (below_step qq170 hb);(try clear hb);(try clear hb2);(try clear hk);(try clear hi)))
   go_meet
   case rel => exact ⟨_,(true),qq298,H',⟨qq301⟩,⟨qq192⟩,⟨qq234⟩,⟨qq170⟩⟩
 case rest =>
  clear HC4
  try clear c1
  try clear c2
  try clear p2
  try clear c7
  try clear c9
  try clear hcz10_0
  try clear hcz10_1
  try clear hcz12_0
  try clear hcz12_1
  try clear hcz14_0
  try clear hcz14_1
  try clear hfz10_0
  try clear hfz10_1
  try clear hfz12_0
  try clear hfz12_1
  try clear hfz14_0
  try clear hfz14_1
  obtain ⟨kq,x21_3,rfl,HA,HJ3,HO_1,BK238,HB⟩:=hcut
  cases kq with
  | zero => exact absurd HA.out (by simp [impl_WorstDays.j0])
  | succ kj3 =>
   have H:=HA.out;clear HA;simp only [impl_WorstDays.j0] at H
   by_cases c16 : x21_3 = true
   ·subst c16;have H1 : (some (-1)) = some r:=by rw [if_pos rfl] at H;exact H
    clear H;have H:=H1;clear H1;obtain rfl:=Option.some.inj H;go_wp2
    go_ret
    exact ⟨qq244,qq170⟩
   ·replace c16:=Bool.eq_false_iff.mpr c16;subst c16;have H1 : (impl_WorstDays.l0 kj3 l1 a2 0 a0_0 a0_1) = some r:=by rw [if_neg (show ¬ (false = true) by decide)] at H;exact H
    clear H;have H:=H1;clear H1;have H':=am H;clear H;go_wp2
    go_loopg [1,2,7] kj3 (fun kq v1 v2 v7 w' => ∃ (x1_2 : List Bool) (x2_2 : Int) (x7_2 : Int),v2 = .int .i64 x2_2 ∧ v7 = .int .i64 x7_2 ∧ Aside0 (impl_WorstDays.l0 kq x1_2 x2_2 x7_2 a0_0 a0_1 = some r) ∧ Aside0 (kq ≤ kj3) ∧ Aside0 (Kd.V Kd.bool 4 w' w.heap.size (fun k_ => (P1_ k_ ∨ w.heap.size ≤ k_) ∧ k_ ≠ gb238) v1 x1_2) ∧ Aside0 (w'.heap[gb238]? = some (.cells #[.int .i64 a0_0,.int .i64 a0_1] 37 (0,0))) ∧ Aside0 (Below w.heap.size w w'))
    case atStart => exact ⟨(l1),(a2),(0),qq298,qq298,H',⟨Nat.le_refl _⟩,⟨qq190⟩,⟨qq234⟩,⟨qq170⟩⟩
    case round =>
     clear H'
     try clear c1
     try clear c2
     try clear p2
     try clear c7
     try clear c9
     try clear c16
     try clear hcz10_0
     try clear hcz10_1
     try clear hcz12_0
     try clear hcz12_1
     try clear hcz14_0
     try clear hcz14_1
     try clear hfz10_0
     try clear hfz10_1
     try clear hfz12_0
     try clear hfz12_1
     try clear hfz14_0
     try clear hfz14_1
     try clear p2
     obtain ⟨x1_2,x2_2,x7_2,rfl,rfl,HA,HK2,HO_1,BK238,HB⟩:=hrel
     cases gk with
     | zero => exact absurd HA.out (by simp [impl_WorstDays.l0])
     | succ k2 =>
      have H:=HA.out;clear HA;simp only [impl_WorstDays.l0] at H
      by_cases c17 : x2_2 > 0
      ·rw [if_pos c17] at H;have c17b0 : decide (0 < x2_2) = true:=decide_eq_true c17;clear c17;replace H:=bS.mp H;obtain ⟨t241,A180,H⟩:=H;replace H : (if t241 = true then ((impl_AddDay.f x1_2 t241).bind fun t242 => (impl_WorstDays.l0 k2 t242 x2_2 (wrap64 (x7_2 + 1)) a0_0 a0_1)) else ((impl_AddDay.f x1_2 t241).bind fun t245 => (impl_WorstDays.l0 k2 t245 (wrap64 (x2_2 - 1)) (wrap64 (x7_2 + 1)) a0_0 a0_1))) = some r:=H;have A18:=am A180;clear A180
       by_cases c19 : t241 = true
       ·subst c19;have H1 : ((impl_AddDay.f x1_2 true).bind fun t242 => (impl_WorstDays.l0 k2 t242 x2_2 (wrap64 (x7_2 + 1)) a0_0 a0_1)) = some r:=by rw [if_pos rfl] at H;exact H
        clear H;have H:=H1;clear H1;replace H:=bS.mp H;obtain ⟨t242,A200,H⟩:=H;replace H : (impl_WorstDays.l0 k2 t242 x2_2 (wrap64 (x7_2 + 1)) a0_0 a0_1) = some r:=H;have A20:=am A200;clear A200;have H':=am H;clear H;obtain ⟨hcz21_0,hcz21_1,hfz21_0,hfz21_1⟩:=bcl2 BK238.out;obtain ⟨Ao22,co22,eo22⟩:=Kd.V_slice HO_1.out;subst eo22;go_wp2_with (first | ((with_reducible refine gate_callee (f:=83) rfl ?_);refine goesL_ (some 26) rfl rfl Try.func83 (by kernel_rfl) rfl #[.agg #[.int .i64 a0_0,.int .i64 a0_1],.slice Ao22 x1_2.length co22] rfl qq177 ?_;(with_reducible refine (impl_MayStorm.calls k2 a0_0 a0_1 _ _ x1_2 true _ ?side1 ?side2 A18.out).mono ?_);(case side1 => exact qq144);(case side2 => exact qq303);rintro e w23 ⟨rfl,hb⟩;refine ⟨_,rfl,?_⟩;replace HO_1:=am (Kd.V_below qq190 hb);replace BK238:=am (blk_below (g:=gb238) (o:=.cells #[.int .i64 a0_0,.int .i64 a0_1] 37 (0,0)) qq234 hb);replace HB:=am (below_step qq170 hb);(try clear hb);(try clear hb2);(try clear hk);(try clear hi)) | ((with_reducible refine gate_callee (f:=82) rfl ?_);refine goesL_ (some 33) rfl rfl Try.func82 (by kernel_rfl) rfl #[.slice Ao22 x1_2.length co22,.bool true] rfl qq177 ?_;(with_reducible refine (impl_AddDay.calls _ _ x1_2 true t242 _ ?side1 ?side2 A20.out).mono ?_);(case side1 => exact qq144);(case side2 => exact qq303);rintro e w24 ⟨v243,rfl,ho0,hb⟩;refine ⟨_,rfl,?_⟩;replace HO_1:=am (Kd.V_elder' qq190 (Kd.R_base ho0) hb);have HO244:=am (Kd.R_lower (Kd.R_newM (M:=fun k_ => (w.heap.size ≤ k_)) ho0 (below_size qq170) (fun k_ h_ => h_)) (below_size qq170));replace BK238:=am (blk_below (g:=gb238) (o:=.cells #[.int .i64 a0_0,.int .i64 a0_1] 37 (0,0)) qq234 hb);replace HB:=am (below_step qq170 hb);(try clear hb);(try clear hb2);(try clear hk);(try clear hi);(try clear ho0)))
        go_roundg k2
        case measure => have:=HJ3.out;have:=HK2.out;omega
        case rel => exact ⟨(t242),(x2_2),(wrap64 (x7_2 + 1)),qq298,qq298,H',⟨by have:=HJ3.out;have:=HK2.out;omega⟩,⟨Kd.V_mono (Kd.R_V (by (with_reducible repeat (first | apply kA | apply kN | apply kD));exact Kd.R_mono (ok':=fun k => w.heap.size ≤ k ∧ k ≠ gb238) (Kd.R_types HO244.out BK238.out (by decide)) (fun _ hk => ⟨hk.1.1,hk.2⟩))) (fun k_ hk => by first | exact ⟨(.inr (hk.1)),hk.2⟩ | exact (.inr (hk)))⟩,⟨qq234⟩,⟨qq170⟩⟩
       ·replace c19:=Bool.eq_false_iff.mpr c19;subst c19;have H1 : ((impl_AddDay.f x1_2 false).bind fun t245 => (impl_WorstDays.l0 k2 t245 (wrap64 (x2_2 - 1)) (wrap64 (x7_2 + 1)) a0_0 a0_1)) = some r:=by rw [if_neg (show ¬ (false = true) by decide)] at H;exact H
        clear H;have H:=H1;clear H1;replace H:=bS.mp H;obtain ⟨t245,A250,H⟩:=H;replace H : (impl_WorstDays.l0 k2 t245 (wrap64 (x2_2 - 1)) (wrap64 (x7_2 + 1)) a0_0 a0_1) = some r:=H;have A25:=am A250;clear A250;have H':=am H;clear H;obtain ⟨hcz26_0,hcz26_1,hfz26_0,hfz26_1⟩:=bcl2 BK238.out;obtain ⟨Ao27,co27,eo27⟩:=Kd.V_slice HO_1.out;subst eo27;go_wp2_with (first | ((with_reducible refine gate_callee (f:=83) rfl ?_);refine goesL_ (some 26) rfl rfl Try.func83 (by kernel_rfl) rfl #[.agg #[.int .i64 a0_0,.int .i64 a0_1],.slice Ao27 x1_2.length co27] rfl qq177 ?_;(with_reducible refine (impl_MayStorm.calls k2 a0_0 a0_1 _ _ x1_2 false _ ?side1 ?side2 A18.out).mono ?_);(case side1 => exact qq144);(case side2 => exact qq303);rintro e w28 ⟨rfl,hb⟩;refine ⟨_,rfl,?_⟩;replace HO_1:=am (Kd.V_below qq190 hb);replace BK238:=am (blk_below (g:=gb238) (o:=.cells #[.int .i64 a0_0,.int .i64 a0_1] 37 (0,0)) qq234 hb);replace HB:=am (below_step qq170 hb);(try clear hb);(try clear hb2);(try clear hk);(try clear hi)) | ((with_reducible refine gate_callee (f:=82) rfl ?_);refine goesL_ (some 33) rfl rfl Try.func82 (by kernel_rfl) rfl #[.slice Ao27 x1_2.length co27,.bool false] rfl qq177 ?_;(with_reducible refine (impl_AddDay.calls _ _ x1_2 false t245 _ ?side1 ?side2 A25.out).mono ?_);(case side1 => exact qq144);(case side2 => exact qq303);rintro e w29 ⟨v246,rfl,ho0,hb⟩;refine ⟨_,rfl,?_⟩;replace HO_1:=am (Kd.V_elder' qq190 (Kd.R_base ho0) hb);have HO247:=am (Kd.R_lower (Kd.R_newM (M:=fun k_ => (w.heap.size ≤ k_)) ho0 (below_size qq170) (fun k_ h_ => h_)) (below_size qq170));replace BK238:=am (blk_below (g:=gb238) (o:=.cells #[.int .i64 a0_0,.int .i64 a0_1] 37 (0,0)) qq234 hb);replace HB:=am (below_step qq170 hb);(try clear hb);(try clear hb2);(try clear hk);(try clear hi);(try clear ho0)))
        go_roundg k2
        case measure => have:=HJ3.out;have:=HK2.out;omega
        case rel => exact ⟨(t245),(wrap64 (x2_2 - 1)),(wrap64 (x7_2 + 1)),qq298,qq298,H',⟨by have:=HJ3.out;have:=HK2.out;omega⟩,⟨Kd.V_mono (Kd.R_V (by (with_reducible repeat (first | apply kA | apply kN | apply kD));exact Kd.R_mono (ok':=fun k => w.heap.size ≤ k ∧ k ≠ gb238) (Kd.R_types HO247.out BK238.out (by decide)) (fun _ hk => ⟨hk.1.1,hk.2⟩))) (fun k_ hk => by first | exact ⟨(.inr (hk.1)),hk.2⟩ | exact (.inr (hk)))⟩,⟨qq234⟩,⟨qq170⟩⟩
      ·rw [if_neg c17] at H;have c17b0 : decide (0 < x2_2) = false:=decide_eq_false c17;clear c17;obtain rfl:=Option.some.inj H;go_wp2
       go_ret
       exact ⟨qq244,qq170⟩

end Go.Proofs.Ytcbkknpmeknppaa.PFnWeathers
