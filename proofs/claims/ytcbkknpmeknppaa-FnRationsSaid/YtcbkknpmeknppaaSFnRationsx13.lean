/- Contracts of functions that the law FnRations reaches, for its row: lines that the kit's printer wrote for this claim, set shorter by a program of this session (own.py), and what fell in Lean proved anew. Lean checks them. -/
import Derived.Test.YtcbkknpmeknppaaSFnRationsx0
import Derived.Test.YtcbkknpmeknppaaSFnRationsx1
import Derived.Test.YtcbkknpmeknppaaSFnRationsx10
import Derived.Test.YtcbkknpmeknppaaSFnRationsx12
namespace Go.Proofs.Ytcbkknpmeknppaa.PFnRations
open Go.RowKit Go.Proofs.YtcbkknpmeknppaaW.PrintWords Go.Proofs.YtcbkknpmeknppaaW.PrintLast Go.Proofs.YtcbkknpmeknppaaW.PrintMore
attribute [local go_sem] max2_int min2_int max_two min_two max_three min_three max_four min_four   -- for this text's walks alone
set_option linter.unusedVariables false
set_option linter.unusedSimpArgs false

/-! ### spec_DrawLevelFor: function 15 -/
def spec_DrawLevelFor.f (k : Nat) (l0 : List Int) : Option (Int × Int × (List (S112)) × List Bool × Int) := (spec_DrawEat.f k l0).bind fun bt475 => ((spec_l1New.f k l0).bind fun bt484 => ((spec_l1Int.f bt484.1 bt484.2.1 bt484.2.2 (([0, 3, 8, 20, 60, (-1)] : List Int))).bind fun bt491 => (some (bt475.1, bt475.2.1, bt475.2.2.1, bt475.2.2.2, bt491.1))))
theorem spec_DrawLevelFor.mono : ∀ a0 k, LeO (spec_DrawLevelFor.f k a0) (spec_DrawLevelFor.f (k + 1) a0) := by
 intro a0 k
 unfold spec_DrawLevelFor.f
 repeat' first
   | (with_reducible exact spec_DrawEat.mono _ _)
   | (with_reducible exact spec_l1New.mono _ _)
   | (with_reducible exact LeO.refl _)
   | (with_reducible exact LeO.none _)
   | (with_reducible refine LeO.ite ?_ ?_)
   | (with_reducible refine LeO.bind ?_ (fun _ => ?_))
   | exact spec_DrawEat.mono _ _
   | exact spec_l1New.mono _ _
   | exact LeO.none _
   | refine LeO.ite ?_ ?_
   | refine LeO.bind ?_ (fun _ => ?_)
set_option maxHeartbeats 8000000 in
set_option maxRecDepth 100000 in
theorem spec_DrawLevelFor.calls (k : Nat) (A0 : Option Addr) (c0 : Nat) (l0 : List Int) (r1 : Int) (r2 : Int) (r3 : List (S112)) (r4 : List Bool) (r5 : Int) (w : World) (hr0 : Kd.C (Kd.int .u8) w A0 l0.length l0) (hc0 : l0.length ≤ c0) (h : spec_DrawLevelFor.f k l0 = some (r1, r2, r3, r4, r5)) :
  Calls Try.prog 15 #[.slice A0 l0.length c0] w fun e w' => ∃ v2_ v3_ : Value,e = .returned (.tuple #[.agg #[.int .i64 r1,.int .i64 r2,v2_,v3_],.int .i64 r5]) ∧ Kd.R k112 112 w' w.heap.size (fun _ => True) v2_ r3 ∧ Kd.R Kd.bool 4 w' w.heap.size (fun _ => True) v3_ r4 ∧ Below w.heap.size w w':=by
 have hu27:=Try.underlying27;have HR0:=am hr0;have HC0:=am hc0;clear hr0 hc0;have HB:=am (Below.refl w.heap.size w);have H : ((spec_DrawEat.f k l0).bind fun bt475 => ((spec_l1New.f k l0).bind fun bt484 => ((spec_l1Int.f bt484.1 bt484.2.1 bt484.2.2 (([0,3,8,20,60,(-1)] : List Int))).bind fun bt491 => (some (bt475.1,bt475.2.1,bt475.2.2.1,bt475.2.2.2,bt491.1))))) = some (r1,r2,r3,r4,r5):=h;clear h;replace H:=bS.mp H;obtain ⟨⟨t475,t476,t477,t480⟩,A20,H⟩:=H;replace H : ((spec_l1New.f k l0).bind fun bt484 => ((spec_l1Int.f bt484.1 bt484.2.1 bt484.2.2 (([0,3,8,20,60,(-1)] : List Int))).bind fun bt491 => (some (t475,t476,t477,t480,bt491.1)))) = some (r1,r2,r3,r4,r5):=H;have A2:=am A20;clear A20;replace H:=bS.mp H;obtain ⟨⟨t484,t485,t486⟩,A30,H⟩:=H;replace H : ((spec_l1Int.f t484 t485 t486 (([0,3,8,20,60,(-1)] : List Int))).bind fun bt491 => (some (t475,t476,t477,t480,bt491.1))) = some (r1,r2,r3,r4,r5):=H;have A3:=am A30;clear A30;obtain ⟨y488,hy488⟩ : ∃ y_ : List Int,y_ = (([0,3,8,20,60,(-1)] : List Int)):=⟨_,rfl⟩
 replace H : ((spec_l1Int.f t484 t485 t486 y488).bind fun bt491 => (some (t475,t476,t477,t480,bt491.1))) = some (r1,r2,r3,r4,r5):=by first | (rw [hy488];with_reducible exact H) | (have H2_:=(Option.bind_some _ _).symm.trans H;rw [hy488];with_reducible exact H2_) | (have H2_:=(Option.bind_some _ _).symm.trans H;with_reducible exact H2_) | with_reducible exact H | (rw [hy488];exact H) | exact H
 have Ny488:=am hy488;clear hy488;replace H:=bS.mp H;obtain ⟨⟨t491,t492,t493⟩,A40,H⟩:=H;replace H : (some (t475,t476,t477,t480,t491)) = some (r1,r2,r3,r4,r5):=H;have A4:=am A40;clear A40;simp only [Option.some.injEq,Prod.mk.injEq] at H;obtain ⟨rfl,rfl,rfl,rfl,rfl⟩:=H
 go_enter Try.func15,Try.ntmps15
 try go_wp2_with (first | ((with_reducible refine gate_dst (N:=2) rfl ?_);refine box_event ?hg (N:=2) ?hd (cs:=#[.int .i64 0,.int .i64 0,.slice none 0 0,.slice none 0 0]) (t:=27) ?hr ?_;(case hd => rfl);(case hg => rfl);(case hr => exact qq226);intro gb474 hg w5 hbox hb;have BK474:=am (hbox);have GW474:=am ((qq119 : w.heap.size ≤ gb474));have GE474:=am ((qq119 : w.heap.size ≤ gb474));replace HB:=am (below_step qq143 hb);clear hb hbox hg) | ((with_reducible refine gate_callee (f:=72) rfl ?_);refine goesL_ (some 7) rfl rfl Try.func72 (by kernel_rfl) rfl #[.slice A0 l0.length c0] rfl qq137 ?_;(with_reducible refine (spec_DrawEat.calls k _ _ l0 t475 t476 t477 t480 _ ?side1 ?side2 A2.out).mono ?_);(case side1 => exact qq110);(case side2 => exact HC0.out);rintro e w6 ⟨v478,v481,rfl,ho0,ho1,hb⟩;refine ⟨_,rfl,?_⟩;have HO479:=am (Kd.R_lower ho0 (below_size qq123));have HO482:=am (Kd.R_lower ho1 (below_size qq123));replace BK474:=am (blk_below (g:=gb474) (o:=.cells #[.int .i64 0,.int .i64 0,.slice none 0 0,.slice none 0 0] 27 (0,0)) qq149 hb);replace HB:=am (below_step qq123 hb);(try clear hb);(try clear hb2);(try clear hk);(try clear hi);(try clear ho0);(try clear ho1)) | ((with_reducible refine gate_dst (N:=4) rfl ?_);refine box_event ?hg (N:=4) ?hd (cs:=#[.int .i64 0,.int .i64 0,.slice none 0 0,.slice none 0 0]) (t:=27) ?hr ?_;(case hd => rfl);(case hg => rfl);(case hr => exact qq226);intro gb483 hg w7 hbox hb;replace HO479:=am (Kd.R_below qq196 hb);replace HO482:=am (Kd.R_below qq195 hb);have BK483:=am (hbox);have GW483:=am ((qq90 : w.heap.size ≤ gb483));have GE483:=am ((qq90 : w.heap.size ≤ gb483));replace HB:=am (below_step qq123 hb);have NB474_483:=am ((by rw [hg];exact Nat.ne_of_lt (blk_lt (g:=gb474) (o:=.cells #[.int .i64 0,.int .i64 0,.slice none 0 0,.slice none 0 0] 27 (0,0)) qq149) : gb474 ≠ gb483));have NB483_474:=am ((by rw [hg];exact Nat.ne_of_gt (blk_lt (g:=gb474) (o:=.cells #[.int .i64 0,.int .i64 0,.slice none 0 0,.slice none 0 0] 27 (0,0)) qq149) : gb483 ≠ gb474));replace BK474:=am (blk_below (g:=gb474) (o:=.cells #[.int .i64 0,.int .i64 0,.slice none 0 0,.slice none 0 0] 27 (0,0)) qq149 hb);clear hb hbox hg;have hnb8:=NB483_474.out;have hnc8:=NB474_483.out;obtain ⟨hcz9_0,hcz9_1,hcz9_2,hcz9_3,hfz9_0,hfz9_1,hfz9_2,hfz9_3⟩:=bcl4 BK483.out;obtain ⟨Ao10,co10,eo10⟩:=Kd.R_slice HO479.out;subst eo10;obtain ⟨Ao11,co11,eo11⟩:=Kd.R_slice HO482.out;subst eo11) | ((with_reducible refine gate_callee (f:=73) rfl ?_);refine goesL_ (some 9) rfl rfl Try.func73 (by kernel_rfl) rfl #[.slice A0 l0.length c0] rfl qq137 ?_;(with_reducible refine (spec_l1New.calls k _ _ l0 t484 t485 t486 w _ ?side1 ?side2 ?side3 A3.out).mono ?_);(case side1 => repeat (first | (with_reducible first | exact HB.out | apply bA | apply bN | apply bD | refine below_set ?_ GE474.out | refine below_set ?_ GE483.out) | exact HB.out));(case side2 => exact HR0.out);(case side3 => exact HC0.out);rintro e w12 ⟨g487,rfl,hi,hb,hb2⟩;refine ⟨_,rfl,?_⟩;replace HO479:=am (Kd.R_below (by (with_reducible repeat (first | apply kA | apply kN | apply kD));exact (Kd.R_mono (Kd.R_far (p:=⟨gb483,3,none⟩) (Kd.R_far (p:=⟨gb483,2,none⟩) (Kd.R_far (p:=⟨gb483,1,none⟩) (Kd.R_far (p:=⟨gb483,0,none⟩) (Kd.R_types HO479.out BK483.out (by decide)) (fun _ hk => hk.2) (.int .i64 t475)) (fun _ hk => hk.2) (.int .i64 t476)) (fun _ hk => hk.2) (.slice Ao10 t477.length co10)) (fun _ hk => hk.2) (.slice Ao11 t480.length co11)) (fun _ h_ => h_.1))) hb2);replace HO482:=am (Kd.R_below (by (with_reducible repeat (first | apply kA | apply kN | apply kD));exact (Kd.R_mono (Kd.R_far (p:=⟨gb483,3,none⟩) (Kd.R_far (p:=⟨gb483,2,none⟩) (Kd.R_far (p:=⟨gb483,1,none⟩) (Kd.R_far (p:=⟨gb483,0,none⟩) (Kd.R_types HO482.out BK483.out (by decide)) (fun _ hk => hk.2) (.int .i64 t475)) (fun _ hk => hk.2) (.int .i64 t476)) (fun _ hk => hk.2) (.slice Ao10 t477.length co10)) (fun _ hk => hk.2) (.slice Ao11 t480.length co11)) (fun _ h_ => h_.1))) hb2);replace HB:=am (hb);have HI487:=am (hi);have NB487_474:=am (IsS141.ne_blk hi (blk_below (g:=gb474) (o:=.cells #[.int .i64 0,.int .i64 0,.slice none 0 0,.slice none 0 0] 27 (0,0)) qq6 hb2) (by decide));have NB474_487:=am (Ne.symm (IsS141.ne_blk hi (blk_below (g:=gb474) (o:=.cells #[.int .i64 0,.int .i64 0,.slice none 0 0,.slice none 0 0] 27 (0,0)) qq6 hb2) (by decide)));replace BK474:=am (blk_below (g:=gb474) (o:=.cells #[.int .i64 0,.int .i64 0,.slice none 0 0,.slice none 0 0] 27 (0,0)) qq6 hb2);have NB487_483:=am (IsS141.ne_blk hi (blk_below (g:=gb483) (o:=.cells #[.int .i64 t475,.int .i64 t476,.slice Ao10 t477.length co10,.slice Ao11 t480.length co11] 27 (0,0)) qq3 hb2) (by decide));have NB483_487:=am (Ne.symm (IsS141.ne_blk hi (blk_below (g:=gb483) (o:=.cells #[.int .i64 t475,.int .i64 t476,.slice Ao10 t477.length co10,.slice Ao11 t480.length co11] 27 (0,0)) qq3 hb2) (by decide)));replace BK483:=am (blk_below (g:=gb483) (o:=.cells #[.int .i64 t475,.int .i64 t476,.slice Ao10 t477.length co10,.slice Ao11 t480.length co11] 27 (0,0)) qq3 hb2);(try clear hb);(try clear hb2);(try clear hk);(try clear hi)))
 replace HO479:=am (Kd.R_drew HO479.out);replace HO482:=am (Kd.R_drew HO482.out);replace BK474:=am (blk_drew BK474.out);replace BK483:=am (blk_drew BK483.out);replace HI487:=am (IsS141.drew HI487.out);replace HB:=am (below_drew1 HB.out);refine start_ (n:=6) (S:=fun w' => w'.cell? ⟨gb483,0,none⟩ = some (.int .i64 t475) ∧ w'.cell? ⟨gb483,1,none⟩ = some (.int .i64 t476) ∧ w'.cell? ⟨gb483,2,none⟩ = some (.slice Ao10 t477.length co10) ∧ w'.cell? ⟨gb483,3,none⟩ = some (.slice Ao11 t480.length co11)) (ds:=[]) #[Z,Z,Z,Z,Z,Z] (by kernel_rfl) rfl rfl ⟨(blk_cell BK483.out 0).trans rfl,(blk_cell BK483.out 1).trans rfl,(blk_cell BK483.out 2).trans rfl,(blk_cell BK483.out 3).trans rfl⟩ (fun hHeld => ?_)
 generalize w12.drew = w13 at HO479 HO482 BK474 BK483 HI487 HB hHeld ⊢
 refine pV (i:=1) (N:=some 11) #[Z,Y,Z,Z,Z,Z] rfl rfl (by kernel_rfl) ?_
 refine tV4 (i:=0) (N:=some 10) #[Y,Y,Z,Z,Z,Z] rfl rfl (by kernel_rfl) hHeld ?_
 refine one_ (i:=2) (N:=some 12) #[Y,Y,Y,Z,Z,Z] rfl rfl (by kernel_rfl) (by decide) (fun K hK => ?_);refine Kd.R_lit_step (Kd.int .i64) _ 3 ?hg (N:=12) ?hd (xs:=([0,3,8,20,60,(-1)] : List Int)) (inner:=[.int .i64 0,.int .i64 3,.int .i64 8,.int .i64 20,.int .i64 60,.int .i64 (-1)]) (ok:=fun _ => True) (okp:=fun _ => True) ?hr ?hp (fun _ hk => hk) trivial (Below.refl _ _) (Nat.le_refl _) (by simp) ?_;(case hd => rfl);(case hg => rfl);(case hr => exact qq226);(case hp => exact (Reps.one (show Kd.M (Kd.int .i64) _ _ _ 0 [.int .i64 0] from rfl) (Reps.one (show Kd.M (Kd.int .i64) _ _ _ 3 [.int .i64 3] from rfl) (Reps.one (show Kd.M (Kd.int .i64) _ _ _ 8 [.int .i64 8] from rfl) (Reps.one (show Kd.M (Kd.int .i64) _ _ _ 20 [.int .i64 20] from rfl) (Reps.one (show Kd.M (Kd.int .i64) _ _ _ 60 [.int .i64 60] from rfl) (Reps.one (show Kd.M (Kd.int .i64) _ _ _ (-1) [.int .i64 (-1)] from rfl) (Reps.none _ _))))))));intro v489 w14 ho15 hb hg_ hnew_;clear hg_ hnew_;(first | rw [← Ny488.out] at ho15 | (simp only [Int.reduceToNat] at ho15;rw [← Ny488.out] at ho15));replace HO479:=am (Kd.R_below qq196 hb);replace HO482:=am (Kd.R_below qq195 hb);have HO490:=am (Kd.R_lower ho15 (below_size qq66));replace BK474:=am (blk_below (g:=gb474) (o:=.cells #[.int .i64 0,.int .i64 0,.slice none 0 0,.slice none 0 0] 27 (0,0)) qq149 hb);replace BK483:=am (blk_below (g:=gb483) (o:=.cells #[.int .i64 t475,.int .i64 t476,.slice Ao10 t477.length co10,.slice Ao11 t480.length co11] 27 (0,0)) qq148 hb);replace HB:=am (below_step qq66 hb);replace HI487:=am (IsS141.below qq28 hb);clear hb ho15;obtain ⟨Ao16,co16,eo16⟩:=Kd.R_slice HO490.out;(first | subst eo16 | (injection eo16 with f1_ f2_ f3_;have f4_:=f1_.symm;have f5_:=f3_.symm;clear f1_ f2_ f3_;subst f4_;subst f5_));refine hK.out _ _ ⟨(blk_cell BK483.out 0).trans rfl,(blk_cell BK483.out 1).trans rfl,(blk_cell BK483.out 2).trans rfl,(blk_cell BK483.out 3).trans rfl⟩ (fun hHeld => ?_);clear hK K;refine norm_ (a':=?_) ?_ ?_;rotate_left
 ·show Act.put _ (some 12) _ = _
  simp only [Act.put,sA,s0,s1,i64_w,i32_w];rfl
 refine one_ (i:=3) (N:=some 13) #[Y,Y,Y,Y,Z,Z] rfl rfl (by kernel_rfl) (by decide) (fun K hK => ?_);refine goes_ Try.func74 (by kernel_rfl) rfl #[.pointer (some ⟨g487,0,none⟩),.slice Ao16 y488.length co16] (by rfl) rfl rfl qq137 ?_;with_reducible refine (spec_l1Int.calls g487 t484 t485 t486 _ _ y488 t491 t492 t493 w _ ?side1 ?side2 ?side3 ?side4 ?side5 A4.out).mono ?_
 (case side1 => exact qq28);(case side2 => exact qq66);(case side3 => repeat (first | exact (Kd.R_reads' HO490.out).2.2 | (with_reducible refine cA ?_ _) | (with_reducible refine cN ?_ _) | (with_reducible refine cD ?_)));(case side4 => exact (Kd.R_reads' HO490.out).2.1);(case side5 => exact far_slice (IsS141.own_ne HI487.out HO490.out (by decide)))
 rintro e w17 ⟨rfl,hi,hb,hk⟩
 refine ⟨_,rfl,?_⟩;replace BK474:=am (KeepBut.blk hk (g':=gb474) (o:=.cells #[.int .i64 0,.int .i64 0,.slice none 0 0,.slice none 0 0] 27 (0,0)) qq149 NB474_487.out (by simp));replace HO479:=am (Kd.R_mono (Kd.R_keep (IsS141.apart (show IsS141 w _ g487 t484 t485 t486 from by repeat (first | (with_reducible first | exact HI487.out | apply IsS141.alloc | apply IsS141.drewN | apply IsS141.drew | apply IsS141.set_1 | apply IsS141.set_2 | refine IsS141.far ?_ NB487_474.out _ | refine IsS141.far ?_ NB487_483.out _) | exact HI487.out)) qq196 (by decide)) hk (fun _ h => h.2)) (fun _ h => h.1));replace HO482:=am (Kd.R_mono (Kd.R_keep (IsS141.apart (show IsS141 w _ g487 t484 t485 t486 from by repeat (first | (with_reducible first | exact HI487.out | apply IsS141.alloc | apply IsS141.drewN | apply IsS141.drew | apply IsS141.set_1 | apply IsS141.set_2 | refine IsS141.far ?_ NB487_474.out _ | refine IsS141.far ?_ NB487_483.out _) | exact HI487.out)) qq195 (by decide)) hk (fun _ h => h.2)) (fun _ h => h.1));replace BK483:=am (KeepBut.blk hk (g':=gb483) (o:=.cells #[.int .i64 t475,.int .i64 t476,.slice Ao10 t477.length co10,.slice Ao11 t480.length co11] 27 (0,0)) qq148 NB483_487.out (by simp));replace HO490:=am (Kd.R_mono (Kd.R_keep (IsS141.apart (show IsS141 w _ g487 t484 t485 t486 from by repeat (first | (with_reducible first | exact HI487.out | apply IsS141.alloc | apply IsS141.drewN | apply IsS141.drew | apply IsS141.set_1 | apply IsS141.set_2 | refine IsS141.far ?_ NB487_474.out _ | refine IsS141.far ?_ NB487_483.out _) | exact HI487.out)) (by (with_reducible repeat (first | apply kA | apply kN | apply kD));exact HO490.out) (by decide)) hk (fun _ h => h.2)) (fun _ h => h.1));replace HB:=am (hb);replace HI487:=am (hi);(try clear hb);(try clear hb2);(try clear hk);(try clear hi);refine hK.out _ _ ⟨(blk_cell BK483.out 0).trans rfl,(blk_cell BK483.out 1).trans rfl,(blk_cell BK483.out 2).trans rfl,(blk_cell BK483.out 3).trans rfl⟩ (fun hHeld => ?_);clear hK K;refine norm_ (a':=?_) ?_ ?_;rotate_left
 ·show Act.put _ (some 13) _ = _
  simp only [Act.put,sA,s0,s1,i64_w,i32_w];rfl
 refine one_ (i:=4) (N:=none) #[Y,Y,Y,Y,Y,Z] rfl rfl (by kernel_rfl) (by decide) (fun K hK => ?_);have hs18 : w17.cell? ⟨gb474,0,none⟩ = some (.int .i64 0):=(blk_cell BK474.out 0).trans rfl;have hfs18:=blk_frozen BK474.out 0;have hns18_1:=NB483_474.out;have hms18_1:=NB474_483.out;have hs19 : w17.cell? ⟨gb474,1,none⟩ = some (.int .i64 0):=(blk_cell BK474.out 1).trans rfl;have hfs19:=blk_frozen BK474.out 1;have hns19_1:=NB483_474.out;have hms19_1:=NB474_483.out;have hs20 : w17.cell? ⟨gb474,2,none⟩ = some (.slice none 0 0):=(blk_cell BK474.out 2).trans rfl;have hfs20:=blk_frozen BK474.out 2;have hns20_1:=NB483_474.out;have hms20_1:=NB474_483.out;have hs21 : w17.cell? ⟨gb474,3,none⟩ = some (.slice none 0 0):=(blk_cell BK474.out 3).trans rfl;have hfs21:=blk_frozen BK474.out 3;have hns21_1:=NB483_474.out;have hms21_1:=NB474_483.out;refine skip_ (w1:=?_) (by rfl) rfl ?_ ?_;rotate_left
 ·go_simp;rfl
 refine hK.out _ _ ⟨((cell_far (p:=⟨gb474,_,none⟩) NB483_474.out _).trans (((cell_far (p:=⟨gb474,_,none⟩) NB483_474.out _).trans (((cell_far (p:=⟨gb474,_,none⟩) NB483_474.out _).trans (((cell_far (p:=⟨gb474,_,none⟩) NB483_474.out _).trans (hHeld.1)))))))),((cell_far (p:=⟨gb474,_,none⟩) NB483_474.out _).trans (((cell_far (p:=⟨gb474,_,none⟩) NB483_474.out _).trans (((cell_far (p:=⟨gb474,_,none⟩) NB483_474.out _).trans (((cell_far (p:=⟨gb474,_,none⟩) NB483_474.out _).trans (hHeld.2.1)))))))),((cell_far (p:=⟨gb474,_,none⟩) NB483_474.out _).trans (((cell_far (p:=⟨gb474,_,none⟩) NB483_474.out _).trans (((cell_far (p:=⟨gb474,_,none⟩) NB483_474.out _).trans (((cell_far (p:=⟨gb474,_,none⟩) NB483_474.out _).trans (hHeld.2.2.1)))))))),((cell_far (p:=⟨gb474,_,none⟩) NB483_474.out _).trans (((cell_far (p:=⟨gb474,_,none⟩) NB483_474.out _).trans (((cell_far (p:=⟨gb474,_,none⟩) NB483_474.out _).trans (((cell_far (p:=⟨gb474,_,none⟩) NB483_474.out _).trans (hHeld.2.2.2))))))))⟩ (fun hHeld => ?_);clear hK K;refine pV (i:=5) (N:=some 3) #[Y,Y,Y,Y,Y,Y] rfl rfl (by kernel_rfl) ?_
 refine done_ (by kernel_rfl) ?_
 try go_wp2
 refine bodyPost_ret (results_ct rfl _ _ gb474 27 #[.int .i64 t475,.int .i64 t476,.slice Ao10 t477.length co10,.slice Ao11 t480.length co11] (0,0) _ rfl (by (with_reducible repeat (first | refine dN ?_ _ | refine dD ?_ | refine dA ?_ _));refine blk_put (cs:=#[.int .i64 t475,.int .i64 t476,.slice Ao10 t477.length co10,.slice none 0 0]) ?_ 3 _ rfl;(with_reducible repeat (first | refine dN ?_ _ | refine dD ?_ | refine dA ?_ _));refine blk_put (cs:=#[.int .i64 t475,.int .i64 t476,.slice none 0 0,.slice none 0 0]) ?_ 2 _ rfl;(with_reducible repeat (first | refine dN ?_ _ | refine dD ?_ | refine dA ?_ _));refine blk_put (cs:=#[.int .i64 t475,.int .i64 0,.slice none 0 0,.slice none 0 0]) ?_ 1 _ rfl;(with_reducible repeat (first | refine dN ?_ _ | refine dD ?_ | refine dA ?_ _));refine blk_put (cs:=#[.int .i64 0,.int .i64 0,.slice none 0 0,.slice none 0 0]) ?_ 0 _ rfl;(with_reducible repeat (first | refine dN ?_ _ | refine dD ?_ | refine dA ?_ _));exact BK474.out) Try.underlying27 rfl (by kernel_rfl)) rfl ?_;exact ⟨_,_,qq180,by (with_reducible repeat (first | apply kA | apply kN | apply kD));exact Kd.R_mono (Kd.R_far (p:=⟨gb474,3,none⟩) (Kd.R_far (p:=⟨gb474,2,none⟩) (Kd.R_far (p:=⟨gb474,1,none⟩) (Kd.R_far (p:=⟨gb474,0,none⟩) (Kd.R_types HO479.out BK474.out (by decide)) (fun _ hk => hk.2) (.int .i64 t475)) (fun _ hk => hk.2) (.int .i64 t476)) (fun _ hk => hk.2) (.slice Ao10 t477.length co10)) (fun _ hk => hk.2) (.slice Ao11 t480.length co11)) (fun _ hk => trivial),by (with_reducible repeat (first | apply kA | apply kN | apply kD));exact Kd.R_mono (Kd.R_far (p:=⟨gb474,3,none⟩) (Kd.R_far (p:=⟨gb474,2,none⟩) (Kd.R_far (p:=⟨gb474,1,none⟩) (Kd.R_far (p:=⟨gb474,0,none⟩) (Kd.R_types HO482.out BK474.out (by decide)) (fun _ hk => hk.2) (.int .i64 t475)) (fun _ hk => hk.2) (.int .i64 t476)) (fun _ hk => hk.2) (.slice Ao10 t477.length co10)) (fun _ hk => hk.2) (.slice Ao11 t480.length co11)) (fun _ hk => trivial),qq66⟩

/-! ### impl_LastsDays: function 16 -/
def impl_LastsDays.f (k : Nat) (a0_0 : Int) (a0_1 : Int) (l0_2 : List (S112)) (l0_3 : List Bool) (a1 : Int) : Option (Int) := (impl_NeedAt.f k l0_2 a1).bind fun t495 => (if t495 = 0 then (some 0) else (if a0_1 < 0 then (some 0) else (some (wrap64 (Int.tdiv a0_1 t495)))))
theorem impl_LastsDays.mono : ∀ a0 a1 a2 a3 a4 k, LeO (impl_LastsDays.f k a0 a1 a2 a3 a4) (impl_LastsDays.f (k + 1) a0 a1 a2 a3 a4) := by
 intro a0 a1 a2 a3 a4 k
 unfold impl_LastsDays.f
 repeat' first
   | (with_reducible exact impl_NeedAt.mono _ _ _)
   | (with_reducible exact LeO.refl _)
   | (with_reducible exact LeO.none _)
   | (with_reducible refine LeO.ite ?_ ?_)
   | (with_reducible refine LeO.bind ?_ (fun _ => ?_))
   | exact impl_NeedAt.mono _ _ _
   | exact LeO.none _
   | refine LeO.ite ?_ ?_
   | refine LeO.bind ?_ (fun _ => ?_)
set_option maxHeartbeats 8000000 in
set_option maxRecDepth 100000 in
theorem impl_LastsDays.calls (k : Nat) (a0_0 : Int) (a0_1 : Int) (A0_2 : Option Addr) (c0_2 : Nat) (l0_2 : List (S112)) (A0_3 : Option Addr) (c0_3 : Nat) (l0_3 : List Bool) (a1 : Int) (r : Int) (w : World) (hr0_2 : Kd.C k112 w A0_2 l0_2.length l0_2) (hc0_2 : l0_2.length ≤ c0_2) (hr0_3 : Kd.C Kd.bool w A0_3 l0_3.length l0_3) (hc0_3 : l0_3.length ≤ c0_3) (h : impl_LastsDays.f k a0_0 a0_1 l0_2 l0_3 a1 = some r) :
  Calls Try.prog 16 #[.agg #[.int .i64 a0_0,.int .i64 a0_1,.slice A0_2 l0_2.length c0_2,.slice A0_3 l0_3.length c0_3],.int .i64 a1] w fun e w' => e = .returned (.int .i64 r) ∧ Below w.heap.size w w':=by
 have hu27:=Try.underlying27;have HR0_2:=am hr0_2;have HC0_2:=am hc0_2;clear hr0_2 hc0_2;have HR0_3:=am hr0_3;have HC0_3:=am hc0_3;clear hr0_3 hc0_3;have HB:=am (Below.refl w.heap.size w);have H : ((impl_NeedAt.f k l0_2 a1).bind fun t495 => (if t495 = 0 then (some 0) else (if a0_1 < 0 then (some 0) else (some (wrap64 (Int.tdiv a0_1 t495)))))) = some r:=h;clear h;replace H:=bS.mp H;obtain ⟨t495,A30,H⟩:=H;replace H : (if t495 = 0 then (some 0) else (if a0_1 < 0 then (some 0) else (some (wrap64 (Int.tdiv a0_1 t495))))) = some r:=H;have A3:=am A30;clear A30
 by_cases c4 : t495 = 0
 ·rw [if_pos c4] at H;have c4b0 : (t495 == 0) = true:=beq_iff_eq.mpr c4;have c4b1 : (t495 != 0) = false:=bne_eq_false_iff_eq.mpr c4;clear c4;obtain rfl:=Option.some.inj H
  go_enter Try.func16,Try.ntmps16
  go_wp2_with (first | ((with_reducible refine gate_dst (N:=2) rfl ?_);refine box_event ?hg (N:=2) ?hd (cs:=#[.int .i64 a0_0,.int .i64 a0_1,.slice A0_2 l0_2.length c0_2,.slice A0_3 l0_3.length c0_3]) (t:=27) ?hr ?_;(case hd => rfl);(case hg => rfl);(case hr => exact qq226);intro gb494 hg w5 hbox hb;have BK494:=am (hbox);have GW494:=am ((qq119 : w.heap.size ≤ gb494));have GE494:=am ((qq119 : w.heap.size ≤ gb494));replace HB:=am (below_step qq143 hb);clear hb hbox hg;obtain ⟨hcz6_0,hcz6_1,hcz6_2,hcz6_3,hfz6_0,hfz6_1,hfz6_2,hfz6_3⟩:=bcl4 BK494.out) | ((with_reducible refine gate_callee (f:=14) rfl ?_);refine goesL_ (some 9) rfl rfl Try.func14 (by kernel_rfl) rfl #[.slice A0_2 l0_2.length c0_2,.int .i64 a1] rfl qq137 ?_;(with_reducible refine (impl_NeedAt.calls k _ _ l0_2 a1 t495 _ ?side1 ?side2 A3.out).mono ?_);(case side1 => exact qq104);(case side2 => exact qq240);rintro e w7 ⟨rfl,hb⟩;refine ⟨_,rfl,?_⟩;replace BK494:=am (blk_below (g:=gb494) (o:=.cells #[.int .i64 a0_0,.int .i64 a0_1,.slice A0_2 l0_2.length c0_2,.slice A0_3 l0_3.length c0_3] 27 (0,0)) qq147 hb);replace HB:=am (below_step qq122 hb);(try clear hb);(try clear hb2);(try clear hk);(try clear hi)))
  go_ret
  exact ⟨qq180,qq122⟩
 ·rw [if_neg c4] at H;have c4b0 : (t495 == 0) = false:=beq_eq_false_iff_ne.mpr c4;have c4b1 : (t495 != 0) = true:=bne_iff_ne.mpr c4
  by_cases c8 : a0_1 < 0
  ·rw [if_pos c8] at H;have c8b0 : decide (a0_1 < 0) = true:=decide_eq_true c8;clear c8;obtain rfl:=Option.some.inj H
   go_enter Try.func16,Try.ntmps16
   go_wp2_with (first | ((with_reducible refine gate_dst (N:=2) rfl ?_);refine box_event ?hg (N:=2) ?hd (cs:=#[.int .i64 a0_0,.int .i64 a0_1,.slice A0_2 l0_2.length c0_2,.slice A0_3 l0_3.length c0_3]) (t:=27) ?hr ?_;(case hd => rfl);(case hg => rfl);(case hr => exact qq226);intro gb494 hg w9 hbox hb;have BK494:=am (hbox);have GW494:=am ((qq119 : w.heap.size ≤ gb494));have GE494:=am ((qq119 : w.heap.size ≤ gb494));replace HB:=am (below_step qq143 hb);clear hb hbox hg;obtain ⟨hcz10_0,hcz10_1,hcz10_2,hcz10_3,hfz10_0,hfz10_1,hfz10_2,hfz10_3⟩:=bcl4 BK494.out) | ((with_reducible refine gate_callee (f:=14) rfl ?_);refine goesL_ (some 9) rfl rfl Try.func14 (by kernel_rfl) rfl #[.slice A0_2 l0_2.length c0_2,.int .i64 a1] rfl qq137 ?_;(with_reducible refine (impl_NeedAt.calls k _ _ l0_2 a1 t495 _ ?side1 ?side2 A3.out).mono ?_);(case side1 => exact qq104);(case side2 => exact qq240);rintro e w11 ⟨rfl,hb⟩;refine ⟨_,rfl,?_⟩;replace BK494:=am (blk_below (g:=gb494) (o:=.cells #[.int .i64 a0_0,.int .i64 a0_1,.slice A0_2 l0_2.length c0_2,.slice A0_3 l0_3.length c0_3] 27 (0,0)) qq147 hb);replace HB:=am (below_step qq122 hb);(try clear hb);(try clear hb2);(try clear hk);(try clear hi);obtain ⟨hcz12_0,hcz12_1,hcz12_2,hcz12_3,hfz12_0,hfz12_1,hfz12_2,hfz12_3⟩:=bcl4 BK494.out))
   go_ret
   exact ⟨qq180,qq122⟩
  ·rw [if_neg c8] at H;have c8b0 : decide (a0_1 < 0) = false:=decide_eq_false c8;clear c8;obtain rfl:=Option.some.inj H
   go_enter Try.func16,Try.ntmps16
   go_wp2_with (first | ((with_reducible refine gate_dst (N:=2) rfl ?_);refine box_event ?hg (N:=2) ?hd (cs:=#[.int .i64 a0_0,.int .i64 a0_1,.slice A0_2 l0_2.length c0_2,.slice A0_3 l0_3.length c0_3]) (t:=27) ?hr ?_;(case hd => rfl);(case hg => rfl);(case hr => exact qq226);intro gb494 hg w13 hbox hb;have BK494:=am (hbox);have GW494:=am ((qq119 : w.heap.size ≤ gb494));have GE494:=am ((qq119 : w.heap.size ≤ gb494));replace HB:=am (below_step qq143 hb);clear hb hbox hg;obtain ⟨hcz14_0,hcz14_1,hcz14_2,hcz14_3,hfz14_0,hfz14_1,hfz14_2,hfz14_3⟩:=bcl4 BK494.out) | ((with_reducible refine gate_callee (f:=14) rfl ?_);refine goesL_ (some 9) rfl rfl Try.func14 (by kernel_rfl) rfl #[.slice A0_2 l0_2.length c0_2,.int .i64 a1] rfl qq137 ?_;(with_reducible refine (impl_NeedAt.calls k _ _ l0_2 a1 t495 _ ?side1 ?side2 A3.out).mono ?_);(case side1 => exact qq104);(case side2 => exact qq240);rintro e w15 ⟨rfl,hb⟩;refine ⟨_,rfl,?_⟩;replace BK494:=am (blk_below (g:=gb494) (o:=.cells #[.int .i64 a0_0,.int .i64 a0_1,.slice A0_2 l0_2.length c0_2,.slice A0_3 l0_3.length c0_3] 27 (0,0)) qq147 hb);replace HB:=am (below_step qq122 hb);(try clear hb);(try clear hb2);(try clear hk);(try clear hi);obtain ⟨hcz16_0,hcz16_1,hcz16_2,hcz16_3,hfz16_0,hfz16_1,hfz16_2,hfz16_3⟩:=bcl4 BK494.out))
   go_ret
   exact ⟨qq180,qq122⟩

/-! ### impl_LevelFor: function 17 -/
def impl_LevelFor.l0 : Nat → Int → Int → Int → Int → List (S112) → List Bool → Option (Int)
 | 0,_,_,_,_,_,_ => none
 | k + 1,x1,x6,x497000,x497001,x497002,x497003 => if x6 < 3 then (if x1 ≥ 0 then ((impl_LastsDays.f k x497000 x497001 x497002 x497003 x6).bind fun t497 => (if t497 ≥ x1 then (some x6) else (impl_LevelFor.l0 k x1 (wrap64 (x6 + 1)) x497000 x497001 x497002 x497003))) else (impl_LevelFor.l0 k x1 (wrap64 (x6 + 1)) x497000 x497001 x497002 x497003)) else (some (-1))
def impl_LevelFor.f (k : Nat) (a0_0 : Int) (a0_1 : Int) (l0_2 : List (S112)) (l0_3 : List Bool) (a1 : Int) : Option (Int) := impl_LevelFor.l0 k a1 0 a0_0 a0_1 l0_2 l0_3
theorem impl_LevelFor.mono_l : ∀ k, (∀ y0 y1 y2 y3 y4 y5, LeO (impl_LevelFor.l0 k y0 y1 y2 y3 y4 y5) (impl_LevelFor.l0 (k + 1) y0 y1 y2 y3 y4 y5))
 | 0 => fun _ _ _ _ _ _ r h => by simp [impl_LevelFor.l0] at h
 | k + 1 => by
  have ih0:=impl_LevelFor.mono_l k
  ·intro y0 y1 y2 y3 y4 y5
   unfold impl_LevelFor.l0
   repeat' first
   | (with_reducible exact ih0 _ _ _ _ _ _)
   | (with_reducible exact impl_LastsDays.mono _ _ _ _ _ _)
   | (with_reducible exact LeO.refl _)
   | (with_reducible exact LeO.none _)
   | (with_reducible refine LeO.ite ?_ ?_)
   | (with_reducible refine LeO.bind ?_ (fun _ => ?_))
   | exact ih0 _ _ _ _ _ _
   | exact impl_LastsDays.mono _ _ _ _ _ _
   | exact LeO.none _
   | refine LeO.ite ?_ ?_
   | refine LeO.bind ?_ (fun _ => ?_)
theorem impl_LevelFor.mono : ∀ a0 a1 a2 a3 a4 k, LeO (impl_LevelFor.f k a0 a1 a2 a3 a4) (impl_LevelFor.f (k + 1) a0 a1 a2 a3 a4) := by
 intro a0 a1 a2 a3 a4 k
 have ih0:=impl_LevelFor.mono_l k
 unfold impl_LevelFor.f
 repeat' first
   | (with_reducible exact ih0 _ _ _ _ _ _)
   | (with_reducible exact impl_LastsDays.mono _ _ _ _ _ _)
   | (with_reducible exact LeO.refl _)
   | (with_reducible exact LeO.none _)
   | (with_reducible refine LeO.ite ?_ ?_)
   | (with_reducible refine LeO.bind ?_ (fun _ => ?_))
   | exact ih0 _ _ _ _ _ _
   | exact impl_LastsDays.mono _ _ _ _ _ _
   | exact LeO.none _
   | refine LeO.ite ?_ ?_
   | refine LeO.bind ?_ (fun _ => ?_)
set_option maxHeartbeats 8000000 in
set_option maxRecDepth 100000 in
theorem impl_LevelFor.calls (k : Nat) (a0_0 : Int) (a0_1 : Int) (A0_2 : Option Addr) (c0_2 : Nat) (l0_2 : List (S112)) (A0_3 : Option Addr) (c0_3 : Nat) (l0_3 : List Bool) (a1 : Int) (r : Int) (w : World) (hr0_2 : Kd.C k112 w A0_2 l0_2.length l0_2) (hc0_2 : l0_2.length ≤ c0_2) (hr0_3 : Kd.C Kd.bool w A0_3 l0_3.length l0_3) (hc0_3 : l0_3.length ≤ c0_3) (h : impl_LevelFor.f k a0_0 a0_1 l0_2 l0_3 a1 = some r) :
  Calls Try.prog 17 #[.agg #[.int .i64 a0_0,.int .i64 a0_1,.slice A0_2 l0_2.length c0_2,.slice A0_3 l0_3.length c0_3],.int .i64 a1] w fun e w' => e = .returned (.int .i64 r) ∧ Below w.heap.size w w':=by
 have hu27:=Try.underlying27;have HR0_2:=am hr0_2;have HC0_2:=am hc0_2;clear hr0_2 hc0_2;have HR0_3:=am hr0_3;have HC0_3:=am hc0_3;clear hr0_3 hc0_3;have HB:=am (Below.refl w.heap.size w);have H : (impl_LevelFor.l0 k a1 0 a0_0 a0_1 l0_2 l0_3) = some r:=h;clear h;have H':=am H;clear H
 go_enter Try.func17,Try.ntmps17
 go_wp2_with (first | ((with_reducible refine gate_dst (N:=2) rfl ?_);refine box_event ?hg (N:=2) ?hd (cs:=#[.int .i64 a0_0,.int .i64 a0_1,.slice A0_2 l0_2.length c0_2,.slice A0_3 l0_3.length c0_3]) (t:=27) ?hr ?_;(case hd => rfl);(case hg => rfl);(case hr => exact qq226);intro gb496 hg w3 hbox hb;have BK496:=am (hbox);have GW496:=am ((qq119 : w.heap.size ≤ gb496));have GE496:=am ((qq119 : w.heap.size ≤ gb496));replace HB:=am (below_step qq143 hb);clear hb hbox hg))
 go_loopg [6] k (fun kq v6 w' => ∃ (x6_1 : Int),v6 = .int .i64 x6_1 ∧ Aside0 (impl_LevelFor.l0 kq a1 x6_1 a0_0 a0_1 l0_2 l0_3 = some r) ∧ Aside0 (kq ≤ k) ∧ Aside0 (w'.heap[gb496]? = some (.cells #[.int .i64 a0_0,.int .i64 a0_1,(.slice A0_2 l0_2.length c0_2),(.slice A0_3 l0_3.length c0_3)] 27 (0,0))) ∧ Aside0 (Below w.heap.size w w'))
 case atStart => exact ⟨(0),qq225,H',⟨Nat.le_refl _⟩,⟨qq146⟩,⟨qq121⟩⟩
 case round =>
  clear H'
  try clear c1
  try clear p2
  obtain ⟨x6_1,rfl,HA,HK1,BK496,HB⟩:=hrel
  cases gk with
  | zero => exact absurd HA.out (by simp [impl_LevelFor.l0])
  | succ k1 =>
   have H:=HA.out;clear HA;simp only [impl_LevelFor.l0] at H
   by_cases c4 : x6_1 < 3
   ·rw [if_pos c4] at H;have c4b0 : decide (x6_1 < 3) = true:=decide_eq_true c4;clear c4
    by_cases c5 : a1 ≥ 0
    ·rw [if_pos c5] at H;have c5b0 : decide (0 ≤ a1) = true:=decide_eq_true c5;clear c5;replace H:=bS.mp H;obtain ⟨t497,A60,H⟩:=H;replace H : (if t497 ≥ a1 then (some x6_1) else (impl_LevelFor.l0 k1 a1 (wrap64 (x6_1 + 1)) a0_0 a0_1 l0_2 l0_3)) = some r:=H;have A6:=am A60;clear A60
     by_cases c7 : t497 ≥ a1
     ·rw [if_pos c7] at H;have c7b0 : decide (a1 ≤ t497) = true:=decide_eq_true c7;clear c7;obtain rfl:=Option.some.inj H;obtain ⟨hcz8_0,hcz8_1,hcz8_2,hcz8_3,hfz8_0,hfz8_1,hfz8_2,hfz8_3⟩:=bcl4 BK496.out;go_wp2_with (first | (go_at_call 16;(with_reducible refine (impl_LastsDays.calls k1 a0_0 a0_1 _ _ l0_2 _ _ l0_3 x6_1 t497 _ ?side1 ?side2 ?side3 ?side4 A6.out).mono ?_);(case side1 => exact qq104);(case side2 => exact qq240);(case side3 => exact qq103);(case side4 => exact HC0_3.out);rintro e w9 ⟨rfl,hb⟩;replace BK496:=am (blk_below (g:=gb496) (o:=.cells #[.int .i64 a0_0,.int .i64 a0_1,.slice A0_2 l0_2.length c0_2,.slice A0_3 l0_3.length c0_3] 27 (0,0)) qq146 hb);replace HB:=am (below_step qq121 hb);(try clear hb);(try clear hb2);(try clear hk);(try clear hi)))
      go_ret
      exact ⟨qq180,qq121⟩
     ·rw [if_neg c7] at H;have c7b0 : decide (a1 ≤ t497) = false:=decide_eq_false c7;clear c7;have H':=am H;clear H;obtain ⟨hcz10_0,hcz10_1,hcz10_2,hcz10_3,hfz10_0,hfz10_1,hfz10_2,hfz10_3⟩:=bcl4 BK496.out;go_wp2_with (first | (go_at_call 16;(with_reducible refine (impl_LastsDays.calls k1 a0_0 a0_1 _ _ l0_2 _ _ l0_3 x6_1 t497 _ ?side1 ?side2 ?side3 ?side4 A6.out).mono ?_);(case side1 => exact qq104);(case side2 => exact qq240);(case side3 => exact qq103);(case side4 => exact HC0_3.out);rintro e w11 ⟨rfl,hb⟩;replace BK496:=am (blk_below (g:=gb496) (o:=.cells #[.int .i64 a0_0,.int .i64 a0_1,.slice A0_2 l0_2.length c0_2,.slice A0_3 l0_3.length c0_3] 27 (0,0)) qq146 hb);replace HB:=am (below_step qq121 hb);(try clear hb);(try clear hb2);(try clear hk);(try clear hi)))
      go_roundg k1
      case measure => have:=HK1.out;omega
      case rel => exact ⟨(wrap64 (x6_1 + 1)),qq225,H',⟨qq239⟩,⟨qq146⟩,⟨qq121⟩⟩
    ·rw [if_neg c5] at H;have c5b0 : decide (0 ≤ a1) = false:=decide_eq_false c5;clear c5;have H':=am H;clear H;go_wp2
     go_roundg k1
     case measure => have:=HK1.out;omega
     case rel => exact ⟨(wrap64 (x6_1 + 1)),qq225,H',⟨qq239⟩,⟨qq146⟩,⟨qq121⟩⟩
   ·rw [if_neg c4] at H;have c4b0 : decide (x6_1 < 3) = false:=decide_eq_false c4;clear c4;obtain rfl:=Option.some.inj H;go_wp2
    go_ret
    exact ⟨qq180,qq121⟩

/-! ### spec_DrawNeedAt: function 18 -/
def spec_DrawNeedAt.f (k : Nat) (l0 : List Int) : Option ((List (S112)) × Int) := (spec_l1New.f k l0).bind fun bt498 => ((spec_l7Any.f k bt498.1 bt498.2.1 bt498.2.2).bind fun bt502 => ((spec_l1Below.f bt498.1 bt502.2.1 bt502.2.2 5).bind fun bt507 => (some (bt502.1, wrap64 (bt507.1 - 1)))))
theorem spec_DrawNeedAt.mono : ∀ a0 k, LeO (spec_DrawNeedAt.f k a0) (spec_DrawNeedAt.f (k + 1) a0) := by
 intro a0 k
 unfold spec_DrawNeedAt.f
 repeat' first
   | (with_reducible exact spec_l1New.mono _ _)
   | (with_reducible exact spec_l7Any.mono _ _ _ _)
   | (with_reducible exact LeO.refl _)
   | (with_reducible exact LeO.none _)
   | (with_reducible refine LeO.ite ?_ ?_)
   | (with_reducible refine LeO.bind ?_ (fun _ => ?_))
   | exact spec_l1New.mono _ _
   | exact spec_l7Any.mono _ _ _ _
   | exact LeO.none _
   | refine LeO.ite ?_ ?_
   | refine LeO.bind ?_ (fun _ => ?_)
set_option maxHeartbeats 8000000 in
set_option maxRecDepth 100000 in
theorem spec_DrawNeedAt.calls (k : Nat) (A0 : Option Addr) (c0 : Nat) (l0 : List Int) (r1 : List (S112)) (r2 : Int) (w : World) (hr0 : Kd.C (Kd.int .u8) w A0 l0.length l0) (hc0 : l0.length ≤ c0) (h : spec_DrawNeedAt.f k l0 = some (r1, r2)) :
  Calls Try.prog 18 #[.slice A0 l0.length c0] w fun e w' => ∃ v0_ : Value,e = .returned (.tuple #[v0_,.int .i64 r2]) ∧ Kd.R k112 112 w' w.heap.size (fun _ => True) v0_ r1 ∧ Below w.heap.size w w':=by
 have HR0:=am hr0;have HC0:=am hc0;clear hr0 hc0;have HB:=am (Below.refl w.heap.size w);have H : ((spec_l1New.f k l0).bind fun bt498 => ((spec_l7Any.f k bt498.1 bt498.2.1 bt498.2.2).bind fun bt502 => ((spec_l1Below.f bt498.1 bt502.2.1 bt502.2.2 5).bind fun bt507 => (some (bt502.1,wrap64 (bt507.1 - 1)))))) = some (r1,r2):=h;clear h;replace H:=bS.mp H;obtain ⟨⟨t498,t499,t500⟩,A20,H⟩:=H;replace H : ((spec_l7Any.f k t498 t499 t500).bind fun bt502 => ((spec_l1Below.f t498 bt502.2.1 bt502.2.2 5).bind fun bt507 => (some (bt502.1,wrap64 (bt507.1 - 1))))) = some (r1,r2):=H;have A2:=am A20;clear A20;replace H:=bS.mp H;obtain ⟨⟨t502,t505,t506⟩,A30,H⟩:=H;replace H : ((spec_l1Below.f t498 t505 t506 5).bind fun bt507 => (some (t502,wrap64 (bt507.1 - 1)))) = some (r1,r2):=H;have A3:=am A30;clear A30;replace H:=bS.mp H;obtain ⟨⟨t507,t508,t509⟩,A40,H⟩:=H;replace H : (some (t502,wrap64 (t507 - 1))) = some (r1,r2):=H;have A4:=am A40;clear A40;simp only [Option.some.injEq,Prod.mk.injEq] at H;obtain ⟨rfl,rfl⟩:=H
 go_enter Try.func18,Try.ntmps18
 go_wp2_with (first | ((with_reducible refine gate_callee (f:=73) rfl ?_);refine goesL_ (some 7) rfl rfl Try.func73 (by kernel_rfl) rfl #[.slice A0 l0.length c0] rfl qq137 ?_;(with_reducible refine (spec_l1New.calls k _ _ l0 t498 t499 t500 w _ ?side1 ?side2 ?side3 A2.out).mono ?_);(case side1 => exact qq143);(case side2 => exact HR0.out);(case side3 => exact HC0.out);rintro e w5 ⟨g501,rfl,hi,hb,hb2⟩;refine ⟨_,rfl,?_⟩;replace HB:=am (hb);have HI501:=am (hi);(try clear hb);(try clear hb2);(try clear hk);(try clear hi)) | ((with_reducible refine gate_callee (f:=77) rfl ?_);refine goesL_ (some 9) rfl rfl Try.func77 (by kernel_rfl) rfl #[.pointer (some ⟨g501,0,none⟩)] rfl qq137 ?_;(with_reducible refine (spec_l7Any.calls k g501 t498 t499 t500 t502 t505 t506 w _ ?side1 ?side2 A3.out).mono ?_);(case side1 => exact qq83);(case side2 => exact qq113);rintro e w6 ⟨v503,rfl,ho0,hi,hb,hk⟩;refine ⟨_,rfl,?_⟩;have HO504:=am (Kd.R_lower ho0 (below_size qq113));replace HB:=am (hb);replace HI501:=am (hi);(try clear hb);(try clear hb2);(try clear hk);(try clear hi);(try clear ho0)) | ((with_reducible refine gate_callee (f:=78) rfl ?_);refine goesL_ (some 12) rfl rfl Try.func78 (by kernel_rfl) rfl #[.pointer (some ⟨g501,0,none⟩),.int .i64 5] rfl qq137 ?_;(with_reducible refine (spec_l1Below.calls g501 t498 t505 t506 5 t507 t508 t509 w _ ?side1 ?side2 A4.out).mono ?_);(case side1 => exact qq83);(case side2 => exact qq113);rintro e w7 ⟨rfl,hi,hb,hk⟩;refine ⟨_,rfl,?_⟩;replace HO504:=am (Kd.R_mono (Kd.R_keep (IsS141.apart (show IsS141 w _ g501 t498 t505 t506 from by repeat (first | (with_reducible first | exact HI501.out | apply IsS141.alloc | apply IsS141.drewN | apply IsS141.drew | apply IsS141.set_1 | apply IsS141.set_2) | exact HI501.out)) qq194 (by decide)) hk (fun _ h => h.2)) (fun _ h => h.1));replace HB:=am (hb);replace HI501:=am (hi);(try clear hb);(try clear hb2);(try clear hk);(try clear hi)))
 go_ret2
 exact ⟨_,qq180,qq194,qq113⟩

/-! ### impl_LevelName: function 20 -/
def impl_LevelName.f (a0 : Int) : Option (ByteArray) := (impl_InRange.f a0 0 2).bind fun t510 => (if t510 = true then ((some (([(⟨#[102, 117, 108, 108]⟩ : ByteArray), (⟨#[104, 97, 108, 102]⟩ : ByteArray), (⟨#[116, 104, 105, 114, 100]⟩ : ByteArray)] : List ByteArray) : List ByteArray)).bind fun y511 => (if 0 ≤ a0 then (if a0 < (y511.length : Int) then (some (rdOf ByteArray.empty y511 a0)) else (none)) else (none))) else (some (⟨#[]⟩ : ByteArray)))
set_option maxHeartbeats 8000000 in
set_option maxRecDepth 100000 in
theorem impl_LevelName.calls (a0 : Int) (r : ByteArray) (w : World) (h : impl_LevelName.f a0 = some r) :
  Calls Try.prog 20 #[.int .i64 a0] w fun e w' => e = .returned (.string r) ∧ Below w.heap.size w w':=by
 have HB:=am (Below.refl w.heap.size w);have H : ((impl_InRange.f a0 0 2).bind fun t510 => (if t510 = true then ((some (([(⟨#[102,117,108,108]⟩ : ByteArray),(⟨#[104,97,108,102]⟩ : ByteArray),(⟨#[116,104,105,114,100]⟩ : ByteArray)] : List ByteArray) : List ByteArray)).bind fun y511 => (if 0 ≤ a0 then (if a0 < (y511.length : Int) then (some (rdOf ByteArray.empty y511 a0)) else (none)) else (none))) else (some (⟨#[]⟩ : ByteArray)))) = some r:=h;clear h;replace H:=bS.mp H;obtain ⟨t510,A20,H⟩:=H;replace H : (if t510 = true then ((some (([(⟨#[102,117,108,108]⟩ : ByteArray),(⟨#[104,97,108,102]⟩ : ByteArray),(⟨#[116,104,105,114,100]⟩ : ByteArray)] : List ByteArray) : List ByteArray)).bind fun y511 => (if 0 ≤ a0 then (if a0 < (y511.length : Int) then (some (rdOf ByteArray.empty y511 a0)) else (none)) else (none))) else (some (⟨#[]⟩ : ByteArray))) = some r:=H;have A2:=am A20;clear A20
 by_cases c3 : t510 = true
 ·subst c3;have H1 : ((some (([(⟨#[102,117,108,108]⟩ : ByteArray),(⟨#[104,97,108,102]⟩ : ByteArray),(⟨#[116,104,105,114,100]⟩ : ByteArray)] : List ByteArray) : List ByteArray)).bind fun y511 => (if 0 ≤ a0 then (if a0 < (y511.length : Int) then (some (rdOf ByteArray.empty y511 a0)) else (none)) else (none))) = some r:=by rw [if_pos rfl] at H;exact H
  clear H;have H:=H1;clear H1;obtain ⟨y511,hy511⟩ : ∃ y_ : List ByteArray,y_ = (([(⟨#[102,117,108,108]⟩ : ByteArray),(⟨#[104,97,108,102]⟩ : ByteArray),(⟨#[116,104,105,114,100]⟩ : ByteArray)] : List ByteArray)):=⟨_,rfl⟩
  replace H : (if 0 ≤ a0 then (if a0 < (y511.length : Int) then (some (rdOf ByteArray.empty y511 a0)) else (none)) else (none)) = some r:=by first | (rw [hy511];with_reducible exact H) | (have H2_:=(Option.bind_some _ _).symm.trans H;rw [hy511];with_reducible exact H2_) | (have H2_:=(Option.bind_some _ _).symm.trans H;with_reducible exact H2_) | with_reducible exact H | (rw [hy511];exact H) | exact H
  have Ny511:=am hy511;clear hy511
  by_cases c4 : 0 ≤ a0
  ·rw [if_pos c4] at H;have c4b0 : decide (0 ≤ a0) = true:=decide_eq_true c4;clear c4
   by_cases c5 : a0 < (y511.length : Int)
   ·rw [if_pos c5] at H;have c5b0 : decide (a0 < (y511.length : Int)) = true:=decide_eq_true c5;clear c5;obtain rfl:=Option.some.inj H
    go_enter Try.func20,Try.ntmps20
    go_wp2_with (first | ((with_reducible refine gate_callee (f:=76) rfl ?_);refine goesL_ (some 4) rfl rfl Try.func76 (by kernel_rfl) rfl #[.int .i64 a0,.int .i64 0,.int .i64 2] rfl qq137 ?_;(with_reducible refine (impl_InRange.calls a0 0 2 true _ A2.out).mono ?_);rintro e w' ⟨rfl,⟨nd,rfl⟩⟩;refine ⟨_,rfl,?_⟩) | ((with_reducible refine gate_dst (N:=6) rfl ?_);refine Kd.R_lit Kd.string _ 9 ?hg (N:=6) ?hd (xs:=([(⟨#[102,117,108,108]⟩ : ByteArray),(⟨#[104,97,108,102]⟩ : ByteArray),(⟨#[116,104,105,114,100]⟩ : ByteArray)] : List ByteArray)) (inner:=[.string (⟨#[102,117,108,108]⟩ : ByteArray),.string (⟨#[104,97,108,102]⟩ : ByteArray),.string (⟨#[116,104,105,114,100]⟩ : ByteArray)]) (ok:=fun _ => True) (okp:=fun _ => True) ?hr ?hp (fun _ hk => hk) trivial (Below.refl _ _) (Nat.le_refl _) (by simp) ?_;(case hd => rfl);(case hg => rfl);(case hr => exact qq226);(case hp => exact (Reps.one (show Kd.M Kd.string _ _ _ (⟨#[102,117,108,108]⟩ : ByteArray) [.string (⟨#[102,117,108,108]⟩ : ByteArray)] from rfl) (Reps.one (show Kd.M Kd.string _ _ _ (⟨#[104,97,108,102]⟩ : ByteArray) [.string (⟨#[104,97,108,102]⟩ : ByteArray)] from rfl) (Reps.one (show Kd.M Kd.string _ _ _ (⟨#[116,104,105,114,100]⟩ : ByteArray) [.string (⟨#[116,104,105,114,100]⟩ : ByteArray)] from rfl) (Reps.none _ _)))));intro v512 w6 ho7 hb hg_ hnew_;clear hg_ hnew_;(first | rw [← Ny511.out] at ho7 | (simp only [Int.reduceToNat] at ho7;rw [← Ny511.out] at ho7));have HO513:=am (Kd.R_lower ho7 (below_size qq143));replace HB:=am (below_step qq143 hb);clear hb ho7;obtain ⟨Ao8,co8,eo8⟩:=Kd.R_slice HO513.out;subst eo8;have p514 : 0 ≤ (a0 : Int):=odt qq223;have q514 : a0 < (y511.length : Int):=odt qq223;obtain ⟨ad514,e514,hx514_0⟩:=Kd.at_string (Kd.R_reads' HO513.out).2.2 a0 p514 q514;cases e514;replace p514:=eq_true p514;replace q514:=eq_true q514))
    go_ret
    exact ⟨qq180,qq143⟩
   ·rw [if_neg c5] at H;exact absurd H (by simp)
  ·rw [if_neg c4] at H;exact absurd H (by simp)
 ·replace c3:=Bool.eq_false_iff.mpr c3;subst c3;have H1 : (some (⟨#[]⟩ : ByteArray)) = some r:=by rw [if_neg (show ¬ (false = true) by decide)] at H;exact H
  clear H;have H:=H1;clear H1;obtain rfl:=Option.some.inj H
  go_enter Try.func20,Try.ntmps20
  go_wp2_with (first | ((with_reducible refine gate_callee (f:=76) rfl ?_);refine goesL_ (some 4) rfl rfl Try.func76 (by kernel_rfl) rfl #[.int .i64 a0,.int .i64 0,.int .i64 2] rfl qq137 ?_;(with_reducible refine (impl_InRange.calls a0 0 2 false _ A2.out).mono ?_);rintro e w' ⟨rfl,⟨nd,rfl⟩⟩;refine ⟨_,rfl,?_⟩))
  go_ret
  exact ⟨qq180,qq143⟩

end Go.Proofs.Ytcbkknpmeknppaa.PFnRations
