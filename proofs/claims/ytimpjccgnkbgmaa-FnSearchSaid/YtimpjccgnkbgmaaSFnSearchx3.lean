/- Contracts of functions that the law FnSearch reaches, for its row: lines that the kit's printer wrote for this claim, set shorter by a program of this session (own.py), and what fell in Lean proved anew. Lean checks them. -/
import Derived.Test.YtimpjccgnkbgmaaSFnSearchx0
import Derived.Test.YtimpjccgnkbgmaaSFnSearchx1
import Derived.Test.YtimpjccgnkbgmaaSFnSearchx2
namespace Go.Proofs.Ytimpjccgnkbgmaa.PFnSearch
open Go.RowKit Go.Proofs.YtimpjccgnkbgmaaW.PrintWords Go.Proofs.YtimpjccgnkbgmaaW.PrintLast Go.Proofs.YtimpjccgnkbgmaaW.PrintMore
attribute [local go_sem] max2_int min2_int max_two min_two max_three min_three max_four min_four   -- for this text's walks alone
set_option linter.unusedVariables false
set_option linter.unusedSimpArgs false

/-! ### spec_DrawReach: function 16 -/
def spec_DrawReach.f (k : Nat) (l0 : List Int) : Option (Int × Int × List Int × Int × Int) := (spec_DrawIsCell.f k l0).bind fun bt202 => ((spec_l1New.f k l0).bind fun bt209 => ((spec_l1Int.f bt209.1 bt209.2.1 bt209.2.2 (([0, 1, 2, 4, 99, (-1)] : List Int))).bind fun bt216 => (some (bt202.1, bt202.2.1, bt202.2.2.1, bt202.2.2.2, bt216.1))))
def spec_DrawReach.T3 : Bool × List (List Nat × List Nat) := (true, [([], []), ([], []), ([], []), ([], []), ([2, 3], [2, 3]), ([0, 4, 0], [0]), ([1, 5, 0, 1, 5], [1]), ([4, 6, 0, 1, 2, 3, 4, 5, 6], [4])])
def spec_DrawReach.B3 : List Nat := [0, 0, 0, 0, 12, 29, 63, 127]
theorem spec_DrawReach.tab3 : rtab .any (opsOf Try.f16 3) = spec_DrawReach.T3 := by kernel_rfl
theorem spec_DrawReach.bits3 : waitsOk spec_DrawReach.T3.2 spec_DrawReach.B3 = true := by kernel_rfl
set_option maxHeartbeats 8000000 in
set_option maxRecDepth 100000 in
theorem spec_DrawReach.calls (k : Nat) (A0 : Option Addr) (c0 : Nat) (l0 : List Int) (r1 : Int) (r2 : Int) (r3 : List Int) (r4 : Int) (r5 : Int) (w : World) (hr0 : Kd.C (Kd.int .u8) w A0 l0.length l0) (hc0 : l0.length ≤ c0) (h : spec_DrawReach.f k l0 = some (r1, r2, r3, r4, r5)) :
  Calls Try.prog 16 #[.slice A0 l0.length c0] w fun e w' => ∃ v2_ : Value,e = .returned (.tuple #[.agg #[.int .i64 r1,.int .i64 r2,v2_],.int .i64 r4,.int .i64 r5]) ∧ Kd.Q (Kd.int .i64) 3 w' w.heap.size (fun _ => True) v2_ r3 ∧ Below w.heap.size w w':=by
 have hu26:=Try.underlying26;have HR0:=am hr0;have HC0:=am hc0;clear hr0 hc0;have HB:=am qq354;have H : ((spec_DrawIsCell.f k l0).bind fun bt202 => ((spec_l1New.f k l0).bind fun bt209 => ((spec_l1Int.f bt209.1 bt209.2.1 bt209.2.2 (([0,1,2,4,99,(-1)] : List Int))).bind fun bt216 => (some (bt202.1,bt202.2.1,bt202.2.2.1,bt202.2.2.2,bt216.1))))) = some (r1,r2,r3,r4,r5):=h;clear h;replace H:=bS.mp H;obtain ⟨⟨t202,t203,t204,t207⟩,A20,H⟩:=H;replace H : ((spec_l1New.f k l0).bind fun bt209 => ((spec_l1Int.f bt209.1 bt209.2.1 bt209.2.2 (([0,1,2,4,99,(-1)] : List Int))).bind fun bt216 => (some (t202,t203,t204,t207,bt216.1)))) = some (r1,r2,r3,r4,r5):=H;have A2:=am A20;clear A20;replace H:=bS.mp H;obtain ⟨⟨t209,t210,t211⟩,A30,H⟩:=H;replace H : ((spec_l1Int.f t209 t210 t211 (([0,1,2,4,99,(-1)] : List Int))).bind fun bt216 => (some (t202,t203,t204,t207,bt216.1))) = some (r1,r2,r3,r4,r5):=H;have A3:=am A30;clear A30;obtain ⟨y213,hy213⟩ : ∃ y_ : List Int,y_ = (([0,1,2,4,99,(-1)] : List Int)):=⟨_,rfl⟩
 replace H : ((spec_l1Int.f t209 t210 t211 y213).bind fun bt216 => (some (t202,t203,t204,t207,bt216.1))) = some (r1,r2,r3,r4,r5):=by first | (rw [hy213];with_reducible exact H) | (have H2_:=(Option.bind_some _ _).symm.trans H;rw [hy213];with_reducible exact H2_) | (have H2_:=(Option.bind_some _ _).symm.trans H;with_reducible exact H2_) | with_reducible exact H | (rw [hy213];exact H) | exact H
 have Ny213:=am hy213;clear hy213;replace H:=bS.mp H;obtain ⟨⟨t216,t217,t218⟩,A40,H⟩:=H;replace H : (some (t202,t203,t204,t207,t216)) = some (r1,r2,r3,r4,r5):=H;have A4:=am A40;clear A40;simp only [Option.some.injEq,Prod.mk.injEq] at H;obtain ⟨rfl,rfl,rfl,rfl,rfl⟩:=H
 go_enter Try.func16,Try.ntmps16
 try go_wp2_with (first | ((with_reducible refine gate_dst (N:=2) rfl ?_);refine box_event ?hg (N:=2) ?hd (cs:=#[.int .i64 0,.int .i64 0,.slice none 0 0]) (t:=26) ?hr ?_;(case hd => rfl);(case hg => rfl);(case hr => exact qq261);intro gb201 hg w5 hbox hb;have BK201:=am (hbox);have GW201:=am ((qq108 : w.heap.size ≤ gb201));have GE201:=am ((qq108 : w.heap.size ≤ gb201));replace HB:=am qq358;clear hb hbox hg) | ((with_reducible refine gate_callee (f:=29) rfl ?_);refine goesL_ (some 10) rfl rfl Try.func29 (by kernel_rfl) rfl #[.slice A0 l0.length c0] rfl qq139 ?_;(with_reducible refine (spec_DrawIsCell.calls k _ _ l0 t202 t203 t204 t207 _ ?side1 ?side2 A2.out).mono ?_);(case side1 => exact qq95);(case side2 => exact HC0.out);rintro e w6 ⟨v205,rfl,ho0,hb⟩;refine ⟨_,rfl,?_⟩;have HO206:=am (Kd.Q_lower ho0 (below_size qq138));replace BK201:=am qq326;replace HB:=am (below_step qq138 hb);(try clear hb);(try clear hb2);(try clear hk);(try clear hi);(try clear ho0)) | ((with_reducible refine gate_dst (N:=5) rfl ?_);refine box_event ?hg (N:=5) ?hd (cs:=#[.int .i64 0,.int .i64 0,.slice none 0 0]) (t:=26) ?hr ?_;(case hd => rfl);(case hg => rfl);(case hr => exact qq261);intro gb208 hg w7 hbox hb;replace HO206:=am (Kd.Q_below qq174 hb);have BK208:=am (hbox);have GW208:=am ((qq68 : w.heap.size ≤ gb208));have GE208:=am ((qq68 : w.heap.size ≤ gb208));replace HB:=am (below_step qq138 hb);have NB201_208:=am ((by rw [hg];exact Nat.ne_of_lt (blk_lt (g:=gb201) (o:=.cells #[.int .i64 0,.int .i64 0,.slice none 0 0] 26 (0,0)) qq208) : gb201 ≠ gb208));have NB208_201:=am ((by rw [hg];exact Nat.ne_of_gt (blk_lt (g:=gb201) (o:=.cells #[.int .i64 0,.int .i64 0,.slice none 0 0] 26 (0,0)) qq208) : gb208 ≠ gb201));replace BK201:=am qq326;clear hb hbox hg;have hnb8:=NB208_201.out;have hnc8:=NB201_208.out;obtain ⟨hcz9_0,hcz9_1,hcz9_2,hfz9_0,hfz9_1,hfz9_2⟩:=bcl3 BK208.out;obtain ⟨Ao10,co10,eo10,_⟩:=Kd.Q_slice HO206.out;subst eo10) | ((with_reducible refine gate_callee (f:=20) rfl ?_);refine goesL_ (some 14) rfl rfl Try.func20 (by kernel_rfl) rfl #[.slice A0 l0.length c0] rfl qq139 ?_;(with_reducible refine (spec_l1New.calls k _ _ l0 t209 t210 t211 w _ ?side1 ?side2 ?side3 A3.out).mono ?_);(case side1 => repeat (first | (with_reducible first | exact HB.out | apply bA | apply bN | apply bD | refine below_set ?_ GE201.out | refine below_set ?_ GE208.out) | exact HB.out));(case side2 => exact HR0.out);(case side3 => exact HC0.out);rintro e w11 ⟨g212,rfl,hi,hb,hb2⟩;refine ⟨_,rfl,?_⟩;replace HO206:=am (Kd.Q_below (by (with_reducible repeat (first | apply Kd.Q_alloc | apply Kd.Q_drewN | apply Kd.Q_drew));exact (Kd.Q_mono (Kd.Q_far (p:=⟨gb208,2,none⟩) (Kd.Q_far (p:=⟨gb208,1,none⟩) (Kd.Q_far (p:=⟨gb208,0,none⟩) (Kd.Q_types HO206.out BK208.out (by decide)) (fun _ hk => hk.2) (.int .i64 t202)) (fun _ hk => hk.2) (.int .i64 t203)) (fun _ hk => hk.2) (.slice Ao10 t204.length co10)) (fun _ h_ => h_.1))) hb2);replace HB:=am (hb);have HI212:=am (hi);have NB212_201:=am (IsS58.ne_blk hi (blk_below (g:=gb201) (o:=.cells #[.int .i64 0,.int .i64 0,.slice none 0 0] 26 (0,0)) qq12 hb2) (by decide));have NB201_212:=am (Ne.symm (IsS58.ne_blk hi (blk_below (g:=gb201) (o:=.cells #[.int .i64 0,.int .i64 0,.slice none 0 0] 26 (0,0)) qq12 hb2) (by decide)));replace BK201:=am (blk_below (g:=gb201) (o:=.cells #[.int .i64 0,.int .i64 0,.slice none 0 0] 26 (0,0)) qq12 hb2);have NB212_208:=am (IsS58.ne_blk hi (blk_below (g:=gb208) (o:=.cells #[.int .i64 t202,.int .i64 t203,.slice Ao10 t204.length co10] 26 (0,0)) qq6 hb2) (by decide));have NB208_212:=am (Ne.symm (IsS58.ne_blk hi (blk_below (g:=gb208) (o:=.cells #[.int .i64 t202,.int .i64 t203,.slice Ao10 t204.length co10] 26 (0,0)) qq6 hb2) (by decide)));replace BK208:=am (blk_below (g:=gb208) (o:=.cells #[.int .i64 t202,.int .i64 t203,.slice Ao10 t204.length co10] 26 (0,0)) qq6 hb2);(try clear hb);(try clear hb2);(try clear hk);(try clear hi)))
 replace HO206:=am (Kd.Q_drew HO206.out);replace BK201:=am (blk_drew BK201.out);replace BK208:=am (blk_drew BK208.out);replace HI212:=am (IsS58.drew HI212.out);replace HB:=am qq374;refine start_ (n:=8) (S:=fun w' => w'.cell? ⟨gb208,0,none⟩ = some (.int .i64 t202) ∧ w'.cell? ⟨gb208,1,none⟩ = some (.int .i64 t203) ∧ w'.cell? ⟨gb208,2,none⟩ = some (.slice Ao10 t204.length co10)) (ds:=[]) #[Z,Z,Z,Z,Z,Z,Z,Z] (by kernel_rfl) rfl rfl ⟨(blk_cell BK208.out 0).trans rfl,(blk_cell BK208.out 1).trans rfl,(blk_cell BK208.out 2).trans rfl⟩ (fun hHeld => ?_);refine with_tabW spec_DrawReach.tab3 spec_DrawReach.bits3 (fun HT_ HW_ => ?_)
 generalize w11.drew = w12 at HO206 BK201 BK208 HI212 HB hHeld ⊢
 refine pV (i:=1) (N:=some 16) #[Z,Y,Z,Z,Z,Z,Z,Z] rfl rfl qT ?_
 refine pV (i:=2) (N:=some 17) #[Z,Y,Y,Z,Z,Z,Z,Z] rfl rfl qT ?_
 refine tV3 (i:=0) (N:=some 15) #[Y,Y,Y,Z,Z,Z,Z,Z] rfl rfl (take_ofW HT_.out HW_.out (by kernel_rfl)) hHeld ?_
 refine one_ (i:=3) (N:=some 18) #[Y,Y,Y,Y,Z,Z,Z,Z] rfl rfl (one_of HT_.out (by kernel_rfl)) (by decide) (fun K hK => ?_);refine Kd.R_lit_step (Kd.int .i64) _ 3 ?hg (N:=18) ?hd (xs:=([0,1,2,4,99,(-1)] : List Int)) (inner:=[.int .i64 0,.int .i64 1,.int .i64 2,.int .i64 4,.int .i64 99,.int .i64 (-1)]) (ok:=fun _ => True) (okp:=fun _ => True) ?hr ?hp (fun _ hk => hk) trivial (Below.refl _ _) (Nat.le_refl _) (by simp) ?_;(case hd => rfl);(case hg => rfl);(case hr => exact qq261);(case hp => exact (Reps.one (show Kd.M (Kd.int .i64) _ _ _ 0 [.int .i64 0] from rfl) (Reps.one (show Kd.M (Kd.int .i64) _ _ _ 1 [.int .i64 1] from rfl) (Reps.one (show Kd.M (Kd.int .i64) _ _ _ 2 [.int .i64 2] from rfl) (Reps.one (show Kd.M (Kd.int .i64) _ _ _ 4 [.int .i64 4] from rfl) (Reps.one (show Kd.M (Kd.int .i64) _ _ _ 99 [.int .i64 99] from rfl) (Reps.one (show Kd.M (Kd.int .i64) _ _ _ (-1) [.int .i64 (-1)] from rfl) (Reps.none _ _))))))));intro v214 w13 ho14 hb hg_ hnew_;clear hg_ hnew_;(first | rw [← Ny213.out] at ho14 | (simp only [Int.reduceToNat] at ho14;rw [← Ny213.out] at ho14));have HO215:=am (Kd.R_lower (Kd.R_new' ho14 (Kd.Q_lt qq174)) (below_size qq48));replace HO206:=am (Kd.Q_elder' qq174 (Kd.R_base ho14) hb);replace BK201:=am qq326;replace BK208:=am (blk_below (g:=gb208) (o:=.cells #[.int .i64 t202,.int .i64 t203,.slice Ao10 t204.length co10] 26 (0,0)) qq207 hb);replace HB:=am (below_step qq48 hb);replace HI212:=am (IsS58.below qq30 hb);clear hb ho14;obtain ⟨Ao15,co15,eo15⟩:=Kd.R_slice HO215.out;(first | subst eo15 | (injection eo15 with f1_ f2_ f3_;have f4_:=f1_.symm;have f5_:=f3_.symm;clear f1_ f2_ f3_;subst f4_;subst f5_));refine hK.out _ _ ⟨(blk_cell BK208.out 0).trans rfl,(blk_cell BK208.out 1).trans rfl,(blk_cell BK208.out 2).trans rfl⟩ (fun hHeld => ?_);clear hK K;refine norm_ (a':=?_) ?_ ?_;rotate_left
 ·show Act.put _ (some 18) _ = _
  simp only [Act.put,sA,s0,s1,i64_w,i32_w];rfl
 refine one_ (i:=4) (N:=some 19) #[Y,Y,Y,Y,Y,Z,Z,Z] rfl rfl (one_of HT_.out (by kernel_rfl)) (by decide) (fun K hK => ?_);refine goes_ Try.func24 (by kernel_rfl) rfl #[.pointer (some ⟨g212,0,none⟩),.slice Ao15 y213.length co15] (by rfl) rfl rfl qq139 ?_;with_reducible refine (spec_l1Int.calls g212 t209 t210 t211 _ _ y213 t216 t217 t218 w _ ?side1 ?side2 ?side3 ?side4 ?side5 A4.out).mono ?_
 (case side1 => exact qq30);(case side2 => exact qq48);(case side3 => repeat (first | exact (Kd.R_reads' HO215.out).2.2 | (with_reducible refine cA ?_ _) | (with_reducible refine cN ?_ _) | (with_reducible refine cD ?_)));(case side4 => exact (Kd.R_reads' HO215.out).2.1);(case side5 => exact far_slice (IsS58.own_ne HI212.out HO215.out (by decide)))
 rintro e w16 ⟨rfl,hi,hb,hk⟩
 refine ⟨_,rfl,?_⟩;replace BK201:=am (KeepBut.blk hk (g':=gb201) (o:=.cells #[.int .i64 0,.int .i64 0,.slice none 0 0] 26 (0,0)) qq208 NB201_212.out (by simp));replace HO206:=am (Kd.Q_mono (Kd.Q_keep (IsS58.apartQ (show IsS58 w _ g212 t209 t210 t211 from by repeat (first | (with_reducible first | exact HI212.out | apply IsS58.alloc | apply IsS58.drewN | apply IsS58.drew | apply IsS58.set_1 | apply IsS58.set_2 | refine IsS58.far ?_ NB212_201.out _ | refine IsS58.far ?_ NB212_208.out _) | exact HI212.out)) qq174 (by decide)) hk (fun _ h => h.2)) (fun _ h => h.1));replace BK208:=am (KeepBut.blk hk (g':=gb208) (o:=.cells #[.int .i64 t202,.int .i64 t203,.slice Ao10 t204.length co10] 26 (0,0)) qq207 NB208_212.out (by simp));replace HO215:=am (Kd.R_mono (Kd.R_keep (IsS58.apart (show IsS58 w _ g212 t209 t210 t211 from by repeat (first | (with_reducible first | exact HI212.out | apply IsS58.alloc | apply IsS58.drewN | apply IsS58.drew | apply IsS58.set_1 | apply IsS58.set_2 | refine IsS58.far ?_ NB212_201.out _ | refine IsS58.far ?_ NB212_208.out _) | exact HI212.out)) (by (with_reducible repeat (first | apply kA | apply kN | apply kD));exact HO215.out) (by decide)) hk (fun _ h => h.2)) (fun _ h => h.1));replace HB:=am (hb);replace HI212:=am (hi);(try clear hb);(try clear hb2);(try clear hk);(try clear hi);refine hK.out _ _ ⟨(blk_cell BK208.out 0).trans rfl,(blk_cell BK208.out 1).trans rfl,(blk_cell BK208.out 2).trans rfl⟩ (fun hHeld => ?_);clear hK K;refine norm_ (a':=?_) ?_ ?_;rotate_left
 ·show Act.put _ (some 19) _ = _
  simp only [Act.put,sA,s0,s1,i64_w,i32_w];rfl
 refine one_ (i:=5) (N:=none) #[Y,Y,Y,Y,Y,Y,Z,Z] rfl rfl (one_of HT_.out (by kernel_rfl)) (by decide) (fun K hK => ?_);have hs17 : w16.cell? ⟨gb201,0,none⟩ = some (.int .i64 0):=(blk_cell BK201.out 0).trans rfl;have hfs17:=blk_frozen BK201.out 0;have hns17_1:=NB208_201.out;have hms17_1:=NB201_208.out;have hs18 : w16.cell? ⟨gb201,1,none⟩ = some (.int .i64 0):=(blk_cell BK201.out 1).trans rfl;have hfs18:=blk_frozen BK201.out 1;have hns18_1:=NB208_201.out;have hms18_1:=NB201_208.out;have hs19 : w16.cell? ⟨gb201,2,none⟩ = some (.slice none 0 0):=(blk_cell BK201.out 2).trans rfl;have hfs19:=blk_frozen BK201.out 2;have hns19_1:=NB208_201.out;have hms19_1:=NB201_208.out;refine skip_ (w1:=?_) (by rfl) rfl ?_ ?_;rotate_left
 ·go_simp;rfl
 refine hK.out _ _ ⟨((cell_far (p:=⟨gb201,_,none⟩) NB208_201.out _).trans (((cell_far (p:=⟨gb201,_,none⟩) NB208_201.out _).trans (((cell_far (p:=⟨gb201,_,none⟩) NB208_201.out _).trans (hHeld.1)))))),((cell_far (p:=⟨gb201,_,none⟩) NB208_201.out _).trans (((cell_far (p:=⟨gb201,_,none⟩) NB208_201.out _).trans (((cell_far (p:=⟨gb201,_,none⟩) NB208_201.out _).trans (hHeld.2.1)))))),((cell_far (p:=⟨gb201,_,none⟩) NB208_201.out _).trans (((cell_far (p:=⟨gb201,_,none⟩) NB208_201.out _).trans (((cell_far (p:=⟨gb201,_,none⟩) NB208_201.out _).trans (hHeld.2.2))))))⟩ (fun hHeld => ?_);clear hK K;refine pV (i:=6) (N:=some 3) #[Y,Y,Y,Y,Y,Y,Y,Z] rfl rfl qT ?_
 refine pV (i:=7) (N:=some 4) #[Y,Y,Y,Y,Y,Y,Y,Y] rfl rfl qT ?_
 refine done_ (done_of HT_.out (by kernel_rfl)) ?_
 try go_wp2
 refine bodyPost_ret (results_ctt rfl _ _ gb201 26 #[.int .i64 t202,.int .i64 t203,.slice Ao10 t204.length co10] (0,0) _ rfl (by (with_reducible repeat (first | refine dN ?_ _ | refine dD ?_ | refine dA ?_ _));refine blk_put (cs:=#[.int .i64 t202,.int .i64 t203,.slice none 0 0]) ?_ 2 _ rfl;(with_reducible repeat (first | refine dN ?_ _ | refine dD ?_ | refine dA ?_ _));refine blk_put (cs:=#[.int .i64 t202,.int .i64 0,.slice none 0 0]) ?_ 1 _ rfl;(with_reducible repeat (first | refine dN ?_ _ | refine dD ?_ | refine dA ?_ _));refine blk_put (cs:=#[.int .i64 0,.int .i64 0,.slice none 0 0]) ?_ 0 _ rfl;(with_reducible repeat (first | refine dN ?_ _ | refine dD ?_ | refine dA ?_ _));exact BK201.out) Try.underlying26 rfl (by kernel_rfl)) rfl ?_;exact ⟨_,qq216,by (with_reducible repeat (first | apply Kd.Q_alloc | apply Kd.Q_drewN | apply Kd.Q_drew));exact Kd.Q_mono (Kd.Q_far (p:=⟨gb201,2,none⟩) (Kd.Q_far (p:=⟨gb201,1,none⟩) (Kd.Q_far (p:=⟨gb201,0,none⟩) (Kd.Q_types HO206.out BK201.out (by decide)) (fun _ hk => hk.2) (.int .i64 t202)) (fun _ hk => hk.2) (.int .i64 t203)) (fun _ hk => hk.2) (.slice Ao10 t204.length co10)) (fun _ hk => trivial),qq48⟩

/-! ### spec_DrawSearchArea: function 5 -/
def spec_DrawSearchArea.f (k : Nat) (l0 : List Int) : Option (Int × Int × List Int × Int × Int) := (spec_DrawReach.f k l0).bind fun bt220 => (some (bt220.1, bt220.2.1, bt220.2.2.1, bt220.2.2.2.1, bt220.2.2.2.2))
set_option maxHeartbeats 8000000 in
set_option maxRecDepth 100000 in
theorem spec_DrawSearchArea.calls (k : Nat) (A0 : Option Addr) (c0 : Nat) (l0 : List Int) (r1 : Int) (r2 : Int) (r3 : List Int) (r4 : Int) (r5 : Int) (w : World) (hr0 : Kd.C (Kd.int .u8) w A0 l0.length l0) (hc0 : l0.length ≤ c0) (h : spec_DrawSearchArea.f k l0 = some (r1, r2, r3, r4, r5)) :
  Calls Try.prog 5 #[.slice A0 l0.length c0] w fun e w' => ∃ v2_ : Value,e = .returned (.tuple #[.agg #[.int .i64 r1,.int .i64 r2,v2_],.int .i64 r4,.int .i64 r5]) ∧ Kd.Q (Kd.int .i64) 3 w' w.heap.size (fun _ => True) v2_ r3 ∧ Below w.heap.size w w':=by
 have hu26:=Try.underlying26;have HR0:=am hr0;have HC0:=am hc0;clear hr0 hc0;have HB:=am qq354;have H : ((spec_DrawReach.f k l0).bind fun bt220 => (some (bt220.1,bt220.2.1,bt220.2.2.1,bt220.2.2.2.1,bt220.2.2.2.2))) = some (r1,r2,r3,r4,r5):=h;clear h;replace H:=bS.mp H;obtain ⟨⟨t220,t221,t222,t225,t226⟩,A20,H⟩:=H;replace H : (some (t220,t221,t222,t225,t226)) = some (r1,r2,r3,r4,r5):=H;have A2:=am A20;clear A20;simp only [Option.some.injEq,Prod.mk.injEq] at H;obtain ⟨rfl,rfl,rfl,rfl,rfl⟩:=H
 go_enter Try.func5,Try.ntmps5
 go_wp2_with (first | ((with_reducible refine gate_dst (N:=2) rfl ?_);refine box_event ?hg (N:=2) ?hd (cs:=#[.int .i64 0,.int .i64 0,.slice none 0 0]) (t:=26) ?hr ?_;(case hd => rfl);(case hg => rfl);(case hr => exact qq261);intro gb219 hg w3 hbox hb;have BK219:=am (hbox);have GW219:=am ((qq108 : w.heap.size ≤ gb219));have GE219:=am ((qq108 : w.heap.size ≤ gb219));replace HB:=am qq358;clear hb hbox hg) | ((with_reducible refine gate_callee (f:=16) rfl ?_);refine goesL_ (some 6) rfl rfl Try.func16 (by kernel_rfl) rfl #[.slice A0 l0.length c0] rfl qq139 ?_;(with_reducible refine (spec_DrawReach.calls k _ _ l0 t220 t221 t222 t225 t226 _ ?side1 ?side2 A2.out).mono ?_);(case side1 => exact qq95);(case side2 => exact HC0.out);rintro e w4 ⟨v223,rfl,ho0,hb⟩;refine ⟨_,rfl,?_⟩;have HO224:=am (Kd.Q_lower ho0 (below_size qq137));replace BK219:=am (blk_below (g:=gb219) (o:=.cells #[.int .i64 0,.int .i64 0,.slice none 0 0] 26 (0,0)) (by (with_reducible repeat (first | refine dN ?_ _ | refine dD ?_ | refine dA ?_ _));exact BK219.out) hb);replace HB:=am (below_step qq137 hb);(try clear hb);(try clear hb2);(try clear hk);(try clear hi);(try clear ho0);obtain ⟨hcz5_0,hcz5_1,hcz5_2,hfz5_0,hfz5_1,hfz5_2⟩:=bcl3 BK219.out;obtain ⟨Ao6,co6,eo6,_⟩:=Kd.Q_slice HO224.out;subst eo6))
 refine bodyPost_ret (results_ctt rfl _ _ gb219 26 #[.int .i64 t220,.int .i64 t221,.slice Ao6 t222.length co6] (0,0) _ rfl (by (with_reducible repeat (first | refine dN ?_ _ | refine dD ?_ | refine dA ?_ _));refine blk_put (cs:=#[.int .i64 t220,.int .i64 t221,.slice none 0 0]) ?_ 2 _ rfl;(with_reducible repeat (first | refine dN ?_ _ | refine dD ?_ | refine dA ?_ _));refine blk_put (cs:=#[.int .i64 t220,.int .i64 0,.slice none 0 0]) ?_ 1 _ rfl;(with_reducible repeat (first | refine dN ?_ _ | refine dD ?_ | refine dA ?_ _));refine blk_put (cs:=#[.int .i64 0,.int .i64 0,.slice none 0 0]) ?_ 0 _ rfl;(with_reducible repeat (first | refine dN ?_ _ | refine dD ?_ | refine dA ?_ _));exact BK219.out) Try.underlying26 rfl (by kernel_rfl)) rfl ?_;exact ⟨_,qq216,by (with_reducible repeat (first | apply Kd.Q_alloc | apply Kd.Q_drewN | apply Kd.Q_drew));exact Kd.Q_mono (Kd.Q_far (p:=⟨gb219,2,none⟩) (Kd.Q_far (p:=⟨gb219,1,none⟩) (Kd.Q_far (p:=⟨gb219,0,none⟩) (Kd.Q_types HO224.out BK219.out (by decide)) (fun _ hk => hk.2) (.int .i64 t220)) (fun _ hk => hk.2) (.int .i64 t221)) (fun _ hk => hk.2) (.slice Ao6 t222.length co6)) (fun _ hk => trivial),qq137⟩

/-! ### impl_InRange: function 26 -/
def impl_InRange.f (a0 : Int) (a1 : Int) (a2 : Int) : Option (Bool) := if a1 ≤ a0 then (some (decide (a0 ≤ a2))) else (some false)
set_option maxHeartbeats 8000000 in
set_option maxRecDepth 100000 in
theorem impl_InRange.calls (a0 : Int) (a1 : Int) (a2 : Int) (r : Bool) (w : World) (h : impl_InRange.f a0 a1 a2 = some r) :
  Calls Try.prog 26 #[.int .i64 a0,.int .i64 a1,.int .i64 a2] w fun e w' => e = .returned (.bool r) ∧ Drawn0 w w':=by
 have H : (if a1 ≤ a0 then (some (decide (a0 ≤ a2))) else (some false)) = some r:=h;clear h
 by_cases c4 : a1 ≤ a0
 ·rw [if_pos c4] at H;have c4b0 : decide (a1 ≤ a0) = true:=decide_eq_true c4;clear c4;obtain rfl:=Option.some.inj H
  go_enter Try.func26,Try.ntmps26
  go_wp2
  go_ret
  exact ⟨qq260,qq257⟩
 ·rw [if_neg c4] at H;have c4b0 : decide (a1 ≤ a0) = false:=decide_eq_false c4;clear c4;obtain rfl:=Option.some.inj H
  go_enter Try.func26,Try.ntmps26
  go_wp2
  go_ret
  exact ⟨qq260,qq257⟩

/-! ### impl_allIn: function 50 -/
def impl_allIn.l0 : Nat → Int → Int → List Int → Int → Int → Option (Bool)
 | 0,_,_,_,_,_ => none
 | k + 1,x1,x2,x9,x10,x11 => if x11 < x10 then (if 0 ≤ x11 then (if x11 < (x9.length : Int) then ((impl_InRange.f (rd x9 x11) x1 x2).bind fun t228 => (if t228 = true then (impl_allIn.l0 k x1 x2 x9 x10 (wrap64 (x11 + 1))) else (some false))) else (none)) else (none)) else (some true)
def impl_allIn.f (k : Nat) (l0 : List Int) (a1 : Int) (a2 : Int) : Option (Bool) := impl_allIn.l0 k a1 a2 l0 (l0.length : Int) 0
set_option maxHeartbeats 8000000 in
set_option maxRecDepth 100000 in
theorem impl_allIn.calls (k : Nat) (A0 : Option Addr) (c0 : Nat) (l0 : List Int) (a1 : Int) (a2 : Int) (r : Bool) (w : World) (hr0 : Kd.C (Kd.int .i64) w A0 l0.length l0) (hc0 : l0.length ≤ c0) (h : impl_allIn.f k l0 a1 a2 = some r) :
  Calls Try.prog 50 #[.slice A0 l0.length c0,.int .i64 a1,.int .i64 a2] w fun e w' => e = .returned (.bool r) ∧ Drawn0 w w':=by
 have HR0:=am hr0;have HC0:=am hc0;clear hr0 hc0;have H : (impl_allIn.l0 k a1 a2 l0 (l0.length : Int) 0) = some r:=h;clear h;have H':=am H;clear H
 go_enter Try.func50,Try.ntmps50
 go_wp2
 go_loopg [11] k (fun kq v11 w' => ∃ (x11_1 : Int),v11 = .int .i64 x11_1 ∧ Aside0 (impl_allIn.l0 kq a1 a2 l0 (l0.length : Int) x11_1 = some r) ∧ Aside0 (kq ≤ k) ∧ Drawn0 w w')
 case atStart => exact ⟨(0),qq260,H',⟨Nat.le_refl _⟩,qq257⟩
 case round =>
  clear H'
  try clear p2
  obtain ⟨x11_1,rfl,HA,HK1,⟨m1,rfl⟩⟩:=hrel
  cases gk with
  | zero => exact absurd HA.out (by simp [impl_allIn.l0])
  | succ k1 =>
   have H:=HA.out;clear HA;simp only [impl_allIn.l0] at H
   by_cases c4 : x11_1 < (l0.length : Int)
   ·rw [if_pos c4] at H;have c4b0 : decide (x11_1 < (l0.length : Int)) = true:=decide_eq_true c4;clear c4
    by_cases c5 : 0 ≤ x11_1
    ·rw [if_pos c5] at H;have c5b0 : decide (0 ≤ x11_1) = true:=decide_eq_true c5;clear c5
     by_cases c6 : x11_1 < (l0.length : Int)
     ·rw [if_pos c6] at H;have c6b0 : decide (x11_1 < (l0.length : Int)) = true:=decide_eq_true c6;clear c6;replace H:=bS.mp H;obtain ⟨t228,A70,H⟩:=H;replace H : (if t228 = true then (impl_allIn.l0 k1 a1 a2 l0 (l0.length : Int) (wrap64 (x11_1 + 1))) else (some false)) = some r:=H;have A7:=am A70;clear A70
      by_cases c8 : t228 = true
      ·subst c8;have H1 : (impl_allIn.l0 k1 a1 a2 l0 (l0.length : Int) (wrap64 (x11_1 + 1))) = some r:=by rw [if_pos rfl] at H;exact H
       clear H;have H:=H1;clear H1;have H':=am H;clear H;have p227 : 0 ≤ (x11_1 : Int):=odt qq258;have q227 : x11_1 < (l0.length : Int):=odt qq258;obtain ⟨ad227,e227,hx227_0⟩:=Kd.at_int HR0.out x11_1 p227 q227
       cases e227
       replace p227:=eq_true p227;replace q227:=eq_true q227;go_wp2_with (first | ((with_reducible refine gate_callee (f:=26) rfl ?_);refine goesL_ (some 18) rfl rfl Try.func26 (by kernel_rfl) rfl #[.int .i64 (rd l0 x11_1),.int .i64 a1,.int .i64 a2] rfl qq139 ?_;(with_reducible refine (impl_InRange.calls (rd l0 x11_1) a1 a2 true _ A7.out).mono ?_);rintro e w' ⟨rfl,⟨nd,rfl⟩⟩;refine ⟨_,rfl,?_⟩))
       go_roundg k1
       case measure => have:=HK1.out;omega
       case rel => exact ⟨(wrap64 (x11_1 + 1)),qq260,H',⟨qq275⟩,qq257⟩
      ·replace c8:=Bool.eq_false_iff.mpr c8;subst c8;have H1 : (some false) = some r:=by rw [if_neg (show ¬ (false = true) by decide)] at H;exact H
       clear H;have H:=H1;clear H1;obtain rfl:=Option.some.inj H;have p227 : 0 ≤ (x11_1 : Int):=odt qq258;have q227 : x11_1 < (l0.length : Int):=odt qq258;obtain ⟨ad227,e227,hx227_0⟩:=Kd.at_int HR0.out x11_1 p227 q227
       cases e227
       replace p227:=eq_true p227;replace q227:=eq_true q227;go_wp2_with (first | ((with_reducible refine gate_callee (f:=26) rfl ?_);refine goesL_ (some 18) rfl rfl Try.func26 (by kernel_rfl) rfl #[.int .i64 (rd l0 x11_1),.int .i64 a1,.int .i64 a2] rfl qq139 ?_;(with_reducible refine (impl_InRange.calls (rd l0 x11_1) a1 a2 false _ A7.out).mono ?_);rintro e w' ⟨rfl,⟨nd,rfl⟩⟩;refine ⟨_,rfl,?_⟩))
       go_ret
       exact ⟨qq260,qq257⟩
     ·rw [if_neg c6] at H;exact absurd H (by simp)
    ·rw [if_neg c5] at H;exact absurd H (by simp)
   ·rw [if_neg c4] at H;have c4b0 : decide (x11_1 < (l0.length : Int)) = false:=decide_eq_false c4;clear c4;obtain rfl:=Option.some.inj H;go_wp2
    go_ret
    exact ⟨qq260,qq257⟩

/-! ### impl_IsLand: function 43 -/
def impl_IsLand.f (k : Nat) (a0_0 : Int) (a0_1 : Int) (l0_2 : List Int) : Option (Bool) := (impl_InRange.f a0_0 1 8).bind fun t230 => (if t230 = true then ((impl_InRange.f a0_1 1 8).bind fun t231 => (if t231 = true then (if (l0_2.length : Int) = (wrap64 (a0_0 * a0_1)) then ((impl_allIn.f k l0_2 0 2).bind fun t232 => (some t232)) else (some false)) else (some false))) else (some false))
set_option maxHeartbeats 8000000 in
set_option maxRecDepth 100000 in
theorem impl_IsLand.calls (k : Nat) (a0_0 : Int) (a0_1 : Int) (A0_2 : Option Addr) (c0_2 : Nat) (l0_2 : List Int) (r : Bool) (w : World) (hr0_2 : Kd.C (Kd.int .i64) w A0_2 l0_2.length l0_2) (hc0_2 : l0_2.length ≤ c0_2) (h : impl_IsLand.f k a0_0 a0_1 l0_2 = some r) :
  Calls Try.prog 43 #[.agg #[.int .i64 a0_0,.int .i64 a0_1,.slice A0_2 l0_2.length c0_2]] w fun e w' => e = .returned (.bool r) ∧ Below w.heap.size w w':=by
 have hu26:=Try.underlying26;have HR0_2:=am hr0_2;have HC0_2:=am hc0_2;clear hr0_2 hc0_2;have HB:=am qq354;have H : ((impl_InRange.f a0_0 1 8).bind fun t230 => (if t230 = true then ((impl_InRange.f a0_1 1 8).bind fun t231 => (if t231 = true then (if (l0_2.length : Int) = (wrap64 (a0_0 * a0_1)) then ((impl_allIn.f k l0_2 0 2).bind fun t232 => (some t232)) else (some false)) else (some false))) else (some false))) = some r:=h;clear h;replace H:=bS.mp H;obtain ⟨t230,A20,H⟩:=H;replace H : (if t230 = true then ((impl_InRange.f a0_1 1 8).bind fun t231 => (if t231 = true then (if (l0_2.length : Int) = (wrap64 (a0_0 * a0_1)) then ((impl_allIn.f k l0_2 0 2).bind fun t232 => (some t232)) else (some false)) else (some false))) else (some false)) = some r:=H;have A2:=am A20;clear A20
 by_cases c3 : t230 = true
 ·subst c3;have H1 : ((impl_InRange.f a0_1 1 8).bind fun t231 => (if t231 = true then (if (l0_2.length : Int) = (wrap64 (a0_0 * a0_1)) then ((impl_allIn.f k l0_2 0 2).bind fun t232 => (some t232)) else (some false)) else (some false))) = some r:=by rw [if_pos rfl] at H;exact H
  clear H;have H:=H1;clear H1;replace H:=bS.mp H;obtain ⟨t231,A40,H⟩:=H;replace H : (if t231 = true then (if (l0_2.length : Int) = (wrap64 (a0_0 * a0_1)) then ((impl_allIn.f k l0_2 0 2).bind fun t232 => (some t232)) else (some false)) else (some false)) = some r:=H;have A4:=am A40;clear A40
  by_cases c5 : t231 = true
  ·subst c5;have H1 : (if (l0_2.length : Int) = (wrap64 (a0_0 * a0_1)) then ((impl_allIn.f k l0_2 0 2).bind fun t232 => (some t232)) else (some false)) = some r:=by rw [if_pos rfl] at H;exact H
   clear H;have H:=H1;clear H1
   by_cases c6 : (l0_2.length : Int) = (wrap64 (a0_0 * a0_1))
   ·rw [if_pos c6] at H;have c6b0 : ((l0_2.length : Int) == (wrap64 (a0_0 * a0_1))) = true:=beq_iff_eq.mpr c6;have c6b1 : ((l0_2.length : Int) != (wrap64 (a0_0 * a0_1))) = false:=bne_eq_false_iff_eq.mpr c6;clear c6;replace H:=bS.mp H;obtain ⟨t232,A70,H⟩:=H;replace H : (some t232) = some r:=H;have A7:=am A70;clear A70;obtain rfl:=Option.some.inj H
    go_enter Try.func43,Try.ntmps43
    go_wp2_with (first | ((with_reducible refine gate_dst (N:=1) rfl ?_);(try (refine gate_guard (by rfl) ?_;dsimp only));refine box_event ?hg (N:=1) ?hd (cs:=#[.int .i64 a0_0,.int .i64 a0_1,.slice A0_2 l0_2.length c0_2]) (t:=26) ?hr ?_;(case hd => rfl);(case hg => rfl);(case hr => exact qq261);intro gb229 hg w8 hbox hb;have BK229:=am (hbox);have GW229:=am qq341;have GE229:=am qq341;replace HB:=am qq358;clear hb hbox hg;obtain ⟨hcz9_0,hcz9_1,hcz9_2,hfz9_0,hfz9_1,hfz9_2⟩:=bcl3 BK229.out) | ((with_reducible refine gate_callee (f:=26) rfl ?_);refine goesL_ (some 5) rfl rfl Try.func26 (by kernel_rfl) rfl #[.int .i64 a0_0,.int .i64 1,.int .i64 8] rfl qq139 ?_;(with_reducible refine (impl_InRange.calls a0_0 1 8 true _ A2.out).mono ?_);rintro e w' ⟨rfl,⟨nd,rfl⟩⟩;refine ⟨_,rfl,?_⟩) | (go_at_call 26;(with_reducible refine (impl_InRange.calls a0_1 1 8 true _ A4.out).mono ?_);rintro e w' ⟨rfl,⟨nd,rfl⟩⟩) | (go_at_call 50;(with_reducible refine (impl_allIn.calls k _ _ l0_2 0 2 t232 _ ?side1 ?side2 A7.out).mono ?_);(case side1 => repeat (first | exact (Kd.C_below HR0_2.out qq136) | (with_reducible refine cA ?_ _) | (with_reducible refine cN ?_ _) | (with_reducible refine cD ?_)));(case side2 => exact qq276);rintro e w' ⟨rfl,⟨nd,rfl⟩⟩))
    go_ret
    exact ⟨qq216,qq136⟩
   ·rw [if_neg c6] at H;have c6b0 : ((l0_2.length : Int) == (wrap64 (a0_0 * a0_1))) = false:=beq_eq_false_iff_ne.mpr c6;have c6b1 : ((l0_2.length : Int) != (wrap64 (a0_0 * a0_1))) = true:=bne_iff_ne.mpr c6;obtain rfl:=Option.some.inj H
    go_enter Try.func43,Try.ntmps43
    go_wp2_with (first | ((with_reducible refine gate_dst (N:=1) rfl ?_);(try (refine gate_guard (by rfl) ?_;dsimp only));refine box_event ?hg (N:=1) ?hd (cs:=#[.int .i64 a0_0,.int .i64 a0_1,.slice A0_2 l0_2.length c0_2]) (t:=26) ?hr ?_;(case hd => rfl);(case hg => rfl);(case hr => exact qq261);intro gb229 hg w10 hbox hb;have BK229:=am (hbox);have GW229:=am qq341;have GE229:=am qq341;replace HB:=am qq358;clear hb hbox hg;obtain ⟨hcz11_0,hcz11_1,hcz11_2,hfz11_0,hfz11_1,hfz11_2⟩:=bcl3 BK229.out) | ((with_reducible refine gate_callee (f:=26) rfl ?_);refine goesL_ (some 5) rfl rfl Try.func26 (by kernel_rfl) rfl #[.int .i64 a0_0,.int .i64 1,.int .i64 8] rfl qq139 ?_;(with_reducible refine (impl_InRange.calls a0_0 1 8 true _ A2.out).mono ?_);rintro e w' ⟨rfl,⟨nd,rfl⟩⟩;refine ⟨_,rfl,?_⟩) | (go_at_call 26;(with_reducible refine (impl_InRange.calls a0_1 1 8 true _ A4.out).mono ?_);rintro e w' ⟨rfl,⟨nd,rfl⟩⟩))
    go_ret
    exact ⟨qq216,qq136⟩
  ·replace c5:=Bool.eq_false_iff.mpr c5;subst c5;have H1 : (some false) = some r:=by rw [if_neg (show ¬ (false = true) by decide)] at H;exact H
   clear H;have H:=H1;clear H1;obtain rfl:=Option.some.inj H
   go_enter Try.func43,Try.ntmps43
   go_wp2_with (first | ((with_reducible refine gate_dst (N:=1) rfl ?_);(try (refine gate_guard (by rfl) ?_;dsimp only));refine box_event ?hg (N:=1) ?hd (cs:=#[.int .i64 a0_0,.int .i64 a0_1,.slice A0_2 l0_2.length c0_2]) (t:=26) ?hr ?_;(case hd => rfl);(case hg => rfl);(case hr => exact qq261);intro gb229 hg w12 hbox hb;have BK229:=am (hbox);have GW229:=am qq341;have GE229:=am qq341;replace HB:=am qq358;clear hb hbox hg;obtain ⟨hcz13_0,hcz13_1,hcz13_2,hfz13_0,hfz13_1,hfz13_2⟩:=bcl3 BK229.out) | ((with_reducible refine gate_callee (f:=26) rfl ?_);refine goesL_ (some 5) rfl rfl Try.func26 (by kernel_rfl) rfl #[.int .i64 a0_0,.int .i64 1,.int .i64 8] rfl qq139 ?_;(with_reducible refine (impl_InRange.calls a0_0 1 8 true _ A2.out).mono ?_);rintro e w' ⟨rfl,⟨nd,rfl⟩⟩;refine ⟨_,rfl,?_⟩) | (go_at_call 26;(with_reducible refine (impl_InRange.calls a0_1 1 8 false _ A4.out).mono ?_);rintro e w' ⟨rfl,⟨nd,rfl⟩⟩))
   go_ret
   exact ⟨qq216,qq136⟩
 ·replace c3:=Bool.eq_false_iff.mpr c3;subst c3;have H1 : (some false) = some r:=by rw [if_neg (show ¬ (false = true) by decide)] at H;exact H
  clear H;have H:=H1;clear H1;obtain rfl:=Option.some.inj H
  go_enter Try.func43,Try.ntmps43
  go_wp2_with (first | ((with_reducible refine gate_dst (N:=1) rfl ?_);(try (refine gate_guard (by rfl) ?_;dsimp only));refine box_event ?hg (N:=1) ?hd (cs:=#[.int .i64 a0_0,.int .i64 a0_1,.slice A0_2 l0_2.length c0_2]) (t:=26) ?hr ?_;(case hd => rfl);(case hg => rfl);(case hr => exact qq261);intro gb229 hg w14 hbox hb;have BK229:=am (hbox);have GW229:=am qq341;have GE229:=am qq341;replace HB:=am qq358;clear hb hbox hg;obtain ⟨hcz15_0,hcz15_1,hcz15_2,hfz15_0,hfz15_1,hfz15_2⟩:=bcl3 BK229.out) | ((with_reducible refine gate_callee (f:=26) rfl ?_);refine goesL_ (some 5) rfl rfl Try.func26 (by kernel_rfl) rfl #[.int .i64 a0_0,.int .i64 1,.int .i64 8] rfl qq139 ?_;(with_reducible refine (impl_InRange.calls a0_0 1 8 false _ A2.out).mono ?_);rintro e w' ⟨rfl,⟨nd,rfl⟩⟩;refine ⟨_,rfl,?_⟩))
  go_ret
  exact ⟨qq216,qq136⟩

/-! ### impl_IsCell: function 31 -/
def impl_IsCell.f (k : Nat) (a0_0 : Int) (a0_1 : Int) (l0_2 : List Int) (a1 : Int) : Option (Bool) := (impl_IsLand.f k a0_0 a0_1 l0_2).bind fun t234 => (if t234 = true then ((impl_InRange.f a1 0 (wrap64 ((l0_2.length : Int) - 1))).bind fun t235 => (some t235)) else (some false))
set_option maxHeartbeats 8000000 in
set_option maxRecDepth 100000 in
theorem impl_IsCell.calls (k : Nat) (a0_0 : Int) (a0_1 : Int) (A0_2 : Option Addr) (c0_2 : Nat) (l0_2 : List Int) (a1 : Int) (r : Bool) (w : World) (hr0_2 : Kd.C (Kd.int .i64) w A0_2 l0_2.length l0_2) (hc0_2 : l0_2.length ≤ c0_2) (h : impl_IsCell.f k a0_0 a0_1 l0_2 a1 = some r) :
  Calls Try.prog 31 #[.agg #[.int .i64 a0_0,.int .i64 a0_1,.slice A0_2 l0_2.length c0_2],.int .i64 a1] w fun e w' => e = .returned (.bool r) ∧ Below w.heap.size w w':=by
 have hu26:=Try.underlying26;have HR0_2:=am hr0_2;have HC0_2:=am hc0_2;clear hr0_2 hc0_2;have HB:=am qq354;have H : ((impl_IsLand.f k a0_0 a0_1 l0_2).bind fun t234 => (if t234 = true then ((impl_InRange.f a1 0 (wrap64 ((l0_2.length : Int) - 1))).bind fun t235 => (some t235)) else (some false))) = some r:=h;clear h;replace H:=bS.mp H;obtain ⟨t234,A30,H⟩:=H;replace H : (if t234 = true then ((impl_InRange.f a1 0 (wrap64 ((l0_2.length : Int) - 1))).bind fun t235 => (some t235)) else (some false)) = some r:=H;have A3:=am A30;clear A30
 by_cases c4 : t234 = true
 ·subst c4;have H1 : ((impl_InRange.f a1 0 (wrap64 ((l0_2.length : Int) - 1))).bind fun t235 => (some t235)) = some r:=by rw [if_pos rfl] at H;exact H
  clear H;have H:=H1;clear H1;replace H:=bS.mp H;obtain ⟨t235,A50,H⟩:=H;replace H : (some t235) = some r:=H;have A5:=am A50;clear A50;obtain rfl:=Option.some.inj H
  go_enter Try.func31,Try.ntmps31
  go_wp2_with (first | ((with_reducible refine gate_dst (N:=2) rfl ?_);(try (refine gate_guard (by rfl) ?_;dsimp only));refine box_event ?hg (N:=2) ?hd (cs:=#[.int .i64 a0_0,.int .i64 a0_1,.slice A0_2 l0_2.length c0_2]) (t:=26) ?hr ?_;(case hd => rfl);(case hg => rfl);(case hr => exact qq261);intro gb233 hg w6 hbox hb;have BK233:=am (hbox);have GW233:=am qq342;have GE233:=am qq342;replace HB:=am qq358;clear hb hbox hg;obtain ⟨hcz7_0,hcz7_1,hcz7_2,hfz7_0,hfz7_1,hfz7_2⟩:=bcl3 BK233.out) | ((with_reducible refine gate_callee (f:=43) rfl ?_);refine goesL_ (some 6) rfl rfl Try.func43 (by kernel_rfl) rfl #[.agg #[.int .i64 a0_0,.int .i64 a0_1,.slice A0_2 l0_2.length c0_2]] rfl qq139 ?_;(with_reducible refine (impl_IsLand.calls k a0_0 a0_1 _ _ l0_2 true _ ?side1 ?side2 A3.out).mono ?_);(case side1 => exact qq83);(case side2 => exact qq276);rintro e w8 ⟨rfl,hb⟩;refine ⟨_,rfl,?_⟩;replace BK233:=am qq299;replace HB:=am (below_step qq135 hb);(try clear hb);(try clear hb2);(try clear hk);(try clear hi);obtain ⟨hcz9_0,hcz9_1,hcz9_2,hfz9_0,hfz9_1,hfz9_2⟩:=bcl3 BK233.out) | (go_at_call 26;(with_reducible refine (impl_InRange.calls a1 0 (wrap64 ((l0_2.length : Int) - 1)) t235 _ A5.out).mono ?_);rintro e w' ⟨rfl,⟨nd,rfl⟩⟩))
  go_ret
  exact ⟨qq216,qq135⟩
 ·replace c4:=Bool.eq_false_iff.mpr c4;subst c4;have H1 : (some false) = some r:=by rw [if_neg (show ¬ (false = true) by decide)] at H;exact H
  clear H;have H:=H1;clear H1;obtain rfl:=Option.some.inj H
  go_enter Try.func31,Try.ntmps31
  go_wp2_with (first | ((with_reducible refine gate_dst (N:=2) rfl ?_);(try (refine gate_guard (by rfl) ?_;dsimp only));refine box_event ?hg (N:=2) ?hd (cs:=#[.int .i64 a0_0,.int .i64 a0_1,.slice A0_2 l0_2.length c0_2]) (t:=26) ?hr ?_;(case hd => rfl);(case hg => rfl);(case hr => exact qq261);intro gb233 hg w10 hbox hb;have BK233:=am (hbox);have GW233:=am qq342;have GE233:=am qq342;replace HB:=am qq358;clear hb hbox hg;obtain ⟨hcz11_0,hcz11_1,hcz11_2,hfz11_0,hfz11_1,hfz11_2⟩:=bcl3 BK233.out) | ((with_reducible refine gate_callee (f:=43) rfl ?_);refine goesL_ (some 6) rfl rfl Try.func43 (by kernel_rfl) rfl #[.agg #[.int .i64 a0_0,.int .i64 a0_1,.slice A0_2 l0_2.length c0_2]] rfl qq139 ?_;(with_reducible refine (impl_IsLand.calls k a0_0 a0_1 _ _ l0_2 false _ ?side1 ?side2 A3.out).mono ?_);(case side1 => exact qq83);(case side2 => exact qq276);rintro e w12 ⟨rfl,hb⟩;refine ⟨_,rfl,?_⟩;replace BK233:=am qq299;replace HB:=am (below_step qq135 hb);(try clear hb);(try clear hb2);(try clear hk);(try clear hi)))
  go_ret
  exact ⟨qq216,qq135⟩

/-! ### impl_IsOpen: function 18 -/
def impl_IsOpen.f (k : Nat) (a0_0 : Int) (a0_1 : Int) (l0_2 : List Int) (a1 : Int) : Option (Bool) := (impl_IsCell.f k a0_0 a0_1 l0_2 a1).bind fun t237 => (if t237 = true then (if 0 ≤ a1 then (if a1 < (l0_2.length : Int) then (some ((rd l0_2 a1) != 2)) else (none)) else (none)) else (some false))
set_option maxHeartbeats 8000000 in
set_option maxRecDepth 100000 in
theorem impl_IsOpen.calls (k : Nat) (a0_0 : Int) (a0_1 : Int) (A0_2 : Option Addr) (c0_2 : Nat) (l0_2 : List Int) (a1 : Int) (r : Bool) (w : World) (hr0_2 : Kd.C (Kd.int .i64) w A0_2 l0_2.length l0_2) (hc0_2 : l0_2.length ≤ c0_2) (h : impl_IsOpen.f k a0_0 a0_1 l0_2 a1 = some r) :
  Calls Try.prog 18 #[.agg #[.int .i64 a0_0,.int .i64 a0_1,.slice A0_2 l0_2.length c0_2],.int .i64 a1] w fun e w' => e = .returned (.bool r) ∧ Below w.heap.size w w':=by
 have hu26:=Try.underlying26;have HR0_2:=am hr0_2;have HC0_2:=am hc0_2;clear hr0_2 hc0_2;have HB:=am qq354;have H : ((impl_IsCell.f k a0_0 a0_1 l0_2 a1).bind fun t237 => (if t237 = true then (if 0 ≤ a1 then (if a1 < (l0_2.length : Int) then (some ((rd l0_2 a1) != 2)) else (none)) else (none)) else (some false))) = some r:=h;clear h;replace H:=bS.mp H;obtain ⟨t237,A30,H⟩:=H;replace H : (if t237 = true then (if 0 ≤ a1 then (if a1 < (l0_2.length : Int) then (some ((rd l0_2 a1) != 2)) else (none)) else (none)) else (some false)) = some r:=H;have A3:=am A30;clear A30
 by_cases c4 : t237 = true
 ·subst c4;have H1 : (if 0 ≤ a1 then (if a1 < (l0_2.length : Int) then (some ((rd l0_2 a1) != 2)) else (none)) else (none)) = some r:=by rw [if_pos rfl] at H;exact H
  clear H;have H:=H1;clear H1
  by_cases c5 : 0 ≤ a1
  ·rw [if_pos c5] at H;have c5b0 : decide (0 ≤ a1) = true:=decide_eq_true c5;clear c5
   by_cases c6 : a1 < (l0_2.length : Int)
   ·rw [if_pos c6] at H;have c6b0 : decide (a1 < (l0_2.length : Int)) = true:=decide_eq_true c6;clear c6;obtain rfl:=Option.some.inj H
    go_enter Try.func18,Try.ntmps18
    go_wp2_with (first | ((with_reducible refine gate_dst (N:=2) rfl ?_);refine box_event ?hg (N:=2) ?hd (cs:=#[.int .i64 a0_0,.int .i64 a0_1,.slice A0_2 l0_2.length c0_2]) (t:=26) ?hr ?_;(case hd => rfl);(case hg => rfl);(case hr => exact qq261);intro gb236 hg w7 hbox hb;have BK236:=am (hbox);have GW236:=am qq343;have GE236:=am qq343;replace HB:=am qq358;clear hb hbox hg;obtain ⟨hcz8_0,hcz8_1,hcz8_2,hfz8_0,hfz8_1,hfz8_2⟩:=bcl3 BK236.out) | ((with_reducible refine gate_callee (f:=31) rfl ?_);refine goesL_ (some 7) rfl rfl Try.func31 (by kernel_rfl) rfl #[.agg #[.int .i64 a0_0,.int .i64 a0_1,.slice A0_2 l0_2.length c0_2],.int .i64 a1] rfl qq139 ?_;(with_reducible refine (impl_IsCell.calls k a0_0 a0_1 _ _ l0_2 a1 true _ ?side1 ?side2 A3.out).mono ?_);(case side1 => exact qq83);(case side2 => exact qq276);rintro e w9 ⟨rfl,hb⟩;refine ⟨_,rfl,?_⟩;replace BK236:=am qq300;replace HB:=am (below_step qq134 hb);(try clear hb);(try clear hb2);(try clear hk);(try clear hi);obtain ⟨hcz10_0,hcz10_1,hcz10_2,hfz10_0,hfz10_1,hfz10_2⟩:=bcl3 BK236.out;have p238 : 0 ≤ (a1 : Int):=odt qq258;have q238 : a1 < (l0_2.length : Int):=odt qq258;obtain ⟨ad238,e238,hx238_0⟩:=Kd.at_int HR0_2.out a1 p238 q238;cases e238;replace hx238_0:=(ct HB.out hx238_0 :);replace p238:=eq_true p238;replace q238:=eq_true q238))
    go_ret
    exact ⟨qq216,qq134⟩
   ·rw [if_neg c6] at H;exact absurd H (by simp)
  ·rw [if_neg c5] at H;exact absurd H (by simp)
 ·replace c4:=Bool.eq_false_iff.mpr c4;subst c4;have H1 : (some false) = some r:=by rw [if_neg (show ¬ (false = true) by decide)] at H;exact H
  clear H;have H:=H1;clear H1;obtain rfl:=Option.some.inj H
  go_enter Try.func18,Try.ntmps18
  go_wp2_with (first | ((with_reducible refine gate_dst (N:=2) rfl ?_);refine box_event ?hg (N:=2) ?hd (cs:=#[.int .i64 a0_0,.int .i64 a0_1,.slice A0_2 l0_2.length c0_2]) (t:=26) ?hr ?_;(case hd => rfl);(case hg => rfl);(case hr => exact qq261);intro gb236 hg w11 hbox hb;have BK236:=am (hbox);have GW236:=am qq343;have GE236:=am qq343;replace HB:=am qq358;clear hb hbox hg;obtain ⟨hcz12_0,hcz12_1,hcz12_2,hfz12_0,hfz12_1,hfz12_2⟩:=bcl3 BK236.out) | ((with_reducible refine gate_callee (f:=31) rfl ?_);refine goesL_ (some 7) rfl rfl Try.func31 (by kernel_rfl) rfl #[.agg #[.int .i64 a0_0,.int .i64 a0_1,.slice A0_2 l0_2.length c0_2],.int .i64 a1] rfl qq139 ?_;(with_reducible refine (impl_IsCell.calls k a0_0 a0_1 _ _ l0_2 a1 false _ ?side1 ?side2 A3.out).mono ?_);(case side1 => exact qq83);(case side2 => exact qq276);rintro e w13 ⟨rfl,hb⟩;refine ⟨_,rfl,?_⟩;replace BK236:=am qq300;replace HB:=am (below_step qq134 hb);(try clear hb);(try clear hb2);(try clear hk);(try clear hi)))
  go_ret
  exact ⟨qq216,qq134⟩

/-! ### impl_size: function 51 -/
def impl_size.f (a0 : Int) : Option (Int) := some (mx a0 (wrap64 (-a0)))
set_option maxHeartbeats 8000000 in
set_option maxRecDepth 100000 in
theorem impl_size.calls (a0 : Int) (r : Int) (w : World) (h : impl_size.f a0 = some r) :
  Calls Try.prog 51 #[.int .i64 a0] w fun e w' => e = .returned (.int .i64 r) ∧ Below w.heap.size w w':=by
 have HB:=am qq354;have H : (some (mx a0 (wrap64 (-a0)))) = some r:=h;clear h;obtain ⟨ji2,hji2⟩ : ∃ j_ : Int,(mx a0 (wrap64 (-a0))) = j_:=⟨_,rfl⟩
 replace H : (some ji2) = some r:=by first | (rw [hji2] at H;exact H) | (simp only [hji2] at H ⊢;exact H)
 have hji2_ : (if a0 < (wrap64 (-a0)) then (wrap64 (-a0)) else a0) = ji2:=hji2;obtain rfl:=Option.some.inj H
 go_enter Try.func51,Try.ntmps51
 go_wp2
 go_ret
 exact ⟨by first | rfl | (simp [errW_none,errW_some] <;> rfl) | (simp only [← hji2];first | rfl | (simp [errW_none,errW_some] <;> rfl)) | (simp [*,errW_none,errW_some] <;> rfl),qq176⟩

end Go.Proofs.Ytimpjccgnkbgmaa.PFnSearch
