/- Contracts of functions that the law FnWeathers reaches, for its row: lines that the kit's printer wrote for this claim, set shorter by a program of this session (own.py), and what fell in Lean proved anew. Lean checks them. -/
import Derived.Test.YtcbkknpmeknppaaSFnWeathersx0
import Derived.Test.YtcbkknpmeknppaaSFnWeathersx1
import Derived.Test.YtcbkknpmeknppaaSFnWeathersx3
import Derived.Test.YtcbkknpmeknppaaSFnWeathersx4
namespace Go.Proofs.Ytcbkknpmeknppaa.PFnWeathers
open Go.RowKit Go.Proofs.YtcbkknpmeknppaaW.PrintWords Go.Proofs.YtcbkknpmeknppaaW.PrintLast Go.Proofs.YtcbkknpmeknppaaW.PrintMore
attribute [local go_sem] max2_int min2_int max_two min_two max_three min_three max_four min_four   -- for this text's walks alone
set_option linter.unusedVariables false
set_option linter.unusedSimpArgs false

/-! ### spec_DrawSlowestDays: function 21 -/
def spec_DrawSlowestDays.j0 : Nat → List Bool → List Int → Int → Int → Int → Int → Option (Int × Int × List Bool × Int)
 | 0,_,_,_,_,_,_ => none
 | k + 1,x7,x171000,x171001,x171002,x176000,x176001 => (spec_l1Int.f x171000 x171001 x171002 (([0,1,2,4,(-1)] : List Int))).bind fun bt190 => (some (x176000,x176001,x7,bt190.1))
def spec_DrawSlowestDays.f (k : Nat) (l0 : List Int) : Option (Int × Int × List Bool × Int) := (spec_l1New.f k l0).bind fun bt167 => ((spec_l6Rule.f bt167.1 bt167.2.1 bt167.2.2).bind fun bt171 => ((spec_l1Below.f bt167.1 bt171.2.2.1 bt171.2.2.2 8).bind fun bt176 => ((spec_l6Past.f k bt167.1 bt176.2.1 bt176.2.2 bt171.1 bt171.2.1 bt176.1).bind fun bt179 => ((spec_l1Once.f bt167.1 bt179.2.1 bt179.2.2 9).bind fun bt184 => (if bt184.1 = true then (spec_DrawSlowestDays.j0 k bt179.1 bt167.1 bt184.2.1 bt184.2.2 9 bt171.2.1) else (spec_DrawSlowestDays.j0 k bt179.1 bt167.1 bt184.2.1 bt184.2.2 bt171.1 bt171.2.1))))))
def spec_DrawSlowestDays.T6 : Bool × List (List Nat × List Nat) := (true, [([], []), ([], []), ([], []), ([], []), ([2, 3], [2, 3]), ([0, 4, 0], [0]), ([1, 5, 0, 1, 5], [1]), ([4, 6, 0, 1, 2, 3, 4, 5, 6], [4])])
def spec_DrawSlowestDays.B6 : List Nat := [0, 0, 0, 0, 12, 29, 63, 127]
theorem spec_DrawSlowestDays.tab6 : rtab .any (opsOf Try.f21 6) = spec_DrawSlowestDays.T6 := by kernel_rfl
theorem spec_DrawSlowestDays.bits6 : waitsOk spec_DrawSlowestDays.T6.2 spec_DrawSlowestDays.B6 = true := by kernel_rfl
set_option maxHeartbeats 8000000 in
set_option maxRecDepth 100000 in
theorem spec_DrawSlowestDays.calls (k : Nat) (A0 : Option Addr) (c0 : Nat) (l0 : List Int) (r1 : Int) (r2 : Int) (r3 : List Bool) (r4 : Int) (w : World) (hr0 : Kd.C (Kd.int .u8) w A0 l0.length l0) (hc0 : l0.length ≤ c0) (h : spec_DrawSlowestDays.f k l0 = some (r1, r2, r3, r4)) :
  Calls Try.prog 21 #[.slice A0 l0.length c0] w fun e w' => ∃ v2_ : Value,e = .returned (.tuple #[.agg #[.int .i64 r1,.int .i64 r2],v2_,.int .i64 r4]) ∧ Kd.R Kd.bool 4 w' w.heap.size (fun _ => True) v2_ r3 ∧ Below w.heap.size w w':=by
 have hu37:=Try.underlying37;have HR0:=am hr0;have HC0:=am hc0;clear hr0 hc0;have HB:=am (Below.refl w.heap.size w);have H : ((spec_l1New.f k l0).bind fun bt167 => ((spec_l6Rule.f bt167.1 bt167.2.1 bt167.2.2).bind fun bt171 => ((spec_l1Below.f bt167.1 bt171.2.2.1 bt171.2.2.2 8).bind fun bt176 => ((spec_l6Past.f k bt167.1 bt176.2.1 bt176.2.2 bt171.1 bt171.2.1 bt176.1).bind fun bt179 => ((spec_l1Once.f bt167.1 bt179.2.1 bt179.2.2 9).bind fun bt184 => (if bt184.1 = true then (spec_DrawSlowestDays.j0 k bt179.1 bt167.1 bt184.2.1 bt184.2.2 9 bt171.2.1) else (spec_DrawSlowestDays.j0 k bt179.1 bt167.1 bt184.2.1 bt184.2.2 bt171.1 bt171.2.1))))))) = some (r1,r2,r3,r4):=h;clear h;replace H:=bS.mp H;obtain ⟨⟨t167,t168,t169⟩,A20,H⟩:=H;replace H : ((spec_l6Rule.f t167 t168 t169).bind fun bt171 => ((spec_l1Below.f t167 bt171.2.2.1 bt171.2.2.2 8).bind fun bt176 => ((spec_l6Past.f k t167 bt176.2.1 bt176.2.2 bt171.1 bt171.2.1 bt176.1).bind fun bt179 => ((spec_l1Once.f t167 bt179.2.1 bt179.2.2 9).bind fun bt184 => (if bt184.1 = true then (spec_DrawSlowestDays.j0 k bt179.1 t167 bt184.2.1 bt184.2.2 9 bt171.2.1) else (spec_DrawSlowestDays.j0 k bt179.1 t167 bt184.2.1 bt184.2.2 bt171.1 bt171.2.1)))))) = some (r1,r2,r3,r4):=H;have A2:=am A20;clear A20;replace H:=bS.mp H;obtain ⟨⟨t171,t172,t173,t174⟩,A30,H⟩:=H;replace H : ((spec_l1Below.f t167 t173 t174 8).bind fun bt176 => ((spec_l6Past.f k t167 bt176.2.1 bt176.2.2 t171 t172 bt176.1).bind fun bt179 => ((spec_l1Once.f t167 bt179.2.1 bt179.2.2 9).bind fun bt184 => (if bt184.1 = true then (spec_DrawSlowestDays.j0 k bt179.1 t167 bt184.2.1 bt184.2.2 9 t172) else (spec_DrawSlowestDays.j0 k bt179.1 t167 bt184.2.1 bt184.2.2 t171 t172))))) = some (r1,r2,r3,r4):=H;have A3:=am A30;clear A30;replace H:=bS.mp H;obtain ⟨⟨t176,t177,t178⟩,A40,H⟩:=H;replace H : ((spec_l6Past.f k t167 t177 t178 t171 t172 t176).bind fun bt179 => ((spec_l1Once.f t167 bt179.2.1 bt179.2.2 9).bind fun bt184 => (if bt184.1 = true then (spec_DrawSlowestDays.j0 k bt179.1 t167 bt184.2.1 bt184.2.2 9 t172) else (spec_DrawSlowestDays.j0 k bt179.1 t167 bt184.2.1 bt184.2.2 t171 t172)))) = some (r1,r2,r3,r4):=H;have A4:=am A40;clear A40;replace H:=bS.mp H;obtain ⟨⟨t179,t182,t183⟩,A50,H⟩:=H;replace H : ((spec_l1Once.f t167 t182 t183 9).bind fun bt184 => (if bt184.1 = true then (spec_DrawSlowestDays.j0 k t179 t167 bt184.2.1 bt184.2.2 9 t172) else (spec_DrawSlowestDays.j0 k t179 t167 bt184.2.1 bt184.2.2 t171 t172))) = some (r1,r2,r3,r4):=H;have A5:=am A50;clear A50;replace H:=bS.mp H;obtain ⟨⟨t184,t185,t186⟩,A60,H⟩:=H;replace H : (if t184 = true then (spec_DrawSlowestDays.j0 k t179 t167 t185 t186 9 t172) else (spec_DrawSlowestDays.j0 k t179 t167 t185 t186 t171 t172)) = some (r1,r2,r3,r4):=H;have A6:=am A60;clear A60;have HC7:=am H;clear H
 go_enter Try.func21,Try.ntmps21
 try go_wp2_with (first | ((with_reducible refine gate_dst (N:=2) rfl ?_);refine box_event ?hg (N:=2) ?hd (cs:=#[.int .i64 0,.int .i64 0]) (t:=37) ?hr ?_;(case hd => rfl);(case hg => rfl);(case hr => exact qq299);intro gb166 hg w8 hbox hb;have BK166:=am (hbox);have GW166:=am ((qq153 : w.heap.size ≤ gb166));have GE166:=am ((qq153 : w.heap.size ≤ gb166));replace HB:=am (below_step qq189 hb);clear hb hbox hg) | ((with_reducible refine gate_callee (f:=73) rfl ?_);refine goesL_ (some 9) rfl rfl Try.func73 (by kernel_rfl) rfl #[.slice A0 l0.length c0] rfl qq177 ?_;(with_reducible refine (spec_l1New.calls k _ _ l0 t167 t168 t169 w _ ?side1 ?side2 ?side3 A2.out).mono ?_);(case side1 => repeat (first | (with_reducible first | exact HB.out | apply bA | apply bN | apply bD | refine below_set ?_ GE166.out) | exact HB.out));(case side2 => exact HR0.out);(case side3 => exact HC0.out);rintro e w9 ⟨g170,rfl,hi,hb,hb2⟩;refine ⟨_,rfl,?_⟩;replace HB:=am (hb);have HI170:=am (hi);have NB170_166:=am (IsS141.ne_blk hi (blk_below (g:=gb166) (o:=.cells #[.int .i64 0,.int .i64 0] 37 (0,0)) qq238 hb2) (by decide));have NB166_170:=am (Ne.symm (IsS141.ne_blk hi (blk_below (g:=gb166) (o:=.cells #[.int .i64 0,.int .i64 0] 37 (0,0)) qq238 hb2) (by decide)));replace BK166:=am (blk_below (g:=gb166) (o:=.cells #[.int .i64 0,.int .i64 0] 37 (0,0)) qq238 hb2);(try clear hb);(try clear hb2);(try clear hk);(try clear hi)) | ((with_reducible refine gate_callee (f:=79) rfl ?_);refine goesL_ (some 11) rfl rfl Try.func79 (by kernel_rfl) rfl #[.pointer (some ⟨g170,0,none⟩)] rfl qq177 ?_;(with_reducible refine (spec_l6Rule.calls g170 t167 t168 t169 t171 t172 t173 t174 w _ ?side1 ?side2 A3.out).mono ?_);(case side1 => exact qq61);(case side2 => exact qq116);rintro e w10 ⟨rfl,hi,hb,hk⟩;refine ⟨_,rfl,?_⟩;replace BK166:=am (KeepBut.blk hk (g':=gb166) (o:=.cells #[.int .i64 0,.int .i64 0] 37 (0,0)) qq238 NB166_170.out (by simp));replace HB:=am (hb);replace HI170:=am (hi);(try clear hb);(try clear hb2);(try clear hk);(try clear hi)) | ((with_reducible refine gate_dst (N:=6) rfl ?_);refine box_event ?hg (N:=6) ?hd (cs:=#[.int .i64 0,.int .i64 0]) (t:=37) ?hr ?_;(case hd => rfl);(case hg => rfl);(case hr => exact qq299);intro gb175 hg w11 hbox hb;have BK175:=am (hbox);have GW175:=am ((qq81 : w.heap.size ≤ gb175));have GE175:=am ((qq81 : w.heap.size ≤ gb175));replace HB:=am (below_step qq116 hb);have NB166_175:=am ((by rw [hg];exact Nat.ne_of_lt (blk_lt (g:=gb166) (o:=.cells #[.int .i64 0,.int .i64 0] 37 (0,0)) qq238) : gb166 ≠ gb175));have NB175_166:=am ((by rw [hg];exact Nat.ne_of_gt (blk_lt (g:=gb166) (o:=.cells #[.int .i64 0,.int .i64 0] 37 (0,0)) qq238) : gb175 ≠ gb166));replace BK166:=am (blk_below (g:=gb166) (o:=.cells #[.int .i64 0,.int .i64 0] 37 (0,0)) qq238 hb);have NB170_175:=am ((by rw [hg];exact Nat.ne_of_lt (IsS141.lt (show IsS141 w _ g170 t167 t173 t174 from by repeat (first | (with_reducible first | exact HI170.out | apply IsS141.alloc | apply IsS141.drewN | apply IsS141.drew | apply IsS141.set_1 | apply IsS141.set_2 | refine IsS141.far ?_ NB170_166.out _) | exact HI170.out))) : g170 ≠ gb175));have NB175_170:=am ((by rw [hg];exact Nat.ne_of_gt (IsS141.lt (show IsS141 w _ g170 t167 t173 t174 from by repeat (first | (with_reducible first | exact HI170.out | apply IsS141.alloc | apply IsS141.drewN | apply IsS141.drew | apply IsS141.set_1 | apply IsS141.set_2 | refine IsS141.far ?_ NB170_166.out _) | exact HI170.out))) : gb175 ≠ g170));replace HI170:=am (IsS141.below qq61 hb);clear hb hbox hg;have hnb12:=NB175_166.out;have hnc12:=NB166_175.out;have hnb13:=NB175_170.out;have hnc13:=NB170_175.out;obtain ⟨hcz14_0,hcz14_1,hfz14_0,hfz14_1⟩:=bcl2 BK175.out))
 have n0_ : Aside0 (((w11.setCell ⟨gb175,0,none⟩ (.int .i64 t171)).setCell ⟨gb175,1,none⟩ (.int .i64 t172)).heap[gb166]? = some (.cells #[.int .i64 0,.int .i64 0] 37 (0,0))):=⟨by (with_reducible repeat (first | refine dN ?_ _ | refine dD ?_ | refine dA ?_ _));refine blk_far ?_ NB166_175.out _;(with_reducible repeat (first | refine dN ?_ _ | refine dD ?_ | refine dA ?_ _));refine blk_far ?_ NB166_175.out _;(with_reducible repeat (first | refine dN ?_ _ | refine dD ?_ | refine dA ?_ _));exact BK166.out⟩
 have n1_ : Aside0 (((w11.setCell ⟨gb175,0,none⟩ (.int .i64 t171)).setCell ⟨gb175,1,none⟩ (.int .i64 t172)).heap[gb175]? = some (.cells #[.int .i64 t171,.int .i64 t172] 37 (0,0))):=⟨by (with_reducible repeat (first | refine dN ?_ _ | refine dD ?_ | refine dA ?_ _));refine blk_put (cs:=#[.int .i64 t171,.int .i64 0]) ?_ 1 _ rfl;(with_reducible repeat (first | refine dN ?_ _ | refine dD ?_ | refine dA ?_ _));refine blk_put (cs:=#[.int .i64 0,.int .i64 0]) ?_ 0 _ rfl;(with_reducible repeat (first | refine dN ?_ _ | refine dD ?_ | refine dA ?_ _));exact BK175.out⟩
 have n2_ : Aside0 (IsS141 w ((w11.setCell ⟨gb175,0,none⟩ (.int .i64 t171)).setCell ⟨gb175,1,none⟩ (.int .i64 t172)) g170 t167 t173 t174):=⟨qq31⟩
 have n3_ : Aside0 (Below w.heap.size w ((w11.setCell ⟨gb175,0,none⟩ (.int .i64 t171)).setCell ⟨gb175,1,none⟩ (.int .i64 t172))):=⟨qq86⟩
 (try clear BK166);(try clear BK175);(try clear HI170);(try clear HB)
 generalize ((w11.setCell ⟨gb175,0,none⟩ (.int .i64 t171)).setCell ⟨gb175,1,none⟩ (.int .i64 t172)) = w15 at n0_ n1_ n2_ n3_ ⊢
 have BK166:=n0_;have BK175:=n1_;have HI170:=n2_;have HB:=n3_;clear n0_ n1_ n2_ n3_;replace BK166:=am (blk_drew BK166.out);replace BK175:=am (blk_drew BK175.out);replace HI170:=am (IsS141.drew HI170.out);replace HB:=am (below_drew1 HB.out);refine start_ (n:=6) (S:=fun w' => w'.cell? ⟨gb175,0,none⟩ = some (.int .i64 t171) ∧ w'.cell? ⟨gb175,1,none⟩ = some (.int .i64 t172)) (ds:=[]) #[Z,Z,Z,Z,Z,Z] (by kernel_rfl) rfl rfl ⟨(blk_cell BK175.out 0).trans rfl,(blk_cell BK175.out 1).trans rfl⟩ (fun hHeld => ?_)
 generalize w15.drew = w16 at BK166 BK175 HI170 HB hHeld ⊢
 refine pV (i:=0) (N:=some 12) #[Y,Z,Z,Z,Z,Z] rfl rfl (by kernel_rfl) ?_
 refine pV (i:=2) (N:=some 14) #[Y,Z,Y,Z,Z,Z] rfl rfl (by kernel_rfl) ?_
 refine tV2 (i:=1) (N:=some 13) #[Y,Y,Y,Z,Z,Z] rfl rfl (by kernel_rfl) hHeld ?_
 refine one_ (i:=3) (N:=some 15) #[Y,Y,Y,Y,Z,Z] rfl rfl (by kernel_rfl) (by decide) (fun K hK => ?_);refine goes_ Try.func78 (by kernel_rfl) rfl #[.pointer (some ⟨g170,0,none⟩),.int .i64 8] (by rfl) rfl rfl qq177 ?_;with_reducible refine (spec_l1Below.calls g170 t167 t173 t174 8 t176 t177 t178 w _ ?side1 ?side2 A4.out).mono ?_
 (case side1 => exact qq31);(case side2 => exact qq86)
 rintro e w17 ⟨rfl,hi,hb,hk⟩
 refine ⟨_,rfl,?_⟩;replace BK166:=am (KeepBut.blk hk (g':=gb166) (o:=.cells #[.int .i64 0,.int .i64 0] 37 (0,0)) qq238 NB166_170.out (by simp));replace BK175:=am (KeepBut.blk hk (g':=gb175) (o:=.cells #[.int .i64 t171,.int .i64 t172] 37 (0,0)) qq237 NB175_170.out (by simp));replace HB:=am (hb);replace HI170:=am (hi);(try clear hb);(try clear hb2);(try clear hk);(try clear hi);refine hK.out _ _ ⟨(blk_cell BK175.out 0).trans rfl,(blk_cell BK175.out 1).trans rfl⟩ (fun hHeld => ?_);clear hK K;refine norm_ (a':=?_) ?_ ?_;rotate_left
 ·show Act.put _ (some 15) _ = _
  simp only [Act.put,sA,s0,s1,i64_w,i32_w];rfl
 refine one_ (i:=4) (N:=some 16) #[Y,Y,Y,Y,Y,Z] rfl rfl (by kernel_rfl) (by decide) (fun K hK => ?_);refine goes_ Try.func80 (by kernel_rfl) rfl #[.pointer (some ⟨g170,0,none⟩),.agg #[.int .i64 t171,.int .i64 t172],.int .i64 t176] (by rfl) rfl rfl qq177 ?_;with_reducible refine (spec_l6Past.calls k g170 t167 t177 t178 t171 t172 t176 t179 t182 t183 w _ ?side1 ?side2 A5.out).mono ?_
 (case side1 => exact qq31);(case side2 => exact qq86)
 rintro e w18 ⟨v180,rfl,ho0,hi,hb,hk⟩
 refine ⟨_,rfl,?_⟩;replace BK166:=am (KeepBut.blk hk (g':=gb166) (o:=.cells #[.int .i64 0,.int .i64 0] 37 (0,0)) qq238 NB166_170.out (by simp));replace BK175:=am (KeepBut.blk hk (g':=gb175) (o:=.cells #[.int .i64 t171,.int .i64 t172] 37 (0,0)) qq237 NB175_170.out (by simp));have HO181:=am (Kd.R_lower ho0 (below_size qq86));replace HB:=am (hb);replace HI170:=am (hi);(try clear hb);(try clear hb2);(try clear hk);(try clear hi);(try clear ho0);refine hK.out _ _ ⟨(blk_cell BK175.out 0).trans rfl,(blk_cell BK175.out 1).trans rfl⟩ (fun hHeld => ?_);clear hK K;refine norm_ (a':=?_) ?_ ?_;rotate_left
 ·show Act.put _ (some 16) _ = _
  simp only [Act.put,sA,s0,s1,i64_w,i32_w];rfl
 refine pV (i:=5) (N:=some 7) #[Y,Y,Y,Y,Y,Y] rfl rfl (by kernel_rfl) ?_
 refine done_ (by kernel_rfl) ?_
 go_upto_if 18 with (first | ((with_reducible refine gate_callee (f:=81) rfl ?_);refine goesL_ (some 18) rfl rfl Try.func81 (by kernel_rfl) rfl #[.pointer (some ⟨g170,0,none⟩),.int .i64 9] rfl qq177 ?_;(with_reducible refine (spec_l1Once.calls g170 t167 t182 t183 9 t184 t185 t186 w _ ?side1 ?side2 A6.out).mono ?_);(case side1 => exact qq31);(case side2 => exact qq86);rintro e w19 ⟨rfl,hi,hb,hk⟩;refine ⟨_,rfl,?_⟩;replace BK166:=am (KeepBut.blk hk (g':=gb166) (o:=.cells #[.int .i64 0,.int .i64 0] 37 (0,0)) qq238 NB166_170.out (by simp));replace BK175:=am (KeepBut.blk hk (g':=gb175) (o:=.cells #[.int .i64 t171,.int .i64 t172] 37 (0,0)) qq237 NB175_170.out (by simp));replace HO181:=am (Kd.R_mono (Kd.R_keep (IsS141.apart (show IsS141 w _ g170 t167 t182 t183 from by repeat (first | (with_reducible first | exact HI170.out | apply IsS141.alloc | apply IsS141.drewN | apply IsS141.drew | apply IsS141.set_1 | apply IsS141.set_2 | refine IsS141.far ?_ NB170_166.out _ | refine IsS141.far ?_ NB170_175.out _) | exact HI170.out)) qq284 (by decide)) hk (fun _ h => h.2)) (fun _ h => h.1));replace HB:=am (hb);replace HI170:=am (hi);(try clear hb);(try clear hb2);(try clear hk);(try clear hi)))
 (try simp only [Act.put,sA,s0,s1])
 go_cut [] (fun wc => ∃ (kq : Nat) (x176000_6 : Int),Aside0 (spec_DrawSlowestDays.j0 kq t179 t167 t185 t186 x176000_6 t172 = some (r1,r2,r3,r4)) ∧ Aside0 (kq ≤ k) ∧ Aside0 (Kd.R Kd.bool 4 wc w.heap.size (fun _ => True) v180 t179) ∧ Aside0 (wc.heap[gb166]? = some (.cells #[.int .i64 0,.int .i64 0] 37 (0,0))) ∧ Aside0 (wc.heap[gb175]? = some (.cells #[.int .i64 x176000_6,.int .i64 t172] 37 (0,0))) ∧ Aside0 (IsS141 w wc g170 t167 t185 t186) ∧ Aside0 (Below w.heap.size w wc))
 case first =>
  have H:=HC7.out;clear HC7
  by_cases c20 : t184 = true
  ·subst c20;have H1 : (spec_DrawSlowestDays.j0 k t179 t167 t185 t186 9 t172) = some (r1,r2,r3,r4):=by rw [if_pos rfl] at H;exact H
   clear H;have H:=H1;clear H1;have H':=am H;clear H;have hnb21:=NB175_166.out;have hnc21:=NB166_175.out;have hnb22:=NB175_170.out;have hnc22:=NB170_175.out;obtain ⟨hcz23_0,hcz23_1,hfz23_0,hfz23_1⟩:=bcl2 BK175.out;go_wp2
   go_meet
   case rel => exact ⟨_,(9),H',⟨qq301⟩,⟨by (with_reducible repeat (first | apply kA | apply kN | apply kD));exact Kd.R_mono (Kd.R_far (p:=⟨gb175,0,none⟩) (Kd.R_types HO181.out BK175.out (by decide)) (fun _ hk => hk.2) (.int .i64 9)) (fun _ hk => trivial)⟩,⟨by (with_reducible repeat (first | refine dN ?_ _ | refine dD ?_ | refine dA ?_ _));refine blk_far ?_ NB166_175.out _;(with_reducible repeat (first | refine dN ?_ _ | refine dD ?_ | refine dA ?_ _));exact BK166.out⟩,⟨by (with_reducible repeat (first | refine dN ?_ _ | refine dD ?_ | refine dA ?_ _));refine blk_put (cs:=#[.int .i64 t171,.int .i64 t172]) ?_ 0 _ rfl;(with_reducible repeat (first | refine dN ?_ _ | refine dD ?_ | refine dA ?_ _));exact BK175.out⟩,⟨qq31⟩,⟨qq86⟩⟩
  ·replace c20:=Bool.eq_false_iff.mpr c20;subst c20;have H1 : (spec_DrawSlowestDays.j0 k t179 t167 t185 t186 t171 t172) = some (r1,r2,r3,r4):=by rw [if_neg (show ¬ (false = true) by decide)] at H;exact H
   clear H;have H:=H1;clear H1;have H':=am H;clear H;go_wp2
   go_meet
   case rel => exact ⟨_,(t171),H',⟨qq301⟩,⟨qq284⟩,⟨qq238⟩,⟨qq237⟩,⟨qq31⟩,⟨qq86⟩⟩
 case rest =>
  clear HC7
  try clear c1
  try clear c2
  try clear p2
  try clear c7
  try clear c8
  try clear c12
  try clear c13
  try clear c20
  try clear c21
  try clear c22
  try clear hcz14_0
  try clear hcz14_1
  try clear hcz23_0
  try clear hcz23_1
  try clear hfz14_0
  try clear hfz14_1
  try clear hfz23_0
  try clear hfz23_1
  obtain ⟨kq,x176000_6,HA,HJ6,HO_7,BK166,BK175,HI170,HB⟩:=hcut
  cases kq with
  | zero => exact absurd HA.out (by simp [spec_DrawSlowestDays.j0])
  | succ kj6 =>
   have H:=HA.out;clear HA;simp only [spec_DrawSlowestDays.j0] at H;obtain ⟨y187,hy187⟩ : ∃ y_ : List Int,y_ = (([0,1,2,4,(-1)] : List Int)):=⟨_,rfl⟩
   replace H : ((spec_l1Int.f t167 t185 t186 y187).bind fun bt190 => (some (x176000_6,t172,t179,bt190.1))) = some (r1,r2,r3,r4):=by first | (rw [hy187];with_reducible exact H) | (have H2_:=(Option.bind_some _ _).symm.trans H;rw [hy187];with_reducible exact H2_) | (have H2_:=(Option.bind_some _ _).symm.trans H;with_reducible exact H2_) | with_reducible exact H | (rw [hy187];exact H) | exact H
   have Ny187:=am hy187;clear hy187;replace H:=bS.mp H;obtain ⟨⟨t190,t191,t192⟩,A240,H⟩:=H;replace H : (some (x176000_6,t172,t179,t190)) = some (r1,r2,r3,r4):=H;have A24:=am A240;clear A240;simp only [Option.some.injEq,Prod.mk.injEq] at H;obtain ⟨rfl,rfl,rfl,rfl⟩:=H
   try go_wp2
   replace HO_7:=am (Kd.R_drew HO_7.out);replace BK166:=am (blk_drew BK166.out);replace BK175:=am (blk_drew BK175.out);replace HI170:=am (IsS141.drew HI170.out);replace HB:=am (below_drew1 HB.out);refine start_ (n:=8) (S:=fun w' => w'.cell? ⟨gb175,0,none⟩ = some (.int .i64 x176000_6) ∧ w'.cell? ⟨gb175,1,none⟩ = some (.int .i64 t172)) (ds:=[]) #[Z,Z,Z,Z,Z,Z,Z,Z] (by kernel_rfl) rfl rfl ⟨(blk_cell BK175.out 0).trans rfl,(blk_cell BK175.out 1).trans rfl⟩ (fun hHeld => ?_);refine with_tabW spec_DrawSlowestDays.tab6 spec_DrawSlowestDays.bits6 (fun HT_ HW_ => ?_)
   generalize wc.drew = w25 at HO_7 BK166 BK175 HI170 HB hHeld ⊢
   refine pV (i:=1) (N:=some 21) #[Z,Y,Z,Z,Z,Z,Z,Z] rfl rfl qT ?_
   refine pV (i:=2) (N:=some 22) #[Z,Y,Y,Z,Z,Z,Z,Z] rfl rfl qT ?_
   refine tV2 (i:=0) (N:=some 20) #[Y,Y,Y,Z,Z,Z,Z,Z] rfl rfl (take_ofW HT_.out HW_.out (by kernel_rfl)) hHeld ?_
   refine one_ (i:=3) (N:=some 23) #[Y,Y,Y,Y,Z,Z,Z,Z] rfl rfl (one_of HT_.out (by kernel_rfl)) (by decide) (fun K hK => ?_);refine Kd.R_lit_step (Kd.int .i64) _ 3 ?hg (N:=23) ?hd (xs:=([0,1,2,4,(-1)] : List Int)) (inner:=[.int .i64 0,.int .i64 1,.int .i64 2,.int .i64 4,.int .i64 (-1)]) (ok:=fun _ => True) (okp:=fun _ => True) ?hr ?hp (fun _ hk => hk) trivial (Below.refl _ _) (Nat.le_refl _) (by simp) ?_;(case hd => rfl);(case hg => rfl);(case hr => exact qq299);(case hp => exact (Reps.one (show Kd.M (Kd.int .i64) _ _ _ 0 [.int .i64 0] from rfl) (Reps.one (show Kd.M (Kd.int .i64) _ _ _ 1 [.int .i64 1] from rfl) (Reps.one (show Kd.M (Kd.int .i64) _ _ _ 2 [.int .i64 2] from rfl) (Reps.one (show Kd.M (Kd.int .i64) _ _ _ 4 [.int .i64 4] from rfl) (Reps.one (show Kd.M (Kd.int .i64) _ _ _ (-1) [.int .i64 (-1)] from rfl) (Reps.none _ _)))))));intro v188 w26 ho27 hb hg_ hnew_;clear hg_ hnew_;(first | rw [← Ny187.out] at ho27 | (simp only [Int.reduceToNat] at ho27;rw [← Ny187.out] at ho27));replace HO_7:=am (Kd.R_below qq288 hb);have HO189:=am (Kd.R_lower ho27 (below_size qq86));replace BK166:=am (blk_below (g:=gb166) (o:=.cells #[.int .i64 0,.int .i64 0] 37 (0,0)) qq238 hb);replace BK175:=am (blk_below (g:=gb175) (o:=.cells #[.int .i64 x176000_6,.int .i64 t172] 37 (0,0)) qq237 hb);replace HB:=am (below_step qq86 hb);replace HI170:=am (IsS141.below qq31 hb);clear hb ho27;obtain ⟨Ao28,co28,eo28⟩:=Kd.R_slice HO189.out;(first | subst eo28 | (injection eo28 with f1_ f2_ f3_;have f4_:=f1_.symm;have f5_:=f3_.symm;clear f1_ f2_ f3_;subst f4_;subst f5_));refine hK.out _ _ ⟨(blk_cell BK175.out 0).trans rfl,(blk_cell BK175.out 1).trans rfl⟩ (fun hHeld => ?_);clear hK K;refine norm_ (a':=?_) ?_ ?_;rotate_left
   ·show Act.put _ (some 23) _ = _
    simp only [Act.put,sA,s0,s1,i64_w,i32_w];rfl
   refine one_ (i:=4) (N:=some 24) #[Y,Y,Y,Y,Y,Z,Z,Z] rfl rfl (one_of HT_.out (by kernel_rfl)) (by decide) (fun K hK => ?_);refine goes_ Try.func74 (by kernel_rfl) rfl #[.pointer (some ⟨g170,0,none⟩),.slice Ao28 y187.length co28] (by rfl) rfl rfl qq177 ?_;with_reducible refine (spec_l1Int.calls g170 t167 t185 t186 _ _ y187 t190 t191 t192 w _ ?side1 ?side2 ?side3 ?side4 ?side5 A24.out).mono ?_
   (case side1 => exact qq31);(case side2 => exact qq86);(case side3 => repeat (first | exact (Kd.R_reads' HO189.out).2.2 | (with_reducible refine cA ?_ _) | (with_reducible refine cN ?_ _) | (with_reducible refine cD ?_)));(case side4 => exact (Kd.R_reads' HO189.out).2.1);(case side5 => exact far_slice (IsS141.own_ne HI170.out HO189.out (by decide)))
   rintro e w29 ⟨rfl,hi,hb,hk⟩
   refine ⟨_,rfl,?_⟩;replace HO_7:=am (Kd.R_mono (Kd.R_keep (IsS141.apart (show IsS141 w _ g170 t167 t185 t186 from by repeat (first | (with_reducible first | exact HI170.out | apply IsS141.alloc | apply IsS141.drewN | apply IsS141.drew | apply IsS141.set_1 | apply IsS141.set_2 | refine IsS141.far ?_ NB170_166.out _ | refine IsS141.far ?_ NB170_175.out _) | exact HI170.out)) qq288 (by decide)) hk (fun _ h => h.2)) (fun _ h => h.1));replace BK166:=am (KeepBut.blk hk (g':=gb166) (o:=.cells #[.int .i64 0,.int .i64 0] 37 (0,0)) qq238 NB166_170.out (by simp));replace BK175:=am (KeepBut.blk hk (g':=gb175) (o:=.cells #[.int .i64 x176000_6,.int .i64 t172] 37 (0,0)) qq237 NB175_170.out (by simp));replace HO189:=am (Kd.R_mono (Kd.R_keep (IsS141.apart (show IsS141 w _ g170 t167 t185 t186 from by repeat (first | (with_reducible first | exact HI170.out | apply IsS141.alloc | apply IsS141.drewN | apply IsS141.drew | apply IsS141.set_1 | apply IsS141.set_2 | refine IsS141.far ?_ NB170_166.out _ | refine IsS141.far ?_ NB170_175.out _) | exact HI170.out)) (by (with_reducible repeat (first | apply kA | apply kN | apply kD));exact HO189.out) (by decide)) hk (fun _ h => h.2)) (fun _ h => h.1));replace HB:=am (hb);replace HI170:=am (hi);(try clear hb);(try clear hb2);(try clear hk);(try clear hi);refine hK.out _ _ ⟨(blk_cell BK175.out 0).trans rfl,(blk_cell BK175.out 1).trans rfl⟩ (fun hHeld => ?_);clear hK K;refine norm_ (a':=?_) ?_ ?_;rotate_left
   ·show Act.put _ (some 24) _ = _
    simp only [Act.put,sA,s0,s1,i64_w,i32_w];rfl
   refine one_ (i:=5) (N:=none) #[Y,Y,Y,Y,Y,Y,Z,Z] rfl rfl (one_of HT_.out (by kernel_rfl)) (by decide) (fun K hK => ?_);have hs30 : w29.cell? ⟨gb166,0,none⟩ = some (.int .i64 0):=(blk_cell BK166.out 0).trans rfl;have hfs30:=blk_frozen BK166.out 0;have hns30_1:=NB175_166.out;have hms30_1:=NB166_175.out;have hs31 : w29.cell? ⟨gb166,1,none⟩ = some (.int .i64 0):=(blk_cell BK166.out 1).trans rfl;have hfs31:=blk_frozen BK166.out 1;have hns31_1:=NB175_166.out;have hms31_1:=NB166_175.out;refine skip_ (w1:=?_) (by rfl) rfl ?_ ?_;rotate_left
   ·go_simp;rfl
   refine hK.out _ _ ⟨((cell_far (p:=⟨gb166,_,none⟩) NB175_166.out _).trans (((cell_far (p:=⟨gb166,_,none⟩) NB175_166.out _).trans (hHeld.1)))),((cell_far (p:=⟨gb166,_,none⟩) NB175_166.out _).trans (((cell_far (p:=⟨gb166,_,none⟩) NB175_166.out _).trans (hHeld.2))))⟩ (fun hHeld => ?_);clear hK K;refine pV (i:=6) (N:=some 3) #[Y,Y,Y,Y,Y,Y,Y,Z] rfl rfl qT ?_
   refine pV (i:=7) (N:=some 4) #[Y,Y,Y,Y,Y,Y,Y,Y] rfl rfl qT ?_
   refine done_ (done_of HT_.out (by kernel_rfl)) ?_
   try go_wp2
   refine bodyPost_ret (results_ctt rfl _ _ gb166 37 #[.int .i64 x176000_6,.int .i64 t172] (0,0) _ rfl (by (with_reducible repeat (first | refine dN ?_ _ | refine dD ?_ | refine dA ?_ _));refine blk_put (cs:=#[.int .i64 x176000_6,.int .i64 0]) ?_ 1 _ rfl;(with_reducible repeat (first | refine dN ?_ _ | refine dD ?_ | refine dA ?_ _));refine blk_put (cs:=#[.int .i64 0,.int .i64 0]) ?_ 0 _ rfl;(with_reducible repeat (first | refine dN ?_ _ | refine dD ?_ | refine dA ?_ _));exact BK166.out) Try.underlying37 rfl (by kernel_rfl)) rfl ?_;exact ⟨_,qq244,by (with_reducible repeat (first | apply kA | apply kN | apply kD));exact Kd.R_mono (Kd.R_far (p:=⟨gb166,1,none⟩) (Kd.R_far (p:=⟨gb166,0,none⟩) (Kd.R_types HO_7.out BK166.out (by decide)) (fun _ hk => hk.2) (.int .i64 x176000_6)) (fun _ hk => hk.2) (.int .i64 t172)) (fun _ hk => trivial),qq86⟩

/-! ### impl_IsRule: function 26 -/
def impl_IsRule.f (a0_0 : Int) (a0_1 : Int) : Option (Bool) := (impl_InRange.f a0_1 1 10).bind fun t194 => (if t194 = true then ((impl_InRange.f a0_0 0 (wrap64 (a0_1 - 1))).bind fun t195 => (some t195)) else (some false))
set_option maxHeartbeats 8000000 in
set_option maxRecDepth 100000 in
theorem impl_IsRule.calls (a0_0 : Int) (a0_1 : Int) (r : Bool) (w : World) (h : impl_IsRule.f a0_0 a0_1 = some r) :
  Calls Try.prog 26 #[.agg #[.int .i64 a0_0,.int .i64 a0_1]] w fun e w' => e = .returned (.bool r) ∧ Below w.heap.size w w':=by
 have hu37:=Try.underlying37;have HB:=am (Below.refl w.heap.size w);have H : ((impl_InRange.f a0_1 1 10).bind fun t194 => (if t194 = true then ((impl_InRange.f a0_0 0 (wrap64 (a0_1 - 1))).bind fun t195 => (some t195)) else (some false))) = some r:=h;clear h;replace H:=bS.mp H;obtain ⟨t194,A20,H⟩:=H;replace H : (if t194 = true then ((impl_InRange.f a0_0 0 (wrap64 (a0_1 - 1))).bind fun t195 => (some t195)) else (some false)) = some r:=H;have A2:=am A20;clear A20
 by_cases c3 : t194 = true
 ·subst c3;have H1 : ((impl_InRange.f a0_0 0 (wrap64 (a0_1 - 1))).bind fun t195 => (some t195)) = some r:=by rw [if_pos rfl] at H;exact H
  clear H;have H:=H1;clear H1;replace H:=bS.mp H;obtain ⟨t195,A40,H⟩:=H;replace H : (some t195) = some r:=H;have A4:=am A40;clear A40;obtain rfl:=Option.some.inj H
  go_enter Try.func26,Try.ntmps26
  go_wp2_with (first | ((with_reducible refine gate_dst (N:=1) rfl ?_);refine box_event ?hg (N:=1) ?hd (cs:=#[.int .i64 a0_0,.int .i64 a0_1]) (t:=37) ?hr ?_;(case hd => rfl);(case hg => rfl);(case hr => exact qq299);intro gb193 hg w5 hbox hb;have BK193:=am (hbox);have GW193:=am ((qq153 : w.heap.size ≤ gb193));have GE193:=am ((qq153 : w.heap.size ≤ gb193));replace HB:=am (below_step qq189 hb);clear hb hbox hg;obtain ⟨hcz6_0,hcz6_1,hfz6_0,hfz6_1⟩:=bcl2 BK193.out) | ((with_reducible refine gate_callee (f:=76) rfl ?_);refine goesL_ (some 5) rfl rfl Try.func76 (by kernel_rfl) rfl #[.int .i64 a0_1,.int .i64 1,.int .i64 10] rfl qq177 ?_;(with_reducible refine (impl_InRange.calls a0_1 1 10 true _ A2.out).mono ?_);rintro e w' ⟨rfl,⟨nd,rfl⟩⟩;refine ⟨_,rfl,?_⟩) | (go_at_call 76;(with_reducible refine (impl_InRange.calls a0_0 0 (wrap64 (a0_1 - 1)) t195 _ A4.out).mono ?_);rintro e w' ⟨rfl,⟨nd,rfl⟩⟩))
  go_ret
  exact ⟨qq244,qq173⟩
 ·replace c3:=Bool.eq_false_iff.mpr c3;subst c3;have H1 : (some false) = some r:=by rw [if_neg (show ¬ (false = true) by decide)] at H;exact H
  clear H;have H:=H1;clear H1;obtain rfl:=Option.some.inj H
  go_enter Try.func26,Try.ntmps26
  go_wp2_with (first | ((with_reducible refine gate_dst (N:=1) rfl ?_);refine box_event ?hg (N:=1) ?hd (cs:=#[.int .i64 a0_0,.int .i64 a0_1]) (t:=37) ?hr ?_;(case hd => rfl);(case hg => rfl);(case hr => exact qq299);intro gb193 hg w7 hbox hb;have BK193:=am (hbox);have GW193:=am ((qq153 : w.heap.size ≤ gb193));have GE193:=am ((qq153 : w.heap.size ≤ gb193));replace HB:=am (below_step qq189 hb);clear hb hbox hg;obtain ⟨hcz8_0,hcz8_1,hfz8_0,hfz8_1⟩:=bcl2 BK193.out) | ((with_reducible refine gate_callee (f:=76) rfl ?_);refine goesL_ (some 5) rfl rfl Try.func76 (by kernel_rfl) rfl #[.int .i64 a0_1,.int .i64 1,.int .i64 10] rfl qq177 ?_;(with_reducible refine (impl_InRange.calls a0_1 1 10 false _ A2.out).mono ?_);rintro e w' ⟨rfl,⟨nd,rfl⟩⟩;refine ⟨_,rfl,?_⟩))
  go_ret
  exact ⟨qq244,qq173⟩

/-! ### impl_last: function 123 -/
def impl_last.f (l0 : List Bool) (a1 : Int) : Option (List Bool) := if 0 ≤ (mx (wrap64 ((l0.length : Int) - a1)) 0) then (if (mx (wrap64 ((l0.length : Int) - a1)) 0) ≤ (l0.length : Int) then (some (l0.drop ((mx (wrap64 ((l0.length : Int) - a1)) 0) : Int).toNat)) else (none)) else (none)
set_option maxHeartbeats 8000000 in
set_option maxRecDepth 100000 in
theorem impl_last.calls (P0_ : Nat → Prop) (A0 : Option Addr) (c0 : Nat) (l0 : List Bool) (a1 : Int) (r : List Bool) (w : World) (hs0 : Kd.V Kd.bool 4 w w.heap.size (fun k_ => P0_ k_) (.slice A0 l0.length c0) l0) (h : impl_last.f l0 a1 = some r) :
  Calls Try.prog 123 #[.slice A0 l0.length c0,.int .i64 a1] w fun e w' => ∃ v0_ : Value,e = .returned (v0_) ∧ Kd.V Kd.bool 4 w' w.heap.size (fun k_ => (P0_ k_ ∨ w.heap.size ≤ k_)) v0_ r ∧ Below w.heap.size w w':=by
 have HO0:=am (show Kd.V Kd.bool 4 w w.heap.size (fun k_ => (P0_ k_ ∨ w.heap.size ≤ k_)) (.slice A0 l0.length c0) l0 from Kd.V_mono hs0 (fun k_ hk => .inl hk));have HB:=am (Below.refl w.heap.size w);have H : (if 0 ≤ (mx (wrap64 ((l0.length : Int) - a1)) 0) then (if (mx (wrap64 ((l0.length : Int) - a1)) 0) ≤ (l0.length : Int) then (some (l0.drop ((mx (wrap64 ((l0.length : Int) - a1)) 0) : Int).toNat)) else (none)) else (none)) = some r:=h;clear h;obtain ⟨ji3,hji3⟩ : ∃ j_ : Int,(mx (wrap64 ((l0.length : Int) - a1)) 0) = j_:=⟨_,rfl⟩
 replace H : (if 0 ≤ (ji3) then (if (ji3) ≤ (l0.length : Int) then (some (l0.drop ((ji3) : Int).toNat)) else (none)) else (none)) = some r:=by first | (rw [hji3] at H;exact H) | (simp only [hji3] at H ⊢;exact H)
 (try (have hji3l : 0 ≤ ji3:=by (rw [← hji3];unfold mx;(repeat' split) <;> omega)));(try (have hji3m : 0 ≤ ji3:=by omega));have hji3_ : (if (wrap64 ((l0.length : Int) - a1)) < 0 then 0 else (wrap64 ((l0.length : Int) - a1))) = ji3:=hji3
 by_cases c4 : 0 ≤ (ji3)
 ·rw [if_pos c4] at H;have c4b0:=eq_true c4;have c4b1 : decide (0 ≤ (ji3)) = true:=decide_eq_true c4;clear c4
  by_cases c5 : (ji3) ≤ (l0.length : Int)
  ·rw [if_pos c5] at H;have c5b0:=eq_true c5;have c5b1 : decide ((ji3) ≤ (l0.length : Int)) = true:=decide_eq_true c5;clear c5;obtain ⟨y196,hy196⟩ : ∃ y_ : List Bool,y_ = (l0.drop ((ji3) : Int).toNat):=⟨_,rfl⟩
   replace H : (some y196) = some r:=by first | (rw [hy196];with_reducible exact H) | (have H2_:=(Option.bind_some _ _).symm.trans H;rw [hy196];with_reducible exact H2_) | (have H2_:=(Option.bind_some _ _).symm.trans H;with_reducible exact H2_) | with_reducible exact H | (rw [hy196];exact H) | exact H
   have Ny196:=am hy196;clear hy196;obtain rfl:=Option.some.inj H;have q6 : ((ji3) : Int) ≤ ((l0.length : Int) : Int):=odt qq296;obtain ⟨i06,hi06,_,hsz6,_⟩:=info_parts info4;have hroom6 : l0.length ≤ c0:=(Kd.V_reads' HO0.out).2.1;have hC6 : Kd.F Kd.bool _ _ A0 l0.length l0:=(Kd.V_at (base:=w.heap.size) HO0.out).2.2;have q06 : (0 : Int) ≤ ((ji3) : Int):=odt qq296;have hcut6:=cut_from (P:=Try.prog) 25 4 .i64 Try.underlying25 hi06 1 hsz6 A0 l0.length c0 (ji3) q06 q6;have hr6:=Kd.F_cut (m:=((ji3) : Int).toNat) (c:=c0) hC6 (by omega) hroom6;obtain ⟨A6,hA6⟩ : ∃ A1,A1 = (if c0 = ((ji3) : Int).toNat then A0 else (A0 : Option Addr).map (·.add (((ji3) : Int).toNat * 1))):=⟨_,rfl⟩
   obtain ⟨c6,hc6⟩ : ∃ c1,c1 = c0 - ((ji3) : Int).toNat:=⟨_,rfl⟩
   have hy6 : y196.length = l0.length - ((ji3) : Int).toNat:=(by rw [Ny196.out,List.length_drop] <;> omega)
   rw [show (l0).drop ((ji3) : Int).toNat = y196 from Ny196.out.symm] at hr6;replace hr6 : Kd.F Kd.bool _ _ A6 y196.length y196:=(by rw [hA6];exact hr6)
   rw [← hy6,← hA6,← hc6] at hcut6;have HO200:=am (show Kd.V Kd.bool 4 _ w.heap.size _ (.slice A6 y196.length c6) y196 from Kd.V_mk (by rw [hy6,hc6];exact Nat.sub_le_sub_right hroom6 _) hr6);have HC200:=am (show y196.length ≤ c6 from by rw [hy6,hc6];exact Nat.sub_le_sub_right hroom6 _);clear hr6 hC6 hroom6 hi06 hsz6 hc6;have KY6:=am hy6;have KA6:=am hA6;clear hy6 hA6;replace q6:=eq_true q6
   go_enter Try.func123,Try.ntmps123
   go_wp2
   go_ret
   exact ⟨_,by first | rfl | (simp [errW_none,errW_some] <;> rfl) | (simp only [← hji3];first | rfl | (simp [errW_none,errW_some] <;> rfl)) | (simp [*,errW_none,errW_some] <;> rfl),by (with_reducible repeat (first | apply Kd.V_alloc | apply Kd.V_drewN | apply Kd.V_drew));exact HO200.out,qq189⟩
  ·rw [if_neg c5] at H;exact absurd H (by simp)
 ·rw [if_neg c4] at H;exact absurd H (by simp)

/-! ### impl_AddDay: function 82 -/
def impl_AddDay.f (l0 : List Bool) (a1 : Bool) : Option (List Bool) := (some (([] : List Bool) : List Bool)).bind fun y201 => (if y201.length + l0.length < 140737488355328 then ((some (y201 ++ l0 : List Bool)).bind fun y204 => (if y204.length < 140737488355328 then ((some (([] : List Bool) : List Bool)).bind fun y210 => ((impl_last.f (y204 ++ [a1]) 10).bind fun t213 => (if y210.length + t213.length < 140737488355328 then (some (y210 ++ t213)) else (none)))) else (none))) else (none))
set_option maxHeartbeats 8000000 in
set_option maxRecDepth 100000 in
theorem impl_AddDay.calls (A0 : Option Addr) (c0 : Nat) (l0 : List Bool) (a1 : Bool) (r : List Bool) (w : World) (hr0 : Kd.C Kd.bool w A0 l0.length l0) (hc0 : l0.length ≤ c0) (h : impl_AddDay.f l0 a1 = some r) :
  Calls Try.prog 82 #[.slice A0 l0.length c0,.bool a1] w fun e w' => ∃ v0_ : Value,e = .returned (v0_) ∧ Kd.R Kd.bool 4 w' w.heap.size (fun _ => True) v0_ r ∧ Below w.heap.size w w':=by
 have HR0:=am hr0;have HC0:=am hc0;clear hr0 hc0;have HB:=am (Below.refl w.heap.size w);have H : ((some (([] : List Bool) : List Bool)).bind fun y201 => (if y201.length + l0.length < 140737488355328 then ((some (y201 ++ l0 : List Bool)).bind fun y204 => (if y204.length < 140737488355328 then ((some (([] : List Bool) : List Bool)).bind fun y210 => ((impl_last.f (y204 ++ [a1]) 10).bind fun t213 => (if y210.length + t213.length < 140737488355328 then (some (y210 ++ t213)) else (none)))) else (none))) else (none))) = some r:=h;clear h;obtain ⟨y201,hy201⟩ : ∃ y_ : List Bool,y_ = (([] : List Bool)):=⟨_,rfl⟩
 replace H : (if y201.length + l0.length < 140737488355328 then ((some (y201 ++ l0 : List Bool)).bind fun y204 => (if y204.length < 140737488355328 then ((some (([] : List Bool) : List Bool)).bind fun y210 => ((impl_last.f (y204 ++ [a1]) 10).bind fun t213 => (if y210.length + t213.length < 140737488355328 then (some (y210 ++ t213)) else (none)))) else (none))) else (none)) = some r:=by first | (rw [hy201];with_reducible exact H) | (have H2_:=(Option.bind_some _ _).symm.trans H;rw [hy201];with_reducible exact H2_) | (have H2_:=(Option.bind_some _ _).symm.trans H;with_reducible exact H2_) | with_reducible exact H | (rw [hy201];exact H) | exact H
 have Ny201:=am hy201;clear hy201
 by_cases c3 : y201.length + l0.length < 140737488355328
 ·rw [if_pos c3] at H;have LMc3:=am c3;clear c3;obtain ⟨y204,hy204⟩ : ∃ y_ : List Bool,y_ = (y201 ++ l0):=⟨_,rfl⟩
  replace H : (if y204.length < 140737488355328 then ((some (([] : List Bool) : List Bool)).bind fun y210 => ((impl_last.f (y204 ++ [a1]) 10).bind fun t213 => (if y210.length + t213.length < 140737488355328 then (some (y210 ++ t213)) else (none)))) else (none)) = some r:=by first | (rw [hy204];with_reducible exact H) | (have H2_:=(Option.bind_some _ _).symm.trans H;rw [hy204];with_reducible exact H2_) | (have H2_:=(Option.bind_some _ _).symm.trans H;with_reducible exact H2_) | with_reducible exact H | (rw [hy204];exact H) | exact H
  have Ny204:=am hy204;clear hy204
  by_cases c4 : y204.length < 140737488355328
  ·rw [if_pos c4] at H;have LMc4:=am c4;clear c4;obtain ⟨y207,hy207⟩ : ∃ y_ : List Bool,y_ = (y204 ++ [a1]):=⟨_,rfl⟩
   replace H : ((some (([] : List Bool) : List Bool)).bind fun y210 => ((impl_last.f y207 10).bind fun t213 => (if y210.length + t213.length < 140737488355328 then (some (y210 ++ t213)) else (none)))) = some r:=by first | (rw [hy207];with_reducible exact H) | (have H2_:=(Option.bind_some _ _).symm.trans H;rw [hy207];with_reducible exact H2_) | (have H2_:=(Option.bind_some _ _).symm.trans H;with_reducible exact H2_) | with_reducible exact H | (rw [hy207];exact H) | exact H
   have Ny207:=am hy207;clear hy207;obtain ⟨y210,hy210⟩ : ∃ y_ : List Bool,y_ = (([] : List Bool)):=⟨_,rfl⟩
   replace H : ((impl_last.f y207 10).bind fun t213 => (if y210.length + t213.length < 140737488355328 then (some (y210 ++ t213)) else (none))) = some r:=by first | (rw [hy210];with_reducible exact H) | (have H2_:=(Option.bind_some _ _).symm.trans H;rw [hy210];with_reducible exact H2_) | (have H2_:=(Option.bind_some _ _).symm.trans H;with_reducible exact H2_) | with_reducible exact H | (rw [hy210];exact H) | exact H
   have Ny210:=am hy210;clear hy210;replace H:=bS.mp H;obtain ⟨t213,A50,H⟩:=H;replace H : (if y210.length + t213.length < 140737488355328 then (some (y210 ++ t213)) else (none)) = some r:=H;have A5:=am A50;clear A50
   by_cases c6 : y210.length + t213.length < 140737488355328
   ·rw [if_pos c6] at H;have LMc6:=am c6;clear c6;obtain ⟨y216,hy216⟩ : ∃ y_ : List Bool,y_ = (y210 ++ t213):=⟨_,rfl⟩
    replace H : (some y216) = some r:=by first | (rw [hy216];with_reducible exact H) | (have H2_:=(Option.bind_some _ _).symm.trans H;rw [hy216];with_reducible exact H2_) | (have H2_:=(Option.bind_some _ _).symm.trans H;with_reducible exact H2_) | with_reducible exact H | (rw [hy216];exact H) | exact H
    have Ny216:=am hy216;clear hy216;obtain rfl:=Option.some.inj H
    go_enter Try.func82,Try.ntmps82
    go_wp2_with (first | ((with_reducible refine gate_dst (N:=6) rfl ?_);refine Kd.R_lit Kd.bool _ 4 ?hg (N:=6) ?hd (xs:=([] : List Bool)) (inner:=[]) (ok:=fun _ => True) (okp:=fun _ => True) ?hr ?hp (fun _ hk => hk) trivial (Below.refl _ _) (Nat.le_refl _) (by simp) ?_;(case hd => rfl);(case hg => rfl);(case hr => exact qq299);(case hp => exact qq306);intro v202 w7 ho8 hb hg_ hnew_;clear hg_ hnew_;(first | rw [← Ny201.out] at ho8 | (simp only [Int.reduceToNat] at ho8;rw [← Ny201.out] at ho8));have HO203:=am (Kd.R_lower ho8 (below_size qq189));replace HB:=am (below_step qq189 hb);clear hb ho8) | ((with_reducible refine gate_builtin (b:=.append) (xs:=#[.tmp 6,.tmp 7]) rfl ?_);at_builtin;refine Kd.R_append_rows Kd.bool (w0:=w) w.heap.size rfl (.tmp 6) (.tmp 7) 25 4 (.bool false) 1 rfl Try.underlying25 info4 rfl (by decide) (by omega) v202 y201 l0 _ _ _ (fun _ => True) (fun _ => False) rfl rfl ?aO ?aR (fun _ _ h => h) (fun _ h => h.elim) ?aF ?aB ?aS ?aL ?_;(case aR => exact qq143);(case aB => exact qq182);(case aF => exact qq304);(case aO => exact (by (with_reducible repeat (first | apply kA | apply kN | apply kD));exact HO203.out));(case aS => exact qq181);(case aL => have:=LMc3.out;omega);intro v205 w9 ho hb hg hat;rw [← Ny204.out] at ho;replace HB:=am (hb);have HO206:=am (ho);clear HO203;clear ho hb hg hat) | ((with_reducible refine gate_builtin (b:=.append) (xs:=#[.tmp 8,.tmp 10]) rfl ?_);at_builtin;refine Kd.R_append Kd.bool (w0:=w) w.heap.size rfl (.tmp 8) (.tmp 10) 25 4 (.bool false) 1 rfl Try.underlying25 info4 rfl (by decide) (by omega) v205 y204 a1 [.bool a1] (fun _ => True) (fun _ => False) rfl rfl ?aP (fun _ hk => hk.elim) ?aF ?aO ?aB ?aS ?aL ?_;(case aP => exact rfl);(case aB => exact qq182);(case aF => exact qq304);(case aO => exact (by (with_reducible repeat (first | apply kA | apply kN | apply kD));exact HO206.out));(case aS => exact qq181);(case aL => have:=LMc4.out;omega);intro v208 w10 ho hb hg hat;rw [← Ny207.out] at ho;replace HB:=am (hb);have HO209:=am (ho);clear HO206;clear ho hb hg hat) | ((with_reducible refine gate_dst (N:=12) rfl ?_);refine Kd.R_lit Kd.bool _ 4 ?hg (N:=12) ?hd (xs:=([] : List Bool)) (inner:=[]) (ok:=fun _ => True) (okp:=fun _ => True) ?hr ?hp (fun _ hk => hk) trivial (Below.refl _ _) (Nat.le_refl _) (by simp) ?_;(case hd => rfl);(case hg => rfl);(case hr => exact qq299);(case hp => exact qq306);intro v211 w11 ho12 hb hg_ hnew_;clear hg_ hnew_;(first | rw [← Ny210.out] at ho12 | (simp only [Int.reduceToNat] at ho12;rw [← Ny210.out] at ho12));have HO212:=am (Kd.R_lower (Kd.R_new' ho12 (Kd.R_lt qq283)) (below_size qq189));replace HO209:=am (Kd.R_elder' qq283 (Kd.R_base ho12) hb);replace HB:=am (below_step qq189 hb);clear hb ho12;obtain ⟨Ao13,co13,eo13⟩:=Kd.R_slice HO209.out;subst eo13) | ((with_reducible refine gate_callee (f:=123) rfl ?_);refine goesL_ (some 14) rfl rfl Try.func123 (by kernel_rfl) rfl #[.slice Ao13 y207.length co13,.int .i64 10] rfl qq177 ?_;(with_reducible refine (impl_last.calls (fun k_ => some k_ = (.slice Ao13 y207.length co13 : Value).ownBlock) _ _ y207 10 t213 _ ?side1 A5.out).mono ?_);(case side1 => exact Kd.R_V (Kd.R_tight rfl (HO209.out)));rintro e w14 ⟨v214,rfl,ho0,hb⟩;refine ⟨_,rfl,?_⟩;have HO215:=am (Kd.V_lower (Kd.V_mono (ok':=fun k_ => some k_ ≠ (v211 : Value).ownBlock) ho0 (fun k_ hk_ => Or.elim hk_ (fun hs_ => ((HO209.out).1 k_ hs_.symm).2) (fun hn_ => (Kd.fresh' (Kd.R_lt qq282) k_ hn_)))) (below_size qq189));replace HO209:=am (Kd.R_below qq283 hb);replace HO212:=am (Kd.R_below qq282 hb);replace HB:=am (below_step qq189 hb);(try clear hb);(try clear hb2);(try clear hk);(try clear hi);(try clear ho0);obtain ⟨Ao16,co16,eo16⟩:=Kd.V_slice HO215.out;subst eo16) | ((with_reducible refine gate_builtin (b:=.append) (xs:=#[.tmp 12,.tmp 14]) rfl ?_);at_builtin;refine Kd.R_append_rows Kd.bool (w0:=w) w.heap.size rfl (.tmp 12) (.tmp 14) 25 4 (.bool false) 1 rfl Try.underlying25 info4 rfl (by decide) (by omega) v211 y210 t213 _ _ _ (fun k_ => some k_ ≠ (.slice Ao13 y207.length co13 : Value).ownBlock) (fun _ => False) rfl rfl ?aO ?aR (fun _ _ h => h) (fun _ h => h.elim) ?aF ?aB ?aS ?aL ?_;(case aR => repeat (first | exact (Kd.V_reads' HO215.out).2.2 | (with_reducible refine cA ?_ _) | (with_reducible refine cN ?_ _) | (with_reducible refine cD ?_)));(case aB => exact qq182);(case aF => exact (fun k_ hk => Kd.fresh' (Kd.R_lt qq283) k_ hk));(case aO => exact (by (with_reducible repeat (first | apply kA | apply kN | apply kD));exact Kd.R_mono HO212.out (fun _ hk => hk.2)));(case aS => exact qq181);(case aL => have:=LMc6.out;omega);intro v217 w15 ho hb hg hat;rw [← Ny216.out] at ho;replace HO209:=am (Kd.R_after (ok:=(fun _ => True)) qq283 hg hat);replace HO215:=am (Kd.V_afterv (ok:=(fun _ => True)) (by (with_reducible repeat (first | apply Kd.V_alloc | apply Kd.V_drewN | apply Kd.V_drew));exact Kd.V_mono HO215.out (fun _ hk => ⟨trivial,hk⟩)) hg hat);replace HB:=am (hb);have HO218:=am (ho);clear HO212;clear ho hb hg hat))
    go_ret
    exact ⟨_,qq244,by (with_reducible repeat (first | apply kA | apply kN | apply kD));exact Kd.R_mono HO218.out (fun _ hk => trivial),qq189⟩
   ·rw [if_neg c6] at H;exact absurd H (by simp)
  ·rw [if_neg c4] at H;exact absurd H (by simp)
 ·rw [if_neg c3] at H;exact absurd H (by simp)

/-! ### impl_CountStorms: function 124 -/
def impl_CountStorms.l0 : Nat → Int → List Bool → Int → Int → Option (Int)
 | 0,_,_,_,_ => none
 | k + 1,x3,x6,x7,x8 => if x8 < x7 then (if 0 ≤ x8 then (if x8 < (x6.length : Int) then (if rdOf false x6 x8 = true then (impl_CountStorms.l0 k (wrap64 (x3 + 1)) x6 x7 (wrap64 (x8 + 1))) else (impl_CountStorms.l0 k x3 x6 x7 (wrap64 (x8 + 1)))) else (none)) else (none)) else (some x3)
def impl_CountStorms.f (k : Nat) (l0 : List Bool) : Option (Int) := impl_CountStorms.l0 k 0 l0 (l0.length : Int) 0
set_option maxHeartbeats 8000000 in
set_option maxRecDepth 100000 in
theorem impl_CountStorms.calls (k : Nat) (A0 : Option Addr) (c0 : Nat) (l0 : List Bool) (r : Int) (w : World) (hr0 : Kd.C Kd.bool w A0 l0.length l0) (hc0 : l0.length ≤ c0) (h : impl_CountStorms.f k l0 = some r) :
  Calls Try.prog 124 #[.slice A0 l0.length c0] w fun e w' => e = .returned (.int .i64 r) ∧ Drawn0 w w':=by
 have HR0:=am hr0;have HC0:=am hc0;clear hr0 hc0;have H : (impl_CountStorms.l0 k 0 l0 (l0.length : Int) 0) = some r:=h;clear h;have H':=am H;clear H
 go_enter Try.func124,Try.ntmps124
 go_wp2
 go_loopg [3,8] k (fun kq v3 v8 w' => ∃ (x3_1 : Int) (x8_1 : Int),v3 = .int .i64 x3_1 ∧ v8 = .int .i64 x8_1 ∧ Aside0 (impl_CountStorms.l0 kq x3_1 l0 (l0.length : Int) x8_1 = some r) ∧ Aside0 (kq ≤ k) ∧ Drawn0 w w')
 case atStart => exact ⟨(0),(0),qq298,qq298,H',⟨Nat.le_refl _⟩,qq294⟩
 case round =>
  clear H'
  try clear c1
  obtain ⟨x3_1,x8_1,rfl,rfl,HA,HK1,⟨m1,rfl⟩⟩:=hrel
  cases gk with
  | zero => exact absurd HA.out (by simp [impl_CountStorms.l0])
  | succ k1 =>
   have H:=HA.out;clear HA;simp only [impl_CountStorms.l0] at H
   by_cases c2 : x8_1 < (l0.length : Int)
   ·rw [if_pos c2] at H;have c2b0 : decide (x8_1 < (l0.length : Int)) = true:=decide_eq_true c2;clear c2
    by_cases c3 : 0 ≤ x8_1
    ·rw [if_pos c3] at H;have c3b0 : decide (0 ≤ x8_1) = true:=decide_eq_true c3;clear c3
     by_cases c4 : x8_1 < (l0.length : Int)
     ·rw [if_pos c4] at H;have c4b0 : decide (x8_1 < (l0.length : Int)) = true:=decide_eq_true c4;clear c4;obtain ⟨bq5,hbq5⟩ : ∃ b_ : Bool,b_ = (rdOf false l0 x8_1):=⟨_,rfl⟩
      replace H : (if bq5 = true then (impl_CountStorms.l0 k1 (wrap64 (x3_1 + 1)) l0 (l0.length : Int) (wrap64 (x8_1 + 1))) else (impl_CountStorms.l0 k1 x3_1 l0 (l0.length : Int) (wrap64 (x8_1 + 1)))) = some r:=by rw [← hbq5] at H;exact H
      have Nbq5:=am hbq5;clear hbq5
      by_cases c6 : bq5 = true
      ·subst c6;have H1 : (impl_CountStorms.l0 k1 (wrap64 (x3_1 + 1)) l0 (l0.length : Int) (wrap64 (x8_1 + 1))) = some r:=by rw [if_pos rfl] at H;exact H
       clear H;have H:=H1;clear H1;have H':=am H;clear H;have p219 : 0 ≤ (x8_1 : Int):=odt qq296;have q219 : x8_1 < (l0.length : Int):=odt qq296;obtain ⟨ad219,e219,hx219_0⟩:=Kd.at_bool HR0.out x8_1 p219 q219;(try rw [← Nbq5.out] at hx219_0)
       cases e219
       replace p219:=eq_true p219;replace q219:=eq_true q219;go_wp2
       go_roundg k1
       case measure => have:=HK1.out;omega
       case rel => exact ⟨(wrap64 (x3_1 + 1)),(wrap64 (x8_1 + 1)),qq298,qq298,H',⟨qq307⟩,qq294⟩
      ·replace c6:=Bool.eq_false_iff.mpr c6;subst c6;have H1 : (impl_CountStorms.l0 k1 x3_1 l0 (l0.length : Int) (wrap64 (x8_1 + 1))) = some r:=by rw [if_neg (show ¬ (false = true) by decide)] at H;exact H
       clear H;have H:=H1;clear H1;have H':=am H;clear H;have p219 : 0 ≤ (x8_1 : Int):=odt qq296;have q219 : x8_1 < (l0.length : Int):=odt qq296;obtain ⟨ad219,e219,hx219_0⟩:=Kd.at_bool HR0.out x8_1 p219 q219;(try rw [← Nbq5.out] at hx219_0)
       cases e219
       replace p219:=eq_true p219;replace q219:=eq_true q219;go_wp2
       go_roundg k1
       case measure => have:=HK1.out;omega
       case rel => exact ⟨(x3_1),(wrap64 (x8_1 + 1)),qq298,qq298,H',⟨qq307⟩,qq294⟩
     ·rw [if_neg c4] at H;exact absurd H (by simp)
    ·rw [if_neg c3] at H;exact absurd H (by simp)
   ·rw [if_neg c2] at H;have c2b0 : decide (x8_1 < (l0.length : Int)) = false:=decide_eq_false c2;clear c2;obtain rfl:=Option.some.inj H;go_wp2
    go_ret
    exact ⟨qq298,qq294⟩

end Go.Proofs.Ytcbkknpmeknppaa.PFnWeathers
