/- Contracts of functions that the law FnExactPutUp reaches, for its row: lines that the kit's printer wrote for this claim, set shorter by a program of this session (own.py), and what fell in Lean proved anew. Lean checks them. -/
import Derived.Test.YtnghncedinngoaaSFnExactPutUpx0
namespace Go.Proofs.Ytnghncedinngoaa.PFnExactPutUp
open Go.RowKit Go.Proofs.YtnghncedinngoaaW.PrintWords Go.Proofs.YtnghncedinngoaaW.PrintLast Go.Proofs.YtnghncedinngoaaW.PrintMore
attribute [local go_sem] max2_int min2_int max_two min_two max_three min_three max_four min_four   -- for this text's walks alone
set_option linter.unusedVariables false
set_option linter.unusedSimpArgs false

/-! ### spec_l23Copy: function 26 -/
def spec_l23Copy.l0 : Nat → List (S45) → List (S45) → Int → Option ((List (S45)))
 | 0,_,_,_ => none
 | k + 1,x0,x3,x4 => if x4 < (x0.length : Int) then (if 0 ≤ x4 then ((some (([] : List Int) : List Int)).bind fun y145 => (if y145.length + ((rd_T45 x0 x4).f2).length < 17592186044416 then (if x3.length < 3518437208883 then (spec_l23Copy.l0 k x0 (x3 ++ [(⟨(rd_T45 x0 x4).f0,(rd_T45 x0 x4).f1,(y145 ++ ((rd_T45 x0 x4).f2))⟩ : S45)]) (wrap64 (x4 + 1))) else (none)) else (none))) else (none)) else (some x3)
def spec_l23Copy.f (k : Nat) (l0 : List (S45)) : Option ((List (S45))) := spec_l23Copy.l0 k l0 (([] : List (S45))) 0
theorem spec_l23Copy.mono_l : ∀ k, (∀ y0 y1 y2, LeO (spec_l23Copy.l0 k y0 y1 y2) (spec_l23Copy.l0 (k + 1) y0 y1 y2))
 | 0 => fun _ _ _ r h => by simp [spec_l23Copy.l0] at h
 | k + 1 => by
  have ih0:=spec_l23Copy.mono_l k
  ·intro y0 y1 y2
   unfold spec_l23Copy.l0
   repeat' first
   | (with_reducible exact ih0 _ _ _)
   | (with_reducible exact LeO.refl _)
   | (with_reducible exact LeO.none _)
   | (with_reducible refine LeO.ite ?_ ?_)
   | (with_reducible refine LeO.bind ?_ (fun _ => ?_))
   | exact ih0 _ _ _
   | exact LeO.none _
   | refine LeO.ite ?_ ?_
   | refine LeO.bind ?_ (fun _ => ?_)
theorem spec_l23Copy.mono : ∀ a0 k, LeO (spec_l23Copy.f k a0) (spec_l23Copy.f (k + 1) a0) := by
 intro a0 k
 have ih0:=spec_l23Copy.mono_l k
 unfold spec_l23Copy.f
 repeat' first
   | (with_reducible exact ih0 _ _ _)
   | (with_reducible exact LeO.refl _)
   | (with_reducible exact LeO.none _)
   | (with_reducible refine LeO.ite ?_ ?_)
   | (with_reducible refine LeO.bind ?_ (fun _ => ?_))
   | exact ih0 _ _ _
   | exact LeO.none _
   | refine LeO.ite ?_ ?_
   | refine LeO.bind ?_ (fun _ => ?_)
def spec_l23Copy.T5 : Bool × List (List Nat × List Nat) := (true, [([], []), ([], []), ([], []), ([1, 2], [1, 2]), ([3], [3]), ([4], [4]), ([], []), ([], []), ([6, 7], [6, 7]), ([8], [8]), ([9], [9]), ([], []), ([], []), ([], []), ([12, 13], [12, 13]), ([14], [14]), ([15], [15]), ([11, 16], [11, 16]), ([5, 10, 17], [5, 10, 17]), ([18], [18]), ([0, 19, 17], [0, 19]), ([20, 20, 0, 1, 2, 3, 4, 5, 6, 7, 8, 9, 10, 11, 12, 13, 14, 15, 16, 17, 18, 19, 20], [0, 20])])
def spec_l23Copy.B5 : List Nat := [0, 0, 0, 6, 14, 30, 0, 0, 192, 448, 960, 0, 0, 0, 12288, 28672, 61440, 129024, 262142, 524286, 1048575, 2097151]
theorem spec_l23Copy.tab5 : rtab .any (opsOf Try.f26 5) = spec_l23Copy.T5 := by kernel_rfl
theorem spec_l23Copy.bits5 : waitsOk spec_l23Copy.T5.2 spec_l23Copy.B5 = true := by kernel_rfl
set_option maxHeartbeats 8000000 in
set_option maxRecDepth 100000 in
theorem spec_l23Copy.calls (k : Nat) (A0 : Option Addr) (c0 : Nat) (l0 : List (S45)) (r : List (S45)) (w : World) (hr0 : Kd.C k45 w A0 l0.length l0) (hc0 : l0.length ≤ c0) (h : spec_l23Copy.f k l0 = some r) :
  Calls Try.prog 26 #[.slice A0 l0.length c0] w fun e w' => ∃ v0_ : Value,e = .returned (v0_) ∧ Kd.S k45 45 w' w.heap.size (fun _ => True) v0_ r ∧ Below w.heap.size w w':=by
 have hu45:=Try.underlying45;have HR0:=am hr0;have HC0:=am hc0;clear hr0 hc0;have HB:=am qq130;have H : (spec_l23Copy.l0 k l0 (([] : List (S45))) 0) = some r:=h;clear h;obtain ⟨y140,hy140⟩ : ∃ y_ : List (S45),y_ = (([] : List (S45))):=⟨_,rfl⟩
 replace H : (spec_l23Copy.l0 k l0 y140 0) = some r:=by first | (rw [hy140];with_reducible exact H) | (have H2_:=(Option.bind_some _ _).symm.trans H;rw [hy140];with_reducible exact H2_) | (have H2_:=(Option.bind_some _ _).symm.trans H;with_reducible exact H2_) | with_reducible exact H | (rw [hy140];exact H) | exact H
 have Ny140:=am hy140;clear hy140;have H':=am H;clear H
 go_enter Try.func26,Try.ntmps26
 go_wp2_with (first | ((with_reducible refine gate_dst (N:=5) rfl ?_);refine Kd.S_lit k45 _ 45 ?hg (N:=5) ?hd (xs:=([] : List (S45))) (inner:=[]) (ok:=fun _ => True) (okp:=fun _ => True) ?hr ?hp (fun _ hk => hk) trivial (Below.refl _ _) (Nat.le_refl _) (by simp) ?_;(case hd => rfl);(case hg => rfl);(case hr => exact qq103);(case hp => exact qq107);intro v141 w2 ho3 hb hg_ hnew_;clear hg_ hnew_;(first | rw [← Ny140.out] at ho3 | (simp only [Int.reduceToNat] at ho3;rw [← Ny140.out] at ho3));have HO142:=am (Kd.S_lower ho3 (below_size qq71));replace HB:=am qq133;clear hb ho3))
 go_loopg [3,4] k (fun kq v3 v4 w' => ∃ (x3_1 : List (S45)) (x4_1 : Int),v4 = .int .i64 x4_1 ∧ Aside0 (spec_l23Copy.l0 kq l0 x3_1 x4_1 = some r) ∧ Aside0 (kq ≤ k) ∧ Aside0 (Kd.S k45 45 w' w.heap.size (fun _ => True) v3 x3_1) ∧ Aside0 (Below w.heap.size w w'))
 case atStart => exact ⟨(y140),(0),qq101,H',⟨Nat.le_refl _⟩,⟨by (with_reducible repeat (first | apply Kd.S_alloc | apply Kd.S_drewN | apply Kd.S_drew));exact HO142.out⟩,⟨qq71⟩⟩
 case round =>
  clear H'
  try clear c2
  try clear p2
  obtain ⟨x3_1,x4_1,rfl,HA,HK1,HO_3,HB⟩:=hrel
  cases gk with
  | zero => exact absurd HA.out (by simp [spec_l23Copy.l0])
  | succ k1 =>
   have H:=HA.out;clear HA;simp only [spec_l23Copy.l0] at H
   by_cases c4 : x4_1 < (l0.length : Int)
   ·rw [if_pos c4] at H;have c4b0 : decide (x4_1 < (l0.length : Int)) = true:=decide_eq_true c4;clear c4
    by_cases c5 : 0 ≤ x4_1
    ·rw [if_pos c5] at H;have c5b0 : decide (0 ≤ x4_1) = true:=decide_eq_true c5;clear c5;obtain ⟨y145,hy145⟩ : ∃ y_ : List Int,y_ = (([] : List Int)):=⟨_,rfl⟩
     replace H : (if y145.length + ((rd_T45 l0 x4_1).f2).length < 17592186044416 then (if x3_1.length < 3518437208883 then (spec_l23Copy.l0 k1 l0 (x3_1 ++ [(⟨(rd_T45 l0 x4_1).f0,(rd_T45 l0 x4_1).f1,(y145 ++ ((rd_T45 l0 x4_1).f2))⟩ : S45)]) (wrap64 (x4_1 + 1))) else (none)) else (none)) = some r:=by first | (rw [hy145];with_reducible exact H) | (have H2_:=(Option.bind_some _ _).symm.trans H;rw [hy145];with_reducible exact H2_) | (have H2_:=(Option.bind_some _ _).symm.trans H;with_reducible exact H2_) | with_reducible exact H | (rw [hy145];exact H) | exact H
     have Ny145:=am hy145;clear hy145
     by_cases c6 : y145.length + ((rd_T45 l0 x4_1).f2).length < 17592186044416
     ·rw [if_pos c6] at H;have LMc6:=am c6;clear c6;obtain ⟨y149,hy149⟩ : ∃ y_ : List Int,y_ = (y145 ++ ((rd_T45 l0 x4_1).f2)):=⟨_,rfl⟩
      replace H : (if x3_1.length < 3518437208883 then (spec_l23Copy.l0 k1 l0 (x3_1 ++ [(⟨(rd_T45 l0 x4_1).f0,(rd_T45 l0 x4_1).f1,y149⟩ : S45)]) (wrap64 (x4_1 + 1))) else (none)) = some r:=by first | (rw [hy149];with_reducible exact H) | (have H2_:=(Option.bind_some _ _).symm.trans H;rw [hy149];with_reducible exact H2_) | (have H2_:=(Option.bind_some _ _).symm.trans H;with_reducible exact H2_) | with_reducible exact H | (rw [hy149];exact H) | exact H
      have Ny149:=am hy149;clear hy149
      by_cases c7 : x3_1.length < 3518437208883
      ·rw [if_pos c7] at H;have LMc7:=am c7;clear c7;obtain ⟨y152,hy152⟩ : ∃ y_ : List (S45),y_ = (x3_1 ++ [(⟨(rd_T45 l0 x4_1).f0,(rd_T45 l0 x4_1).f1,y149⟩ : S45)]):=⟨_,rfl⟩
       replace H : (spec_l23Copy.l0 k1 l0 y152 (wrap64 (x4_1 + 1))) = some r:=by first | (rw [hy152];with_reducible exact H) | (have H2_:=(Option.bind_some _ _).symm.trans H;rw [hy152];with_reducible exact H2_) | (have H2_:=(Option.bind_some _ _).symm.trans H;with_reducible exact H2_) | with_reducible exact H | (rw [hy152];exact H) | exact H
       have Ny152:=am hy152;clear hy152;have H':=am H;clear H
       try go_wp2
       replace HO_3:=am (Kd.S_drew HO_3.out);replace HB:=am qq134;have p143 : 0 ≤ (x4_1 : Int):=odt qq100;have q143 : x4_1 < (l0.length : Int):=odt qq100;obtain ⟨ad143,A143_2,c143_2,e143,hx143_0,hx143_1,hx143_2,hl143_2,hi143_2⟩:=at_T45 HR0.out x4_1 p143 q143;have hw143_2:=hx143_2;have hw143_1:=hx143_1;have hw143_0:=hx143_0
       cases e143
       replace hx143_0:=(ct HB.out hx143_0 :)
       replace hx143_1:=(ct HB.out hx143_1 :)
       replace hx143_2:=(ct HB.out hx143_2 :)
       have HR143_2:=am hi143_2;have HC143_2:=am hl143_2;clear hi143_2 hl143_2;replace p143:=eq_true p143;replace q143:=eq_true q143;have p144 : 0 ≤ (x4_1 : Int):=odt qq100;have q144 : x4_1 < (l0.length : Int):=odt qq100;obtain ⟨ad144,A144_2,c144_2,e144,hx144_0,hx144_1,hx144_2,hl144_2,hi144_2⟩:=at_T45 HR0.out x4_1 p144 q144;have hw144_2:=hx144_2;have hw144_1:=hx144_1;have hw144_0:=hx144_0;obtain rfl : ad143 = ad144:=(by injection e144)
       replace hx144_0:=(ct HB.out hx144_0 :)
       replace hx144_1:=(ct HB.out hx144_1 :)
       replace hx144_2:=(ct HB.out hx144_2 :)
       have HR144_2:=am hi144_2;have HC144_2:=am hl144_2;clear hi144_2 hl144_2;replace p144:=eq_true p144;replace q144:=eq_true q144;have ea_:=Option.some.inj (hx143_2.symm.trans hx144_2)
       injection ea_ with ea_ en_ ec_
       subst ea_;subst ec_;clear en_;have p148 : 0 ≤ (x4_1 : Int):=odt qq100;have q148 : x4_1 < (l0.length : Int):=odt qq100;obtain ⟨ad148,A148_2,c148_2,e148,hx148_0,hx148_1,hx148_2,hl148_2,hi148_2⟩:=at_T45 HR0.out x4_1 p148 q148;have hw148_2:=hx148_2;have hw148_1:=hx148_1;have hw148_0:=hx148_0;obtain rfl : ad143 = ad148:=(by injection e148)
       replace hx148_0:=(ct HB.out hx148_0 :)
       replace hx148_1:=(ct HB.out hx148_1 :)
       replace hx148_2:=(ct HB.out hx148_2 :)
       have HR148_2:=am hi148_2;have HC148_2:=am hl148_2;clear hi148_2 hl148_2;replace p148:=eq_true p148;replace q148:=eq_true q148;have ea_:=Option.some.inj (hx143_2.symm.trans hx148_2)
       injection ea_ with ea_ en_ ec_
       subst ea_;subst ec_;clear en_;refine start_ (n:=22) (S:=fun w' => w'.cell? (ad143.add ((x4_1).toNat * 3)) = some (.int .i64 ((rd_T45 l0 x4_1).f0)) ∧ w'.cell? ⟨(ad143.add ((x4_1).toNat * 3)).block,(ad143.add ((x4_1).toNat * 3)).off + 1,none⟩ = some (.int .i64 ((rd_T45 l0 x4_1).f1)) ∧ w'.cell? ⟨(ad143.add ((x4_1).toNat * 3)).block,(ad143.add ((x4_1).toNat * 3)).off + 2,none⟩ = some (.slice A143_2 ((rd_T45 l0 x4_1).f2).length c143_2) ∧ w'.cell? (ad143.add ((x4_1).toNat * 3)) = some (.int .i64 ((rd_T45 l0 x4_1).f0)) ∧ w'.cell? ⟨(ad143.add ((x4_1).toNat * 3)).block,(ad143.add ((x4_1).toNat * 3)).off + 1,none⟩ = some (.int .i64 ((rd_T45 l0 x4_1).f1)) ∧ w'.cell? ⟨(ad143.add ((x4_1).toNat * 3)).block,(ad143.add ((x4_1).toNat * 3)).off + 2,none⟩ = some (.slice A143_2 ((rd_T45 l0 x4_1).f2).length c143_2) ∧ w'.cell? (ad143.add ((x4_1).toNat * 3)) = some (.int .i64 ((rd_T45 l0 x4_1).f0)) ∧ w'.cell? ⟨(ad143.add ((x4_1).toNat * 3)).block,(ad143.add ((x4_1).toNat * 3)).off + 1,none⟩ = some (.int .i64 ((rd_T45 l0 x4_1).f1)) ∧ w'.cell? ⟨(ad143.add ((x4_1).toNat * 3)).block,(ad143.add ((x4_1).toNat * 3)).off + 2,none⟩ = some (.slice A143_2 ((rd_T45 l0 x4_1).f2).length c143_2)) (ds:=[]) #[Z,Z,Z,Z,Z,Z,Z,Z,Z,Z,Z,Z,Z,Z,Z,Z,Z,Z,Z,Z,Z,Z] (by kernel_rfl) rfl rfl ⟨(ct HB.out hw143_0 :),(ct HB.out hw143_1 :),(ct HB.out hw143_2 :),(ct HB.out hw144_0 :),(ct HB.out hw144_1 :),(ct HB.out hw144_2 :),(ct HB.out hw148_0 :),(ct HB.out hw148_1 :),(ct HB.out hw148_2 :)⟩ (fun hHeld => ?_);refine with_tabW spec_l23Copy.tab5 spec_l23Copy.bits5 (fun HT_ HW_ => ?_)
       generalize wr.drew = w8 at HO_3 HB HR143_2 HR144_2 HR148_2 hx143_0 hx143_1 hx143_2 hx144_0 hx144_1 hx144_2 hx148_0 hx148_1 hx148_2 hHeld ⊢
       refine pV (i:=0) (N:=some 12) #[Y,Z,Z,Z,Z,Z,Z,Z,Z,Z,Z,Z,Z,Z,Z,Z,Z,Z,Z,Z,Z,Z] rfl rfl qT ?_
       refine pV (i:=1) (N:=some 13) #[Y,Y,Z,Z,Z,Z,Z,Z,Z,Z,Z,Z,Z,Z,Z,Z,Z,Z,Z,Z,Z,Z] rfl rfl qT ?_
       refine pV (i:=2) (N:=some 14) #[Y,Y,Y,Z,Z,Z,Z,Z,Z,Z,Z,Z,Z,Z,Z,Z,Z,Z,Z,Z,Z,Z] rfl rfl qT ?_
       refine pV (i:=3) (N:=some 15) #[Y,Y,Y,Y,Z,Z,Z,Z,Z,Z,Z,Z,Z,Z,Z,Z,Z,Z,Z,Z,Z,Z] rfl rfl qT ?_
       refine pV (i:=4) (N:=some 16) #[Y,Y,Y,Y,Y,Z,Z,Z,Z,Z,Z,Z,Z,Z,Z,Z,Z,Z,Z,Z,Z,Z] rfl rfl qT ?_
       refine pV (i:=6) (N:=some 18) #[Y,Y,Y,Y,Y,Z,Y,Z,Z,Z,Z,Z,Z,Z,Z,Z,Z,Z,Z,Z,Z,Z] rfl rfl qT ?_
       refine pV (i:=7) (N:=some 19) #[Y,Y,Y,Y,Y,Z,Y,Y,Z,Z,Z,Z,Z,Z,Z,Z,Z,Z,Z,Z,Z,Z] rfl rfl qT ?_
       refine pV (i:=8) (N:=some 20) #[Y,Y,Y,Y,Y,Z,Y,Y,Y,Z,Z,Z,Z,Z,Z,Z,Z,Z,Z,Z,Z,Z] rfl rfl qT ?_
       refine pV (i:=9) (N:=some 21) #[Y,Y,Y,Y,Y,Z,Y,Y,Y,Y,Z,Z,Z,Z,Z,Z,Z,Z,Z,Z,Z,Z] rfl rfl qT ?_
       refine pV (i:=12) (N:=some 24) #[Y,Y,Y,Y,Y,Z,Y,Y,Y,Y,Z,Z,Y,Z,Z,Z,Z,Z,Z,Z,Z,Z] rfl rfl qT ?_
       refine pV (i:=13) (N:=some 25) #[Y,Y,Y,Y,Y,Z,Y,Y,Y,Y,Z,Z,Y,Y,Z,Z,Z,Z,Z,Z,Z,Z] rfl rfl qT ?_
       refine pV (i:=14) (N:=some 26) #[Y,Y,Y,Y,Y,Z,Y,Y,Y,Y,Z,Z,Y,Y,Y,Z,Z,Z,Z,Z,Z,Z] rfl rfl qT ?_
       refine pV (i:=15) (N:=some 27) #[Y,Y,Y,Y,Y,Z,Y,Y,Y,Y,Z,Z,Y,Y,Y,Y,Z,Z,Z,Z,Z,Z] rfl rfl qT ?_
       refine take_ (i:=5) (N:=some 17) (v:=?_) (a':=?_) #[Y,Y,Y,Y,Y,Y,Y,Y,Y,Y,Z,Z,Y,Y,Y,Y,Z,Z,Z,Z,Z,Z] rfl rfl (take_ofW HT_.out HW_.out (by kernel_rfl)) (fun _ _ _ h => h) (Or.inl ⟨by rfl,?_⟩) hHeld ?_ ?_;rotate_left
       ·rintro w' ⟨s0,s1,s2,s3,s4,s5,s6,s7,s8⟩
        go_simp;with_reducible rfl
       rotate_left
       ·simp only [Act.put,sA,s0,s1,i64_w,i32_w];rfl
       refine take_ (i:=10) (N:=some 22) (v:=?_) (a':=?_) #[Y,Y,Y,Y,Y,Y,Y,Y,Y,Y,Y,Z,Y,Y,Y,Y,Z,Z,Z,Z,Z,Z] rfl rfl (take_ofW HT_.out HW_.out (by kernel_rfl)) (fun _ _ _ h => h) (Or.inl ⟨by rfl,?_⟩) hHeld ?_ ?_;rotate_left
       ·rintro w' ⟨s0,s1,s2,s3,s4,s5,s6,s7,s8⟩
        go_simp;with_reducible rfl
       rotate_left
       ·simp only [Act.put,sA,s0,s1,i64_w,i32_w];rfl
       refine take_ (i:=16) (N:=some 28) (v:=?_) (a':=?_) #[Y,Y,Y,Y,Y,Y,Y,Y,Y,Y,Y,Z,Y,Y,Y,Y,Y,Z,Z,Z,Z,Z] rfl rfl (take_ofW HT_.out HW_.out (by kernel_rfl)) (fun _ _ _ h => h) (Or.inl ⟨by rfl,?_⟩) hHeld ?_ ?_;rotate_left
       ·rintro w' ⟨s0,s1,s2,s3,s4,s5,s6,s7,s8⟩
        go_simp;with_reducible rfl
       rotate_left
       ·simp only [Act.put,sA,s0,s1,i64_w,i32_w];rfl
       refine one_ (i:=11) (N:=some 23) #[Y,Y,Y,Y,Y,Y,Y,Y,Y,Y,Y,Y,Y,Y,Y,Y,Y,Z,Z,Z,Z,Z] rfl rfl (one_of HT_.out (by kernel_rfl)) (by decide) (fun K hK => ?_);refine Kd.R_lit_step (Kd.int .i64) _ 3 ?hg (N:=23) ?hd (xs:=([] : List Int)) (inner:=[]) (ok:=fun _ => True) (okp:=fun _ => True) ?hr ?hp (fun _ hk => hk) trivial (Below.refl _ _) (Nat.le_refl _) (by simp) ?_;(case hd => rfl);(case hg => rfl);(case hr => exact qq103);(case hp => exact qq107);intro v146 w9 ho10 hb hg_ hnew_;clear hg_ hnew_;(first | rw [← Ny145.out] at ho10 | (simp only [Int.reduceToNat] at ho10;rw [← Ny145.out] at ho10));replace HO_3:=am (Kd.S_elder' qq73 (Kd.R_base ho10) hb);have HO147:=am (Kd.R_lower ho10 (below_size qq71));replace HB:=am qq133;clear hb ho10;refine hK.out _ _ ⟨(ct HB.out hw143_0 :),(ct HB.out hw143_1 :),(ct HB.out hw143_2 :),(ct HB.out hw144_0 :),(ct HB.out hw144_1 :),(ct HB.out hw144_2 :),(ct HB.out hw148_0 :),(ct HB.out hw148_1 :),(ct HB.out hw148_2 :)⟩ (fun hHeld => ?_);clear hK K;refine norm_ (a':=?_) ?_ ?_;rotate_left
       ·show Act.put _ (some 23) _ = _
        simp only [Act.put,sA,s0,s1,i64_w,i32_w];rfl
       refine one_ (i:=17) (N:=some 29) #[Y,Y,Y,Y,Y,Y,Y,Y,Y,Y,Y,Y,Y,Y,Y,Y,Y,Y,Z,Z,Z,Z] rfl rfl (one_of HT_.out (by kernel_rfl)) (by decide) (fun K hK => ?_);refine Kd.R_append_rows_step (Kd.int .i64) (w0:=w) w.heap.size (by rfl) (.tmp 23) (.tmp 28) 43 3 (.int .i64 0) 8 rfl Try.underlying43 info3 rfl (by decide) (by omega) v146 y145 ((rd_T45 l0 x4_1).f2) _ _ _ (fun _ => True) (fun _ => False) rfl rfl ?aO ?aR (fun _ _ h => h) (fun _ h => h.elim) ?aF ?aB ?aS ?aL ?_;(case aR => repeat (first | exact (Kd.C_below HR148_2.out HB.out) | (with_reducible refine cA ?_ _) | (with_reducible refine cN ?_ _) | (with_reducible refine cD ?_)));(case aB => exact qq69);(case aF => exact qq106);(case aO => exact (by (with_reducible repeat (first | apply kA | apply kN | apply kD));exact HO147.out));(case aS => exact qq66);(case aL => have:=LMc6.out;omega);intro v150 w11 ho hb hg hat;rw [← Ny149.out] at ho;replace HO_3:=am (Kd.S_after (ok:=(fun _ => True)) qq73 hg hat);replace HB:=am (hb);have HO151:=am (ho);clear HO147;clear ho hb hg hat;obtain ⟨Ao12,co12,eo12⟩:=Kd.R_slice HO151.out;(first | subst eo12 | (injection eo12 with f1_ f2_ f3_;have f4_:=f1_.symm;have f5_:=f3_.symm;clear f1_ f2_ f3_;subst f4_;subst f5_));refine hK.out _ _ ⟨(ct HB.out hw143_0 :),(ct HB.out hw143_1 :),(ct HB.out hw143_2 :),(ct HB.out hw144_0 :),(ct HB.out hw144_1 :),(ct HB.out hw144_2 :),(ct HB.out hw148_0 :),(ct HB.out hw148_1 :),(ct HB.out hw148_2 :)⟩ (fun hHeld => ?_);clear hK K;refine norm_ (a':=?_) ?_ ?_;rotate_left
       ·show Act.put _ (some 29) _ = _
        simp only [Act.put,sA,s0,s1,i64_w,i32_w];rfl
       refine pV (i:=18) (N:=some 30) #[Y,Y,Y,Y,Y,Y,Y,Y,Y,Y,Y,Y,Y,Y,Y,Y,Y,Y,Y,Z,Z,Z] rfl rfl qT ?_
       refine one_ (i:=19) (N:=some 31) #[Y,Y,Y,Y,Y,Y,Y,Y,Y,Y,Y,Y,Y,Y,Y,Y,Y,Y,Y,Y,Z,Z] rfl rfl (one_of HT_.out (by kernel_rfl)) (by decide) (fun K hK => ?_);refine value_ (w1:=?_) (v:=?_) (by rfl) rfl ?_ ?_;rotate_left 2
       ·go_simp
        constructor
        ·rfl
        ·rfl
       refine hK.out _ _ ⟨(World.cell?_alloc_lt _ _ _ (bl _ _ ((ct HB.out hw143_0 :)))).trans ((ct HB.out hw143_0 :)),(World.cell?_alloc_lt _ _ _ (bl _ _ ((ct HB.out hw143_1 :)))).trans ((ct HB.out hw143_1 :)),(World.cell?_alloc_lt _ _ _ (bl _ _ ((ct HB.out hw143_2 :)))).trans ((ct HB.out hw143_2 :)),(World.cell?_alloc_lt _ _ _ (bl _ _ ((ct HB.out hw144_0 :)))).trans ((ct HB.out hw144_0 :)),(World.cell?_alloc_lt _ _ _ (bl _ _ ((ct HB.out hw144_1 :)))).trans ((ct HB.out hw144_1 :)),(World.cell?_alloc_lt _ _ _ (bl _ _ ((ct HB.out hw144_2 :)))).trans ((ct HB.out hw144_2 :)),(World.cell?_alloc_lt _ _ _ (bl _ _ ((ct HB.out hw148_0 :)))).trans ((ct HB.out hw148_0 :)),(World.cell?_alloc_lt _ _ _ (bl _ _ ((ct HB.out hw148_1 :)))).trans ((ct HB.out hw148_1 :)),(World.cell?_alloc_lt _ _ _ (bl _ _ ((ct HB.out hw148_2 :)))).trans ((ct HB.out hw148_2 :))⟩ (fun hHeld => ?_);clear hK K;refine norm_ (a':=?_) ?_ ?_;rotate_left
       ·show Act.put _ (some 31) _ = _
        simp only [Act.put,sA,s0,s1,i64_w,i32_w];rfl
       refine one_ (i:=20) (N:=some 32) #[Y,Y,Y,Y,Y,Y,Y,Y,Y,Y,Y,Y,Y,Y,Y,Y,Y,Y,Y,Y,Y,Z] rfl rfl (one_of HT_.out (by kernel_rfl)) (by decide) (fun K hK => ?_);refine Kd.S_append_step k45 (w0:=w) w.heap.size (by rfl) (.tmp 12) (.tmp 31) 24 45 (.agg #[(.int .i64 0),(.int .i64 0),(.slice none 0 0)]) 40 rfl Try.underlying24 info45 rfl (by decide) (by omega) u3 x3_1 (⟨(rd_T45 l0 x4_1).f0,(rd_T45 l0 x4_1).f1,y149⟩ : S45) [.int .i64 ((rd_T45 l0 x4_1).f0),.int .i64 ((rd_T45 l0 x4_1).f1),.slice Ao12 y149.length co12] (fun _ => True) (fun k_ => some k_ = (.slice Ao12 y149.length co12 : Value).ownBlock) rfl rfl ?aP (fun k_ hk_ => ((Kd.R_mono (ok':=fun k_ => ((fun _ => True)) k_ ∧ some k_ ≠ (u3 : Value).ownBlock) (Kd.R_apart' (HO151.out) (Kd.S_typed HO_3.out) (by decide)) (fun k_ hk => ⟨trivial,hk.2⟩))).1 k_ hk_.symm) ?aF ?aO ?aB ?aS ?aL ?_;(case aP => exact k45_mkM _ _ _ (⟨(rd_T45 l0 x4_1).f0,(rd_T45 l0 x4_1).f1,y149⟩ : S45) (Kd.R_mono (Kd.R_tight rfl (Kd.R_mono (ok':=fun k_ => ((fun _ => True)) k_ ∧ some k_ ≠ (u3 : Value).ownBlock) (Kd.R_apart' (HO151.out) (Kd.S_typed HO_3.out) (by decide)) (fun k_ hk => ⟨trivial,hk.2⟩))) (fun _ h_ => h_)));(case aB => exact qq69);(case aF => exact qq106);(case aO => exact (by (with_reducible repeat (first | apply Kd.S_alloc | apply Kd.S_drewN | apply Kd.S_drew));exact Kd.S_mono HO_3.out (fun k_ hk => ⟨trivial,fun e_ => hk.2 e_⟩)));(case aS => exact qq66);(case aL => have:=LMc7.out;omega);intro v153 w13 ho hb hg hat;rw [← Ny152.out] at ho;replace HB:=am (hb);have HO154:=am (ho);clear HO_3 HO151;clear ho hb hg hat;refine hK.out _ _ ⟨(ct HB.out hw143_0 :),(ct HB.out hw143_1 :),(ct HB.out hw143_2 :),(ct HB.out hw144_0 :),(ct HB.out hw144_1 :),(ct HB.out hw144_2 :),(ct HB.out hw148_0 :),(ct HB.out hw148_1 :),(ct HB.out hw148_2 :)⟩ (fun hHeld => ?_);clear hK K;refine norm_ (a':=?_) ?_ ?_;rotate_left
       ·show Act.put _ (some 32) _ = _
        simp only [Act.put,sA,s0,s1,i64_w,i32_w];rfl
       refine pV (i:=21) (N:=some 3) #[Y,Y,Y,Y,Y,Y,Y,Y,Y,Y,Y,Y,Y,Y,Y,Y,Y,Y,Y,Y,Y,Y] rfl rfl qT ?_
       refine done_ (done_of HT_.out (by kernel_rfl)) ?_
       try go_wp2
       go_roundg k1
       case measure => have:=HK1.out;omega
       case rel => exact ⟨(y152),(wrap64 (x4_1 + 1)),qq101,H',⟨qq108⟩,⟨by (with_reducible repeat (first | apply Kd.S_alloc | apply Kd.S_drewN | apply Kd.S_drew));exact HO154.out⟩,⟨qq71⟩⟩
      ·rw [if_neg c7] at H;exact absurd H (by simp)
     ·rw [if_neg c6] at H;exact absurd H (by simp)
    ·rw [if_neg c5] at H;exact absurd H (by simp)
   ·rw [if_neg c4] at H;have c4b0 : decide (x4_1 < (l0.length : Int)) = false:=decide_eq_false c4;clear c4;obtain rfl:=Option.some.inj H;go_wp2
    go_ret
    exact ⟨_,qq89,qq73,qq71⟩

/-! ### spec_l14Has: function 46 -/
def spec_l14Has.l0 : Nat → List Int → Int → Int → Option (Bool)
 | 0,_,_,_ => none
 | k + 1,x0,x1,x5 => if x5 < (x0.length : Int) then (if 0 ≤ x5 then (if (rd x0 x5) = x1 then (some true) else (spec_l14Has.l0 k x0 x1 (wrap64 (x5 + 1)))) else (none)) else (some false)
def spec_l14Has.f (k : Nat) (l0 : List Int) (a1 : Int) : Option (Bool) := spec_l14Has.l0 k l0 a1 0
theorem spec_l14Has.mono_l : ∀ k, (∀ y0 y1 y2, LeO (spec_l14Has.l0 k y0 y1 y2) (spec_l14Has.l0 (k + 1) y0 y1 y2))
 | 0 => fun _ _ _ r h => by simp [spec_l14Has.l0] at h
 | k + 1 => by
  have ih0:=spec_l14Has.mono_l k
  ·intro y0 y1 y2
   unfold spec_l14Has.l0
   repeat' first
   | (with_reducible exact ih0 _ _ _)
   | (with_reducible exact LeO.refl _)
   | (with_reducible exact LeO.none _)
   | (with_reducible refine LeO.ite ?_ ?_)
   | (with_reducible refine LeO.bind ?_ (fun _ => ?_))
   | exact ih0 _ _ _
   | exact LeO.none _
   | refine LeO.ite ?_ ?_
   | refine LeO.bind ?_ (fun _ => ?_)
theorem spec_l14Has.mono : ∀ a0 a1 k, LeO (spec_l14Has.f k a0 a1) (spec_l14Has.f (k + 1) a0 a1) := by
 intro a0 a1 k
 have ih0:=spec_l14Has.mono_l k
 unfold spec_l14Has.f
 repeat' first
   | (with_reducible exact ih0 _ _ _)
   | (with_reducible exact LeO.refl _)
   | (with_reducible exact LeO.none _)
   | (with_reducible refine LeO.ite ?_ ?_)
   | (with_reducible refine LeO.bind ?_ (fun _ => ?_))
   | exact ih0 _ _ _
   | exact LeO.none _
   | refine LeO.ite ?_ ?_
   | refine LeO.bind ?_ (fun _ => ?_)
set_option maxHeartbeats 8000000 in
set_option maxRecDepth 100000 in
theorem spec_l14Has.calls (k : Nat) (A0 : Option Addr) (c0 : Nat) (l0 : List Int) (a1 : Int) (r : Bool) (w : World) (hr0 : Kd.C (Kd.int .i64) w A0 l0.length l0) (hc0 : l0.length ≤ c0) (h : spec_l14Has.f k l0 a1 = some r) :
  Calls Try.prog 46 #[.slice A0 l0.length c0,.int .i64 a1] w fun e w' => e = .returned (.bool r) ∧ Drawn0 w w':=by
 have HR0:=am hr0;have HC0:=am hc0;clear hr0 hc0;have H : (spec_l14Has.l0 k l0 a1 0) = some r:=h;clear h;have H':=am H;clear H
 go_enter Try.func46,Try.ntmps46
 go_wp2
 go_loopg [5] k (fun kq v5 w' => ∃ (x5_1 : Int),v5 = .int .i64 x5_1 ∧ Aside0 (spec_l14Has.l0 kq l0 a1 x5_1 = some r) ∧ Aside0 (kq ≤ k) ∧ Drawn0 w w')
 case atStart => exact ⟨(0),qq101,H',⟨Nat.le_refl _⟩,qq98⟩
 case round =>
  clear H'
  try clear p2
  obtain ⟨x5_1,rfl,HA,HK1,⟨m1,rfl⟩⟩:=hrel
  cases gk with
  | zero => exact absurd HA.out (by simp [spec_l14Has.l0])
  | succ k1 =>
   have H:=HA.out;clear HA;simp only [spec_l14Has.l0] at H
   by_cases c3 : x5_1 < (l0.length : Int)
   ·rw [if_pos c3] at H;have c3b0 : decide (x5_1 < (l0.length : Int)) = true:=decide_eq_true c3;clear c3
    by_cases c4 : 0 ≤ x5_1
    ·rw [if_pos c4] at H;have c4b0 : decide (0 ≤ x5_1) = true:=decide_eq_true c4;clear c4
     by_cases c5 : (rd l0 x5_1) = a1
     ·rw [if_pos c5] at H;have c5b0 : ((rd l0 x5_1) == a1) = true:=beq_iff_eq.mpr c5;have c5b1 : ((rd l0 x5_1) != a1) = false:=bne_eq_false_iff_eq.mpr c5;clear c5;obtain rfl:=Option.some.inj H;have p155 : 0 ≤ (x5_1 : Int):=odt qq100;have q155 : x5_1 < (l0.length : Int):=odt qq100;obtain ⟨ad155,e155,hx155_0⟩:=Kd.at_int HR0.out x5_1 p155 q155
      cases e155
      replace p155:=eq_true p155;replace q155:=eq_true q155;go_wp2
      go_ret
      exact ⟨qq101,qq98⟩
     ·rw [if_neg c5] at H;have c5b0 : ((rd l0 x5_1) == a1) = false:=beq_eq_false_iff_ne.mpr c5;have c5b1 : ((rd l0 x5_1) != a1) = true:=bne_iff_ne.mpr c5;have H':=am H;clear H;have p155 : 0 ≤ (x5_1 : Int):=odt qq100;have q155 : x5_1 < (l0.length : Int):=odt qq100;obtain ⟨ad155,e155,hx155_0⟩:=Kd.at_int HR0.out x5_1 p155 q155
      cases e155
      replace p155:=eq_true p155;replace q155:=eq_true q155;go_wp2
      go_roundg k1
      case measure => have:=HK1.out;omega
      case rel => exact ⟨(wrap64 (x5_1 + 1)),qq101,H',⟨qq108⟩,qq98⟩
    ·rw [if_neg c4] at H;exact absurd H (by simp)
   ·rw [if_neg c3] at H;have c3b0 : decide (x5_1 < (l0.length : Int)) = false:=decide_eq_false c3;clear c3;obtain rfl:=Option.some.inj H;go_wp2
    go_ret
    exact ⟨qq101,qq98⟩

/-! ### spec_l1In: function 47 -/
def spec_l1In.f (a0 : Int) (a1 : Int) (a2 : Int) : Option (Bool) := if a0 ≥ a1 then (some (decide (a0 ≤ a2))) else (some false)
set_option maxHeartbeats 8000000 in
set_option maxRecDepth 100000 in
theorem spec_l1In.calls (a0 : Int) (a1 : Int) (a2 : Int) (r : Bool) (w : World) (h : spec_l1In.f a0 a1 a2 = some r) :
  Calls Try.prog 47 #[.int .i64 a0,.int .i64 a1,.int .i64 a2] w fun e w' => e = .returned (.bool r) ∧ Drawn0 w w':=by
 have H : (if a0 ≥ a1 then (some (decide (a0 ≤ a2))) else (some false)) = some r:=h;clear h
 by_cases c4 : a0 ≥ a1
 ·rw [if_pos c4] at H;have c4b0 : decide (a1 ≤ a0) = true:=decide_eq_true c4;clear c4;obtain rfl:=Option.some.inj H
  go_enter Try.func47,Try.ntmps47
  go_wp2
  go_ret
  exact ⟨qq101,qq98⟩
 ·rw [if_neg c4] at H;have c4b0 : decide (a1 ≤ a0) = false:=decide_eq_false c4;clear c4;obtain rfl:=Option.some.inj H
  go_enter Try.func47,Try.ntmps47
  go_wp2
  go_ret
  exact ⟨qq101,qq98⟩

end Go.Proofs.Ytnghncedinngoaa.PFnExactPutUp
