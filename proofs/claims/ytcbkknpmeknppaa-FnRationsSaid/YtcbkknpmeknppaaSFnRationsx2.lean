/- Contracts of functions that the law FnRations reaches, for its row: lines that the kit's printer wrote for this claim, set shorter by a program of this session (own.py), and what fell in Lean proved anew. Lean checks them. -/
import Derived.Test.YtcbkknpmeknppaaSFnRationsx0
import Derived.Test.YtcbkknpmeknppaaSFnRationsx1
namespace Go.Proofs.Ytcbkknpmeknppaa.PFnRations
open Go.RowKit Go.Proofs.YtcbkknpmeknppaaW.PrintWords Go.Proofs.YtcbkknpmeknppaaW.PrintLast Go.Proofs.YtcbkknpmeknppaaW.PrintMore
attribute [local go_sem] max2_int min2_int max_two min_two max_three min_three max_four min_four   -- for this text's walks alone
set_option linter.unusedVariables false
set_option linter.unusedSimpArgs false

/-! ### spec_CountStorms: function 143 -/
def spec_CountStorms.l0 : Nat → List Bool → Int → Int → Option (Int)
 | 0,_,_,_ => none
 | k + 1,x0,x3,x4 => if x4 < (x0.length : Int) then (if 0 ≤ x4 then (if rdOf false x0 x4 = true then (spec_CountStorms.l0 k x0 (wrap64 (x3 + 1)) (wrap64 (x4 + 1))) else (spec_CountStorms.l0 k x0 x3 (wrap64 (x4 + 1)))) else (none)) else (some x3)
def spec_CountStorms.f (k : Nat) (l0 : List Bool) : Option (Int) := spec_CountStorms.l0 k l0 0 0
theorem spec_CountStorms.mono_l : ∀ k, (∀ y0 y1 y2, LeO (spec_CountStorms.l0 k y0 y1 y2) (spec_CountStorms.l0 (k + 1) y0 y1 y2))
 | 0 => fun _ _ _ r h => by simp [spec_CountStorms.l0] at h
 | k + 1 => by
  have ih0:=spec_CountStorms.mono_l k
  ·intro y0 y1 y2
   unfold spec_CountStorms.l0
   repeat' first
   | (with_reducible exact ih0 _ _ _)
   | (with_reducible exact LeO.refl _)
   | (with_reducible exact LeO.none _)
   | (with_reducible refine LeO.ite ?_ ?_)
   | (with_reducible refine LeO.bind ?_ (fun _ => ?_))
   | exact ih0 _ _ _
   | exact LeO.none _
   | refine LeO.ite ?_ ?_
   | refine LeO.bind ?_ (fun _ => ?_)
theorem spec_CountStorms.mono : ∀ a0 k, LeO (spec_CountStorms.f k a0) (spec_CountStorms.f (k + 1) a0) := by
 intro a0 k
 have ih0:=spec_CountStorms.mono_l k
 unfold spec_CountStorms.f
 repeat' first
   | (with_reducible exact ih0 _ _ _)
   | (with_reducible exact LeO.refl _)
   | (with_reducible exact LeO.none _)
   | (with_reducible refine LeO.ite ?_ ?_)
   | (with_reducible refine LeO.bind ?_ (fun _ => ?_))
   | exact ih0 _ _ _
   | exact LeO.none _
   | refine LeO.ite ?_ ?_
   | refine LeO.bind ?_ (fun _ => ?_)
set_option maxHeartbeats 8000000 in
set_option maxRecDepth 100000 in
theorem spec_CountStorms.calls (k : Nat) (A0 : Option Addr) (c0 : Nat) (l0 : List Bool) (r : Int) (w : World) (hr0 : Kd.C Kd.bool w A0 l0.length l0) (hc0 : l0.length ≤ c0) (h : spec_CountStorms.f k l0 = some r) :
  Calls Try.prog 143 #[.slice A0 l0.length c0] w fun e w' => e = .returned (.int .i64 r) ∧ Drawn0 w w':=by
 have HR0:=am hr0;have HC0:=am hc0;clear hr0 hc0;have H : (spec_CountStorms.l0 k l0 0 0) = some r:=h;clear h;have H':=am H;clear H
 go_enter Try.func143,Try.ntmps143
 go_wp2
 go_loopg [3,4] k (fun kq v3 v4 w' => ∃ (x3_1 : Int) (x4_1 : Int),v3 = .int .i64 x3_1 ∧ v4 = .int .i64 x4_1 ∧ Aside0 (spec_CountStorms.l0 kq l0 x3_1 x4_1 = some r) ∧ Aside0 (kq ≤ k) ∧ Drawn0 w w')
 case atStart => exact ⟨(0),(0),qq225,qq225,H',⟨Nat.le_refl _⟩,qq222⟩
 case round =>
  clear H'
  try clear c1
  obtain ⟨x3_1,x4_1,rfl,rfl,HA,HK1,⟨m1,rfl⟩⟩:=hrel
  cases gk with
  | zero => exact absurd HA.out (by simp [spec_CountStorms.l0])
  | succ k1 =>
   have H:=HA.out;clear HA;simp only [spec_CountStorms.l0] at H
   by_cases c2 : x4_1 < (l0.length : Int)
   ·rw [if_pos c2] at H;have c2b0 : decide (x4_1 < (l0.length : Int)) = true:=decide_eq_true c2;clear c2
    by_cases c3 : 0 ≤ x4_1
    ·rw [if_pos c3] at H;have c3b0 : decide (0 ≤ x4_1) = true:=decide_eq_true c3;clear c3;obtain ⟨bq4,hbq4⟩ : ∃ b_ : Bool,b_ = (rdOf false l0 x4_1):=⟨_,rfl⟩
     replace H : (if bq4 = true then (spec_CountStorms.l0 k1 l0 (wrap64 (x3_1 + 1)) (wrap64 (x4_1 + 1))) else (spec_CountStorms.l0 k1 l0 x3_1 (wrap64 (x4_1 + 1)))) = some r:=by rw [← hbq4] at H;exact H
     have Nbq4:=am hbq4;clear hbq4
     by_cases c5 : bq4 = true
     ·subst c5;have H1 : (spec_CountStorms.l0 k1 l0 (wrap64 (x3_1 + 1)) (wrap64 (x4_1 + 1))) = some r:=by rw [if_pos rfl] at H;exact H
      clear H;have H:=H1;clear H1;have H':=am H;clear H;have p184 : 0 ≤ (x4_1 : Int):=odt qq223;have q184 : x4_1 < (l0.length : Int):=odt qq223;obtain ⟨ad184,e184,hx184_0⟩:=Kd.at_bool HR0.out x4_1 p184 q184;(try rw [← Nbq4.out] at hx184_0)
      cases e184
      replace p184:=eq_true p184;replace q184:=eq_true q184;go_wp2
      go_roundg k1
      case measure => have:=HK1.out;omega
      case rel => exact ⟨(wrap64 (x3_1 + 1)),(wrap64 (x4_1 + 1)),qq225,qq225,H',⟨qq239⟩,qq222⟩
     ·replace c5:=Bool.eq_false_iff.mpr c5;subst c5;have H1 : (spec_CountStorms.l0 k1 l0 x3_1 (wrap64 (x4_1 + 1))) = some r:=by rw [if_neg (show ¬ (false = true) by decide)] at H;exact H
      clear H;have H:=H1;clear H1;have H':=am H;clear H;have p184 : 0 ≤ (x4_1 : Int):=odt qq223;have q184 : x4_1 < (l0.length : Int):=odt qq223;obtain ⟨ad184,e184,hx184_0⟩:=Kd.at_bool HR0.out x4_1 p184 q184;(try rw [← Nbq4.out] at hx184_0)
      cases e184
      replace p184:=eq_true p184;replace q184:=eq_true q184;go_wp2
      go_roundg k1
      case measure => have:=HK1.out;omega
      case rel => exact ⟨(x3_1),(wrap64 (x4_1 + 1)),qq225,qq225,H',⟨qq239⟩,qq222⟩
    ·rw [if_neg c3] at H;exact absurd H (by simp)
   ·rw [if_neg c2] at H;have c2b0 : decide (x4_1 < (l0.length : Int)) = false:=decide_eq_false c2;clear c2;obtain rfl:=Option.some.inj H;go_wp2
    go_ret
    exact ⟨qq225,qq222⟩

/-! ### spec_Max: function 144 -/
def spec_Max.f (a0 : Int) (a1 : Int) : Option (Int) := if a1 > a0 then (some a1) else (some a0)
set_option maxHeartbeats 8000000 in
set_option maxRecDepth 100000 in
theorem spec_Max.calls (a0 : Int) (a1 : Int) (r : Int) (w : World) (h : spec_Max.f a0 a1 = some r) :
  Calls Try.prog 144 #[.int .i64 a0,.int .i64 a1] w fun e w' => e = .returned (.int .i64 r) ∧ Drawn0 w w':=by
 have H : (if a1 > a0 then (some a1) else (some a0)) = some r:=h;clear h
 by_cases c3 : a1 > a0
 ·rw [if_pos c3] at H;have c3b0 : decide (a0 < a1) = true:=decide_eq_true c3;clear c3;obtain rfl:=Option.some.inj H
  go_enter Try.func144,Try.ntmps144
  go_wp2
  go_ret
  exact ⟨qq225,qq222⟩
 ·rw [if_neg c3] at H;have c3b0 : decide (a0 < a1) = false:=decide_eq_false c3;clear c3;obtain rfl:=Option.some.inj H
  go_enter Try.func144,Try.ntmps144
  go_wp2
  go_ret
  exact ⟨qq225,qq222⟩

/-! ### spec_MayStorm: function 122 -/
def spec_MayStorm.f (k : Nat) (a0_0 : Int) (a0_1 : Int) (l1 : List Bool) : Option (Bool) := (spec_IsRule.f a0_0 a0_1).bind fun t186 => (if t186 = true then ((spec_Max.f 0 (wrap64 ((wrap64 ((l1.length : Int) + 1)) - a0_1))).bind fun t187 => (if 0 ≤ t187 then (if t187 ≤ (l1.length : Int) then ((spec_CountStorms.f k (l1.drop (t187 : Int).toNat)).bind fun t189 => (some (decide (t189 < a0_0)))) else (none)) else (none))) else (some false))
theorem spec_MayStorm.mono : ∀ a0 a1 a2 k, LeO (spec_MayStorm.f k a0 a1 a2) (spec_MayStorm.f (k + 1) a0 a1 a2) := by
 intro a0 a1 a2 k
 unfold spec_MayStorm.f
 repeat' first
   | (with_reducible exact spec_CountStorms.mono _ _)
   | (with_reducible exact LeO.refl _)
   | (with_reducible exact LeO.none _)
   | (with_reducible refine LeO.ite ?_ ?_)
   | (with_reducible refine LeO.bind ?_ (fun _ => ?_))
   | exact spec_CountStorms.mono _ _
   | exact LeO.none _
   | refine LeO.ite ?_ ?_
   | refine LeO.bind ?_ (fun _ => ?_)
def spec_MayStorm.T1 : Bool × List (List Nat × List Nat) := (true, [([], []), ([0], [0]), ([1, 1], [1]), ([2], [2]), ([2], [2]), ([4, 2], [2, 4]), ([5, 2], [2, 5]), ([2], [2]), ([7, 2], [2, 7]), ([6, 8, 2], [2, 6, 8]), ([9, 2, 2], [2, 9]), ([3, 10, 2], [2, 3, 10]), ([11, 10, 2], [2, 11]), ([2], [2]), ([13, 2], [2, 13]), ([12, 14, 2], [2, 12, 14]), ([2, 15], [2, 15]), ([16, 12, 0, 1, 2, 3, 4, 5, 6, 7, 8, 9, 10, 11, 12, 13, 14, 15, 16], [16])])
def spec_MayStorm.B1 : List Nat := [0, 1, 3, 7, 7, 23, 55, 7, 135, 503, 1015, 2047, 4095, 7, 8199, 32767, 65535, 131071]
theorem spec_MayStorm.tab1 : rtab .any (opsOf Try.f122 1) = spec_MayStorm.T1 := by kernel_rfl
theorem spec_MayStorm.bits1 : waitsOk spec_MayStorm.T1.2 spec_MayStorm.B1 = true := by kernel_rfl
set_option maxHeartbeats 8000000 in
set_option maxRecDepth 100000 in
theorem spec_MayStorm.calls (k : Nat) (a0_0 : Int) (a0_1 : Int) (A1 : Option Addr) (c1 : Nat) (l1 : List Bool) (r : Bool) (w : World) (hr1 : Kd.C Kd.bool w A1 l1.length l1) (hc1 : l1.length ≤ c1) (h : spec_MayStorm.f k a0_0 a0_1 l1 = some r) :
  Calls Try.prog 122 #[.agg #[.int .i64 a0_0,.int .i64 a0_1],.slice A1 l1.length c1] w fun e w' => e = .returned (.bool r) ∧ Below w.heap.size w w':=by
 have hu37:=Try.underlying37;have HR1:=am hr1;have HC1:=am hc1;clear hr1 hc1;have HB:=am (Below.refl w.heap.size w);have H : ((spec_IsRule.f a0_0 a0_1).bind fun t186 => (if t186 = true then ((spec_Max.f 0 (wrap64 ((wrap64 ((l1.length : Int) + 1)) - a0_1))).bind fun t187 => (if 0 ≤ t187 then (if t187 ≤ (l1.length : Int) then ((spec_CountStorms.f k (l1.drop (t187 : Int).toNat)).bind fun t189 => (some (decide (t189 < a0_0)))) else (none)) else (none))) else (some false))) = some r:=h;clear h;replace H:=bS.mp H;obtain ⟨t186,A30,H⟩:=H;replace H : (if t186 = true then ((spec_Max.f 0 (wrap64 ((wrap64 ((l1.length : Int) + 1)) - a0_1))).bind fun t187 => (if 0 ≤ t187 then (if t187 ≤ (l1.length : Int) then ((spec_CountStorms.f k (l1.drop (t187 : Int).toNat)).bind fun t189 => (some (decide (t189 < a0_0)))) else (none)) else (none))) else (some false)) = some r:=H;have A3:=am A30;clear A30
 by_cases c4 : t186 = true
 ·subst c4;have H1 : ((spec_Max.f 0 (wrap64 ((wrap64 ((l1.length : Int) + 1)) - a0_1))).bind fun t187 => (if 0 ≤ t187 then (if t187 ≤ (l1.length : Int) then ((spec_CountStorms.f k (l1.drop (t187 : Int).toNat)).bind fun t189 => (some (decide (t189 < a0_0)))) else (none)) else (none))) = some r:=by rw [if_pos rfl] at H;exact H
  clear H;have H:=H1;clear H1;replace H:=bS.mp H;obtain ⟨t187,A50,H⟩:=H;replace H : (if 0 ≤ t187 then (if t187 ≤ (l1.length : Int) then ((spec_CountStorms.f k (l1.drop (t187 : Int).toNat)).bind fun t189 => (some (decide (t189 < a0_0)))) else (none)) else (none)) = some r:=H;have A5:=am A50;clear A50
  by_cases c6 : 0 ≤ t187
  ·rw [if_pos c6] at H;have c6b0:=eq_true c6;have c6b1 : decide (0 ≤ t187) = true:=decide_eq_true c6;clear c6
   by_cases c7 : t187 ≤ (l1.length : Int)
   ·rw [if_pos c7] at H;have c7b0:=eq_true c7;have c7b1 : decide (t187 ≤ (l1.length : Int)) = true:=decide_eq_true c7;clear c7;replace H:=bS.mp H;obtain ⟨t189,A80,H⟩:=H;replace H : (some (decide (t189 < a0_0))) = some r:=H;have A8:=am A80;clear A80;obtain rfl:=Option.some.inj H
    go_enter Try.func122,Try.ntmps122
    try go_wp2_with (first | ((with_reducible refine gate_dst (N:=2) rfl ?_);(try (refine gate_guard (by rfl) ?_;dsimp only));refine box_event ?hg (N:=2) ?hd (cs:=#[.int .i64 a0_0,.int .i64 a0_1]) (t:=37) ?hr ?_;(case hd => rfl);(case hg => rfl);(case hr => exact qq226);intro gb185 hg w9 hbox hb;have BK185:=am (hbox);have GW185:=am ((qq119 : w.heap.size ≤ gb185));have GE185:=am ((qq119 : w.heap.size ≤ gb185));replace HB:=am (below_step qq143 hb);clear hb hbox hg))
    replace BK185:=am (blk_drew BK185.out);replace HB:=am (below_drew1 HB.out);refine start_ (n:=18) (S:=fun w' => w'.cell? ⟨gb185,0,none⟩ = some (.int .i64 a0_0) ∧ w'.cell? ⟨gb185,1,none⟩ = some (.int .i64 a0_1)) (ds:=[]) #[Z,Z,Z,Z,Z,Z,Z,Z,Z,Z,Z,Z,Z,Z,Z,Z,Z,Z] (by kernel_rfl) rfl rfl ⟨(blk_cell BK185.out 0).trans rfl,(blk_cell BK185.out 1).trans rfl⟩ (fun hHeld => ?_);refine with_tabW spec_MayStorm.tab1 spec_MayStorm.bits1 (fun HT_ HW_ => ?_)
    generalize w9.drew = w10 at BK185 HB hHeld ⊢
    refine tV2 (i:=0) (N:=some 5) #[Y,Z,Z,Z,Z,Z,Z,Z,Z,Z,Z,Z,Z,Z,Z,Z,Z,Z] rfl rfl (take_ofW HT_.out HW_.out (by kernel_rfl)) hHeld ?_
    refine one_ (i:=1) (N:=some 6) #[Y,Y,Z,Z,Z,Z,Z,Z,Z,Z,Z,Z,Z,Z,Z,Z,Z,Z] rfl rfl (one_of HT_.out (by kernel_rfl)) (by decide) (fun K hK => ?_);refine goes_ Try.func139 (by kernel_rfl) rfl #[.agg #[.int .i64 a0_0,.int .i64 a0_1]] (by rfl) rfl rfl qq137 ?_;with_reducible refine (spec_IsRule.calls a0_0 a0_1 true _ A3.out).mono ?_
    rintro e w11 ⟨rfl,hb⟩
    refine ⟨_,rfl,?_⟩;replace BK185:=am (blk_below (g:=gb185) (o:=.cells #[.int .i64 a0_0,.int .i64 a0_1] 37 (0,0)) qq176 hb);replace HB:=am (below_step qq135 hb);(try clear hb);(try clear hb2);(try clear hk);(try clear hi);refine hK.out _ _ ⟨(blk_cell BK185.out 0).trans rfl,(blk_cell BK185.out 1).trans rfl⟩ (fun hHeld => ?_);clear hK K;refine norm_ (a':=?_) ?_ ?_;rotate_left
    ·show Act.put _ (some 6) _ = _
     simp only [Act.put,sA,s0,s1,i64_w,i32_w];rfl
    refine pV (i:=2) (N:=some 7) #[Y,Y,Y,Z,Z,Z,Z,Z,Z,Z,Z,Z,Z,Z,Z,Z,Z,Z] rfl rfl qT ?_
    refine pV (i:=3) (N:=some 8) #[Y,Y,Y,Y,Z,Z,Z,Z,Z,Z,Z,Z,Z,Z,Z,Z,Z,Z] rfl rfl qT ?_
    refine pV (i:=4) (N:=some 9) #[Y,Y,Y,Y,Y,Z,Z,Z,Z,Z,Z,Z,Z,Z,Z,Z,Z,Z] rfl rfl qT ?_
    refine pV (i:=5) (N:=some 10) #[Y,Y,Y,Y,Y,Y,Z,Z,Z,Z,Z,Z,Z,Z,Z,Z,Z,Z] rfl rfl qT ?_
    refine pV (i:=6) (N:=some 11) #[Y,Y,Y,Y,Y,Y,Y,Z,Z,Z,Z,Z,Z,Z,Z,Z,Z,Z] rfl rfl qT ?_
    refine pV (i:=7) (N:=some 12) #[Y,Y,Y,Y,Y,Y,Y,Y,Z,Z,Z,Z,Z,Z,Z,Z,Z,Z] rfl rfl qT ?_
    refine pV (i:=13) (N:=some 18) #[Y,Y,Y,Y,Y,Y,Y,Y,Z,Z,Z,Z,Z,Y,Z,Z,Z,Z] rfl rfl qT ?_
    refine tV2 (i:=8) (N:=some 13) #[Y,Y,Y,Y,Y,Y,Y,Y,Y,Z,Z,Z,Z,Y,Z,Z,Z,Z] rfl rfl (take_ofW HT_.out HW_.out (by kernel_rfl)) hHeld ?_
    refine pV (i:=9) (N:=some 14) #[Y,Y,Y,Y,Y,Y,Y,Y,Y,Y,Z,Z,Z,Y,Z,Z,Z,Z] rfl rfl qT ?_
    refine tV2 (i:=14) (N:=some 19) #[Y,Y,Y,Y,Y,Y,Y,Y,Y,Y,Z,Z,Z,Y,Y,Z,Z,Z] rfl rfl (take_ofW HT_.out HW_.out (by kernel_rfl)) hHeld ?_
    refine one_ (i:=10) (N:=some 15) #[Y,Y,Y,Y,Y,Y,Y,Y,Y,Y,Y,Z,Z,Y,Y,Z,Z,Z] rfl rfl (one_of HT_.out (by kernel_rfl)) (by decide) (fun K hK => ?_);refine goes_ Try.func144 (by kernel_rfl) rfl #[.int .i64 0,.int .i64 (wrap64 ((wrap64 ((l1.length : Int) + 1)) - a0_1))] (by rfl) rfl rfl qq137 ?_;with_reducible refine (spec_Max.calls 0 (wrap64 ((wrap64 ((l1.length : Int) + 1)) - a0_1)) t187 _ A5.out).mono ?_
    rintro e w' ⟨rfl,⟨nd,rfl⟩⟩
    refine ⟨_,rfl,?_⟩;obtain ⟨i012,hi012,_,hsz12,_⟩:=info_parts info4;obtain ⟨A12,hcut12,hA12,hC12⟩:=print_drop_of (P:=Try.prog) Value.bool false 25 4 .i64 Try.underlying25 hi012 hsz12 A1 c1 l1 t187 (odt qq223) (odt qq223) HC1.out;have HR188:=am (Kd.C_of_reads (h1:=fun _ => rfl) (hA12 _ (Kd.reads_of_C HR1.out)));have HC188:=am hC12;clear hA12 hC12 hi012 hsz12;refine hK.out _ _ ⟨(blk_cell BK185.out 0).trans rfl,(blk_cell BK185.out 1).trans rfl⟩ (fun hHeld => ?_);clear hK K;refine norm_ (a':=?_) ?_ ?_;rotate_left
    ·show Act.put _ (some 15) _ = _
     simp only [Act.put,sA,s0,s1,i64_w,i32_w];rfl
    refine pV (i:=11) (N:=some 16) #[Y,Y,Y,Y,Y,Y,Y,Y,Y,Y,Y,Y,Z,Y,Y,Z,Z,Z] rfl rfl qT ?_
    refine one_ (i:=12) (N:=some 17) #[Y,Y,Y,Y,Y,Y,Y,Y,Y,Y,Y,Y,Y,Y,Y,Z,Z,Z] rfl rfl (one_of HT_.out (by kernel_rfl)) (by decide) (fun K hK => ?_);refine goes_ Try.func143 (by kernel_rfl) rfl #[.slice A12 (l1.drop (t187 : Int).toNat).length (c1 - t187.toNat)] (by rfl) rfl rfl (by (try simp only [List.map_toArray,List.map_cons,List.map_nil]);first | done | (rw [show (l1.drop (t187 : Int).toNat).length = (l1.length - t187.toNat) from List.length_drop] <;> rfl) | rfl | (simp only [List.length_drop,List.length_take];rfl)) ?_;with_reducible refine (spec_CountStorms.calls k _ _ (l1.drop (t187 : Int).toNat) t189 _ ?side1 ?side2 A8.out).mono ?_
    (case side1 => repeat (first | exact (Kd.C_below HR188.out qq135) | (with_reducible refine cA ?_ _) | (with_reducible refine cN ?_ _) | (with_reducible refine cD ?_)));(case side2 => exact HC188.out)
    rintro e w' ⟨rfl,⟨nd,rfl⟩⟩
    refine ⟨_,rfl,?_⟩;refine hK.out _ _ ⟨(blk_cell BK185.out 0).trans rfl,(blk_cell BK185.out 1).trans rfl⟩ (fun hHeld => ?_);clear hK K;refine norm_ (a':=?_) ?_ ?_;rotate_left
    ·show Act.put _ (some 17) _ = _
     simp only [Act.put,sA,s0,s1,i64_w,i32_w];rfl
    refine pV (i:=15) (N:=some 20) #[Y,Y,Y,Y,Y,Y,Y,Y,Y,Y,Y,Y,Y,Y,Y,Y,Z,Z] rfl rfl qT ?_
    refine pV (i:=16) (N:=some 21) #[Y,Y,Y,Y,Y,Y,Y,Y,Y,Y,Y,Y,Y,Y,Y,Y,Y,Z] rfl rfl qT ?_
    refine pV (i:=17) (N:=some 4) #[Y,Y,Y,Y,Y,Y,Y,Y,Y,Y,Y,Y,Y,Y,Y,Y,Y,Y] rfl rfl qT ?_
    refine done_ (done_of HT_.out (by kernel_rfl)) ?_
    try go_wp2
    go_ret
    exact ⟨qq180,qq135⟩
   ·rw [if_neg c7] at H;exact absurd H (by simp)
  ·rw [if_neg c6] at H;exact absurd H (by simp)
 ·replace c4:=Bool.eq_false_iff.mpr c4;subst c4;have H1 : (some false) = some r:=by rw [if_neg (show ¬ (false = true) by decide)] at H;exact H
  clear H;have H:=H1;clear H1;obtain rfl:=Option.some.inj H
  go_enter Try.func122,Try.ntmps122
  try go_wp2_with (first | ((with_reducible refine gate_dst (N:=2) rfl ?_);(try (refine gate_guard (by rfl) ?_;dsimp only));refine box_event ?hg (N:=2) ?hd (cs:=#[.int .i64 a0_0,.int .i64 a0_1]) (t:=37) ?hr ?_;(case hd => rfl);(case hg => rfl);(case hr => exact qq226);intro gb185 hg w13 hbox hb;have BK185:=am (hbox);have GW185:=am ((qq119 : w.heap.size ≤ gb185));have GE185:=am ((qq119 : w.heap.size ≤ gb185));replace HB:=am (below_step qq143 hb);clear hb hbox hg))
  replace BK185:=am (blk_drew BK185.out);replace HB:=am (below_drew1 HB.out);refine start_ (n:=18) (S:=fun w' => w'.cell? ⟨gb185,0,none⟩ = some (.int .i64 a0_0) ∧ w'.cell? ⟨gb185,1,none⟩ = some (.int .i64 a0_1)) (ds:=[]) #[Z,Z,Z,Z,Z,Z,Z,Z,Z,Z,Z,Z,Z,Z,Z,Z,Z,Z] (by kernel_rfl) rfl rfl ⟨(blk_cell BK185.out 0).trans rfl,(blk_cell BK185.out 1).trans rfl⟩ (fun hHeld => ?_);refine with_tabW spec_MayStorm.tab1 spec_MayStorm.bits1 (fun HT_ HW_ => ?_)
  generalize w13.drew = w14 at BK185 HB hHeld ⊢
  refine tV2 (i:=0) (N:=some 5) #[Y,Z,Z,Z,Z,Z,Z,Z,Z,Z,Z,Z,Z,Z,Z,Z,Z,Z] rfl rfl (take_ofW HT_.out HW_.out (by kernel_rfl)) hHeld ?_
  refine one_ (i:=1) (N:=some 6) #[Y,Y,Z,Z,Z,Z,Z,Z,Z,Z,Z,Z,Z,Z,Z,Z,Z,Z] rfl rfl (one_of HT_.out (by kernel_rfl)) (by decide) (fun K hK => ?_);refine goes_ Try.func139 (by kernel_rfl) rfl #[.agg #[.int .i64 a0_0,.int .i64 a0_1]] (by rfl) rfl rfl qq137 ?_;with_reducible refine (spec_IsRule.calls a0_0 a0_1 false _ A3.out).mono ?_
  rintro e w15 ⟨rfl,hb⟩
  refine ⟨_,rfl,?_⟩;replace BK185:=am (blk_below (g:=gb185) (o:=.cells #[.int .i64 a0_0,.int .i64 a0_1] 37 (0,0)) qq176 hb);replace HB:=am (below_step qq135 hb);(try clear hb);(try clear hb2);(try clear hk);(try clear hi);refine hK.out _ _ ⟨(blk_cell BK185.out 0).trans rfl,(blk_cell BK185.out 1).trans rfl⟩ (fun hHeld => ?_);clear hK K;refine norm_ (a':=?_) ?_ ?_;rotate_left
  ·show Act.put _ (some 6) _ = _
   simp only [Act.put,sA,s0,s1,i64_w,i32_w];rfl
  refine pV (i:=2) (N:=some 7) #[Y,Y,Y,Z,Z,Z,Z,Z,Z,Z,Z,Z,Z,Z,Z,Z,Z,Z] rfl rfl qT ?_
  refine pW (i:=3) (N:=some 8) #[Y,Y,Y,Y,Z,Z,Z,Z,Z,Z,Z,Z,Z,Z,Z,Z,Z,Z] rfl rfl qT ?_
  refine pW (i:=4) (N:=some 9) #[Y,Y,Y,Y,Y,Z,Z,Z,Z,Z,Z,Z,Z,Z,Z,Z,Z,Z] rfl rfl qT ?_
  refine pW (i:=5) (N:=some 10) #[Y,Y,Y,Y,Y,Y,Z,Z,Z,Z,Z,Z,Z,Z,Z,Z,Z,Z] rfl rfl qT ?_
  refine pW (i:=6) (N:=some 11) #[Y,Y,Y,Y,Y,Y,Y,Z,Z,Z,Z,Z,Z,Z,Z,Z,Z,Z] rfl rfl qT ?_
  refine pW (i:=7) (N:=some 12) #[Y,Y,Y,Y,Y,Y,Y,Y,Z,Z,Z,Z,Z,Z,Z,Z,Z,Z] rfl rfl qT ?_
  refine pW (i:=8) (N:=some 13) #[Y,Y,Y,Y,Y,Y,Y,Y,Y,Z,Z,Z,Z,Z,Z,Z,Z,Z] rfl rfl qT ?_
  refine pW (i:=9) (N:=some 14) #[Y,Y,Y,Y,Y,Y,Y,Y,Y,Y,Z,Z,Z,Z,Z,Z,Z,Z] rfl rfl qT ?_
  refine pW (i:=10) (N:=some 15) #[Y,Y,Y,Y,Y,Y,Y,Y,Y,Y,Y,Z,Z,Z,Z,Z,Z,Z] rfl rfl qT ?_
  refine pW (i:=11) (N:=some 16) #[Y,Y,Y,Y,Y,Y,Y,Y,Y,Y,Y,Y,Z,Z,Z,Z,Z,Z] rfl rfl qT ?_
  refine pW (i:=12) (N:=some 17) #[Y,Y,Y,Y,Y,Y,Y,Y,Y,Y,Y,Y,Y,Z,Z,Z,Z,Z] rfl rfl qT ?_
  refine pW (i:=13) (N:=some 18) #[Y,Y,Y,Y,Y,Y,Y,Y,Y,Y,Y,Y,Y,Y,Z,Z,Z,Z] rfl rfl qT ?_
  refine pW (i:=14) (N:=some 19) #[Y,Y,Y,Y,Y,Y,Y,Y,Y,Y,Y,Y,Y,Y,Y,Z,Z,Z] rfl rfl qT ?_
  refine pW (i:=15) (N:=some 20) #[Y,Y,Y,Y,Y,Y,Y,Y,Y,Y,Y,Y,Y,Y,Y,Y,Z,Z] rfl rfl qT ?_
  refine pV (i:=16) (N:=some 21) #[Y,Y,Y,Y,Y,Y,Y,Y,Y,Y,Y,Y,Y,Y,Y,Y,Y,Z] rfl rfl qT ?_
  refine pV (i:=17) (N:=some 4) #[Y,Y,Y,Y,Y,Y,Y,Y,Y,Y,Y,Y,Y,Y,Y,Y,Y,Y] rfl rfl qT ?_
  refine done_ (done_of HT_.out (by kernel_rfl)) ?_
  try go_wp2
  go_ret
  exact ⟨qq180,qq135⟩

/-! ### spec_l6Past: function 80 -/
def spec_l6Past.l0 : Nat → Int → List Bool → Int → List Int → Int → Int → Int → Int → Option (List Bool × Int × Int)
 | 0,_,_,_,_,_,_,_,_ => none
 | k + 1,x2,x7,x8,x1000,x1001,x1002,x191000,x191001 => if x8 < x2 then ((spec_MayStorm.f k x191000 x191001 x7).bind fun t194 => (if t194 = true then ((spec_l1Once.f x1000 x1001 x1002 2).bind fun bt195 => (if x7.length < 140737488355328 then (spec_l6Past.l0 k x2 (x7 ++ [bt195.1]) (wrap64 (x8 + 1)) x1000 bt195.2.1 bt195.2.2 x191000 x191001) else (none))) else (if x7.length < 140737488355328 then (spec_l6Past.l0 k x2 (x7 ++ [false]) (wrap64 (x8 + 1)) x1000 x1001 x1002 x191000 x191001) else (none)))) else (some (x7,x1001,x1002))
def spec_l6Past.f (k : Nat) (s0_0 : List Int) (s0_1 : Int) (s0_2 : Int) (a1_0 : Int) (a1_1 : Int) (a2 : Int) : Option (List Bool × Int × Int) := spec_l6Past.l0 k a2 (([] : List Bool)) 0 s0_0 s0_1 s0_2 a1_0 a1_1
theorem spec_l6Past.mono_l : ∀ k, (∀ y0 y1 y2 y3 y4 y5 y6 y7, LeO (spec_l6Past.l0 k y0 y1 y2 y3 y4 y5 y6 y7) (spec_l6Past.l0 (k + 1) y0 y1 y2 y3 y4 y5 y6 y7))
 | 0 => fun _ _ _ _ _ _ _ _ r h => by simp [spec_l6Past.l0] at h
 | k + 1 => by
  have ih0:=spec_l6Past.mono_l k
  ·intro y0 y1 y2 y3 y4 y5 y6 y7
   unfold spec_l6Past.l0
   repeat' first
   | (with_reducible exact ih0 _ _ _ _ _ _ _ _)
   | (with_reducible exact spec_MayStorm.mono _ _ _ _)
   | (with_reducible exact LeO.refl _)
   | (with_reducible exact LeO.none _)
   | (with_reducible refine LeO.ite ?_ ?_)
   | (with_reducible refine LeO.bind ?_ (fun _ => ?_))
   | exact ih0 _ _ _ _ _ _ _ _
   | exact spec_MayStorm.mono _ _ _ _
   | exact LeO.none _
   | refine LeO.ite ?_ ?_
   | refine LeO.bind ?_ (fun _ => ?_)
theorem spec_l6Past.mono : ∀ a0 a1 a2 a3 a4 a5 k, LeO (spec_l6Past.f k a0 a1 a2 a3 a4 a5) (spec_l6Past.f (k + 1) a0 a1 a2 a3 a4 a5) := by
 intro a0 a1 a2 a3 a4 a5 k
 have ih0:=spec_l6Past.mono_l k
 unfold spec_l6Past.f
 repeat' first
   | (with_reducible exact ih0 _ _ _ _ _ _ _ _)
   | (with_reducible exact spec_MayStorm.mono _ _ _ _)
   | (with_reducible exact LeO.refl _)
   | (with_reducible exact LeO.none _)
   | (with_reducible refine LeO.ite ?_ ?_)
   | (with_reducible refine LeO.bind ?_ (fun _ => ?_))
   | exact ih0 _ _ _ _ _ _ _ _
   | exact spec_MayStorm.mono _ _ _ _
   | exact LeO.none _
   | refine LeO.ite ?_ ?_
   | refine LeO.bind ?_ (fun _ => ?_)
set_option maxHeartbeats 8000000 in
set_option maxRecDepth 100000 in
theorem spec_l6Past.calls (k : Nat) (g : Nat) (s0_0 : List Int) (s0_1 : Int) (s0_2 : Int) (a1_0 : Int) (a1_1 : Int) (a2 : Int) (r1 : List Bool) (r2 : Int) (r3 : Int) (w0 w : World) (hI : IsS141 w0 w g s0_0 s0_1 s0_2) (hB : Below w0.heap.size w0 w) (h : spec_l6Past.f k s0_0 s0_1 s0_2 a1_0 a1_1 a2 = some (r1, r2, r3)) :
  Calls Try.prog 80 #[.pointer (some ⟨g,0,none⟩),.agg #[.int .i64 a1_0,.int .i64 a1_1],.int .i64 a2] w fun e w' => ∃ v0_ : Value,e = .returned (v0_) ∧ Kd.R Kd.bool 4 w' w.heap.size (fun _ => True) v0_ r1 ∧ IsS141 w0 w' g s0_0 r2 r3 ∧ Below w0.heap.size w0 w' ∧ KeepBut w w' g none:=by
 have hu37:=Try.underlying37;have HI0:=am hI;have HK:=am (KeepBut.refl w g none);have HL:=am hB.size;clear hI;have HW0:=am hB.size;have HB:=am hB;clear hB;have H : (spec_l6Past.l0 k a2 (([] : List Bool)) 0 s0_0 s0_1 s0_2 a1_0 a1_1) = some (r1,r2,r3):=h;clear h;obtain ⟨y191,hy191⟩ : ∃ y_ : List Bool,y_ = (([] : List Bool)):=⟨_,rfl⟩
 replace H : (spec_l6Past.l0 k a2 y191 0 s0_0 s0_1 s0_2 a1_0 a1_1) = some (r1,r2,r3):=by first | (rw [hy191];with_reducible exact H) | (have H2_:=(Option.bind_some _ _).symm.trans H;rw [hy191];with_reducible exact H2_) | (have H2_:=(Option.bind_some _ _).symm.trans H;with_reducible exact H2_) | with_reducible exact H | (rw [hy191];exact H) | exact H
 have Ny191:=am hy191;clear hy191;have H':=am H;clear H
 go_enter Try.func80,Try.ntmps80
 go_wp2_with (first | ((with_reducible refine gate_dst (N:=4) rfl ?_);refine box_event ?hg (N:=4) ?hd (cs:=#[.int .i64 a1_0,.int .i64 a1_1]) (t:=37) ?hr ?_;(case hd => rfl);(case hg => rfl);(case hr => exact qq226);intro gb190 hg w4 hbox hb;replace HB:=am (below_step qq115 hb);have BK190:=am (hbox);have GW190:=am ((qq72 : w.heap.size ≤ gb190));have GE190:=am ((Nat.le_trans HW0.out (qq72 : w.heap.size ≤ gb190) : w0.heap.size ≤ gb190));replace HK:=am (KeepBut.trans qq112 (KeepBut.of_below hb g none) (.inl rfl));have NB0_190:=am ((qq26 : g ≠ gb190));have NB190_0:=am ((qq27 : gb190 ≠ g));replace HI0:=am (IsS141.below qq88 hb);clear hb hbox hg) | ((with_reducible refine gate_dst (N:=9) rfl ?_);refine Kd.R_lit Kd.bool _ 4 ?hg (N:=9) ?hd (xs:=([] : List Bool)) (inner:=[]) (ok:=fun _ => True) (okp:=fun _ => True) ?hr ?hp (fun _ hk => hk) trivial (Below.refl _ _) (Nat.le_refl _) (by simp) ?_;(case hd => rfl);(case hg => rfl);(case hr => exact qq226);(case hp => exact qq238);intro v192 w5 ho6 hb hg_ hnew_;clear hg_ hnew_;(first | rw [← Ny191.out] at ho6 | (simp only [Int.reduceToNat] at ho6;rw [← Ny191.out] at ho6));have HO193:=am (Kd.R_lower ho6 (keep_size (w:=w) (g:=g) (row:=none) qq81));replace BK190:=am (blk_below (g:=gb190) (o:=.cells #[.int .i64 a1_0,.int .i64 a1_1] 37 (0,0)) qq175 hb);replace HK:=am (KeepBut.trans qq81 (KeepBut.of_below hb g none) (.inl rfl));replace HB:=am (below_step qq86 hb);replace HI0:=am (IsS141.below qq60 hb);clear hb ho6))
 go_loopg [7,8] k (fun kq v7 v8 w' => ∃ (x7_1 : List Bool) (x8_1 : Int) (x1001_1 : Int) (x1002_1 : Int),v8 = .int .i64 x8_1 ∧ Aside0 (spec_l6Past.l0 kq a2 x7_1 x8_1 s0_0 x1001_1 x1002_1 a1_0 a1_1 = some (r1,r2,r3)) ∧ Aside0 (kq ≤ k) ∧ Aside0 (Kd.R Kd.bool 4 w' w.heap.size (fun _ => True) v7 x7_1) ∧ Aside0 (w'.heap[gb190]? = some (.cells #[.int .i64 a1_0,.int .i64 a1_1] 37 (0,0))) ∧ Aside0 (IsS141 w0 w' g s0_0 x1001_1 x1002_1) ∧ Aside0 (KeepBut w w' g none) ∧ Aside0 (Below w0.heap.size w0 w'))
 case atStart => exact ⟨(y191),(0),(s0_1),(s0_2),qq225,H',⟨Nat.le_refl _⟩,⟨by (with_reducible repeat (first | apply kA | apply kN | apply kD));exact HO193.out⟩,⟨qq175⟩,⟨qq60⟩,⟨qq81⟩,⟨qq86⟩⟩
 case round =>
  clear H'
  try clear p2
  obtain ⟨x7_1,x8_1,x1001_1,x1002_1,rfl,HA,HK1,HO_7,BK190,HI0,HK,HB⟩:=hrel
  cases gk with
  | zero => exact absurd HA.out (by simp [spec_l6Past.l0])
  | succ k1 =>
   have H:=HA.out;clear HA;simp only [spec_l6Past.l0] at H
   by_cases c7 : x8_1 < a2
   ·rw [if_pos c7] at H;have c7b0 : decide (x8_1 < a2) = true:=decide_eq_true c7;clear c7;replace H:=bS.mp H;obtain ⟨t194,A80,H⟩:=H;replace H : (if t194 = true then ((spec_l1Once.f s0_0 x1001_1 x1002_1 2).bind fun bt195 => (if x7_1.length < 140737488355328 then (spec_l6Past.l0 k1 a2 (x7_1 ++ [bt195.1]) (wrap64 (x8_1 + 1)) s0_0 bt195.2.1 bt195.2.2 a1_0 a1_1) else (none))) else (if x7_1.length < 140737488355328 then (spec_l6Past.l0 k1 a2 (x7_1 ++ [false]) (wrap64 (x8_1 + 1)) s0_0 x1001_1 x1002_1 a1_0 a1_1) else (none))) = some (r1,r2,r3):=H;have A8:=am A80;clear A80
    by_cases c9 : t194 = true
    ·subst c9;have H1 : ((spec_l1Once.f s0_0 x1001_1 x1002_1 2).bind fun bt195 => (if x7_1.length < 140737488355328 then (spec_l6Past.l0 k1 a2 (x7_1 ++ [bt195.1]) (wrap64 (x8_1 + 1)) s0_0 bt195.2.1 bt195.2.2 a1_0 a1_1) else (none))) = some (r1,r2,r3):=by rw [if_pos rfl] at H;exact H
     clear H;have H:=H1;clear H1;replace H:=bS.mp H;obtain ⟨⟨t195,t196,t197⟩,A100,H⟩:=H;replace H : (if x7_1.length < 140737488355328 then (spec_l6Past.l0 k1 a2 (x7_1 ++ [t195]) (wrap64 (x8_1 + 1)) s0_0 t196 t197 a1_0 a1_1) else (none)) = some (r1,r2,r3):=H;have A10:=am A100;clear A100
     by_cases c11 : x7_1.length < 140737488355328
     ·rw [if_pos c11] at H;have LMc11:=am c11;clear c11;obtain ⟨y198,hy198⟩ : ∃ y_ : List Bool,y_ = (x7_1 ++ [t195]):=⟨_,rfl⟩
      replace H : (spec_l6Past.l0 k1 a2 y198 (wrap64 (x8_1 + 1)) s0_0 t196 t197 a1_0 a1_1) = some (r1,r2,r3):=by first | (rw [hy198];with_reducible exact H) | (have H2_:=(Option.bind_some _ _).symm.trans H;rw [hy198];with_reducible exact H2_) | (have H2_:=(Option.bind_some _ _).symm.trans H;with_reducible exact H2_) | with_reducible exact H | (rw [hy198];exact H) | exact H
      have Ny198:=am hy198;clear hy198;have H':=am H;clear H;have hnb12:=NB190_0.out;have hnc12:=NB0_190.out;obtain ⟨hcz13_0,hcz13_1,hfz13_0,hfz13_1⟩:=bcl2 BK190.out;obtain ⟨Ao14,co14,eo14⟩:=Kd.R_slice HO_7.out;subst eo14;go_wp2_with (first | ((with_reducible refine gate_callee (f:=122) rfl ?_);refine goesL_ (some 18) rfl rfl Try.func122 (by kernel_rfl) rfl #[.agg #[.int .i64 a1_0,.int .i64 a1_1],.slice Ao14 x7_1.length co14] rfl qq137 ?_;(with_reducible refine (spec_MayStorm.calls k1 a1_0 a1_1 _ _ x7_1 true _ ?side1 ?side2 A8.out).mono ?_);(case side1 => exact qq111);(case side2 => exact (Kd.R_reads' HO_7.out).2.1);rintro e w15 ⟨rfl,hb⟩;refine ⟨_,rfl,?_⟩;replace HO_7:=am (Kd.R_below qq216 hb);replace BK190:=am (blk_below (g:=gb190) (o:=.cells #[.int .i64 a1_0,.int .i64 a1_1] 37 (0,0)) qq175 hb);replace HK:=am (KeepBut.trans qq81 (KeepBut.of_below hb g none) (.inl rfl));replace HB:=am (below_step qq86 hb);replace HI0:=am (IsS141.below qq60 hb);(try clear hb);(try clear hb2);(try clear hk);(try clear hi)) | (go_at_call 81;(with_reducible refine (spec_l1Once.calls g s0_0 x1001_1 x1002_1 2 t195 t196 t197 w0 _ ?side1 ?side2 A10.out).mono ?_);(case side1 => exact qq60);(case side2 => exact qq86);rintro e w16 ⟨rfl,hi,hb,hk⟩;replace HO_7:=am (Kd.R_mono (Kd.R_keep (IsS141.apart (show IsS141 w0 _ g s0_0 x1001_1 x1002_1 from by repeat (first | (with_reducible first | exact HI0.out | apply IsS141.alloc | apply IsS141.drewN | apply IsS141.drew | apply IsS141.set_1 | apply IsS141.set_2 | refine IsS141.far ?_ NB0_190.out _) | exact HI0.out)) qq216 (by decide)) hk (fun _ h => h.2)) (fun _ h => h.1));replace BK190:=am (KeepBut.blk hk (g':=gb190) (o:=.cells #[.int .i64 a1_0,.int .i64 a1_1] 37 (0,0)) qq175 NB190_0.out (by simp));replace HK:=am (KeepBut.trans qq81 hk (.inl rfl));replace HB:=am (hb);replace HI0:=am (hi);(try clear hb);(try clear hb2);(try clear hk);(try clear hi)) | ((with_reducible refine gate_builtin (b:=.append) (xs:=#[.tmp 15,.tmp 23]) rfl ?_);at_builtin;refine Kd.R_append Kd.bool w.heap.size rfl (.tmp 15) (.tmp 23) 25 4 (.bool false) 1 rfl Try.underlying25 info4 rfl (by decide) (by omega) (.slice Ao14 x7_1.length co14) x7_1 t195 [.bool t195] (fun _ => True) (fun _ => False) rfl rfl ?aP (fun _ hk => hk.elim) ?aF ?aO (Below.refl _ _) ?aS ?aL ?_;(case aP => exact rfl);(case aF => exact qq236);(case aO => exact qq182);(case aS => exact qq51);(case aL => have:=LMc11.out;omega);intro v199 w17 ho hb hg hat;rw [← Ny198.out] at ho;replace BK190:=am (blk_grown (g:=gb190) (o:=.cells #[.int .i64 a1_0,.int .i64 a1_1] 37 (0,0)) qq175 hg (Kd.R_ne HO_7.out BK190.out (by decide)));replace HB:=am (below_weaken qq86 HL.out hb);replace HI0:=am (IsS141.grown qq60 hg (IsS141.own_ne HI0.out HO_7.out (by decide)));replace HK:=am (KeepBut.trans qq81 (KeepBut.of_grown hg g) (Kd.R_base2 HO_7.out));have HO200:=am (ho);clear HO_7;clear ho hb hg hat))
      go_roundg k1
      case measure => have:=HK1.out;omega
      case rel => exact ⟨(y198),(wrap64 (x8_1 + 1)),(t196),(t197),qq225,H',⟨qq239⟩,⟨by (with_reducible repeat (first | apply kA | apply kN | apply kD));exact HO200.out⟩,⟨qq175⟩,⟨qq60⟩,⟨qq81⟩,⟨qq86⟩⟩
     ·rw [if_neg c11] at H;exact absurd H (by simp)
    ·replace c9:=Bool.eq_false_iff.mpr c9;subst c9;have H1 : (if x7_1.length < 140737488355328 then (spec_l6Past.l0 k1 a2 (x7_1 ++ [false]) (wrap64 (x8_1 + 1)) s0_0 x1001_1 x1002_1 a1_0 a1_1) else (none)) = some (r1,r2,r3):=by rw [if_neg (show ¬ (false = true) by decide)] at H;exact H
     clear H;have H:=H1;clear H1
     by_cases c18 : x7_1.length < 140737488355328
     ·rw [if_pos c18] at H;have LMc18:=am c18;clear c18;obtain ⟨y201,hy201⟩ : ∃ y_ : List Bool,y_ = (x7_1 ++ [false]):=⟨_,rfl⟩
      replace H : (spec_l6Past.l0 k1 a2 y201 (wrap64 (x8_1 + 1)) s0_0 x1001_1 x1002_1 a1_0 a1_1) = some (r1,r2,r3):=by first | (rw [hy201];with_reducible exact H) | (have H2_:=(Option.bind_some _ _).symm.trans H;rw [hy201];with_reducible exact H2_) | (have H2_:=(Option.bind_some _ _).symm.trans H;with_reducible exact H2_) | with_reducible exact H | (rw [hy201];exact H) | exact H
      have Ny201:=am hy201;clear hy201;have H':=am H;clear H;have hnb19:=NB190_0.out;have hnc19:=NB0_190.out;obtain ⟨hcz20_0,hcz20_1,hfz20_0,hfz20_1⟩:=bcl2 BK190.out;obtain ⟨Ao21,co21,eo21⟩:=Kd.R_slice HO_7.out;subst eo21;go_wp2_with (first | ((with_reducible refine gate_callee (f:=122) rfl ?_);refine goesL_ (some 18) rfl rfl Try.func122 (by kernel_rfl) rfl #[.agg #[.int .i64 a1_0,.int .i64 a1_1],.slice Ao21 x7_1.length co21] rfl qq137 ?_;(with_reducible refine (spec_MayStorm.calls k1 a1_0 a1_1 _ _ x7_1 false _ ?side1 ?side2 A8.out).mono ?_);(case side1 => exact qq111);(case side2 => exact (Kd.R_reads' HO_7.out).2.1);rintro e w22 ⟨rfl,hb⟩;refine ⟨_,rfl,?_⟩;replace HO_7:=am (Kd.R_below qq216 hb);replace BK190:=am (blk_below (g:=gb190) (o:=.cells #[.int .i64 a1_0,.int .i64 a1_1] 37 (0,0)) qq175 hb);replace HK:=am (KeepBut.trans qq81 (KeepBut.of_below hb g none) (.inl rfl));replace HB:=am (below_step qq86 hb);replace HI0:=am (IsS141.below qq60 hb);(try clear hb);(try clear hb2);(try clear hk);(try clear hi)) | ((with_reducible refine gate_builtin (b:=.append) (xs:=#[.tmp 15,.tmp 23]) rfl ?_);at_builtin;refine Kd.R_append Kd.bool w.heap.size rfl (.tmp 15) (.tmp 23) 25 4 (.bool false) 1 rfl Try.underlying25 info4 rfl (by decide) (by omega) (.slice Ao21 x7_1.length co21) x7_1 false [.bool false] (fun _ => True) (fun _ => False) rfl rfl ?aP (fun _ hk => hk.elim) ?aF ?aO (Below.refl _ _) ?aS ?aL ?_;(case aP => exact rfl);(case aF => exact qq236);(case aO => exact qq182);(case aS => exact qq51);(case aL => have:=LMc18.out;omega);intro v202 w23 ho hb hg hat;rw [← Ny201.out] at ho;replace BK190:=am (blk_grown (g:=gb190) (o:=.cells #[.int .i64 a1_0,.int .i64 a1_1] 37 (0,0)) qq175 hg (Kd.R_ne HO_7.out BK190.out (by decide)));replace HB:=am (below_weaken qq86 HL.out hb);replace HI0:=am (IsS141.grown qq60 hg (IsS141.own_ne HI0.out HO_7.out (by decide)));replace HK:=am (KeepBut.trans qq81 (KeepBut.of_grown hg g) (Kd.R_base2 HO_7.out));have HO203:=am (ho);clear HO_7;clear ho hb hg hat))
      go_roundg k1
      case measure => have:=HK1.out;omega
      case rel => exact ⟨(y201),(wrap64 (x8_1 + 1)),(x1001_1),(x1002_1),qq225,H',⟨qq239⟩,⟨by (with_reducible repeat (first | apply kA | apply kN | apply kD));exact HO203.out⟩,⟨qq175⟩,⟨qq60⟩,⟨qq81⟩,⟨qq86⟩⟩
     ·rw [if_neg c18] at H;exact absurd H (by simp)
   ·rw [if_neg c7] at H;have c7b0 : decide (x8_1 < a2) = false:=decide_eq_false c7;clear c7;simp only [Option.some.injEq,Prod.mk.injEq] at H;obtain ⟨rfl,rfl,rfl⟩:=H;go_wp2
    go_ret
    exact ⟨_,qq180,qq216,qq60,qq86,qq81⟩

end Go.Proofs.Ytcbkknpmeknppaa.PFnRations
