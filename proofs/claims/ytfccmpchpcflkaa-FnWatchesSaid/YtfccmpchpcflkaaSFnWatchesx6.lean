/- Contracts of functions that the law FnWatches reaches, for its row: lines that the kit's printer wrote for this claim, set shorter by a program of this session (own.py), and what fell in Lean proved anew. Lean checks them. -/
import Derived.Test.YtfccmpchpcflkaaSFnWatchesx0
import Derived.Test.YtfccmpchpcflkaaSFnWatchesx2
import Derived.Test.YtfccmpchpcflkaaSFnWatchesx3
import Derived.Test.YtfccmpchpcflkaaSFnWatchesx4
import Derived.Test.YtfccmpchpcflkaaSFnWatchesx5
namespace Go.Proofs.Ytfccmpchpcflkaa.PFnWatches
open Go.RowKit Go.Proofs.YtfccmpchpcflkaaW.PrintWords Go.Proofs.YtfccmpchpcflkaaW.PrintLast Go.Proofs.YtfccmpchpcflkaaW.PrintMore
attribute [local go_sem] max2_int min2_int max_two min_two max_three min_three max_four min_four   -- for this text's walks alone
set_option linter.unusedVariables false
set_option linter.unusedSimpArgs false

/-! ### laws_FnWatches: function 8 -/
mutual
def laws_FnWatches.j0 : Nat → List Int → Bool → Option (Bool)
 | 0, _, _ => none
 | k + 1, x0, x64 => if x64 = true then (some false) else ((spec_DrawWatchHours.f k x0).bind fun bt329 => ((impl_WatchHours.f k bt329.1 bt329.2.1 bt329.2.2.1 bt329.2.2.2).bind fun t335 => (if t335 < 0 then (laws_FnWatches.j1 k x0 true) else (if t335 > 0 then (laws_FnWatches.j1 k x0 (decide (t335 > bt329.2.2.2))) else (laws_FnWatches.j1 k x0 false)))))
def laws_FnWatches.j1 : Nat → List Int → Bool → Option (Bool)
 | 0, _, _ => none
 | k + 1, x0, x87 => if x87 = true then (some false) else ((spec_DrawSwapWatch.f k x0).bind fun bt336 => ((impl_SwapWatch.f k bt336.1 bt336.2.1 bt336.2.2).bind fun t341 => (if t341 = (-1) then (some true) else (if t341 > bt336.2.1 then ((impl_WatchOf.f k bt336.1 t341).bind fun t342 => (if t342 = bt336.2.2 then ((impl_SleepHours.f k bt336.1 bt336.2.2 bt336.2.1).bind fun t343 => (some (decide (t343 ≤ (wrap64 (t341 - 1)))))) else (some false))) else (some false)))))
end
def laws_FnWatches.f (k : Nat) (l0 : List Int) : Option (Bool) := (laws_big.f l0).bind fun t301 => (if t301 = true then (some true) else ((spec_DrawFairGap.f k l0).bind fun bt302 => ((impl_FairGap.f k bt302.1 bt302.2.1 bt302.2.2).bind fun t307 => (if t307 > 1 then (some false) else ((spec_DrawWatchOf.f k l0).bind fun bt308 => ((impl_WatchOf.f k bt308.1 bt308.2).bind fun t312 => ((impl_AreCrew.f k bt308.1).bind fun t313 => (if t313 = true then ((impl_Healthy.f k bt308.1).bind fun t314 => (if (t314.length : Int) > 0 then (if ((t312 != 0) != (decide (bt308.2 ≥ 0))) = true then (laws_FnWatches.j0 k l0 true) else (if t312 = 0 then (laws_FnWatches.j0 k l0 false) else ((impl_Healthy.f k bt308.1).bind fun t317 => ((laws_contains.f k t317 t312).bind fun t320 => (laws_FnWatches.j0 k l0 (!t320)))))) else (if ((t312 != 0) != false) = true then (laws_FnWatches.j0 k l0 true) else (if t312 = 0 then (laws_FnWatches.j0 k l0 false) else ((impl_Healthy.f k bt308.1).bind fun t321 => ((laws_contains.f k t321 t312).bind fun t324 => (laws_FnWatches.j0 k l0 (!t324)))))))) else (if ((t312 != 0) != false) = true then (laws_FnWatches.j0 k l0 true) else (if t312 = 0 then (laws_FnWatches.j0 k l0 false) else ((impl_Healthy.f k bt308.1).bind fun t325 => ((laws_contains.f k t325 t312).bind fun t328 => (laws_FnWatches.j0 k l0 (!t328))))))))))))))
theorem laws_FnWatches.mono_l : ∀ k, (∀ y0 y1, LeO (laws_FnWatches.j0 k y0 y1) (laws_FnWatches.j0 (k + 1) y0 y1)) ∧ (∀ y0 y1, LeO (laws_FnWatches.j1 k y0 y1) (laws_FnWatches.j1 (k + 1) y0 y1))
 | 0 => ⟨fun _ _ r h => by simp [laws_FnWatches.j0] at h, fun _ _ r h => by simp [laws_FnWatches.j1] at h⟩
 | k + 1 => by
  obtain ⟨ih0, ih1⟩ := laws_FnWatches.mono_l k
  refine ⟨?_, ?_⟩
  ·intro y0 y1
   unfold laws_FnWatches.j0
   repeat' first
   | (with_reducible exact ih0 _ _)
   | (with_reducible exact ih1 _ _)
   | (with_reducible exact impl_AreCrew.mono _ _)
   | (with_reducible exact impl_FairGap.mono _ _ _ _)
   | (with_reducible exact impl_Healthy.mono _ _)
   | (with_reducible exact impl_SleepHours.mono _ _ _ _)
   | (with_reducible exact impl_SwapWatch.mono _ _ _ _)
   | (with_reducible exact impl_WatchHours.mono _ _ _ _ _)
   | (with_reducible exact impl_WatchOf.mono _ _ _)
   | (with_reducible exact laws_contains.mono _ _ _)
   | (with_reducible exact spec_DrawFairGap.mono _ _)
   | (with_reducible exact spec_DrawSwapWatch.mono _ _)
   | (with_reducible exact spec_DrawWatchHours.mono _ _)
   | (with_reducible exact spec_DrawWatchOf.mono _ _)
   | (with_reducible exact LeO.refl _)
   | (with_reducible exact LeO.none _)
   | (with_reducible refine LeO.ite ?_ ?_)
   | (with_reducible refine LeO.bind ?_ (fun _ => ?_))
   | exact ih0 _ _
   | exact ih1 _ _
   | exact impl_AreCrew.mono _ _
   | exact impl_FairGap.mono _ _ _ _
   | exact impl_Healthy.mono _ _
   | exact impl_SleepHours.mono _ _ _ _
   | exact impl_SwapWatch.mono _ _ _ _
   | exact impl_WatchHours.mono _ _ _ _ _
   | exact impl_WatchOf.mono _ _ _
   | exact laws_contains.mono _ _ _
   | exact spec_DrawFairGap.mono _ _
   | exact spec_DrawSwapWatch.mono _ _
   | exact spec_DrawWatchHours.mono _ _
   | exact spec_DrawWatchOf.mono _ _
   | exact LeO.none _
   | refine LeO.ite ?_ ?_
   | refine LeO.bind ?_ (fun _ => ?_)
  ·intro y0 y1
   unfold laws_FnWatches.j1
   repeat' first
   | (with_reducible exact ih0 _ _)
   | (with_reducible exact ih1 _ _)
   | (with_reducible exact impl_AreCrew.mono _ _)
   | (with_reducible exact impl_FairGap.mono _ _ _ _)
   | (with_reducible exact impl_Healthy.mono _ _)
   | (with_reducible exact impl_SleepHours.mono _ _ _ _)
   | (with_reducible exact impl_SwapWatch.mono _ _ _ _)
   | (with_reducible exact impl_WatchHours.mono _ _ _ _ _)
   | (with_reducible exact impl_WatchOf.mono _ _ _)
   | (with_reducible exact laws_contains.mono _ _ _)
   | (with_reducible exact spec_DrawFairGap.mono _ _)
   | (with_reducible exact spec_DrawSwapWatch.mono _ _)
   | (with_reducible exact spec_DrawWatchHours.mono _ _)
   | (with_reducible exact spec_DrawWatchOf.mono _ _)
   | (with_reducible exact LeO.refl _)
   | (with_reducible exact LeO.none _)
   | (with_reducible refine LeO.ite ?_ ?_)
   | (with_reducible refine LeO.bind ?_ (fun _ => ?_))
   | exact ih0 _ _
   | exact ih1 _ _
   | exact impl_AreCrew.mono _ _
   | exact impl_FairGap.mono _ _ _ _
   | exact impl_Healthy.mono _ _
   | exact impl_SleepHours.mono _ _ _ _
   | exact impl_SwapWatch.mono _ _ _ _
   | exact impl_WatchHours.mono _ _ _ _ _
   | exact impl_WatchOf.mono _ _ _
   | exact laws_contains.mono _ _ _
   | exact spec_DrawFairGap.mono _ _
   | exact spec_DrawSwapWatch.mono _ _
   | exact spec_DrawWatchHours.mono _ _
   | exact spec_DrawWatchOf.mono _ _
   | exact LeO.none _
   | refine LeO.ite ?_ ?_
   | refine LeO.bind ?_ (fun _ => ?_)
theorem laws_FnWatches.mono : ∀ a0 k, LeO (laws_FnWatches.f k a0) (laws_FnWatches.f (k + 1) a0) := by
 intro a0 k
 obtain ⟨ih0, ih1⟩ := laws_FnWatches.mono_l k
 unfold laws_FnWatches.f
 repeat' first
   | (with_reducible exact ih0 _ _)
   | (with_reducible exact ih1 _ _)
   | (with_reducible exact impl_AreCrew.mono _ _)
   | (with_reducible exact impl_FairGap.mono _ _ _ _)
   | (with_reducible exact impl_Healthy.mono _ _)
   | (with_reducible exact impl_SleepHours.mono _ _ _ _)
   | (with_reducible exact impl_SwapWatch.mono _ _ _ _)
   | (with_reducible exact impl_WatchHours.mono _ _ _ _ _)
   | (with_reducible exact impl_WatchOf.mono _ _ _)
   | (with_reducible exact laws_contains.mono _ _ _)
   | (with_reducible exact spec_DrawFairGap.mono _ _)
   | (with_reducible exact spec_DrawSwapWatch.mono _ _)
   | (with_reducible exact spec_DrawWatchHours.mono _ _)
   | (with_reducible exact spec_DrawWatchOf.mono _ _)
   | (with_reducible exact LeO.refl _)
   | (with_reducible exact LeO.none _)
   | (with_reducible refine LeO.ite ?_ ?_)
   | (with_reducible refine LeO.bind ?_ (fun _ => ?_))
   | exact ih0 _ _
   | exact ih1 _ _
   | exact impl_AreCrew.mono _ _
   | exact impl_FairGap.mono _ _ _ _
   | exact impl_Healthy.mono _ _
   | exact impl_SleepHours.mono _ _ _ _
   | exact impl_SwapWatch.mono _ _ _ _
   | exact impl_WatchHours.mono _ _ _ _ _
   | exact impl_WatchOf.mono _ _ _
   | exact laws_contains.mono _ _ _
   | exact spec_DrawFairGap.mono _ _
   | exact spec_DrawSwapWatch.mono _ _
   | exact spec_DrawWatchHours.mono _ _
   | exact spec_DrawWatchOf.mono _ _
   | exact LeO.none _
   | refine LeO.ite ?_ ?_
   | refine LeO.bind ?_ (fun _ => ?_)
set_option maxHeartbeats 8000000 in
set_option maxRecDepth 100000 in
theorem laws_FnWatches.calls (k : Nat) (A0 : Option Addr) (c0 : Nat) (l0 : List Int) (r : Bool) (w : World) (hr0 : Kd.C (Kd.int .u8) w A0 l0.length l0) (hc0 : l0.length ≤ c0) (h : laws_FnWatches.f k l0 = some r) :
  Calls Try.prog 8 #[.slice A0 l0.length c0] w fun e w' => e = .returned (.bool r) ∧ Below w.heap.size w w' := by
 have HR0 := Aside0.mk hr0
 have HC0 := Aside0.mk hc0
 clear hr0 hc0
 have HB := Aside0.mk (Below.refl w.heap.size w)
 have H : ((laws_big.f l0).bind fun t301 => (if t301 = true then (some true) else ((spec_DrawFairGap.f k l0).bind fun bt302 => ((impl_FairGap.f k bt302.1 bt302.2.1 bt302.2.2).bind fun t307 => (if t307 > 1 then (some false) else ((spec_DrawWatchOf.f k l0).bind fun bt308 => ((impl_WatchOf.f k bt308.1 bt308.2).bind fun t312 => ((impl_AreCrew.f k bt308.1).bind fun t313 => (if t313 = true then ((impl_Healthy.f k bt308.1).bind fun t314 => (if (t314.length : Int) > 0 then (if ((t312 != 0) != (decide (bt308.2 ≥ 0))) = true then (laws_FnWatches.j0 k l0 true) else (if t312 = 0 then (laws_FnWatches.j0 k l0 false) else ((impl_Healthy.f k bt308.1).bind fun t317 => ((laws_contains.f k t317 t312).bind fun t320 => (laws_FnWatches.j0 k l0 (!t320)))))) else (if ((t312 != 0) != false) = true then (laws_FnWatches.j0 k l0 true) else (if t312 = 0 then (laws_FnWatches.j0 k l0 false) else ((impl_Healthy.f k bt308.1).bind fun t321 => ((laws_contains.f k t321 t312).bind fun t324 => (laws_FnWatches.j0 k l0 (!t324)))))))) else (if ((t312 != 0) != false) = true then (laws_FnWatches.j0 k l0 true) else (if t312 = 0 then (laws_FnWatches.j0 k l0 false) else ((impl_Healthy.f k bt308.1).bind fun t325 => ((laws_contains.f k t325 t312).bind fun t328 => (laws_FnWatches.j0 k l0 (!t328))))))))))))))) = some r := h
 clear h
 replace H := Option.bind_eq_some_iff.mp H
 obtain ⟨t301, A20, H⟩ := H
 replace H : (if t301 = true then (some true) else ((spec_DrawFairGap.f k l0).bind fun bt302 => ((impl_FairGap.f k bt302.1 bt302.2.1 bt302.2.2).bind fun t307 => (if t307 > 1 then (some false) else ((spec_DrawWatchOf.f k l0).bind fun bt308 => ((impl_WatchOf.f k bt308.1 bt308.2).bind fun t312 => ((impl_AreCrew.f k bt308.1).bind fun t313 => (if t313 = true then ((impl_Healthy.f k bt308.1).bind fun t314 => (if (t314.length : Int) > 0 then (if ((t312 != 0) != (decide (bt308.2 ≥ 0))) = true then (laws_FnWatches.j0 k l0 true) else (if t312 = 0 then (laws_FnWatches.j0 k l0 false) else ((impl_Healthy.f k bt308.1).bind fun t317 => ((laws_contains.f k t317 t312).bind fun t320 => (laws_FnWatches.j0 k l0 (!t320)))))) else (if ((t312 != 0) != false) = true then (laws_FnWatches.j0 k l0 true) else (if t312 = 0 then (laws_FnWatches.j0 k l0 false) else ((impl_Healthy.f k bt308.1).bind fun t321 => ((laws_contains.f k t321 t312).bind fun t324 => (laws_FnWatches.j0 k l0 (!t324)))))))) else (if ((t312 != 0) != false) = true then (laws_FnWatches.j0 k l0 true) else (if t312 = 0 then (laws_FnWatches.j0 k l0 false) else ((impl_Healthy.f k bt308.1).bind fun t325 => ((laws_contains.f k t325 t312).bind fun t328 => (laws_FnWatches.j0 k l0 (!t328)))))))))))))) = some r := H
 have A2 := Aside0.mk A20
 clear A20
 by_cases c3 : t301 = true
 ·subst c3
  have H1 : (some true) = some r := by rw [if_pos rfl] at H; exact H
  clear H
  have H := H1
  clear H1
  obtain rfl := Option.some.inj H
  go_enter Try.func8, Try.ntmps8
  go_wp2_with (first | ((with_reducible refine gate_callee (f := 27) rfl ?_); refine goesL_ (some 19) rfl rfl Try.func27 (by kernel_rfl) rfl #[.slice A0 l0.length c0] rfl (by (try simp only [List.map_toArray, List.map_cons, List.map_nil]); first | done | rfl | (simp only [List.length_drop, List.length_take]; rfl)) ?_; (with_reducible refine (laws_big.calls _ _ l0 true _ ?side1 ?side2 A2.out).mono ?_); (case side1 => repeat (first | exact HR0.out | (with_reducible refine Kd.C_alloc ?_ _) | (with_reducible refine Kd.C_drewN ?_ _) | (with_reducible refine Kd.C_drew ?_))); (case side2 => exact HC0.out); rintro e w' ⟨rfl, ⟨nd, rfl⟩⟩; refine ⟨_, rfl, ?_⟩))
  go_ret
  exact ⟨by first | rfl | (simp [errW_none, errW_some] <;> rfl) | (simp [*, errW_none, errW_some] <;> rfl), by repeat (first | (with_reducible first | exact HB.out | apply below_alloc | apply pw_below_drewN | apply below_drew1) | exact HB.out)⟩
 ·replace c3 := Bool.eq_false_iff.mpr c3
  subst c3
  have H1 : ((spec_DrawFairGap.f k l0).bind fun bt302 => ((impl_FairGap.f k bt302.1 bt302.2.1 bt302.2.2).bind fun t307 => (if t307 > 1 then (some false) else ((spec_DrawWatchOf.f k l0).bind fun bt308 => ((impl_WatchOf.f k bt308.1 bt308.2).bind fun t312 => ((impl_AreCrew.f k bt308.1).bind fun t313 => (if t313 = true then ((impl_Healthy.f k bt308.1).bind fun t314 => (if (t314.length : Int) > 0 then (if ((t312 != 0) != (decide (bt308.2 ≥ 0))) = true then (laws_FnWatches.j0 k l0 true) else (if t312 = 0 then (laws_FnWatches.j0 k l0 false) else ((impl_Healthy.f k bt308.1).bind fun t317 => ((laws_contains.f k t317 t312).bind fun t320 => (laws_FnWatches.j0 k l0 (!t320)))))) else (if ((t312 != 0) != false) = true then (laws_FnWatches.j0 k l0 true) else (if t312 = 0 then (laws_FnWatches.j0 k l0 false) else ((impl_Healthy.f k bt308.1).bind fun t321 => ((laws_contains.f k t321 t312).bind fun t324 => (laws_FnWatches.j0 k l0 (!t324)))))))) else (if ((t312 != 0) != false) = true then (laws_FnWatches.j0 k l0 true) else (if t312 = 0 then (laws_FnWatches.j0 k l0 false) else ((impl_Healthy.f k bt308.1).bind fun t325 => ((laws_contains.f k t325 t312).bind fun t328 => (laws_FnWatches.j0 k l0 (!t328))))))))))))) = some r := by rw [if_neg (show ¬ (false = true) by decide)] at H; exact H
  clear H
  have H := H1
  clear H1
  replace H := Option.bind_eq_some_iff.mp H
  obtain ⟨⟨t302, t303, t304⟩, A40, H⟩ := H
  replace H : ((impl_FairGap.f k t302 t303 t304).bind fun t307 => (if t307 > 1 then (some false) else ((spec_DrawWatchOf.f k l0).bind fun bt308 => ((impl_WatchOf.f k bt308.1 bt308.2).bind fun t312 => ((impl_AreCrew.f k bt308.1).bind fun t313 => (if t313 = true then ((impl_Healthy.f k bt308.1).bind fun t314 => (if (t314.length : Int) > 0 then (if ((t312 != 0) != (decide (bt308.2 ≥ 0))) = true then (laws_FnWatches.j0 k l0 true) else (if t312 = 0 then (laws_FnWatches.j0 k l0 false) else ((impl_Healthy.f k bt308.1).bind fun t317 => ((laws_contains.f k t317 t312).bind fun t320 => (laws_FnWatches.j0 k l0 (!t320)))))) else (if ((t312 != 0) != false) = true then (laws_FnWatches.j0 k l0 true) else (if t312 = 0 then (laws_FnWatches.j0 k l0 false) else ((impl_Healthy.f k bt308.1).bind fun t321 => ((laws_contains.f k t321 t312).bind fun t324 => (laws_FnWatches.j0 k l0 (!t324)))))))) else (if ((t312 != 0) != false) = true then (laws_FnWatches.j0 k l0 true) else (if t312 = 0 then (laws_FnWatches.j0 k l0 false) else ((impl_Healthy.f k bt308.1).bind fun t325 => ((laws_contains.f k t325 t312).bind fun t328 => (laws_FnWatches.j0 k l0 (!t328)))))))))))) = some r := H
  have A4 := Aside0.mk A40
  clear A40
  replace H := Option.bind_eq_some_iff.mp H
  obtain ⟨t307, A50, H⟩ := H
  replace H : (if t307 > 1 then (some false) else ((spec_DrawWatchOf.f k l0).bind fun bt308 => ((impl_WatchOf.f k bt308.1 bt308.2).bind fun t312 => ((impl_AreCrew.f k bt308.1).bind fun t313 => (if t313 = true then ((impl_Healthy.f k bt308.1).bind fun t314 => (if (t314.length : Int) > 0 then (if ((t312 != 0) != (decide (bt308.2 ≥ 0))) = true then (laws_FnWatches.j0 k l0 true) else (if t312 = 0 then (laws_FnWatches.j0 k l0 false) else ((impl_Healthy.f k bt308.1).bind fun t317 => ((laws_contains.f k t317 t312).bind fun t320 => (laws_FnWatches.j0 k l0 (!t320)))))) else (if ((t312 != 0) != false) = true then (laws_FnWatches.j0 k l0 true) else (if t312 = 0 then (laws_FnWatches.j0 k l0 false) else ((impl_Healthy.f k bt308.1).bind fun t321 => ((laws_contains.f k t321 t312).bind fun t324 => (laws_FnWatches.j0 k l0 (!t324)))))))) else (if ((t312 != 0) != false) = true then (laws_FnWatches.j0 k l0 true) else (if t312 = 0 then (laws_FnWatches.j0 k l0 false) else ((impl_Healthy.f k bt308.1).bind fun t325 => ((laws_contains.f k t325 t312).bind fun t328 => (laws_FnWatches.j0 k l0 (!t328))))))))))) = some r := H
  have A5 := Aside0.mk A50
  clear A50
  by_cases c6 : t307 > 1
  ·rw [if_pos c6] at H
   have c6b0 : decide (1 < t307) = true := decide_eq_true c6
   clear c6
   obtain rfl := Option.some.inj H
   go_enter Try.func8, Try.ntmps8
   go_wp2_with (first | ((with_reducible refine gate_callee (f := 27) rfl ?_); refine goesL_ (some 19) rfl rfl Try.func27 (by kernel_rfl) rfl #[.slice A0 l0.length c0] rfl (by (try simp only [List.map_toArray, List.map_cons, List.map_nil]); first | done | rfl | (simp only [List.length_drop, List.length_take]; rfl)) ?_; (with_reducible refine (laws_big.calls _ _ l0 false _ ?side1 ?side2 A2.out).mono ?_); (case side1 => repeat (first | exact HR0.out | (with_reducible refine Kd.C_alloc ?_ _) | (with_reducible refine Kd.C_drewN ?_ _) | (with_reducible refine Kd.C_drew ?_))); (case side2 => exact HC0.out); rintro e w' ⟨rfl, ⟨nd, rfl⟩⟩; refine ⟨_, rfl, ?_⟩) | ((with_reducible refine gate_callee (f := 28) rfl ?_); refine goesL_ (some 22) rfl rfl Try.func28 (by kernel_rfl) rfl #[.slice A0 l0.length c0] rfl (by (try simp only [List.map_toArray, List.map_cons, List.map_nil]); first | done | rfl | (simp only [List.length_drop, List.length_take]; rfl)) ?_; (with_reducible refine (spec_DrawFairGap.calls k _ _ l0 t302 t303 t304 _ ?side1 ?side2 A4.out).mono ?_); (case side1 => repeat (first | exact HR0.out | (with_reducible refine Kd.C_alloc ?_ _) | (with_reducible refine Kd.C_drewN ?_ _) | (with_reducible refine Kd.C_drew ?_))); (case side2 => exact HC0.out); rintro e w7 ⟨v305, rfl, ho0, hb⟩; refine ⟨_, rfl, ?_⟩; have n0_ := Aside0.mk (Kd.R_lower ho0 (below_size (by repeat (first | (with_reducible first | exact HB.out | apply below_alloc | apply pw_below_drewN | apply below_drew1) | exact HB.out)))); have n1_ := Aside0.mk (below_step (by repeat (first | (with_reducible first | exact HB.out | apply below_alloc | apply pw_below_drewN | apply below_drew1) | exact HB.out)) hb); clear HB; have HO306 := n0_; have HB := n1_; clear n0_ n1_; (try clear hb); (try clear hb2); (try clear hk); (try clear hi); (try clear ho0); obtain ⟨Ao8, co8, eo8⟩ := Kd.R_slice HO306.out; subst eo8) | ((with_reducible refine gate_callee (f := 26) rfl ?_); refine goesL_ (some 29) rfl rfl Try.func26 (by kernel_rfl) rfl #[.slice Ao8 t302.length co8, .int .i64 t303, .int .i64 t304] rfl (by (try simp only [List.map_toArray, List.map_cons, List.map_nil]); first | done | rfl | (simp only [List.length_drop, List.length_take]; rfl)) ?_; (with_reducible refine (impl_FairGap.calls k _ _ t302 t303 t304 t307 _ ?side1 ?side2 A5.out).mono ?_); (case side1 => repeat (first | exact (Kd.R_reads' HO306.out).2.2 | (with_reducible refine Kd.C_alloc ?_ _) | (with_reducible refine Kd.C_drewN ?_ _) | (with_reducible refine Kd.C_drew ?_))); (case side2 => exact (Kd.R_reads' HO306.out).2.1); rintro e w9 ⟨rfl, hb⟩; refine ⟨_, rfl, ?_⟩; have n0_ := Aside0.mk (Kd.R_below (by (with_reducible repeat (first | apply Kd.R_alloc | apply Kd.R_drewN | apply Kd.R_drew)); exact HO306.out) hb); have n1_ := Aside0.mk (below_step (by repeat (first | (with_reducible first | exact HB.out | apply below_alloc | apply pw_below_drewN | apply below_drew1) | exact HB.out)) hb); clear HO306; clear HB; have HO306 := n0_; have HB := n1_; clear n0_ n1_; (try clear hb); (try clear hb2); (try clear hk); (try clear hi)))
   go_ret
   exact ⟨by first | rfl | (simp [errW_none, errW_some] <;> rfl) | (simp [*, errW_none, errW_some] <;> rfl), by repeat (first | (with_reducible first | exact HB.out | apply below_alloc | apply pw_below_drewN | apply below_drew1) | exact HB.out)⟩
  ·rw [if_neg c6] at H
   have c6b0 : decide (1 < t307) = false := decide_eq_false c6
   clear c6
   replace H := Option.bind_eq_some_iff.mp H
   obtain ⟨⟨t308, t309⟩, A100, H⟩ := H
   replace H : ((impl_WatchOf.f k t308 t309).bind fun t312 => ((impl_AreCrew.f k t308).bind fun t313 => (if t313 = true then ((impl_Healthy.f k t308).bind fun t314 => (if (t314.length : Int) > 0 then (if ((t312 != 0) != (decide (t309 ≥ 0))) = true then (laws_FnWatches.j0 k l0 true) else (if t312 = 0 then (laws_FnWatches.j0 k l0 false) else ((impl_Healthy.f k t308).bind fun t317 => ((laws_contains.f k t317 t312).bind fun t320 => (laws_FnWatches.j0 k l0 (!t320)))))) else (if ((t312 != 0) != false) = true then (laws_FnWatches.j0 k l0 true) else (if t312 = 0 then (laws_FnWatches.j0 k l0 false) else ((impl_Healthy.f k t308).bind fun t321 => ((laws_contains.f k t321 t312).bind fun t324 => (laws_FnWatches.j0 k l0 (!t324)))))))) else (if ((t312 != 0) != false) = true then (laws_FnWatches.j0 k l0 true) else (if t312 = 0 then (laws_FnWatches.j0 k l0 false) else ((impl_Healthy.f k t308).bind fun t325 => ((laws_contains.f k t325 t312).bind fun t328 => (laws_FnWatches.j0 k l0 (!t328))))))))) = some r := H
   have A10 := Aside0.mk A100
   clear A100
   replace H := Option.bind_eq_some_iff.mp H
   obtain ⟨t312, A110, H⟩ := H
   replace H : ((impl_AreCrew.f k t308).bind fun t313 => (if t313 = true then ((impl_Healthy.f k t308).bind fun t314 => (if (t314.length : Int) > 0 then (if ((t312 != 0) != (decide (t309 ≥ 0))) = true then (laws_FnWatches.j0 k l0 true) else (if t312 = 0 then (laws_FnWatches.j0 k l0 false) else ((impl_Healthy.f k t308).bind fun t317 => ((laws_contains.f k t317 t312).bind fun t320 => (laws_FnWatches.j0 k l0 (!t320)))))) else (if ((t312 != 0) != false) = true then (laws_FnWatches.j0 k l0 true) else (if t312 = 0 then (laws_FnWatches.j0 k l0 false) else ((impl_Healthy.f k t308).bind fun t321 => ((laws_contains.f k t321 t312).bind fun t324 => (laws_FnWatches.j0 k l0 (!t324)))))))) else (if ((t312 != 0) != false) = true then (laws_FnWatches.j0 k l0 true) else (if t312 = 0 then (laws_FnWatches.j0 k l0 false) else ((impl_Healthy.f k t308).bind fun t325 => ((laws_contains.f k t325 t312).bind fun t328 => (laws_FnWatches.j0 k l0 (!t328)))))))) = some r := H
   have A11 := Aside0.mk A110
   clear A110
   have HC12 := Aside0.mk H
   clear H
   go_enter Try.func8, Try.ntmps8
   go_upto_region 8 with (first | ((with_reducible refine gate_callee (f := 27) rfl ?_); refine goesL_ (some 19) rfl rfl Try.func27 (by kernel_rfl) rfl #[.slice A0 l0.length c0] rfl (by (try simp only [List.map_toArray, List.map_cons, List.map_nil]); first | done | rfl | (simp only [List.length_drop, List.length_take]; rfl)) ?_; (with_reducible refine (laws_big.calls _ _ l0 false _ ?side1 ?side2 A2.out).mono ?_); (case side1 => repeat (first | exact HR0.out | (with_reducible refine Kd.C_alloc ?_ _) | (with_reducible refine Kd.C_drewN ?_ _) | (with_reducible refine Kd.C_drew ?_))); (case side2 => exact HC0.out); rintro e w' ⟨rfl, ⟨nd, rfl⟩⟩; refine ⟨_, rfl, ?_⟩) | ((with_reducible refine gate_callee (f := 28) rfl ?_); refine goesL_ (some 22) rfl rfl Try.func28 (by kernel_rfl) rfl #[.slice A0 l0.length c0] rfl (by (try simp only [List.map_toArray, List.map_cons, List.map_nil]); first | done | rfl | (simp only [List.length_drop, List.length_take]; rfl)) ?_; (with_reducible refine (spec_DrawFairGap.calls k _ _ l0 t302 t303 t304 _ ?side1 ?side2 A4.out).mono ?_); (case side1 => repeat (first | exact HR0.out | (with_reducible refine Kd.C_alloc ?_ _) | (with_reducible refine Kd.C_drewN ?_ _) | (with_reducible refine Kd.C_drew ?_))); (case side2 => exact HC0.out); rintro e w13 ⟨v305, rfl, ho0, hb⟩; refine ⟨_, rfl, ?_⟩; have n0_ := Aside0.mk (Kd.R_lower ho0 (below_size (by repeat (first | (with_reducible first | exact HB.out | apply below_alloc | apply pw_below_drewN | apply below_drew1) | exact HB.out)))); have n1_ := Aside0.mk (below_step (by repeat (first | (with_reducible first | exact HB.out | apply below_alloc | apply pw_below_drewN | apply below_drew1) | exact HB.out)) hb); clear HB; have HO306 := n0_; have HB := n1_; clear n0_ n1_; (try clear hb); (try clear hb2); (try clear hk); (try clear hi); (try clear ho0); obtain ⟨Ao14, co14, eo14⟩ := Kd.R_slice HO306.out; subst eo14) | ((with_reducible refine gate_callee (f := 26) rfl ?_); refine goesL_ (some 29) rfl rfl Try.func26 (by kernel_rfl) rfl #[.slice Ao14 t302.length co14, .int .i64 t303, .int .i64 t304] rfl (by (try simp only [List.map_toArray, List.map_cons, List.map_nil]); first | done | rfl | (simp only [List.length_drop, List.length_take]; rfl)) ?_; (with_reducible refine (impl_FairGap.calls k _ _ t302 t303 t304 t307 _ ?side1 ?side2 A5.out).mono ?_); (case side1 => repeat (first | exact (Kd.R_reads' HO306.out).2.2 | (with_reducible refine Kd.C_alloc ?_ _) | (with_reducible refine Kd.C_drewN ?_ _) | (with_reducible refine Kd.C_drew ?_))); (case side2 => exact (Kd.R_reads' HO306.out).2.1); rintro e w15 ⟨rfl, hb⟩; refine ⟨_, rfl, ?_⟩; have n0_ := Aside0.mk (Kd.R_below (by (with_reducible repeat (first | apply Kd.R_alloc | apply Kd.R_drewN | apply Kd.R_drew)); exact HO306.out) hb); have n1_ := Aside0.mk (below_step (by repeat (first | (with_reducible first | exact HB.out | apply below_alloc | apply pw_below_drewN | apply below_drew1) | exact HB.out)) hb); clear HO306; clear HB; have HO306 := n0_; have HB := n1_; clear n0_ n1_; (try clear hb); (try clear hb2); (try clear hk); (try clear hi)) | ((with_reducible refine gate_callee (f := 29) rfl ?_); refine goesL_ (some 33) rfl rfl Try.func29 (by kernel_rfl) rfl #[.slice A0 l0.length c0] rfl (by (try simp only [List.map_toArray, List.map_cons, List.map_nil]); first | done | rfl | (simp only [List.length_drop, List.length_take]; rfl)) ?_; (with_reducible refine (spec_DrawWatchOf.calls k _ _ l0 t308 t309 _ ?side1 ?side2 A10.out).mono ?_); (case side1 => repeat (first | exact (Kd.C_below HR0.out HB.out) | (with_reducible refine Kd.C_alloc ?_ _) | (with_reducible refine Kd.C_drewN ?_ _) | (with_reducible refine Kd.C_drew ?_))); (case side2 => exact HC0.out); rintro e w16 ⟨v310, rfl, ho0, hb⟩; refine ⟨_, rfl, ?_⟩; have n0_ := Aside0.mk (Kd.R_elder' (by (with_reducible repeat (first | apply Kd.R_alloc | apply Kd.R_drewN | apply Kd.R_drew)); exact HO306.out) (Kd.R_base ho0) hb); have n1_ := Aside0.mk (Kd.R_lower (Kd.R_new' ho0 (Kd.R_lt (by (with_reducible repeat (first | apply Kd.R_alloc | apply Kd.R_drewN | apply Kd.R_drew)); exact HO306.out))) (below_size (by repeat (first | (with_reducible first | exact HB.out | apply below_alloc | apply pw_below_drewN | apply below_drew1) | exact HB.out)))); have n2_ := Aside0.mk (below_step (by repeat (first | (with_reducible first | exact HB.out | apply below_alloc | apply pw_below_drewN | apply below_drew1) | exact HB.out)) hb); clear HO306; clear HB; have HO306 := n0_; have HO311 := n1_; have HB := n2_; clear n0_ n1_ n2_; (try clear hb); (try clear hb2); (try clear hk); (try clear hi); (try clear ho0); obtain ⟨Ao17, co17, eo17⟩ := Kd.R_slice HO311.out; subst eo17) | ((with_reducible refine gate_callee (f := 17) rfl ?_); refine goesL_ (some 38) rfl rfl Try.func17 (by kernel_rfl) rfl #[.slice Ao17 t308.length co17, .int .i64 t309] rfl (by (try simp only [List.map_toArray, List.map_cons, List.map_nil]); first | done | rfl | (simp only [List.length_drop, List.length_take]; rfl)) ?_; (with_reducible refine (impl_WatchOf.calls k _ _ t308 t309 t312 _ ?side1 ?side2 A11.out).mono ?_); (case side1 => repeat (first | exact (Kd.R_reads' HO311.out).2.2 | (with_reducible refine Kd.C_alloc ?_ _) | (with_reducible refine Kd.C_drewN ?_ _) | (with_reducible refine Kd.C_drew ?_))); (case side2 => exact (Kd.R_reads' HO311.out).2.1); rintro e w18 ⟨rfl, hb⟩; refine ⟨_, rfl, ?_⟩; have n0_ := Aside0.mk (Kd.R_below (by (with_reducible repeat (first | apply Kd.R_alloc | apply Kd.R_drewN | apply Kd.R_drew)); exact HO306.out) hb); have n1_ := Aside0.mk (Kd.R_below (by (with_reducible repeat (first | apply Kd.R_alloc | apply Kd.R_drewN | apply Kd.R_drew)); exact HO311.out) hb); have n2_ := Aside0.mk (below_step (by repeat (first | (with_reducible first | exact HB.out | apply below_alloc | apply pw_below_drewN | apply below_drew1) | exact HB.out)) hb); clear HO306; clear HO311; clear HB; have HO306 := n0_; have HO311 := n1_; have HB := n2_; clear n0_ n1_ n2_; (try clear hb); (try clear hb2); (try clear hk); (try clear hi)))
   (try simp only [Act.put, List.setIfInBounds_toArray, List.set_cons_zero, List.set_cons_succ])
   go_cut [64] (fun v64 wc => ∃ (kq : Nat) (x64_11 : Bool), v64 = .bool x64_11 ∧ Aside0 (laws_FnWatches.j0 kq l0 x64_11 = some r) ∧ Aside0 (kq ≤ k) ∧ Aside0 (Below w.heap.size w wc))
   case first =>
    have H := HC12.out
    clear HC12
    replace H := Option.bind_eq_some_iff.mp H
    obtain ⟨t313, A190, H⟩ := H
    replace H : (if t313 = true then ((impl_Healthy.f k t308).bind fun t314 => (if (t314.length : Int) > 0 then (if ((t312 != 0) != (decide (t309 ≥ 0))) = true then (laws_FnWatches.j0 k l0 true) else (if t312 = 0 then (laws_FnWatches.j0 k l0 false) else ((impl_Healthy.f k t308).bind fun t317 => ((laws_contains.f k t317 t312).bind fun t320 => (laws_FnWatches.j0 k l0 (!t320)))))) else (if ((t312 != 0) != false) = true then (laws_FnWatches.j0 k l0 true) else (if t312 = 0 then (laws_FnWatches.j0 k l0 false) else ((impl_Healthy.f k t308).bind fun t321 => ((laws_contains.f k t321 t312).bind fun t324 => (laws_FnWatches.j0 k l0 (!t324)))))))) else (if ((t312 != 0) != false) = true then (laws_FnWatches.j0 k l0 true) else (if t312 = 0 then (laws_FnWatches.j0 k l0 false) else ((impl_Healthy.f k t308).bind fun t325 => ((laws_contains.f k t325 t312).bind fun t328 => (laws_FnWatches.j0 k l0 (!t328))))))) = some r := H
    have A19 := Aside0.mk A190
    clear A190
    by_cases c20 : t313 = true
    ·subst c20
     have H1 : ((impl_Healthy.f k t308).bind fun t314 => (if (t314.length : Int) > 0 then (if ((t312 != 0) != (decide (t309 ≥ 0))) = true then (laws_FnWatches.j0 k l0 true) else (if t312 = 0 then (laws_FnWatches.j0 k l0 false) else ((impl_Healthy.f k t308).bind fun t317 => ((laws_contains.f k t317 t312).bind fun t320 => (laws_FnWatches.j0 k l0 (!t320)))))) else (if ((t312 != 0) != false) = true then (laws_FnWatches.j0 k l0 true) else (if t312 = 0 then (laws_FnWatches.j0 k l0 false) else ((impl_Healthy.f k t308).bind fun t321 => ((laws_contains.f k t321 t312).bind fun t324 => (laws_FnWatches.j0 k l0 (!t324)))))))) = some r := by rw [if_pos rfl] at H; exact H
     clear H
     have H := H1
     clear H1
     replace H := Option.bind_eq_some_iff.mp H
     obtain ⟨t314, A210, H⟩ := H
     replace H : (if (t314.length : Int) > 0 then (if ((t312 != 0) != (decide (t309 ≥ 0))) = true then (laws_FnWatches.j0 k l0 true) else (if t312 = 0 then (laws_FnWatches.j0 k l0 false) else ((impl_Healthy.f k t308).bind fun t317 => ((laws_contains.f k t317 t312).bind fun t320 => (laws_FnWatches.j0 k l0 (!t320)))))) else (if ((t312 != 0) != false) = true then (laws_FnWatches.j0 k l0 true) else (if t312 = 0 then (laws_FnWatches.j0 k l0 false) else ((impl_Healthy.f k t308).bind fun t321 => ((laws_contains.f k t321 t312).bind fun t324 => (laws_FnWatches.j0 k l0 (!t324))))))) = some r := H
     have A21 := Aside0.mk A210
     clear A210
     by_cases c22 : (t314.length : Int) > 0
     ·rw [if_pos c22] at H
      have c22b0 : decide (0 < (t314.length : Int)) = true := decide_eq_true c22
      have c22b1 : decide (0 < t314.length) = true := decide_eq_true (by omega)
      clear c22
      (first | rw [c22b0] | (simp only [i64_w, i32_w]; rw [c22b0]) | skip)
      by_cases c23 : ((t312 != 0) != (decide (t309 ≥ 0))) = true
      ·rw [if_pos c23] at H
       have c23b0 : ((t312 != 0) != (decide (t309 ≥ 0))) = true := c23
       (try (have c23b1 : decide ((t312 != 0) = (decide (t309 ≥ 0))) = false := by simpa using c23))
       (try (have c23b2 : ((t312 != 0) == (decide (t309 ≥ 0))) = false := by simpa using c23))
       (try (have c23b3 : ¬ ((t312 != 0) = (decide (t309 ≥ 0))) := by simpa using c23))
       clear c23
       have H' := Aside0.mk H
       clear H
       go_wp2_with (first | ((with_reducible refine gate_callee (f := 30) rfl ?_); refine goesL_ (some 42) rfl rfl Try.func30 (by kernel_rfl) rfl #[.slice Ao17 t308.length co17] rfl (by (try simp only [List.map_toArray, List.map_cons, List.map_nil]); first | done | rfl | (simp only [List.length_drop, List.length_take]; rfl)) ?_; (with_reducible refine (impl_AreCrew.calls k _ _ t308 true _ ?side1 ?side2 A19.out).mono ?_); (case side1 => repeat (first | exact (Kd.R_reads' HO311.out).2.2 | (with_reducible refine Kd.C_alloc ?_ _) | (with_reducible refine Kd.C_drewN ?_ _) | (with_reducible refine Kd.C_drew ?_))); (case side2 => exact (Kd.R_reads' HO311.out).2.1); rintro e w24 ⟨rfl, hb⟩; refine ⟨_, rfl, ?_⟩; have n0_ := Aside0.mk (Kd.R_below (by (with_reducible repeat (first | apply Kd.R_alloc | apply Kd.R_drewN | apply Kd.R_drew)); exact HO306.out) hb); have n1_ := Aside0.mk (Kd.R_below (by (with_reducible repeat (first | apply Kd.R_alloc | apply Kd.R_drewN | apply Kd.R_drew)); exact HO311.out) hb); have n2_ := Aside0.mk (below_step (by repeat (first | (with_reducible first | exact HB.out | apply below_alloc | apply pw_below_drewN | apply below_drew1) | exact HB.out)) hb); clear HO306; clear HO311; clear HB; have HO306 := n0_; have HO311 := n1_; have HB := n2_; clear n0_ n1_ n2_; (try clear hb); (try clear hb2); (try clear hk); (try clear hi)) | (go_at_call 31; (with_reducible refine (impl_Healthy.calls k _ _ t308 t314 _ ?side1 ?side2 A21.out).mono ?_); (case side1 => repeat (first | exact (Kd.R_reads' HO311.out).2.2 | (with_reducible refine Kd.C_alloc ?_ _) | (with_reducible refine Kd.C_drewN ?_ _) | (with_reducible refine Kd.C_drew ?_))); (case side2 => exact (Kd.R_reads' HO311.out).2.1); rintro e w25 ⟨v315, rfl, ho0, hb⟩; have n0_ := Aside0.mk (Kd.R_below (by (with_reducible repeat (first | apply Kd.R_alloc | apply Kd.R_drewN | apply Kd.R_drew)); exact HO306.out) hb); have n1_ := Aside0.mk (Kd.R_below (by (with_reducible repeat (first | apply Kd.R_alloc | apply Kd.R_drewN | apply Kd.R_drew)); exact HO311.out) hb); have n2_ := Aside0.mk (Kd.R_lower ho0 (below_size (by repeat (first | (with_reducible first | exact HB.out | apply below_alloc | apply pw_below_drewN | apply below_drew1) | exact HB.out)))); have n3_ := Aside0.mk (below_step (by repeat (first | (with_reducible first | exact HB.out | apply below_alloc | apply pw_below_drewN | apply below_drew1) | exact HB.out)) hb); clear HO306; clear HO311; clear HB; have HO306 := n0_; have HO311 := n1_; have HO316 := n2_; have HB := n3_; clear n0_ n1_ n2_ n3_; (try clear hb); (try clear hb2); (try clear hk); (try clear hi); (try clear ho0); obtain ⟨Ao26, co26, eo26⟩ := Kd.R_slice HO316.out; subst eo26))
       go_meet
       case rel => exact ⟨_, (true), (by first | rfl | (simp; done) | (simp [*]; done)), H', ⟨by first | omega | exact Nat.le_refl _⟩, ⟨by repeat (first | (with_reducible first | exact HB.out | apply below_alloc | apply pw_below_drewN | apply below_drew1) | exact HB.out)⟩⟩
      ·rw [if_neg c23] at H
       have c23b0 : ((t312 != 0) != (decide (t309 ≥ 0))) = false := by simpa using c23
       (try (have c23b1 : decide ((t312 != 0) = (decide (t309 ≥ 0))) = true := by simpa using c23))
       (try (have c23b2 : ((t312 != 0) == (decide (t309 ≥ 0))) = true := by simpa using c23))
       clear c23
       by_cases c27 : t312 = 0
       ·rw [if_pos c27] at H
        have c27b0 : (t312 == 0) = true := beq_iff_eq.mpr c27
        have c27b1 : (t312 != 0) = false := bne_eq_false_iff_eq.mpr c27
        have cz0 : decide (0 ≤ t309) = false := by have q := c23b2; rw [c27b1] at q; simpa using q
        clear c27
        have H' := Aside0.mk H
        clear H
        go_wp2_with (first | ((with_reducible refine gate_callee (f := 30) rfl ?_); refine goesL_ (some 42) rfl rfl Try.func30 (by kernel_rfl) rfl #[.slice Ao17 t308.length co17] rfl (by (try simp only [List.map_toArray, List.map_cons, List.map_nil]); first | done | rfl | (simp only [List.length_drop, List.length_take]; rfl)) ?_; (with_reducible refine (impl_AreCrew.calls k _ _ t308 true _ ?side1 ?side2 A19.out).mono ?_); (case side1 => repeat (first | exact (Kd.R_reads' HO311.out).2.2 | (with_reducible refine Kd.C_alloc ?_ _) | (with_reducible refine Kd.C_drewN ?_ _) | (with_reducible refine Kd.C_drew ?_))); (case side2 => exact (Kd.R_reads' HO311.out).2.1); rintro e w28 ⟨rfl, hb⟩; refine ⟨_, rfl, ?_⟩; have n0_ := Aside0.mk (Kd.R_below (by (with_reducible repeat (first | apply Kd.R_alloc | apply Kd.R_drewN | apply Kd.R_drew)); exact HO306.out) hb); have n1_ := Aside0.mk (Kd.R_below (by (with_reducible repeat (first | apply Kd.R_alloc | apply Kd.R_drewN | apply Kd.R_drew)); exact HO311.out) hb); have n2_ := Aside0.mk (below_step (by repeat (first | (with_reducible first | exact HB.out | apply below_alloc | apply pw_below_drewN | apply below_drew1) | exact HB.out)) hb); clear HO306; clear HO311; clear HB; have HO306 := n0_; have HO311 := n1_; have HB := n2_; clear n0_ n1_ n2_; (try clear hb); (try clear hb2); (try clear hk); (try clear hi)) | (go_at_call 31; (with_reducible refine (impl_Healthy.calls k _ _ t308 t314 _ ?side1 ?side2 A21.out).mono ?_); (case side1 => repeat (first | exact (Kd.R_reads' HO311.out).2.2 | (with_reducible refine Kd.C_alloc ?_ _) | (with_reducible refine Kd.C_drewN ?_ _) | (with_reducible refine Kd.C_drew ?_))); (case side2 => exact (Kd.R_reads' HO311.out).2.1); rintro e w29 ⟨v315, rfl, ho0, hb⟩; have n0_ := Aside0.mk (Kd.R_below (by (with_reducible repeat (first | apply Kd.R_alloc | apply Kd.R_drewN | apply Kd.R_drew)); exact HO306.out) hb); have n1_ := Aside0.mk (Kd.R_below (by (with_reducible repeat (first | apply Kd.R_alloc | apply Kd.R_drewN | apply Kd.R_drew)); exact HO311.out) hb); have n2_ := Aside0.mk (Kd.R_lower ho0 (below_size (by repeat (first | (with_reducible first | exact HB.out | apply below_alloc | apply pw_below_drewN | apply below_drew1) | exact HB.out)))); have n3_ := Aside0.mk (below_step (by repeat (first | (with_reducible first | exact HB.out | apply below_alloc | apply pw_below_drewN | apply below_drew1) | exact HB.out)) hb); clear HO306; clear HO311; clear HB; have HO306 := n0_; have HO311 := n1_; have HO316 := n2_; have HB := n3_; clear n0_ n1_ n2_ n3_; (try clear hb); (try clear hb2); (try clear hk); (try clear hi); (try clear ho0); obtain ⟨Ao30, co30, eo30⟩ := Kd.R_slice HO316.out; subst eo30))
        go_meet
        case rel => exact ⟨_, (false), (by first | rfl | (simp; done) | (simp [*]; done)), H', ⟨by first | omega | exact Nat.le_refl _⟩, ⟨by repeat (first | (with_reducible first | exact HB.out | apply below_alloc | apply pw_below_drewN | apply below_drew1) | exact HB.out)⟩⟩
       ·rw [if_neg c27] at H
        have c27b0 : (t312 == 0) = false := beq_eq_false_iff_ne.mpr c27
        have c27b1 : (t312 != 0) = true := bne_iff_ne.mpr c27
        have cz0 : decide (0 ≤ t309) = true := by have q := c23b2; rw [c27b1] at q; simpa using q
        replace H := Option.bind_eq_some_iff.mp H
        obtain ⟨t317, A310, H⟩ := H
        replace H : ((laws_contains.f k t317 t312).bind fun t320 => (laws_FnWatches.j0 k l0 (!t320))) = some r := H
        have A31 := Aside0.mk A310
        clear A310
        replace H := Option.bind_eq_some_iff.mp H
        obtain ⟨t320, A320, H⟩ := H
        replace H : (laws_FnWatches.j0 k l0 (!t320)) = some r := H
        have A32 := Aside0.mk A320
        clear A320
        have H' := Aside0.mk H
        clear H
        have E_t317 : t314 = t317 := Option.some.inj (A21.out.symm.trans A31.out)
        subst E_t317
        go_wp2_with (first | ((with_reducible refine gate_callee (f := 30) rfl ?_); refine goesL_ (some 42) rfl rfl Try.func30 (by kernel_rfl) rfl #[.slice Ao17 t308.length co17] rfl (by (try simp only [List.map_toArray, List.map_cons, List.map_nil]); first | done | rfl | (simp only [List.length_drop, List.length_take]; rfl)) ?_; (with_reducible refine (impl_AreCrew.calls k _ _ t308 true _ ?side1 ?side2 A19.out).mono ?_); (case side1 => repeat (first | exact (Kd.R_reads' HO311.out).2.2 | (with_reducible refine Kd.C_alloc ?_ _) | (with_reducible refine Kd.C_drewN ?_ _) | (with_reducible refine Kd.C_drew ?_))); (case side2 => exact (Kd.R_reads' HO311.out).2.1); rintro e w33 ⟨rfl, hb⟩; refine ⟨_, rfl, ?_⟩; have n0_ := Aside0.mk (Kd.R_below (by (with_reducible repeat (first | apply Kd.R_alloc | apply Kd.R_drewN | apply Kd.R_drew)); exact HO306.out) hb); have n1_ := Aside0.mk (Kd.R_below (by (with_reducible repeat (first | apply Kd.R_alloc | apply Kd.R_drewN | apply Kd.R_drew)); exact HO311.out) hb); have n2_ := Aside0.mk (below_step (by repeat (first | (with_reducible first | exact HB.out | apply below_alloc | apply pw_below_drewN | apply below_drew1) | exact HB.out)) hb); clear HO306; clear HO311; clear HB; have HO306 := n0_; have HO311 := n1_; have HB := n2_; clear n0_ n1_ n2_; (try clear hb); (try clear hb2); (try clear hk); (try clear hi)) | (go_at_call 31; (with_reducible refine (impl_Healthy.calls k _ _ t308 t314 _ ?side1 ?side2 A21.out).mono ?_); (case side1 => repeat (first | exact (Kd.R_reads' HO311.out).2.2 | (with_reducible refine Kd.C_alloc ?_ _) | (with_reducible refine Kd.C_drewN ?_ _) | (with_reducible refine Kd.C_drew ?_))); (case side2 => exact (Kd.R_reads' HO311.out).2.1); rintro e w34 ⟨v315, rfl, ho0, hb⟩; have n0_ := Aside0.mk (Kd.R_below (by (with_reducible repeat (first | apply Kd.R_alloc | apply Kd.R_drewN | apply Kd.R_drew)); exact HO306.out) hb); have n1_ := Aside0.mk (Kd.R_below (by (with_reducible repeat (first | apply Kd.R_alloc | apply Kd.R_drewN | apply Kd.R_drew)); exact HO311.out) hb); have n2_ := Aside0.mk (Kd.R_lower ho0 (below_size (by repeat (first | (with_reducible first | exact HB.out | apply below_alloc | apply pw_below_drewN | apply below_drew1) | exact HB.out)))); have n3_ := Aside0.mk (below_step (by repeat (first | (with_reducible first | exact HB.out | apply below_alloc | apply pw_below_drewN | apply below_drew1) | exact HB.out)) hb); clear HO306; clear HO311; clear HB; have HO306 := n0_; have HO311 := n1_; have HO316 := n2_; have HB := n3_; clear n0_ n1_ n2_ n3_; (try clear hb); (try clear hb2); (try clear hk); (try clear hi); (try clear ho0); obtain ⟨Ao35, co35, eo35⟩ := Kd.R_slice HO316.out; subst eo35) | (go_at_call 31; (with_reducible refine (impl_Healthy.calls k _ _ t308 t314 _ ?side1 ?side2 A31.out).mono ?_); (case side1 => repeat (first | exact (Kd.R_reads' HO311.out).2.2 | (with_reducible refine Kd.C_alloc ?_ _) | (with_reducible refine Kd.C_drewN ?_ _) | (with_reducible refine Kd.C_drew ?_))); (case side2 => exact (Kd.R_reads' HO311.out).2.1); rintro e w36 ⟨v318, rfl, ho0, hb⟩; have n0_ := Aside0.mk (Kd.R_below (by (with_reducible repeat (first | apply Kd.R_alloc | apply Kd.R_drewN | apply Kd.R_drew)); exact HO306.out) hb); have n1_ := Aside0.mk (Kd.R_below (by (with_reducible repeat (first | apply Kd.R_alloc | apply Kd.R_drewN | apply Kd.R_drew)); exact HO311.out) hb); have n2_ := Aside0.mk (Kd.R_elder' (by (with_reducible repeat (first | apply Kd.R_alloc | apply Kd.R_drewN | apply Kd.R_drew)); exact HO316.out) (Kd.R_base ho0) hb); have n3_ := Aside0.mk (Kd.R_lower (Kd.R_new' ho0 (Kd.R_lt (by (with_reducible repeat (first | apply Kd.R_alloc | apply Kd.R_drewN | apply Kd.R_drew)); exact HO316.out))) (below_size (by repeat (first | (with_reducible first | exact HB.out | apply below_alloc | apply pw_below_drewN | apply below_drew1) | exact HB.out)))); have n4_ := Aside0.mk (below_step (by repeat (first | (with_reducible first | exact HB.out | apply below_alloc | apply pw_below_drewN | apply below_drew1) | exact HB.out)) hb); clear HO306; clear HO311; clear HO316; clear HB; have HO306 := n0_; have HO311 := n1_; have HO316 := n2_; have HO316 := n3_; have HB := n4_; clear n0_ n1_ n2_ n3_ n4_; (try clear hb); (try clear hb2); (try clear hk); (try clear hi); (try clear ho0); obtain ⟨Ao37, co37, eo37⟩ := Kd.R_slice HO316.out; subst eo37) | (go_at_call 32; (with_reducible refine (laws_contains.calls k _ _ t314 t312 t320 _ ?side1 ?side2 A32.out).mono ?_); (case side1 => repeat (first | exact (Kd.R_reads' HO316.out).2.2 | (with_reducible refine Kd.C_alloc ?_ _) | (with_reducible refine Kd.C_drewN ?_ _) | (with_reducible refine Kd.C_drew ?_))); (case side2 => exact (Kd.R_reads' HO316.out).2.1); rintro e w' ⟨rfl, ⟨nd, rfl⟩⟩))
        go_meet
        case rel => exact ⟨_, (!t320), (by first | rfl | (simp; done) | (simp [*]; done)), H', ⟨by first | omega | exact Nat.le_refl _⟩, ⟨by repeat (first | (with_reducible first | exact HB.out | apply below_alloc | apply pw_below_drewN | apply below_drew1) | exact HB.out)⟩⟩
     ·rw [if_neg c22] at H
      have c22b0 : decide (0 < (t314.length : Int)) = false := decide_eq_false c22
      have c22b1 : decide (0 < t314.length) = false := decide_eq_false (by omega)
      clear c22
      (first | rw [c22b0] | (simp only [i64_w, i32_w]; rw [c22b0]) | skip)
      by_cases c38 : ((t312 != 0) != false) = true
      ·rw [if_pos c38] at H
       have c38b0 : ((t312 != 0) != false) = true := c38
       (try (have c38b1 : decide ((t312 != 0) = false) = false := by simpa using c38))
       (try (have c38b2 : ((t312 != 0) == false) = false := by simpa using c38))
       (try (have c38b3 : ¬ ((t312 != 0) = false) := by simpa using c38))
       clear c38
       have H' := Aside0.mk H
       clear H
       go_wp2_with (first | ((with_reducible refine gate_callee (f := 30) rfl ?_); refine goesL_ (some 42) rfl rfl Try.func30 (by kernel_rfl) rfl #[.slice Ao17 t308.length co17] rfl (by (try simp only [List.map_toArray, List.map_cons, List.map_nil]); first | done | rfl | (simp only [List.length_drop, List.length_take]; rfl)) ?_; (with_reducible refine (impl_AreCrew.calls k _ _ t308 true _ ?side1 ?side2 A19.out).mono ?_); (case side1 => repeat (first | exact (Kd.R_reads' HO311.out).2.2 | (with_reducible refine Kd.C_alloc ?_ _) | (with_reducible refine Kd.C_drewN ?_ _) | (with_reducible refine Kd.C_drew ?_))); (case side2 => exact (Kd.R_reads' HO311.out).2.1); rintro e w39 ⟨rfl, hb⟩; refine ⟨_, rfl, ?_⟩; have n0_ := Aside0.mk (Kd.R_below (by (with_reducible repeat (first | apply Kd.R_alloc | apply Kd.R_drewN | apply Kd.R_drew)); exact HO306.out) hb); have n1_ := Aside0.mk (Kd.R_below (by (with_reducible repeat (first | apply Kd.R_alloc | apply Kd.R_drewN | apply Kd.R_drew)); exact HO311.out) hb); have n2_ := Aside0.mk (below_step (by repeat (first | (with_reducible first | exact HB.out | apply below_alloc | apply pw_below_drewN | apply below_drew1) | exact HB.out)) hb); clear HO306; clear HO311; clear HB; have HO306 := n0_; have HO311 := n1_; have HB := n2_; clear n0_ n1_ n2_; (try clear hb); (try clear hb2); (try clear hk); (try clear hi)) | (go_at_call 31; (with_reducible refine (impl_Healthy.calls k _ _ t308 t314 _ ?side1 ?side2 A21.out).mono ?_); (case side1 => repeat (first | exact (Kd.R_reads' HO311.out).2.2 | (with_reducible refine Kd.C_alloc ?_ _) | (with_reducible refine Kd.C_drewN ?_ _) | (with_reducible refine Kd.C_drew ?_))); (case side2 => exact (Kd.R_reads' HO311.out).2.1); rintro e w40 ⟨v315, rfl, ho0, hb⟩; have n0_ := Aside0.mk (Kd.R_below (by (with_reducible repeat (first | apply Kd.R_alloc | apply Kd.R_drewN | apply Kd.R_drew)); exact HO306.out) hb); have n1_ := Aside0.mk (Kd.R_below (by (with_reducible repeat (first | apply Kd.R_alloc | apply Kd.R_drewN | apply Kd.R_drew)); exact HO311.out) hb); have n2_ := Aside0.mk (Kd.R_lower ho0 (below_size (by repeat (first | (with_reducible first | exact HB.out | apply below_alloc | apply pw_below_drewN | apply below_drew1) | exact HB.out)))); have n3_ := Aside0.mk (below_step (by repeat (first | (with_reducible first | exact HB.out | apply below_alloc | apply pw_below_drewN | apply below_drew1) | exact HB.out)) hb); clear HO306; clear HO311; clear HB; have HO306 := n0_; have HO311 := n1_; have HO316 := n2_; have HB := n3_; clear n0_ n1_ n2_ n3_; (try clear hb); (try clear hb2); (try clear hk); (try clear hi); (try clear ho0); obtain ⟨Ao41, co41, eo41⟩ := Kd.R_slice HO316.out; subst eo41))
       go_meet
       case rel => exact ⟨_, (true), (by first | rfl | (simp; done) | (simp [*]; done)), H', ⟨by first | omega | exact Nat.le_refl _⟩, ⟨by repeat (first | (with_reducible first | exact HB.out | apply below_alloc | apply pw_below_drewN | apply below_drew1) | exact HB.out)⟩⟩
      ·rw [if_neg c38] at H
       have c38b0 : ((t312 != 0) != false) = false := by simpa using c38
       (try (have c38b1 : decide ((t312 != 0) = false) = true := by simpa using c38))
       (try (have c38b2 : ((t312 != 0) == false) = true := by simpa using c38))
       clear c38
       by_cases c42 : t312 = 0
       ·rw [if_pos c42] at H
        have c42b0 : (t312 == 0) = true := beq_iff_eq.mpr c42
        have c42b1 : (t312 != 0) = false := bne_eq_false_iff_eq.mpr c42
        clear c42
        have H' := Aside0.mk H
        clear H
        go_wp2_with (first | ((with_reducible refine gate_callee (f := 30) rfl ?_); refine goesL_ (some 42) rfl rfl Try.func30 (by kernel_rfl) rfl #[.slice Ao17 t308.length co17] rfl (by (try simp only [List.map_toArray, List.map_cons, List.map_nil]); first | done | rfl | (simp only [List.length_drop, List.length_take]; rfl)) ?_; (with_reducible refine (impl_AreCrew.calls k _ _ t308 true _ ?side1 ?side2 A19.out).mono ?_); (case side1 => repeat (first | exact (Kd.R_reads' HO311.out).2.2 | (with_reducible refine Kd.C_alloc ?_ _) | (with_reducible refine Kd.C_drewN ?_ _) | (with_reducible refine Kd.C_drew ?_))); (case side2 => exact (Kd.R_reads' HO311.out).2.1); rintro e w43 ⟨rfl, hb⟩; refine ⟨_, rfl, ?_⟩; have n0_ := Aside0.mk (Kd.R_below (by (with_reducible repeat (first | apply Kd.R_alloc | apply Kd.R_drewN | apply Kd.R_drew)); exact HO306.out) hb); have n1_ := Aside0.mk (Kd.R_below (by (with_reducible repeat (first | apply Kd.R_alloc | apply Kd.R_drewN | apply Kd.R_drew)); exact HO311.out) hb); have n2_ := Aside0.mk (below_step (by repeat (first | (with_reducible first | exact HB.out | apply below_alloc | apply pw_below_drewN | apply below_drew1) | exact HB.out)) hb); clear HO306; clear HO311; clear HB; have HO306 := n0_; have HO311 := n1_; have HB := n2_; clear n0_ n1_ n2_; (try clear hb); (try clear hb2); (try clear hk); (try clear hi)) | (go_at_call 31; (with_reducible refine (impl_Healthy.calls k _ _ t308 t314 _ ?side1 ?side2 A21.out).mono ?_); (case side1 => repeat (first | exact (Kd.R_reads' HO311.out).2.2 | (with_reducible refine Kd.C_alloc ?_ _) | (with_reducible refine Kd.C_drewN ?_ _) | (with_reducible refine Kd.C_drew ?_))); (case side2 => exact (Kd.R_reads' HO311.out).2.1); rintro e w44 ⟨v315, rfl, ho0, hb⟩; have n0_ := Aside0.mk (Kd.R_below (by (with_reducible repeat (first | apply Kd.R_alloc | apply Kd.R_drewN | apply Kd.R_drew)); exact HO306.out) hb); have n1_ := Aside0.mk (Kd.R_below (by (with_reducible repeat (first | apply Kd.R_alloc | apply Kd.R_drewN | apply Kd.R_drew)); exact HO311.out) hb); have n2_ := Aside0.mk (Kd.R_lower ho0 (below_size (by repeat (first | (with_reducible first | exact HB.out | apply below_alloc | apply pw_below_drewN | apply below_drew1) | exact HB.out)))); have n3_ := Aside0.mk (below_step (by repeat (first | (with_reducible first | exact HB.out | apply below_alloc | apply pw_below_drewN | apply below_drew1) | exact HB.out)) hb); clear HO306; clear HO311; clear HB; have HO306 := n0_; have HO311 := n1_; have HO316 := n2_; have HB := n3_; clear n0_ n1_ n2_ n3_; (try clear hb); (try clear hb2); (try clear hk); (try clear hi); (try clear ho0); obtain ⟨Ao45, co45, eo45⟩ := Kd.R_slice HO316.out; subst eo45))
        go_meet
        case rel => exact ⟨_, (false), (by first | rfl | (simp; done) | (simp [*]; done)), H', ⟨by first | omega | exact Nat.le_refl _⟩, ⟨by repeat (first | (with_reducible first | exact HB.out | apply below_alloc | apply pw_below_drewN | apply below_drew1) | exact HB.out)⟩⟩
       ·rw [if_neg c42] at H
        have c42b0 : (t312 == 0) = false := beq_eq_false_iff_ne.mpr c42
        have c42b1 : (t312 != 0) = true := bne_iff_ne.mpr c42
        exact absurd c38b0 (by rw [c42b1]; decide)
    ·replace c20 := Bool.eq_false_iff.mpr c20
     subst c20
     have H1 : (if ((t312 != 0) != false) = true then (laws_FnWatches.j0 k l0 true) else (if t312 = 0 then (laws_FnWatches.j0 k l0 false) else ((impl_Healthy.f k t308).bind fun t325 => ((laws_contains.f k t325 t312).bind fun t328 => (laws_FnWatches.j0 k l0 (!t328)))))) = some r := by rw [if_neg (show ¬ (false = true) by decide)] at H; exact H
     clear H
     have H := H1
     clear H1
     by_cases c53 : ((t312 != 0) != false) = true
     ·rw [if_pos c53] at H
      have c53b0 : ((t312 != 0) != false) = true := c53
      (try (have c53b1 : decide ((t312 != 0) = false) = false := by simpa using c53))
      (try (have c53b2 : ((t312 != 0) == false) = false := by simpa using c53))
      (try (have c53b3 : ¬ ((t312 != 0) = false) := by simpa using c53))
      clear c53
      have H' := Aside0.mk H
      clear H
      go_wp2_with (first | ((with_reducible refine gate_callee (f := 30) rfl ?_); refine goesL_ (some 42) rfl rfl Try.func30 (by kernel_rfl) rfl #[.slice Ao17 t308.length co17] rfl (by (try simp only [List.map_toArray, List.map_cons, List.map_nil]); first | done | rfl | (simp only [List.length_drop, List.length_take]; rfl)) ?_; (with_reducible refine (impl_AreCrew.calls k _ _ t308 false _ ?side1 ?side2 A19.out).mono ?_); (case side1 => repeat (first | exact (Kd.R_reads' HO311.out).2.2 | (with_reducible refine Kd.C_alloc ?_ _) | (with_reducible refine Kd.C_drewN ?_ _) | (with_reducible refine Kd.C_drew ?_))); (case side2 => exact (Kd.R_reads' HO311.out).2.1); rintro e w54 ⟨rfl, hb⟩; refine ⟨_, rfl, ?_⟩; have n0_ := Aside0.mk (Kd.R_below (by (with_reducible repeat (first | apply Kd.R_alloc | apply Kd.R_drewN | apply Kd.R_drew)); exact HO306.out) hb); have n1_ := Aside0.mk (Kd.R_below (by (with_reducible repeat (first | apply Kd.R_alloc | apply Kd.R_drewN | apply Kd.R_drew)); exact HO311.out) hb); have n2_ := Aside0.mk (below_step (by repeat (first | (with_reducible first | exact HB.out | apply below_alloc | apply pw_below_drewN | apply below_drew1) | exact HB.out)) hb); clear HO306; clear HO311; clear HB; have HO306 := n0_; have HO311 := n1_; have HB := n2_; clear n0_ n1_ n2_; (try clear hb); (try clear hb2); (try clear hk); (try clear hi)))
      go_meet
      case rel => exact ⟨_, (true), (by first | rfl | (simp; done) | (simp [*]; done)), H', ⟨by first | omega | exact Nat.le_refl _⟩, ⟨by repeat (first | (with_reducible first | exact HB.out | apply below_alloc | apply pw_below_drewN | apply below_drew1) | exact HB.out)⟩⟩
     ·rw [if_neg c53] at H
      have c53b0 : ((t312 != 0) != false) = false := by simpa using c53
      (try (have c53b1 : decide ((t312 != 0) = false) = true := by simpa using c53))
      (try (have c53b2 : ((t312 != 0) == false) = true := by simpa using c53))
      clear c53
      by_cases c55 : t312 = 0
      ·rw [if_pos c55] at H
       have c55b0 : (t312 == 0) = true := beq_iff_eq.mpr c55
       have c55b1 : (t312 != 0) = false := bne_eq_false_iff_eq.mpr c55
       clear c55
       have H' := Aside0.mk H
       clear H
       go_wp2_with (first | ((with_reducible refine gate_callee (f := 30) rfl ?_); refine goesL_ (some 42) rfl rfl Try.func30 (by kernel_rfl) rfl #[.slice Ao17 t308.length co17] rfl (by (try simp only [List.map_toArray, List.map_cons, List.map_nil]); first | done | rfl | (simp only [List.length_drop, List.length_take]; rfl)) ?_; (with_reducible refine (impl_AreCrew.calls k _ _ t308 false _ ?side1 ?side2 A19.out).mono ?_); (case side1 => repeat (first | exact (Kd.R_reads' HO311.out).2.2 | (with_reducible refine Kd.C_alloc ?_ _) | (with_reducible refine Kd.C_drewN ?_ _) | (with_reducible refine Kd.C_drew ?_))); (case side2 => exact (Kd.R_reads' HO311.out).2.1); rintro e w56 ⟨rfl, hb⟩; refine ⟨_, rfl, ?_⟩; have n0_ := Aside0.mk (Kd.R_below (by (with_reducible repeat (first | apply Kd.R_alloc | apply Kd.R_drewN | apply Kd.R_drew)); exact HO306.out) hb); have n1_ := Aside0.mk (Kd.R_below (by (with_reducible repeat (first | apply Kd.R_alloc | apply Kd.R_drewN | apply Kd.R_drew)); exact HO311.out) hb); have n2_ := Aside0.mk (below_step (by repeat (first | (with_reducible first | exact HB.out | apply below_alloc | apply pw_below_drewN | apply below_drew1) | exact HB.out)) hb); clear HO306; clear HO311; clear HB; have HO306 := n0_; have HO311 := n1_; have HB := n2_; clear n0_ n1_ n2_; (try clear hb); (try clear hb2); (try clear hk); (try clear hi)))
       go_meet
       case rel => exact ⟨_, (false), (by first | rfl | (simp; done) | (simp [*]; done)), H', ⟨by first | omega | exact Nat.le_refl _⟩, ⟨by repeat (first | (with_reducible first | exact HB.out | apply below_alloc | apply pw_below_drewN | apply below_drew1) | exact HB.out)⟩⟩
      ·rw [if_neg c55] at H
       have c55b0 : (t312 == 0) = false := beq_eq_false_iff_ne.mpr c55
       have c55b1 : (t312 != 0) = true := bne_iff_ne.mpr c55
       exact absurd c53b0 (by rw [c55b1]; decide)
   case rest =>
    clear HC12
    try clear c1
    try clear c2
    try clear p2
    try clear c3
    try clear c4
    try clear c5
    try clear c6
    try clear c6b0
    try clear c8
    try clear c17
    try clear c20
    try clear c22
    try clear c22b0
    try clear c22b1
    try clear c23
    try clear c23b0
    try clear c23b1
    try clear c23b2
    try clear c26
    try clear c27
    try clear c27b0
    try clear c27b1
    try clear c28
    try clear c29
    try clear c30
    try clear c38
    try clear c38b0
    try clear c38b1
    try clear c38b2
    try clear c42
    try clear c42b0
    try clear c42b1
    try clear c53
    try clear c53b0
    try clear c53b1
    try clear c53b2
    try clear c55
    try clear c55b0
    try clear c55b1
    obtain ⟨kq, x64_11, rfl, HA, HJ11, HB⟩ := hcut
    cases kq with
    | zero => exact absurd HA.out (by simp [laws_FnWatches.j0])
    | succ kj11 =>
     have H := HA.out
     clear HA
     simp only [laws_FnWatches.j0] at H
     by_cases c62 : x64_11 = true
     ·subst c62
      have H1 : (some false) = some r := by rw [if_pos rfl] at H; exact H
      clear H
      have H := H1
      clear H1
      obtain rfl := Option.some.inj H
      go_wp2
      go_ret
      exact ⟨by first | rfl | (simp [errW_none, errW_some] <;> rfl) | (simp [*, errW_none, errW_some] <;> rfl), by repeat (first | (with_reducible first | exact HB.out | apply below_alloc | apply pw_below_drewN | apply below_drew1) | exact HB.out)⟩
     ·replace c62 := Bool.eq_false_iff.mpr c62
      subst c62
      have H1 : ((spec_DrawWatchHours.f kj11 l0).bind fun bt329 => ((impl_WatchHours.f kj11 bt329.1 bt329.2.1 bt329.2.2.1 bt329.2.2.2).bind fun t335 => (if t335 < 0 then (laws_FnWatches.j1 kj11 l0 true) else (if t335 > 0 then (laws_FnWatches.j1 kj11 l0 (decide (t335 > bt329.2.2.2))) else (laws_FnWatches.j1 kj11 l0 false))))) = some r := by rw [if_neg (show ¬ (false = true) by decide)] at H; exact H
      clear H
      have H := H1
      clear H1
      replace H := Option.bind_eq_some_iff.mp H
      obtain ⟨⟨t329, t330, t331, t332⟩, A630, H⟩ := H
      replace H : ((impl_WatchHours.f kj11 t329 t330 t331 t332).bind fun t335 => (if t335 < 0 then (laws_FnWatches.j1 kj11 l0 true) else (if t335 > 0 then (laws_FnWatches.j1 kj11 l0 (decide (t335 > t332))) else (laws_FnWatches.j1 kj11 l0 false)))) = some r := H
      have A63 := Aside0.mk A630
      clear A630
      replace H := Option.bind_eq_some_iff.mp H
      obtain ⟨t335, A640, H⟩ := H
      replace H : (if t335 < 0 then (laws_FnWatches.j1 kj11 l0 true) else (if t335 > 0 then (laws_FnWatches.j1 kj11 l0 (decide (t335 > t332))) else (laws_FnWatches.j1 kj11 l0 false))) = some r := H
      have A64 := Aside0.mk A640
      clear A640
      have HC65 := Aside0.mk H
      clear H
      go_upto_region 12 with (first | ((with_reducible refine gate_callee (f := 33) rfl ?_); refine goesL_ (some 67) rfl rfl Try.func33 (by kernel_rfl) rfl #[.slice A0 l0.length c0] rfl (by (try simp only [List.map_toArray, List.map_cons, List.map_nil]); first | done | rfl | (simp only [List.length_drop, List.length_take]; rfl)) ?_; (with_reducible refine (spec_DrawWatchHours.calls kj11 _ _ l0 t329 t330 t331 t332 _ ?side1 ?side2 A63.out).mono ?_); (case side1 => repeat (first | exact (Kd.C_below HR0.out HB.out) | (with_reducible refine Kd.C_alloc ?_ _) | (with_reducible refine Kd.C_drewN ?_ _) | (with_reducible refine Kd.C_drew ?_))); (case side2 => exact HC0.out); rintro e w66 ⟨v333, rfl, ho0, hb⟩; refine ⟨_, rfl, ?_⟩; have n0_ := Aside0.mk (Kd.R_lower ho0 (below_size (by repeat (first | (with_reducible first | exact HB.out | apply below_alloc | apply pw_below_drewN | apply below_drew1) | exact HB.out)))); have n1_ := Aside0.mk (below_step (by repeat (first | (with_reducible first | exact HB.out | apply below_alloc | apply pw_below_drewN | apply below_drew1) | exact HB.out)) hb); clear HB; have HO334 := n0_; have HB := n1_; clear n0_ n1_; (try clear hb); (try clear hb2); (try clear hk); (try clear hi); (try clear ho0); obtain ⟨Ao67, co67, eo67⟩ := Kd.R_slice HO334.out; subst eo67) | ((with_reducible refine gate_callee (f := 20) rfl ?_); refine goesL_ (some 76) rfl rfl Try.func20 (by kernel_rfl) rfl #[.slice Ao67 t329.length co67, .int .i64 t330, .int .i64 t331, .int .i64 t332] rfl (by (try simp only [List.map_toArray, List.map_cons, List.map_nil]); first | done | rfl | (simp only [List.length_drop, List.length_take]; rfl)) ?_; (with_reducible refine (impl_WatchHours.calls kj11 _ _ t329 t330 t331 t332 t335 _ ?side1 ?side2 A64.out).mono ?_); (case side1 => repeat (first | exact (Kd.R_reads' HO334.out).2.2 | (with_reducible refine Kd.C_alloc ?_ _) | (with_reducible refine Kd.C_drewN ?_ _) | (with_reducible refine Kd.C_drew ?_))); (case side2 => exact (Kd.R_reads' HO334.out).2.1); rintro e w68 ⟨rfl, hb⟩; refine ⟨_, rfl, ?_⟩; have n0_ := Aside0.mk (Kd.R_below (by (with_reducible repeat (first | apply Kd.R_alloc | apply Kd.R_drewN | apply Kd.R_drew)); exact HO334.out) hb); have n1_ := Aside0.mk (below_step (by repeat (first | (with_reducible first | exact HB.out | apply below_alloc | apply pw_below_drewN | apply below_drew1) | exact HB.out)) hb); clear HO334; clear HB; have HO334 := n0_; have HB := n1_; clear n0_ n1_; (try clear hb); (try clear hb2); (try clear hk); (try clear hi)))
      (try simp only [Act.put, List.setIfInBounds_toArray, List.set_cons_zero, List.set_cons_succ])
      go_cut [87] (fun v87 wc => ∃ (kq : Nat) (x87_64 : Bool), v87 = .bool x87_64 ∧ Aside0 (laws_FnWatches.j1 kq l0 x87_64 = some r) ∧ Aside0 (kq ≤ kj11) ∧ Aside0 (Below w.heap.size w wc))
      case first =>
       have H := HC65.out
       clear HC65
       by_cases c69 : t335 < 0
       ·rw [if_pos c69] at H
        have c69b0 : decide (t335 < 0) = true := decide_eq_true c69
        clear c69
        (first | rw [c69b0] | (simp only [i64_w, i32_w]; rw [c69b0]) | skip)
        have H' := Aside0.mk H
        clear H
        go_wp2
        go_meet
        case rel => exact ⟨_, (true), (by first | rfl | (simp; done) | (simp [*]; done)), H', ⟨by have := HJ11.out; first | omega | exact Nat.le_refl _⟩, ⟨by repeat (first | (with_reducible first | exact HB.out | apply below_alloc | apply pw_below_drewN | apply below_drew1) | exact HB.out)⟩⟩
       ·rw [if_neg c69] at H
        have c69b0 : decide (t335 < 0) = false := decide_eq_false c69
        clear c69
        (first | rw [c69b0] | (simp only [i64_w, i32_w]; rw [c69b0]) | skip)
        by_cases c70 : t335 > 0
        ·rw [if_pos c70] at H
         have c70b0 : decide (0 < t335) = true := decide_eq_true c70
         clear c70
         have H' := Aside0.mk H
         clear H
         go_wp2
         go_meet
         case rel => exact ⟨_, (decide (t335 > t332)), (by first | rfl | (simp; done) | (simp [*]; done)), H', ⟨by have := HJ11.out; first | omega | exact Nat.le_refl _⟩, ⟨by repeat (first | (with_reducible first | exact HB.out | apply below_alloc | apply pw_below_drewN | apply below_drew1) | exact HB.out)⟩⟩
        ·rw [if_neg c70] at H
         have c70b0 : decide (0 < t335) = false := decide_eq_false c70
         clear c70
         have H' := Aside0.mk H
         clear H
         go_wp2
         go_meet
         case rel => exact ⟨_, (false), (by first | rfl | (simp; done) | (simp [*]; done)), H', ⟨by have := HJ11.out; first | omega | exact Nat.le_refl _⟩, ⟨by repeat (first | (with_reducible first | exact HB.out | apply below_alloc | apply pw_below_drewN | apply below_drew1) | exact HB.out)⟩⟩
      case rest =>
       clear HC65
       try clear c1
       try clear c2
       try clear p2
       try clear c3
       try clear c4
       try clear c5
       try clear c6
       try clear c6b0
       try clear c7
       try clear c8
       try clear c17
       try clear c20
       try clear c22
       try clear c22b0
       try clear c22b1
       try clear c23
       try clear c23b0
       try clear c23b1
       try clear c23b2
       try clear c26
       try clear c27
       try clear c27b0
       try clear c27b1
       try clear c28
       try clear c29
       try clear c30
       try clear c33
       try clear c38
       try clear c38b0
       try clear c38b1
       try clear c38b2
       try clear c42
       try clear c42b0
       try clear c42b1
       try clear c53
       try clear c53b0
       try clear c53b1
       try clear c53b2
       try clear c55
       try clear c55b0
       try clear c55b1
       try clear c62
       try clear c69
       try clear c69b0
       try clear c70
       try clear c70b0
       try clear p2
       obtain ⟨kq, x87_64, rfl, HA, HJ64, HB⟩ := hcut
       cases kq with
       | zero => exact absurd HA.out (by simp [laws_FnWatches.j1])
       | succ kj64 =>
        have H := HA.out
        clear HA
        simp only [laws_FnWatches.j1] at H
        by_cases c71 : x87_64 = true
        ·subst c71
         have H1 : (some false) = some r := by rw [if_pos rfl] at H; exact H
         clear H
         have H := H1
         clear H1
         obtain rfl := Option.some.inj H
         go_wp2
         go_ret
         exact ⟨by first | rfl | (simp [errW_none, errW_some] <;> rfl) | (simp [*, errW_none, errW_some] <;> rfl), by repeat (first | (with_reducible first | exact HB.out | apply below_alloc | apply pw_below_drewN | apply below_drew1) | exact HB.out)⟩
        ·replace c71 := Bool.eq_false_iff.mpr c71
         subst c71
         have H1 : ((spec_DrawSwapWatch.f kj64 l0).bind fun bt336 => ((impl_SwapWatch.f kj64 bt336.1 bt336.2.1 bt336.2.2).bind fun t341 => (if t341 = (-1) then (some true) else (if t341 > bt336.2.1 then ((impl_WatchOf.f kj64 bt336.1 t341).bind fun t342 => (if t342 = bt336.2.2 then ((impl_SleepHours.f kj64 bt336.1 bt336.2.2 bt336.2.1).bind fun t343 => (some (decide (t343 ≤ (wrap64 (t341 - 1)))))) else (some false))) else (some false))))) = some r := by rw [if_neg (show ¬ (false = true) by decide)] at H; exact H
         clear H
         have H := H1
         clear H1
         replace H := Option.bind_eq_some_iff.mp H
         obtain ⟨⟨t336, t337, t338⟩, A720, H⟩ := H
         replace H : ((impl_SwapWatch.f kj64 t336 t337 t338).bind fun t341 => (if t341 = (-1) then (some true) else (if t341 > t337 then ((impl_WatchOf.f kj64 t336 t341).bind fun t342 => (if t342 = t338 then ((impl_SleepHours.f kj64 t336 t338 t337).bind fun t343 => (some (decide (t343 ≤ (wrap64 (t341 - 1)))))) else (some false))) else (some false)))) = some r := H
         have A72 := Aside0.mk A720
         clear A720
         replace H := Option.bind_eq_some_iff.mp H
         obtain ⟨t341, A730, H⟩ := H
         replace H : (if t341 = (-1) then (some true) else (if t341 > t337 then ((impl_WatchOf.f kj64 t336 t341).bind fun t342 => (if t342 = t338 then ((impl_SleepHours.f kj64 t336 t338 t337).bind fun t343 => (some (decide (t343 ≤ (wrap64 (t341 - 1)))))) else (some false))) else (some false))) = some r := H
         have A73 := Aside0.mk A730
         clear A730
         by_cases c74 : t341 = (-1)
         ·rw [if_pos c74] at H
          have c74b0 : (t341 == (-1)) = true := beq_iff_eq.mpr c74
          have c74b1 : (t341 != (-1)) = false := bne_eq_false_iff_eq.mpr c74
          clear c74
          obtain rfl := Option.some.inj H
          go_wp2_with (first | ((with_reducible refine gate_callee (f := 34) rfl ?_); refine goesL_ (some 90) rfl rfl Try.func34 (by kernel_rfl) rfl #[.slice A0 l0.length c0] rfl (by (try simp only [List.map_toArray, List.map_cons, List.map_nil]); first | done | rfl | (simp only [List.length_drop, List.length_take]; rfl)) ?_; (with_reducible refine (spec_DrawSwapWatch.calls kj64 _ _ l0 t336 t337 t338 _ ?side1 ?side2 A72.out).mono ?_); (case side1 => repeat (first | exact (Kd.C_below HR0.out HB.out) | (with_reducible refine Kd.C_alloc ?_ _) | (with_reducible refine Kd.C_drewN ?_ _) | (with_reducible refine Kd.C_drew ?_))); (case side2 => exact HC0.out); rintro e w75 ⟨v339, rfl, ho0, hb⟩; refine ⟨_, rfl, ?_⟩; have n0_ := Aside0.mk (Kd.R_lower ho0 (below_size (by repeat (first | (with_reducible first | exact HB.out | apply below_alloc | apply pw_below_drewN | apply below_drew1) | exact HB.out)))); have n1_ := Aside0.mk (below_step (by repeat (first | (with_reducible first | exact HB.out | apply below_alloc | apply pw_below_drewN | apply below_drew1) | exact HB.out)) hb); clear HB; have HO340 := n0_; have HB := n1_; clear n0_ n1_; (try clear hb); (try clear hb2); (try clear hk); (try clear hi); (try clear ho0); obtain ⟨Ao76, co76, eo76⟩ := Kd.R_slice HO340.out; subst eo76) | ((with_reducible refine gate_callee (f := 22) rfl ?_); refine goesL_ (some 97) rfl rfl Try.func22 (by kernel_rfl) rfl #[.slice Ao76 t336.length co76, .int .i64 t337, .int .i64 t338] rfl (by (try simp only [List.map_toArray, List.map_cons, List.map_nil]); first | done | rfl | (simp only [List.length_drop, List.length_take]; rfl)) ?_; (with_reducible refine (impl_SwapWatch.calls kj64 _ _ t336 t337 t338 t341 _ ?side1 ?side2 A73.out).mono ?_); (case side1 => repeat (first | exact (Kd.R_reads' HO340.out).2.2 | (with_reducible refine Kd.C_alloc ?_ _) | (with_reducible refine Kd.C_drewN ?_ _) | (with_reducible refine Kd.C_drew ?_))); (case side2 => exact (Kd.R_reads' HO340.out).2.1); rintro e w77 ⟨rfl, hb⟩; refine ⟨_, rfl, ?_⟩; have n0_ := Aside0.mk (Kd.R_below (by (with_reducible repeat (first | apply Kd.R_alloc | apply Kd.R_drewN | apply Kd.R_drew)); exact HO340.out) hb); have n1_ := Aside0.mk (below_step (by repeat (first | (with_reducible first | exact HB.out | apply below_alloc | apply pw_below_drewN | apply below_drew1) | exact HB.out)) hb); clear HO340; clear HB; have HO340 := n0_; have HB := n1_; clear n0_ n1_; (try clear hb); (try clear hb2); (try clear hk); (try clear hi)))
          go_ret
          exact ⟨by first | rfl | (simp [errW_none, errW_some] <;> rfl) | (simp [*, errW_none, errW_some] <;> rfl), by repeat (first | (with_reducible first | exact HB.out | apply below_alloc | apply pw_below_drewN | apply below_drew1) | exact HB.out)⟩
         ·rw [if_neg c74] at H
          have c74b0 : (t341 == (-1)) = false := beq_eq_false_iff_ne.mpr c74
          have c74b1 : (t341 != (-1)) = true := bne_iff_ne.mpr c74
          by_cases c78 : t341 > t337
          ·rw [if_pos c78] at H
           have c78b0 : decide (t337 < t341) = true := decide_eq_true c78
           clear c78
           replace H := Option.bind_eq_some_iff.mp H
           obtain ⟨t342, A790, H⟩ := H
           replace H : (if t342 = t338 then ((impl_SleepHours.f kj64 t336 t338 t337).bind fun t343 => (some (decide (t343 ≤ (wrap64 (t341 - 1)))))) else (some false)) = some r := H
           have A79 := Aside0.mk A790
           clear A790
           by_cases c80 : t342 = t338
           ·rw [if_pos c80] at H
            have c80b0 : (t342 == t338) = true := beq_iff_eq.mpr c80
            have c80b1 : (t342 != t338) = false := bne_eq_false_iff_eq.mpr c80
            clear c80
            replace H := Option.bind_eq_some_iff.mp H
            obtain ⟨t343, A810, H⟩ := H
            replace H : (some (decide (t343 ≤ (wrap64 (t341 - 1))))) = some r := H
            have A81 := Aside0.mk A810
            clear A810
            obtain rfl := Option.some.inj H
            go_wp2_with (first | ((with_reducible refine gate_callee (f := 34) rfl ?_); refine goesL_ (some 90) rfl rfl Try.func34 (by kernel_rfl) rfl #[.slice A0 l0.length c0] rfl (by (try simp only [List.map_toArray, List.map_cons, List.map_nil]); first | done | rfl | (simp only [List.length_drop, List.length_take]; rfl)) ?_; (with_reducible refine (spec_DrawSwapWatch.calls kj64 _ _ l0 t336 t337 t338 _ ?side1 ?side2 A72.out).mono ?_); (case side1 => repeat (first | exact (Kd.C_below HR0.out HB.out) | (with_reducible refine Kd.C_alloc ?_ _) | (with_reducible refine Kd.C_drewN ?_ _) | (with_reducible refine Kd.C_drew ?_))); (case side2 => exact HC0.out); rintro e w82 ⟨v339, rfl, ho0, hb⟩; refine ⟨_, rfl, ?_⟩; have n0_ := Aside0.mk (Kd.R_lower ho0 (below_size (by repeat (first | (with_reducible first | exact HB.out | apply below_alloc | apply pw_below_drewN | apply below_drew1) | exact HB.out)))); have n1_ := Aside0.mk (below_step (by repeat (first | (with_reducible first | exact HB.out | apply below_alloc | apply pw_below_drewN | apply below_drew1) | exact HB.out)) hb); clear HB; have HO340 := n0_; have HB := n1_; clear n0_ n1_; (try clear hb); (try clear hb2); (try clear hk); (try clear hi); (try clear ho0); obtain ⟨Ao83, co83, eo83⟩ := Kd.R_slice HO340.out; subst eo83) | ((with_reducible refine gate_callee (f := 22) rfl ?_); refine goesL_ (some 97) rfl rfl Try.func22 (by kernel_rfl) rfl #[.slice Ao83 t336.length co83, .int .i64 t337, .int .i64 t338] rfl (by (try simp only [List.map_toArray, List.map_cons, List.map_nil]); first | done | rfl | (simp only [List.length_drop, List.length_take]; rfl)) ?_; (with_reducible refine (impl_SwapWatch.calls kj64 _ _ t336 t337 t338 t341 _ ?side1 ?side2 A73.out).mono ?_); (case side1 => repeat (first | exact (Kd.R_reads' HO340.out).2.2 | (with_reducible refine Kd.C_alloc ?_ _) | (with_reducible refine Kd.C_drewN ?_ _) | (with_reducible refine Kd.C_drew ?_))); (case side2 => exact (Kd.R_reads' HO340.out).2.1); rintro e w84 ⟨rfl, hb⟩; refine ⟨_, rfl, ?_⟩; have n0_ := Aside0.mk (Kd.R_below (by (with_reducible repeat (first | apply Kd.R_alloc | apply Kd.R_drewN | apply Kd.R_drew)); exact HO340.out) hb); have n1_ := Aside0.mk (below_step (by repeat (first | (with_reducible first | exact HB.out | apply below_alloc | apply pw_below_drewN | apply below_drew1) | exact HB.out)) hb); clear HO340; clear HB; have HO340 := n0_; have HB := n1_; clear n0_ n1_; (try clear hb); (try clear hb2); (try clear hk); (try clear hi)) | (go_at_call 17; (with_reducible refine (impl_WatchOf.calls kj64 _ _ t336 t341 t342 _ ?side1 ?side2 A79.out).mono ?_); (case side1 => repeat (first | exact (Kd.R_reads' HO340.out).2.2 | (with_reducible refine Kd.C_alloc ?_ _) | (with_reducible refine Kd.C_drewN ?_ _) | (with_reducible refine Kd.C_drew ?_))); (case side2 => exact (Kd.R_reads' HO340.out).2.1); rintro e w85 ⟨rfl, hb⟩; have n0_ := Aside0.mk (Kd.R_below (by (with_reducible repeat (first | apply Kd.R_alloc | apply Kd.R_drewN | apply Kd.R_drew)); exact HO340.out) hb); have n1_ := Aside0.mk (below_step (by repeat (first | (with_reducible first | exact HB.out | apply below_alloc | apply pw_below_drewN | apply below_drew1) | exact HB.out)) hb); clear HO340; clear HB; have HO340 := n0_; have HB := n1_; clear n0_ n1_; (try clear hb); (try clear hb2); (try clear hk); (try clear hi)) | (go_at_call 24; (with_reducible refine (impl_SleepHours.calls kj64 _ _ t336 t338 t337 t343 _ ?side1 ?side2 A81.out).mono ?_); (case side1 => repeat (first | exact (Kd.R_reads' HO340.out).2.2 | (with_reducible refine Kd.C_alloc ?_ _) | (with_reducible refine Kd.C_drewN ?_ _) | (with_reducible refine Kd.C_drew ?_))); (case side2 => exact (Kd.R_reads' HO340.out).2.1); rintro e w86 ⟨rfl, hb⟩; have n0_ := Aside0.mk (Kd.R_below (by (with_reducible repeat (first | apply Kd.R_alloc | apply Kd.R_drewN | apply Kd.R_drew)); exact HO340.out) hb); have n1_ := Aside0.mk (below_step (by repeat (first | (with_reducible first | exact HB.out | apply below_alloc | apply pw_below_drewN | apply below_drew1) | exact HB.out)) hb); clear HO340; clear HB; have HO340 := n0_; have HB := n1_; clear n0_ n1_; (try clear hb); (try clear hb2); (try clear hk); (try clear hi)))
            go_ret
            exact ⟨by first | rfl | (simp [errW_none, errW_some] <;> rfl) | (simp [*, errW_none, errW_some] <;> rfl), by repeat (first | (with_reducible first | exact HB.out | apply below_alloc | apply pw_below_drewN | apply below_drew1) | exact HB.out)⟩
           ·rw [if_neg c80] at H
            have c80b0 : (t342 == t338) = false := beq_eq_false_iff_ne.mpr c80
            have c80b1 : (t342 != t338) = true := bne_iff_ne.mpr c80
            obtain rfl := Option.some.inj H
            go_wp2_with (first | ((with_reducible refine gate_callee (f := 34) rfl ?_); refine goesL_ (some 90) rfl rfl Try.func34 (by kernel_rfl) rfl #[.slice A0 l0.length c0] rfl (by (try simp only [List.map_toArray, List.map_cons, List.map_nil]); first | done | rfl | (simp only [List.length_drop, List.length_take]; rfl)) ?_; (with_reducible refine (spec_DrawSwapWatch.calls kj64 _ _ l0 t336 t337 t338 _ ?side1 ?side2 A72.out).mono ?_); (case side1 => repeat (first | exact (Kd.C_below HR0.out HB.out) | (with_reducible refine Kd.C_alloc ?_ _) | (with_reducible refine Kd.C_drewN ?_ _) | (with_reducible refine Kd.C_drew ?_))); (case side2 => exact HC0.out); rintro e w87 ⟨v339, rfl, ho0, hb⟩; refine ⟨_, rfl, ?_⟩; have n0_ := Aside0.mk (Kd.R_lower ho0 (below_size (by repeat (first | (with_reducible first | exact HB.out | apply below_alloc | apply pw_below_drewN | apply below_drew1) | exact HB.out)))); have n1_ := Aside0.mk (below_step (by repeat (first | (with_reducible first | exact HB.out | apply below_alloc | apply pw_below_drewN | apply below_drew1) | exact HB.out)) hb); clear HB; have HO340 := n0_; have HB := n1_; clear n0_ n1_; (try clear hb); (try clear hb2); (try clear hk); (try clear hi); (try clear ho0); obtain ⟨Ao88, co88, eo88⟩ := Kd.R_slice HO340.out; subst eo88) | ((with_reducible refine gate_callee (f := 22) rfl ?_); refine goesL_ (some 97) rfl rfl Try.func22 (by kernel_rfl) rfl #[.slice Ao88 t336.length co88, .int .i64 t337, .int .i64 t338] rfl (by (try simp only [List.map_toArray, List.map_cons, List.map_nil]); first | done | rfl | (simp only [List.length_drop, List.length_take]; rfl)) ?_; (with_reducible refine (impl_SwapWatch.calls kj64 _ _ t336 t337 t338 t341 _ ?side1 ?side2 A73.out).mono ?_); (case side1 => repeat (first | exact (Kd.R_reads' HO340.out).2.2 | (with_reducible refine Kd.C_alloc ?_ _) | (with_reducible refine Kd.C_drewN ?_ _) | (with_reducible refine Kd.C_drew ?_))); (case side2 => exact (Kd.R_reads' HO340.out).2.1); rintro e w89 ⟨rfl, hb⟩; refine ⟨_, rfl, ?_⟩; have n0_ := Aside0.mk (Kd.R_below (by (with_reducible repeat (first | apply Kd.R_alloc | apply Kd.R_drewN | apply Kd.R_drew)); exact HO340.out) hb); have n1_ := Aside0.mk (below_step (by repeat (first | (with_reducible first | exact HB.out | apply below_alloc | apply pw_below_drewN | apply below_drew1) | exact HB.out)) hb); clear HO340; clear HB; have HO340 := n0_; have HB := n1_; clear n0_ n1_; (try clear hb); (try clear hb2); (try clear hk); (try clear hi)) | (go_at_call 17; (with_reducible refine (impl_WatchOf.calls kj64 _ _ t336 t341 t342 _ ?side1 ?side2 A79.out).mono ?_); (case side1 => repeat (first | exact (Kd.R_reads' HO340.out).2.2 | (with_reducible refine Kd.C_alloc ?_ _) | (with_reducible refine Kd.C_drewN ?_ _) | (with_reducible refine Kd.C_drew ?_))); (case side2 => exact (Kd.R_reads' HO340.out).2.1); rintro e w90 ⟨rfl, hb⟩; have n0_ := Aside0.mk (Kd.R_below (by (with_reducible repeat (first | apply Kd.R_alloc | apply Kd.R_drewN | apply Kd.R_drew)); exact HO340.out) hb); have n1_ := Aside0.mk (below_step (by repeat (first | (with_reducible first | exact HB.out | apply below_alloc | apply pw_below_drewN | apply below_drew1) | exact HB.out)) hb); clear HO340; clear HB; have HO340 := n0_; have HB := n1_; clear n0_ n1_; (try clear hb); (try clear hb2); (try clear hk); (try clear hi)))
            go_ret
            exact ⟨by first | rfl | (simp [errW_none, errW_some] <;> rfl) | (simp [*, errW_none, errW_some] <;> rfl), by repeat (first | (with_reducible first | exact HB.out | apply below_alloc | apply pw_below_drewN | apply below_drew1) | exact HB.out)⟩
          ·rw [if_neg c78] at H
           have c78b0 : decide (t337 < t341) = false := decide_eq_false c78
           clear c78
           obtain rfl := Option.some.inj H
           go_wp2_with (first | ((with_reducible refine gate_callee (f := 34) rfl ?_); refine goesL_ (some 90) rfl rfl Try.func34 (by kernel_rfl) rfl #[.slice A0 l0.length c0] rfl (by (try simp only [List.map_toArray, List.map_cons, List.map_nil]); first | done | rfl | (simp only [List.length_drop, List.length_take]; rfl)) ?_; (with_reducible refine (spec_DrawSwapWatch.calls kj64 _ _ l0 t336 t337 t338 _ ?side1 ?side2 A72.out).mono ?_); (case side1 => repeat (first | exact (Kd.C_below HR0.out HB.out) | (with_reducible refine Kd.C_alloc ?_ _) | (with_reducible refine Kd.C_drewN ?_ _) | (with_reducible refine Kd.C_drew ?_))); (case side2 => exact HC0.out); rintro e w91 ⟨v339, rfl, ho0, hb⟩; refine ⟨_, rfl, ?_⟩; have n0_ := Aside0.mk (Kd.R_lower ho0 (below_size (by repeat (first | (with_reducible first | exact HB.out | apply below_alloc | apply pw_below_drewN | apply below_drew1) | exact HB.out)))); have n1_ := Aside0.mk (below_step (by repeat (first | (with_reducible first | exact HB.out | apply below_alloc | apply pw_below_drewN | apply below_drew1) | exact HB.out)) hb); clear HB; have HO340 := n0_; have HB := n1_; clear n0_ n1_; (try clear hb); (try clear hb2); (try clear hk); (try clear hi); (try clear ho0); obtain ⟨Ao92, co92, eo92⟩ := Kd.R_slice HO340.out; subst eo92) | ((with_reducible refine gate_callee (f := 22) rfl ?_); refine goesL_ (some 97) rfl rfl Try.func22 (by kernel_rfl) rfl #[.slice Ao92 t336.length co92, .int .i64 t337, .int .i64 t338] rfl (by (try simp only [List.map_toArray, List.map_cons, List.map_nil]); first | done | rfl | (simp only [List.length_drop, List.length_take]; rfl)) ?_; (with_reducible refine (impl_SwapWatch.calls kj64 _ _ t336 t337 t338 t341 _ ?side1 ?side2 A73.out).mono ?_); (case side1 => repeat (first | exact (Kd.R_reads' HO340.out).2.2 | (with_reducible refine Kd.C_alloc ?_ _) | (with_reducible refine Kd.C_drewN ?_ _) | (with_reducible refine Kd.C_drew ?_))); (case side2 => exact (Kd.R_reads' HO340.out).2.1); rintro e w93 ⟨rfl, hb⟩; refine ⟨_, rfl, ?_⟩; have n0_ := Aside0.mk (Kd.R_below (by (with_reducible repeat (first | apply Kd.R_alloc | apply Kd.R_drewN | apply Kd.R_drew)); exact HO340.out) hb); have n1_ := Aside0.mk (below_step (by repeat (first | (with_reducible first | exact HB.out | apply below_alloc | apply pw_below_drewN | apply below_drew1) | exact HB.out)) hb); clear HO340; clear HB; have HO340 := n0_; have HB := n1_; clear n0_ n1_; (try clear hb); (try clear hb2); (try clear hk); (try clear hi)))
           go_ret
           exact ⟨by first | rfl | (simp [errW_none, errW_some] <;> rfl) | (simp [*, errW_none, errW_some] <;> rfl), by repeat (first | (with_reducible first | exact HB.out | apply below_alloc | apply pw_below_drewN | apply below_drew1) | exact HB.out)⟩

/-- THE ONE PURE STATEMENT of laws_FnWatches: yours. -/
def laws_FnWatches.Pure : Prop := ∀ (l0 : List Int), l0.length ≤ maxLen → l0.length * 1 ≤ 140737488351232 → (∀ x ∈ l0, (Lit.int .u8 x).wf = true) → ∃ k, laws_FnWatches.f k l0 = some true
theorem laws_FnWatches.walk (P : laws_FnWatches.Pure) (a0 : Option Addr) (len0 cap0 : Nat) (z0 : List Int) (w : World) (w0 : (a0 = none ∧ len0 = 0 ∧ cap0 = 0 ∧ z0 = []) ∨ ∃ x, a0 = some x ∧ len0 ≤ cap0 ∧ cap0 ≤ maxLen ∧ z0.length = cap0 ∧ (∀ i, i < z0.length → w.cell? (x.add i) = some (.int .u8 (z0.getD i 0))) ∧ ∀ n ∈ z0, (Lit.int .u8 n).wf = true) (y0 : len0 * 1 ≤ 140737488351232) :
  Calls Try.prog 8 #[.slice a0 len0 cap0] w fun e w' => e = .returned (.bool true) ∧ Below w.heap.size w w' := by
 obtain ⟨l0, rfl, hr0, hm0, hw0, hc0⟩ := ReadsInt.ofRowC w0
 obtain ⟨k, h⟩ := P l0 hm0 y0 hw0
 refine (laws_FnWatches.calls k _ _ l0 true w (Kd.C_of_reads (d := (0 : Int)) (h1 := fun _ => rfl) hr0) hc0 h).mono ?_
 rintro e w' ⟨rfl, hd⟩
 exact ⟨rfl, hd⟩

end Go.Proofs.Ytfccmpchpcflkaa.PFnWatches
