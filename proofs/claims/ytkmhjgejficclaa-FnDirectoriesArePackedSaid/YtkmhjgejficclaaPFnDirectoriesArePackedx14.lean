-- Laid by a program of this session: the print of the kit with additions of ours (wip/tools/patchprint.py). Nothing of it is trusted: Lean checks it.
import Derived.Test.YtkmhjgejficclaaPFnDirectoriesArePackedx0
import Derived.Test.YtkmhjgejficclaaPFnDirectoriesArePackedx2
import Derived.Test.YtkmhjgejficclaaPFnDirectoriesArePackedx6
import Derived.Test.YtkmhjgejficclaaPFnDirectoriesArePackedx8
import Derived.Test.YtkmhjgejficclaaPFnDirectoriesArePackedx9
import Derived.Test.YtkmhjgejficclaaPFnDirectoriesArePackedx13
namespace Go.Proofs.Ytkmhjgejficclaa.PFnDirectoriesArePacked
open Go.RowKit Go.Proofs.YtkmhjgejficclaaW.PrintWords Go.Proofs.YtkmhjgejficclaaW.PrintLast Go.Proofs.YtkmhjgejficclaaW.PrintMore
attribute [local go_sem] max2_int min2_int max_two min_two max_three min_three max_four min_four   -- for this text's walks alone
set_option linter.unusedVariables false
set_option linter.unusedSimpArgs false

/-! ### laws_FnDirectoriesArePacked: function 11 -/
mutual
def laws_FnDirectoriesArePacked.j0 : Nat → List Int → Bool → Bool → Int → List Int → List Int → List Int → Int → List Int → Option (Bool)
 | 0, _, _, _, _, _, _, _, _, _ => none
 | k + 1, x1, x9, x44, x510000, x510001, x510002, x510003, x516000, x516001 => if x44 = true then (none) else (if x9 = true then ((impl_DirectoryBits.f x510000).bind fun bt523 => ((impl_UnpackDirectory.f k x510000 x510001 x516000 x516001).bind fun bt525 => (if bt523.2 = true then (if bt525.2.2.2.2 = true then (if x516000 = bt523.1 then ((laws_pSameRanked.f k bt525.1 bt525.2.1 bt525.2.2.1 bt525.2.2.2.1 x510000 x510001 x510002 x510003).bind fun t537 => (laws_FnDirectoriesArePacked.j1 k x1 bt523.1 (!t537) x510000 x510001 x510002 x510003 x516000 x516001)) else (none)) else (none)) else (none)))) else (some true))
def laws_FnDirectoriesArePacked.j1 : Nat → List Int → Int → Bool → Int → List Int → List Int → List Int → Int → List Int → Option (Bool)
 | 0, _, _, _, _, _, _, _, _, _ => none
 | k + 1, x1, x10, x78, x510000, x510001, x510002, x510003, x516000, x516001 => if x78 = true then (none) else (if x10 = 0 then (some true) else ((impl_BitAt.f k x516000 x516001 ((x1.length : Int) % x10)).bind fun bt538 => ((impl_PutBit.f k x516000 x516001 ((x1.length : Int) % x10) (!bt538.1)).bind fun bt540 => ((impl_UnpackDirectory.f k x510000 x510001 bt540.1 bt540.2.1).bind fun bt546 => (if bt538.2 = true then (if bt540.2.2 = true then (some (!bt546.2.2.2.2)) else (none)) else (none))))))
end
def laws_FnDirectoriesArePacked.f (k : Nat) (l0 : List Int) (l1 : List Int) : Option (Bool) := (laws_big.f l0 l1).bind fun t498 => (if t498 = true then (some true) else ((spec_DrawPackDirectory.f k l0).bind fun bt499 => ((impl_PackDirectory.f k bt499.1 bt499.2.1 bt499.2.2.1 bt499.2.2.2).bind fun bt510 => ((spec_PackDirectory.f k bt499.1 bt499.2.1 bt499.2.2.1 bt499.2.2.2).bind fun bt516 => (if (bt510.2.2 != bt516.2.2) = true then (none) else ((laws_pSameBits.f k bt510.1 bt510.2.1 bt516.1 bt516.2.1).bind fun t522 => (laws_FnDirectoriesArePacked.j0 k l1 bt516.2.2 (!t522) bt499.1 bt499.2.1 bt499.2.2.1 bt499.2.2.2 bt510.1 bt510.2.1)))))))
theorem laws_FnDirectoriesArePacked.mono_l : ∀ k, (∀ y0 y1 y2 y3 y4 y5 y6 y7 y8, LeO (laws_FnDirectoriesArePacked.j0 k y0 y1 y2 y3 y4 y5 y6 y7 y8) (laws_FnDirectoriesArePacked.j0 (k + 1) y0 y1 y2 y3 y4 y5 y6 y7 y8)) ∧ (∀ y0 y1 y2 y3 y4 y5 y6 y7 y8, LeO (laws_FnDirectoriesArePacked.j1 k y0 y1 y2 y3 y4 y5 y6 y7 y8) (laws_FnDirectoriesArePacked.j1 (k + 1) y0 y1 y2 y3 y4 y5 y6 y7 y8))
 | 0 => ⟨fun _ _ _ _ _ _ _ _ _ r h => by simp [laws_FnDirectoriesArePacked.j0] at h, fun _ _ _ _ _ _ _ _ _ r h => by simp [laws_FnDirectoriesArePacked.j1] at h⟩
 | k + 1 => by
  obtain ⟨ih0, ih1⟩ := laws_FnDirectoriesArePacked.mono_l k
  refine ⟨?_, ?_⟩
  ·intro y0 y1 y2 y3 y4 y5 y6 y7 y8
   unfold laws_FnDirectoriesArePacked.j0
   repeat' first
   | (with_reducible exact ih0 _ _ _ _ _ _ _ _ _)
   | (with_reducible exact ih1 _ _ _ _ _ _ _ _ _)
   | (with_reducible exact impl_BitAt.mono _ _ _ _)
   | (with_reducible exact impl_PackDirectory.mono _ _ _ _ _)
   | (with_reducible exact impl_PutBit.mono _ _ _ _ _)
   | (with_reducible exact impl_UnpackDirectory.mono _ _ _ _ _)
   | (with_reducible exact laws_pSameBits.mono _ _ _ _ _)
   | (with_reducible exact laws_pSameRanked.mono _ _ _ _ _ _ _ _ _)
   | (with_reducible exact spec_DrawPackDirectory.mono _ _)
   | (with_reducible exact spec_PackDirectory.mono _ _ _ _ _)
   | (with_reducible exact LeO.refl _)
   | (with_reducible exact LeO.none _)
   | (with_reducible refine LeO.ite ?_ ?_)
   | (with_reducible refine LeO.bind ?_ (fun _ => ?_))
   | exact ih0 _ _ _ _ _ _ _ _ _
   | exact ih1 _ _ _ _ _ _ _ _ _
   | exact impl_BitAt.mono _ _ _ _
   | exact impl_PackDirectory.mono _ _ _ _ _
   | exact impl_PutBit.mono _ _ _ _ _
   | exact impl_UnpackDirectory.mono _ _ _ _ _
   | exact laws_pSameBits.mono _ _ _ _ _
   | exact laws_pSameRanked.mono _ _ _ _ _ _ _ _ _
   | exact spec_DrawPackDirectory.mono _ _
   | exact spec_PackDirectory.mono _ _ _ _ _
   | exact LeO.none _
   | refine LeO.ite ?_ ?_
   | refine LeO.bind ?_ (fun _ => ?_)
  ·intro y0 y1 y2 y3 y4 y5 y6 y7 y8
   unfold laws_FnDirectoriesArePacked.j1
   repeat' first
   | (with_reducible exact ih0 _ _ _ _ _ _ _ _ _)
   | (with_reducible exact ih1 _ _ _ _ _ _ _ _ _)
   | (with_reducible exact impl_BitAt.mono _ _ _ _)
   | (with_reducible exact impl_PackDirectory.mono _ _ _ _ _)
   | (with_reducible exact impl_PutBit.mono _ _ _ _ _)
   | (with_reducible exact impl_UnpackDirectory.mono _ _ _ _ _)
   | (with_reducible exact laws_pSameBits.mono _ _ _ _ _)
   | (with_reducible exact laws_pSameRanked.mono _ _ _ _ _ _ _ _ _)
   | (with_reducible exact spec_DrawPackDirectory.mono _ _)
   | (with_reducible exact spec_PackDirectory.mono _ _ _ _ _)
   | (with_reducible exact LeO.refl _)
   | (with_reducible exact LeO.none _)
   | (with_reducible refine LeO.ite ?_ ?_)
   | (with_reducible refine LeO.bind ?_ (fun _ => ?_))
   | exact ih0 _ _ _ _ _ _ _ _ _
   | exact ih1 _ _ _ _ _ _ _ _ _
   | exact impl_BitAt.mono _ _ _ _
   | exact impl_PackDirectory.mono _ _ _ _ _
   | exact impl_PutBit.mono _ _ _ _ _
   | exact impl_UnpackDirectory.mono _ _ _ _ _
   | exact laws_pSameBits.mono _ _ _ _ _
   | exact laws_pSameRanked.mono _ _ _ _ _ _ _ _ _
   | exact spec_DrawPackDirectory.mono _ _
   | exact spec_PackDirectory.mono _ _ _ _ _
   | exact LeO.none _
   | refine LeO.ite ?_ ?_
   | refine LeO.bind ?_ (fun _ => ?_)
theorem laws_FnDirectoriesArePacked.mono : ∀ a0 a1 k, LeO (laws_FnDirectoriesArePacked.f k a0 a1) (laws_FnDirectoriesArePacked.f (k + 1) a0 a1) := by
 intro a0 a1 k
 obtain ⟨ih0, ih1⟩ := laws_FnDirectoriesArePacked.mono_l k
 unfold laws_FnDirectoriesArePacked.f
 repeat' first
   | (with_reducible exact ih0 _ _ _ _ _ _ _ _ _)
   | (with_reducible exact ih1 _ _ _ _ _ _ _ _ _)
   | (with_reducible exact impl_BitAt.mono _ _ _ _)
   | (with_reducible exact impl_PackDirectory.mono _ _ _ _ _)
   | (with_reducible exact impl_PutBit.mono _ _ _ _ _)
   | (with_reducible exact impl_UnpackDirectory.mono _ _ _ _ _)
   | (with_reducible exact laws_pSameBits.mono _ _ _ _ _)
   | (with_reducible exact laws_pSameRanked.mono _ _ _ _ _ _ _ _ _)
   | (with_reducible exact spec_DrawPackDirectory.mono _ _)
   | (with_reducible exact spec_PackDirectory.mono _ _ _ _ _)
   | (with_reducible exact LeO.refl _)
   | (with_reducible exact LeO.none _)
   | (with_reducible refine LeO.ite ?_ ?_)
   | (with_reducible refine LeO.bind ?_ (fun _ => ?_))
   | exact ih0 _ _ _ _ _ _ _ _ _
   | exact ih1 _ _ _ _ _ _ _ _ _
   | exact impl_BitAt.mono _ _ _ _
   | exact impl_PackDirectory.mono _ _ _ _ _
   | exact impl_PutBit.mono _ _ _ _ _
   | exact impl_UnpackDirectory.mono _ _ _ _ _
   | exact laws_pSameBits.mono _ _ _ _ _
   | exact laws_pSameRanked.mono _ _ _ _ _ _ _ _ _
   | exact spec_DrawPackDirectory.mono _ _
   | exact spec_PackDirectory.mono _ _ _ _ _
   | exact LeO.none _
   | refine LeO.ite ?_ ?_
   | refine LeO.bind ?_ (fun _ => ?_)
set_option maxHeartbeats 8000000 in
set_option maxRecDepth 100000 in
theorem laws_FnDirectoriesArePacked.calls (k : Nat) (A0 : Option Addr) (c0 : Nat) (l0 : List Int) (A1 : Option Addr) (c1 : Nat) (l1 : List Int) (r : Bool) (w : World) (hr0 : Kd.C (Kd.int .u8) w A0 l0.length l0) (hc0 : l0.length ≤ c0) (hr1 : Kd.C (Kd.int .u8) w A1 l1.length l1) (hc1 : l1.length ≤ c1) (h : laws_FnDirectoriesArePacked.f k l0 l1 = some r) :
  Calls Try.prog 11 #[.slice A0 l0.length c0, .slice A1 l1.length c1] w fun e w' => e = .returned (.bool r) ∧ Below w.heap.size w w' := by
 have hu48 := Try.underlying48
 have hu26 := Try.underlying26
 have HR0 := am_ hr0
 have HC0 := am_ hc0
 clear hr0 hc0
 have HR1 := am_ hr1
 have HC1 := am_ hc1
 clear hr1 hc1
 have HB := am_ (Below.refl w.heap.size w)
 have H : ((laws_big.f l0 l1).bind fun t498 => (if t498 = true then (some true) else ((spec_DrawPackDirectory.f k l0).bind fun bt499 => ((impl_PackDirectory.f k bt499.1 bt499.2.1 bt499.2.2.1 bt499.2.2.2).bind fun bt510 => ((spec_PackDirectory.f k bt499.1 bt499.2.1 bt499.2.2.1 bt499.2.2.2).bind fun bt516 => (if (bt510.2.2 != bt516.2.2) = true then (none) else ((laws_pSameBits.f k bt510.1 bt510.2.1 bt516.1 bt516.2.1).bind fun t522 => (laws_FnDirectoriesArePacked.j0 k l1 bt516.2.2 (!t522) bt499.1 bt499.2.1 bt499.2.2.1 bt499.2.2.2 bt510.1 bt510.2.1)))))))) = some r := h
 clear h
 replace H := Option.bind_eq_some_iff.mp H
 obtain ⟨t498, A30, H⟩ := H
 replace H : (if t498 = true then (some true) else ((spec_DrawPackDirectory.f k l0).bind fun bt499 => ((impl_PackDirectory.f k bt499.1 bt499.2.1 bt499.2.2.1 bt499.2.2.2).bind fun bt510 => ((spec_PackDirectory.f k bt499.1 bt499.2.1 bt499.2.2.1 bt499.2.2.2).bind fun bt516 => (if (bt510.2.2 != bt516.2.2) = true then (none) else ((laws_pSameBits.f k bt510.1 bt510.2.1 bt516.1 bt516.2.1).bind fun t522 => (laws_FnDirectoriesArePacked.j0 k l1 bt516.2.2 (!t522) bt499.1 bt499.2.1 bt499.2.2.1 bt499.2.2.2 bt510.1 bt510.2.1))))))) = some r := H
 have A3 := am_ A30
 clear A30
 by_cases c4 : t498 = true
 ·subst c4
  have H1 : (some true) = some r := by rw [if_pos rfl] at H; exact H
  clear H
  have H := H1
  clear H1
  obtain rfl := Option.some.inj H
  go_enter Try.func11, Try.ntmps11
  go_wp2_with (first | ((with_reducible refine gate_callee (f := 45) rfl ?_); refine goesL_ (some 23) rfl rfl Try.func45 (by kernel_rfl) rfl #[.slice A0 l0.length c0, .slice A1 l1.length c1] rfl lm_ ?_; (with_reducible refine (laws_big.calls _ _ l0 _ _ l1 true _ ?side1 ?side2 ?side3 ?side4 A3.out).mono ?_); (case side1 => exact lc_ HR0.out); (case side2 => exact HC0.out); (case side3 => exact lc_ HR1.out); (case side4 => exact HC1.out); rintro e w' ⟨rfl, ⟨nd, rfl⟩⟩; refine ⟨_, rfl, ?_⟩))
  go_ret
  exact ⟨er_, lw_ HB⟩
 ·replace c4 := Bool.eq_false_iff.mpr c4
  subst c4
  have H1 : ((spec_DrawPackDirectory.f k l0).bind fun bt499 => ((impl_PackDirectory.f k bt499.1 bt499.2.1 bt499.2.2.1 bt499.2.2.2).bind fun bt510 => ((spec_PackDirectory.f k bt499.1 bt499.2.1 bt499.2.2.1 bt499.2.2.2).bind fun bt516 => (if (bt510.2.2 != bt516.2.2) = true then (none) else ((laws_pSameBits.f k bt510.1 bt510.2.1 bt516.1 bt516.2.1).bind fun t522 => (laws_FnDirectoriesArePacked.j0 k l1 bt516.2.2 (!t522) bt499.1 bt499.2.1 bt499.2.2.1 bt499.2.2.2 bt510.1 bt510.2.1)))))) = some r := by rw [if_neg (show ¬ (false = true) by decide)] at H; exact H
  clear H
  have H := H1
  clear H1
  replace H := Option.bind_eq_some_iff.mp H
  obtain ⟨⟨t499, t500, t503, t506⟩, A50, H⟩ := H
  replace H : ((impl_PackDirectory.f k t499 t500 t503 t506).bind fun bt510 => ((spec_PackDirectory.f k t499 t500 t503 t506).bind fun bt516 => (if (bt510.2.2 != bt516.2.2) = true then (none) else ((laws_pSameBits.f k bt510.1 bt510.2.1 bt516.1 bt516.2.1).bind fun t522 => (laws_FnDirectoriesArePacked.j0 k l1 bt516.2.2 (!t522) t499 t500 t503 t506 bt510.1 bt510.2.1))))) = some r := H
  have A5 := am_ A50
  clear A50
  replace H := Option.bind_eq_some_iff.mp H
  obtain ⟨⟨t510, t511, t514⟩, A60, H⟩ := H
  replace H : ((spec_PackDirectory.f k t499 t500 t503 t506).bind fun bt516 => (if (t514 != bt516.2.2) = true then (none) else ((laws_pSameBits.f k t510 t511 bt516.1 bt516.2.1).bind fun t522 => (laws_FnDirectoriesArePacked.j0 k l1 bt516.2.2 (!t522) t499 t500 t503 t506 t510 t511)))) = some r := H
  have A6 := am_ A60
  clear A60
  replace H := Option.bind_eq_some_iff.mp H
  obtain ⟨⟨t516, t517, t520⟩, A70, H⟩ := H
  replace H : (if (t514 != t520) = true then (none) else ((laws_pSameBits.f k t510 t511 t516 t517).bind fun t522 => (laws_FnDirectoriesArePacked.j0 k l1 t520 (!t522) t499 t500 t503 t506 t510 t511))) = some r := H
  have A7 := am_ A70
  clear A70
  have HC8 := am_ H
  clear H
  go_enter Try.func11, Try.ntmps11
  go_upto_region 6 with (first | ((with_reducible refine gate_callee (f := 45) rfl ?_); refine goesL_ (some 23) rfl rfl Try.func45 (by kernel_rfl) rfl #[.slice A0 l0.length c0, .slice A1 l1.length c1] rfl lm_ ?_; (with_reducible refine (laws_big.calls _ _ l0 _ _ l1 false _ ?side1 ?side2 ?side3 ?side4 A3.out).mono ?_); (case side1 => exact lc_ HR0.out); (case side2 => exact HC0.out); (case side3 => exact lc_ HR1.out); (case side4 => exact HC1.out); rintro e w' ⟨rfl, ⟨nd, rfl⟩⟩; refine ⟨_, rfl, ?_⟩) | ((with_reducible refine gate_callee (f := 46) rfl ?_); refine goesL_ (some 25) rfl rfl Try.func46 (by kernel_rfl) rfl #[.slice A0 l0.length c0] rfl lm_ ?_; (with_reducible refine (spec_DrawPackDirectory.calls k _ _ l0 t499 t500 t503 t506 _ ?side1 ?side2 A5.out).mono ?_); (case side1 => exact lc_ HR0.out); (case side2 => exact HC0.out); rintro e w9 ⟨v501, v504, v507, rfl, ho0, ho1, ho2, hb⟩; refine ⟨_, rfl, ?_⟩; have HO502 := am_ (Kd.R_lower ho0 (below_size (lw_ HB))); have HO505 := am_ (Kd.R_lower ho1 (below_size (lw_ HB))); have HO508 := am_ (Kd.R_lower ho2 (below_size (lw_ HB))); replace HB := am_ (below_step (lw_ HB) hb); (try clear hb); (try clear hb2); (try clear hk); (try clear hi); (try clear ho0); (try clear ho1); (try clear ho2)) | ((with_reducible refine gate_dst (N := 5) rfl ?_); refine bev_ 5 #[.int .i64 0, .slice none 0 0, .slice none 0 0, .slice none 0 0] 48 rfl rfl ?_; intro gb509 hg w10 hbox hb; have BK509 := am_ (hbox); have GW509 := am_ ((by rw [hg]; exact (below_size (lw_ HB)) : w.heap.size ≤ gb509)); have GE509 := am_ ((by rw [hg]; exact (below_size (lw_ HB)) : w.heap.size ≤ gb509)); replace HO502 := am_ (Kd.R_below (lf_ HO502) hb); replace HO505 := am_ (Kd.R_below (lf_ HO505) hb); replace HO508 := am_ (Kd.R_below (lf_ HO508) hb); replace HB := am_ (below_step (lw_ HB) hb); clear hb hbox hg; obtain ⟨hcz11_0, hcz11_1, hcz11_2, hcz11_3, hfz11_0, hfz11_1, hfz11_2, hfz11_3⟩ := bx4_ BK509.out; obtain ⟨Ao12, co12, eo12⟩ := Kd.R_slice HO502.out; subst eo12; obtain ⟨Ao13, co13, eo13⟩ := Kd.R_slice HO505.out; subst eo13; obtain ⟨Ao14, co14, eo14⟩ := Kd.R_slice HO508.out; subst eo14) | ((with_reducible refine gate_callee (f := 42) rfl ?_); refine goesL_ (some 28) rfl rfl Try.func42 (by kernel_rfl) rfl #[.agg #[.int .i64 t499, .slice Ao12 t500.length co12, .slice Ao13 t503.length co13, .slice Ao14 t506.length co14]] rfl lm_ ?_; (with_reducible refine (impl_PackDirectory.calls k t499 _ _ t500 _ _ t503 _ _ t506 t510 t511 t514 _ ?side1 ?side2 ?side3 ?side4 ?side5 ?side6 A6.out).mono ?_); (case side1 => refine (Kd.R_reads' (e := 3) (base := w.heap.size) (ok := fun k_ => (ns_ k_ Ao13 t503 co13 ∧ ns_ k_ Ao14 t506 co14)) (n := t500.length) (c := co12) ?_).2.2; exact (lt_ ((m1_ (fr4_ HO502.out BK509.out (.int .i64 t499) (.slice Ao12 t500.length co12) (.slice Ao13 t503.length co13) (.slice Ao14 t506.length co14)))))); (case side2 => exact (Kd.R_reads' HO502.out).2.1); (case side3 => refine (Kd.R_reads' (e := 3) (base := w.heap.size) (ok := fun k_ => (ns_ k_ Ao12 t500 co12 ∧ ns_ k_ Ao14 t506 co14)) (n := t503.length) (c := co13) ?_).2.2; exact (lt_ ((m1_ (fr4_ HO505.out BK509.out (.int .i64 t499) (.slice Ao12 t500.length co12) (.slice Ao13 t503.length co13) (.slice Ao14 t506.length co14)))))); (case side4 => exact (Kd.R_reads' HO505.out).2.1); (case side5 => refine (Kd.R_reads' (e := 3) (base := w.heap.size) (ok := fun k_ => (ns_ k_ Ao12 t500 co12 ∧ ns_ k_ Ao13 t503 co13)) (n := t506.length) (c := co14) ?_).2.2; exact (lt_ ((m1_ (fr4_ HO508.out BK509.out (.int .i64 t499) (.slice Ao12 t500.length co12) (.slice Ao13 t503.length co13) (.slice Ao14 t506.length co14)))))); (case side6 => exact (Kd.R_reads' HO508.out).2.1); rintro e w15 ⟨v512, rfl, ho0, hb⟩; refine ⟨_, rfl, ?_⟩; have HO513 := am_ (Kd.R_lower (Kd.R_new' (Kd.R_new' (Kd.R_new' ho0 (Kd.R_lt (lt_ ((m1_ (fr4_ HO502.out BK509.out (.int .i64 t499) (.slice Ao12 t500.length co12) (.slice Ao13 t503.length co13) (.slice Ao14 t506.length co14))))))) (Kd.R_lt (lt_ ((m1_ (fr4_ HO505.out BK509.out (.int .i64 t499) (.slice Ao12 t500.length co12) (.slice Ao13 t503.length co13) (.slice Ao14 t506.length co14))))))) (Kd.R_lt (lt_ ((m1_ (fr4_ HO508.out BK509.out (.int .i64 t499) (.slice Ao12 t500.length co12) (.slice Ao13 t503.length co13) (.slice Ao14 t506.length co14))))))) (below_size (lw_ HB))); replace HO502 := am_ (Kd.R_elder' (lt_ ((m1_ (fr4_ HO502.out BK509.out (.int .i64 t499) (.slice Ao12 t500.length co12) (.slice Ao13 t503.length co13) (.slice Ao14 t506.length co14))))) (Kd.R_base ho0) hb); replace HO505 := am_ (Kd.R_elder' (lt_ ((m1_ (fr4_ HO505.out BK509.out (.int .i64 t499) (.slice Ao12 t500.length co12) (.slice Ao13 t503.length co13) (.slice Ao14 t506.length co14))))) (Kd.R_base ho0) hb); replace HO508 := am_ (Kd.R_elder' (lt_ ((m1_ (fr4_ HO508.out BK509.out (.int .i64 t499) (.slice Ao12 t500.length co12) (.slice Ao13 t503.length co13) (.slice Ao14 t506.length co14))))) (Kd.R_base ho0) hb); replace BK509 := am_ (blk_below (g := gb509) (o := .cells #[.int .i64 t499, .slice Ao12 t500.length co12, .slice Ao13 t503.length co13, .slice Ao14 t506.length co14] 48 (0, 0)) (lq_ BK509) hb); replace HB := am_ (below_step (lw_ HB) hb); (try clear hb); (try clear hb2); (try clear hk); (try clear hi); (try clear ho0)) | ((with_reducible refine gate_dst (N := 6) rfl ?_); refine bev_ 6 #[.int .i64 0, .slice none 0 0] 26 rfl rfl ?_; intro gb515 hg w16 hbox hb; have BK515 := am_ (hbox); have GW515 := am_ ((by rw [hg]; exact (below_size (lw_ HB)) : w.heap.size ≤ gb515)); have GE515 := am_ ((by rw [hg]; exact (below_size (lw_ HB)) : w.heap.size ≤ gb515)); have NB509_515 := am_ ((by rw [hg]; exact Nat.ne_of_lt (blk_lt (g := gb509) (lb_ BK509)) : gb509 ≠ gb515)); have NB515_509 := am_ ((by rw [hg]; exact Nat.ne_of_gt (blk_lt (g := gb509) (lb_ BK509)) : gb515 ≠ gb509)); replace HO502 := am_ (Kd.R_below (lf_ HO502) hb); replace HO505 := am_ (Kd.R_below (lf_ HO505) hb); replace HO508 := am_ (Kd.R_below (lf_ HO508) hb); replace HO513 := am_ (Kd.R_below (lf_ HO513) hb); replace BK509 := am_ (blk_below (g := gb509) (lb_ BK509) hb); replace HB := am_ (below_step (lw_ HB) hb); clear hb hbox hg; have hnb17 := NB515_509.out; have hnc17 := NB509_515.out; obtain ⟨hcz18_0, hcz18_1, hfz18_0, hfz18_1⟩ := bx2_ BK515.out; obtain ⟨Ao19, co19, eo19⟩ := Kd.R_slice HO513.out; subst eo19; obtain ⟨hcz20_0, hcz20_1, hcz20_2, hcz20_3, hfz20_0, hfz20_1, hfz20_2, hfz20_3⟩ := bx4_ BK509.out) | ((with_reducible refine gate_callee (f := 41) rfl ?_); refine goesL_ (some 33) rfl rfl Try.func41 (by kernel_rfl) rfl #[.agg #[.int .i64 t499, .slice Ao12 t500.length co12, .slice Ao13 t503.length co13, .slice Ao14 t506.length co14]] rfl lm_ ?_; (with_reducible refine (spec_PackDirectory.calls k t499 _ _ t500 _ _ t503 _ _ t506 t516 t517 t520 _ ?side1 ?side2 ?side3 ?side4 ?side5 ?side6 A7.out).mono ?_); (case side1 => refine (Kd.R_reads' (e := 3) (base := w.heap.size) (ok := fun k_ => ((ns_ k_ Ao13 t503 co13 ∧ ns_ k_ Ao14 t506 co14) ∧ ns_ k_ Ao19 t511 co19)) (n := t500.length) (c := co12) ?_).2.2; exact (lt_ ((m1_ (fr2_ HO502.out BK515.out (.int .i64 t510) (.slice Ao19 t511.length co19)))))); (case side2 => exact (Kd.R_reads' HO502.out).2.1); (case side3 => refine (Kd.R_reads' (e := 3) (base := w.heap.size) (ok := fun k_ => ((ns_ k_ Ao12 t500 co12 ∧ ns_ k_ Ao14 t506 co14) ∧ ns_ k_ Ao19 t511 co19)) (n := t503.length) (c := co13) ?_).2.2; exact (lt_ ((m1_ (fr2_ HO505.out BK515.out (.int .i64 t510) (.slice Ao19 t511.length co19)))))); (case side4 => exact (Kd.R_reads' HO505.out).2.1); (case side5 => refine (Kd.R_reads' (e := 3) (base := w.heap.size) (ok := fun k_ => ((ns_ k_ Ao12 t500 co12 ∧ ns_ k_ Ao13 t503 co13) ∧ ns_ k_ Ao19 t511 co19)) (n := t506.length) (c := co14) ?_).2.2; exact (lt_ ((m1_ (fr2_ HO508.out BK515.out (.int .i64 t510) (.slice Ao19 t511.length co19)))))); (case side6 => exact (Kd.R_reads' HO508.out).2.1); rintro e w21 ⟨v518, rfl, ho0, hb⟩; refine ⟨_, rfl, ?_⟩; have HO519 := am_ (Kd.R_lower (Kd.R_new' (Kd.R_new' (Kd.R_new' (Kd.R_new' ho0 (Kd.R_lt (lt_ ((m1_ (fr2_ HO502.out BK515.out (.int .i64 t510) (.slice Ao19 t511.length co19))))))) (Kd.R_lt (lt_ ((m1_ (fr2_ HO505.out BK515.out (.int .i64 t510) (.slice Ao19 t511.length co19))))))) (Kd.R_lt (lt_ ((m1_ (fr2_ HO508.out BK515.out (.int .i64 t510) (.slice Ao19 t511.length co19))))))) (Kd.R_lt (lt_ ((m1_ (fr2_ HO513.out BK515.out (.int .i64 t510) (.slice Ao19 t511.length co19))))))) (below_size (lw_ HB))); replace HO502 := am_ (Kd.R_elder' (lt_ ((m1_ (fr2_ HO502.out BK515.out (.int .i64 t510) (.slice Ao19 t511.length co19))))) (Kd.R_base ho0) hb); replace HO505 := am_ (Kd.R_elder' (lt_ ((m1_ (fr2_ HO505.out BK515.out (.int .i64 t510) (.slice Ao19 t511.length co19))))) (Kd.R_base ho0) hb); replace HO508 := am_ (Kd.R_elder' (lt_ ((m1_ (fr2_ HO508.out BK515.out (.int .i64 t510) (.slice Ao19 t511.length co19))))) (Kd.R_base ho0) hb); replace HO513 := am_ (Kd.R_elder' (lt_ ((m1_ (fr2_ HO513.out BK515.out (.int .i64 t510) (.slice Ao19 t511.length co19))))) (Kd.R_base ho0) hb); replace BK509 := am_ (blk_below (g := gb509) (lg_ BK509) hb); replace BK515 := am_ (blk_below (g := gb515) (o := .cells #[.int .i64 t510, .slice Ao19 t511.length co19] 26 (0, 0)) (lq_ BK515) hb); replace HB := am_ (below_step (lw_ HB) hb); (try clear hb); (try clear hb2); (try clear hk); (try clear hi); (try clear ho0)) | ((with_reducible refine gate_dst (N := 8) rfl ?_); refine bev_ 8 #[.int .i64 0, .slice none 0 0] 26 rfl rfl ?_; intro gb521 hg w22 hbox hb; have BK521 := am_ (hbox); have GW521 := am_ ((by rw [hg]; exact (below_size (lw_ HB)) : w.heap.size ≤ gb521)); have GE521 := am_ ((by rw [hg]; exact (below_size (lw_ HB)) : w.heap.size ≤ gb521)); have NB509_521 := am_ ((by rw [hg]; exact Nat.ne_of_lt (blk_lt (g := gb509) (lb_ BK509)) : gb509 ≠ gb521)); have NB521_509 := am_ ((by rw [hg]; exact Nat.ne_of_gt (blk_lt (g := gb509) (lb_ BK509)) : gb521 ≠ gb509)); have NB515_521 := am_ ((by rw [hg]; exact Nat.ne_of_lt (blk_lt (g := gb515) (lb_ BK515)) : gb515 ≠ gb521)); have NB521_515 := am_ ((by rw [hg]; exact Nat.ne_of_gt (blk_lt (g := gb515) (lb_ BK515)) : gb521 ≠ gb515)); replace HO502 := am_ (Kd.R_below (lf_ HO502) hb); replace HO505 := am_ (Kd.R_below (lf_ HO505) hb); replace HO508 := am_ (Kd.R_below (lf_ HO508) hb); replace HO513 := am_ (Kd.R_below (lf_ HO513) hb); replace HO519 := am_ (Kd.R_below (lf_ HO519) hb); replace BK509 := am_ (blk_below (g := gb509) (lb_ BK509) hb); replace BK515 := am_ (blk_below (g := gb515) (lb_ BK515) hb); replace HB := am_ (below_step (lw_ HB) hb); clear hb hbox hg; have hnb23 := NB521_509.out; have hnc23 := NB509_521.out; have hnb24 := NB521_515.out; have hnc24 := NB515_521.out; obtain ⟨hcz25_0, hcz25_1, hfz25_0, hfz25_1⟩ := bx2_ BK521.out; obtain ⟨Ao26, co26, eo26⟩ := Kd.R_slice HO519.out; subst eo26))
  (try simp only [Act.put, List.setIfInBounds_toArray, List.set_cons_zero, List.set_cons_succ])
  go_cut [44] (fun v44 wc => ∃ (kq : Nat) (x44_7 : Bool), v44 = .bool x44_7 ∧ Aside0 (laws_FnDirectoriesArePacked.j0 kq l1 t520 x44_7 t499 t500 t503 t506 t510 t511 = some r) ∧ Aside0 (kq ≤ k) ∧ Aside0 (Kd.R (Kd.int .i64) 3 wc w.heap.size (fun k_ => ns_ k_ Ao13 t503 co13 ∧ ns_ k_ Ao14 t506 co14 ∧ ns_ k_ Ao19 t511 co19 ∧ ns_ k_ Ao26 t517 co26) (.slice Ao12 t500.length co12) t500) ∧ Aside0 (Kd.R (Kd.int .i64) 3 wc w.heap.size (fun k_ => ns_ k_ Ao12 t500 co12 ∧ ns_ k_ Ao14 t506 co14 ∧ ns_ k_ Ao19 t511 co19 ∧ ns_ k_ Ao26 t517 co26) (.slice Ao13 t503.length co13) t503) ∧ Aside0 (Kd.R (Kd.int .i64) 3 wc w.heap.size (fun k_ => ns_ k_ Ao12 t500 co12 ∧ ns_ k_ Ao13 t503 co13 ∧ ns_ k_ Ao19 t511 co19 ∧ ns_ k_ Ao26 t517 co26) (.slice Ao14 t506.length co14) t506) ∧ Aside0 (Kd.R (Kd.int .i64) 3 wc w.heap.size (fun k_ => ns_ k_ Ao12 t500 co12 ∧ ns_ k_ Ao13 t503 co13 ∧ ns_ k_ Ao14 t506 co14 ∧ ns_ k_ Ao26 t517 co26) (.slice Ao19 t511.length co19) t511) ∧ Aside0 (Kd.R (Kd.int .i64) 3 wc w.heap.size (fun k_ => ns_ k_ Ao12 t500 co12 ∧ ns_ k_ Ao13 t503 co13 ∧ ns_ k_ Ao14 t506 co14 ∧ ns_ k_ Ao19 t511 co19) (.slice Ao26 t517.length co26) t517) ∧ Aside0 (wc.heap[gb509]? = some (.cells #[.int .i64 t499, (.slice Ao12 t500.length co12), (.slice Ao13 t503.length co13), (.slice Ao14 t506.length co14)] 48 (0, 0))) ∧ Aside0 (wc.heap[gb515]? = some (.cells #[.int .i64 t510, (.slice Ao19 t511.length co19)] 26 (0, 0))) ∧ Aside0 (wc.heap[gb521]? = some (.cells #[.int .i64 t516, (.slice Ao26 t517.length co26)] 26 (0, 0))) ∧ Aside0 (Below w.heap.size w wc))
  case first =>
   have H := HC8.out
   clear HC8
   by_cases c27 : (t514 != t520) = true
   ·rw [if_pos c27] at H
    exact absurd H (by simp)
   ·rw [if_neg c27] at H
    have c27b0 : (t514 != t520) = false := by simpa using c27
    (try (have c27b1 : decide (t514 = t520) = true := by simpa using c27))
    (try (have c27b2 : (t514 == t520) = true := by simpa using c27))
    clear c27
    (first | rw [c27b0] | (simp only [i64_w, i32_w]; rw [c27b0]) | skip)
    replace H := Option.bind_eq_some_iff.mp H
    obtain ⟨t522, A280, H⟩ := H
    replace H : (laws_FnDirectoriesArePacked.j0 k l1 t520 (!t522) t499 t500 t503 t506 t510 t511) = some r := H
    have A28 := am_ A280
    clear A280
    have H' := am_ H
    clear H
    have hnb29 := NB515_509.out
    have hnc29 := NB509_515.out
    have hnb30 := NB515_521.out
    have hnc30 := NB521_515.out
    obtain ⟨hcz31_0, hcz31_1, hfz31_0, hfz31_1⟩ := bx2_ BK515.out
    have hnb32 := NB521_509.out
    have hnc32 := NB509_521.out
    obtain ⟨hcz33_0, hcz33_1, hfz33_0, hfz33_1⟩ := bx2_ BK521.out
    go_wp2_with (first | (go_at_call 47; (with_reducible refine (laws_pSameBits.calls k t510 _ _ t511 t516 _ _ t517 t522 _ ?side1 ?side2 ?side3 ?side4 A28.out).mono ?_); (case side1 => refine (Kd.R_reads' (e := 3) (base := w.heap.size) (ok := fun k_ => ((((True ∧ ns_ k_ Ao12 t500 co12) ∧ ns_ k_ Ao13 t503 co13) ∧ ns_ k_ Ao14 t506 co14) ∧ ns_ k_ Ao26 t517 co26)) (n := t511.length) (c := co19) ?_).2.2; exact (lt_ ((m1_ (fr2_ HO513.out BK521.out (.int .i64 t516) (.slice Ao26 t517.length co26)))))); (case side2 => exact (Kd.R_reads' HO513.out).2.1); (case side3 => refine (Kd.R_reads' (e := 3) (base := w.heap.size) (ok := fun k_ => ((((True ∧ ns_ k_ Ao12 t500 co12) ∧ ns_ k_ Ao13 t503 co13) ∧ ns_ k_ Ao14 t506 co14) ∧ ns_ k_ Ao19 t511 co19)) (n := t517.length) (c := co26) ?_).2.2; exact (lt_ ((m1_ (fr2_ HO519.out BK521.out (.int .i64 t516) (.slice Ao26 t517.length co26)))))); (case side4 => exact (Kd.R_reads' HO519.out).2.1); rintro e w34 ⟨rfl, hb⟩; replace HO502 := am_ (Kd.R_below (lt_ ((m1_ (fr2_ HO502.out BK521.out (.int .i64 t516) (.slice Ao26 t517.length co26))))) hb); replace HO505 := am_ (Kd.R_below (lt_ ((m1_ (fr2_ HO505.out BK521.out (.int .i64 t516) (.slice Ao26 t517.length co26))))) hb); replace HO508 := am_ (Kd.R_below (lt_ ((m1_ (fr2_ HO508.out BK521.out (.int .i64 t516) (.slice Ao26 t517.length co26))))) hb); replace HO513 := am_ (Kd.R_below (lt_ ((m1_ (fr2_ HO513.out BK521.out (.int .i64 t516) (.slice Ao26 t517.length co26))))) hb); replace HO519 := am_ (Kd.R_below (lt_ ((m1_ (fr2_ HO519.out BK521.out (.int .i64 t516) (.slice Ao26 t517.length co26))))) hb); replace BK509 := am_ (blk_below (g := gb509) (lg_ BK509) hb); replace BK515 := am_ (blk_below (g := gb515) (lg_ BK515) hb); replace BK521 := am_ (blk_below (g := gb521) (o := .cells #[.int .i64 t516, .slice Ao26 t517.length co26] 26 (0, 0)) (lq_ BK521) hb); replace HB := am_ (below_step (lw_ HB) hb); (try clear hb); (try clear hb2); (try clear hk); (try clear hi)))
    go_meet
    case rel => exact ⟨_, (!t522), sr_, H', ⟨by first | omega | exact Nat.le_refl _⟩, ⟨lo_ HO502⟩, ⟨lo_ HO505⟩, ⟨lo_ HO508⟩, ⟨lo_ HO513⟩, ⟨lo_ HO519⟩, ⟨lb_ BK509⟩, ⟨lb_ BK515⟩, ⟨lb_ BK521⟩, ⟨lw_ HB⟩⟩
  case rest =>
   clear HC8
   try clear c1
   try clear c2
   try clear p2
   try clear c3
   try clear c4
   try clear c11
   try clear c17
   try clear c23
   try clear c24
   try clear c27
   try clear c27b0
   try clear c27b1
   try clear c27b2
   try clear c29
   try clear c30
   try clear c32
   try clear hcz11_0
   try clear hcz11_1
   try clear hcz11_2
   try clear hcz11_3
   try clear hcz18_0
   try clear hcz18_1
   try clear hcz20_0
   try clear hcz20_1
   try clear hcz20_2
   try clear hcz20_3
   try clear hcz25_0
   try clear hcz25_1
   try clear hcz31_0
   try clear hcz31_1
   try clear hcz33_0
   try clear hcz33_1
   try clear hfz11_0
   try clear hfz11_1
   try clear hfz11_2
   try clear hfz11_3
   try clear hfz18_0
   try clear hfz18_1
   try clear hfz20_0
   try clear hfz20_1
   try clear hfz20_2
   try clear hfz20_3
   try clear hfz25_0
   try clear hfz25_1
   try clear hfz31_0
   try clear hfz31_1
   try clear hfz33_0
   try clear hfz33_1
   obtain ⟨kq, x44_7, rfl, HA, HJ7, HO_510001, HO_510002, HO_510003, HO_516001, HO_522001, BK509, BK515, BK521, HB⟩ := hcut
   cases kq with
   | zero => exact absurd HA.out (by simp [laws_FnDirectoriesArePacked.j0])
   | succ kj7 =>
    have H := HA.out
    clear HA
    simp only [laws_FnDirectoriesArePacked.j0] at H
    by_cases c35 : x44_7 = true
    ·subst c35
     have H1 : (none) = some r := by rw [if_pos rfl] at H; exact H
     clear H
     have H := H1
     clear H1
     exact absurd H (by simp)
    ·replace c35 := Bool.eq_false_iff.mpr c35
     subst c35
     have H1 : (if t520 = true then ((impl_DirectoryBits.f t499).bind fun bt523 => ((impl_UnpackDirectory.f kj7 t499 t500 t510 t511).bind fun bt525 => (if bt523.2 = true then (if bt525.2.2.2.2 = true then (if t510 = bt523.1 then ((laws_pSameRanked.f kj7 bt525.1 bt525.2.1 bt525.2.2.1 bt525.2.2.2.1 t499 t500 t503 t506).bind fun t537 => (laws_FnDirectoriesArePacked.j1 kj7 l1 bt523.1 (!t537) t499 t500 t503 t506 t510 t511)) else (none)) else (none)) else (none)))) else (some true)) = some r := by rw [if_neg (show ¬ (false = true) by decide)] at H; exact H
     clear H
     have H := H1
     clear H1
     by_cases c36 : t520 = true
     ·subst c36
      have H1 : ((impl_DirectoryBits.f t499).bind fun bt523 => ((impl_UnpackDirectory.f kj7 t499 t500 t510 t511).bind fun bt525 => (if bt523.2 = true then (if bt525.2.2.2.2 = true then (if t510 = bt523.1 then ((laws_pSameRanked.f kj7 bt525.1 bt525.2.1 bt525.2.2.1 bt525.2.2.2.1 t499 t500 t503 t506).bind fun t537 => (laws_FnDirectoriesArePacked.j1 kj7 l1 bt523.1 (!t537) t499 t500 t503 t506 t510 t511)) else (none)) else (none)) else (none)))) = some r := by rw [if_pos rfl] at H; exact H
      clear H
      have H := H1
      clear H1
      replace H := Option.bind_eq_some_iff.mp H
      obtain ⟨⟨t523, t524⟩, A370, H⟩ := H
      replace H : ((impl_UnpackDirectory.f kj7 t499 t500 t510 t511).bind fun bt525 => (if t524 = true then (if bt525.2.2.2.2 = true then (if t510 = t523 then ((laws_pSameRanked.f kj7 bt525.1 bt525.2.1 bt525.2.2.1 bt525.2.2.2.1 t499 t500 t503 t506).bind fun t537 => (laws_FnDirectoriesArePacked.j1 kj7 l1 t523 (!t537) t499 t500 t503 t506 t510 t511)) else (none)) else (none)) else (none))) = some r := H
      have A37 := am_ A370
      clear A370
      replace H := Option.bind_eq_some_iff.mp H
      obtain ⟨⟨t525, t526, t529, t532, t535⟩, A380, H⟩ := H
      replace H : (if t524 = true then (if t535 = true then (if t510 = t523 then ((laws_pSameRanked.f kj7 t525 t526 t529 t532 t499 t500 t503 t506).bind fun t537 => (laws_FnDirectoriesArePacked.j1 kj7 l1 t523 (!t537) t499 t500 t503 t506 t510 t511)) else (none)) else (none)) else (none)) = some r := H
      have A38 := am_ A380
      clear A380
      have HC39 := am_ H
      clear H
      have hnb40 := NB509_515.out
      have hnc40 := NB515_509.out
      have hnb41 := NB509_521.out
      have hnc41 := NB521_509.out
      obtain ⟨hcz42_0, hcz42_1, hcz42_2, hcz42_3, hfz42_0, hfz42_1, hfz42_2, hfz42_3⟩ := bx4_ BK509.out
      go_upto_region 12 with (first | ((with_reducible refine gate_callee (f := 48) rfl ?_); refine goesL_ (some 51) rfl rfl Try.func48 (by kernel_rfl) rfl #[.int .i64 t499] rfl lm_ ?_; (with_reducible refine (impl_DirectoryBits.calls t499 t523 t524 _ A37.out).mono ?_); rintro e w' ⟨rfl, ⟨nd, rfl⟩⟩; refine ⟨_, rfl, ?_⟩; (try (rw [drewN_self wc]; generalize hq_ : World.drewN wc _ = wc; have n0_ : Aside0 (Kd.R (Kd.int .i64) 3 wc w.heap.size (fun k_ => ns_ k_ Ao13 t503 co13 ∧ ns_ k_ Ao14 t506 co14 ∧ ns_ k_ Ao19 t511 co19 ∧ ns_ k_ Ao26 t517 co26) (.slice Ao12 t500.length co12) t500) := ⟨by rw [← hq_]; exact (lf_ HO_510001)⟩; have n1_ : Aside0 (Kd.R (Kd.int .i64) 3 wc w.heap.size (fun k_ => ns_ k_ Ao12 t500 co12 ∧ ns_ k_ Ao14 t506 co14 ∧ ns_ k_ Ao19 t511 co19 ∧ ns_ k_ Ao26 t517 co26) (.slice Ao13 t503.length co13) t503) := ⟨by rw [← hq_]; exact (lf_ HO_510002)⟩; have n2_ : Aside0 (Kd.R (Kd.int .i64) 3 wc w.heap.size (fun k_ => ns_ k_ Ao12 t500 co12 ∧ ns_ k_ Ao13 t503 co13 ∧ ns_ k_ Ao19 t511 co19 ∧ ns_ k_ Ao26 t517 co26) (.slice Ao14 t506.length co14) t506) := ⟨by rw [← hq_]; exact (lf_ HO_510003)⟩; have n3_ : Aside0 (Kd.R (Kd.int .i64) 3 wc w.heap.size (fun k_ => ns_ k_ Ao12 t500 co12 ∧ ns_ k_ Ao13 t503 co13 ∧ ns_ k_ Ao14 t506 co14 ∧ ns_ k_ Ao26 t517 co26) (.slice Ao19 t511.length co19) t511) := ⟨by rw [← hq_]; exact (lf_ HO_516001)⟩; have n4_ : Aside0 (Kd.R (Kd.int .i64) 3 wc w.heap.size (fun k_ => ns_ k_ Ao12 t500 co12 ∧ ns_ k_ Ao13 t503 co13 ∧ ns_ k_ Ao14 t506 co14 ∧ ns_ k_ Ao19 t511 co19) (.slice Ao26 t517.length co26) t517) := ⟨by rw [← hq_]; exact (lf_ HO_522001)⟩; have n5_ : Aside0 (wc.heap[gb509]? = some (.cells #[.int .i64 t499, .slice Ao12 t500.length co12, .slice Ao13 t503.length co13, .slice Ao14 t506.length co14] 48 (0, 0))) := ⟨by rw [← hq_]; exact (lb_ BK509)⟩; have n6_ : Aside0 (wc.heap[gb515]? = some (.cells #[.int .i64 t510, .slice Ao19 t511.length co19] 26 (0, 0))) := ⟨by rw [← hq_]; exact (lb_ BK515)⟩; have n7_ : Aside0 (wc.heap[gb521]? = some (.cells #[.int .i64 t516, .slice Ao26 t517.length co26] 26 (0, 0))) := ⟨by rw [← hq_]; exact (lb_ BK521)⟩; have n8_ : Aside0 (Below w.heap.size w wc) := ⟨by rw [← hq_]; exact (lw_ HB)⟩; clear HO_510001 HO_510002 HO_510003 HO_516001 HO_522001 BK509 BK515 BK521 HB hq_; have HO_510001 := n0_; have HO_510002 := n1_; have HO_510003 := n2_; have HO_516001 := n3_; have HO_522001 := n4_; have BK509 := n5_; have BK515 := n6_; have BK521 := n7_; have HB := n8_; clear n0_ n1_ n2_ n3_ n4_ n5_ n6_ n7_ n8_)); (try have hcyc_42_0 : wc.cell? ⟨gb509, 0, none⟩ = some (.int .i64 t499) := (blk_cell BK509.out 0).trans rfl); (try have hcyc_42_1 : wc.cell? ⟨gb509, 1, none⟩ = some (.slice Ao12 t500.length co12) := (blk_cell BK509.out 1).trans rfl); (try have hcyc_42_2 : wc.cell? ⟨gb509, 2, none⟩ = some (.slice Ao13 t503.length co13) := (blk_cell BK509.out 2).trans rfl); (try have hcyc_42_3 : wc.cell? ⟨gb509, 3, none⟩ = some (.slice Ao14 t506.length co14) := (blk_cell BK509.out 3).trans rfl); (try have hcyf_42_0 := blk_frozen BK509.out 0); (try have hcyf_42_1 := blk_frozen BK509.out 1); (try have hcyf_42_2 := blk_frozen BK509.out 2); (try have hcyf_42_3 := blk_frozen BK509.out 3); have hnb43 := NB515_521.out; have hnc43 := NB521_515.out; obtain ⟨hcz44_0, hcz44_1, hfz44_0, hfz44_1⟩ := bx2_ BK515.out) | ((with_reducible refine gate_callee (f := 44) rfl ?_); refine goesL_ (some 58) rfl rfl Try.func44 (by kernel_rfl) rfl #[.agg #[.int .i64 t499, .slice Ao12 t500.length co12], .agg #[.int .i64 t510, .slice Ao19 t511.length co19]] rfl lm_ ?_; (with_reducible refine (impl_UnpackDirectory.calls kj7 t499 _ _ t500 t510 _ _ t511 t525 t526 t529 t532 t535 _ ?side1 ?side2 ?side3 ?side4 A38.out).mono ?_); (case side1 => exact lc_ (Kd.R_reads' HO_510001.out).2.2); (case side2 => exact (Kd.R_reads' HO_510001.out).2.1); (case side3 => exact lc_ (Kd.R_reads' HO_516001.out).2.2); (case side4 => exact (Kd.R_reads' HO_516001.out).2.1); rintro e w45 ⟨v527, v530, v533, rfl, ho0, ho1, ho2, hb⟩; refine ⟨_, rfl, ?_⟩; have HO528 := am_ (Kd.R_lower (nw_ (nw_ (nw_ (nw_ (nw_ ho0 HO_510001) HO_510002) HO_510003) HO_516001) HO_522001) (below_size (lw_ HB))); have HO531 := am_ (Kd.R_lower (nw_ (nw_ (nw_ (nw_ (nw_ ho1 HO_510001) HO_510002) HO_510003) HO_516001) HO_522001) (below_size (lw_ HB))); have HO534 := am_ (Kd.R_lower (nw_ (nw_ (nw_ (nw_ (nw_ ho2 HO_510001) HO_510002) HO_510003) HO_516001) HO_522001) (below_size (lw_ HB))); replace HO_510001 := am_ (m1_ (td_ (td_ (td_ (Kd.R_old (lf_ HO_510001) hb) ho0) ho1) ho2)); replace HO_510002 := am_ (m1_ (td_ (td_ (td_ (Kd.R_old (lf_ HO_510002) hb) ho0) ho1) ho2)); replace HO_510003 := am_ (m1_ (td_ (td_ (td_ (Kd.R_old (lf_ HO_510003) hb) ho0) ho1) ho2)); replace HO_516001 := am_ (m1_ (td_ (td_ (td_ (Kd.R_old (lf_ HO_516001) hb) ho0) ho1) ho2)); replace HO_522001 := am_ (m1_ (td_ (td_ (td_ (Kd.R_old (lf_ HO_522001) hb) ho0) ho1) ho2)); replace BK509 := am_ (blk_below (g := gb509) (lb_ BK509) hb); replace BK515 := am_ (blk_below (g := gb515) (lb_ BK515) hb); replace BK521 := am_ (blk_below (g := gb521) (lb_ BK521) hb); replace HB := am_ (below_step (lw_ HB) hb); (try clear hb); (try clear hb2); (try clear hk); (try clear hi); (try clear ho0); (try clear ho1); (try clear ho2)) | ((with_reducible refine gate_dst (N := 12) rfl ?_); refine bev_ 12 #[.int .i64 0, .slice none 0 0, .slice none 0 0, .slice none 0 0] 48 rfl rfl ?_; intro gb536 hg w46 hbox hb; have BK536 := am_ (hbox); have GW536 := am_ ((by rw [hg]; exact (below_size (lw_ HB)) : w.heap.size ≤ gb536)); have GE536 := am_ ((by rw [hg]; exact (below_size (lw_ HB)) : w.heap.size ≤ gb536)); have NB509_536 := am_ ((by rw [hg]; exact Nat.ne_of_lt (blk_lt (g := gb509) (lb_ BK509)) : gb509 ≠ gb536)); have NB536_509 := am_ ((by rw [hg]; exact Nat.ne_of_gt (blk_lt (g := gb509) (lb_ BK509)) : gb536 ≠ gb509)); have NB515_536 := am_ ((by rw [hg]; exact Nat.ne_of_lt (blk_lt (g := gb515) (lb_ BK515)) : gb515 ≠ gb536)); have NB536_515 := am_ ((by rw [hg]; exact Nat.ne_of_gt (blk_lt (g := gb515) (lb_ BK515)) : gb536 ≠ gb515)); have NB521_536 := am_ ((by rw [hg]; exact Nat.ne_of_lt (blk_lt (g := gb521) (lb_ BK521)) : gb521 ≠ gb536)); have NB536_521 := am_ ((by rw [hg]; exact Nat.ne_of_gt (blk_lt (g := gb521) (lb_ BK521)) : gb536 ≠ gb521)); replace HO_510001 := am_ (Kd.R_below (lf_ HO_510001) hb); replace HO_510002 := am_ (Kd.R_below (lf_ HO_510002) hb); replace HO_510003 := am_ (Kd.R_below (lf_ HO_510003) hb); replace HO_516001 := am_ (Kd.R_below (lf_ HO_516001) hb); replace HO_522001 := am_ (Kd.R_below (lf_ HO_522001) hb); replace HO528 := am_ (Kd.R_below (lf_ HO528) hb); replace HO531 := am_ (Kd.R_below (lf_ HO531) hb); replace HO534 := am_ (Kd.R_below (lf_ HO534) hb); replace BK509 := am_ (blk_below (g := gb509) (lb_ BK509) hb); replace BK515 := am_ (blk_below (g := gb515) (lb_ BK515) hb); replace BK521 := am_ (blk_below (g := gb521) (lb_ BK521) hb); replace HB := am_ (below_step (lw_ HB) hb); clear hb hbox hg; have hnb47 := NB536_509.out; have hnc47 := NB509_536.out; have hnb48 := NB536_515.out; have hnc48 := NB515_536.out; have hnb49 := NB536_521.out; have hnc49 := NB521_536.out; obtain ⟨hcz50_0, hcz50_1, hcz50_2, hcz50_3, hfz50_0, hfz50_1, hfz50_2, hfz50_3⟩ := bx4_ BK536.out; obtain ⟨Ao51, co51, eo51⟩ := Kd.R_slice HO528.out; subst eo51; obtain ⟨Ao52, co52, eo52⟩ := Kd.R_slice HO531.out; subst eo52; obtain ⟨Ao53, co53, eo53⟩ := Kd.R_slice HO534.out; subst eo53))
      (try simp only [Act.put, List.setIfInBounds_toArray, List.set_cons_zero, List.set_cons_succ])
      go_cut [78] (fun v78 wc => ∃ (kq : Nat) (x78_38 : Bool), v78 = .bool x78_38 ∧ Aside0 (laws_FnDirectoriesArePacked.j1 kq l1 t523 x78_38 t499 t500 t503 t506 t510 t511 = some r) ∧ Aside0 (kq ≤ kj7) ∧ Aside0 (Kd.R (Kd.int .i64) 3 wc w.heap.size (fun k_ => ns_ k_ Ao13 t503 co13 ∧ ns_ k_ Ao14 t506 co14 ∧ ns_ k_ Ao19 t511 co19 ∧ ns_ k_ Ao26 t517 co26 ∧ ns_ k_ Ao51 t526 co51 ∧ ns_ k_ Ao52 t529 co52 ∧ ns_ k_ Ao53 t532 co53) (.slice Ao12 t500.length co12) t500) ∧ Aside0 (Kd.R (Kd.int .i64) 3 wc w.heap.size (fun k_ => ns_ k_ Ao12 t500 co12 ∧ ns_ k_ Ao14 t506 co14 ∧ ns_ k_ Ao19 t511 co19 ∧ ns_ k_ Ao26 t517 co26 ∧ ns_ k_ Ao51 t526 co51 ∧ ns_ k_ Ao52 t529 co52 ∧ ns_ k_ Ao53 t532 co53) (.slice Ao13 t503.length co13) t503) ∧ Aside0 (Kd.R (Kd.int .i64) 3 wc w.heap.size (fun k_ => ns_ k_ Ao12 t500 co12 ∧ ns_ k_ Ao13 t503 co13 ∧ ns_ k_ Ao19 t511 co19 ∧ ns_ k_ Ao26 t517 co26 ∧ ns_ k_ Ao51 t526 co51 ∧ ns_ k_ Ao52 t529 co52 ∧ ns_ k_ Ao53 t532 co53) (.slice Ao14 t506.length co14) t506) ∧ Aside0 (Kd.R (Kd.int .i64) 3 wc w.heap.size (fun k_ => ns_ k_ Ao12 t500 co12 ∧ ns_ k_ Ao13 t503 co13 ∧ ns_ k_ Ao14 t506 co14 ∧ ns_ k_ Ao26 t517 co26 ∧ ns_ k_ Ao51 t526 co51 ∧ ns_ k_ Ao52 t529 co52 ∧ ns_ k_ Ao53 t532 co53) (.slice Ao19 t511.length co19) t511) ∧ Aside0 (Kd.R (Kd.int .i64) 3 wc w.heap.size (fun k_ => ns_ k_ Ao12 t500 co12 ∧ ns_ k_ Ao13 t503 co13 ∧ ns_ k_ Ao14 t506 co14 ∧ ns_ k_ Ao19 t511 co19 ∧ ns_ k_ Ao51 t526 co51 ∧ ns_ k_ Ao52 t529 co52 ∧ ns_ k_ Ao53 t532 co53) (.slice Ao26 t517.length co26) t517) ∧ Aside0 (Kd.R (Kd.int .i64) 3 wc w.heap.size (fun k_ => ns_ k_ Ao12 t500 co12 ∧ ns_ k_ Ao13 t503 co13 ∧ ns_ k_ Ao14 t506 co14 ∧ ns_ k_ Ao19 t511 co19 ∧ ns_ k_ Ao26 t517 co26 ∧ ns_ k_ Ao52 t529 co52 ∧ ns_ k_ Ao53 t532 co53) (.slice Ao51 t526.length co51) t526) ∧ Aside0 (Kd.R (Kd.int .i64) 3 wc w.heap.size (fun k_ => ns_ k_ Ao12 t500 co12 ∧ ns_ k_ Ao13 t503 co13 ∧ ns_ k_ Ao14 t506 co14 ∧ ns_ k_ Ao19 t511 co19 ∧ ns_ k_ Ao26 t517 co26 ∧ ns_ k_ Ao51 t526 co51 ∧ ns_ k_ Ao53 t532 co53) (.slice Ao52 t529.length co52) t529) ∧ Aside0 (Kd.R (Kd.int .i64) 3 wc w.heap.size (fun k_ => ns_ k_ Ao12 t500 co12 ∧ ns_ k_ Ao13 t503 co13 ∧ ns_ k_ Ao14 t506 co14 ∧ ns_ k_ Ao19 t511 co19 ∧ ns_ k_ Ao26 t517 co26 ∧ ns_ k_ Ao51 t526 co51 ∧ ns_ k_ Ao52 t529 co52) (.slice Ao53 t532.length co53) t532) ∧ Aside0 (wc.heap[gb509]? = some (.cells #[.int .i64 t499, (.slice Ao12 t500.length co12), (.slice Ao13 t503.length co13), (.slice Ao14 t506.length co14)] 48 (0, 0))) ∧ Aside0 (wc.heap[gb515]? = some (.cells #[.int .i64 t510, (.slice Ao19 t511.length co19)] 26 (0, 0))) ∧ Aside0 (wc.heap[gb521]? = some (.cells #[.int .i64 t516, (.slice Ao26 t517.length co26)] 26 (0, 0))) ∧ Aside0 (wc.heap[gb536]? = some (.cells #[.int .i64 t525, (.slice Ao51 t526.length co51), (.slice Ao52 t529.length co52), (.slice Ao53 t532.length co53)] 48 (0, 0))) ∧ Aside0 (Below w.heap.size w wc))
      case first =>
       have H := HC39.out
       clear HC39
       by_cases c54 : t524 = true
       ·subst c54
        have H1 : (if t535 = true then (if t510 = t523 then ((laws_pSameRanked.f kj7 t525 t526 t529 t532 t499 t500 t503 t506).bind fun t537 => (laws_FnDirectoriesArePacked.j1 kj7 l1 t523 (!t537) t499 t500 t503 t506 t510 t511)) else (none)) else (none)) = some r := by rw [if_pos rfl] at H; exact H
        clear H
        have H := H1
        clear H1
        by_cases c55 : t535 = true
        ·subst c55
         have H1 : (if t510 = t523 then ((laws_pSameRanked.f kj7 t525 t526 t529 t532 t499 t500 t503 t506).bind fun t537 => (laws_FnDirectoriesArePacked.j1 kj7 l1 t523 (!t537) t499 t500 t503 t506 t510 t511)) else (none)) = some r := by rw [if_pos rfl] at H; exact H
         clear H
         have H := H1
         clear H1
         by_cases c56 : t510 = t523
         ·rw [if_pos c56] at H
          have c56b0 : (t510 == t523) = true := beq_iff_eq.mpr c56
          have c56b1 : (t510 != t523) = false := bne_eq_false_iff_eq.mpr c56
          clear c56
          (first | rw [c56b0] | (simp only [i64_w, i32_w]; rw [c56b0]) | skip)
          replace H := Option.bind_eq_some_iff.mp H
          obtain ⟨t537, A570, H⟩ := H
          replace H : (laws_FnDirectoriesArePacked.j1 kj7 l1 t523 (!t537) t499 t500 t503 t506 t510 t511) = some r := H
          have A57 := am_ A570
          clear A570
          have H' := am_ H
          clear H
          have hnb58 := NB515_509.out
          have hnc58 := NB509_515.out
          have hnb59 := NB515_521.out
          have hnc59 := NB521_515.out
          have hnb60 := NB515_536.out
          have hnc60 := NB536_515.out
          obtain ⟨hcz61_0, hcz61_1, hfz61_0, hfz61_1⟩ := bx2_ BK515.out
          have hnb62 := NB536_509.out
          have hnc62 := NB509_536.out
          have hnb63 := NB536_521.out
          have hnc63 := NB521_536.out
          obtain ⟨hcz64_0, hcz64_1, hcz64_2, hcz64_3, hfz64_0, hfz64_1, hfz64_2, hfz64_3⟩ := bx4_ BK536.out
          have hnb65 := NB509_521.out
          have hnc65 := NB521_509.out
          obtain ⟨hcz66_0, hcz66_1, hcz66_2, hcz66_3, hfz66_0, hfz66_1, hfz66_2, hfz66_3⟩ := bx4_ BK509.out
          go_wp2_with (first | (go_at_call 49; (with_reducible refine (laws_pSameRanked.calls kj7 t525 _ _ t526 _ _ t529 _ _ t532 t499 _ _ t500 _ _ t503 _ _ t506 t537 _ ?side1 ?side2 ?side3 ?side4 ?side5 ?side6 ?side7 ?side8 ?side9 ?side10 ?side11 ?side12 A57.out).mono ?_); (case side1 => refine (Kd.R_reads' (e := 3) (base := w.heap.size) (ok := fun k_ => ((((((ns_ k_ Ao52 t529 co52 ∧ ns_ k_ Ao53 t532 co53) ∧ ns_ k_ Ao12 t500 co12) ∧ ns_ k_ Ao13 t503 co13) ∧ ns_ k_ Ao14 t506 co14) ∧ ns_ k_ Ao19 t511 co19) ∧ ns_ k_ Ao26 t517 co26)) (n := t526.length) (c := co51) ?_).2.2; exact (lt_ ((m1_ (fr4_ HO528.out BK536.out (.int .i64 t525) (.slice Ao51 t526.length co51) (.slice Ao52 t529.length co52) (.slice Ao53 t532.length co53)))))); (case side2 => exact (Kd.R_reads' HO528.out).2.1); (case side3 => refine (Kd.R_reads' (e := 3) (base := w.heap.size) (ok := fun k_ => ((((((ns_ k_ Ao51 t526 co51 ∧ ns_ k_ Ao53 t532 co53) ∧ ns_ k_ Ao12 t500 co12) ∧ ns_ k_ Ao13 t503 co13) ∧ ns_ k_ Ao14 t506 co14) ∧ ns_ k_ Ao19 t511 co19) ∧ ns_ k_ Ao26 t517 co26)) (n := t529.length) (c := co52) ?_).2.2; exact (lt_ ((m1_ (fr4_ HO531.out BK536.out (.int .i64 t525) (.slice Ao51 t526.length co51) (.slice Ao52 t529.length co52) (.slice Ao53 t532.length co53)))))); (case side4 => exact (Kd.R_reads' HO531.out).2.1); (case side5 => refine (Kd.R_reads' (e := 3) (base := w.heap.size) (ok := fun k_ => ((((((ns_ k_ Ao51 t526 co51 ∧ ns_ k_ Ao52 t529 co52) ∧ ns_ k_ Ao12 t500 co12) ∧ ns_ k_ Ao13 t503 co13) ∧ ns_ k_ Ao14 t506 co14) ∧ ns_ k_ Ao19 t511 co19) ∧ ns_ k_ Ao26 t517 co26)) (n := t532.length) (c := co53) ?_).2.2; exact (lt_ ((m1_ (fr4_ HO534.out BK536.out (.int .i64 t525) (.slice Ao51 t526.length co51) (.slice Ao52 t529.length co52) (.slice Ao53 t532.length co53)))))); (case side6 => exact (Kd.R_reads' HO534.out).2.1); (case side7 => refine (Kd.R_reads' (e := 3) (base := w.heap.size) (ok := fun k_ => ((((ns_ k_ Ao13 t503 co13 ∧ (ns_ k_ Ao14 t506 co14 ∧ (ns_ k_ Ao19 t511 co19 ∧ ns_ k_ Ao26 t517 co26))) ∧ ns_ k_ Ao51 t526 co51) ∧ ns_ k_ Ao52 t529 co52) ∧ ns_ k_ Ao53 t532 co53)) (n := t500.length) (c := co12) ?_).2.2; exact (lt_ ((m1_ (fr4_ HO_510001.out BK536.out (.int .i64 t525) (.slice Ao51 t526.length co51) (.slice Ao52 t529.length co52) (.slice Ao53 t532.length co53)))))); (case side8 => exact (Kd.R_reads' HO_510001.out).2.1); (case side9 => refine (Kd.R_reads' (e := 3) (base := w.heap.size) (ok := fun k_ => ((((ns_ k_ Ao12 t500 co12 ∧ (ns_ k_ Ao14 t506 co14 ∧ (ns_ k_ Ao19 t511 co19 ∧ ns_ k_ Ao26 t517 co26))) ∧ ns_ k_ Ao51 t526 co51) ∧ ns_ k_ Ao52 t529 co52) ∧ ns_ k_ Ao53 t532 co53)) (n := t503.length) (c := co13) ?_).2.2; exact (lt_ ((m1_ (fr4_ HO_510002.out BK536.out (.int .i64 t525) (.slice Ao51 t526.length co51) (.slice Ao52 t529.length co52) (.slice Ao53 t532.length co53)))))); (case side10 => exact (Kd.R_reads' HO_510002.out).2.1); (case side11 => refine (Kd.R_reads' (e := 3) (base := w.heap.size) (ok := fun k_ => ((((ns_ k_ Ao12 t500 co12 ∧ (ns_ k_ Ao13 t503 co13 ∧ (ns_ k_ Ao19 t511 co19 ∧ ns_ k_ Ao26 t517 co26))) ∧ ns_ k_ Ao51 t526 co51) ∧ ns_ k_ Ao52 t529 co52) ∧ ns_ k_ Ao53 t532 co53)) (n := t506.length) (c := co14) ?_).2.2; exact (lt_ ((m1_ (fr4_ HO_510003.out BK536.out (.int .i64 t525) (.slice Ao51 t526.length co51) (.slice Ao52 t529.length co52) (.slice Ao53 t532.length co53)))))); (case side12 => exact (Kd.R_reads' HO_510003.out).2.1); rintro e w67 ⟨rfl, hb⟩; replace HO_510001 := am_ (Kd.R_below (lt_ ((m1_ (fr4_ HO_510001.out BK536.out (.int .i64 t525) (.slice Ao51 t526.length co51) (.slice Ao52 t529.length co52) (.slice Ao53 t532.length co53))))) hb); replace HO_510002 := am_ (Kd.R_below (lt_ ((m1_ (fr4_ HO_510002.out BK536.out (.int .i64 t525) (.slice Ao51 t526.length co51) (.slice Ao52 t529.length co52) (.slice Ao53 t532.length co53))))) hb); replace HO_510003 := am_ (Kd.R_below (lt_ ((m1_ (fr4_ HO_510003.out BK536.out (.int .i64 t525) (.slice Ao51 t526.length co51) (.slice Ao52 t529.length co52) (.slice Ao53 t532.length co53))))) hb); replace HO_516001 := am_ (Kd.R_below (lt_ ((m1_ (fr4_ HO_516001.out BK536.out (.int .i64 t525) (.slice Ao51 t526.length co51) (.slice Ao52 t529.length co52) (.slice Ao53 t532.length co53))))) hb); replace HO_522001 := am_ (Kd.R_below (lt_ ((m1_ (fr4_ HO_522001.out BK536.out (.int .i64 t525) (.slice Ao51 t526.length co51) (.slice Ao52 t529.length co52) (.slice Ao53 t532.length co53))))) hb); replace HO528 := am_ (Kd.R_below (lt_ ((m1_ (fr4_ HO528.out BK536.out (.int .i64 t525) (.slice Ao51 t526.length co51) (.slice Ao52 t529.length co52) (.slice Ao53 t532.length co53))))) hb); replace HO531 := am_ (Kd.R_below (lt_ ((m1_ (fr4_ HO531.out BK536.out (.int .i64 t525) (.slice Ao51 t526.length co51) (.slice Ao52 t529.length co52) (.slice Ao53 t532.length co53))))) hb); replace HO534 := am_ (Kd.R_below (lt_ ((m1_ (fr4_ HO534.out BK536.out (.int .i64 t525) (.slice Ao51 t526.length co51) (.slice Ao52 t529.length co52) (.slice Ao53 t532.length co53))))) hb); replace BK509 := am_ (blk_below (g := gb509) (lg_ BK509) hb); replace BK515 := am_ (blk_below (g := gb515) (lg_ BK515) hb); replace BK521 := am_ (blk_below (g := gb521) (lg_ BK521) hb); replace BK536 := am_ (blk_below (g := gb536) (o := .cells #[.int .i64 t525, .slice Ao51 t526.length co51, .slice Ao52 t529.length co52, .slice Ao53 t532.length co53] 48 (0, 0)) (lq_ BK536) hb); replace HB := am_ (below_step (lw_ HB) hb); (try clear hb); (try clear hb2); (try clear hk); (try clear hi)))
          go_meet
          case rel => exact ⟨_, (!t537), sr_, H', ⟨by have := HJ7.out; first | omega | exact Nat.le_refl _⟩, ⟨lo_ HO_510001⟩, ⟨lo_ HO_510002⟩, ⟨lo_ HO_510003⟩, ⟨lo_ HO_516001⟩, ⟨lo_ HO_522001⟩, ⟨lo_ HO528⟩, ⟨lo_ HO531⟩, ⟨lo_ HO534⟩, ⟨lb_ BK509⟩, ⟨lb_ BK515⟩, ⟨lb_ BK521⟩, ⟨lb_ BK536⟩, ⟨lw_ HB⟩⟩
         ·rw [if_neg c56] at H
          exact absurd H (by simp)
        ·replace c55 := Bool.eq_false_iff.mpr c55
         subst c55
         have H1 : (none) = some r := by rw [if_neg (show ¬ (false = true) by decide)] at H; exact H
         clear H
         have H := H1
         clear H1
         exact absurd H (by simp)
       ·replace c54 := Bool.eq_false_iff.mpr c54
        subst c54
        have H1 : (none) = some r := by rw [if_neg (show ¬ (false = true) by decide)] at H; exact H
        clear H
        have H := H1
        clear H1
        exact absurd H (by simp)
      case rest =>
       clear HC39
       try clear c1
       try clear c2
       try clear p2
       try clear c3
       try clear c4
       try clear c5
       try clear c6
       try clear c11
       try clear c17
       try clear c23
       try clear c24
       try clear c27
       try clear c27b0
       try clear c27b1
       try clear c27b2
       try clear c29
       try clear c30
       try clear c32
       try clear c35
       try clear c36
       try clear c40
       try clear c41
       try clear c42
       try clear c43
       try clear c44
       try clear c45
       try clear c46
       try clear c47
       try clear c48
       try clear c49
       try clear c54
       try clear c55
       try clear c56
       try clear c56b0
       try clear c56b1
       try clear c58
       try clear c59
       try clear c60
       try clear c62
       try clear c63
       try clear c65
       try clear hcz11_0
       try clear hcz11_1
       try clear hcz11_2
       try clear hcz11_3
       try clear hcz18_0
       try clear hcz18_1
       try clear hcz20_0
       try clear hcz20_1
       try clear hcz20_2
       try clear hcz20_3
       try clear hcz25_0
       try clear hcz25_1
       try clear hcz31_0
       try clear hcz31_1
       try clear hcz33_0
       try clear hcz33_1
       try clear hcz42_0
       try clear hcz42_1
       try clear hcz42_2
       try clear hcz42_3
       try clear hcz44_0
       try clear hcz44_1
       try clear hcz50_0
       try clear hcz50_1
       try clear hcz50_2
       try clear hcz50_3
       try clear hcz61_0
       try clear hcz61_1
       try clear hcz64_0
       try clear hcz64_1
       try clear hcz64_2
       try clear hcz64_3
       try clear hcz66_0
       try clear hcz66_1
       try clear hcz66_2
       try clear hcz66_3
       try clear hfz11_0
       try clear hfz11_1
       try clear hfz11_2
       try clear hfz11_3
       try clear hfz18_0
       try clear hfz18_1
       try clear hfz20_0
       try clear hfz20_1
       try clear hfz20_2
       try clear hfz20_3
       try clear hfz25_0
       try clear hfz25_1
       try clear hfz31_0
       try clear hfz31_1
       try clear hfz33_0
       try clear hfz33_1
       try clear hfz42_0
       try clear hfz42_1
       try clear hfz42_2
       try clear hfz42_3
       try clear hfz44_0
       try clear hfz44_1
       try clear hfz50_0
       try clear hfz50_1
       try clear hfz50_2
       try clear hfz50_3
       try clear hfz61_0
       try clear hfz61_1
       try clear hfz64_0
       try clear hfz64_1
       try clear hfz64_2
       try clear hfz64_3
       try clear hfz66_0
       try clear hfz66_1
       try clear hfz66_2
       try clear hfz66_3
       try clear p2
       obtain ⟨kq, x78_38, rfl, HA, HJ38, HO_510001, HO_510002, HO_510003, HO_516001, HO_522001, HO_537001, HO_537002, HO_537003, BK509, BK515, BK521, BK536, HB⟩ := hcut
       cases kq with
       | zero => exact absurd HA.out (by simp [laws_FnDirectoriesArePacked.j1])
       | succ kj38 =>
        have H := HA.out
        clear HA
        simp only [laws_FnDirectoriesArePacked.j1] at H
        by_cases c68 : x78_38 = true
        ·subst c68
         have H1 : (none) = some r := by rw [if_pos rfl] at H; exact H
         clear H
         have H := H1
         clear H1
         exact absurd H (by simp)
        ·replace c68 := Bool.eq_false_iff.mpr c68
         subst c68
         have H1 : (if t523 = 0 then (some true) else ((impl_BitAt.f kj38 t510 t511 ((l1.length : Int) % t523)).bind fun bt538 => ((impl_PutBit.f kj38 t510 t511 ((l1.length : Int) % t523) (!bt538.1)).bind fun bt540 => ((impl_UnpackDirectory.f kj38 t499 t500 bt540.1 bt540.2.1).bind fun bt546 => (if bt538.2 = true then (if bt540.2.2 = true then (some (!bt546.2.2.2.2)) else (none)) else (none)))))) = some r := by rw [if_neg (show ¬ (false = true) by decide)] at H; exact H
         clear H
         have H := H1
         clear H1
         by_cases c69 : t523 = 0
         ·rw [if_pos c69] at H
          have c69b0 : (t523 == 0) = true := beq_iff_eq.mpr c69
          have c69b1 : (t523 != 0) = false := bne_eq_false_iff_eq.mpr c69
          clear c69
          obtain rfl := Option.some.inj H
          go_wp2
          go_ret
          exact ⟨er_, lw_ HB⟩
         ·rw [if_neg c69] at H
          have c69b0 : (t523 == 0) = false := beq_eq_false_iff_ne.mpr c69
          have c69b1 : (t523 != 0) = true := bne_iff_ne.mpr c69
          replace H := Option.bind_eq_some_iff.mp H
          obtain ⟨⟨t538, t539⟩, A700, H⟩ := H
          replace H : ((impl_PutBit.f kj38 t510 t511 ((l1.length : Int) % t523) (!t538)).bind fun bt540 => ((impl_UnpackDirectory.f kj38 t499 t500 bt540.1 bt540.2.1).bind fun bt546 => (if t539 = true then (if bt540.2.2 = true then (some (!bt546.2.2.2.2)) else (none)) else (none)))) = some r := H
          have A70 := am_ A700
          clear A700
          replace H := Option.bind_eq_some_iff.mp H
          obtain ⟨⟨t540, t541, t544⟩, A710, H⟩ := H
          replace H : ((impl_UnpackDirectory.f kj38 t499 t500 t540 t541).bind fun bt546 => (if t539 = true then (if t544 = true then (some (!bt546.2.2.2.2)) else (none)) else (none))) = some r := H
          have A71 := am_ A710
          clear A710
          replace H := Option.bind_eq_some_iff.mp H
          obtain ⟨⟨t546, t547, t550, t553, t556⟩, A720, H⟩ := H
          replace H : (if t539 = true then (if t544 = true then (some (!t556)) else (none)) else (none)) = some r := H
          have A72 := am_ A720
          clear A720
          by_cases c73 : t539 = true
          ·subst c73
           have H1 : (if t544 = true then (some (!t556)) else (none)) = some r := by rw [if_pos rfl] at H; exact H
           clear H
           have H := H1
           clear H1
           by_cases c74 : t544 = true
           ·subst c74
            have H1 : (some (!t556)) = some r := by rw [if_pos rfl] at H; exact H
            clear H
            have H := H1
            clear H1
            obtain rfl := Option.some.inj H
            have hnb75 := NB515_509.out
            have hnc75 := NB509_515.out
            have hnb76 := NB515_521.out
            have hnc76 := NB521_515.out
            have hnb77 := NB515_536.out
            have hnc77 := NB536_515.out
            obtain ⟨hcz78_0, hcz78_1, hfz78_0, hfz78_1⟩ := bx2_ BK515.out
            go_wp2_with (first | ((with_reducible refine gate_callee (f := 50) rfl ?_); refine goesL_ (some 88) rfl rfl Try.func50 (by kernel_rfl) rfl #[.agg #[.int .i64 t510, .slice Ao19 t511.length co19], .int .i64 ((l1.length : Int) % t523)] rfl lm_ ?_; (with_reducible refine (impl_BitAt.calls kj38 t510 _ _ t511 ((l1.length : Int) % t523) t538 true _ ?side1 ?side2 A70.out).mono ?_); (case side1 => exact lc_ (Kd.R_reads' HO_516001.out).2.2); (case side2 => exact (Kd.R_reads' HO_516001.out).2.1); rintro e w79 ⟨rfl, hb⟩; refine ⟨_, rfl, ?_⟩; replace HO_510001 := am_ (Kd.R_below (lf_ HO_510001) hb); replace HO_510002 := am_ (Kd.R_below (lf_ HO_510002) hb); replace HO_510003 := am_ (Kd.R_below (lf_ HO_510003) hb); replace HO_516001 := am_ (Kd.R_below (lf_ HO_516001) hb); replace HO_522001 := am_ (Kd.R_below (lf_ HO_522001) hb); replace HO_537001 := am_ (Kd.R_below (lf_ HO_537001) hb); replace HO_537002 := am_ (Kd.R_below (lf_ HO_537002) hb); replace HO_537003 := am_ (Kd.R_below (lf_ HO_537003) hb); replace BK509 := am_ (blk_below (g := gb509) (lb_ BK509) hb); replace BK515 := am_ (blk_below (g := gb515) (lb_ BK515) hb); replace BK521 := am_ (blk_below (g := gb521) (lb_ BK521) hb); replace BK536 := am_ (blk_below (g := gb536) (lb_ BK536) hb); replace HB := am_ (below_step (lw_ HB) hb); (try clear hb); (try clear hb2); (try clear hk); (try clear hi); obtain ⟨hcz80_0, hcz80_1, hfz80_0, hfz80_1⟩ := bx2_ BK515.out) | ((with_reducible refine gate_callee (f := 19) rfl ?_); refine goesL_ (some 96) rfl rfl Try.func19 (by kernel_rfl) rfl #[.agg #[.int .i64 t510, .slice Ao19 t511.length co19], .int .i64 ((l1.length : Int) % t523), .bool (!t538)] rfl lm_ ?_; (with_reducible refine (impl_PutBit.calls kj38 t510 _ _ t511 ((l1.length : Int) % t523) (!t538) t540 t541 true _ ?side1 ?side2 A71.out).mono ?_); (case side1 => exact lc_ (Kd.R_reads' HO_516001.out).2.2); (case side2 => exact (Kd.R_reads' HO_516001.out).2.1); rintro e w81 ⟨v542, rfl, ho0, hb⟩; refine ⟨_, rfl, ?_⟩; have HO543 := am_ (Kd.R_lower (nw_ (nw_ (nw_ (nw_ (nw_ (nw_ (nw_ (nw_ ho0 HO_510001) HO_510002) HO_510003) HO_516001) HO_522001) HO_537001) HO_537002) HO_537003) (below_size (lw_ HB))); replace HO_510001 := am_ (Kd.R_elder' (lf_ HO_510001) (Kd.R_base ho0) hb); replace HO_510002 := am_ (Kd.R_elder' (lf_ HO_510002) (Kd.R_base ho0) hb); replace HO_510003 := am_ (Kd.R_elder' (lf_ HO_510003) (Kd.R_base ho0) hb); replace HO_516001 := am_ (Kd.R_elder' (lf_ HO_516001) (Kd.R_base ho0) hb); replace HO_522001 := am_ (Kd.R_elder' (lf_ HO_522001) (Kd.R_base ho0) hb); replace HO_537001 := am_ (Kd.R_elder' (lf_ HO_537001) (Kd.R_base ho0) hb); replace HO_537002 := am_ (Kd.R_elder' (lf_ HO_537002) (Kd.R_base ho0) hb); replace HO_537003 := am_ (Kd.R_elder' (lf_ HO_537003) (Kd.R_base ho0) hb); replace BK509 := am_ (blk_below (g := gb509) (lb_ BK509) hb); replace BK515 := am_ (blk_below (g := gb515) (lb_ BK515) hb); replace BK521 := am_ (blk_below (g := gb521) (lb_ BK521) hb); replace BK536 := am_ (blk_below (g := gb536) (lb_ BK536) hb); replace HB := am_ (below_step (lw_ HB) hb); (try clear hb); (try clear hb2); (try clear hk); (try clear hi); (try clear ho0)) | ((with_reducible refine gate_dst (N := 17) rfl ?_); refine bev_ 17 #[.int .i64 0, .slice none 0 0] 26 rfl rfl ?_; intro gb545 hg w82 hbox hb; have BK545 := am_ (hbox); have GW545 := am_ ((by rw [hg]; exact (below_size (lw_ HB)) : w.heap.size ≤ gb545)); have GE545 := am_ ((by rw [hg]; exact (below_size (lw_ HB)) : w.heap.size ≤ gb545)); have NB509_545 := am_ ((by rw [hg]; exact Nat.ne_of_lt (blk_lt (g := gb509) (lb_ BK509)) : gb509 ≠ gb545)); have NB545_509 := am_ ((by rw [hg]; exact Nat.ne_of_gt (blk_lt (g := gb509) (lb_ BK509)) : gb545 ≠ gb509)); have NB515_545 := am_ ((by rw [hg]; exact Nat.ne_of_lt (blk_lt (g := gb515) (lb_ BK515)) : gb515 ≠ gb545)); have NB545_515 := am_ ((by rw [hg]; exact Nat.ne_of_gt (blk_lt (g := gb515) (lb_ BK515)) : gb545 ≠ gb515)); have NB521_545 := am_ ((by rw [hg]; exact Nat.ne_of_lt (blk_lt (g := gb521) (lb_ BK521)) : gb521 ≠ gb545)); have NB545_521 := am_ ((by rw [hg]; exact Nat.ne_of_gt (blk_lt (g := gb521) (lb_ BK521)) : gb545 ≠ gb521)); have NB536_545 := am_ ((by rw [hg]; exact Nat.ne_of_lt (blk_lt (g := gb536) (lb_ BK536)) : gb536 ≠ gb545)); have NB545_536 := am_ ((by rw [hg]; exact Nat.ne_of_gt (blk_lt (g := gb536) (lb_ BK536)) : gb545 ≠ gb536)); replace HO_510001 := am_ (Kd.R_below (lf_ HO_510001) hb); replace HO_510002 := am_ (Kd.R_below (lf_ HO_510002) hb); replace HO_510003 := am_ (Kd.R_below (lf_ HO_510003) hb); replace HO_516001 := am_ (Kd.R_below (lf_ HO_516001) hb); replace HO_522001 := am_ (Kd.R_below (lf_ HO_522001) hb); replace HO_537001 := am_ (Kd.R_below (lf_ HO_537001) hb); replace HO_537002 := am_ (Kd.R_below (lf_ HO_537002) hb); replace HO_537003 := am_ (Kd.R_below (lf_ HO_537003) hb); replace HO543 := am_ (Kd.R_below (lf_ HO543) hb); replace BK509 := am_ (blk_below (g := gb509) (lb_ BK509) hb); replace BK515 := am_ (blk_below (g := gb515) (lb_ BK515) hb); replace BK521 := am_ (blk_below (g := gb521) (lb_ BK521) hb); replace BK536 := am_ (blk_below (g := gb536) (lb_ BK536) hb); replace HB := am_ (below_step (lw_ HB) hb); clear hb hbox hg; have hnb83 := NB545_509.out; have hnc83 := NB509_545.out; have hnb84 := NB545_515.out; have hnc84 := NB515_545.out; have hnb85 := NB545_521.out; have hnc85 := NB521_545.out; have hnb86 := NB545_536.out; have hnc86 := NB536_545.out; obtain ⟨hcz87_0, hcz87_1, hfz87_0, hfz87_1⟩ := bx2_ BK545.out; obtain ⟨Ao88, co88, eo88⟩ := Kd.R_slice HO543.out; subst eo88; have hnb89 := NB509_521.out; have hnc89 := NB521_509.out; have hnb90 := NB509_536.out; have hnc90 := NB536_509.out; obtain ⟨hcz91_0, hcz91_1, hcz91_2, hcz91_3, hfz91_0, hfz91_1, hfz91_2, hfz91_3⟩ := bx4_ BK509.out) | ((with_reducible refine gate_callee (f := 44) rfl ?_); refine goesL_ (some 103) rfl rfl Try.func44 (by kernel_rfl) rfl #[.agg #[.int .i64 t499, .slice Ao12 t500.length co12], .agg #[.int .i64 t540, .slice Ao88 t541.length co88]] rfl lm_ ?_; (with_reducible refine (impl_UnpackDirectory.calls kj38 t499 _ _ t500 t540 _ _ t541 t546 t547 t550 t553 t556 _ ?side1 ?side2 ?side3 ?side4 A72.out).mono ?_); (case side1 => refine (Kd.R_reads' (e := 3) (base := w.heap.size) (ok := fun k_ => ((ns_ k_ Ao13 t503 co13 ∧ (ns_ k_ Ao14 t506 co14 ∧ (ns_ k_ Ao19 t511 co19 ∧ (ns_ k_ Ao26 t517 co26 ∧ (ns_ k_ Ao51 t526 co51 ∧ (ns_ k_ Ao52 t529 co52 ∧ ns_ k_ Ao53 t532 co53)))))) ∧ ns_ k_ Ao88 t541 co88)) (n := t500.length) (c := co12) ?_).2.2; exact (lt_ ((m1_ (fr2_ HO_510001.out BK545.out (.int .i64 t540) (.slice Ao88 t541.length co88)))))); (case side2 => exact (Kd.R_reads' HO_510001.out).2.1); (case side3 => refine (Kd.R_reads' (e := 3) (base := w.heap.size) (ok := fun k_ => ((((((((True ∧ ns_ k_ Ao12 t500 co12) ∧ ns_ k_ Ao13 t503 co13) ∧ ns_ k_ Ao14 t506 co14) ∧ ns_ k_ Ao19 t511 co19) ∧ ns_ k_ Ao26 t517 co26) ∧ ns_ k_ Ao51 t526 co51) ∧ ns_ k_ Ao52 t529 co52) ∧ ns_ k_ Ao53 t532 co53)) (n := t541.length) (c := co88) ?_).2.2; exact (lt_ ((m1_ (fr2_ HO543.out BK545.out (.int .i64 t540) (.slice Ao88 t541.length co88)))))); (case side4 => exact (Kd.R_reads' HO543.out).2.1); rintro e w92 ⟨v548, v551, v554, rfl, ho0, ho1, ho2, hb⟩; refine ⟨_, rfl, ?_⟩; have HO549 := am_ (Kd.R_lower (Kd.R_new' (Kd.R_new' (Kd.R_new' (Kd.R_new' (Kd.R_new' (Kd.R_new' (Kd.R_new' (Kd.R_new' (Kd.R_new' ho0 (Kd.R_lt (lt_ ((m1_ (fr2_ HO_510001.out BK545.out (.int .i64 t540) (.slice Ao88 t541.length co88))))))) (Kd.R_lt (lt_ ((m1_ (fr2_ HO_510002.out BK545.out (.int .i64 t540) (.slice Ao88 t541.length co88))))))) (Kd.R_lt (lt_ ((m1_ (fr2_ HO_510003.out BK545.out (.int .i64 t540) (.slice Ao88 t541.length co88))))))) (Kd.R_lt (lt_ ((m1_ (fr2_ HO_516001.out BK545.out (.int .i64 t540) (.slice Ao88 t541.length co88))))))) (Kd.R_lt (lt_ ((m1_ (fr2_ HO_522001.out BK545.out (.int .i64 t540) (.slice Ao88 t541.length co88))))))) (Kd.R_lt (lt_ ((m1_ (fr2_ HO_537001.out BK545.out (.int .i64 t540) (.slice Ao88 t541.length co88))))))) (Kd.R_lt (lt_ ((m1_ (fr2_ HO_537002.out BK545.out (.int .i64 t540) (.slice Ao88 t541.length co88))))))) (Kd.R_lt (lt_ ((m1_ (fr2_ HO_537003.out BK545.out (.int .i64 t540) (.slice Ao88 t541.length co88))))))) (Kd.R_lt (lt_ ((m1_ (fr2_ HO543.out BK545.out (.int .i64 t540) (.slice Ao88 t541.length co88))))))) (below_size (lw_ HB))); have HO552 := am_ (Kd.R_lower (Kd.R_new' (Kd.R_new' (Kd.R_new' (Kd.R_new' (Kd.R_new' (Kd.R_new' (Kd.R_new' (Kd.R_new' (Kd.R_new' ho1 (Kd.R_lt (lt_ ((m1_ (fr2_ HO_510001.out BK545.out (.int .i64 t540) (.slice Ao88 t541.length co88))))))) (Kd.R_lt (lt_ ((m1_ (fr2_ HO_510002.out BK545.out (.int .i64 t540) (.slice Ao88 t541.length co88))))))) (Kd.R_lt (lt_ ((m1_ (fr2_ HO_510003.out BK545.out (.int .i64 t540) (.slice Ao88 t541.length co88))))))) (Kd.R_lt (lt_ ((m1_ (fr2_ HO_516001.out BK545.out (.int .i64 t540) (.slice Ao88 t541.length co88))))))) (Kd.R_lt (lt_ ((m1_ (fr2_ HO_522001.out BK545.out (.int .i64 t540) (.slice Ao88 t541.length co88))))))) (Kd.R_lt (lt_ ((m1_ (fr2_ HO_537001.out BK545.out (.int .i64 t540) (.slice Ao88 t541.length co88))))))) (Kd.R_lt (lt_ ((m1_ (fr2_ HO_537002.out BK545.out (.int .i64 t540) (.slice Ao88 t541.length co88))))))) (Kd.R_lt (lt_ ((m1_ (fr2_ HO_537003.out BK545.out (.int .i64 t540) (.slice Ao88 t541.length co88))))))) (Kd.R_lt (lt_ ((m1_ (fr2_ HO543.out BK545.out (.int .i64 t540) (.slice Ao88 t541.length co88))))))) (below_size (lw_ HB))); have HO555 := am_ (Kd.R_lower (Kd.R_new' (Kd.R_new' (Kd.R_new' (Kd.R_new' (Kd.R_new' (Kd.R_new' (Kd.R_new' (Kd.R_new' (Kd.R_new' ho2 (Kd.R_lt (lt_ ((m1_ (fr2_ HO_510001.out BK545.out (.int .i64 t540) (.slice Ao88 t541.length co88))))))) (Kd.R_lt (lt_ ((m1_ (fr2_ HO_510002.out BK545.out (.int .i64 t540) (.slice Ao88 t541.length co88))))))) (Kd.R_lt (lt_ ((m1_ (fr2_ HO_510003.out BK545.out (.int .i64 t540) (.slice Ao88 t541.length co88))))))) (Kd.R_lt (lt_ ((m1_ (fr2_ HO_516001.out BK545.out (.int .i64 t540) (.slice Ao88 t541.length co88))))))) (Kd.R_lt (lt_ ((m1_ (fr2_ HO_522001.out BK545.out (.int .i64 t540) (.slice Ao88 t541.length co88))))))) (Kd.R_lt (lt_ ((m1_ (fr2_ HO_537001.out BK545.out (.int .i64 t540) (.slice Ao88 t541.length co88))))))) (Kd.R_lt (lt_ ((m1_ (fr2_ HO_537002.out BK545.out (.int .i64 t540) (.slice Ao88 t541.length co88))))))) (Kd.R_lt (lt_ ((m1_ (fr2_ HO_537003.out BK545.out (.int .i64 t540) (.slice Ao88 t541.length co88))))))) (Kd.R_lt (lt_ ((m1_ (fr2_ HO543.out BK545.out (.int .i64 t540) (.slice Ao88 t541.length co88))))))) (below_size (lw_ HB))); replace HO_510001 := am_ (m1_ (td_ (td_ (td_ (Kd.R_old (lt_ ((m1_ (fr2_ HO_510001.out BK545.out (.int .i64 t540) (.slice Ao88 t541.length co88))))) hb) ho0) ho1) ho2)); replace HO_510002 := am_ (m1_ (td_ (td_ (td_ (Kd.R_old (lt_ ((m1_ (fr2_ HO_510002.out BK545.out (.int .i64 t540) (.slice Ao88 t541.length co88))))) hb) ho0) ho1) ho2)); replace HO_510003 := am_ (m1_ (td_ (td_ (td_ (Kd.R_old (lt_ ((m1_ (fr2_ HO_510003.out BK545.out (.int .i64 t540) (.slice Ao88 t541.length co88))))) hb) ho0) ho1) ho2)); replace HO_516001 := am_ (m1_ (td_ (td_ (td_ (Kd.R_old (lt_ ((m1_ (fr2_ HO_516001.out BK545.out (.int .i64 t540) (.slice Ao88 t541.length co88))))) hb) ho0) ho1) ho2)); replace HO_522001 := am_ (m1_ (td_ (td_ (td_ (Kd.R_old (lt_ ((m1_ (fr2_ HO_522001.out BK545.out (.int .i64 t540) (.slice Ao88 t541.length co88))))) hb) ho0) ho1) ho2)); replace HO_537001 := am_ (m1_ (td_ (td_ (td_ (Kd.R_old (lt_ ((m1_ (fr2_ HO_537001.out BK545.out (.int .i64 t540) (.slice Ao88 t541.length co88))))) hb) ho0) ho1) ho2)); replace HO_537002 := am_ (m1_ (td_ (td_ (td_ (Kd.R_old (lt_ ((m1_ (fr2_ HO_537002.out BK545.out (.int .i64 t540) (.slice Ao88 t541.length co88))))) hb) ho0) ho1) ho2)); replace HO_537003 := am_ (m1_ (td_ (td_ (td_ (Kd.R_old (lt_ ((m1_ (fr2_ HO_537003.out BK545.out (.int .i64 t540) (.slice Ao88 t541.length co88))))) hb) ho0) ho1) ho2)); replace HO543 := am_ (m1_ (td_ (td_ (td_ (Kd.R_old (lt_ ((m1_ (fr2_ HO543.out BK545.out (.int .i64 t540) (.slice Ao88 t541.length co88))))) hb) ho0) ho1) ho2)); replace BK509 := am_ (blk_below (g := gb509) (lg_ BK509) hb); replace BK515 := am_ (blk_below (g := gb515) (lg_ BK515) hb); replace BK521 := am_ (blk_below (g := gb521) (lg_ BK521) hb); replace BK536 := am_ (blk_below (g := gb536) (lg_ BK536) hb); replace BK545 := am_ (blk_below (g := gb545) (o := .cells #[.int .i64 t540, .slice Ao88 t541.length co88] 26 (0, 0)) (lq_ BK545) hb); replace HB := am_ (below_step (lw_ HB) hb); (try clear hb); (try clear hb2); (try clear hk); (try clear hi); (try clear ho0); (try clear ho1); (try clear ho2)) | ((with_reducible refine gate_dst (N := 19) rfl ?_); refine bev_ 19 #[.int .i64 0, .slice none 0 0, .slice none 0 0, .slice none 0 0] 48 rfl rfl ?_; intro gb557 hg w93 hbox hb; have BK557 := am_ (hbox); have GW557 := am_ ((by rw [hg]; exact (below_size (lw_ HB)) : w.heap.size ≤ gb557)); have GE557 := am_ ((by rw [hg]; exact (below_size (lw_ HB)) : w.heap.size ≤ gb557)); have NB509_557 := am_ ((by rw [hg]; exact Nat.ne_of_lt (blk_lt (g := gb509) (lb_ BK509)) : gb509 ≠ gb557)); have NB557_509 := am_ ((by rw [hg]; exact Nat.ne_of_gt (blk_lt (g := gb509) (lb_ BK509)) : gb557 ≠ gb509)); have NB515_557 := am_ ((by rw [hg]; exact Nat.ne_of_lt (blk_lt (g := gb515) (lb_ BK515)) : gb515 ≠ gb557)); have NB557_515 := am_ ((by rw [hg]; exact Nat.ne_of_gt (blk_lt (g := gb515) (lb_ BK515)) : gb557 ≠ gb515)); have NB521_557 := am_ ((by rw [hg]; exact Nat.ne_of_lt (blk_lt (g := gb521) (lb_ BK521)) : gb521 ≠ gb557)); have NB557_521 := am_ ((by rw [hg]; exact Nat.ne_of_gt (blk_lt (g := gb521) (lb_ BK521)) : gb557 ≠ gb521)); have NB536_557 := am_ ((by rw [hg]; exact Nat.ne_of_lt (blk_lt (g := gb536) (lb_ BK536)) : gb536 ≠ gb557)); have NB557_536 := am_ ((by rw [hg]; exact Nat.ne_of_gt (blk_lt (g := gb536) (lb_ BK536)) : gb557 ≠ gb536)); have NB545_557 := am_ ((by rw [hg]; exact Nat.ne_of_lt (blk_lt (g := gb545) (lb_ BK545)) : gb545 ≠ gb557)); have NB557_545 := am_ ((by rw [hg]; exact Nat.ne_of_gt (blk_lt (g := gb545) (lb_ BK545)) : gb557 ≠ gb545)); replace HO_510001 := am_ (Kd.R_below (lf_ HO_510001) hb); replace HO_510002 := am_ (Kd.R_below (lf_ HO_510002) hb); replace HO_510003 := am_ (Kd.R_below (lf_ HO_510003) hb); replace HO_516001 := am_ (Kd.R_below (lf_ HO_516001) hb); replace HO_522001 := am_ (Kd.R_below (lf_ HO_522001) hb); replace HO_537001 := am_ (Kd.R_below (lf_ HO_537001) hb); replace HO_537002 := am_ (Kd.R_below (lf_ HO_537002) hb); replace HO_537003 := am_ (Kd.R_below (lf_ HO_537003) hb); replace HO543 := am_ (Kd.R_below (lf_ HO543) hb); replace HO549 := am_ (Kd.R_below (lf_ HO549) hb); replace HO552 := am_ (Kd.R_below (lf_ HO552) hb); replace HO555 := am_ (Kd.R_below (lf_ HO555) hb); replace BK509 := am_ (blk_below (g := gb509) (lb_ BK509) hb); replace BK515 := am_ (blk_below (g := gb515) (lb_ BK515) hb); replace BK521 := am_ (blk_below (g := gb521) (lb_ BK521) hb); replace BK536 := am_ (blk_below (g := gb536) (lb_ BK536) hb); replace BK545 := am_ (blk_below (g := gb545) (lb_ BK545) hb); replace HB := am_ (below_step (lw_ HB) hb); clear hb hbox hg; have hnb94 := NB557_509.out; have hnc94 := NB509_557.out; have hnb95 := NB557_515.out; have hnc95 := NB515_557.out; have hnb96 := NB557_521.out; have hnc96 := NB521_557.out; have hnb97 := NB557_536.out; have hnc97 := NB536_557.out; have hnb98 := NB557_545.out; have hnc98 := NB545_557.out; obtain ⟨hcz99_0, hcz99_1, hcz99_2, hcz99_3, hfz99_0, hfz99_1, hfz99_2, hfz99_3⟩ := bx4_ BK557.out; obtain ⟨Ao100, co100, eo100⟩ := Kd.R_slice HO549.out; subst eo100; obtain ⟨Ao101, co101, eo101⟩ := Kd.R_slice HO552.out; subst eo101; obtain ⟨Ao102, co102, eo102⟩ := Kd.R_slice HO555.out; subst eo102))
            go_ret
            exact ⟨er_, lw_ HB⟩
           ·replace c74 := Bool.eq_false_iff.mpr c74
            subst c74
            have H1 : (none) = some r := by rw [if_neg (show ¬ (false = true) by decide)] at H; exact H
            clear H
            have H := H1
            clear H1
            exact absurd H (by simp)
          ·replace c73 := Bool.eq_false_iff.mpr c73
           subst c73
           have H1 : (none) = some r := by rw [if_neg (show ¬ (false = true) by decide)] at H; exact H
           clear H
           have H := H1
           clear H1
           exact absurd H (by simp)
     ·replace c36 := Bool.eq_false_iff.mpr c36
      subst c36
      have H1 : (some true) = some r := by rw [if_neg (show ¬ (false = true) by decide)] at H; exact H
      clear H
      have H := H1
      clear H1
      obtain rfl := Option.some.inj H
      go_wp2
      go_ret
      exact ⟨er_, lw_ HB⟩

/-- THE ONE PURE STATEMENT of laws_FnDirectoriesArePacked: yours. -/
def laws_FnDirectoriesArePacked.Pure : Prop := ∀ (l0 : List Int) (l1 : List Int), l0.length ≤ maxLen → l0.length * 1 ≤ 140737488351232 → (∀ x ∈ l0, (Lit.int .u8 x).wf = true) → l1.length ≤ maxLen → l1.length * 1 ≤ 140737488351232 → (∀ x ∈ l1, (Lit.int .u8 x).wf = true) → ∃ k, laws_FnDirectoriesArePacked.f k l0 l1 = some true
theorem laws_FnDirectoriesArePacked.walk (P : laws_FnDirectoriesArePacked.Pure) (a0 : Option Addr) (len0 cap0 : Nat) (z0 : List Int) (a1 : Option Addr) (len1 cap1 : Nat) (z1 : List Int) (w : World) (w0 : (a0 = none ∧ len0 = 0 ∧ cap0 = 0 ∧ z0 = []) ∨ ∃ x, a0 = some x ∧ len0 ≤ cap0 ∧ cap0 ≤ maxLen ∧ z0.length = cap0 ∧ (∀ i, i < z0.length → w.cell? (x.add i) = some (.int .u8 (z0.getD i 0))) ∧ ∀ n ∈ z0, (Lit.int .u8 n).wf = true) (y0 : len0 * 1 ≤ 140737488351232) (w1 : (a1 = none ∧ len1 = 0 ∧ cap1 = 0 ∧ z1 = []) ∨ ∃ x, a1 = some x ∧ len1 ≤ cap1 ∧ cap1 ≤ maxLen ∧ z1.length = cap1 ∧ (∀ i, i < z1.length → w.cell? (x.add i) = some (.int .u8 (z1.getD i 0))) ∧ ∀ n ∈ z1, (Lit.int .u8 n).wf = true) (y1 : len1 * 1 ≤ 140737488351232) :
  Calls Try.prog 11 #[.slice a0 len0 cap0, .slice a1 len1 cap1] w fun e w' => e = .returned (.bool true) ∧ Below w.heap.size w w' := by
 obtain ⟨l0, rfl, hr0, hm0, hw0, hc0⟩ := ReadsInt.ofRowC w0
 obtain ⟨l1, rfl, hr1, hm1, hw1, hc1⟩ := ReadsInt.ofRowC w1
 obtain ⟨k, h⟩ := P l0 l1 hm0 y0 hw0 hm1 y1 hw1
 refine (laws_FnDirectoriesArePacked.calls k _ _ l0 _ _ l1 true w (Kd.C_of_reads (d := (0 : Int)) (h1 := fun _ => rfl) hr0) hc0 (Kd.C_of_reads (d := (0 : Int)) (h1 := fun _ => rfl) hr1) hc1 h).mono ?_
 rintro e w' ⟨rfl, hd⟩
 exact ⟨rfl, hd⟩

end Go.Proofs.Ytkmhjgejficclaa.PFnDirectoriesArePacked
