/- The statement FnExactPrefixOf of the given program: it answers true whatever its arguments, and its arguments read as they did; no condition. Part 5 of 5. -/
import Derived.Test.YtjamafchmeiifaaCFnExactPrefixOfx3
import Derived.Test.YtjamafchmeiifaaWMore
import Derived.WalkKit
import Derived.ProofKit
import Derived.OpenShut
import Derived.ShutString
import Derived.ChangeOld
import Derived.Below
import Derived.DataReads
import Derived.Test.YtjamafchmeiifaaRows
import Derived.SizedLaws
namespace Go.Proofs.Ytjamafchmeiifaa.F
open Go.RowKit Go.Proofs.YtjamafchmeiifaaW.PrintWords Go.Proofs.YtjamafchmeiifaaW.PrintLast Go.Proofs.YtjamafchmeiifaaW.PrintMore
attribute [local go_sem] max2_int min2_int max_two min_two max_three min_three max_four min_four Go.Proofs.YtjamafchmeiifaaX.str_leq Go.Proofs.YtjamafchmeiifaaX.str_gtr Go.Proofs.YtjamafchmeiifaaX.str_geq
set_option linter.unusedVariables false
set_option linter.unusedSimpArgs false
def laws_FnExactPrefixOf.f (k : Nat) (l0 : List (S79)) (l1 : List (List (S120))) : Option (Bool) := (laws_szPairS.f k l0 1048576).bind fun t271 => (if t271 < 0 then (some true) else ((laws_szRecordSS.f k l1 t271).bind fun t272 => (if t272 < 0 then (some true) else ((laws_toPairS.f k l0).bind fun t273 => ((laws_toRecordSS.f k l1).bind fun t276 => ((spec_PrefixOf.f k t273 t276).bind fun t279 => ((laws_toPairS.f k l0).bind fun t280 => ((laws_toRecordSS.f k l1).bind fun t283 => ((impl_PrefixOf.f k t280 t283).bind fun t286 => (if t286 = t279 then ((laws_toPairS.f k l0).bind fun t287 => ((laws_eqPairS.f k t280 t287).bind fun t290 => (if t290 = true then ((laws_toRecordSS.f k l1).bind fun t291 => ((laws_eqRecordSS.f k t283 t291).bind fun t294 => (if t294 = true then (some true) else (some false)))) else (some false)))) else (some false)))))))))))
set_option maxHeartbeats 8000000 in
set_option maxRecDepth 100000 in
theorem laws_FnExactPrefixOf.calls (k : Nat) (A0 : Option Addr) (c0 : Nat) (l0 : List (S79)) (A1 : Option Addr) (c1 : Nat) (l1 : List (List (S120))) (r : Bool) (w : World) (hr0 : Kd.C k79 w A0 l0.length l0) (hc0 : l0.length ≤ c0) (hr1 : Kd.C (Kd.slice 120 k120) w A1 l1.length l1) (hc1 : l1.length ≤ c1) (h : laws_FnExactPrefixOf.f k l0 l1 = some r) :
  Calls Try.prog 3 #[.slice A0 l0.length c0, .slice A1 l1.length c1] w fun e w' => e = .returned (.bool r) ∧ Below w.heap.size w w' := by
 have HR0 := Aside0.mk hr0
 have HC0 := Aside0.mk hc0
 clear hr0 hc0
 have HR1 := Aside0.mk hr1
 have HC1 := Aside0.mk hc1
 clear hr1 hc1
 have HB := Aside0.mk (Below.refl w.heap.size w)
 have H : ((laws_szPairS.f k l0 1048576).bind fun t271 => (if t271 < 0 then (some true) else ((laws_szRecordSS.f k l1 t271).bind fun t272 => (if t272 < 0 then (some true) else ((laws_toPairS.f k l0).bind fun t273 => ((laws_toRecordSS.f k l1).bind fun t276 => ((spec_PrefixOf.f k t273 t276).bind fun t279 => ((laws_toPairS.f k l0).bind fun t280 => ((laws_toRecordSS.f k l1).bind fun t283 => ((impl_PrefixOf.f k t280 t283).bind fun t286 => (if t286 = t279 then ((laws_toPairS.f k l0).bind fun t287 => ((laws_eqPairS.f k t280 t287).bind fun t290 => (if t290 = true then ((laws_toRecordSS.f k l1).bind fun t291 => ((laws_eqRecordSS.f k t283 t291).bind fun t294 => (if t294 = true then (some true) else (some false)))) else (some false)))) else (some false)))))))))))) = some r := h
 clear h
 replace H := Option.bind_eq_some_iff.mp H
 obtain ⟨t271, A30, H⟩ := H
 replace H : (if t271 < 0 then (some true) else ((laws_szRecordSS.f k l1 t271).bind fun t272 => (if t272 < 0 then (some true) else ((laws_toPairS.f k l0).bind fun t273 => ((laws_toRecordSS.f k l1).bind fun t276 => ((spec_PrefixOf.f k t273 t276).bind fun t279 => ((laws_toPairS.f k l0).bind fun t280 => ((laws_toRecordSS.f k l1).bind fun t283 => ((impl_PrefixOf.f k t280 t283).bind fun t286 => (if t286 = t279 then ((laws_toPairS.f k l0).bind fun t287 => ((laws_eqPairS.f k t280 t287).bind fun t290 => (if t290 = true then ((laws_toRecordSS.f k l1).bind fun t291 => ((laws_eqRecordSS.f k t283 t291).bind fun t294 => (if t294 = true then (some true) else (some false)))) else (some false)))) else (some false))))))))))) = some r := H
 have A3 := Aside0.mk A30
 clear A30
 by_cases c4 : t271 < 0
 ·rw [if_pos c4] at H
  have c4b0 : decide (t271 < 0) = true := decide_eq_true c4
  clear c4
  obtain rfl := Option.some.inj H
  go_enter Try.func3, Try.ntmps3
  go_wp2_with (first | ((with_reducible refine gate_callee (f := 10) rfl ?_); refine goesL_ (some 12) rfl rfl Try.func10 (by kernel_rfl) rfl #[.slice A0 l0.length c0, .int .i64 1048576] rfl (by (try simp only [List.map_toArray, List.map_cons, List.map_nil]); first | done | rfl | (simp only [List.length_drop, List.length_take]; rfl)) ?_; (with_reducible refine (laws_szPairS.calls k _ _ l0 1048576 t271 _ ?side1 ?side2 A3.out).mono ?_); (case side1 => repeat (first | exact HR0.out | (with_reducible refine Kd.C_alloc ?_ _) | (with_reducible refine Kd.C_drewN ?_ _) | (with_reducible refine Kd.C_drew ?_))); (case side2 => exact HC0.out); rintro e w5 ⟨rfl, hb⟩; refine ⟨_, rfl, ?_⟩; have n0_ := Aside0.mk (below_step (by repeat (first | (with_reducible first | exact HB.out | apply below_alloc | apply pw_below_drewN | apply below_drew1) | exact HB.out)) hb); clear HB; have HB := n0_; clear n0_; (try clear hb); (try clear hb2); (try clear hk); (try clear hi)))
  go_ret
  exact ⟨by first | rfl | (simp [errW_none, errW_some] <;> rfl) | (simp [*, errW_none, errW_some] <;> rfl), by repeat (first | (with_reducible first | exact HB.out | apply below_alloc | apply pw_below_drewN | apply below_drew1) | exact HB.out)⟩
 ·rw [if_neg c4] at H
  have c4b0 : decide (t271 < 0) = false := decide_eq_false c4
  clear c4
  replace H := Option.bind_eq_some_iff.mp H
  obtain ⟨t272, A60, H⟩ := H
  replace H : (if t272 < 0 then (some true) else ((laws_toPairS.f k l0).bind fun t273 => ((laws_toRecordSS.f k l1).bind fun t276 => ((spec_PrefixOf.f k t273 t276).bind fun t279 => ((laws_toPairS.f k l0).bind fun t280 => ((laws_toRecordSS.f k l1).bind fun t283 => ((impl_PrefixOf.f k t280 t283).bind fun t286 => (if t286 = t279 then ((laws_toPairS.f k l0).bind fun t287 => ((laws_eqPairS.f k t280 t287).bind fun t290 => (if t290 = true then ((laws_toRecordSS.f k l1).bind fun t291 => ((laws_eqRecordSS.f k t283 t291).bind fun t294 => (if t294 = true then (some true) else (some false)))) else (some false)))) else (some false))))))))) = some r := H
  have A6 := Aside0.mk A60
  clear A60
  by_cases c7 : t272 < 0
  ·rw [if_pos c7] at H
   have c7b0 : decide (t272 < 0) = true := decide_eq_true c7
   clear c7
   obtain rfl := Option.some.inj H
   go_enter Try.func3, Try.ntmps3
   go_wp2_with (first | ((with_reducible refine gate_callee (f := 10) rfl ?_); refine goesL_ (some 12) rfl rfl Try.func10 (by kernel_rfl) rfl #[.slice A0 l0.length c0, .int .i64 1048576] rfl (by (try simp only [List.map_toArray, List.map_cons, List.map_nil]); first | done | rfl | (simp only [List.length_drop, List.length_take]; rfl)) ?_; (with_reducible refine (laws_szPairS.calls k _ _ l0 1048576 t271 _ ?side1 ?side2 A3.out).mono ?_); (case side1 => repeat (first | exact HR0.out | (with_reducible refine Kd.C_alloc ?_ _) | (with_reducible refine Kd.C_drewN ?_ _) | (with_reducible refine Kd.C_drew ?_))); (case side2 => exact HC0.out); rintro e w8 ⟨rfl, hb⟩; refine ⟨_, rfl, ?_⟩; have n0_ := Aside0.mk (below_step (by repeat (first | (with_reducible first | exact HB.out | apply below_alloc | apply pw_below_drewN | apply below_drew1) | exact HB.out)) hb); clear HB; have HB := n0_; clear n0_; (try clear hb); (try clear hb2); (try clear hk); (try clear hi)) | ((with_reducible refine gate_callee (f := 11) rfl ?_); refine goesL_ (some 17) rfl rfl Try.func11 (by kernel_rfl) rfl #[.slice A1 l1.length c1, .int .i64 t271] rfl (by (try simp only [List.map_toArray, List.map_cons, List.map_nil]); first | done | rfl | (simp only [List.length_drop, List.length_take]; rfl)) ?_; (with_reducible refine (laws_szRecordSS.calls k _ _ l1 t271 t272 _ ?side1 ?side2 A6.out).mono ?_); (case side1 => repeat (first | exact (Kd.C_below HR1.out HB.out) | (with_reducible refine Kd.C_alloc ?_ _) | (with_reducible refine Kd.C_drewN ?_ _) | (with_reducible refine Kd.C_drew ?_))); (case side2 => exact HC1.out); rintro e w9 ⟨rfl, hb⟩; refine ⟨_, rfl, ?_⟩; have n0_ := Aside0.mk (below_step (by repeat (first | (with_reducible first | exact HB.out | apply below_alloc | apply pw_below_drewN | apply below_drew1) | exact HB.out)) hb); clear HB; have HB := n0_; clear n0_; (try clear hb); (try clear hb2); (try clear hk); (try clear hi)))
   go_ret
   exact ⟨by first | rfl | (simp [errW_none, errW_some] <;> rfl) | (simp [*, errW_none, errW_some] <;> rfl), by repeat (first | (with_reducible first | exact HB.out | apply below_alloc | apply pw_below_drewN | apply below_drew1) | exact HB.out)⟩
  ·rw [if_neg c7] at H
   have c7b0 : decide (t272 < 0) = false := decide_eq_false c7
   clear c7
   replace H := Option.bind_eq_some_iff.mp H
   obtain ⟨t273, A100, H⟩ := H
   replace H : ((laws_toRecordSS.f k l1).bind fun t276 => ((spec_PrefixOf.f k t273 t276).bind fun t279 => ((laws_toPairS.f k l0).bind fun t280 => ((laws_toRecordSS.f k l1).bind fun t283 => ((impl_PrefixOf.f k t280 t283).bind fun t286 => (if t286 = t279 then ((laws_toPairS.f k l0).bind fun t287 => ((laws_eqPairS.f k t280 t287).bind fun t290 => (if t290 = true then ((laws_toRecordSS.f k l1).bind fun t291 => ((laws_eqRecordSS.f k t283 t291).bind fun t294 => (if t294 = true then (some true) else (some false)))) else (some false)))) else (some false))))))) = some r := H
   have A10 := Aside0.mk A100
   clear A100
   replace H := Option.bind_eq_some_iff.mp H
   obtain ⟨t276, A110, H⟩ := H
   replace H : ((spec_PrefixOf.f k t273 t276).bind fun t279 => ((laws_toPairS.f k l0).bind fun t280 => ((laws_toRecordSS.f k l1).bind fun t283 => ((impl_PrefixOf.f k t280 t283).bind fun t286 => (if t286 = t279 then ((laws_toPairS.f k l0).bind fun t287 => ((laws_eqPairS.f k t280 t287).bind fun t290 => (if t290 = true then ((laws_toRecordSS.f k l1).bind fun t291 => ((laws_eqRecordSS.f k t283 t291).bind fun t294 => (if t294 = true then (some true) else (some false)))) else (some false)))) else (some false)))))) = some r := H
   have A11 := Aside0.mk A110
   clear A110
   replace H := Option.bind_eq_some_iff.mp H
   obtain ⟨t279, A120, H⟩ := H
   replace H : ((laws_toPairS.f k l0).bind fun t280 => ((laws_toRecordSS.f k l1).bind fun t283 => ((impl_PrefixOf.f k t280 t283).bind fun t286 => (if t286 = t279 then ((laws_toPairS.f k l0).bind fun t287 => ((laws_eqPairS.f k t280 t287).bind fun t290 => (if t290 = true then ((laws_toRecordSS.f k l1).bind fun t291 => ((laws_eqRecordSS.f k t283 t291).bind fun t294 => (if t294 = true then (some true) else (some false)))) else (some false)))) else (some false))))) = some r := H
   have A12 := Aside0.mk A120
   clear A120
   replace H := Option.bind_eq_some_iff.mp H
   obtain ⟨t280, A130, H⟩ := H
   replace H : ((laws_toRecordSS.f k l1).bind fun t283 => ((impl_PrefixOf.f k t280 t283).bind fun t286 => (if t286 = t279 then ((laws_toPairS.f k l0).bind fun t287 => ((laws_eqPairS.f k t280 t287).bind fun t290 => (if t290 = true then ((laws_toRecordSS.f k l1).bind fun t291 => ((laws_eqRecordSS.f k t283 t291).bind fun t294 => (if t294 = true then (some true) else (some false)))) else (some false)))) else (some false)))) = some r := H
   have A13 := Aside0.mk A130
   clear A130
   replace H := Option.bind_eq_some_iff.mp H
   obtain ⟨t283, A140, H⟩ := H
   replace H : ((impl_PrefixOf.f k t280 t283).bind fun t286 => (if t286 = t279 then ((laws_toPairS.f k l0).bind fun t287 => ((laws_eqPairS.f k t280 t287).bind fun t290 => (if t290 = true then ((laws_toRecordSS.f k l1).bind fun t291 => ((laws_eqRecordSS.f k t283 t291).bind fun t294 => (if t294 = true then (some true) else (some false)))) else (some false)))) else (some false))) = some r := H
   have A14 := Aside0.mk A140
   clear A140
   replace H := Option.bind_eq_some_iff.mp H
   obtain ⟨t286, A150, H⟩ := H
   replace H : (if t286 = t279 then ((laws_toPairS.f k l0).bind fun t287 => ((laws_eqPairS.f k t280 t287).bind fun t290 => (if t290 = true then ((laws_toRecordSS.f k l1).bind fun t291 => ((laws_eqRecordSS.f k t283 t291).bind fun t294 => (if t294 = true then (some true) else (some false)))) else (some false)))) else (some false)) = some r := H
   have A15 := Aside0.mk A150
   clear A150
   by_cases c16 : t286 = t279
   ·rw [if_pos c16] at H
    have c16b0 : (t286 == t279) = true := beq_iff_eq.mpr c16
    have c16b1 : (t286 != t279) = false := bne_eq_false_iff_eq.mpr c16
    clear c16
    replace H := Option.bind_eq_some_iff.mp H
    obtain ⟨t287, A170, H⟩ := H
    replace H : ((laws_eqPairS.f k t280 t287).bind fun t290 => (if t290 = true then ((laws_toRecordSS.f k l1).bind fun t291 => ((laws_eqRecordSS.f k t283 t291).bind fun t294 => (if t294 = true then (some true) else (some false)))) else (some false))) = some r := H
    have A17 := Aside0.mk A170
    clear A170
    replace H := Option.bind_eq_some_iff.mp H
    obtain ⟨t290, A180, H⟩ := H
    replace H : (if t290 = true then ((laws_toRecordSS.f k l1).bind fun t291 => ((laws_eqRecordSS.f k t283 t291).bind fun t294 => (if t294 = true then (some true) else (some false)))) else (some false)) = some r := H
    have A18 := Aside0.mk A180
    clear A180
    by_cases c19 : t290 = true
    ·subst c19
     have H1 : ((laws_toRecordSS.f k l1).bind fun t291 => ((laws_eqRecordSS.f k t283 t291).bind fun t294 => (if t294 = true then (some true) else (some false)))) = some r := by rw [if_pos rfl] at H; exact H
     clear H
     have H := H1
     clear H1
     replace H := Option.bind_eq_some_iff.mp H
     obtain ⟨t291, A200, H⟩ := H
     replace H : ((laws_eqRecordSS.f k t283 t291).bind fun t294 => (if t294 = true then (some true) else (some false))) = some r := H
     have A20 := Aside0.mk A200
     clear A200
     replace H := Option.bind_eq_some_iff.mp H
     obtain ⟨t294, A210, H⟩ := H
     replace H : (if t294 = true then (some true) else (some false)) = some r := H
     have A21 := Aside0.mk A210
     clear A210
     by_cases c22 : t294 = true
     ·subst c22
      have H1 : (some true) = some r := by rw [if_pos rfl] at H; exact H
      clear H
      have H := H1
      clear H1
      obtain rfl := Option.some.inj H
      go_enter Try.func3, Try.ntmps3
      go_wp2_with (first | ((with_reducible refine gate_callee (f := 10) rfl ?_); refine goesL_ (some 12) rfl rfl Try.func10 (by kernel_rfl) rfl #[.slice A0 l0.length c0, .int .i64 1048576] rfl (by (try simp only [List.map_toArray, List.map_cons, List.map_nil]); first | done | rfl | (simp only [List.length_drop, List.length_take]; rfl)) ?_; (with_reducible refine (laws_szPairS.calls k _ _ l0 1048576 t271 _ ?side1 ?side2 A3.out).mono ?_); (case side1 => repeat (first | exact HR0.out | (with_reducible refine Kd.C_alloc ?_ _) | (with_reducible refine Kd.C_drewN ?_ _) | (with_reducible refine Kd.C_drew ?_))); (case side2 => exact HC0.out); rintro e w23 ⟨rfl, hb⟩; refine ⟨_, rfl, ?_⟩; have n0_ := Aside0.mk (below_step (by repeat (first | (with_reducible first | exact HB.out | apply below_alloc | apply pw_below_drewN | apply below_drew1) | exact HB.out)) hb); clear HB; have HB := n0_; clear n0_; (try clear hb); (try clear hb2); (try clear hk); (try clear hi)) | ((with_reducible refine gate_callee (f := 11) rfl ?_); refine goesL_ (some 17) rfl rfl Try.func11 (by kernel_rfl) rfl #[.slice A1 l1.length c1, .int .i64 t271] rfl (by (try simp only [List.map_toArray, List.map_cons, List.map_nil]); first | done | rfl | (simp only [List.length_drop, List.length_take]; rfl)) ?_; (with_reducible refine (laws_szRecordSS.calls k _ _ l1 t271 t272 _ ?side1 ?side2 A6.out).mono ?_); (case side1 => repeat (first | exact (Kd.C_below HR1.out HB.out) | (with_reducible refine Kd.C_alloc ?_ _) | (with_reducible refine Kd.C_drewN ?_ _) | (with_reducible refine Kd.C_drew ?_))); (case side2 => exact HC1.out); rintro e w24 ⟨rfl, hb⟩; refine ⟨_, rfl, ?_⟩; have n0_ := Aside0.mk (below_step (by repeat (first | (with_reducible first | exact HB.out | apply below_alloc | apply pw_below_drewN | apply below_drew1) | exact HB.out)) hb); clear HB; have HB := n0_; clear n0_; (try clear hb); (try clear hb2); (try clear hk); (try clear hi)) | ((with_reducible refine gate_callee (f := 13) rfl ?_); refine goesL_ (some 21) rfl rfl Try.func13 (by kernel_rfl) rfl #[.slice A0 l0.length c0] rfl (by (try simp only [List.map_toArray, List.map_cons, List.map_nil]); first | done | rfl | (simp only [List.length_drop, List.length_take]; rfl)) ?_; (with_reducible refine (laws_toPairS.calls k _ _ l0 t273 _ ?side1 ?side2 A10.out).mono ?_); (case side1 => repeat (first | exact (Kd.C_below HR0.out HB.out) | (with_reducible refine Kd.C_alloc ?_ _) | (with_reducible refine Kd.C_drewN ?_ _) | (with_reducible refine Kd.C_drew ?_))); (case side2 => exact HC0.out); rintro e w25 ⟨v274, rfl, ho0, hb⟩; refine ⟨_, rfl, ?_⟩; have n0_ := Aside0.mk (Kd.R_lower ho0 (below_size (by repeat (first | (with_reducible first | exact HB.out | apply below_alloc | apply pw_below_drewN | apply below_drew1) | exact HB.out)))); have n1_ := Aside0.mk (below_step (by repeat (first | (with_reducible first | exact HB.out | apply below_alloc | apply pw_below_drewN | apply below_drew1) | exact HB.out)) hb); clear HB; have HO275 := n0_; have HB := n1_; clear n0_ n1_; (try clear hb); (try clear hb2); (try clear hk); (try clear hi); (try clear ho0)) | ((with_reducible refine gate_callee (f := 14) rfl ?_); refine goesL_ (some 23) rfl rfl Try.func14 (by kernel_rfl) rfl #[.slice A1 l1.length c1] rfl (by (try simp only [List.map_toArray, List.map_cons, List.map_nil]); first | done | rfl | (simp only [List.length_drop, List.length_take]; rfl)) ?_; (with_reducible refine (laws_toRecordSS.calls k _ _ l1 t276 _ ?side1 ?side2 A11.out).mono ?_); (case side1 => repeat (first | exact (Kd.C_below HR1.out HB.out) | (with_reducible refine Kd.C_alloc ?_ _) | (with_reducible refine Kd.C_drewN ?_ _) | (with_reducible refine Kd.C_drew ?_))); (case side2 => exact HC1.out); rintro e w26 ⟨v277, rfl, ho0, hb⟩; refine ⟨_, rfl, ?_⟩; have n0_ := Aside0.mk (Kd.R_below (by (with_reducible repeat (first | apply Kd.R_alloc | apply Kd.R_drewN | apply Kd.R_drew)); exact HO275.out) hb); have n1_ := Aside0.mk (Kd.S_lower ho0 (below_size (by repeat (first | (with_reducible first | exact HB.out | apply below_alloc | apply pw_below_drewN | apply below_drew1) | exact HB.out)))); have n2_ := Aside0.mk (below_step (by repeat (first | (with_reducible first | exact HB.out | apply below_alloc | apply pw_below_drewN | apply below_drew1) | exact HB.out)) hb); clear HO275; clear HB; have HO275 := n0_; have HO278 := n1_; have HB := n2_; clear n0_ n1_ n2_; (try clear hb); (try clear hb2); (try clear hk); (try clear hi); (try clear ho0); obtain ⟨Ao27, co27, eo27⟩ := Kd.R_slice HO275.out; subst eo27; obtain ⟨Ao28, co28, eo28⟩ := Kd.S_slice HO278.out; subst eo28) | ((with_reducible refine gate_callee (f := 12) rfl ?_); refine goesL_ (some 24) rfl rfl Try.func12 (by kernel_rfl) rfl #[.slice Ao27 t273.length co27, .slice Ao28 t276.length co28] rfl (by (try simp only [List.map_toArray, List.map_cons, List.map_nil]); first | done | rfl | (simp only [List.length_drop, List.length_take]; rfl)) ?_; (with_reducible refine (spec_PrefixOf.calls k _ _ t273 _ _ t276 t279 _ ?side1 ?side2 ?side3 ?side4 A12.out).mono ?_); (case side1 => repeat (first | exact (Kd.R_reads' HO275.out).2.2 | (with_reducible refine Kd.C_alloc ?_ _) | (with_reducible refine Kd.C_drewN ?_ _) | (with_reducible refine Kd.C_drew ?_))); (case side2 => exact (Kd.R_reads' HO275.out).2.1); (case side3 => repeat (first | exact (Kd.S_reads' HO278.out).2.2 | (with_reducible refine Kd.C_alloc ?_ _) | (with_reducible refine Kd.C_drewN ?_ _) | (with_reducible refine Kd.C_drew ?_))); (case side4 => exact (Kd.S_reads' HO278.out).2.1); rintro e w29 ⟨rfl, hb⟩; refine ⟨_, rfl, ?_⟩; have n0_ := Aside0.mk (Kd.R_below (by (with_reducible repeat (first | apply Kd.R_alloc | apply Kd.R_drewN | apply Kd.R_drew)); exact HO275.out) hb); have n1_ := Aside0.mk (Kd.S_below (by (with_reducible repeat (first | apply Kd.S_alloc | apply Kd.S_drewN | apply Kd.S_drew)); exact HO278.out) hb); have n2_ := Aside0.mk (below_step (by repeat (first | (with_reducible first | exact HB.out | apply below_alloc | apply pw_below_drewN | apply below_drew1) | exact HB.out)) hb); clear HO275; clear HO278; clear HB; have HO275 := n0_; have HO278 := n1_; have HB := n2_; clear n0_ n1_ n2_; (try clear hb); (try clear hb2); (try clear hk); (try clear hi)) | ((with_reducible refine gate_callee (f := 13) rfl ?_); refine goesL_ (some 26) rfl rfl Try.func13 (by kernel_rfl) rfl #[.slice A0 l0.length c0] rfl (by (try simp only [List.map_toArray, List.map_cons, List.map_nil]); first | done | rfl | (simp only [List.length_drop, List.length_take]; rfl)) ?_; (with_reducible refine (laws_toPairS.calls k _ _ l0 t280 _ ?side1 ?side2 A13.out).mono ?_); (case side1 => repeat (first | exact (Kd.C_below HR0.out HB.out) | (with_reducible refine Kd.C_alloc ?_ _) | (with_reducible refine Kd.C_drewN ?_ _) | (with_reducible refine Kd.C_drew ?_))); (case side2 => exact HC0.out); rintro e w30 ⟨v281, rfl, ho0, hb⟩; refine ⟨_, rfl, ?_⟩; have n0_ := Aside0.mk (Kd.R_elder' (by (with_reducible repeat (first | apply Kd.R_alloc | apply Kd.R_drewN | apply Kd.R_drew)); exact HO275.out) (Kd.R_base ho0) hb); have n1_ := Aside0.mk (Kd.S_below (by (with_reducible repeat (first | apply Kd.S_alloc | apply Kd.S_drewN | apply Kd.S_drew)); exact HO278.out) hb); have n2_ := Aside0.mk (Kd.R_lower (Kd.R_new' ho0 (Kd.R_lt (by (with_reducible repeat (first | apply Kd.R_alloc | apply Kd.R_drewN | apply Kd.R_drew)); exact HO275.out))) (below_size (by repeat (first | (with_reducible first | exact HB.out | apply below_alloc | apply pw_below_drewN | apply below_drew1) | exact HB.out)))); have n3_ := Aside0.mk (below_step (by repeat (first | (with_reducible first | exact HB.out | apply below_alloc | apply pw_below_drewN | apply below_drew1) | exact HB.out)) hb); clear HO275; clear HO278; clear HB; have HO275 := n0_; have HO278 := n1_; have HO282 := n2_; have HB := n3_; clear n0_ n1_ n2_ n3_; (try clear hb); (try clear hb2); (try clear hk); (try clear hi); (try clear ho0)) | ((with_reducible refine gate_callee (f := 14) rfl ?_); refine goesL_ (some 28) rfl rfl Try.func14 (by kernel_rfl) rfl #[.slice A1 l1.length c1] rfl (by (try simp only [List.map_toArray, List.map_cons, List.map_nil]); first | done | rfl | (simp only [List.length_drop, List.length_take]; rfl)) ?_; (with_reducible refine (laws_toRecordSS.calls k _ _ l1 t283 _ ?side1 ?side2 A14.out).mono ?_); (case side1 => repeat (first | exact (Kd.C_below HR1.out HB.out) | (with_reducible refine Kd.C_alloc ?_ _) | (with_reducible refine Kd.C_drewN ?_ _) | (with_reducible refine Kd.C_drew ?_))); (case side2 => exact HC1.out); rintro e w31 ⟨v284, rfl, ho0, hb⟩; refine ⟨_, rfl, ?_⟩; have n0_ := Aside0.mk (Kd.R_below (by (with_reducible repeat (first | apply Kd.R_alloc | apply Kd.R_drewN | apply Kd.R_drew)); exact HO275.out) hb); have n1_ := Aside0.mk (Kd.S_elder' (by (with_reducible repeat (first | apply Kd.S_alloc | apply Kd.S_drewN | apply Kd.S_drew)); exact HO278.out) (Kd.S_base ho0) hb); have n2_ := Aside0.mk (Kd.R_below (by (with_reducible repeat (first | apply Kd.R_alloc | apply Kd.R_drewN | apply Kd.R_drew)); exact HO282.out) hb); have n3_ := Aside0.mk (Kd.S_lower (Kd.S_new' ho0 (Kd.S_lt (by (with_reducible repeat (first | apply Kd.S_alloc | apply Kd.S_drewN | apply Kd.S_drew)); exact HO278.out))) (below_size (by repeat (first | (with_reducible first | exact HB.out | apply below_alloc | apply pw_below_drewN | apply below_drew1) | exact HB.out)))); have n4_ := Aside0.mk (below_step (by repeat (first | (with_reducible first | exact HB.out | apply below_alloc | apply pw_below_drewN | apply below_drew1) | exact HB.out)) hb); clear HO275; clear HO278; clear HO282; clear HB; have HO275 := n0_; have HO278 := n1_; have HO282 := n2_; have HO285 := n3_; have HB := n4_; clear n0_ n1_ n2_ n3_ n4_; (try clear hb); (try clear hb2); (try clear hk); (try clear hi); (try clear ho0); obtain ⟨Ao32, co32, eo32⟩ := Kd.R_slice HO282.out; subst eo32; obtain ⟨Ao33, co33, eo33⟩ := Kd.S_slice HO285.out; subst eo33) | ((with_reducible refine gate_callee (f := 15) rfl ?_); refine goesL_ (some 31) rfl rfl Try.func15 (by kernel_rfl) rfl #[.slice Ao32 t280.length co32, .slice Ao33 t283.length co33] rfl (by (try simp only [List.map_toArray, List.map_cons, List.map_nil]); first | done | rfl | (simp only [List.length_drop, List.length_take]; rfl)) ?_; (with_reducible refine (impl_PrefixOf.calls k _ _ t280 _ _ t283 t286 _ ?side1 ?side2 ?side3 ?side4 A15.out).mono ?_); (case side1 => repeat (first | exact (Kd.R_reads' HO282.out).2.2 | (with_reducible refine Kd.C_alloc ?_ _) | (with_reducible refine Kd.C_drewN ?_ _) | (with_reducible refine Kd.C_drew ?_))); (case side2 => exact (Kd.R_reads' HO282.out).2.1); (case side3 => repeat (first | exact (Kd.S_reads' HO285.out).2.2 | (with_reducible refine Kd.C_alloc ?_ _) | (with_reducible refine Kd.C_drewN ?_ _) | (with_reducible refine Kd.C_drew ?_))); (case side4 => exact (Kd.S_reads' HO285.out).2.1); rintro e w34 ⟨rfl, hb⟩; refine ⟨_, rfl, ?_⟩; have n0_ := Aside0.mk (Kd.R_below (by (with_reducible repeat (first | apply Kd.R_alloc | apply Kd.R_drewN | apply Kd.R_drew)); exact HO275.out) hb); have n1_ := Aside0.mk (Kd.S_below (by (with_reducible repeat (first | apply Kd.S_alloc | apply Kd.S_drewN | apply Kd.S_drew)); exact HO278.out) hb); have n2_ := Aside0.mk (Kd.R_below (by (with_reducible repeat (first | apply Kd.R_alloc | apply Kd.R_drewN | apply Kd.R_drew)); exact HO282.out) hb); have n3_ := Aside0.mk (Kd.S_below (by (with_reducible repeat (first | apply Kd.S_alloc | apply Kd.S_drewN | apply Kd.S_drew)); exact HO285.out) hb); have n4_ := Aside0.mk (below_step (by repeat (first | (with_reducible first | exact HB.out | apply below_alloc | apply pw_below_drewN | apply below_drew1) | exact HB.out)) hb); clear HO275; clear HO278; clear HO282; clear HO285; clear HB; have HO275 := n0_; have HO278 := n1_; have HO282 := n2_; have HO285 := n3_; have HB := n4_; clear n0_ n1_ n2_ n3_ n4_; (try clear hb); (try clear hb2); (try clear hk); (try clear hi)) | ((with_reducible refine gate_callee (f := 13) rfl ?_); refine goesL_ (some 37) rfl rfl Try.func13 (by kernel_rfl) rfl #[.slice A0 l0.length c0] rfl (by (try simp only [List.map_toArray, List.map_cons, List.map_nil]); first | done | rfl | (simp only [List.length_drop, List.length_take]; rfl)) ?_; (with_reducible refine (laws_toPairS.calls k _ _ l0 t287 _ ?side1 ?side2 A17.out).mono ?_); (case side1 => repeat (first | exact (Kd.C_below HR0.out HB.out) | (with_reducible refine Kd.C_alloc ?_ _) | (with_reducible refine Kd.C_drewN ?_ _) | (with_reducible refine Kd.C_drew ?_))); (case side2 => exact HC0.out); rintro e w35 ⟨v288, rfl, ho0, hb⟩; refine ⟨_, rfl, ?_⟩; have n0_ := Aside0.mk (Kd.R_elder' (by (with_reducible repeat (first | apply Kd.R_alloc | apply Kd.R_drewN | apply Kd.R_drew)); exact HO275.out) (Kd.R_base ho0) hb); have n1_ := Aside0.mk (Kd.S_below (by (with_reducible repeat (first | apply Kd.S_alloc | apply Kd.S_drewN | apply Kd.S_drew)); exact HO278.out) hb); have n2_ := Aside0.mk (Kd.R_elder' (by (with_reducible repeat (first | apply Kd.R_alloc | apply Kd.R_drewN | apply Kd.R_drew)); exact HO282.out) (Kd.R_base ho0) hb); have n3_ := Aside0.mk (Kd.S_below (by (with_reducible repeat (first | apply Kd.S_alloc | apply Kd.S_drewN | apply Kd.S_drew)); exact HO285.out) hb); have n4_ := Aside0.mk (Kd.R_lower (Kd.R_new' (Kd.R_new' ho0 (Kd.R_lt (by (with_reducible repeat (first | apply Kd.R_alloc | apply Kd.R_drewN | apply Kd.R_drew)); exact HO275.out))) (Kd.R_lt (by (with_reducible repeat (first | apply Kd.R_alloc | apply Kd.R_drewN | apply Kd.R_drew)); exact HO282.out))) (below_size (by repeat (first | (with_reducible first | exact HB.out | apply below_alloc | apply pw_below_drewN | apply below_drew1) | exact HB.out)))); have n5_ := Aside0.mk (below_step (by repeat (first | (with_reducible first | exact HB.out | apply below_alloc | apply pw_below_drewN | apply below_drew1) | exact HB.out)) hb); clear HO275; clear HO278; clear HO282; clear HO285; clear HB; have HO275 := n0_; have HO278 := n1_; have HO282 := n2_; have HO285 := n3_; have HO289 := n4_; have HB := n5_; clear n0_ n1_ n2_ n3_ n4_ n5_; (try clear hb); (try clear hb2); (try clear hk); (try clear hi); (try clear ho0); obtain ⟨Ao36, co36, eo36⟩ := Kd.R_slice HO289.out; subst eo36) | ((with_reducible refine gate_callee (f := 16) rfl ?_); refine goesL_ (some 38) rfl rfl Try.func16 (by kernel_rfl) rfl #[.slice Ao32 t280.length co32, .slice Ao36 t287.length co36] rfl (by (try simp only [List.map_toArray, List.map_cons, List.map_nil]); first | done | rfl | (simp only [List.length_drop, List.length_take]; rfl)) ?_; (with_reducible refine (laws_eqPairS.calls k _ _ t280 _ _ t287 true _ ?side1 ?side2 ?side3 ?side4 A18.out).mono ?_); (case side1 => repeat (first | exact (Kd.R_reads' HO282.out).2.2 | (with_reducible refine Kd.C_alloc ?_ _) | (with_reducible refine Kd.C_drewN ?_ _) | (with_reducible refine Kd.C_drew ?_))); (case side2 => exact (Kd.R_reads' HO282.out).2.1); (case side3 => repeat (first | exact (Kd.R_reads' HO289.out).2.2 | (with_reducible refine Kd.C_alloc ?_ _) | (with_reducible refine Kd.C_drewN ?_ _) | (with_reducible refine Kd.C_drew ?_))); (case side4 => exact (Kd.R_reads' HO289.out).2.1); rintro e w37 ⟨rfl, hb⟩; refine ⟨_, rfl, ?_⟩; have n0_ := Aside0.mk (Kd.R_below (by (with_reducible repeat (first | apply Kd.R_alloc | apply Kd.R_drewN | apply Kd.R_drew)); exact HO275.out) hb); have n1_ := Aside0.mk (Kd.S_below (by (with_reducible repeat (first | apply Kd.S_alloc | apply Kd.S_drewN | apply Kd.S_drew)); exact HO278.out) hb); have n2_ := Aside0.mk (Kd.R_below (by (with_reducible repeat (first | apply Kd.R_alloc | apply Kd.R_drewN | apply Kd.R_drew)); exact HO282.out) hb); have n3_ := Aside0.mk (Kd.S_below (by (with_reducible repeat (first | apply Kd.S_alloc | apply Kd.S_drewN | apply Kd.S_drew)); exact HO285.out) hb); have n4_ := Aside0.mk (Kd.R_below (by (with_reducible repeat (first | apply Kd.R_alloc | apply Kd.R_drewN | apply Kd.R_drew)); exact HO289.out) hb); have n5_ := Aside0.mk (below_step (by repeat (first | (with_reducible first | exact HB.out | apply below_alloc | apply pw_below_drewN | apply below_drew1) | exact HB.out)) hb); clear HO275; clear HO278; clear HO282; clear HO285; clear HO289; clear HB; have HO275 := n0_; have HO278 := n1_; have HO282 := n2_; have HO285 := n3_; have HO289 := n4_; have HB := n5_; clear n0_ n1_ n2_ n3_ n4_ n5_; (try clear hb); (try clear hb2); (try clear hk); (try clear hi)) | ((with_reducible refine gate_callee (f := 14) rfl ?_); refine goesL_ (some 42) rfl rfl Try.func14 (by kernel_rfl) rfl #[.slice A1 l1.length c1] rfl (by (try simp only [List.map_toArray, List.map_cons, List.map_nil]); first | done | rfl | (simp only [List.length_drop, List.length_take]; rfl)) ?_; (with_reducible refine (laws_toRecordSS.calls k _ _ l1 t291 _ ?side1 ?side2 A20.out).mono ?_); (case side1 => repeat (first | exact (Kd.C_below HR1.out HB.out) | (with_reducible refine Kd.C_alloc ?_ _) | (with_reducible refine Kd.C_drewN ?_ _) | (with_reducible refine Kd.C_drew ?_))); (case side2 => exact HC1.out); rintro e w38 ⟨v292, rfl, ho0, hb⟩; refine ⟨_, rfl, ?_⟩; have n0_ := Aside0.mk (Kd.R_below (by (with_reducible repeat (first | apply Kd.R_alloc | apply Kd.R_drewN | apply Kd.R_drew)); exact HO275.out) hb); have n1_ := Aside0.mk (Kd.S_elder' (by (with_reducible repeat (first | apply Kd.S_alloc | apply Kd.S_drewN | apply Kd.S_drew)); exact HO278.out) (Kd.S_base ho0) hb); have n2_ := Aside0.mk (Kd.R_below (by (with_reducible repeat (first | apply Kd.R_alloc | apply Kd.R_drewN | apply Kd.R_drew)); exact HO282.out) hb); have n3_ := Aside0.mk (Kd.S_elder' (by (with_reducible repeat (first | apply Kd.S_alloc | apply Kd.S_drewN | apply Kd.S_drew)); exact HO285.out) (Kd.S_base ho0) hb); have n4_ := Aside0.mk (Kd.R_below (by (with_reducible repeat (first | apply Kd.R_alloc | apply Kd.R_drewN | apply Kd.R_drew)); exact HO289.out) hb); have n5_ := Aside0.mk (Kd.S_lower (Kd.S_new' (Kd.S_new' ho0 (Kd.S_lt (by (with_reducible repeat (first | apply Kd.S_alloc | apply Kd.S_drewN | apply Kd.S_drew)); exact HO278.out))) (Kd.S_lt (by (with_reducible repeat (first | apply Kd.S_alloc | apply Kd.S_drewN | apply Kd.S_drew)); exact HO285.out))) (below_size (by repeat (first | (with_reducible first | exact HB.out | apply below_alloc | apply pw_below_drewN | apply below_drew1) | exact HB.out)))); have n6_ := Aside0.mk (below_step (by repeat (first | (with_reducible first | exact HB.out | apply below_alloc | apply pw_below_drewN | apply below_drew1) | exact HB.out)) hb); clear HO275; clear HO278; clear HO282; clear HO285; clear HO289; clear HB; have HO275 := n0_; have HO278 := n1_; have HO282 := n2_; have HO285 := n3_; have HO289 := n4_; have HO293 := n5_; have HB := n6_; clear n0_ n1_ n2_ n3_ n4_ n5_ n6_; (try clear hb); (try clear hb2); (try clear hk); (try clear hi); (try clear ho0); obtain ⟨Ao39, co39, eo39⟩ := Kd.S_slice HO293.out; subst eo39) | ((with_reducible refine gate_callee (f := 17) rfl ?_); refine goesL_ (some 43) rfl rfl Try.func17 (by kernel_rfl) rfl #[.slice Ao33 t283.length co33, .slice Ao39 t291.length co39] rfl (by (try simp only [List.map_toArray, List.map_cons, List.map_nil]); first | done | rfl | (simp only [List.length_drop, List.length_take]; rfl)) ?_; (with_reducible refine (laws_eqRecordSS.calls k _ _ t283 _ _ t291 true _ ?side1 ?side2 ?side3 ?side4 A21.out).mono ?_); (case side1 => repeat (first | exact (Kd.S_reads' HO285.out).2.2 | (with_reducible refine Kd.C_alloc ?_ _) | (with_reducible refine Kd.C_drewN ?_ _) | (with_reducible refine Kd.C_drew ?_))); (case side2 => exact (Kd.S_reads' HO285.out).2.1); (case side3 => repeat (first | exact (Kd.S_reads' HO293.out).2.2 | (with_reducible refine Kd.C_alloc ?_ _) | (with_reducible refine Kd.C_drewN ?_ _) | (with_reducible refine Kd.C_drew ?_))); (case side4 => exact (Kd.S_reads' HO293.out).2.1); rintro e w40 ⟨rfl, hb⟩; refine ⟨_, rfl, ?_⟩; have n0_ := Aside0.mk (Kd.R_below (by (with_reducible repeat (first | apply Kd.R_alloc | apply Kd.R_drewN | apply Kd.R_drew)); exact HO275.out) hb); have n1_ := Aside0.mk (Kd.S_below (by (with_reducible repeat (first | apply Kd.S_alloc | apply Kd.S_drewN | apply Kd.S_drew)); exact HO278.out) hb); have n2_ := Aside0.mk (Kd.R_below (by (with_reducible repeat (first | apply Kd.R_alloc | apply Kd.R_drewN | apply Kd.R_drew)); exact HO282.out) hb); have n3_ := Aside0.mk (Kd.S_below (by (with_reducible repeat (first | apply Kd.S_alloc | apply Kd.S_drewN | apply Kd.S_drew)); exact HO285.out) hb); have n4_ := Aside0.mk (Kd.R_below (by (with_reducible repeat (first | apply Kd.R_alloc | apply Kd.R_drewN | apply Kd.R_drew)); exact HO289.out) hb); have n5_ := Aside0.mk (Kd.S_below (by (with_reducible repeat (first | apply Kd.S_alloc | apply Kd.S_drewN | apply Kd.S_drew)); exact HO293.out) hb); have n6_ := Aside0.mk (below_step (by repeat (first | (with_reducible first | exact HB.out | apply below_alloc | apply pw_below_drewN | apply below_drew1) | exact HB.out)) hb); clear HO275; clear HO278; clear HO282; clear HO285; clear HO289; clear HO293; clear HB; have HO275 := n0_; have HO278 := n1_; have HO282 := n2_; have HO285 := n3_; have HO289 := n4_; have HO293 := n5_; have HB := n6_; clear n0_ n1_ n2_ n3_ n4_ n5_ n6_; (try clear hb); (try clear hb2); (try clear hk); (try clear hi)))
      go_ret
      exact ⟨by first | rfl | (simp [errW_none, errW_some] <;> rfl) | (simp [*, errW_none, errW_some] <;> rfl), by repeat (first | (with_reducible first | exact HB.out | apply below_alloc | apply pw_below_drewN | apply below_drew1) | exact HB.out)⟩
     ·replace c22 := Bool.eq_false_iff.mpr c22
      subst c22
      have H1 : (some false) = some r := by rw [if_neg (show ¬ (false = true) by decide)] at H; exact H
      clear H
      have H := H1
      clear H1
      obtain rfl := Option.some.inj H
      go_enter Try.func3, Try.ntmps3
      go_wp2_with (first | ((with_reducible refine gate_callee (f := 10) rfl ?_); refine goesL_ (some 12) rfl rfl Try.func10 (by kernel_rfl) rfl #[.slice A0 l0.length c0, .int .i64 1048576] rfl (by (try simp only [List.map_toArray, List.map_cons, List.map_nil]); first | done | rfl | (simp only [List.length_drop, List.length_take]; rfl)) ?_; (with_reducible refine (laws_szPairS.calls k _ _ l0 1048576 t271 _ ?side1 ?side2 A3.out).mono ?_); (case side1 => repeat (first | exact HR0.out | (with_reducible refine Kd.C_alloc ?_ _) | (with_reducible refine Kd.C_drewN ?_ _) | (with_reducible refine Kd.C_drew ?_))); (case side2 => exact HC0.out); rintro e w41 ⟨rfl, hb⟩; refine ⟨_, rfl, ?_⟩; have n0_ := Aside0.mk (below_step (by repeat (first | (with_reducible first | exact HB.out | apply below_alloc | apply pw_below_drewN | apply below_drew1) | exact HB.out)) hb); clear HB; have HB := n0_; clear n0_; (try clear hb); (try clear hb2); (try clear hk); (try clear hi)) | ((with_reducible refine gate_callee (f := 11) rfl ?_); refine goesL_ (some 17) rfl rfl Try.func11 (by kernel_rfl) rfl #[.slice A1 l1.length c1, .int .i64 t271] rfl (by (try simp only [List.map_toArray, List.map_cons, List.map_nil]); first | done | rfl | (simp only [List.length_drop, List.length_take]; rfl)) ?_; (with_reducible refine (laws_szRecordSS.calls k _ _ l1 t271 t272 _ ?side1 ?side2 A6.out).mono ?_); (case side1 => repeat (first | exact (Kd.C_below HR1.out HB.out) | (with_reducible refine Kd.C_alloc ?_ _) | (with_reducible refine Kd.C_drewN ?_ _) | (with_reducible refine Kd.C_drew ?_))); (case side2 => exact HC1.out); rintro e w42 ⟨rfl, hb⟩; refine ⟨_, rfl, ?_⟩; have n0_ := Aside0.mk (below_step (by repeat (first | (with_reducible first | exact HB.out | apply below_alloc | apply pw_below_drewN | apply below_drew1) | exact HB.out)) hb); clear HB; have HB := n0_; clear n0_; (try clear hb); (try clear hb2); (try clear hk); (try clear hi)) | ((with_reducible refine gate_callee (f := 13) rfl ?_); refine goesL_ (some 21) rfl rfl Try.func13 (by kernel_rfl) rfl #[.slice A0 l0.length c0] rfl (by (try simp only [List.map_toArray, List.map_cons, List.map_nil]); first | done | rfl | (simp only [List.length_drop, List.length_take]; rfl)) ?_; (with_reducible refine (laws_toPairS.calls k _ _ l0 t273 _ ?side1 ?side2 A10.out).mono ?_); (case side1 => repeat (first | exact (Kd.C_below HR0.out HB.out) | (with_reducible refine Kd.C_alloc ?_ _) | (with_reducible refine Kd.C_drewN ?_ _) | (with_reducible refine Kd.C_drew ?_))); (case side2 => exact HC0.out); rintro e w43 ⟨v274, rfl, ho0, hb⟩; refine ⟨_, rfl, ?_⟩; have n0_ := Aside0.mk (Kd.R_lower ho0 (below_size (by repeat (first | (with_reducible first | exact HB.out | apply below_alloc | apply pw_below_drewN | apply below_drew1) | exact HB.out)))); have n1_ := Aside0.mk (below_step (by repeat (first | (with_reducible first | exact HB.out | apply below_alloc | apply pw_below_drewN | apply below_drew1) | exact HB.out)) hb); clear HB; have HO275 := n0_; have HB := n1_; clear n0_ n1_; (try clear hb); (try clear hb2); (try clear hk); (try clear hi); (try clear ho0)) | ((with_reducible refine gate_callee (f := 14) rfl ?_); refine goesL_ (some 23) rfl rfl Try.func14 (by kernel_rfl) rfl #[.slice A1 l1.length c1] rfl (by (try simp only [List.map_toArray, List.map_cons, List.map_nil]); first | done | rfl | (simp only [List.length_drop, List.length_take]; rfl)) ?_; (with_reducible refine (laws_toRecordSS.calls k _ _ l1 t276 _ ?side1 ?side2 A11.out).mono ?_); (case side1 => repeat (first | exact (Kd.C_below HR1.out HB.out) | (with_reducible refine Kd.C_alloc ?_ _) | (with_reducible refine Kd.C_drewN ?_ _) | (with_reducible refine Kd.C_drew ?_))); (case side2 => exact HC1.out); rintro e w44 ⟨v277, rfl, ho0, hb⟩; refine ⟨_, rfl, ?_⟩; have n0_ := Aside0.mk (Kd.R_below (by (with_reducible repeat (first | apply Kd.R_alloc | apply Kd.R_drewN | apply Kd.R_drew)); exact HO275.out) hb); have n1_ := Aside0.mk (Kd.S_lower ho0 (below_size (by repeat (first | (with_reducible first | exact HB.out | apply below_alloc | apply pw_below_drewN | apply below_drew1) | exact HB.out)))); have n2_ := Aside0.mk (below_step (by repeat (first | (with_reducible first | exact HB.out | apply below_alloc | apply pw_below_drewN | apply below_drew1) | exact HB.out)) hb); clear HO275; clear HB; have HO275 := n0_; have HO278 := n1_; have HB := n2_; clear n0_ n1_ n2_; (try clear hb); (try clear hb2); (try clear hk); (try clear hi); (try clear ho0); obtain ⟨Ao45, co45, eo45⟩ := Kd.R_slice HO275.out; subst eo45; obtain ⟨Ao46, co46, eo46⟩ := Kd.S_slice HO278.out; subst eo46) | ((with_reducible refine gate_callee (f := 12) rfl ?_); refine goesL_ (some 24) rfl rfl Try.func12 (by kernel_rfl) rfl #[.slice Ao45 t273.length co45, .slice Ao46 t276.length co46] rfl (by (try simp only [List.map_toArray, List.map_cons, List.map_nil]); first | done | rfl | (simp only [List.length_drop, List.length_take]; rfl)) ?_; (with_reducible refine (spec_PrefixOf.calls k _ _ t273 _ _ t276 t279 _ ?side1 ?side2 ?side3 ?side4 A12.out).mono ?_); (case side1 => repeat (first | exact (Kd.R_reads' HO275.out).2.2 | (with_reducible refine Kd.C_alloc ?_ _) | (with_reducible refine Kd.C_drewN ?_ _) | (with_reducible refine Kd.C_drew ?_))); (case side2 => exact (Kd.R_reads' HO275.out).2.1); (case side3 => repeat (first | exact (Kd.S_reads' HO278.out).2.2 | (with_reducible refine Kd.C_alloc ?_ _) | (with_reducible refine Kd.C_drewN ?_ _) | (with_reducible refine Kd.C_drew ?_))); (case side4 => exact (Kd.S_reads' HO278.out).2.1); rintro e w47 ⟨rfl, hb⟩; refine ⟨_, rfl, ?_⟩; have n0_ := Aside0.mk (Kd.R_below (by (with_reducible repeat (first | apply Kd.R_alloc | apply Kd.R_drewN | apply Kd.R_drew)); exact HO275.out) hb); have n1_ := Aside0.mk (Kd.S_below (by (with_reducible repeat (first | apply Kd.S_alloc | apply Kd.S_drewN | apply Kd.S_drew)); exact HO278.out) hb); have n2_ := Aside0.mk (below_step (by repeat (first | (with_reducible first | exact HB.out | apply below_alloc | apply pw_below_drewN | apply below_drew1) | exact HB.out)) hb); clear HO275; clear HO278; clear HB; have HO275 := n0_; have HO278 := n1_; have HB := n2_; clear n0_ n1_ n2_; (try clear hb); (try clear hb2); (try clear hk); (try clear hi)) | ((with_reducible refine gate_callee (f := 13) rfl ?_); refine goesL_ (some 26) rfl rfl Try.func13 (by kernel_rfl) rfl #[.slice A0 l0.length c0] rfl (by (try simp only [List.map_toArray, List.map_cons, List.map_nil]); first | done | rfl | (simp only [List.length_drop, List.length_take]; rfl)) ?_; (with_reducible refine (laws_toPairS.calls k _ _ l0 t280 _ ?side1 ?side2 A13.out).mono ?_); (case side1 => repeat (first | exact (Kd.C_below HR0.out HB.out) | (with_reducible refine Kd.C_alloc ?_ _) | (with_reducible refine Kd.C_drewN ?_ _) | (with_reducible refine Kd.C_drew ?_))); (case side2 => exact HC0.out); rintro e w48 ⟨v281, rfl, ho0, hb⟩; refine ⟨_, rfl, ?_⟩; have n0_ := Aside0.mk (Kd.R_elder' (by (with_reducible repeat (first | apply Kd.R_alloc | apply Kd.R_drewN | apply Kd.R_drew)); exact HO275.out) (Kd.R_base ho0) hb); have n1_ := Aside0.mk (Kd.S_below (by (with_reducible repeat (first | apply Kd.S_alloc | apply Kd.S_drewN | apply Kd.S_drew)); exact HO278.out) hb); have n2_ := Aside0.mk (Kd.R_lower (Kd.R_new' ho0 (Kd.R_lt (by (with_reducible repeat (first | apply Kd.R_alloc | apply Kd.R_drewN | apply Kd.R_drew)); exact HO275.out))) (below_size (by repeat (first | (with_reducible first | exact HB.out | apply below_alloc | apply pw_below_drewN | apply below_drew1) | exact HB.out)))); have n3_ := Aside0.mk (below_step (by repeat (first | (with_reducible first | exact HB.out | apply below_alloc | apply pw_below_drewN | apply below_drew1) | exact HB.out)) hb); clear HO275; clear HO278; clear HB; have HO275 := n0_; have HO278 := n1_; have HO282 := n2_; have HB := n3_; clear n0_ n1_ n2_ n3_; (try clear hb); (try clear hb2); (try clear hk); (try clear hi); (try clear ho0)) | ((with_reducible refine gate_callee (f := 14) rfl ?_); refine goesL_ (some 28) rfl rfl Try.func14 (by kernel_rfl) rfl #[.slice A1 l1.length c1] rfl (by (try simp only [List.map_toArray, List.map_cons, List.map_nil]); first | done | rfl | (simp only [List.length_drop, List.length_take]; rfl)) ?_; (with_reducible refine (laws_toRecordSS.calls k _ _ l1 t283 _ ?side1 ?side2 A14.out).mono ?_); (case side1 => repeat (first | exact (Kd.C_below HR1.out HB.out) | (with_reducible refine Kd.C_alloc ?_ _) | (with_reducible refine Kd.C_drewN ?_ _) | (with_reducible refine Kd.C_drew ?_))); (case side2 => exact HC1.out); rintro e w49 ⟨v284, rfl, ho0, hb⟩; refine ⟨_, rfl, ?_⟩; have n0_ := Aside0.mk (Kd.R_below (by (with_reducible repeat (first | apply Kd.R_alloc | apply Kd.R_drewN | apply Kd.R_drew)); exact HO275.out) hb); have n1_ := Aside0.mk (Kd.S_elder' (by (with_reducible repeat (first | apply Kd.S_alloc | apply Kd.S_drewN | apply Kd.S_drew)); exact HO278.out) (Kd.S_base ho0) hb); have n2_ := Aside0.mk (Kd.R_below (by (with_reducible repeat (first | apply Kd.R_alloc | apply Kd.R_drewN | apply Kd.R_drew)); exact HO282.out) hb); have n3_ := Aside0.mk (Kd.S_lower (Kd.S_new' ho0 (Kd.S_lt (by (with_reducible repeat (first | apply Kd.S_alloc | apply Kd.S_drewN | apply Kd.S_drew)); exact HO278.out))) (below_size (by repeat (first | (with_reducible first | exact HB.out | apply below_alloc | apply pw_below_drewN | apply below_drew1) | exact HB.out)))); have n4_ := Aside0.mk (below_step (by repeat (first | (with_reducible first | exact HB.out | apply below_alloc | apply pw_below_drewN | apply below_drew1) | exact HB.out)) hb); clear HO275; clear HO278; clear HO282; clear HB; have HO275 := n0_; have HO278 := n1_; have HO282 := n2_; have HO285 := n3_; have HB := n4_; clear n0_ n1_ n2_ n3_ n4_; (try clear hb); (try clear hb2); (try clear hk); (try clear hi); (try clear ho0); obtain ⟨Ao50, co50, eo50⟩ := Kd.R_slice HO282.out; subst eo50; obtain ⟨Ao51, co51, eo51⟩ := Kd.S_slice HO285.out; subst eo51) | ((with_reducible refine gate_callee (f := 15) rfl ?_); refine goesL_ (some 31) rfl rfl Try.func15 (by kernel_rfl) rfl #[.slice Ao50 t280.length co50, .slice Ao51 t283.length co51] rfl (by (try simp only [List.map_toArray, List.map_cons, List.map_nil]); first | done | rfl | (simp only [List.length_drop, List.length_take]; rfl)) ?_; (with_reducible refine (impl_PrefixOf.calls k _ _ t280 _ _ t283 t286 _ ?side1 ?side2 ?side3 ?side4 A15.out).mono ?_); (case side1 => repeat (first | exact (Kd.R_reads' HO282.out).2.2 | (with_reducible refine Kd.C_alloc ?_ _) | (with_reducible refine Kd.C_drewN ?_ _) | (with_reducible refine Kd.C_drew ?_))); (case side2 => exact (Kd.R_reads' HO282.out).2.1); (case side3 => repeat (first | exact (Kd.S_reads' HO285.out).2.2 | (with_reducible refine Kd.C_alloc ?_ _) | (with_reducible refine Kd.C_drewN ?_ _) | (with_reducible refine Kd.C_drew ?_))); (case side4 => exact (Kd.S_reads' HO285.out).2.1); rintro e w52 ⟨rfl, hb⟩; refine ⟨_, rfl, ?_⟩; have n0_ := Aside0.mk (Kd.R_below (by (with_reducible repeat (first | apply Kd.R_alloc | apply Kd.R_drewN | apply Kd.R_drew)); exact HO275.out) hb); have n1_ := Aside0.mk (Kd.S_below (by (with_reducible repeat (first | apply Kd.S_alloc | apply Kd.S_drewN | apply Kd.S_drew)); exact HO278.out) hb); have n2_ := Aside0.mk (Kd.R_below (by (with_reducible repeat (first | apply Kd.R_alloc | apply Kd.R_drewN | apply Kd.R_drew)); exact HO282.out) hb); have n3_ := Aside0.mk (Kd.S_below (by (with_reducible repeat (first | apply Kd.S_alloc | apply Kd.S_drewN | apply Kd.S_drew)); exact HO285.out) hb); have n4_ := Aside0.mk (below_step (by repeat (first | (with_reducible first | exact HB.out | apply below_alloc | apply pw_below_drewN | apply below_drew1) | exact HB.out)) hb); clear HO275; clear HO278; clear HO282; clear HO285; clear HB; have HO275 := n0_; have HO278 := n1_; have HO282 := n2_; have HO285 := n3_; have HB := n4_; clear n0_ n1_ n2_ n3_ n4_; (try clear hb); (try clear hb2); (try clear hk); (try clear hi)) | ((with_reducible refine gate_callee (f := 13) rfl ?_); refine goesL_ (some 37) rfl rfl Try.func13 (by kernel_rfl) rfl #[.slice A0 l0.length c0] rfl (by (try simp only [List.map_toArray, List.map_cons, List.map_nil]); first | done | rfl | (simp only [List.length_drop, List.length_take]; rfl)) ?_; (with_reducible refine (laws_toPairS.calls k _ _ l0 t287 _ ?side1 ?side2 A17.out).mono ?_); (case side1 => repeat (first | exact (Kd.C_below HR0.out HB.out) | (with_reducible refine Kd.C_alloc ?_ _) | (with_reducible refine Kd.C_drewN ?_ _) | (with_reducible refine Kd.C_drew ?_))); (case side2 => exact HC0.out); rintro e w53 ⟨v288, rfl, ho0, hb⟩; refine ⟨_, rfl, ?_⟩; have n0_ := Aside0.mk (Kd.R_elder' (by (with_reducible repeat (first | apply Kd.R_alloc | apply Kd.R_drewN | apply Kd.R_drew)); exact HO275.out) (Kd.R_base ho0) hb); have n1_ := Aside0.mk (Kd.S_below (by (with_reducible repeat (first | apply Kd.S_alloc | apply Kd.S_drewN | apply Kd.S_drew)); exact HO278.out) hb); have n2_ := Aside0.mk (Kd.R_elder' (by (with_reducible repeat (first | apply Kd.R_alloc | apply Kd.R_drewN | apply Kd.R_drew)); exact HO282.out) (Kd.R_base ho0) hb); have n3_ := Aside0.mk (Kd.S_below (by (with_reducible repeat (first | apply Kd.S_alloc | apply Kd.S_drewN | apply Kd.S_drew)); exact HO285.out) hb); have n4_ := Aside0.mk (Kd.R_lower (Kd.R_new' (Kd.R_new' ho0 (Kd.R_lt (by (with_reducible repeat (first | apply Kd.R_alloc | apply Kd.R_drewN | apply Kd.R_drew)); exact HO275.out))) (Kd.R_lt (by (with_reducible repeat (first | apply Kd.R_alloc | apply Kd.R_drewN | apply Kd.R_drew)); exact HO282.out))) (below_size (by repeat (first | (with_reducible first | exact HB.out | apply below_alloc | apply pw_below_drewN | apply below_drew1) | exact HB.out)))); have n5_ := Aside0.mk (below_step (by repeat (first | (with_reducible first | exact HB.out | apply below_alloc | apply pw_below_drewN | apply below_drew1) | exact HB.out)) hb); clear HO275; clear HO278; clear HO282; clear HO285; clear HB; have HO275 := n0_; have HO278 := n1_; have HO282 := n2_; have HO285 := n3_; have HO289 := n4_; have HB := n5_; clear n0_ n1_ n2_ n3_ n4_ n5_; (try clear hb); (try clear hb2); (try clear hk); (try clear hi); (try clear ho0); obtain ⟨Ao54, co54, eo54⟩ := Kd.R_slice HO289.out; subst eo54) | ((with_reducible refine gate_callee (f := 16) rfl ?_); refine goesL_ (some 38) rfl rfl Try.func16 (by kernel_rfl) rfl #[.slice Ao50 t280.length co50, .slice Ao54 t287.length co54] rfl (by (try simp only [List.map_toArray, List.map_cons, List.map_nil]); first | done | rfl | (simp only [List.length_drop, List.length_take]; rfl)) ?_; (with_reducible refine (laws_eqPairS.calls k _ _ t280 _ _ t287 true _ ?side1 ?side2 ?side3 ?side4 A18.out).mono ?_); (case side1 => repeat (first | exact (Kd.R_reads' HO282.out).2.2 | (with_reducible refine Kd.C_alloc ?_ _) | (with_reducible refine Kd.C_drewN ?_ _) | (with_reducible refine Kd.C_drew ?_))); (case side2 => exact (Kd.R_reads' HO282.out).2.1); (case side3 => repeat (first | exact (Kd.R_reads' HO289.out).2.2 | (with_reducible refine Kd.C_alloc ?_ _) | (with_reducible refine Kd.C_drewN ?_ _) | (with_reducible refine Kd.C_drew ?_))); (case side4 => exact (Kd.R_reads' HO289.out).2.1); rintro e w55 ⟨rfl, hb⟩; refine ⟨_, rfl, ?_⟩; have n0_ := Aside0.mk (Kd.R_below (by (with_reducible repeat (first | apply Kd.R_alloc | apply Kd.R_drewN | apply Kd.R_drew)); exact HO275.out) hb); have n1_ := Aside0.mk (Kd.S_below (by (with_reducible repeat (first | apply Kd.S_alloc | apply Kd.S_drewN | apply Kd.S_drew)); exact HO278.out) hb); have n2_ := Aside0.mk (Kd.R_below (by (with_reducible repeat (first | apply Kd.R_alloc | apply Kd.R_drewN | apply Kd.R_drew)); exact HO282.out) hb); have n3_ := Aside0.mk (Kd.S_below (by (with_reducible repeat (first | apply Kd.S_alloc | apply Kd.S_drewN | apply Kd.S_drew)); exact HO285.out) hb); have n4_ := Aside0.mk (Kd.R_below (by (with_reducible repeat (first | apply Kd.R_alloc | apply Kd.R_drewN | apply Kd.R_drew)); exact HO289.out) hb); have n5_ := Aside0.mk (below_step (by repeat (first | (with_reducible first | exact HB.out | apply below_alloc | apply pw_below_drewN | apply below_drew1) | exact HB.out)) hb); clear HO275; clear HO278; clear HO282; clear HO285; clear HO289; clear HB; have HO275 := n0_; have HO278 := n1_; have HO282 := n2_; have HO285 := n3_; have HO289 := n4_; have HB := n5_; clear n0_ n1_ n2_ n3_ n4_ n5_; (try clear hb); (try clear hb2); (try clear hk); (try clear hi)) | ((with_reducible refine gate_callee (f := 14) rfl ?_); refine goesL_ (some 42) rfl rfl Try.func14 (by kernel_rfl) rfl #[.slice A1 l1.length c1] rfl (by (try simp only [List.map_toArray, List.map_cons, List.map_nil]); first | done | rfl | (simp only [List.length_drop, List.length_take]; rfl)) ?_; (with_reducible refine (laws_toRecordSS.calls k _ _ l1 t291 _ ?side1 ?side2 A20.out).mono ?_); (case side1 => repeat (first | exact (Kd.C_below HR1.out HB.out) | (with_reducible refine Kd.C_alloc ?_ _) | (with_reducible refine Kd.C_drewN ?_ _) | (with_reducible refine Kd.C_drew ?_))); (case side2 => exact HC1.out); rintro e w56 ⟨v292, rfl, ho0, hb⟩; refine ⟨_, rfl, ?_⟩; have n0_ := Aside0.mk (Kd.R_below (by (with_reducible repeat (first | apply Kd.R_alloc | apply Kd.R_drewN | apply Kd.R_drew)); exact HO275.out) hb); have n1_ := Aside0.mk (Kd.S_elder' (by (with_reducible repeat (first | apply Kd.S_alloc | apply Kd.S_drewN | apply Kd.S_drew)); exact HO278.out) (Kd.S_base ho0) hb); have n2_ := Aside0.mk (Kd.R_below (by (with_reducible repeat (first | apply Kd.R_alloc | apply Kd.R_drewN | apply Kd.R_drew)); exact HO282.out) hb); have n3_ := Aside0.mk (Kd.S_elder' (by (with_reducible repeat (first | apply Kd.S_alloc | apply Kd.S_drewN | apply Kd.S_drew)); exact HO285.out) (Kd.S_base ho0) hb); have n4_ := Aside0.mk (Kd.R_below (by (with_reducible repeat (first | apply Kd.R_alloc | apply Kd.R_drewN | apply Kd.R_drew)); exact HO289.out) hb); have n5_ := Aside0.mk (Kd.S_lower (Kd.S_new' (Kd.S_new' ho0 (Kd.S_lt (by (with_reducible repeat (first | apply Kd.S_alloc | apply Kd.S_drewN | apply Kd.S_drew)); exact HO278.out))) (Kd.S_lt (by (with_reducible repeat (first | apply Kd.S_alloc | apply Kd.S_drewN | apply Kd.S_drew)); exact HO285.out))) (below_size (by repeat (first | (with_reducible first | exact HB.out | apply below_alloc | apply pw_below_drewN | apply below_drew1) | exact HB.out)))); have n6_ := Aside0.mk (below_step (by repeat (first | (with_reducible first | exact HB.out | apply below_alloc | apply pw_below_drewN | apply below_drew1) | exact HB.out)) hb); clear HO275; clear HO278; clear HO282; clear HO285; clear HO289; clear HB; have HO275 := n0_; have HO278 := n1_; have HO282 := n2_; have HO285 := n3_; have HO289 := n4_; have HO293 := n5_; have HB := n6_; clear n0_ n1_ n2_ n3_ n4_ n5_ n6_; (try clear hb); (try clear hb2); (try clear hk); (try clear hi); (try clear ho0); obtain ⟨Ao57, co57, eo57⟩ := Kd.S_slice HO293.out; subst eo57) | ((with_reducible refine gate_callee (f := 17) rfl ?_); refine goesL_ (some 43) rfl rfl Try.func17 (by kernel_rfl) rfl #[.slice Ao51 t283.length co51, .slice Ao57 t291.length co57] rfl (by (try simp only [List.map_toArray, List.map_cons, List.map_nil]); first | done | rfl | (simp only [List.length_drop, List.length_take]; rfl)) ?_; (with_reducible refine (laws_eqRecordSS.calls k _ _ t283 _ _ t291 false _ ?side1 ?side2 ?side3 ?side4 A21.out).mono ?_); (case side1 => repeat (first | exact (Kd.S_reads' HO285.out).2.2 | (with_reducible refine Kd.C_alloc ?_ _) | (with_reducible refine Kd.C_drewN ?_ _) | (with_reducible refine Kd.C_drew ?_))); (case side2 => exact (Kd.S_reads' HO285.out).2.1); (case side3 => repeat (first | exact (Kd.S_reads' HO293.out).2.2 | (with_reducible refine Kd.C_alloc ?_ _) | (with_reducible refine Kd.C_drewN ?_ _) | (with_reducible refine Kd.C_drew ?_))); (case side4 => exact (Kd.S_reads' HO293.out).2.1); rintro e w58 ⟨rfl, hb⟩; refine ⟨_, rfl, ?_⟩; have n0_ := Aside0.mk (Kd.R_below (by (with_reducible repeat (first | apply Kd.R_alloc | apply Kd.R_drewN | apply Kd.R_drew)); exact HO275.out) hb); have n1_ := Aside0.mk (Kd.S_below (by (with_reducible repeat (first | apply Kd.S_alloc | apply Kd.S_drewN | apply Kd.S_drew)); exact HO278.out) hb); have n2_ := Aside0.mk (Kd.R_below (by (with_reducible repeat (first | apply Kd.R_alloc | apply Kd.R_drewN | apply Kd.R_drew)); exact HO282.out) hb); have n3_ := Aside0.mk (Kd.S_below (by (with_reducible repeat (first | apply Kd.S_alloc | apply Kd.S_drewN | apply Kd.S_drew)); exact HO285.out) hb); have n4_ := Aside0.mk (Kd.R_below (by (with_reducible repeat (first | apply Kd.R_alloc | apply Kd.R_drewN | apply Kd.R_drew)); exact HO289.out) hb); have n5_ := Aside0.mk (Kd.S_below (by (with_reducible repeat (first | apply Kd.S_alloc | apply Kd.S_drewN | apply Kd.S_drew)); exact HO293.out) hb); have n6_ := Aside0.mk (below_step (by repeat (first | (with_reducible first | exact HB.out | apply below_alloc | apply pw_below_drewN | apply below_drew1) | exact HB.out)) hb); clear HO275; clear HO278; clear HO282; clear HO285; clear HO289; clear HO293; clear HB; have HO275 := n0_; have HO278 := n1_; have HO282 := n2_; have HO285 := n3_; have HO289 := n4_; have HO293 := n5_; have HB := n6_; clear n0_ n1_ n2_ n3_ n4_ n5_ n6_; (try clear hb); (try clear hb2); (try clear hk); (try clear hi)))
      go_ret
      exact ⟨by first | rfl | (simp [errW_none, errW_some] <;> rfl) | (simp [*, errW_none, errW_some] <;> rfl), by repeat (first | (with_reducible first | exact HB.out | apply below_alloc | apply pw_below_drewN | apply below_drew1) | exact HB.out)⟩
    ·replace c19 := Bool.eq_false_iff.mpr c19
     subst c19
     have H1 : (some false) = some r := by rw [if_neg (show ¬ (false = true) by decide)] at H; exact H
     clear H
     have H := H1
     clear H1
     obtain rfl := Option.some.inj H
     go_enter Try.func3, Try.ntmps3
     go_wp2_with (first | ((with_reducible refine gate_callee (f := 10) rfl ?_); refine goesL_ (some 12) rfl rfl Try.func10 (by kernel_rfl) rfl #[.slice A0 l0.length c0, .int .i64 1048576] rfl (by (try simp only [List.map_toArray, List.map_cons, List.map_nil]); first | done | rfl | (simp only [List.length_drop, List.length_take]; rfl)) ?_; (with_reducible refine (laws_szPairS.calls k _ _ l0 1048576 t271 _ ?side1 ?side2 A3.out).mono ?_); (case side1 => repeat (first | exact HR0.out | (with_reducible refine Kd.C_alloc ?_ _) | (with_reducible refine Kd.C_drewN ?_ _) | (with_reducible refine Kd.C_drew ?_))); (case side2 => exact HC0.out); rintro e w59 ⟨rfl, hb⟩; refine ⟨_, rfl, ?_⟩; have n0_ := Aside0.mk (below_step (by repeat (first | (with_reducible first | exact HB.out | apply below_alloc | apply pw_below_drewN | apply below_drew1) | exact HB.out)) hb); clear HB; have HB := n0_; clear n0_; (try clear hb); (try clear hb2); (try clear hk); (try clear hi)) | ((with_reducible refine gate_callee (f := 11) rfl ?_); refine goesL_ (some 17) rfl rfl Try.func11 (by kernel_rfl) rfl #[.slice A1 l1.length c1, .int .i64 t271] rfl (by (try simp only [List.map_toArray, List.map_cons, List.map_nil]); first | done | rfl | (simp only [List.length_drop, List.length_take]; rfl)) ?_; (with_reducible refine (laws_szRecordSS.calls k _ _ l1 t271 t272 _ ?side1 ?side2 A6.out).mono ?_); (case side1 => repeat (first | exact (Kd.C_below HR1.out HB.out) | (with_reducible refine Kd.C_alloc ?_ _) | (with_reducible refine Kd.C_drewN ?_ _) | (with_reducible refine Kd.C_drew ?_))); (case side2 => exact HC1.out); rintro e w60 ⟨rfl, hb⟩; refine ⟨_, rfl, ?_⟩; have n0_ := Aside0.mk (below_step (by repeat (first | (with_reducible first | exact HB.out | apply below_alloc | apply pw_below_drewN | apply below_drew1) | exact HB.out)) hb); clear HB; have HB := n0_; clear n0_; (try clear hb); (try clear hb2); (try clear hk); (try clear hi)) | ((with_reducible refine gate_callee (f := 13) rfl ?_); refine goesL_ (some 21) rfl rfl Try.func13 (by kernel_rfl) rfl #[.slice A0 l0.length c0] rfl (by (try simp only [List.map_toArray, List.map_cons, List.map_nil]); first | done | rfl | (simp only [List.length_drop, List.length_take]; rfl)) ?_; (with_reducible refine (laws_toPairS.calls k _ _ l0 t273 _ ?side1 ?side2 A10.out).mono ?_); (case side1 => repeat (first | exact (Kd.C_below HR0.out HB.out) | (with_reducible refine Kd.C_alloc ?_ _) | (with_reducible refine Kd.C_drewN ?_ _) | (with_reducible refine Kd.C_drew ?_))); (case side2 => exact HC0.out); rintro e w61 ⟨v274, rfl, ho0, hb⟩; refine ⟨_, rfl, ?_⟩; have n0_ := Aside0.mk (Kd.R_lower ho0 (below_size (by repeat (first | (with_reducible first | exact HB.out | apply below_alloc | apply pw_below_drewN | apply below_drew1) | exact HB.out)))); have n1_ := Aside0.mk (below_step (by repeat (first | (with_reducible first | exact HB.out | apply below_alloc | apply pw_below_drewN | apply below_drew1) | exact HB.out)) hb); clear HB; have HO275 := n0_; have HB := n1_; clear n0_ n1_; (try clear hb); (try clear hb2); (try clear hk); (try clear hi); (try clear ho0)) | ((with_reducible refine gate_callee (f := 14) rfl ?_); refine goesL_ (some 23) rfl rfl Try.func14 (by kernel_rfl) rfl #[.slice A1 l1.length c1] rfl (by (try simp only [List.map_toArray, List.map_cons, List.map_nil]); first | done | rfl | (simp only [List.length_drop, List.length_take]; rfl)) ?_; (with_reducible refine (laws_toRecordSS.calls k _ _ l1 t276 _ ?side1 ?side2 A11.out).mono ?_); (case side1 => repeat (first | exact (Kd.C_below HR1.out HB.out) | (with_reducible refine Kd.C_alloc ?_ _) | (with_reducible refine Kd.C_drewN ?_ _) | (with_reducible refine Kd.C_drew ?_))); (case side2 => exact HC1.out); rintro e w62 ⟨v277, rfl, ho0, hb⟩; refine ⟨_, rfl, ?_⟩; have n0_ := Aside0.mk (Kd.R_below (by (with_reducible repeat (first | apply Kd.R_alloc | apply Kd.R_drewN | apply Kd.R_drew)); exact HO275.out) hb); have n1_ := Aside0.mk (Kd.S_lower ho0 (below_size (by repeat (first | (with_reducible first | exact HB.out | apply below_alloc | apply pw_below_drewN | apply below_drew1) | exact HB.out)))); have n2_ := Aside0.mk (below_step (by repeat (first | (with_reducible first | exact HB.out | apply below_alloc | apply pw_below_drewN | apply below_drew1) | exact HB.out)) hb); clear HO275; clear HB; have HO275 := n0_; have HO278 := n1_; have HB := n2_; clear n0_ n1_ n2_; (try clear hb); (try clear hb2); (try clear hk); (try clear hi); (try clear ho0); obtain ⟨Ao63, co63, eo63⟩ := Kd.R_slice HO275.out; subst eo63; obtain ⟨Ao64, co64, eo64⟩ := Kd.S_slice HO278.out; subst eo64) | ((with_reducible refine gate_callee (f := 12) rfl ?_); refine goesL_ (some 24) rfl rfl Try.func12 (by kernel_rfl) rfl #[.slice Ao63 t273.length co63, .slice Ao64 t276.length co64] rfl (by (try simp only [List.map_toArray, List.map_cons, List.map_nil]); first | done | rfl | (simp only [List.length_drop, List.length_take]; rfl)) ?_; (with_reducible refine (spec_PrefixOf.calls k _ _ t273 _ _ t276 t279 _ ?side1 ?side2 ?side3 ?side4 A12.out).mono ?_); (case side1 => repeat (first | exact (Kd.R_reads' HO275.out).2.2 | (with_reducible refine Kd.C_alloc ?_ _) | (with_reducible refine Kd.C_drewN ?_ _) | (with_reducible refine Kd.C_drew ?_))); (case side2 => exact (Kd.R_reads' HO275.out).2.1); (case side3 => repeat (first | exact (Kd.S_reads' HO278.out).2.2 | (with_reducible refine Kd.C_alloc ?_ _) | (with_reducible refine Kd.C_drewN ?_ _) | (with_reducible refine Kd.C_drew ?_))); (case side4 => exact (Kd.S_reads' HO278.out).2.1); rintro e w65 ⟨rfl, hb⟩; refine ⟨_, rfl, ?_⟩; have n0_ := Aside0.mk (Kd.R_below (by (with_reducible repeat (first | apply Kd.R_alloc | apply Kd.R_drewN | apply Kd.R_drew)); exact HO275.out) hb); have n1_ := Aside0.mk (Kd.S_below (by (with_reducible repeat (first | apply Kd.S_alloc | apply Kd.S_drewN | apply Kd.S_drew)); exact HO278.out) hb); have n2_ := Aside0.mk (below_step (by repeat (first | (with_reducible first | exact HB.out | apply below_alloc | apply pw_below_drewN | apply below_drew1) | exact HB.out)) hb); clear HO275; clear HO278; clear HB; have HO275 := n0_; have HO278 := n1_; have HB := n2_; clear n0_ n1_ n2_; (try clear hb); (try clear hb2); (try clear hk); (try clear hi)) | ((with_reducible refine gate_callee (f := 13) rfl ?_); refine goesL_ (some 26) rfl rfl Try.func13 (by kernel_rfl) rfl #[.slice A0 l0.length c0] rfl (by (try simp only [List.map_toArray, List.map_cons, List.map_nil]); first | done | rfl | (simp only [List.length_drop, List.length_take]; rfl)) ?_; (with_reducible refine (laws_toPairS.calls k _ _ l0 t280 _ ?side1 ?side2 A13.out).mono ?_); (case side1 => repeat (first | exact (Kd.C_below HR0.out HB.out) | (with_reducible refine Kd.C_alloc ?_ _) | (with_reducible refine Kd.C_drewN ?_ _) | (with_reducible refine Kd.C_drew ?_))); (case side2 => exact HC0.out); rintro e w66 ⟨v281, rfl, ho0, hb⟩; refine ⟨_, rfl, ?_⟩; have n0_ := Aside0.mk (Kd.R_elder' (by (with_reducible repeat (first | apply Kd.R_alloc | apply Kd.R_drewN | apply Kd.R_drew)); exact HO275.out) (Kd.R_base ho0) hb); have n1_ := Aside0.mk (Kd.S_below (by (with_reducible repeat (first | apply Kd.S_alloc | apply Kd.S_drewN | apply Kd.S_drew)); exact HO278.out) hb); have n2_ := Aside0.mk (Kd.R_lower (Kd.R_new' ho0 (Kd.R_lt (by (with_reducible repeat (first | apply Kd.R_alloc | apply Kd.R_drewN | apply Kd.R_drew)); exact HO275.out))) (below_size (by repeat (first | (with_reducible first | exact HB.out | apply below_alloc | apply pw_below_drewN | apply below_drew1) | exact HB.out)))); have n3_ := Aside0.mk (below_step (by repeat (first | (with_reducible first | exact HB.out | apply below_alloc | apply pw_below_drewN | apply below_drew1) | exact HB.out)) hb); clear HO275; clear HO278; clear HB; have HO275 := n0_; have HO278 := n1_; have HO282 := n2_; have HB := n3_; clear n0_ n1_ n2_ n3_; (try clear hb); (try clear hb2); (try clear hk); (try clear hi); (try clear ho0)) | ((with_reducible refine gate_callee (f := 14) rfl ?_); refine goesL_ (some 28) rfl rfl Try.func14 (by kernel_rfl) rfl #[.slice A1 l1.length c1] rfl (by (try simp only [List.map_toArray, List.map_cons, List.map_nil]); first | done | rfl | (simp only [List.length_drop, List.length_take]; rfl)) ?_; (with_reducible refine (laws_toRecordSS.calls k _ _ l1 t283 _ ?side1 ?side2 A14.out).mono ?_); (case side1 => repeat (first | exact (Kd.C_below HR1.out HB.out) | (with_reducible refine Kd.C_alloc ?_ _) | (with_reducible refine Kd.C_drewN ?_ _) | (with_reducible refine Kd.C_drew ?_))); (case side2 => exact HC1.out); rintro e w67 ⟨v284, rfl, ho0, hb⟩; refine ⟨_, rfl, ?_⟩; have n0_ := Aside0.mk (Kd.R_below (by (with_reducible repeat (first | apply Kd.R_alloc | apply Kd.R_drewN | apply Kd.R_drew)); exact HO275.out) hb); have n1_ := Aside0.mk (Kd.S_elder' (by (with_reducible repeat (first | apply Kd.S_alloc | apply Kd.S_drewN | apply Kd.S_drew)); exact HO278.out) (Kd.S_base ho0) hb); have n2_ := Aside0.mk (Kd.R_below (by (with_reducible repeat (first | apply Kd.R_alloc | apply Kd.R_drewN | apply Kd.R_drew)); exact HO282.out) hb); have n3_ := Aside0.mk (Kd.S_lower (Kd.S_new' ho0 (Kd.S_lt (by (with_reducible repeat (first | apply Kd.S_alloc | apply Kd.S_drewN | apply Kd.S_drew)); exact HO278.out))) (below_size (by repeat (first | (with_reducible first | exact HB.out | apply below_alloc | apply pw_below_drewN | apply below_drew1) | exact HB.out)))); have n4_ := Aside0.mk (below_step (by repeat (first | (with_reducible first | exact HB.out | apply below_alloc | apply pw_below_drewN | apply below_drew1) | exact HB.out)) hb); clear HO275; clear HO278; clear HO282; clear HB; have HO275 := n0_; have HO278 := n1_; have HO282 := n2_; have HO285 := n3_; have HB := n4_; clear n0_ n1_ n2_ n3_ n4_; (try clear hb); (try clear hb2); (try clear hk); (try clear hi); (try clear ho0); obtain ⟨Ao68, co68, eo68⟩ := Kd.R_slice HO282.out; subst eo68; obtain ⟨Ao69, co69, eo69⟩ := Kd.S_slice HO285.out; subst eo69) | ((with_reducible refine gate_callee (f := 15) rfl ?_); refine goesL_ (some 31) rfl rfl Try.func15 (by kernel_rfl) rfl #[.slice Ao68 t280.length co68, .slice Ao69 t283.length co69] rfl (by (try simp only [List.map_toArray, List.map_cons, List.map_nil]); first | done | rfl | (simp only [List.length_drop, List.length_take]; rfl)) ?_; (with_reducible refine (impl_PrefixOf.calls k _ _ t280 _ _ t283 t286 _ ?side1 ?side2 ?side3 ?side4 A15.out).mono ?_); (case side1 => repeat (first | exact (Kd.R_reads' HO282.out).2.2 | (with_reducible refine Kd.C_alloc ?_ _) | (with_reducible refine Kd.C_drewN ?_ _) | (with_reducible refine Kd.C_drew ?_))); (case side2 => exact (Kd.R_reads' HO282.out).2.1); (case side3 => repeat (first | exact (Kd.S_reads' HO285.out).2.2 | (with_reducible refine Kd.C_alloc ?_ _) | (with_reducible refine Kd.C_drewN ?_ _) | (with_reducible refine Kd.C_drew ?_))); (case side4 => exact (Kd.S_reads' HO285.out).2.1); rintro e w70 ⟨rfl, hb⟩; refine ⟨_, rfl, ?_⟩; have n0_ := Aside0.mk (Kd.R_below (by (with_reducible repeat (first | apply Kd.R_alloc | apply Kd.R_drewN | apply Kd.R_drew)); exact HO275.out) hb); have n1_ := Aside0.mk (Kd.S_below (by (with_reducible repeat (first | apply Kd.S_alloc | apply Kd.S_drewN | apply Kd.S_drew)); exact HO278.out) hb); have n2_ := Aside0.mk (Kd.R_below (by (with_reducible repeat (first | apply Kd.R_alloc | apply Kd.R_drewN | apply Kd.R_drew)); exact HO282.out) hb); have n3_ := Aside0.mk (Kd.S_below (by (with_reducible repeat (first | apply Kd.S_alloc | apply Kd.S_drewN | apply Kd.S_drew)); exact HO285.out) hb); have n4_ := Aside0.mk (below_step (by repeat (first | (with_reducible first | exact HB.out | apply below_alloc | apply pw_below_drewN | apply below_drew1) | exact HB.out)) hb); clear HO275; clear HO278; clear HO282; clear HO285; clear HB; have HO275 := n0_; have HO278 := n1_; have HO282 := n2_; have HO285 := n3_; have HB := n4_; clear n0_ n1_ n2_ n3_ n4_; (try clear hb); (try clear hb2); (try clear hk); (try clear hi)) | ((with_reducible refine gate_callee (f := 13) rfl ?_); refine goesL_ (some 37) rfl rfl Try.func13 (by kernel_rfl) rfl #[.slice A0 l0.length c0] rfl (by (try simp only [List.map_toArray, List.map_cons, List.map_nil]); first | done | rfl | (simp only [List.length_drop, List.length_take]; rfl)) ?_; (with_reducible refine (laws_toPairS.calls k _ _ l0 t287 _ ?side1 ?side2 A17.out).mono ?_); (case side1 => repeat (first | exact (Kd.C_below HR0.out HB.out) | (with_reducible refine Kd.C_alloc ?_ _) | (with_reducible refine Kd.C_drewN ?_ _) | (with_reducible refine Kd.C_drew ?_))); (case side2 => exact HC0.out); rintro e w71 ⟨v288, rfl, ho0, hb⟩; refine ⟨_, rfl, ?_⟩; have n0_ := Aside0.mk (Kd.R_elder' (by (with_reducible repeat (first | apply Kd.R_alloc | apply Kd.R_drewN | apply Kd.R_drew)); exact HO275.out) (Kd.R_base ho0) hb); have n1_ := Aside0.mk (Kd.S_below (by (with_reducible repeat (first | apply Kd.S_alloc | apply Kd.S_drewN | apply Kd.S_drew)); exact HO278.out) hb); have n2_ := Aside0.mk (Kd.R_elder' (by (with_reducible repeat (first | apply Kd.R_alloc | apply Kd.R_drewN | apply Kd.R_drew)); exact HO282.out) (Kd.R_base ho0) hb); have n3_ := Aside0.mk (Kd.S_below (by (with_reducible repeat (first | apply Kd.S_alloc | apply Kd.S_drewN | apply Kd.S_drew)); exact HO285.out) hb); have n4_ := Aside0.mk (Kd.R_lower (Kd.R_new' (Kd.R_new' ho0 (Kd.R_lt (by (with_reducible repeat (first | apply Kd.R_alloc | apply Kd.R_drewN | apply Kd.R_drew)); exact HO275.out))) (Kd.R_lt (by (with_reducible repeat (first | apply Kd.R_alloc | apply Kd.R_drewN | apply Kd.R_drew)); exact HO282.out))) (below_size (by repeat (first | (with_reducible first | exact HB.out | apply below_alloc | apply pw_below_drewN | apply below_drew1) | exact HB.out)))); have n5_ := Aside0.mk (below_step (by repeat (first | (with_reducible first | exact HB.out | apply below_alloc | apply pw_below_drewN | apply below_drew1) | exact HB.out)) hb); clear HO275; clear HO278; clear HO282; clear HO285; clear HB; have HO275 := n0_; have HO278 := n1_; have HO282 := n2_; have HO285 := n3_; have HO289 := n4_; have HB := n5_; clear n0_ n1_ n2_ n3_ n4_ n5_; (try clear hb); (try clear hb2); (try clear hk); (try clear hi); (try clear ho0); obtain ⟨Ao72, co72, eo72⟩ := Kd.R_slice HO289.out; subst eo72) | ((with_reducible refine gate_callee (f := 16) rfl ?_); refine goesL_ (some 38) rfl rfl Try.func16 (by kernel_rfl) rfl #[.slice Ao68 t280.length co68, .slice Ao72 t287.length co72] rfl (by (try simp only [List.map_toArray, List.map_cons, List.map_nil]); first | done | rfl | (simp only [List.length_drop, List.length_take]; rfl)) ?_; (with_reducible refine (laws_eqPairS.calls k _ _ t280 _ _ t287 false _ ?side1 ?side2 ?side3 ?side4 A18.out).mono ?_); (case side1 => repeat (first | exact (Kd.R_reads' HO282.out).2.2 | (with_reducible refine Kd.C_alloc ?_ _) | (with_reducible refine Kd.C_drewN ?_ _) | (with_reducible refine Kd.C_drew ?_))); (case side2 => exact (Kd.R_reads' HO282.out).2.1); (case side3 => repeat (first | exact (Kd.R_reads' HO289.out).2.2 | (with_reducible refine Kd.C_alloc ?_ _) | (with_reducible refine Kd.C_drewN ?_ _) | (with_reducible refine Kd.C_drew ?_))); (case side4 => exact (Kd.R_reads' HO289.out).2.1); rintro e w73 ⟨rfl, hb⟩; refine ⟨_, rfl, ?_⟩; have n0_ := Aside0.mk (Kd.R_below (by (with_reducible repeat (first | apply Kd.R_alloc | apply Kd.R_drewN | apply Kd.R_drew)); exact HO275.out) hb); have n1_ := Aside0.mk (Kd.S_below (by (with_reducible repeat (first | apply Kd.S_alloc | apply Kd.S_drewN | apply Kd.S_drew)); exact HO278.out) hb); have n2_ := Aside0.mk (Kd.R_below (by (with_reducible repeat (first | apply Kd.R_alloc | apply Kd.R_drewN | apply Kd.R_drew)); exact HO282.out) hb); have n3_ := Aside0.mk (Kd.S_below (by (with_reducible repeat (first | apply Kd.S_alloc | apply Kd.S_drewN | apply Kd.S_drew)); exact HO285.out) hb); have n4_ := Aside0.mk (Kd.R_below (by (with_reducible repeat (first | apply Kd.R_alloc | apply Kd.R_drewN | apply Kd.R_drew)); exact HO289.out) hb); have n5_ := Aside0.mk (below_step (by repeat (first | (with_reducible first | exact HB.out | apply below_alloc | apply pw_below_drewN | apply below_drew1) | exact HB.out)) hb); clear HO275; clear HO278; clear HO282; clear HO285; clear HO289; clear HB; have HO275 := n0_; have HO278 := n1_; have HO282 := n2_; have HO285 := n3_; have HO289 := n4_; have HB := n5_; clear n0_ n1_ n2_ n3_ n4_ n5_; (try clear hb); (try clear hb2); (try clear hk); (try clear hi)))
     go_ret
     exact ⟨by first | rfl | (simp [errW_none, errW_some] <;> rfl) | (simp [*, errW_none, errW_some] <;> rfl), by repeat (first | (with_reducible first | exact HB.out | apply below_alloc | apply pw_below_drewN | apply below_drew1) | exact HB.out)⟩
   ·rw [if_neg c16] at H
    have c16b0 : (t286 == t279) = false := beq_eq_false_iff_ne.mpr c16
    have c16b1 : (t286 != t279) = true := bne_iff_ne.mpr c16
    obtain rfl := Option.some.inj H
    go_enter Try.func3, Try.ntmps3
    go_wp2_with (first | ((with_reducible refine gate_callee (f := 10) rfl ?_); refine goesL_ (some 12) rfl rfl Try.func10 (by kernel_rfl) rfl #[.slice A0 l0.length c0, .int .i64 1048576] rfl (by (try simp only [List.map_toArray, List.map_cons, List.map_nil]); first | done | rfl | (simp only [List.length_drop, List.length_take]; rfl)) ?_; (with_reducible refine (laws_szPairS.calls k _ _ l0 1048576 t271 _ ?side1 ?side2 A3.out).mono ?_); (case side1 => repeat (first | exact HR0.out | (with_reducible refine Kd.C_alloc ?_ _) | (with_reducible refine Kd.C_drewN ?_ _) | (with_reducible refine Kd.C_drew ?_))); (case side2 => exact HC0.out); rintro e w74 ⟨rfl, hb⟩; refine ⟨_, rfl, ?_⟩; have n0_ := Aside0.mk (below_step (by repeat (first | (with_reducible first | exact HB.out | apply below_alloc | apply pw_below_drewN | apply below_drew1) | exact HB.out)) hb); clear HB; have HB := n0_; clear n0_; (try clear hb); (try clear hb2); (try clear hk); (try clear hi)) | ((with_reducible refine gate_callee (f := 11) rfl ?_); refine goesL_ (some 17) rfl rfl Try.func11 (by kernel_rfl) rfl #[.slice A1 l1.length c1, .int .i64 t271] rfl (by (try simp only [List.map_toArray, List.map_cons, List.map_nil]); first | done | rfl | (simp only [List.length_drop, List.length_take]; rfl)) ?_; (with_reducible refine (laws_szRecordSS.calls k _ _ l1 t271 t272 _ ?side1 ?side2 A6.out).mono ?_); (case side1 => repeat (first | exact (Kd.C_below HR1.out HB.out) | (with_reducible refine Kd.C_alloc ?_ _) | (with_reducible refine Kd.C_drewN ?_ _) | (with_reducible refine Kd.C_drew ?_))); (case side2 => exact HC1.out); rintro e w75 ⟨rfl, hb⟩; refine ⟨_, rfl, ?_⟩; have n0_ := Aside0.mk (below_step (by repeat (first | (with_reducible first | exact HB.out | apply below_alloc | apply pw_below_drewN | apply below_drew1) | exact HB.out)) hb); clear HB; have HB := n0_; clear n0_; (try clear hb); (try clear hb2); (try clear hk); (try clear hi)) | ((with_reducible refine gate_callee (f := 13) rfl ?_); refine goesL_ (some 21) rfl rfl Try.func13 (by kernel_rfl) rfl #[.slice A0 l0.length c0] rfl (by (try simp only [List.map_toArray, List.map_cons, List.map_nil]); first | done | rfl | (simp only [List.length_drop, List.length_take]; rfl)) ?_; (with_reducible refine (laws_toPairS.calls k _ _ l0 t273 _ ?side1 ?side2 A10.out).mono ?_); (case side1 => repeat (first | exact (Kd.C_below HR0.out HB.out) | (with_reducible refine Kd.C_alloc ?_ _) | (with_reducible refine Kd.C_drewN ?_ _) | (with_reducible refine Kd.C_drew ?_))); (case side2 => exact HC0.out); rintro e w76 ⟨v274, rfl, ho0, hb⟩; refine ⟨_, rfl, ?_⟩; have n0_ := Aside0.mk (Kd.R_lower ho0 (below_size (by repeat (first | (with_reducible first | exact HB.out | apply below_alloc | apply pw_below_drewN | apply below_drew1) | exact HB.out)))); have n1_ := Aside0.mk (below_step (by repeat (first | (with_reducible first | exact HB.out | apply below_alloc | apply pw_below_drewN | apply below_drew1) | exact HB.out)) hb); clear HB; have HO275 := n0_; have HB := n1_; clear n0_ n1_; (try clear hb); (try clear hb2); (try clear hk); (try clear hi); (try clear ho0)) | ((with_reducible refine gate_callee (f := 14) rfl ?_); refine goesL_ (some 23) rfl rfl Try.func14 (by kernel_rfl) rfl #[.slice A1 l1.length c1] rfl (by (try simp only [List.map_toArray, List.map_cons, List.map_nil]); first | done | rfl | (simp only [List.length_drop, List.length_take]; rfl)) ?_; (with_reducible refine (laws_toRecordSS.calls k _ _ l1 t276 _ ?side1 ?side2 A11.out).mono ?_); (case side1 => repeat (first | exact (Kd.C_below HR1.out HB.out) | (with_reducible refine Kd.C_alloc ?_ _) | (with_reducible refine Kd.C_drewN ?_ _) | (with_reducible refine Kd.C_drew ?_))); (case side2 => exact HC1.out); rintro e w77 ⟨v277, rfl, ho0, hb⟩; refine ⟨_, rfl, ?_⟩; have n0_ := Aside0.mk (Kd.R_below (by (with_reducible repeat (first | apply Kd.R_alloc | apply Kd.R_drewN | apply Kd.R_drew)); exact HO275.out) hb); have n1_ := Aside0.mk (Kd.S_lower ho0 (below_size (by repeat (first | (with_reducible first | exact HB.out | apply below_alloc | apply pw_below_drewN | apply below_drew1) | exact HB.out)))); have n2_ := Aside0.mk (below_step (by repeat (first | (with_reducible first | exact HB.out | apply below_alloc | apply pw_below_drewN | apply below_drew1) | exact HB.out)) hb); clear HO275; clear HB; have HO275 := n0_; have HO278 := n1_; have HB := n2_; clear n0_ n1_ n2_; (try clear hb); (try clear hb2); (try clear hk); (try clear hi); (try clear ho0); obtain ⟨Ao78, co78, eo78⟩ := Kd.R_slice HO275.out; subst eo78; obtain ⟨Ao79, co79, eo79⟩ := Kd.S_slice HO278.out; subst eo79) | ((with_reducible refine gate_callee (f := 12) rfl ?_); refine goesL_ (some 24) rfl rfl Try.func12 (by kernel_rfl) rfl #[.slice Ao78 t273.length co78, .slice Ao79 t276.length co79] rfl (by (try simp only [List.map_toArray, List.map_cons, List.map_nil]); first | done | rfl | (simp only [List.length_drop, List.length_take]; rfl)) ?_; (with_reducible refine (spec_PrefixOf.calls k _ _ t273 _ _ t276 t279 _ ?side1 ?side2 ?side3 ?side4 A12.out).mono ?_); (case side1 => repeat (first | exact (Kd.R_reads' HO275.out).2.2 | (with_reducible refine Kd.C_alloc ?_ _) | (with_reducible refine Kd.C_drewN ?_ _) | (with_reducible refine Kd.C_drew ?_))); (case side2 => exact (Kd.R_reads' HO275.out).2.1); (case side3 => repeat (first | exact (Kd.S_reads' HO278.out).2.2 | (with_reducible refine Kd.C_alloc ?_ _) | (with_reducible refine Kd.C_drewN ?_ _) | (with_reducible refine Kd.C_drew ?_))); (case side4 => exact (Kd.S_reads' HO278.out).2.1); rintro e w80 ⟨rfl, hb⟩; refine ⟨_, rfl, ?_⟩; have n0_ := Aside0.mk (Kd.R_below (by (with_reducible repeat (first | apply Kd.R_alloc | apply Kd.R_drewN | apply Kd.R_drew)); exact HO275.out) hb); have n1_ := Aside0.mk (Kd.S_below (by (with_reducible repeat (first | apply Kd.S_alloc | apply Kd.S_drewN | apply Kd.S_drew)); exact HO278.out) hb); have n2_ := Aside0.mk (below_step (by repeat (first | (with_reducible first | exact HB.out | apply below_alloc | apply pw_below_drewN | apply below_drew1) | exact HB.out)) hb); clear HO275; clear HO278; clear HB; have HO275 := n0_; have HO278 := n1_; have HB := n2_; clear n0_ n1_ n2_; (try clear hb); (try clear hb2); (try clear hk); (try clear hi)) | ((with_reducible refine gate_callee (f := 13) rfl ?_); refine goesL_ (some 26) rfl rfl Try.func13 (by kernel_rfl) rfl #[.slice A0 l0.length c0] rfl (by (try simp only [List.map_toArray, List.map_cons, List.map_nil]); first | done | rfl | (simp only [List.length_drop, List.length_take]; rfl)) ?_; (with_reducible refine (laws_toPairS.calls k _ _ l0 t280 _ ?side1 ?side2 A13.out).mono ?_); (case side1 => repeat (first | exact (Kd.C_below HR0.out HB.out) | (with_reducible refine Kd.C_alloc ?_ _) | (with_reducible refine Kd.C_drewN ?_ _) | (with_reducible refine Kd.C_drew ?_))); (case side2 => exact HC0.out); rintro e w81 ⟨v281, rfl, ho0, hb⟩; refine ⟨_, rfl, ?_⟩; have n0_ := Aside0.mk (Kd.R_elder' (by (with_reducible repeat (first | apply Kd.R_alloc | apply Kd.R_drewN | apply Kd.R_drew)); exact HO275.out) (Kd.R_base ho0) hb); have n1_ := Aside0.mk (Kd.S_below (by (with_reducible repeat (first | apply Kd.S_alloc | apply Kd.S_drewN | apply Kd.S_drew)); exact HO278.out) hb); have n2_ := Aside0.mk (Kd.R_lower (Kd.R_new' ho0 (Kd.R_lt (by (with_reducible repeat (first | apply Kd.R_alloc | apply Kd.R_drewN | apply Kd.R_drew)); exact HO275.out))) (below_size (by repeat (first | (with_reducible first | exact HB.out | apply below_alloc | apply pw_below_drewN | apply below_drew1) | exact HB.out)))); have n3_ := Aside0.mk (below_step (by repeat (first | (with_reducible first | exact HB.out | apply below_alloc | apply pw_below_drewN | apply below_drew1) | exact HB.out)) hb); clear HO275; clear HO278; clear HB; have HO275 := n0_; have HO278 := n1_; have HO282 := n2_; have HB := n3_; clear n0_ n1_ n2_ n3_; (try clear hb); (try clear hb2); (try clear hk); (try clear hi); (try clear ho0)) | ((with_reducible refine gate_callee (f := 14) rfl ?_); refine goesL_ (some 28) rfl rfl Try.func14 (by kernel_rfl) rfl #[.slice A1 l1.length c1] rfl (by (try simp only [List.map_toArray, List.map_cons, List.map_nil]); first | done | rfl | (simp only [List.length_drop, List.length_take]; rfl)) ?_; (with_reducible refine (laws_toRecordSS.calls k _ _ l1 t283 _ ?side1 ?side2 A14.out).mono ?_); (case side1 => repeat (first | exact (Kd.C_below HR1.out HB.out) | (with_reducible refine Kd.C_alloc ?_ _) | (with_reducible refine Kd.C_drewN ?_ _) | (with_reducible refine Kd.C_drew ?_))); (case side2 => exact HC1.out); rintro e w82 ⟨v284, rfl, ho0, hb⟩; refine ⟨_, rfl, ?_⟩; have n0_ := Aside0.mk (Kd.R_below (by (with_reducible repeat (first | apply Kd.R_alloc | apply Kd.R_drewN | apply Kd.R_drew)); exact HO275.out) hb); have n1_ := Aside0.mk (Kd.S_elder' (by (with_reducible repeat (first | apply Kd.S_alloc | apply Kd.S_drewN | apply Kd.S_drew)); exact HO278.out) (Kd.S_base ho0) hb); have n2_ := Aside0.mk (Kd.R_below (by (with_reducible repeat (first | apply Kd.R_alloc | apply Kd.R_drewN | apply Kd.R_drew)); exact HO282.out) hb); have n3_ := Aside0.mk (Kd.S_lower (Kd.S_new' ho0 (Kd.S_lt (by (with_reducible repeat (first | apply Kd.S_alloc | apply Kd.S_drewN | apply Kd.S_drew)); exact HO278.out))) (below_size (by repeat (first | (with_reducible first | exact HB.out | apply below_alloc | apply pw_below_drewN | apply below_drew1) | exact HB.out)))); have n4_ := Aside0.mk (below_step (by repeat (first | (with_reducible first | exact HB.out | apply below_alloc | apply pw_below_drewN | apply below_drew1) | exact HB.out)) hb); clear HO275; clear HO278; clear HO282; clear HB; have HO275 := n0_; have HO278 := n1_; have HO282 := n2_; have HO285 := n3_; have HB := n4_; clear n0_ n1_ n2_ n3_ n4_; (try clear hb); (try clear hb2); (try clear hk); (try clear hi); (try clear ho0); obtain ⟨Ao83, co83, eo83⟩ := Kd.R_slice HO282.out; subst eo83; obtain ⟨Ao84, co84, eo84⟩ := Kd.S_slice HO285.out; subst eo84) | ((with_reducible refine gate_callee (f := 15) rfl ?_); refine goesL_ (some 31) rfl rfl Try.func15 (by kernel_rfl) rfl #[.slice Ao83 t280.length co83, .slice Ao84 t283.length co84] rfl (by (try simp only [List.map_toArray, List.map_cons, List.map_nil]); first | done | rfl | (simp only [List.length_drop, List.length_take]; rfl)) ?_; (with_reducible refine (impl_PrefixOf.calls k _ _ t280 _ _ t283 t286 _ ?side1 ?side2 ?side3 ?side4 A15.out).mono ?_); (case side1 => repeat (first | exact (Kd.R_reads' HO282.out).2.2 | (with_reducible refine Kd.C_alloc ?_ _) | (with_reducible refine Kd.C_drewN ?_ _) | (with_reducible refine Kd.C_drew ?_))); (case side2 => exact (Kd.R_reads' HO282.out).2.1); (case side3 => repeat (first | exact (Kd.S_reads' HO285.out).2.2 | (with_reducible refine Kd.C_alloc ?_ _) | (with_reducible refine Kd.C_drewN ?_ _) | (with_reducible refine Kd.C_drew ?_))); (case side4 => exact (Kd.S_reads' HO285.out).2.1); rintro e w85 ⟨rfl, hb⟩; refine ⟨_, rfl, ?_⟩; have n0_ := Aside0.mk (Kd.R_below (by (with_reducible repeat (first | apply Kd.R_alloc | apply Kd.R_drewN | apply Kd.R_drew)); exact HO275.out) hb); have n1_ := Aside0.mk (Kd.S_below (by (with_reducible repeat (first | apply Kd.S_alloc | apply Kd.S_drewN | apply Kd.S_drew)); exact HO278.out) hb); have n2_ := Aside0.mk (Kd.R_below (by (with_reducible repeat (first | apply Kd.R_alloc | apply Kd.R_drewN | apply Kd.R_drew)); exact HO282.out) hb); have n3_ := Aside0.mk (Kd.S_below (by (with_reducible repeat (first | apply Kd.S_alloc | apply Kd.S_drewN | apply Kd.S_drew)); exact HO285.out) hb); have n4_ := Aside0.mk (below_step (by repeat (first | (with_reducible first | exact HB.out | apply below_alloc | apply pw_below_drewN | apply below_drew1) | exact HB.out)) hb); clear HO275; clear HO278; clear HO282; clear HO285; clear HB; have HO275 := n0_; have HO278 := n1_; have HO282 := n2_; have HO285 := n3_; have HB := n4_; clear n0_ n1_ n2_ n3_ n4_; (try clear hb); (try clear hb2); (try clear hk); (try clear hi)))
    go_ret
    exact ⟨by first | rfl | (simp [errW_none, errW_some] <;> rfl) | (simp [*, errW_none, errW_some] <;> rfl), by repeat (first | (with_reducible first | exact HB.out | apply below_alloc | apply pw_below_drewN | apply below_drew1) | exact HB.out)⟩
end Go.Proofs.Ytjamafchmeiifaa.F
/- Arguments of struct and nested slice types, laid open: what a call's datum reads is what the print's kinds read. -/
namespace Go.Proofs.YtjamafchmeiifaaXR
open Go.ChangeShapes Go.WideShapes Go.ChangeAt Go.RowKit Go.Proofs.YtjamafchmeiifaaW.PrintWords Go.Proofs.YtjamafchmeiifaaW.PrintLast Go.Proofs.YtjamafchmeiifaaW.PrintMore
set_option linter.unusedVariables false
set_option linter.unusedSimpArgs false
section
variable {H : Type} (enc : TypeId × Value → H) (P : Program) (w : World) (base : Nat) (sp : Nat → Bool) (held : Bool)
structure Opens {α : Type} (d : Kd α) (t : TypeId) (G : α → Prop) : Prop where
 sz : P.cellsOf t = d.sz
 get : ∀ {fuel : Nat} {cs : List Value} {x : DataW H × List MemPlace}, DataW.trod enc P w base sp held fuel t cs = some x → ∃ y, d.K w y cs ∧ G y
structure OpensFs {β : Type} (fs : List Field) (d : Kd β) (o : Nat) (G : β → Prop) : Prop where
 get : ∀ {n : Nat} {cs : List Value}, cs.length = o + d.sz → (∀ f ∈ fs, ∃ y, DataW.trod enc P w base sp held n f.type ((cs.drop f.offset).take (P.cellsOf f.type)) = some y) → ∃ y, d.K w y (cs.drop o) ∧ G y
variable {enc P w base sp held}
theorem opens_string {t : TypeId} (ht : P.underlying t = some .string) (hc : P.cellsOf t = 1) : Opens enc P w base sp held Kd.string t (fun s => s.size ≤ maxLen) where
 sz := hc
 get := by
  intro fuel cs x h
  obtain ⟨s, rfl, _, hs⟩ := DataW.trod_string ht h
  exact ⟨s, rfl, hs⟩
theorem opens_int {t : TypeId} {k : IntKind} (ht : P.underlying t = some (.int k)) (hc : P.cellsOf t = 1) : Opens enc P w base sp held (Kd.int k) t (fun n => (Lit.int k n).wf = true) where
 sz := hc
 get := by
  intro fuel cs x h
  obtain ⟨s, rfl, _, hs⟩ := DataW.trod_int ht h
  exact ⟨s, rfl, hs⟩
variable {α β γ : Type} {d : Kd α} {d1 : Kd β} {d2 : Kd γ} {t e : TypeId} {f : Field} {fs : List Field} {o : Nat} {G : α → Prop} {G1 : β → Prop} {G2 : γ → Prop}
theorem OpensFs.one (ho : f.offset = o) (h : Opens enc P w base sp held d f.type G) : OpensFs enc P w base sp held [f] d o G where
 get := by
  intro n cs hl hy
  obtain ⟨y, hy⟩ := hy f (List.mem_singleton.2 rfl)
  obtain ⟨z, hz, hg⟩ := h.get hy
  rw [ho, h.sz, List.take_of_length_le (by rw [List.length_drop]; omega)] at hz
  exact ⟨z, hz, hg⟩
theorem OpensFs.cons (ho : f.offset = o) (h : Opens enc P w base sp held d1 f.type G1) (h2 : OpensFs enc P w base sp held fs d2 (o + d1.sz) G2) : OpensFs enc P w base sp held (f :: fs) (Kd.pair d1 d2) o (fun y => G1 y.1 ∧ G2 y.2) where
 get := by
  intro n cs hl hy
  have hl' : cs.length = o + d1.sz + d2.sz := by rw [hl]; show o + (d1.sz + d2.sz) = _; omega
  obtain ⟨y, hy0⟩ := hy f List.mem_cons_self
  obtain ⟨z, hz, hg⟩ := h.get hy0
  obtain ⟨z2, hz2, hg2⟩ := h2.get (n := n) hl' (fun f' hf => hy f' (List.mem_cons_of_mem _ hf))
  rw [ho, h.sz] at hz
  refine ⟨(z, z2), ⟨_, _, ?_, hz, hz2⟩, hg, hg2⟩
  rw [← List.drop_drop, List.take_append_drop]
theorem Opens.struct {fa : Array Field} (ht : P.underlying t = some (.struct fa)) (hf : fa.toList = fs) (hsz : P.cellsOf t = d.sz) (h : OpensFs enc P w base sp held fs d 0 G) (g : β → α) (g' : α → β) (hg : ∀ y, g (g' y) = y) : Opens enc P w base sp held (Kd.iso d g) t (fun x => G (g x)) where
 sz := hsz
 get := by
  intro fuel cs x hx
  obtain ⟨xs, n, _, _, hl, hn, hfs⟩ := DataW.trod_struct ht hx
  obtain ⟨y, hy, hG⟩ := h.get (n := n) (cs := cs) (by rw [hl, hsz]; omega) (fun f hf' => by
   rw [← hf] at hf'
   obtain ⟨i, hi, e⟩ := List.getElem_of_mem hf'
   have hi' : i < fa.size := by simpa using hi
   have := hfs i f (by rw [← e]; simp [hi'])
   rw [List.getElem?_eq_getElem (by omega)] at this
   exact ⟨_, this⟩)
  exact ⟨g' y, by show d.K w (g (g' y)) cs; rw [hg]; exact hy, by rw [hg]; exact hG⟩
theorem cells_at {a : Addr} {n : Nat} {cs : List Value} (h : w.cells? base a n = some cs) : cs.length = n ∧ ∀ i u, cs[i]? = some u → w.cell? (a.add i) = some u := by
 unfold World.cells? at h
 split at h
 ·refine ⟨by simpa using mapM_some_length h, fun i u hu => ?_⟩
  have hl : i < n := by
   have h1 := (List.getElem?_eq_some_iff.1 hu).1
   have h2 : cs.length = n := by simpa using mapM_some_length h
   omega
  rw [mapM_some_get h i i (by simp [hl]), hu]
 ·cases h
theorem add_add (a : Addr) (i j : Nat) : (a.add i).add j = a.add (i + j) := by
 unfold Addr.add
 by_cases hi : i = 0
 ·subst hi; simp
 ·by_cases hj : j = 0
  ·subst hj; simp [hi]
  ·have : i + j ≠ 0 := by omega
   simp [hi, hj, this, Nat.add_assoc]
theorem Opens.slice (ht : P.underlying t = some (.slice e)) (hc : P.cellsOf t = 1) (h : Opens enc P w base sp held d e G) : Opens enc P w base sp held (Kd.slice e d) t (fun xs => xs.length ≤ maxLen ∧ ∀ x ∈ xs, G x) where
 sz := hc
 get := by
  intro fuel cs x hx
  rcases DataW.trod_slice ht hx with ⟨rfl, _⟩ | ⟨a, len, cap, elems, rest, n, _, rfl, _, hb, hl, hcm, hlen, hel, _⟩
  ·exact ⟨[], ⟨none, 0, rfl, Nat.le_refl _, rfl, by simp, fun h => absurd h (Nat.lt_irrefl _)⟩, by simp, by simp⟩
  ·have hget : ∀ i, i < len → ∃ y c, c.length = d.sz ∧ d.K w y c ∧ G y ∧ ∀ j u, c[j]? = some u → w.cell? (a.add (i * d.sz + j)) = some u := by
    intro i hi
    have h1 := hel i hi
    rw [List.getElem?_eq_getElem (by omega)] at h1
    obtain ⟨c, hc1, hc2⟩ := Option.bind_eq_some_iff.1 h1
    obtain ⟨y, hy, hg⟩ := h.get hc2
    rw [h.sz] at hc1
    obtain ⟨h3, h4⟩ := cells_at hc1
    exact ⟨y, c, h3, hy, hg, fun j u hu => by rw [← add_add]; exact h4 j u hu⟩
   have hall : ∀ m, m ≤ len → ∃ ys : List α, ys.length = m ∧ (∀ y ∈ ys, G y) ∧ ∀ j p, ys[j]? = some p → ∃ c, c.length = d.sz ∧ d.K w p c ∧ ∀ i u, c[i]? = some u → w.cell? (a.add (j * d.sz + i)) = some u := by
    intro m
    induction m with
    | zero => exact fun _ => ⟨[], rfl, by simp, by simp⟩
    | succ m ih =>
     intro hm
     obtain ⟨ys, h1, h2, h3⟩ := ih (by omega)
     obtain ⟨y, c, k1, k2, k3, k4⟩ := hget m (by omega)
     refine ⟨ys ++ [y], by simp [h1], fun z hz => ?_, fun j p hj => ?_⟩
     ·rcases List.mem_append.1 hz with hz | hz
      ·exact h2 z hz
      ·rw [List.mem_singleton.1 hz]; exact k3
     ·by_cases hjm : j < m
      ·rw [List.getElem?_append_left (by omega)] at hj
       exact h3 j p hj
      ·rw [List.getElem?_append_right (by omega)] at hj
       have e1 : j - ys.length = 0 := by
        have := (List.getElem?_eq_some_iff.1 hj).1
        simp at this
        omega
       rw [e1] at hj
       obtain rfl : y = p := by simpa using hj
       obtain rfl : j = m := by omega
       exact ⟨c, k1, k2, k4⟩
   obtain ⟨ys, h1, h2, h3⟩ := hall len (Nat.le_refl _)
   subst h1
   refine ⟨ys, ⟨some a, cap, rfl, hl, rfl, ?_, fun _ => ⟨a, rfl, h3⟩⟩, by omega, h2⟩
   have := hcm
   simp only [maxLen] at this
   omega
theorem open_slice_arg {r : Reach} {b0 : Nat} {v : Value} {dd : DataW H} {ps : List MemPlace} (ht : P.underlying t = some (.slice e)) (hc : P.cellsOf t = 1) (hval : Value.okWide P w r b0 t v) (h : Opens enc P w base sp held d e G) (hd : DataW.Trod enc P w base sp held t v dd ps) :
  ∃ A c xs, v = .slice A xs.length c ∧ xs.length ≤ c ∧ Kd.C d w A xs.length xs ∧ xs.length ≤ maxLen ∧ ∀ x ∈ xs, G x := by
 obtain ⟨a, len, cap, rfl⟩ := okWide_slice ht hval
 obtain ⟨fuel, hf⟩ := hd
 obtain ⟨xs, ⟨A, c, e1, h1, h2⟩, h3, h4⟩ := (Opens.slice ht hc h).get hf
 have e2 : ([Value.slice a len cap] : List Value) = [.slice A xs.length c] := by simpa [Value.cells] using e1
 injection e2 with e3 _
 injection e3 with e4 e5 e6
 subst e4 e5 e6
 exact ⟨_, _, xs, rfl, h1, h2, h3, h4⟩
end
end Go.Proofs.YtjamafchmeiifaaXR
/- The parameters of the statement FnExactPrefixOf, laid open: what their data are as lists and structures. -/
namespace Go.Proofs.Ytjamafchmeiifaa.OFnExactPrefixOf
open Go.ChangeShapes Go.WideShapes Go.ChangeAt Go.RowKit Go.Proofs.Ytjamafchmeiifaa.F Go.Proofs.YtjamafchmeiifaaW.PrintWords Go.Proofs.YtjamafchmeiifaaW.PrintLast Go.Proofs.YtjamafchmeiifaaW.PrintMore Go.Proofs.YtjamafchmeiifaaXR
set_option linter.unusedVariables false
set_option linter.unusedSimpArgs false
/-- What is known of a datum of the type. -/
def g79 (x : S79) : Prop := x.f0.size ≤ maxLen ∧ x.f1.size ≤ maxLen
theorem op79 {H : Type} {enc : TypeId × Value → H} {w : World} {base : Nat} {sp : Nat → Bool} {held : Bool} : Opens enc Try.prog w base sp held k79 79 g79 :=
 Opens.struct Try.underlying79 rfl (by kernel_rfl) (OpensFs.cons rfl (opens_string Try.underlying9 (by kernel_rfl)) (OpensFs.one rfl (opens_string Try.underlying9 (by kernel_rfl)))) (fun x : S79 => (x.f0, x.f1)) (fun y => ⟨y.1, y.2⟩) (fun _ => rfl)
/-- What is known of a datum of the type. -/
def g120 (x : S120) : Prop := x.f0.size ≤ maxLen ∧ (Lit.int .i64 x.f1).wf = true ∧ (Lit.int .i64 x.f2).wf = true ∧ x.f3.size ≤ maxLen ∧ x.f4.size ≤ maxLen
theorem op120 {H : Type} {enc : TypeId × Value → H} {w : World} {base : Nat} {sp : Nat → Bool} {held : Bool} : Opens enc Try.prog w base sp held k120 120 g120 :=
 Opens.struct Try.underlying120 rfl (by kernel_rfl) (OpensFs.cons rfl (opens_string Try.underlying9 (by kernel_rfl)) (OpensFs.cons rfl (opens_int Try.underlying2 (by kernel_rfl)) (OpensFs.cons rfl (opens_int Try.underlying2 (by kernel_rfl)) (OpensFs.cons rfl (opens_string Try.underlying9 (by kernel_rfl)) (OpensFs.one rfl (opens_string Try.underlying9 (by kernel_rfl))))))) (fun x : S120 => (x.f0, x.f1, x.f2, x.f3, x.f4)) (fun y => ⟨y.1, y.2.1, y.2.2.1, y.2.2.2.1, y.2.2.2.2⟩) (fun _ => rfl)
/-- What the proof of the statement owes: plain data, no program in sight. -/
def Gs (a0 : (List S79)) (a1 : (List (List S120))) : Prop := (a0.length ≤ maxLen ∧ ∀ y0 ∈ a0, g79 y0) ∧ (a1.length ≤ maxLen ∧ ∀ y0 ∈ a1, (y0.length ≤ maxLen ∧ ∀ y1 ∈ y0, g120 y1))
end Go.Proofs.Ytjamafchmeiifaa.OFnExactPrefixOf
/- Small words for the plain laws: wrapping, bytes, lists read by index. -/
namespace Go.Proofs.Ytjamafchmeiifaa.V
open Go.RowKit Go.Proofs.Ytjamafchmeiifaa.F Go.Proofs.YtjamafchmeiifaaW.PrintWords Go.Proofs.YtjamafchmeiifaaW.PrintLast Go.Proofs.YtjamafchmeiifaaW.PrintMore
set_option linter.unusedVariables false
set_option linter.unusedSimpArgs false
theorem wid {x : Int} (h : -9223372036854775808 ≤ x) (h' : x ≤ 9223372036854775807) : wrap64 x = x := by
 unfold wrap64
 omega
theorem wsucc {i n : Nat} (h : i < n) (hn : n ≤ maxLen) : wrap64 ((i : Int) + 1) = ((i + 1 : Nat) : Int) := by
 have : maxLen = 9223372036854775807 := rfl
 rw [wid (by omega) (by omega)]
 omega
theorem Ev.const {α : Type} {r : α} {g : Option α} (h : g = some r) : Ev (fun _ => g) r := ⟨0, fun _ _ => h⟩
theorem Ev.ite_pos {α : Type} {c : Prop} [Decidable c] {g f : Nat → Option α} {r : α} (hc : c) (h : Ev g r) : Ev (fun k => if c then g k else f k) r := by
 simp only [if_pos hc]; exact h
theorem Ev.ite_neg {α : Type} {c : Prop} [Decidable c] {g f : Nat → Option α} {r : α} (hc : ¬ c) (h : Ev f r) : Ev (fun k => if c then g k else f k) r := by
 simp only [if_neg hc]; exact h
theorem getD_drop {α : Type} {l : List α} {i : Nat} {z : α} (h : i < l.length) : l.drop i = l.getD i z :: l.drop (i + 1) := by
 rw [List.drop_eq_getElem_cons h]
 simp [List.getD_eq_getElem?_getD, h]
theorem getD_mem {α : Type} {l : List α} {i : Nat} {z : α} (h : i < l.length) : l.getD i z ∈ l := by
 simp [List.getD_eq_getElem?_getD, h]
theorem set_step {α β : Type} {l : List α} {c : α → β} {acc : List β} {i : Nat} {z : α} (h : i < l.length) (hl : acc.length = l.length) (ha : acc.take i = (l.take i).map c) : (acc.set i (c (l.getD i z))).take (i + 1) = (l.take (i + 1)).map c := by
 rw [List.take_succ_eq_append_getElem (by rw [List.length_set]; omega), List.take_set_of_le (Nat.le_refl i), ha, List.take_succ_eq_append_getElem h, List.map_append]
 simp [List.getD_eq_getElem?_getD, h]
end Go.Proofs.Ytjamafchmeiifaa.V
/- The plain law on applying records: the program's way and the reference's way give the same states. -/
namespace Go.Proofs.Ytjamafchmeiifaa.V
open Go.RowKit Go.Proofs.Ytjamafchmeiifaa.F Go.Proofs.YtjamafchmeiifaaW.PrintWords Go.Proofs.YtjamafchmeiifaaW.PrintLast Go.Proofs.YtjamafchmeiifaaW.PrintMore Go.Proofs.YtjamafchmeiifaaX
set_option linter.unusedVariables false
set_option linter.unusedSimpArgs false
def keyB (a : ByteArray) : Bool := decide (1 ≤ (a.size : Int)) && decide ((a.size : Int) ≤ 8)
theorem key_spec (a : ByteArray) : spec_l17Key.f a = some (keyB a) := by
 unfold spec_l17Key.f keyB
 by_cases h : (a.size : Int) ≥ 1
 ·rw [if_pos h, decide_eq_true (show 1 ≤ (a.size : Int) from h), Bool.true_and]
 ·rw [if_neg h, decide_eq_false (show ¬ 1 ≤ (a.size : Int) from h), Bool.false_and]
theorem key_impl (a : ByteArray) : impl_ValidKey.f a = some (keyB a) := by
 unfold impl_ValidKey.f impl_within.f keyB
 by_cases h : (a.size : Int) ≥ 1
 ·rw [if_pos h, decide_eq_true (show 1 ≤ (a.size : Int) from h), Bool.true_and]; rfl
 ·rw [if_neg h, decide_eq_false (show ¬ 1 ≤ (a.size : Int) from h), Bool.false_and]; rfl
/-- What a valid list of pairs is, at an index. -/
def okAt (l : List S47) (i : Nat) : Bool := keyB (l.getD i z47).f0 && (decide (((l.getD i z47).f1.size : Int) ≤ 16) && (decide (i = 0) || Op.bytesLess (l.getD (i - 1) z47).f0.toList (l.getD i z47).f0.toList))
def okG (l : List S47) : Nat → Nat → Bool
 | 0, _ => true
 | d + 1, i => okAt l i && okG l d (i + 1)
def okP (l : List S47) : Bool := okG l l.length 0
theorem ok_spec (l : List S47) (hl : l.length ≤ maxLen) : ∀ (d i : Nat), i + d = l.length → Ev (fun k => spec_l24State.l0 k l (i : Int)) (okG l d i)
 | 0, i, hd => Ev.step (f := fun _ => some true) (fun k => by simp only [spec_l24State.l0]; rw [if_neg (by omega)]) (Ev.now _)
 | d + 1, i, hd => by
  have hi : i < l.length := by omega
  have hm : maxLen = 9223372036854775807 := rfl
  have ih := ok_spec l hl d (i + 1) (by omega)
  have hrd : rd_T47 l (i : Int) = l.getD i z47 := by simp only [rd_T47, Int.toNat_natCast]
  have step : ∀ k, spec_l24State.l0 (k + 1) l (i : Int) = if okAt l i = true then spec_l24State.l0 k l ((i + 1 : Nat) : Int) else some false := by
   intro k
   simp only [spec_l24State.l0]
   rw [if_pos (by omega), if_pos (by omega), hrd, key_spec, Option.bind_some, wsucc hi hl]
   unfold okAt
   cases hk : keyB (l.getD i z47).f0 with
   | false => simp
   | true =>
    rw [if_pos rfl, Bool.true_and]
    by_cases h16 : ((l.getD i z47).f1.size : Int) ≤ 16
    ·rw [if_neg (by omega), decide_eq_true h16, Bool.true_and]
     by_cases h0 : i = 0
     ·rw [if_neg (by omega), decide_eq_true h0, Bool.true_or, if_pos rfl]
     ·have hw : wrap64 ((i : Int) - 1) = ((i - 1 : Nat) : Int) := by rw [wid (by omega) (by omega)]; omega
      have hrd1 : rd_T47 l ((i - 1 : Nat) : Int) = l.getD (i - 1) z47 := by simp only [rd_T47, Int.toNat_natCast]
      rw [if_pos (by omega), hw, if_pos (by omega), if_pos (by omega), hrd1, decide_eq_false h0, Bool.false_or]
    ·rw [if_pos (by omega), decide_eq_false h16, Bool.false_and, if_neg (by simp)]
  unfold okG
  cases ho : okAt l i with
  | true =>
   rw [Bool.true_and]
   exact Ev.step (fun k => by rw [step, if_pos ho]) ih
  | false =>
   rw [Bool.false_and]
   exact Ev.step (f := fun _ => some false) (fun k => by rw [step, ho, if_neg (by simp)]) (Ev.now _)
theorem ok_impl (l : List S47) : ∀ (k : Nat) (i : Int), impl_pairsOk.l0 k l l (l.length : Int) i = spec_l24State.l0 k l i
 | 0, i => rfl
 | k + 1, i => by
  have ih := ok_impl l k
  simp only [impl_pairsOk.l0, spec_l24State.l0, key_impl, key_spec, ih]
  by_cases h : i < (l.length : Int)
  ·simp only [if_pos h]
  ·simp only [if_neg h]
theorem okP_spec (l : List S47) (hl : l.length ≤ maxLen) : Ev (fun k => spec_l24State.f k l) (okP l) := by
 unfold spec_l24State.f okP
 exact ok_spec l hl l.length 0 (by omega)
theorem okP_impl (l : List S47) (hl : l.length ≤ maxLen) : Ev (fun k => impl_pairsOk.f k l) (okP l) := by
 unfold impl_pairsOk.f
 exact Ev.congr (fun k => ok_impl l k 0) (okP_spec l hl)
theorem okG_at (l : List S47) : ∀ (d i : Nat), okG l d i = true → ∀ j, i ≤ j → j < i + d → okAt l j = true
 | 0, i, _, j, h1, h2 => by omega
 | d + 1, i, h, j, h1, h2 => by
  unfold okG at h
  rw [Bool.and_eq_true] at h
  by_cases e : j = i
  ·rw [e]; exact h.1
  ·exact okG_at l d (i + 1) h.2 j (by omega) (by omega)
theorem okP_sorted (l : List S47) (h : okP l = true) : l.Pairwise lessP := by
 have hn : ∀ i, 0 < i → i < l.length → Op.bytesLess (l.getD (i - 1) z47).f0.toList (l.getD i z47).f0.toList = true := by
  intro i h0 hi
  have := okG_at l l.length 0 h i (by omega) (by omega)
  unfold okAt at this
  rw [Bool.and_eq_true, Bool.and_eq_true, Bool.or_eq_true] at this
  rcases this.2.2 with h | h
  ·exact absurd (of_decide_eq_true h) (by omega)
  ·exact h
 have hall : ∀ d i, i + d + 1 < l.length → Op.bytesLess (l.getD i z47).f0.toList (l.getD (i + d + 1) z47).f0.toList = true := by
  intro d
  induction d with
  | zero => intro i hi; simpa using hn (i + 1) (by omega) (by omega)
  | succ d ih =>
   intro i hi
   have h1 := ih i (by omega)
   have h2 := hn (i + (d + 1) + 1) (by omega) hi
   exact bytesLess_trans _ _ _ h1 (by simpa [Nat.add_assoc] using h2)
 rw [List.pairwise_iff_getElem]
 intro i j hi hj hij
 have := hall (j - i - 1) i (by omega)
 rw [show i + (j - i - 1) + 1 = j by omega] at this
 simpa [lessP, List.getD_eq_getElem?_getD, hi, hj] using this
/-- What a valid record is. -/
def recB (a0 : ByteArray) (a1 a2 : Int) (a3 a4 : ByteArray) : Bool := keyB a0 && (decide (1 ≤ a1) && decide (a1 ≤ 1000000)) && (if a2 = 1 then (decide ((a3.size : Int) ≤ 16) && (a4.toList == ([] : List UInt8))) else if a2 = 2 then (decide (a3.toList = ([] : List UInt8)) && (a4.toList == ([] : List UInt8))) else if a2 = 3 then (decide (a3.toList = ([] : List UInt8)) && (keyB a4 && Op.bytesLess a0.toList a4.toList)) else false)
theorem rec_same (k : Nat) (a0 : ByteArray) (a1 a2 : Int) (a3 a4 : ByteArray) : impl_ValidRecord.f k a0 a1 a2 a3 a4 = spec_l17Valid.f k a0 a1 a2 a3 a4 := by
 have hj : ∀ b, impl_ValidRecord.j0 k b a0 a1 a2 a3 a4 = spec_l17Valid.j0 k b a0 a1 a2 a3 a4 := by
  intro b
  cases k with
  | zero => rfl
  | succ k => simp only [impl_ValidRecord.j0, spec_l17Valid.j0, key_impl, key_spec]
 unfold impl_ValidRecord.f spec_l17Valid.f
 simp only [hj, key_impl, key_spec]
 rfl
theorem rec_spec (a0 : ByteArray) (a1 a2 : Int) (a3 a4 : ByteArray) : Ev (fun k => spec_l17Valid.f k a0 a1 a2 a3 a4) (recB a0 a1 a2 a3 a4) := by
 have hj : ∀ b, Ev (fun k => spec_l17Valid.j0 k b a0 a1 a2 a3 a4) (!b && (if a2 = 1 then (decide ((a3.size : Int) ≤ 16) && (a4.toList == ([] : List UInt8))) else if a2 = 2 then (decide (a3.toList = ([] : List UInt8)) && (a4.toList == ([] : List UInt8))) else if a2 = 3 then (decide (a3.toList = ([] : List UInt8)) && (keyB a4 && Op.bytesLess a0.toList a4.toList)) else false)) := by
  intro b
  refine Ev.step (f := fun _ => some _) (fun k => ?_) (Ev.now _)
  simp only [spec_l17Valid.j0, key_spec, Option.bind_some]
  cases b with
  | true => simp
  | false =>
   rw [if_neg (by simp), Bool.not_false, Bool.true_and]
   repeat' split
   all_goals first | rfl | (simp_all; done) | (simp_all <;> intros <;> omega)
 unfold spec_l17Valid.f recB
 simp only [key_spec, Option.bind_some]
 cases hk : keyB a0 with
 | false => simpa using hj true
 | true =>
  simp only [if_true, Bool.true_and]
  have e : spec_l00In.f a1 1 1000000 = some (decide (1 ≤ a1) && decide (a1 ≤ 1000000)) := by
   unfold spec_l00In.f
   by_cases h : a1 ≥ 1
   ·rw [if_pos h, decide_eq_true (show 1 ≤ a1 from h), Bool.true_and]
   ·rw [if_neg h, decide_eq_false (show ¬ 1 ≤ a1 from h), Bool.false_and]
  simp only [e, Option.bind_some]
  have := hj (!(decide (1 ≤ a1) && decide (a1 ≤ 1000000)))
  rwa [Bool.not_not] at this
theorem rec_impl (a0 : ByteArray) (a1 a2 : Int) (a3 a4 : ByteArray) : Ev (fun k => impl_ValidRecord.f k a0 a1 a2 a3 a4) (recB a0 a1 a2 a3 a4) := Ev.congr (fun k => rec_same k a0 a1 a2 a3 a4) (rec_spec a0 a1 a2 a3 a4)
/-- A record applied. -/
def appP (l : List S47) (a0 : ByteArray) (a2 : Int) (a3 a4 : ByteArray) : List S47 :=
 if a2 = 1 then (l.filter (fun x => !affB a0 a2 a4 x.f0)).takeWhile (lessK a0) ++ [⟨a0, a3⟩] ++ (l.filter (fun x => !affB a0 a2 a4 x.f0)).dropWhile (lessK a0) else l.filter (fun x => !affB a0 a2 a4 x.f0)
theorem appP_len (l : List S47) (a0 : ByteArray) (a2 : Int) (a3 a4 : ByteArray) : (appP l a0 a2 a3 a4).length ≤ l.length + 1 := by
 have h := List.length_filter_le (fun x : S47 => !affB a0 a2 a4 x.f0) l
 unfold appP
 split
 ·have h2 := congrArg List.length (List.takeWhile_append_dropWhile (p := lessK a0) (l := l.filter (fun x => !affB a0 a2 a4 x.f0)))
  simp only [List.length_append, List.length_cons, List.length_nil] at h2 ⊢
  omega
 ·omega
def applyP (l : List S47) (a0 : ByteArray) (a1 a2 : Int) (a3 a4 : ByteArray) : List S47 × Int := if okP l && recB a0 a1 a2 a3 a4 then (appP l a0 a2 a3 a4, 0) else ([], 1)
theorem apply_impl (l : List S47) (hl : l.length < 4398046511103) (a0 : ByteArray) (a1 a2 : Int) (a3 a4 : ByteArray) : Ev (fun k => impl_ApplyRecord.f k l a0 a1 a2 a3 a4) (applyP l a0 a1 a2 a3 a4) := by
 have hm : maxLen = 9223372036854775807 := rfl
 unfold impl_ApplyRecord.f applyP
 refine Ev.bind (okP_impl l (by omega)) ?_
 cases ho : okP l with
 | false => exact Ev.ite_neg (by simp) (Ev.now _)
 | true =>
  refine Ev.ite_pos rfl (Ev.bind (rec_impl a0 a1 a2 a3 a4) ?_)
  cases hr : recB a0 a1 a2 a3 a4 with
  | false => exact Ev.ite_neg (by simp) (Ev.now _)
  | true =>
   refine Ev.ite_pos rfl (Ev.const ?_)
   unfold impl_applied.f appP
   rw [if_pos hl, if_pos (okP_sorted l ho)]
   by_cases h2 : a2 = 1
   ·simp [h2]
   ·simp [h2]
theorem aff_spec (a0 : ByteArray) (a1 : Int) (a2 : Int) (a3 a4 y : ByteArray) : spec_l17Affects.f a0 a1 a2 a3 a4 y = some (affB a0 a2 a4 y) := by
 unfold spec_l17Affects.f affB
 repeat' split
 all_goals rfl
/-- The reference's way through the rest of the list. -/
def goA (a0 : ByteArray) (a2 : Int) (a3 a4 : ByteArray) : Bool → List S47 → List S47
 | b, [] => if b then [] else [⟨a0, a3⟩]
 | b, p :: ps => (if b = false ∧ Op.bytesLess a0.toList p.f0.toList = true then [⟨a0, a3⟩] else []) ++ ((if affB a0 a2 a4 p.f0 then [] else [p]) ++ goA a0 a2 a3 a4 (b || Op.bytesLess a0.toList p.f0.toList) ps)
theorem goA_true (a0 : ByteArray) (a2 : Int) (a3 a4 : ByteArray) : ∀ l, goA a0 a2 a3 a4 true l = l.filter (fun x => !affB a0 a2 a4 x.f0)
 | [] => rfl
 | p :: ps => by
  unfold goA
  rw [Bool.true_or, goA_true a0 a2 a3 a4 ps]
  cases h : affB a0 a2 a4 p.f0 <;> simp [h, List.filter_cons]
theorem goA_false (a0 : ByteArray) (a3 a4 : ByteArray) : ∀ l, goA a0 1 a3 a4 false l = (l.filter (fun x => !affB a0 1 a4 x.f0)).takeWhile (lessK a0) ++ [⟨a0, a3⟩] ++ (l.filter (fun x => !affB a0 1 a4 x.f0)).dropWhile (lessK a0)
 | [] => rfl
 | p :: ps => by
  have haff : affB a0 1 a4 p.f0 = (a0.toList == p.f0.toList) := by unfold affB; rw [if_neg (by decide)]
  unfold goA
  rcases bytesLess_total a0.toList p.f0.toList with h | h | h
  ·have h1 := bytesLess_asymm _ _ h
   have h2 : (a0.toList == p.f0.toList) = false := by
    rw [beq_eq_false_iff_ne]
    intro e
    rw [e, bytesLess_irrefl] at h
    cases h
   rw [h, Bool.or_true, goA_true, haff, h2]
   have h3 : lessK a0 p = false := h1
   rw [List.filter_cons, haff, h2, Bool.not_false, if_pos rfl, List.takeWhile_cons, h3, List.dropWhile_cons, h3]
   simp
  ·have h2 : (a0.toList == p.f0.toList) = true := by rw [h]; exact beq_self_eq_true _
   have h1 : Op.bytesLess a0.toList p.f0.toList = false := by rw [h, bytesLess_irrefl]
   rw [h1, Bool.or_false, goA_false a0 a3 a4 ps, haff, h2, List.filter_cons, haff, h2]
   simp
  ·have h1 := bytesLess_asymm _ _ h
   have h2 : (a0.toList == p.f0.toList) = false := by
    rw [beq_eq_false_iff_ne]
    intro e
    rw [e, bytesLess_irrefl] at h
    cases h
   have h3 : lessK a0 p = true := h
   rw [h1, Bool.or_false, goA_false a0 a3 a4 ps, haff, h2, List.filter_cons, haff, h2, Bool.not_false, if_pos rfl, List.takeWhile_cons, h3, List.dropWhile_cons, h3]
   simp
theorem goA_app (l : List S47) (a0 : ByteArray) (a2 : Int) (a3 a4 : ByteArray) : goA a0 a2 a3 a4 (a2 != 1) l = appP l a0 a2 a3 a4 := by
 unfold appP
 by_cases h : a2 = 1
 ·subst h
  rw [if_pos rfl]
  exact goA_false a0 a3 a4 l
 ·rw [if_neg h, show (a2 != 1) = true by simp [h]]
  exact goA_true a0 a2 a3 a4 l
theorem apply_loop (l : List S47) (hl : l.length < 4398046511103) (a0 : ByteArray) (a1 a2 : Int) (a3 a4 : ByteArray) : ∀ (d i : Nat) (acc : List S47) (b : Bool), i + d = l.length → acc.length + 2 * d + 1 < 4398046511104 →
  Ev (fun k => spec_ApplyRecord.l0 k l acc b (i : Int) a0 a1 a2 a3 a4) (acc ++ goA a0 a2 a3 a4 b (l.drop i), 0)
 | 0, i, acc, b, hd, hb => by
  rw [List.drop_eq_nil_of_le (by omega)]
  refine Ev.step (f := fun _ => some _) (fun k => ?_) (Ev.now _)
  simp only [spec_ApplyRecord.l0]
  rw [if_neg (by omega)]
  unfold goA
  cases b with
  | true => simp
  | false => rw [if_neg (by simp), if_pos (by omega)]; simp
 | d + 1, i, acc, b, hd, hb => by
  have hi : i < l.length := by omega
  have hm : maxLen = 9223372036854775807 := rfl
  have hrd : rd_T47 l (i : Int) = l.getD i z47 := by simp only [rd_T47, Int.toNat_natCast]
  rw [getD_drop (z := z47) hi]
  unfold goA
  have hj : ∀ (acc : List S47) (b : Bool), acc.length + 2 * d + 2 < 4398046511104 → Ev (fun k => spec_ApplyRecord.j2 k l acc b (i : Int) false a0 a1 a2 a3 a4) (acc ++ ((if affB a0 a2 a4 (l.getD i z47).f0 then [] else [l.getD i z47]) ++ goA a0 a2 a3 a4 b (l.drop (i + 1))), 0) := by
   intro acc b hb
   cases hf : affB a0 a2 a4 (l.getD i z47).f0 with
   | true =>
    rw [if_pos rfl, List.nil_append]
    refine Ev.step (fun k => ?_) (apply_loop l hl a0 a1 a2 a3 a4 d (i + 1) acc b (by omega) (by omega))
    simp only [spec_ApplyRecord.j2]
    rw [if_neg (by simp), if_pos (by omega), if_pos (by omega), hrd, aff_spec, Option.bind_some, hf, if_pos rfl, wsucc hi (by omega)]
   | false =>
    rw [if_neg (by simp), ← List.append_assoc]
    refine Ev.step (fun k => ?_) (apply_loop l hl a0 a1 a2 a3 a4 d (i + 1) (acc ++ [l.getD i z47]) b (by omega) (by rw [List.length_append]; simp; omega))
    simp only [spec_ApplyRecord.j2]
    rw [if_neg (by simp), if_pos (by omega), if_pos (by omega), hrd, aff_spec, Option.bind_some, hf, if_neg (by simp), if_pos (by omega), wsucc hi (by omega)]
  cases b with
  | true =>
   rw [if_neg (by simp), List.nil_append, Bool.true_or]
   refine Ev.step (fun k => ?_) (hj acc true (by omega))
   simp only [spec_ApplyRecord.l0]
   rw [if_pos (by omega), if_pos trivial]
  | false =>
   rw [Bool.false_or]
   cases hq : Op.bytesLess a0.toList (l.getD i z47).f0.toList with
   | false =>
    rw [if_neg (by simp), List.nil_append]
    refine Ev.step (fun k => ?_) (hj acc false (by omega))
    simp only [spec_ApplyRecord.l0]
    rw [if_pos (by omega), if_neg (by simp), if_pos (by omega), hrd, hq]
   | true =>
    rw [if_pos ⟨rfl, rfl⟩, ← List.append_assoc]
    have h1 := hj (acc ++ [⟨a0, a3⟩]) true (by rw [List.length_append]; simp; omega)
    refine Ev.step (f := fun k => spec_ApplyRecord.j2 k l acc false (i : Int) true a0 a1 a2 a3 a4) (fun k => ?_) ?_
    ·simp only [spec_ApplyRecord.l0]
     rw [if_pos (by omega), if_neg (by simp), if_pos (by omega), hrd, hq]
    ·obtain ⟨K, h1⟩ := h1
     refine ⟨K + 1, fun k hk => ?_⟩
     obtain ⟨m, rfl⟩ : ∃ m, k = m + 1 := ⟨k - 1, by omega⟩
     rw [← h1 (m + 1) (by omega)]
     simp only [spec_ApplyRecord.j2]
     simp only [if_true, Bool.false_eq_true, if_false, if_pos (show acc.length < 4398046511104 by omega), Option.bind_some]
theorem apply_spec (l : List S47) (hl : l.length < 1099511627776) (a0 : ByteArray) (a1 a2 : Int) (a3 a4 : ByteArray) : Ev (fun k => spec_ApplyRecord.f k l a0 a1 a2 a3 a4) (applyP l a0 a1 a2 a3 a4) := by
 have hm : maxLen = 9223372036854775807 := rfl
 have hj0 : ∀ b, Ev (fun k => spec_ApplyRecord.j0 k l [] b a0 a1 a2 a3 a4) (if b = true then ([], 1) else (appP l a0 a2 a3 a4, 0)) := by
  intro b
  cases b with
  | true => exact Ev.step (f := fun _ => some _) (fun k => by simp only [spec_ApplyRecord.j0, if_true]) (Ev.now _)
  | false =>
   have h := apply_loop l (by omega) a0 a1 a2 a3 a4 l.length 0 [] (a2 != 1) (by omega) (by simp; omega)
   rw [List.drop_zero, List.nil_append, goA_app] at h
   rw [if_neg (by simp)]
   exact Ev.step (fun k => by simp only [spec_ApplyRecord.j0]; rw [if_neg (by simp)]; rfl) h
 unfold spec_ApplyRecord.f applyP
 simp only [Option.bind_some]
 refine Ev.bind (okP_spec l (by omega)) ?_
 cases ho : okP l with
 | false => exact Ev.ite_neg (by simp) (by simpa using hj0 true)
 | true =>
  refine Ev.ite_pos rfl (Ev.bind (rec_spec a0 a1 a2 a3 a4) ?_)
  cases hr : recB a0 a1 a2 a3 a4 with
  | false => simpa using hj0 true
  | true => simpa using hj0 false
end Go.Proofs.Ytjamafchmeiifaa.V
/- The laws' own helpers on pairs and records: sizes counted, values turned over, equality. -/
namespace Go.Proofs.Ytjamafchmeiifaa.V
open Go.RowKit Go.Proofs.Ytjamafchmeiifaa.F Go.Proofs.YtjamafchmeiifaaW.PrintWords Go.Proofs.YtjamafchmeiifaaW.PrintLast Go.Proofs.YtjamafchmeiifaaW.PrintMore
set_option linter.unusedVariables false
set_option linter.unusedSimpArgs false
def kP (x : S79) : Prop := x.f0.size ≤ maxLen ∧ x.f1.size ≤ maxLen
def kR (x : S120) : Prop := x.f0.size ≤ maxLen ∧ x.f3.size ≤ maxLen ∧ x.f4.size ≤ maxLen
theorem szPair_total (x : S79) (hx : kP x) (a : Int) (h0 : 0 ≤ a) (h1 : a ≤ 1048576) : ∃ r, laws_szPair.f x.f0 x.f1 a = some r ∧ (r = -1 ∨ (0 ≤ r ∧ r ≤ a)) := by
 have hm : maxLen = 9223372036854775807 := rfl
 obtain ⟨k1, k2⟩ := hx
 unfold laws_szPair.f
 rw [wid (x := a - (x.f0.size : Int)) (by omega) (by omega)]
 by_cases c1 : a - (x.f0.size : Int) < 0
 ·rw [if_pos c1]; exact ⟨-1, rfl, .inl rfl⟩
 ·rw [if_neg c1, wid (x := a - (x.f0.size : Int) - (x.f1.size : Int)) (by omega) (by omega)]
  by_cases c2 : a - (x.f0.size : Int) - (x.f1.size : Int) < 0
  ·rw [if_pos c2]; exact ⟨-1, rfl, .inl rfl⟩
  ·rw [if_neg c2]; exact ⟨_, rfl, .inr ⟨by omega, by omega⟩⟩
theorem szRecord_total (x : S120) (hx : kR x) (a : Int) (h0 : 0 ≤ a) (h1 : a ≤ 1048576) : ∃ r, laws_szRecord.f x.f0 x.f1 x.f2 x.f3 x.f4 a = some r ∧ (r = -1 ∨ (0 ≤ r ∧ r ≤ a)) := by
 have hm : maxLen = 9223372036854775807 := rfl
 obtain ⟨k1, k2, k3⟩ := hx
 unfold laws_szRecord.f
 rw [wid (x := a - (x.f0.size : Int)) (by omega) (by omega)]
 by_cases c1 : a - (x.f0.size : Int) < 0
 ·rw [if_pos c1]; exact ⟨-1, rfl, .inl rfl⟩
 ·rw [if_neg c1, wid (x := a - (x.f0.size : Int) - (x.f3.size : Int)) (by omega) (by omega)]
  by_cases c2 : a - (x.f0.size : Int) - (x.f3.size : Int) < 0
  ·rw [if_pos c2]; exact ⟨-1, rfl, .inl rfl⟩
  ·rw [if_neg c2, wid (x := a - (x.f0.size : Int) - (x.f3.size : Int) - (x.f4.size : Int)) (by omega) (by omega)]
   by_cases c3 : a - (x.f0.size : Int) - (x.f3.size : Int) - (x.f4.size : Int) < 0
   ·rw [if_pos c3]; exact ⟨-1, rfl, .inl rfl⟩
   ·rw [if_neg c3]; exact ⟨_, rfl, .inr ⟨by omega, by omega⟩⟩
theorem szPairS_loop (l : List S79) (hl : l.length ≤ maxLen) (hg : ∀ x ∈ l, kP x) : ∀ (d i : Nat) (a : Int), i + d = l.length → 0 ≤ a → a ≤ 1048576 → ∃ r, Ev (fun k => laws_szPairS.l0 k l a (i : Int)) r ∧ (r = -1 ∨ (0 ≤ r ∧ r ≤ a))
 | 0, i, a, hd, h0, h1 => ⟨a, Ev.step (f := fun _ => some a) (fun k => by simp only [laws_szPairS.l0]; rw [if_neg (by omega)]) (Ev.now a), .inr ⟨h0, Int.le_refl _⟩⟩
 | d + 1, i, a, hd, h0, h1 => by
  have hi : i < l.length := by omega
  have hrd : rd_T79 l (i : Int) = l.getD i z79 := by simp only [rd_T79, Int.toNat_natCast]
  obtain ⟨r1, e1, c1⟩ := szPair_total (l.getD i z79) (hg _ (getD_mem hi)) a h0 h1
  rcases c1 with rfl | ⟨c1, c2⟩
  ·refine ⟨-1, Ev.step (f := fun _ => some (-1)) (fun k => ?_) (Ev.now _), .inl rfl⟩
   simp only [laws_szPairS.l0]
   rw [if_pos (by omega), if_pos (by omega), hrd, e1, Option.bind_some, if_pos (by omega)]
  ·obtain ⟨r, hr, hc⟩ := szPairS_loop l hl hg d (i + 1) r1 (by omega) c1 (by omega)
   refine ⟨r, Ev.step (f := fun k => laws_szPairS.l0 k l r1 ((i + 1 : Nat) : Int)) (fun k => ?_) hr, ?_⟩
   ·simp only [laws_szPairS.l0]
    rw [if_pos (by omega), if_pos (by omega), hrd, e1, Option.bind_some, if_neg (by omega), wsucc hi hl]
   ·rcases hc with h | ⟨h, h'⟩
    ·exact .inl h
    ·exact .inr ⟨h, by omega⟩
theorem szPairS_total (l : List S79) (hl : l.length ≤ maxLen) (hg : ∀ x ∈ l, kP x) (a : Int) (h0 : 0 ≤ a) (h1 : a ≤ 1048576) : ∃ r, Ev (fun k => laws_szPairS.f k l a) r ∧ (r = -1 ∨ (0 ≤ r ∧ r + l.length ≤ a)) := by
 have hm : maxLen = 9223372036854775807 := rfl
 unfold laws_szPairS.f
 rw [wid (x := a - (l.length : Int)) (by omega) (by omega)]
 by_cases c : a - (l.length : Int) < 0
 ·exact ⟨-1, Ev.ite_pos c (Ev.now _), .inl rfl⟩
 ·obtain ⟨r, hr, hc⟩ := szPairS_loop l hl hg l.length 0 (a - l.length) (by omega) (by omega) (by omega)
  refine ⟨r, Ev.ite_neg c hr, ?_⟩
  rcases hc with h | ⟨h, h'⟩
  ·exact .inl h
  ·exact .inr ⟨h, by omega⟩
theorem szRecordS_loop (l : List S120) (hl : l.length ≤ maxLen) (hg : ∀ x ∈ l, kR x) : ∀ (d i : Nat) (a : Int), i + d = l.length → 0 ≤ a → a ≤ 1048576 → ∃ r, Ev (fun k => laws_szRecordS.l0 k l a (i : Int)) r ∧ (r = -1 ∨ (0 ≤ r ∧ r ≤ a))
 | 0, i, a, hd, h0, h1 => ⟨a, Ev.step (f := fun _ => some a) (fun k => by simp only [laws_szRecordS.l0]; rw [if_neg (by omega)]) (Ev.now a), .inr ⟨h0, Int.le_refl _⟩⟩
 | d + 1, i, a, hd, h0, h1 => by
  have hi : i < l.length := by omega
  have hrd : rd_T120 l (i : Int) = l.getD i z120 := by simp only [rd_T120, Int.toNat_natCast]
  obtain ⟨r1, e1, c1⟩ := szRecord_total (l.getD i z120) (hg _ (getD_mem hi)) a h0 h1
  rcases c1 with rfl | ⟨c1, c2⟩
  ·refine ⟨-1, Ev.step (f := fun _ => some (-1)) (fun k => ?_) (Ev.now _), .inl rfl⟩
   simp only [laws_szRecordS.l0]
   rw [if_pos (by omega), if_pos (by omega), hrd, e1, Option.bind_some, if_pos (by omega)]
  ·obtain ⟨r, hr, hc⟩ := szRecordS_loop l hl hg d (i + 1) r1 (by omega) c1 (by omega)
   refine ⟨r, Ev.step (f := fun k => laws_szRecordS.l0 k l r1 ((i + 1 : Nat) : Int)) (fun k => ?_) hr, ?_⟩
   ·simp only [laws_szRecordS.l0]
    rw [if_pos (by omega), if_pos (by omega), hrd, e1, Option.bind_some, if_neg (by omega), wsucc hi hl]
   ·rcases hc with h | ⟨h, h'⟩
    ·exact .inl h
    ·exact .inr ⟨h, by omega⟩
theorem szRecordS_total (l : List S120) (hl : l.length ≤ maxLen) (hg : ∀ x ∈ l, kR x) (a : Int) (h0 : 0 ≤ a) (h1 : a ≤ 1048576) : ∃ r, Ev (fun k => laws_szRecordS.f k l a) r ∧ (r = -1 ∨ (0 ≤ r ∧ r + l.length ≤ a)) := by
 have hm : maxLen = 9223372036854775807 := rfl
 unfold laws_szRecordS.f
 rw [wid (x := a - (l.length : Int)) (by omega) (by omega)]
 by_cases c : a - (l.length : Int) < 0
 ·exact ⟨-1, Ev.ite_pos c (Ev.now _), .inl rfl⟩
 ·obtain ⟨r, hr, hc⟩ := szRecordS_loop l hl hg l.length 0 (a - l.length) (by omega) (by omega) (by omega)
  refine ⟨r, Ev.ite_neg c hr, ?_⟩
  rcases hc with h | ⟨h, h'⟩
  ·exact .inl h
  ·exact .inr ⟨h, by omega⟩
def sumLen {α : Type} (l : List (List α)) : Nat := (l.map List.length).sum
theorem sumLen_cons {α : Type} (x : List α) (l : List (List α)) : sumLen (x :: l) = x.length + sumLen l := by simp [sumLen]
theorem szRecordSS_loop (l : List (List S120)) (hl : l.length ≤ maxLen) (hg : ∀ x ∈ l, x.length ≤ maxLen ∧ ∀ y ∈ x, kR y) : ∀ (d i : Nat) (a : Int), i + d = l.length → 0 ≤ a → a ≤ 1048576 → ∃ r, Ev (fun k => laws_szRecordSS.l0 k l a (i : Int)) r ∧ (r = -1 ∨ (0 ≤ r ∧ r + sumLen (l.drop i) ≤ a))
 | 0, i, a, hd, h0, h1 => ⟨a, Ev.step (f := fun _ => some a) (fun k => by simp only [laws_szRecordSS.l0]; rw [if_neg (by omega)]) (Ev.now a), .inr ⟨h0, by rw [List.drop_eq_nil_of_le (by omega)]; simp [sumLen]⟩⟩
 | d + 1, i, a, hd, h0, h1 => by
  have hi : i < l.length := by omega
  have hrd : rd_L4 l (i : Int) = l.getD i [] := by simp only [rd_L4, Int.toNat_natCast]
  obtain ⟨r1, e1, c1⟩ := szRecordS_total (l.getD i []) (hg _ (getD_mem hi)).1 (hg _ (getD_mem hi)).2 a h0 h1
  rcases c1 with rfl | ⟨c1, c2⟩
  ·refine ⟨-1, Ev.step (f := fun k => (laws_szRecordS.f k (l.getD i []) a).bind fun t => if t < 0 then some (-1) else laws_szRecordSS.l0 k l t (wrap64 ((i : Int) + 1))) (fun k => ?_) (Ev.bind e1 (Ev.ite_pos (by omega) (Ev.now _))), .inl rfl⟩
   simp only [laws_szRecordSS.l0]
   rw [if_pos (by omega), if_pos (by omega), hrd]
  ·obtain ⟨r, hr, hc⟩ := szRecordSS_loop l hl hg d (i + 1) r1 (by omega) c1 (by omega)
   refine ⟨r, Ev.step (f := fun k => (laws_szRecordS.f k (l.getD i []) a).bind fun t => if t < 0 then some (-1) else laws_szRecordSS.l0 k l t (wrap64 ((i : Int) + 1))) (fun k => ?_) (Ev.bind e1 (Ev.ite_neg (by omega) (by rw [wsucc hi hl]; exact hr))), ?_⟩
   ·simp only [laws_szRecordSS.l0]
    rw [if_pos (by omega), if_pos (by omega), hrd]
   ·rcases hc with h | ⟨h, h'⟩
    ·exact .inl h
    ·refine .inr ⟨h, ?_⟩
     rw [getD_drop (z := []) hi, sumLen_cons]
     omega
theorem szRecordSS_total (l : List (List S120)) (hl : l.length ≤ maxLen) (hg : ∀ x ∈ l, x.length ≤ maxLen ∧ ∀ y ∈ x, kR y) (a : Int) (h0 : 0 ≤ a) (h1 : a ≤ 1048576) : ∃ r, Ev (fun k => laws_szRecordSS.f k l a) r ∧ (r = -1 ∨ (0 ≤ r ∧ r + l.length + sumLen l ≤ a)) := by
 have hm : maxLen = 9223372036854775807 := rfl
 unfold laws_szRecordSS.f
 rw [wid (x := a - (l.length : Int)) (by omega) (by omega)]
 by_cases c : a - (l.length : Int) < 0
 ·exact ⟨-1, Ev.ite_pos c (Ev.now _), .inl rfl⟩
 ·obtain ⟨r, hr, hc⟩ := szRecordSS_loop l hl hg l.length 0 (a - l.length) (by omega) (by omega) (by omega)
  refine ⟨r, Ev.ite_neg c hr, ?_⟩
  rcases hc with h | ⟨h, h'⟩
  ·exact .inl h
  ·exact .inr ⟨h, by simp only [List.drop_zero] at h'; omega⟩
def cP (x : S79) : S47 := ⟨x.f0, x.f1⟩
def cR (x : S120) : S39 := ⟨x.f0, x.f1, x.f2, x.f3, x.f4⟩
theorem toPairS_loop (l : List S79) (hl : l.length ≤ 8796093022208) : ∀ (d i : Nat) (acc : List S47), i + d = l.length → acc.length = l.length → acc.take i = (l.take i).map cP → Ev (fun k => laws_toPairS.l0 k l acc (i : Int)) (l.map cP)
 | 0, i, acc, hd, h1, h2 => Ev.step (f := fun _ => some acc) (fun k => by simp only [laws_toPairS.l0]; rw [if_neg (by omega)]) (Ev.const (by
   rw [List.take_of_length_le (by omega), List.take_of_length_le (by omega)] at h2
   rw [h2]))
 | d + 1, i, acc, hd, h1, h2 => by
  have hi : i < l.length := by omega
  have hm : maxLen = 9223372036854775807 := rfl
  have hrd : rd_T79 l (i : Int) = l.getD i z79 := by simp only [rd_T79, Int.toNat_natCast]
  refine Ev.step (fun k => ?_) (toPairS_loop l hl d (i + 1) (acc.set i (cP (l.getD i z79))) (by omega) (by rw [List.length_set]; exact h1) (set_step hi h1 h2))
  simp only [laws_toPairS.l0, laws_toPair.f, Option.bind_some]
  rw [if_pos (by omega), if_pos (by omega), if_pos (by omega), hrd, wsucc hi (by omega), Int.toNat_natCast]
  rfl
theorem toPairS_is (l : List S79) (hl : l.length ≤ 1048576) : Ev (fun k => laws_toPairS.f k l) (l.map cP) := by
 unfold laws_toPairS.f
 refine Ev.ite_pos (by omega) (Ev.ite_pos (by simp only [Int.toNat_natCast]; omega) ?_)
 exact toPairS_loop l (by omega) l.length 0 _ (by omega) (by simp) (by simp)
theorem toRecordS_loop (l : List S120) (hl : l.length ≤ 8796093022208) : ∀ (d i : Nat) (acc : List S39), i + d = l.length → acc.length = l.length → acc.take i = (l.take i).map cR → Ev (fun k => laws_toRecordS.l0 k l acc (i : Int)) (l.map cR)
 | 0, i, acc, hd, h1, h2 => Ev.step (f := fun _ => some acc) (fun k => by simp only [laws_toRecordS.l0]; rw [if_neg (by omega)]) (Ev.const (by
   rw [List.take_of_length_le (by omega), List.take_of_length_le (by omega)] at h2
   rw [h2]))
 | d + 1, i, acc, hd, h1, h2 => by
  have hi : i < l.length := by omega
  have hm : maxLen = 9223372036854775807 := rfl
  have hrd : rd_T120 l (i : Int) = l.getD i z120 := by simp only [rd_T120, Int.toNat_natCast]
  refine Ev.step (fun k => ?_) (toRecordS_loop l hl d (i + 1) (acc.set i (cR (l.getD i z120))) (by omega) (by rw [List.length_set]; exact h1) (set_step hi h1 h2))
  simp only [laws_toRecordS.l0, laws_toRecord.f, Option.bind_some]
  rw [if_pos (by omega), if_pos (by omega), if_pos (by omega), hrd, wsucc hi (by omega), Int.toNat_natCast]
  rfl
theorem toRecordS_is (l : List S120) (hl : l.length ≤ 1048576) : Ev (fun k => laws_toRecordS.f k l) (l.map cR) := by
 unfold laws_toRecordS.f
 refine Ev.ite_pos (by omega) (Ev.ite_pos (by simp only [Int.toNat_natCast]; omega) ?_)
 exact toRecordS_loop l (by omega) l.length 0 _ (by omega) (by simp) (by simp)
theorem sumLen_mem {α : Type} {l : List (List α)} {x : List α} (h : x ∈ l) : x.length ≤ sumLen l := by
 induction l with
 | nil => cases h
 | cons y l ih =>
  rw [sumLen_cons]
  rcases List.mem_cons.1 h with rfl | h
  ·omega
  ·have := ih h; omega
theorem toRecordSS_loop (l : List (List S120)) (hl : l.length ≤ 8796093022208) (hx : ∀ x ∈ l, x.length ≤ 1048576) : ∀ (d i : Nat) (acc : List (List S39)), i + d = l.length → acc.length = l.length → acc.take i = (l.take i).map (List.map cR) → Ev (fun k => laws_toRecordSS.l0 k l acc (i : Int)) (l.map (List.map cR))
 | 0, i, acc, hd, h1, h2 => Ev.step (f := fun _ => some acc) (fun k => by simp only [laws_toRecordSS.l0]; rw [if_neg (by omega)]) (Ev.const (by
   rw [List.take_of_length_le (by omega), List.take_of_length_le (by omega)] at h2
   rw [h2]))
 | d + 1, i, acc, hd, h1, h2 => by
  have hi : i < l.length := by omega
  have hm : maxLen = 9223372036854775807 := rfl
  have hrd : rd_L4 l (i : Int) = l.getD i [] := by simp only [rd_L4, Int.toNat_natCast]
  refine Ev.step (fun k => ?_) (Ev.bind (f := fun k t => laws_toRecordSS.l0 k l (acc.set i t) ((i + 1 : Nat) : Int)) (toRecordS_is (l.getD i []) (hx _ (getD_mem hi))) (toRecordSS_loop l hl hx d (i + 1) (acc.set i (List.map cR (l.getD i []))) (by omega) (by rw [List.length_set]; exact h1) (set_step hi h1 h2)))
  simp only [laws_toRecordSS.l0]
  rw [if_pos (by omega), if_pos (by omega), hrd, wsucc hi (by omega)]
  simp only [Int.toNat_natCast, if_pos (show (i : Int) < (acc.length : Int) by omega)]
theorem toRecordSS_is (l : List (List S120)) (hl : l.length ≤ 1048576) (hx : ∀ x ∈ l, x.length ≤ 1048576) : Ev (fun k => laws_toRecordSS.f k l) (l.map (List.map cR)) := by
 unfold laws_toRecordSS.f
 refine Ev.ite_pos (by omega) (Ev.ite_pos (by simp only [Int.toNat_natCast]; omega) ?_)
 exact toRecordSS_loop l (by omega) hx l.length 0 _ (by omega) (by simp) (by simp)
theorem eqPairS_loop (l : List S47) (hl : l.length ≤ maxLen) : ∀ (d i : Nat), i + d = l.length → Ev (fun k => laws_eqPairS.l0 k l l (i : Int)) true
 | 0, i, hd => Ev.step (f := fun _ => some true) (fun k => by simp only [laws_eqPairS.l0]; rw [if_neg (by omega)]) (Ev.now _)
 | d + 1, i, hd => by
  have hi : i < l.length := by omega
  refine Ev.step (fun k => ?_) (eqPairS_loop l hl d (i + 1) (by omega))
  simp only [laws_eqPairS.l0, laws_eqPair.f]
  rw [if_pos (by omega), if_pos (by omega), if_pos (by omega), wsucc hi hl]
  simp only [if_true, Option.bind_some]
theorem eqPairS_refl (l : List S47) (hl : l.length ≤ maxLen) : Ev (fun k => laws_eqPairS.f k l l) true := by
 unfold laws_eqPairS.f
 exact Ev.ite_pos rfl (eqPairS_loop l hl l.length 0 (by omega))
theorem eqRecordS_loop (l : List S39) (hl : l.length ≤ maxLen) : ∀ (d i : Nat), i + d = l.length → Ev (fun k => laws_eqRecordS.l0 k l l (i : Int)) true
 | 0, i, hd => Ev.step (f := fun _ => some true) (fun k => by simp only [laws_eqRecordS.l0]; rw [if_neg (by omega)]) (Ev.now _)
 | d + 1, i, hd => by
  have hi : i < l.length := by omega
  refine Ev.step (fun k => ?_) (eqRecordS_loop l hl d (i + 1) (by omega))
  simp only [laws_eqRecordS.l0, laws_eqRecord.f]
  rw [if_pos (by omega), if_pos (by omega), if_pos (by omega), wsucc hi hl]
  simp only [if_true, Option.bind_some]
theorem eqRecordS_refl (l : List S39) (hl : l.length ≤ maxLen) : Ev (fun k => laws_eqRecordS.f k l l) true := by
 unfold laws_eqRecordS.f
 exact Ev.ite_pos rfl (eqRecordS_loop l hl l.length 0 (by omega))
theorem eqRecordSS_loop (l : List (List S39)) (hl : l.length ≤ maxLen) (hx : ∀ x ∈ l, x.length ≤ maxLen) : ∀ (d i : Nat), i + d = l.length → Ev (fun k => laws_eqRecordSS.l0 k l l (i : Int)) true
 | 0, i, hd => Ev.step (f := fun _ => some true) (fun k => by simp only [laws_eqRecordSS.l0]; rw [if_neg (by omega)]) (Ev.now _)
 | d + 1, i, hd => by
  have hi : i < l.length := by omega
  have hrd : rd_L7 l (i : Int) = l.getD i [] := by simp only [rd_L7, Int.toNat_natCast]
  refine Ev.step (fun k => ?_) (Ev.bind (f := fun k t => if t = true then laws_eqRecordSS.l0 k l l ((i + 1 : Nat) : Int) else some false) (eqRecordS_refl (l.getD i []) (hx _ (getD_mem hi))) (Ev.ite_pos rfl (eqRecordSS_loop l hl hx d (i + 1) (by omega))))
  simp only [laws_eqRecordSS.l0]
  rw [if_pos (by omega), if_pos (by omega), if_pos (by omega), wsucc hi hl, hrd]
theorem eqRecordSS_refl (l : List (List S39)) (hl : l.length ≤ maxLen) (hx : ∀ x ∈ l, x.length ≤ maxLen) : Ev (fun k => laws_eqRecordSS.f k l l) true := by
 unfold laws_eqRecordSS.f
 exact Ev.ite_pos rfl (eqRecordSS_loop l hl hx l.length 0 (by omega))
end Go.Proofs.Ytjamafchmeiifaa.V
/- The plain law on the states after batches, and on the last state that is the given one. -/
namespace Go.Proofs.Ytjamafchmeiifaa.V
open Go.RowKit Go.Proofs.Ytjamafchmeiifaa.F Go.Proofs.YtjamafchmeiifaaW.PrintWords Go.Proofs.YtjamafchmeiifaaW.PrintLast Go.Proofs.YtjamafchmeiifaaW.PrintMore Go.Proofs.YtjamafchmeiifaaX
set_option linter.unusedVariables false
set_option linter.unusedSimpArgs false
def foldB (st : List S47) : List S39 → Option (List S47)
 | [] => some st
 | r :: rs => if (applyP st r.f0 1 r.f2 r.f3 r.f4).2 = 0 then foldB (applyP st r.f0 1 r.f2 r.f3 r.f4).1 rs else none
def goS (acc : List (List S47)) (st : List S47) : List (List S39) → List (List S47)
 | [] => acc
 | b :: bs => match foldB st b with
  | none => []
  | some st' => goS (acc ++ [st']) st' bs
theorem applyP_len (l : List S47) (a0 : ByteArray) (a1 a2 : Int) (a3 a4 : ByteArray) : (applyP l a0 a1 a2 a3 a4).1.length ≤ l.length + 1 := by
 unfold applyP
 split
 ·exact appP_len l a0 a2 a3 a4
 ·simp
def thenS (acc : List (List S47)) (bs : List (List S39)) : Option (List S47) → List (List S47)
 | none => []
 | some st' => goS (acc ++ [st']) st' bs
theorem goS_cons (acc : List (List S47)) (st : List S47) (b : List S39) (bs : List (List S39)) : goS acc st (b :: bs) = thenS acc bs (foldB st b) := by
 show (match foldB st b with | none => [] | some st' => goS (acc ++ [st']) st' bs) = _
 cases foldB st b <;> rfl
theorem states_impl_in (ls : List (List S39)) (hls : ls.length ≤ maxLen) (i : Nat) (hi : i < ls.length) (bs : List S39) (hbs : bs.length ≤ maxLen) (acc : List (List S47)) (hacc : acc.length < 5864062014805)
  (next : ∀ st : List S47, st.length + sumLen (ls.drop (i + 1)) < 1099511627776 → Ev (fun k => impl_StatesAfter.l0 k st (acc ++ [st]) ls (ls.length : Int) ((i + 1 : Nat) : Int)) (goS (acc ++ [st]) st (ls.drop (i + 1)))) :
  ∀ (d j : Nat) (st : List S47), j + d = bs.length → st.length + d + sumLen (ls.drop (i + 1)) < 1099511627776 →
   Ev (fun k => impl_StatesAfter.l1 k st acc ls (ls.length : Int) (i : Int) bs (bs.length : Int) (j : Int)) (thenS acc (ls.drop (i + 1)) (foldB st (bs.drop j)))
 | 0, j, st, hd, hb => by
  rw [show bs.drop j = [] from List.drop_eq_nil_of_le (by omega)]
  refine Ev.step (fun k => ?_) (next st (by omega))
  simp only [impl_StatesAfter.l1]
  rw [if_neg (by omega)]
  unfold slices_Clone_Pair.f
  rw [if_pos (by omega), Option.bind_some, if_pos (by omega), wsucc hi hls]
 | d + 1, j, st, hd, hb => by
  have hj : j < bs.length := by omega
  have hrd : rd_T39 bs (j : Int) = bs.getD j z39 := by simp only [rd_T39, Int.toNat_natCast]
  rw [getD_drop (z := z39) hj]
  have ha := apply_impl st (by omega) (bs.getD j z39).f0 1 (bs.getD j z39).f2 (bs.getD j z39).f3 (bs.getD j z39).f4
  have hlen := applyP_len st (bs.getD j z39).f0 1 (bs.getD j z39).f2 (bs.getD j z39).f3 (bs.getD j z39).f4
  unfold foldB
  refine Ev.step (f := fun k => (impl_ApplyRecord.f k st (bs.getD j z39).f0 1 (bs.getD j z39).f2 (bs.getD j z39).f3 (bs.getD j z39).f4).bind fun bt => if bt.2 = 0 then impl_StatesAfter.l1 k bt.1 acc ls (ls.length : Int) (i : Int) bs (bs.length : Int) ((j + 1 : Nat) : Int) else some ([] : List (List S47))) (fun k => ?_) (Ev.bind ha ?_)
  ·simp only [impl_StatesAfter.l1]
   rw [if_pos (by omega), if_pos (by omega), if_pos (by omega), hrd, wsucc hj hbs]
  ·by_cases hc : (applyP st (bs.getD j z39).f0 1 (bs.getD j z39).f2 (bs.getD j z39).f3 (bs.getD j z39).f4).2 = 0
   ·rw [if_pos hc]
    exact Ev.ite_pos hc (states_impl_in ls hls i hi bs hbs acc hacc next d (j + 1) _ (by omega) (by omega))
   ·rw [if_neg hc]
    exact Ev.ite_neg hc (Ev.now _)
theorem states_impl (ls : List (List S39)) (hls : ls.length ≤ 1048576) (hx : ∀ x ∈ ls, x.length ≤ maxLen) : ∀ (d i : Nat) (acc : List (List S47)) (st : List S47), i + d = ls.length → acc.length + d < 5864062014805 → st.length + sumLen (ls.drop i) < 1099511627776 →
  Ev (fun k => impl_StatesAfter.l0 k st acc ls (ls.length : Int) (i : Int)) (goS acc st (ls.drop i))
 | 0, i, acc, st, hd, ha, hb => by
  rw [List.drop_eq_nil_of_le (by omega)]
  exact Ev.step (f := fun _ => some acc) (fun k => by simp only [impl_StatesAfter.l0]; rw [if_neg (by omega)]) (Ev.now _)
 | d + 1, i, acc, st, hd, ha, hb => by
  have hm : maxLen = 9223372036854775807 := rfl
  have hi : i < ls.length := by omega
  have hrd : rd_L7 ls (i : Int) = ls.getD i [] := by simp only [rd_L7, Int.toNat_natCast]
  rw [getD_drop (z := []) hi] at hb ⊢
  rw [sumLen_cons] at hb
  rw [goS_cons]
  have h1 := states_impl_in ls (by omega) i hi (ls.getD i []) (hx _ (getD_mem hi)) acc (by omega) (fun st' hb' => states_impl ls hls hx d (i + 1) (acc ++ [st']) st' (by omega) (by rw [List.length_append]; simp; omega) hb') (ls.getD i []).length 0 st (by omega) (by omega)
  rw [List.drop_zero] at h1
  refine Ev.step (fun k => ?_) h1
  simp only [impl_StatesAfter.l0]
  rw [if_pos (by omega), if_pos (by omega), if_pos (by omega), hrd]
  rfl
theorem states_impl_is (st : List S47) (ls : List (List S39)) (hls : ls.length ≤ 1048576) (hx : ∀ x ∈ ls, x.length ≤ maxLen) (hb : st.length + sumLen ls < 1099511627776) : Ev (fun k => impl_StatesAfter.f k st ls) (goS [st] st ls) := by
 unfold impl_StatesAfter.f slices_Clone_Pair.f
 rw [if_pos (by omega)]
 simp only [Option.bind_some]
 exact states_impl ls hls hx ls.length 0 [st] st (by omega) (by simp; omega) hb
theorem states_spec_in (ls : List (List S39)) (hls : ls.length ≤ maxLen) (i : Nat) (hi : i < ls.length) (bs : List S39) (hbe : bs = ls.getD i []) (hbs : bs.length ≤ maxLen) (acc : List (List S47)) (hacc : acc.length < 5864062014805)
  (next : ∀ st : List S47, st.length + sumLen (ls.drop (i + 1)) < 1099511627776 → Ev (fun k => spec_StatesAfter.l0 k ls (acc ++ [st]) st ((i + 1 : Nat) : Int)) (goS (acc ++ [st]) st (ls.drop (i + 1)))) :
  ∀ (d j : Nat) (st : List S47), j + d = bs.length → st.length + d + sumLen (ls.drop (i + 1)) < 1099511627776 →
   Ev (fun k => spec_StatesAfter.l1 k ls acc st (i : Int) (j : Int)) (thenS acc (ls.drop (i + 1)) (foldB st (bs.drop j)))
 | 0, j, st, hd, hb => by
  have hrd : rd_L7 ls (i : Int) = bs := by rw [hbe]; simp only [rd_L7, Int.toNat_natCast]
  rw [show bs.drop j = [] from List.drop_eq_nil_of_le (by omega)]
  refine Ev.step (fun k => ?_) (next st (by omega))
  simp only [spec_StatesAfter.l1]
  rw [if_pos (by omega), if_pos (by omega), hrd, if_neg (by omega), Option.bind_some, if_pos (by simp; omega), if_pos (by omega), wsucc hi hls, List.nil_append]
 | d + 1, j, st, hd, hb => by
  have hrl : rd_L7 ls (i : Int) = bs := by rw [hbe]; simp only [rd_L7, Int.toNat_natCast]
  have hj : j < bs.length := by omega
  have hrd : rd_T39 bs (j : Int) = bs.getD j z39 := by simp only [rd_T39, Int.toNat_natCast]
  rw [getD_drop (z := z39) hj]
  have ha := apply_spec st (by omega) (bs.getD j z39).f0 1 (bs.getD j z39).f2 (bs.getD j z39).f3 (bs.getD j z39).f4
  have hlen := applyP_len st (bs.getD j z39).f0 1 (bs.getD j z39).f2 (bs.getD j z39).f3 (bs.getD j z39).f4
  unfold foldB
  refine Ev.step (f := fun k => (spec_ApplyRecord.f k st (bs.getD j z39).f0 1 (bs.getD j z39).f2 (bs.getD j z39).f3 (bs.getD j z39).f4).bind fun bt => if bt.2 = 0 then spec_StatesAfter.l1 k ls acc bt.1 (i : Int) ((j + 1 : Nat) : Int) else some ([] : List (List S47))) (fun k => ?_) (Ev.bind ha ?_)
  ·simp only [spec_StatesAfter.l1]
   rw [if_pos (by omega), if_pos (by omega), hrl, if_pos (by omega), if_pos (by omega), hrd, wsucc hj hbs]
  ·by_cases hc : (applyP st (bs.getD j z39).f0 1 (bs.getD j z39).f2 (bs.getD j z39).f3 (bs.getD j z39).f4).2 = 0
   ·rw [if_pos hc]
    exact Ev.ite_pos hc (states_spec_in ls hls i hi bs hbe hbs acc hacc next d (j + 1) _ (by omega) (by omega))
   ·rw [if_neg hc]
    exact Ev.ite_neg hc (Ev.now _)
theorem states_spec (ls : List (List S39)) (hls : ls.length ≤ 1048576) (hx : ∀ x ∈ ls, x.length ≤ maxLen) : ∀ (d i : Nat) (acc : List (List S47)) (st : List S47), i + d = ls.length → acc.length + d < 5864062014805 → st.length + sumLen (ls.drop i) < 1099511627776 →
  Ev (fun k => spec_StatesAfter.l0 k ls acc st (i : Int)) (goS acc st (ls.drop i))
 | 0, i, acc, st, hd, ha, hb => by
  rw [List.drop_eq_nil_of_le (by omega)]
  exact Ev.step (f := fun _ => some acc) (fun k => by simp only [spec_StatesAfter.l0]; rw [if_neg (by omega)]) (Ev.now _)
 | d + 1, i, acc, st, hd, ha, hb => by
  have hm : maxLen = 9223372036854775807 := rfl
  have hi : i < ls.length := by omega
  rw [getD_drop (z := []) hi] at hb ⊢
  rw [sumLen_cons] at hb
  rw [goS_cons]
  have h1 := states_spec_in ls (by omega) i hi (ls.getD i []) rfl (hx _ (getD_mem hi)) acc (by omega) (fun st' hb' => states_spec ls hls hx d (i + 1) (acc ++ [st']) st' (by omega) (by rw [List.length_append]; simp; omega) hb') (ls.getD i []).length 0 st (by omega) (by omega)
  rw [List.drop_zero] at h1
  refine Ev.step (fun k => ?_) h1
  simp only [spec_StatesAfter.l0]
  rw [if_pos (by omega)]
  rfl
theorem states_spec_is (st : List S47) (ls : List (List S39)) (hls : ls.length ≤ 1048576) (hx : ∀ x ∈ ls, x.length ≤ maxLen) (hb : st.length + sumLen ls < 1099511627776) : Ev (fun k => spec_StatesAfter.f k st ls) (goS [st] st ls) := by
 unfold spec_StatesAfter.f
 simp only [Option.bind_some, List.nil_append, List.length_nil, Nat.zero_add, if_pos (show st.length < 4398046511104 by omega)]
 exact states_spec ls hls hx ls.length 0 [st] st (by omega) (by simp; omega) hb
theorem goS_len : ∀ (ls : List (List S39)) (acc : List (List S47)) (st : List S47), (goS acc st ls).length ≤ acc.length + ls.length
 | [], acc, st => by simp [goS]
 | b :: bs, acc, st => by
  rw [goS_cons]
  cases foldB st b with
  | none => simp [thenS]
  | some st' =>
   have := goS_len bs (acc ++ [st']) st'
   simp only [thenS, List.length_append, List.length_cons, List.length_nil] at this ⊢
   omega
theorem foldB_len : ∀ (b : List S39) (st st' : List S47), foldB st b = some st' → st'.length ≤ st.length + b.length
 | [], st, st', h => by cases h; simp
 | r :: rs, st, st', h => by
  unfold foldB at h
  split at h
  ·have := foldB_len rs _ _ h
   have := applyP_len st r.f0 1 r.f2 r.f3 r.f4
   simp only [List.length_cons]
   omega
  ·cases h
theorem goS_mem (B : Nat) : ∀ (ls : List (List S39)) (acc : List (List S47)) (st : List S47), st.length + sumLen ls ≤ B → (∀ x ∈ acc, x.length ≤ B) → ∀ x ∈ goS acc st ls, x.length ≤ B
 | [], acc, st, hb, ha => by simpa [goS] using ha
 | b :: bs, acc, st, hb, ha => by
  rw [goS_cons]
  rw [sumLen_cons] at hb
  cases hf : foldB st b with
  | none => simp [thenS]
  | some st' =>
   have hl := foldB_len b st st' hf
   refine goS_mem B bs (acc ++ [st']) st' (by omega) (fun x hx => ?_)
   rcases List.mem_append.1 hx with h | h
   ·exact ha x h
   ·rw [List.mem_singleton.1 h]; omega
/- The plain law on the last state that is the given one. -/
def eqAt (a b : List S47) (i : Nat) : Bool := ((a.getD i z47).f0.toList == (b.getD i z47).f0.toList) && ((a.getD i z47).f1.toList == (b.getD i z47).f1.toList)
def eqG (a b : List S47) : Nat → Nat → Bool
 | 0, _ => true
 | d + 1, i => eqAt a b i && eqG a b d (i + 1)
def sameB (a b : List S47) : Bool := if (a.length : Int) = (b.length : Int) then eqG a b a.length 0 else false
theorem same_loop (a b : List S47) (hl : a.length ≤ maxLen) (hab : a.length = b.length) : ∀ (d i : Nat), i + d = a.length → Ev (fun k => spec_SamePairs.l0 k a b (i : Int)) (eqG a b d i)
 | 0, i, hd => Ev.step (f := fun _ => some true) (fun k => by simp only [spec_SamePairs.l0]; rw [if_neg (by omega)]) (Ev.now _)
 | d + 1, i, hd => by
  have hi : i < a.length := by omega
  have ih := same_loop a b hl hab d (i + 1) (by omega)
  have hra : rd_T47 a (i : Int) = a.getD i z47 := by simp only [rd_T47, Int.toNat_natCast]
  have hrb : rd_T47 b (i : Int) = b.getD i z47 := by simp only [rd_T47, Int.toNat_natCast]
  have step : ∀ k, spec_SamePairs.l0 (k + 1) a b (i : Int) = if eqAt a b i = true then spec_SamePairs.l0 k a b ((i + 1 : Nat) : Int) else some false := by
   intro k
   simp only [spec_SamePairs.l0]
   rw [if_pos (by omega), if_pos (by omega), if_pos (by omega), hra, hrb, wsucc hi hl]
   unfold eqAt
   cases ((a.getD i z47).f0.toList == (b.getD i z47).f0.toList) <;> cases ((a.getD i z47).f1.toList == (b.getD i z47).f1.toList) <;> simp
  unfold eqG
  cases ho : eqAt a b i with
  | true =>
   rw [Bool.true_and]
   exact Ev.step (fun k => by rw [step, if_pos ho]) ih
  | false =>
   rw [Bool.false_and]
   exact Ev.step (f := fun _ => some false) (fun k => by rw [step, ho, if_neg (by simp)]) (Ev.now _)
theorem same_spec (a b : List S47) (hl : a.length ≤ maxLen) : Ev (fun k => spec_SamePairs.f k a b) (sameB a b) := by
 unfold spec_SamePairs.f sameB
 by_cases h : (a.length : Int) = (b.length : Int)
 ·rw [if_pos h]; exact Ev.ite_pos h (same_loop a b hl (by omega) a.length 0 (by omega))
 ·rw [if_neg h]; exact Ev.ite_neg h (Ev.now _)
theorem same_both (a b : List S47) : ∀ (k : Nat) (i : Int), slices_Equal_Pair.l0 k a b (a.length : Int) i = spec_SamePairs.l0 k a b i
 | 0, i => rfl
 | k + 1, i => by
  have ih := same_both a b k
  simp only [slices_Equal_Pair.l0, spec_SamePairs.l0, ih]
  by_cases h : i < (a.length : Int)
  ·simp only [if_pos h]
  ·simp only [if_neg h]
theorem same_impl (a b : List S47) (hl : a.length ≤ maxLen) : Ev (fun k => impl_SamePairs.f k a b) (sameB a b) := by
 refine Ev.congr (fun k => ?_) (same_spec a b hl)
 unfold impl_SamePairs.f slices_Equal_Pair.f spec_SamePairs.f
 by_cases h : (a.length : Int) = (b.length : Int)
 ·rw [if_pos h, if_pos h, same_both]; cases spec_SamePairs.l0 k a b 0 <;> rfl
 ·rw [if_neg h, if_neg h]; rfl
theorem sames_is (st : List S47) : ∀ (ss : List (List S47)), (∀ x ∈ ss, x.length ≤ maxLen) → Ev (fun k => sames k st ss) (ss.map (fun s => sameB s st))
 | [], _ => Ev.now _
 | s :: ss, h => Ev.bind (f := fun k b => (sames k st ss).bind fun bs => some (b :: bs)) (same_impl s st (h s List.mem_cons_self)) (Ev.bind (sames_is st ss (fun x hx => h x (List.mem_cons_of_mem _ hx))) (Ev.now _))
theorem prefix_loop (st : List S47) (sts : List (List S47)) (hl : sts.length ≤ maxLen) (hx : ∀ x ∈ sts, x.length ≤ maxLen) : ∀ (n : Nat), n ≤ sts.length → Ev (fun k => spec_PrefixOf.l0 k st sts ((n : Int) - 1)) (lastAt (sts.map (fun s => sameB s st)) n)
 | 0, _ => Ev.step (f := fun _ => some (-1)) (fun k => by simp only [spec_PrefixOf.l0]; rw [if_neg (by omega)]) (Ev.now _)
 | n + 1, hn => by
  have hm : maxLen = 9223372036854775807 := rfl
  have hi : n < sts.length := by omega
  have hrd : rd_L8 sts (n : Int) = sts.getD n [] := by simp only [rd_L8, Int.toNat_natCast]
  have hb : (sts.map (fun s => sameB s st)).getD n false = sameB (sts.getD n []) st := by simp [List.getD_eq_getElem?_getD, hi]
  have ec : ((n + 1 : Nat) : Int) - 1 = (n : Int) := by omega
  rw [ec]
  unfold lastAt
  rw [hb]
  refine Ev.step (f := fun k => (spec_SamePairs.f k (sts.getD n []) st).bind fun t => if t = true then some (n : Int) else spec_PrefixOf.l0 k st sts ((n : Int) - 1)) (fun k => ?_) (Ev.bind (same_spec _ _ (hx _ (getD_mem hi))) ?_)
  ·simp only [spec_PrefixOf.l0]
   rw [if_pos (by omega), if_pos (by omega), if_pos (by omega), hrd, wid (x := (n : Int) - 1) (by omega) (by omega)]
  ·by_cases hc : sameB (sts.getD n []) st = true
   ·rw [if_pos hc]; exact Ev.ite_pos hc (Ev.now _)
   ·rw [if_neg hc]; exact Ev.ite_neg hc (prefix_loop st sts hl hx n (by omega))
def prefixP (st : List S47) (ls : List (List S39)) : Int := lastAt ((goS [[]] [] ls).map (fun s => sameB s st)) (goS [[]] [] ls).length
theorem prefix_spec (st : List S47) (ls : List (List S39)) (hls : ls.length ≤ 1048576) (hs : sumLen ls ≤ 1048576) : Ev (fun k => spec_PrefixOf.f k st ls) (prefixP st ls) := by
 have hm : maxLen = 9223372036854775807 := rfl
 have hx : ∀ x ∈ ls, x.length ≤ maxLen := fun x h => by have := sumLen_mem h; omega
 have hg := goS_len ls [[]] []
 simp only [List.length_cons, List.length_nil] at hg
 have hgm := goS_mem 1048576 ls [[]] [] (by simpa using hs) (by simp)
 unfold spec_PrefixOf.f prefixP
 refine Ev.bind (states_spec_is [] ls hls hx (by simp; omega)) ?_
 have hw : wrap64 (((goS [[]] [] ls).length : Int) - 1) = ((goS [[]] [] ls).length : Int) - 1 := wid (by omega) (by omega)
 simp only [hw]
 exact prefix_loop st _ (by omega) (fun x h => by have := hgm x h; omega) _ (Nat.le_refl _)
theorem prefix_impl (st : List S47) (ls : List (List S39)) (hls : ls.length ≤ 1048576) (hs : sumLen ls ≤ 1048576) : Ev (fun k => impl_PrefixOf.f k st ls) (prefixP st ls) := by
 have hm : maxLen = 9223372036854775807 := rfl
 have hx : ∀ x ∈ ls, x.length ≤ maxLen := fun x h => by have := sumLen_mem h; omega
 have hgm := goS_mem 1048576 ls [[]] [] (by simpa using hs) (by simp)
 unfold impl_PrefixOf.f prefixP
 exact Ev.bind (states_impl_is [] ls hls hx (by simp; omega)) (Ev.bind (sames_is st _ (fun x h => by have := hgm x h; omega)) (Ev.now _))
end Go.Proofs.Ytjamafchmeiifaa.V
/- The statement FnExactPrefixOf in plain data: whatever the arguments, the printed function answers true. -/
namespace Go.Proofs.Ytjamafchmeiifaa.PureFnExactPrefixOf
open Go.RowKit Go.Proofs.Ytjamafchmeiifaa.F Go.Proofs.Ytjamafchmeiifaa.V Go.Proofs.Ytjamafchmeiifaa.OFnExactPrefixOf Go.Proofs.YtjamafchmeiifaaW.PrintWords Go.Proofs.YtjamafchmeiifaaW.PrintLast Go.Proofs.YtjamafchmeiifaaW.PrintMore
set_option linter.unusedVariables false
set_option linter.unusedSimpArgs false
theorem sumLen_map {α β : Type} (f : α → β) (l : List (List α)) : sumLen (l.map (List.map f)) = sumLen l := by
 unfold sumLen
 rw [List.map_map]
 congr 1
 apply List.map_congr_left
 intro x _
 simp
theorem pure : ∀ (a0 : (List S79)) (a1 : (List (List S120))), Gs a0 a1 → ∃ k, laws_FnExactPrefixOf.f k a0 a1 = some true := by
 rintro a0 a1 ⟨⟨h0, g0⟩, h1, g1⟩
 refine Ev.rounds (g := fun k => laws_FnExactPrefixOf.f k a0 a1) ?_
 have hm : maxLen = 9223372036854775807 := rfl
 unfold laws_FnExactPrefixOf.f
 obtain ⟨r, hr, hc⟩ := szPairS_total a0 h0 (fun x hx => g0 x hx) 1048576 (by omega) (by omega)
 refine Ev.bind hr ?_
 rcases hc with rfl | ⟨hr0, hr1⟩
 ·exact Ev.ite_pos (by omega) (Ev.now _)
 refine Ev.ite_neg (by omega) ?_
 obtain ⟨r2, hr2, hc2⟩ := szRecordSS_total a1 h1 (fun x hx => ⟨(g1 x hx).1, fun y hy => ⟨((g1 x hx).2 y hy).1, ((g1 x hx).2 y hy).2.2.2.1, ((g1 x hx).2 y hy).2.2.2.2⟩⟩) r hr0 (by omega)
 refine Ev.bind hr2 ?_
 rcases hc2 with rfl | ⟨hr20, hr21⟩
 ·exact Ev.ite_pos (by omega) (Ev.now _)
 refine Ev.ite_neg (by omega) ?_
 have e1 := toPairS_is a0 (by omega)
 have hx : ∀ x ∈ a1, x.length ≤ 1048576 := fun x h => by have := sumLen_mem h; omega
 have e2 := toRecordSS_is a1 (by omega) hx
 have l1 : (a0.map cP).length ≤ maxLen := by rw [List.length_map]; omega
 have l2 : (a1.map (List.map cR)).length ≤ 1048576 := by rw [List.length_map]; omega
 have l3 : sumLen (a1.map (List.map cR)) ≤ 1048576 := by rw [sumLen_map]; omega
 refine Ev.bind e1 (Ev.bind e2 (Ev.bind (prefix_spec _ _ l2 l3) (Ev.bind e1 (Ev.bind e2 (Ev.bind (prefix_impl _ _ l2 l3) (Ev.ite_pos rfl (Ev.bind e1 (Ev.bind (eqPairS_refl _ l1) (Ev.ite_pos rfl (Ev.bind e2 (Ev.bind (eqRecordSS_refl _ (by omega) (fun x h => by have := sumLen_mem h; omega)) (Ev.ite_pos rfl (Ev.now _)))))))))))))
end Go.Proofs.Ytjamafchmeiifaa.PureFnExactPrefixOf
/- The statement FnExactPrefixOf of the given program: whatever the arguments, it answers true, and the arguments read as they did. -/
namespace Go.Proofs.Ytjamafchmeiifaa.fnExactPrefixOf
open Go.ChangeShapes Go.WideShapes Go.ChangeAt Go.RowKit Go.Proofs.Ytjamafchmeiifaa.F Go.Proofs.Ytjamafchmeiifaa.OFnExactPrefixOf Go.Proofs.YtjamafchmeiifaaXR
open Go.ChangeMaps (open_string shut_string)
set_option linter.unusedVariables false
theorem own : ownKnob Try.prog.godebug = none := by kernel_rfl
theorem laidOut : laidOutB Try.prog = true := by kernel_rfl
set_option maxRecDepth 100000 in
theorem lifted (os : Os) (started : os.Started) (H : Type) (enc : TypeId × Value → H) :
  ReturnsInHanded {} Try.checked os 3 .any (Rows.fnExactPrefixOfSpec.pre6 enc Try.prog Try.f3 Rows.fnExactPrefixOfRow.domain false) (Rows.fnExactPrefixOfSpec.post enc Try.prog Try.f3 false true false false) := by
 refine returnsInHanded_of_change_sized (C := Try.checked) own started (by kernel_rfl) Try.func3
  (ChangeSpec.witness6 (enc := enc) (C := Try.checked) false ⟨#[], #[.slice none 0 0, .slice none 0 0], []⟩ 8 (by kernel_rfl) (by kernel_rfl) (by kernel_rfl) (by kernel_rfl)) ?_
 intro W base args ds gs before hval0 hW hcnd hsz0 _
 have hval : ∀ (j : Nat) t v, Try.f3.params[j]? = some t → args[j]? = some v → Value.okWide Try.prog W .any base t v := hval0
 have hW' := hW
 obtain ⟨p, q, hA0, hV, rfl, hfz, hnd⟩ := hW
 have hA : DataW.TrodAll enc Try.prog W 0 (fun _ => true) true Try.f3.params.toList args.toList ds p := hA0
 rw [Try.params3] at hA hval
 obtain ⟨v0, vs0, d0, ds0, p0, q0, hargs, rfl, rfl, h0, r0⟩ := trodAll_cons hA
 obtain ⟨v1, vs1, d1, ds1, p1, q1, rfl, rfl, rfl, h1, r1⟩ := trodAll_cons r0
 obtain ⟨rfl, rfl, rfl⟩ := trodAll_nil r1
 obtain rfl : args = #[v0, v1] := by cases args; simp_all
 obtain ⟨rfl, rfl⟩ := trodVars_none hV
 have k0 := h0
 have lt0 : ∀ x ∈ p0, x.block < W.heap.size := by obtain ⟨m, hm⟩ := k0; exact DataW.trod_lt m _ _ _ hm
 obtain ⟨A0, c0, a0, rfl, hc0, hr0, hg0⟩ := open_slice_arg Try.underlying22 (by kernel_rfl) (hval 0 22 v0 rfl rfl) op79 h0
 have k1 := h1
 have lt1 : ∀ x ∈ p1, x.block < W.heap.size := by obtain ⟨m, hm⟩ := k1; exact DataW.trod_lt m _ _ _ hm
 obtain ⟨A1, c1, a1, rfl, hc1, hr1, hg1⟩ := open_slice_arg Try.underlying23 (by kernel_rfl) (hval 1 23 v1 rfl rfl) (Opens.slice Try.underlying81 (by kernel_rfl) op120) h1
 obtain ⟨k, h⟩ := PureFnExactPrefixOf.pure a0 a1 ⟨hg0, hg1⟩
 refine (laws_FnExactPrefixOf.calls k _ _ a0 _ _ a1 true W hr0 hc0 hr1 hc1 h).mono fun e W' ⟨he, bel0⟩ => ?_
 have bel : Below W.heap.size W W' := bel0
 subst he
 exact ⟨_, rfl, _, _, _, [], _, [], hW', trodAll_mk1 (shut_bool Try.underlying4 _), (trodAll_cons_mk (Below.trod laidOut (by kernel_rfl) (of_decide_eq_true (by kernel_rfl)) k0 bel lt0) (trodAll_cons_mk (Below.trod laidOut (by kernel_rfl) (of_decide_eq_true (by kernel_rfl)) k1 bel lt1) trodAll_mk0)), rfl, bel.frame _, fun h => by cases h⟩
theorem over : Rows.fnExactPrefixOfRow.holds Try.pinned (OpenSpec.ofChange Rows.fnExactPrefixOfSpec) :=
 OpenClaim.holds_of_wide 3 Try.f3 rfl rfl rfl rfl rfl rfl rfl ⟨rfl, rfl, rfl, rfl, rfl⟩ rfl rfl rfl rfl rfl (by kernel_rfl) Try.func3 (by kernel_rfl)
  (of_decide_eq_true (by kernel_rfl)) (by unfold Func.isWrapper; first | (rw [if_pos (by decide +kernel)]; kernel_rfl) | (rw [if_neg (by decide +kernel)]; exact ⟨rfl, rfl⟩))
  (fun os started H enc _ => lifted os started H enc)
theorem proved : Rows.FnExactPrefixOfSaid := over
#print axioms proved
end Go.Proofs.Ytjamafchmeiifaa.fnExactPrefixOf
namespace Go.Proofs.Ytjamafchmeiifaa
/-- The row, under a short name, for the claim. -/
theorem fnExactPrefixOf_holds : Rows.FnExactPrefixOfSaid := fnExactPrefixOf.proved
end Go.Proofs.Ytjamafchmeiifaa
