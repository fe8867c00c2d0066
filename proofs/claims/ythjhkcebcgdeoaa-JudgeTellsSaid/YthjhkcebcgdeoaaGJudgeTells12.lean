import Derived.Test.YthjhkcebcgdeoaaGJudgeTells2
import Derived.Test.YthjhkcebcgdeoaaGJudgeTells11
import Derived.Test.YthjhkcebcgdeoaaGJudgeTells10
namespace Go.Proofs.Ythjhkcebcgdeoaa.Q
open Go.RowKit Go.Proofs.YthjhkcebcgdeoaaW.PrintWords Go.Proofs.YthjhkcebcgdeoaaW.PrintLast Go.Proofs.YthjhkcebcgdeoaaW.PrintMore
attribute [local go_sem] max2_int min2_int max_two min_two max_three min_three max_four min_four   -- for this text's walks alone
set_option linter.unusedVariables false
set_option linter.unusedSimpArgs false
def tenementref22_Read.f (k : Nat) (l0 : List (S81)) (a1 : ByteArray) (a2 : ByteArray) (a3_0 : Int) (a3_1 : Int) (a3_2 : Int) (a3_3 : Int) : Option (ByteArray × Bool) := (tenementref22_last.f k l0 a1 a2 a3_0 a3_1 a3_2 a3_3 false).bind fun bt236 => (if bt236.2.2.2.2 = true then (if bt236.2.2.2.1 = true then (some ((⟨#[]⟩ : ByteArray), false)) else (some (bt236.2.2.1, true))) else (some ((⟨#[]⟩ : ByteArray), false)))
set_option maxHeartbeats 8000000 in
set_option maxRecDepth 100000 in
theorem tenementref22_Read.calls (k : Nat) (A0 : Option Addr) (c0 : Nat) (l0 : List (S81)) (a1 : ByteArray) (a2 : ByteArray) (a3_0 : Int) (a3_1 : Int) (a3_2 : Int) (a3_3 : Int) (r1 : ByteArray) (r2 : Bool) (w : World) (hr0 : Kd.C k81 w A0 l0.length l0) (hc0 : l0.length ≤ c0) (h : tenementref22_Read.f k l0 a1 a2 a3_0 a3_1 a3_2 a3_3 = some (r1, r2)) :
  Calls Try.prog 15 #[.slice A0 l0.length c0, .string a1, .string a2, .agg #[.int .u64 a3_0, .int .u64 a3_1, .int .u64 a3_2, .int .u64 a3_3]] w fun e w' => e = .returned (.tuple #[.string r1, .bool r2]) ∧ Below w.heap.size w w' := by
 have hu42 := Try.underlying42
 have hu86 := Try.underlying86
 have HR0 := Aside0.mk hr0
 have HC0 := Aside0.mk hc0
 clear hr0 hc0
 have HB := Aside0.mk (Below.refl w.heap.size w)
 have H : ((tenementref22_last.f k l0 a1 a2 a3_0 a3_1 a3_2 a3_3 false).bind fun bt236 => (if bt236.2.2.2.2 = true then (if bt236.2.2.2.1 = true then (some ((⟨#[]⟩ : ByteArray), false)) else (some (bt236.2.2.1, true))) else (some ((⟨#[]⟩ : ByteArray), false)))) = some (r1, r2) := h
 clear h
 replace H := Option.bind_eq_some_iff.mp H
 obtain ⟨⟨t236, t237, t238, t239, t240⟩, A50, H⟩ := H
 replace H : (if t240 = true then (if t239 = true then (some ((⟨#[]⟩ : ByteArray), false)) else (some (t238, true))) else (some ((⟨#[]⟩ : ByteArray), false))) = some (r1, r2) := H
 have A5 := Aside0.mk A50
 clear A50
 by_cases c6 : t240 = true
 rotate_left
 ·replace c6 := Bool.eq_false_iff.mpr c6
  subst c6
  have H1 : (some ((⟨#[]⟩ : ByteArray), false)) = some (r1, r2) := by rw [if_neg (show ¬ (false = true) by decide)] at H; exact H
  clear H
  have H := H1
  clear H1
  simp only [Option.some.injEq, Prod.mk.injEq] at H
  obtain ⟨rfl, rfl⟩ := H
  go_enter Try.func15, Try.ntmps15
  go_wp2_with (first | ((with_reducible refine gate_dst (N := 7) rfl ?_); refine Ka_ 7 #[.int .u64 a3_0, .int .u64 a3_1, .int .u64 a3_2, .int .u64 a3_3] 42 ?_; intro gb235 hg w20 hbox hb; have BK235 := Aside0.mk (hbox); have GW235 := Kw_ HB hg; have GE235 := GW235; replace HB := Ks_ HB hb; clear hb hbox hg; obtain ⟨hcz21_0, hcz21_1, hcz21_2, hcz21_3, hfz21_0, hfz21_1, hfz21_2, hfz21_3⟩ := Ke4_ BK235.out) | ((with_reducible refine gate_callee (f := 35) rfl ?_); refine Kg_ (some 17) rfl rfl Try.func35 (by kernel_rfl) rfl #[.slice A0 l0.length c0, .string a1, .string a2, .agg #[.int .u64 a3_0, .int .u64 a3_1, .int .u64 a3_2, .int .u64 a3_3], .bool false] rfl ?_; (with_reducible refine (tenementref22_last.calls k _ _ l0 a1 a2 a3_0 a3_1 a3_2 a3_3 false t236 t237 t238 t239 false _ ?side1 ?side2 A5.out).mono ?_); (case side1 => repeat (first | exact (Kd.C_below HR0.out HB.out) | (with_reducible refine Kd.C_alloc ?_ _) | (with_reducible refine Kd.C_drewN ?_ _) | (with_reducible refine Kd.C_drew ?_))); (case side2 => exact HC0.out); rintro e w22 ⟨rfl, hb⟩; refine ⟨_, rfl, ?_⟩; replace BK235 := Kb_ BK235 hb; replace HB := Ks_ HB hb; (try clear hb); (try clear hb2); (try clear hk); (try clear hi)) | ((with_reducible refine gate_dst (N := 10) rfl ?_); refine Ka_ 10 #[.string (⟨#[]⟩ : ByteArray), .string (⟨#[]⟩ : ByteArray), .string (⟨#[]⟩ : ByteArray), .bool false] 86 ?_; intro gb241 hg w23 hbox hb; have BK241 := Aside0.mk (hbox); have GW241 := Kw_ HB hg; have GE241 := GW241; have NB235_241 := Kl_ BK235 hg; have NB241_235 := Kr_ BK235 hg; replace BK235 := Kb_ BK235 hb; replace HB := Ks_ HB hb; clear hb hbox hg; have hnb24 := NB241_235.out; have hnc24 := NB235_241.out; obtain ⟨hcz25_0, hcz25_1, hcz25_2, hcz25_3, hfz25_0, hfz25_1, hfz25_2, hfz25_3⟩ := Ke4_ BK241.out))
  go_ret2
  exact ⟨Kh_, K2a_ HB GE235 GE241⟩
 subst c6
 have H1 : (if t239 = true then (some ((⟨#[]⟩ : ByteArray), false)) else (some (t238, true))) = some (r1, r2) := by rw [if_pos rfl] at H; exact H
 clear H
 have H := H1
 clear H1
 by_cases c7 : t239 = true
 ·subst c7
  have H1 : (some ((⟨#[]⟩ : ByteArray), false)) = some (r1, r2) := by rw [if_pos rfl] at H; exact H
  clear H
  have H := H1
  clear H1
  simp only [Option.some.injEq, Prod.mk.injEq] at H
  obtain ⟨rfl, rfl⟩ := H
  go_enter Try.func15, Try.ntmps15
  go_wp2_with (first | ((with_reducible refine gate_dst (N := 7) rfl ?_); refine Ka_ 7 #[.int .u64 a3_0, .int .u64 a3_1, .int .u64 a3_2, .int .u64 a3_3] 42 ?_; intro gb235 hg w8 hbox hb; have BK235 := Aside0.mk (hbox); have GW235 := Kw_ HB hg; have GE235 := GW235; replace HB := Ks_ HB hb; clear hb hbox hg; obtain ⟨hcz9_0, hcz9_1, hcz9_2, hcz9_3, hfz9_0, hfz9_1, hfz9_2, hfz9_3⟩ := Ke4_ BK235.out) | ((with_reducible refine gate_callee (f := 35) rfl ?_); refine Kg_ (some 17) rfl rfl Try.func35 (by kernel_rfl) rfl #[.slice A0 l0.length c0, .string a1, .string a2, .agg #[.int .u64 a3_0, .int .u64 a3_1, .int .u64 a3_2, .int .u64 a3_3], .bool false] rfl ?_; (with_reducible refine (tenementref22_last.calls k _ _ l0 a1 a2 a3_0 a3_1 a3_2 a3_3 false t236 t237 t238 true true _ ?side1 ?side2 A5.out).mono ?_); (case side1 => repeat (first | exact (Kd.C_below HR0.out HB.out) | (with_reducible refine Kd.C_alloc ?_ _) | (with_reducible refine Kd.C_drewN ?_ _) | (with_reducible refine Kd.C_drew ?_))); (case side2 => exact HC0.out); rintro e w10 ⟨rfl, hb⟩; refine ⟨_, rfl, ?_⟩; replace BK235 := Kb_ BK235 hb; replace HB := Ks_ HB hb; (try clear hb); (try clear hb2); (try clear hk); (try clear hi)) | ((with_reducible refine gate_dst (N := 10) rfl ?_); refine Ka_ 10 #[.string (⟨#[]⟩ : ByteArray), .string (⟨#[]⟩ : ByteArray), .string (⟨#[]⟩ : ByteArray), .bool false] 86 ?_; intro gb241 hg w11 hbox hb; have BK241 := Aside0.mk (hbox); have GW241 := Kw_ HB hg; have GE241 := GW241; have NB235_241 := Kl_ BK235 hg; have NB241_235 := Kr_ BK235 hg; replace BK235 := Kb_ BK235 hb; replace HB := Ks_ HB hb; clear hb hbox hg; have hnb12 := NB241_235.out; have hnc12 := NB235_241.out; obtain ⟨hcz13_0, hcz13_1, hcz13_2, hcz13_3, hfz13_0, hfz13_1, hfz13_2, hfz13_3⟩ := Ke4_ BK241.out))
  go_ret2
  exact ⟨Kh_, K2a_ HB GE235 GE241⟩
 replace c7 := Bool.eq_false_iff.mpr c7
 subst c7
 have H1 : (some (t238, true)) = some (r1, r2) := by rw [if_neg (show ¬ (false = true) by decide)] at H; exact H
 clear H
 have H := H1
 clear H1
 simp only [Option.some.injEq, Prod.mk.injEq] at H
 obtain ⟨rfl, rfl⟩ := H
 go_enter Try.func15, Try.ntmps15
 go_wp2_with (first | ((with_reducible refine gate_dst (N := 7) rfl ?_); refine Ka_ 7 #[.int .u64 a3_0, .int .u64 a3_1, .int .u64 a3_2, .int .u64 a3_3] 42 ?_; intro gb235 hg w14 hbox hb; have BK235 := Aside0.mk (hbox); have GW235 := Kw_ HB hg; have GE235 := GW235; replace HB := Ks_ HB hb; clear hb hbox hg; obtain ⟨hcz15_0, hcz15_1, hcz15_2, hcz15_3, hfz15_0, hfz15_1, hfz15_2, hfz15_3⟩ := Ke4_ BK235.out) | ((with_reducible refine gate_callee (f := 35) rfl ?_); refine Kg_ (some 17) rfl rfl Try.func35 (by kernel_rfl) rfl #[.slice A0 l0.length c0, .string a1, .string a2, .agg #[.int .u64 a3_0, .int .u64 a3_1, .int .u64 a3_2, .int .u64 a3_3], .bool false] rfl ?_; (with_reducible refine (tenementref22_last.calls k _ _ l0 a1 a2 a3_0 a3_1 a3_2 a3_3 false t236 t237 t238 false true _ ?side1 ?side2 A5.out).mono ?_); (case side1 => repeat (first | exact (Kd.C_below HR0.out HB.out) | (with_reducible refine Kd.C_alloc ?_ _) | (with_reducible refine Kd.C_drewN ?_ _) | (with_reducible refine Kd.C_drew ?_))); (case side2 => exact HC0.out); rintro e w16 ⟨rfl, hb⟩; refine ⟨_, rfl, ?_⟩; replace BK235 := Kb_ BK235 hb; replace HB := Ks_ HB hb; (try clear hb); (try clear hb2); (try clear hk); (try clear hi)) | ((with_reducible refine gate_dst (N := 10) rfl ?_); refine Ka_ 10 #[.string (⟨#[]⟩ : ByteArray), .string (⟨#[]⟩ : ByteArray), .string (⟨#[]⟩ : ByteArray), .bool false] 86 ?_; intro gb241 hg w17 hbox hb; have BK241 := Aside0.mk (hbox); have GW241 := Kw_ HB hg; have GE241 := GW241; have NB235_241 := Kl_ BK235 hg; have NB241_235 := Kr_ BK235 hg; replace BK235 := Kb_ BK235 hb; replace HB := Ks_ HB hb; clear hb hbox hg; have hnb18 := NB241_235.out; have hnc18 := NB235_241.out; obtain ⟨hcz19_0, hcz19_1, hcz19_2, hcz19_3, hfz19_0, hfz19_1, hfz19_2, hfz19_3⟩ := Ke4_ BK241.out))
 go_ret2
 exact ⟨Kh_, K2a_ HB GE235 GE241⟩
def tenementref22_Last.f (k : Nat) (l0 : List (S81)) (a1 : ByteArray) (a2 : ByteArray) : Option (ByteArray × Bool) := (tenementref22_last.f k l0 a1 a2 0 0 0 0 true).bind fun bt242 => (if bt242.2.2.2.2 = true then (if bt242.2.2.2.1 = true then (some ((⟨#[]⟩ : ByteArray), false)) else (some (bt242.2.2.1, true))) else (some ((⟨#[]⟩ : ByteArray), false)))
set_option maxHeartbeats 8000000 in
set_option maxRecDepth 100000 in
theorem tenementref22_Last.calls (k : Nat) (A0 : Option Addr) (c0 : Nat) (l0 : List (S81)) (a1 : ByteArray) (a2 : ByteArray) (r1 : ByteArray) (r2 : Bool) (w : World) (hr0 : Kd.C k81 w A0 l0.length l0) (hc0 : l0.length ≤ c0) (h : tenementref22_Last.f k l0 a1 a2 = some (r1, r2)) :
  Calls Try.prog 17 #[.slice A0 l0.length c0, .string a1, .string a2] w fun e w' => e = .returned (.tuple #[.string r1, .bool r2]) ∧ Below w.heap.size w w' := by
 have hu42 := Try.underlying42
 have hu86 := Try.underlying86
 have HR0 := Aside0.mk hr0
 have HC0 := Aside0.mk hc0
 clear hr0 hc0
 have HB := Aside0.mk (Below.refl w.heap.size w)
 have H : ((tenementref22_last.f k l0 a1 a2 0 0 0 0 true).bind fun bt242 => (if bt242.2.2.2.2 = true then (if bt242.2.2.2.1 = true then (some ((⟨#[]⟩ : ByteArray), false)) else (some (bt242.2.2.1, true))) else (some ((⟨#[]⟩ : ByteArray), false)))) = some (r1, r2) := h
 clear h
 replace H := Option.bind_eq_some_iff.mp H
 obtain ⟨⟨t242, t243, t244, t245, t246⟩, A40, H⟩ := H
 replace H : (if t246 = true then (if t245 = true then (some ((⟨#[]⟩ : ByteArray), false)) else (some (t244, true))) else (some ((⟨#[]⟩ : ByteArray), false))) = some (r1, r2) := H
 have A4 := Aside0.mk A40
 clear A40
 by_cases c5 : t246 = true
 rotate_left
 ·replace c5 := Bool.eq_false_iff.mpr c5
  subst c5
  have H1 : (some ((⟨#[]⟩ : ByteArray), false)) = some (r1, r2) := by rw [if_neg (show ¬ (false = true) by decide)] at H; exact H
  clear H
  have H := H1
  clear H1
  simp only [Option.some.injEq, Prod.mk.injEq] at H
  obtain ⟨rfl, rfl⟩ := H
  go_enter Try.func17, Try.ntmps17
  go_wp2_with (first | ((with_reducible refine gate_callee (f := 35) rfl ?_); refine Kg_ (some 15) rfl rfl Try.func35 (by kernel_rfl) rfl #[.slice A0 l0.length c0, .string a1, .string a2, .agg #[.int .u64 0, .int .u64 0, .int .u64 0, .int .u64 0], .bool true] rfl ?_; (with_reducible refine (tenementref22_last.calls k _ _ l0 a1 a2 0 0 0 0 true t242 t243 t244 t245 false _ ?side1 ?side2 A4.out).mono ?_); (case side1 => repeat (first | exact HR0.out | (with_reducible refine Kd.C_alloc ?_ _) | (with_reducible refine Kd.C_drewN ?_ _) | (with_reducible refine Kd.C_drew ?_))); (case side2 => exact HC0.out); rintro e w13 ⟨rfl, hb⟩; refine ⟨_, rfl, ?_⟩; replace HB := Ks_ HB hb; (try clear hb); (try clear hb2); (try clear hk); (try clear hi)) | ((with_reducible refine gate_dst (N := 8) rfl ?_); refine Ka_ 8 #[.string (⟨#[]⟩ : ByteArray), .string (⟨#[]⟩ : ByteArray), .string (⟨#[]⟩ : ByteArray), .bool false] 86 ?_; intro gb247 hg w14 hbox hb; have BK247 := Aside0.mk (hbox); have GW247 := Kw_ HB hg; have GE247 := GW247; replace HB := Ks_ HB hb; clear hb hbox hg; obtain ⟨hcz15_0, hcz15_1, hcz15_2, hcz15_3, hfz15_0, hfz15_1, hfz15_2, hfz15_3⟩ := Ke4_ BK247.out))
  go_ret2
  exact ⟨Kh_, Kz_ HB GE247⟩
 subst c5
 have H1 : (if t245 = true then (some ((⟨#[]⟩ : ByteArray), false)) else (some (t244, true))) = some (r1, r2) := by rw [if_pos rfl] at H; exact H
 clear H
 have H := H1
 clear H1
 by_cases c6 : t245 = true
 ·subst c6
  have H1 : (some ((⟨#[]⟩ : ByteArray), false)) = some (r1, r2) := by rw [if_pos rfl] at H; exact H
  clear H
  have H := H1
  clear H1
  simp only [Option.some.injEq, Prod.mk.injEq] at H
  obtain ⟨rfl, rfl⟩ := H
  go_enter Try.func17, Try.ntmps17
  go_wp2_with (first | ((with_reducible refine gate_callee (f := 35) rfl ?_); refine Kg_ (some 15) rfl rfl Try.func35 (by kernel_rfl) rfl #[.slice A0 l0.length c0, .string a1, .string a2, .agg #[.int .u64 0, .int .u64 0, .int .u64 0, .int .u64 0], .bool true] rfl ?_; (with_reducible refine (tenementref22_last.calls k _ _ l0 a1 a2 0 0 0 0 true t242 t243 t244 true true _ ?side1 ?side2 A4.out).mono ?_); (case side1 => repeat (first | exact HR0.out | (with_reducible refine Kd.C_alloc ?_ _) | (with_reducible refine Kd.C_drewN ?_ _) | (with_reducible refine Kd.C_drew ?_))); (case side2 => exact HC0.out); rintro e w7 ⟨rfl, hb⟩; refine ⟨_, rfl, ?_⟩; replace HB := Ks_ HB hb; (try clear hb); (try clear hb2); (try clear hk); (try clear hi)) | ((with_reducible refine gate_dst (N := 8) rfl ?_); refine Ka_ 8 #[.string (⟨#[]⟩ : ByteArray), .string (⟨#[]⟩ : ByteArray), .string (⟨#[]⟩ : ByteArray), .bool false] 86 ?_; intro gb247 hg w8 hbox hb; have BK247 := Aside0.mk (hbox); have GW247 := Kw_ HB hg; have GE247 := GW247; replace HB := Ks_ HB hb; clear hb hbox hg; obtain ⟨hcz9_0, hcz9_1, hcz9_2, hcz9_3, hfz9_0, hfz9_1, hfz9_2, hfz9_3⟩ := Ke4_ BK247.out))
  go_ret2
  exact ⟨Kh_, Kz_ HB GE247⟩
 replace c6 := Bool.eq_false_iff.mpr c6
 subst c6
 have H1 : (some (t244, true)) = some (r1, r2) := by rw [if_neg (show ¬ (false = true) by decide)] at H; exact H
 clear H
 have H := H1
 clear H1
 simp only [Option.some.injEq, Prod.mk.injEq] at H
 obtain ⟨rfl, rfl⟩ := H
 go_enter Try.func17, Try.ntmps17
 go_wp2_with (first | ((with_reducible refine gate_callee (f := 35) rfl ?_); refine Kg_ (some 15) rfl rfl Try.func35 (by kernel_rfl) rfl #[.slice A0 l0.length c0, .string a1, .string a2, .agg #[.int .u64 0, .int .u64 0, .int .u64 0, .int .u64 0], .bool true] rfl ?_; (with_reducible refine (tenementref22_last.calls k _ _ l0 a1 a2 0 0 0 0 true t242 t243 t244 false true _ ?side1 ?side2 A4.out).mono ?_); (case side1 => repeat (first | exact HR0.out | (with_reducible refine Kd.C_alloc ?_ _) | (with_reducible refine Kd.C_drewN ?_ _) | (with_reducible refine Kd.C_drew ?_))); (case side2 => exact HC0.out); rintro e w10 ⟨rfl, hb⟩; refine ⟨_, rfl, ?_⟩; replace HB := Ks_ HB hb; (try clear hb); (try clear hb2); (try clear hk); (try clear hi)) | ((with_reducible refine gate_dst (N := 8) rfl ?_); refine Ka_ 8 #[.string (⟨#[]⟩ : ByteArray), .string (⟨#[]⟩ : ByteArray), .string (⟨#[]⟩ : ByteArray), .bool false] 86 ?_; intro gb247 hg w11 hbox hb; have BK247 := Aside0.mk (hbox); have GW247 := Kw_ HB hg; have GE247 := GW247; replace HB := Ks_ HB hb; clear hb hbox hg; obtain ⟨hcz12_0, hcz12_1, hcz12_2, hcz12_3, hfz12_0, hfz12_1, hfz12_2, hfz12_3⟩ := Ke4_ BK247.out))
 go_ret2
 exact ⟨Kh_, Kz_ HB GE247⟩
end Go.Proofs.Ythjhkcebcgdeoaa.Q

set_option linter.unusedVariables false
set_option linter.unusedSimpArgs false
namespace Go.Proofs.Ythjhkcebcgdeoaa.Pure
open Go Go.RowKit Go.Proofs.Ythjhkcebcgdeoaa.Q Go.Proofs.YthjhkcebcgdeoaaW.PrintWords Go.Proofs.YthjhkcebcgdeoaaW.PrintLast Go.Proofs.YthjhkcebcgdeoaaW.PrintMore Go.Proofs.Ythjhkcebcgdeoaa.Plain
open Go.Proofs.Ythjhkcebcgdeoaa.Jud (Tx St Wn one lst allS hit)
theorem rdM (l : List Tx) (i : Nat) (h : i < l.length) : rd_T81 (l.map rt_) (i : Int) = rt_ l[i] := by
 unfold rd_T81
 rw [Int.toNat_natCast, List.getD_eq_getElem?_getD, List.getElem?_map, List.getElem?_eq_getElem h]
 rfl
theorem rdMW (l : List Wr) (i : Nat) (h : i < l.length) : rd_T86 (l.map rw_) (i : Int) = rw_ l[i] := by
 unfold rd_T86
 rw [Int.toNat_natCast, List.getD_eq_getElem?_getD, List.getElem?_map, List.getElem?_eq_getElem h]
 rfl
def u4 (x : St) : Prop := u64B x.f0.f0 ∧ u64B x.f0.f1 ∧ u64B x.f0.f2 ∧ u64B x.f0.f3
theorem less_f (a0 a1 a2 a3 b0 b1 b2 b3 : Int) {k : Nat} (hk : 5 ≤ k) : tenementref07_less.f k a0 a1 a2 a3 b0 b1 b2 b3 = some (decide (lex [a0, a1, a2, a3] [b0, b1, b2, b3] < 0)) := by
 obtain ⟨k, rfl⟩ : ∃ m, k = m + 5 := ⟨k - 5, by omega⟩
 unfold tenementref07_less.f
 rw [tenementref07_less.l0, if_pos (by omega), if_pos rfl, lex]
 by_cases c : a0 = b0
 ·subst c
  rw [if_pos rfl, if_neg (by omega), if_neg (by omega), show wrap64 (0 + 1) = 1 from wrap64_id (by omega) (by omega), tenementref07_less.l0, if_pos (by omega), if_neg (by omega), if_pos rfl, lex]
  by_cases c : a1 = b1
  ·subst c
   rw [if_pos rfl, if_neg (by omega), if_neg (by omega), show wrap64 (1 + 1) = 2 from wrap64_id (by omega) (by omega), tenementref07_less.l0, if_pos (by omega), if_neg (by omega), if_neg (by omega), if_pos rfl, lex]
   by_cases c : a2 = b2
   ·subst c
    rw [if_pos rfl, if_neg (by omega), if_neg (by omega), show wrap64 (2 + 1) = 3 from wrap64_id (by omega) (by omega), tenementref07_less.l0, if_pos (by omega), if_neg (by omega), if_neg (by omega), if_neg (by omega), if_pos rfl, lex]
    by_cases c : a3 = b3
    ·subst c
     rw [if_pos rfl, if_neg (by omega), if_neg (by omega), show wrap64 (3 + 1) = 4 from wrap64_id (by omega) (by omega), tenementref07_less.l0, if_neg (by omega)]
     simp [lex]
    ·rw [if_neg c]
     congr 1
     by_cases d : a3 < b3
     ·rw [if_pos d, decide_eq_true d]; rfl
     ·rw [if_neg d, if_pos (by omega), decide_eq_false d]; rfl
   ·rw [if_neg c]
    congr 1
    by_cases d : a2 < b2
    ·rw [if_pos d, decide_eq_true d]; rfl
    ·rw [if_neg d, if_pos (by omega), decide_eq_false d]; rfl
  ·rw [if_neg c]
   congr 1
   by_cases d : a1 < b1
   ·rw [if_pos d, decide_eq_true d]; rfl
   ·rw [if_neg d, if_pos (by omega), decide_eq_false d]; rfl
 ·rw [if_neg c]
  congr 1
  by_cases d : a0 < b0
  ·rw [if_pos d, decide_eq_true d]; rfl
  ·rw [if_neg d, if_pos (by omega), decide_eq_false d]; rfl
theorem leq_f (a0 a1 a2 a3 b0 b1 b2 b3 : Int) {k : Nat} (hk : 5 ≤ k) : tenementref06_Leq.f k a0 a1 a2 a3 b0 b1 b2 b3 = some (decide (a0 ≤ b0 ∧ a1 ≤ b1 ∧ a2 ≤ b2 ∧ a3 ≤ b3)) := by
 obtain ⟨k, rfl⟩ : ∃ m, k = m + 5 := ⟨k - 5, by omega⟩
 unfold tenementref06_Leq.f
 rw [tenementref06_Leq.l0, if_pos (by omega), if_pos rfl]
 by_cases c : a0 > b0
 ·rw [if_pos c, decide_eq_false (by omega)]
 rw [if_neg c, show wrap64 (0 + 1) = 1 from wrap64_id (by omega) (by omega), tenementref06_Leq.l0, if_pos (by omega), if_neg (by omega), if_pos rfl]
 by_cases c1 : a1 > b1
 ·rw [if_pos c1, decide_eq_false (by omega)]
 rw [if_neg c1, show wrap64 (1 + 1) = 2 from wrap64_id (by omega) (by omega), tenementref06_Leq.l0, if_pos (by omega), if_neg (by omega), if_neg (by omega), if_pos rfl]
 by_cases c2 : a2 > b2
 ·rw [if_pos c2, decide_eq_false (by omega)]
 rw [if_neg c2, show wrap64 (2 + 1) = 3 from wrap64_id (by omega) (by omega), tenementref06_Leq.l0, if_pos (by omega), if_neg (by omega), if_neg (by omega), if_neg (by omega), if_pos rfl]
 by_cases c3 : a3 > b3
 ·rw [if_pos c3, decide_eq_false (by omega)]
 rw [if_neg c3, show wrap64 (3 + 1) = 4 from wrap64_id (by omega) (by omega), tenementref06_Leq.l0, if_neg (by omega), decide_eq_true (by omega)]
theorem rseen_f (a0 a1 a2 a3 e b0 b1 b2 b3 : Int) {k : Nat} (hk : 5 ≤ k) : tenementref07_Seen.f k a0 a1 a2 a3 e b0 b1 b2 b3 = some (decide (a0 ≤ b0 ∧ a1 ≤ b1 ∧ a2 ≤ b2 ∧ a3 ≤ b3)) := by
 unfold tenementref07_Seen.f
 rw [leq_f _ _ _ _ _ _ _ _ hk]
 rfl
theorem sumR (a b c d : Int) (ha : u64B a) : tenementref06_Sum.f a b c d = some (sumv a b c d) := by
 unfold tenementref06_Sum.f sumv
 congr 1
 simp only [IntKind.wrap_u64]
 unfold u64B at ha
 omega
theorem rorder_f (x y : St) (hx : u4 x) (hy : u4 y) {k : Nat} (hk : 5 ≤ k) : tenementref07_Order.f k x.f0.f0 x.f0.f1 x.f0.f2 x.f0.f3 x.f1 y.f0.f0 y.f0.f1 y.f0.f2 y.f0.f3 y.f1 = some (odT x y) := by
 unfold tenementref07_Order.f
 by_cases c : ((x.f0.f0 == y.f0.f0 && (x.f0.f1 == y.f0.f1 && (x.f0.f2 == y.f0.f2 && (x.f0.f3 == y.f0.f3)))) && (x.f1 == y.f1)) = true
 ·rw [if_pos c]
  simp only [Bool.and_eq_true, beq_iff_eq] at c
  obtain ⟨⟨e0, e1, e2, e3⟩, e4⟩ := c
  have : x = y := by
   obtain ⟨⟨a, b, c, d⟩, e⟩ := x
   obtain ⟨⟨a', b', c', d'⟩, e'⟩ := y
   simp only at e0 e1 e2 e3 e4
   rw [e0, e1, e2, e3, e4]
  rw [this, odT_self]
 ·rw [if_neg c, sumR _ _ _ _ hx.1, sumR _ _ _ _ hy.1, Option.bind_some, Option.bind_some]
  have hne : x ≠ y := fun e => c (by rw [e]; simp)
  have hz : odT x y ≠ 0 := fun e => hne (odT_eq e)
  rw [less_f _ _ _ _ _ _ _ _ hk, Option.bind_some]
  have hr := lex_range [x.f0.f0, x.f0.f1, x.f0.f2, x.f0.f3] [y.f0.f0, y.f0.f1, y.f0.f2, y.f0.f3]
  obtain ⟨v, hv⟩ : ∃ v, v = lex [x.f0.f0, x.f0.f1, x.f0.f2, x.f0.f3] [y.f0.f0, y.f0.f1, y.f0.f2, y.f0.f3] := ⟨_, rfl⟩
  rw [← hv] at hr ⊢
  unfold odT key at hz ⊢
  rw [lex] at hz ⊢
  by_cases c1 : sumv x.f0.f0 x.f0.f1 x.f0.f2 x.f0.f3 < sumv y.f0.f0 y.f0.f1 y.f0.f2 y.f0.f3
  ·rw [if_pos c1, if_pos c1]
  rw [if_neg c1] at hz
  rw [if_neg c1, if_neg c1]
  by_cases c2 : sumv y.f0.f0 y.f0.f1 y.f0.f2 y.f0.f3 < sumv x.f0.f0 x.f0.f1 x.f0.f2 x.f0.f3
  ·rw [if_neg (by omega), if_pos c2]
  rw [if_neg c2] at hz
  rw [if_pos (by omega), if_neg c2]
  rw [lex] at hz ⊢
  by_cases c3 : x.f1 < y.f1
  ·rw [if_pos c3, if_pos c3]
  rw [if_neg c3] at hz
  rw [if_neg c3, if_neg c3]
  by_cases c4 : y.f1 < x.f1
  ·rw [if_neg (by omega), if_pos c4]
  rw [if_neg c4] at hz
  rw [if_pos (by omega), if_neg c4]
  rw [← hv] at hz ⊢
  rcases hr with rfl | rfl | rfl
  ·rfl
  ·exact absurd rfl hz
  ·rfl
def isS (all : Bool) (s0 s1 s2 s3 : Int) (x : St) : Bool := all || decide (x.f0.f0 ≤ s0 ∧ x.f0.f1 ≤ s1 ∧ x.f0.f2 ≤ s2 ∧ x.f0.f3 ≤ s3)
def bs (σ : Option Wn) : St := match σ with | none => ⟨⟨0, 0, 0, 0⟩, 0⟩ | some m => m.f0
def wv (σ : Option Wn) : Wr := match σ with | none => ⟨⟨#[]⟩, ⟨#[]⟩, ⟨#[]⟩, false⟩ | some m => m.f1
def us (σ : Option Wn) (y : Wn) : Option Wn := match σ with | none => some y | some m => some (Jud.up cm m y)
def stp (is : St → Bool) (b k : ByteArray) (σ : Option Wn) (x : Tx) : Option Wn := (one is b k x).foldl us σ
def skp (is : St → Bool) (σ : Option Wn) (x : Tx) : Bool := !is x.f0 || (match σ with | none => false | some m => decide (odT x.f0 m.f0 ≤ 0))
theorem stp_skip {is : St → Bool} {b k : ByteArray} {σ : Option Wn} {x : Tx} (h : skp is σ x = true) : stp is b k σ x = σ := by
 unfold stp
 unfold skp at h
 cases c : is x.f0 with
 | false =>
  unfold one
  rw [c, if_neg (by simp)]
  rfl
 | true =>
  rw [c] at h
  cases σ with
  | none => simp at h
  | some m =>
   simp only [Bool.not_true, Bool.false_or, decide_eq_true_eq] at h
   unfold one
   rw [c, if_pos rfl]
   cases e : x.f1.find? (hit b k) with
   | none => rfl
   | some y =>
    show some (Jud.up cm m ⟨x.f0, y⟩) = some m
    unfold Jud.up
    rw [if_neg (by show ¬ odT x.f0 m.f0 > 0; omega)]
theorem stp_find {is : St → Bool} {b k : ByteArray} {σ : Option Wn} {x : Tx} (h : skp is σ x = false) : stp is b k σ x = match x.f1.find? (hit b k) with | some y => some ⟨x.f0, y⟩ | none => σ := by
 unfold stp
 unfold skp at h
 cases c : is x.f0 with
 | false => rw [c] at h; simp at h
 | true =>
  rw [c] at h
  unfold one
  rw [c, if_pos rfl]
  cases e : x.f1.find? (hit b k) with
  | none => rfl
  | some y =>
   cases σ with
   | none => rfl
   | some m =>
    simp only [Bool.not_true, Bool.false_or, decide_eq_false_iff_not] at h
    show some (Jud.up cm m ⟨x.f0, y⟩) = some ⟨x.f0, y⟩
    unfold Jud.up
    rw [if_pos (by show odT x.f0 m.f0 > 0; omega)]
theorem stp_all (is : St → Bool) (b k : ByteArray) : ∀ (l : List Tx) (σ : Option Wn), l.foldl (stp is b k) σ = (Jud.wrs is b k l).foldl us σ
 | [], _ => rfl
 | x :: l, σ => by
  rw [List.foldl_cons, stp_all is b k l]
  unfold Jud.wrs
  rw [List.flatMap_cons, List.foldl_append]
  rfl
theorem us_some : ∀ (r : List Wn) (m : Wn), r.foldl us (some m) = some (r.foldl (Jud.up cm) m)
 | [], _ => rfl
 | y :: r, m => by
  rw [List.foldl_cons, List.foldl_cons]
  exact us_some r _
theorem us_mx (L : List Wn) : L.foldl us none = if L.isEmpty then none else some (Jud.mx cm L) := by
 cases L with
 | nil => rfl
 | cons y r =>
  rw [List.foldl_cons]
  show r.foldl us (some y) = _
  rw [us_some]
  rfl
section
variable (l : List Tx) (b k : ByteArray) (all : Bool) (s0 s1 s2 s3 : Int)
abbrev L0 (K : Nat) (i : Int) (σ : Option Wn) := tenementref22_last.l0 K (l.map rt_) b k all σ.isSome i s0 s1 s2 s3 (bs σ).f0.f0 (bs σ).f0.f1 (bs σ).f0.f2 (bs σ).f0.f3 (bs σ).f1 (wv σ).f0 (wv σ).f1 (wv σ).f2 (wv σ).f3
abbrev J1 (K : Nat) (i : Int) (q : Bool) (σ : Option Wn) := tenementref22_last.j1 K (l.map rt_) b k all σ.isSome i q s0 s1 s2 s3 (bs σ).f0.f0 (bs σ).f0.f1 (bs σ).f0.f2 (bs σ).f0.f3 (bs σ).f1 (wv σ).f0 (wv σ).f1 (wv σ).f2 (wv σ).f3
abbrev L1_ (K : Nat) (i j : Int) (σ : Option Wn) := tenementref22_last.l1 K (l.map rt_) b k all σ.isSome i j s0 s1 s2 s3 (bs σ).f0.f0 (bs σ).f0.f1 (bs σ).f0.f2 (bs σ).f0.f3 (bs σ).f1 (wv σ).f0 (wv σ).f1 (wv σ).f2 (wv σ).f3
theorem l0_go {K i : Nat} (hi : i < l.length) (hK : 5 ≤ K) (σ : Option Wn) (hx : u4 l[i].f0) (hσ : ∀ m, σ = some m → u4 m.f0) : L0 l b k all s0 s1 s2 s3 (K + 1) i σ = J1 l b k all s0 s1 s2 s3 K i (skp (isS all s0 s1 s2 s3) σ l[i]) σ := by
 show tenementref22_last.l0 (K + 1) _ _ _ _ _ _ _ _ _ _ _ _ _ _ _ _ _ _ _ = _
 rw [tenementref22_last.l0, if_pos (by rw [List.length_map]; omega), rdM l i hi]
 have h0 : (0 : Int) ≤ (i : Int) := by omega
 cases all with
 | true =>
  rw [if_pos rfl]
  cases σ with
  | none => rw [if_neg (by simp)]; rfl
  | some m =>
   rw [if_pos (show (some m).isSome = true from rfl), if_pos h0]
   have := rorder_f l[i].f0 m.f0 hx (hσ m rfl) hK
   show (tenementref07_Order.f K l[i].f0.f0.f0 l[i].f0.f0.f1 l[i].f0.f0.f2 l[i].f0.f0.f3 l[i].f0.f1 m.f0.f0.f0 m.f0.f0.f1 m.f0.f0.f2 m.f0.f0.f3 m.f0.f1).bind _ = _
   rw [this]
   rfl
 | false =>
  rw [if_neg (by simp), if_pos h0]
  show (tenementref07_Seen.f K l[i].f0.f0.f0 l[i].f0.f0.f1 l[i].f0.f0.f2 l[i].f0.f0.f3 l[i].f0.f1 s0 s1 s2 s3).bind _ = _
  rw [rseen_f _ _ _ _ _ _ _ _ _ hK, Option.bind_some]
  have e : isS false s0 s1 s2 s3 l[i].f0 = decide (l[i].f0.f0.f0 ≤ s0 ∧ l[i].f0.f0.f1 ≤ s1 ∧ l[i].f0.f0.f2 ≤ s2 ∧ l[i].f0.f0.f3 ≤ s3) := by unfold isS; rw [Bool.false_or]
  unfold skp
  rw [e]
  cases decide (l[i].f0.f0.f0 ≤ s0 ∧ l[i].f0.f0.f1 ≤ s1 ∧ l[i].f0.f0.f2 ≤ s2 ∧ l[i].f0.f0.f3 ≤ s3) with
  | false => rw [if_neg (by simp)]; rfl
  | true =>
   rw [if_pos rfl]
   cases σ with
   | none => rw [if_neg (by simp)]; rfl
   | some m =>
    rw [if_pos (show (some m).isSome = true from rfl)]
    have := rorder_f l[i].f0 m.f0 hx (hσ m rfl) hK
    show (tenementref07_Order.f K l[i].f0.f0.f0 l[i].f0.f0.f1 l[i].f0.f0.f2 l[i].f0.f0.f3 l[i].f0.f1 m.f0.f0.f0 m.f0.f0.f1 m.f0.f0.f2 m.f0.f0.f3 m.f0.f1).bind _ = _
    rw [this]
    rfl
theorem l1_go {i : Nat} (hi : i < l.length) (hi2 : l.length ≤ 1000) (hz : l[i].f1.length ≤ 1000) (σ : Option Wn) (B : Nat) (r : Option (ByteArray × ByteArray × ByteArray × Bool × Bool)) :
  ∀ (d j K : Nat), j + d = l[i].f1.length → B + d + 1 ≤ K → (∀ K', B ≤ K' → L0 l b k all s0 s1 s2 s3 K' ((i + 1 : Nat) : Int) (match (l[i].f1.drop j).find? (hit b k) with | some y => some ⟨l[i].f0, y⟩ | none => σ) = r) → L1_ l b k all s0 s1 s2 s3 K i j σ = r := by
 have hw : ∀ n : Nat, n ≤ 1000 → wrap64 ((n : Int) + 1) = ((n + 1 : Nat) : Int) := fun n hn => by rw [wrap64_id (by omega) (by omega)]; omega
 intro d
 induction d with
 | zero =>
  intro j K hj hK hr
  obtain ⟨K, rfl⟩ : ∃ q, K = q + 1 := ⟨K - 1, by omega⟩
  have hr := hr K (by omega)
  rw [List.drop_of_length_le (by omega)] at hr
  show tenementref22_last.l1 (K + 1) _ _ _ _ _ _ _ _ _ _ _ _ _ _ _ _ _ _ _ _ = _
  rw [tenementref22_last.l1, if_pos (by omega), if_pos (by rw [List.length_map]; omega), rdM l i hi, if_neg (by show ¬ ((j : Int) < ((l[i].f1.map rw_).length : Int)); rw [List.length_map]; omega), hw i (by omega)]
  exact hr
 | succ d ih =>
  intro j K hj hK hr
  obtain ⟨K, rfl⟩ : ∃ q, K = q + 1 := ⟨K - 1, by omega⟩
  have hjl : j < l[i].f1.length := by omega
  show tenementref22_last.l1 (K + 1) _ _ _ _ _ _ _ _ _ _ _ _ _ _ _ _ _ _ _ _ = _
  rw [tenementref22_last.l1, if_pos (by omega), if_pos (by rw [List.length_map]; omega), rdM l i hi, if_pos (by show (j : Int) < ((l[i].f1.map rw_).length : Int); rw [List.length_map]; omega), if_pos (by omega),
   show rd_T86 (rt_ l[i]).f1 (j : Int) = rw_ l[i].f1[j] from rdMW l[i].f1 j hjl, hw j (by omega), hw i (by omega)]
  have hdrop : l[i].f1.drop j = l[i].f1[j] :: l[i].f1.drop (j + 1) := List.drop_eq_getElem_cons hjl
  rw [hdrop, List.find?_cons] at hr
  have hnext : hit b k l[i].f1[j] = false → L1_ l b k all s0 s1 s2 s3 K i ((j + 1 : Nat) : Int) σ = r := fun c => by
   rw [c] at hr
   exact ih (j + 1) K (by omega) (by omega) hr
  by_cases c0 : (rw_ l[i].f1[j]).f0.toList = b.toList
  ·rw [if_pos c0]
   by_cases c1 : (rw_ l[i].f1[j]).f1.toList = k.toList
   ·rw [if_pos c1]
    have c : hit b k l[i].f1[j] = true := by
     unfold hit
     rw [Bool.and_eq_true, beq_iff_eq, beq_iff_eq]
     exact ⟨c0, c1⟩
    rw [c] at hr
    exact hr K (by omega)
   ·rw [if_neg c1]
    exact hnext (by
     unfold hit
     rw [Bool.and_eq_false_iff]
     exact .inr (beq_eq_false_iff_ne.2 c1))
  ·rw [if_neg c0]
   exact hnext (by
    unfold hit
    rw [Bool.and_eq_false_iff]
    exact .inl (beq_eq_false_iff_ne.2 c0))
theorem last_loop (h12 : l.length ≤ 12) (hw : ∀ t ∈ l, wfT t) : ∀ (d i K : Nat) (σ : Option Wn), i + d = l.length → d * 20 + 10 ≤ K → (∀ m, σ = some m → u4 m.f0) →
  L0 l b k all s0 s1 s2 s3 K i σ = some ((wv ((l.drop i).foldl (stp (isS all s0 s1 s2 s3) b k) σ)).f0, (wv ((l.drop i).foldl (stp (isS all s0 s1 s2 s3) b k) σ)).f1, (wv ((l.drop i).foldl (stp (isS all s0 s1 s2 s3) b k) σ)).f2, (wv ((l.drop i).foldl (stp (isS all s0 s1 s2 s3) b k) σ)).f3, ((l.drop i).foldl (stp (isS all s0 s1 s2 s3) b k) σ).isSome) := by
 intro d
 induction d with
 | zero =>
  intro i K σ hi hK hσ
  obtain ⟨K, rfl⟩ : ∃ q, K = q + 1 := ⟨K - 1, by omega⟩
  rw [List.drop_of_length_le (by omega)]
  show tenementref22_last.l0 (K + 1) _ _ _ _ _ _ _ _ _ _ _ _ _ _ _ _ _ _ _ = _
  rw [tenementref22_last.l0, if_neg (by rw [List.length_map]; omega)]
  rfl
 | succ d ih =>
  intro i K σ hi hK hσ
  obtain ⟨K, rfl⟩ : ∃ q, K = q + 2 := ⟨K - 2, by omega⟩
  have hil : i < l.length := by omega
  have hm : l[i] ∈ l := List.getElem_mem hil
  obtain ⟨h4, _, _, h10⟩ := hw _ hm
  rw [l0_go l b k all s0 s1 s2 s3 hil (by omega) σ h4 hσ]
  have hdrop : l.drop i = l[i] :: l.drop (i + 1) := List.drop_eq_getElem_cons hil
  rw [hdrop, List.foldl_cons]
  have hwr : wrap64 ((i : Int) + 1) = ((i + 1 : Nat) : Int) := by rw [wrap64_id (by omega) (by omega)]; omega
  cases c : skp (isS all s0 s1 s2 s3) σ l[i] with
  | true =>
   rw [stp_skip c]
   show tenementref22_last.j1 (K + 1) _ _ _ _ _ _ _ _ _ _ _ _ _ _ _ _ _ _ _ _ = _
   rw [tenementref22_last.j1, if_pos rfl, hwr]
   exact ih (i + 1) K σ (by omega) (by omega) hσ
  | false =>
   rw [stp_find c]
   show tenementref22_last.j1 (K + 1) _ _ _ _ _ _ _ _ _ _ _ _ _ _ _ _ _ _ _ _ = _
   rw [tenementref22_last.j1, if_neg (by simp)]
   refine l1_go l b k all s0 s1 s2 s3 hil (by omega) (by omega) σ (d * 20 + 10) _ l[i].f1.length 0 K (by omega) (by omega) (fun K' hK' => ?_)
   rw [List.drop_zero]
   refine ih (i + 1) K' _ (by omega) hK' (fun m hm' => ?_)
   cases e : l[i].f1.find? (hit b k) with
   | none => rw [e] at hm'; exact hσ m hm'
   | some y =>
    rw [e] at hm'
    have := Option.some.inj hm'
    rw [← this]
    exact h4
end
theorem rlast_f (l : List Tx) (h12 : l.length ≤ 12) (hw : ∀ t ∈ l, wfT t) (b k : ByteArray) (all : Bool) (s0 s1 s2 s3 : Int) {K : Nat} (hK : 250 ≤ K) :
  tenementref22_last.f K (l.map rt_) b k s0 s1 s2 s3 all = some (if (Jud.wrs (isS all s0 s1 s2 s3) b k l).isEmpty then (⟨#[]⟩, ⟨#[]⟩, ⟨#[]⟩, false, false) else ((lst (isS all s0 s1 s2 s3) odT b k l).f0, (lst (isS all s0 s1 s2 s3) odT b k l).f1, (lst (isS all s0 s1 s2 s3) odT b k l).f2, (lst (isS all s0 s1 s2 s3) odT b k l).f3, true)) := by
 have h := last_loop l b k all s0 s1 s2 s3 h12 hw l.length 0 K none (by omega) (by omega) (fun m hm => by cases hm)
 rw [List.drop_zero, stp_all, us_mx] at h
 refine Eq.trans h ?_
 unfold lst
 cases (Jud.wrs (isS all s0 s1 s2 s3) b k l).isEmpty with
 | true => rfl
 | false => rfl
theorem lst_empty {is : St → Bool} {b k : ByteArray} {l : List Tx} (h : (Jud.wrs is b k l).isEmpty = true) : (lst is odT b k l).f3 = true := by
 unfold lst
 rw [h]
 rfl
theorem rread_f (l : List Tx) (h12 : l.length ≤ 12) (hw : ∀ t ∈ l, wfT t) (b k : ByteArray) (s0 s1 s2 s3 : Int) {K : Nat} (hK : 250 ≤ K) : tenementref22_Read.f K (l.map rt_) b k s0 s1 s2 s3 = judge_Read.f l b k s0 s1 s2 s3 := by
 unfold tenementref22_Read.f judge_Read.f
 rw [rlast_f l h12 hw b k false s0 s1 s2 s3 hK, Option.bind_some, if_pos (show judge_Read.ok l from ⟨by omega, fun t ht => by have := (hw t ht).2.2.2; omega⟩)]
 show _ = some (if (lst (isS false s0 s1 s2 s3) odT b k l).f3 then ⟨#[]⟩ else (lst (isS false s0 s1 s2 s3) odT b k l).f2, !(lst (isS false s0 s1 s2 s3) odT b k l).f3)
 cases c : (Jud.wrs (isS false s0 s1 s2 s3) b k l).isEmpty with
 | true =>
  rw [lst_empty c]
  rfl
 | false =>
  simp only [Bool.false_eq_true, if_false, if_true]
  cases (lst (isS false s0 s1 s2 s3) odT b k l).f3 <;> rfl
theorem rlst_f (l : List Tx) (h12 : l.length ≤ 12) (hw : ∀ t ∈ l, wfT t) (b k : ByteArray) {K : Nat} (hK : 250 ≤ K) : tenementref22_Last.f K (l.map rt_) b k = judge_Last.f l b k := by
 unfold tenementref22_Last.f judge_Last.f
 rw [rlast_f l h12 hw b k true 0 0 0 0 hK, Option.bind_some, if_pos (show judge_Last.ok l from ⟨by omega, fun t ht => by have := (hw t ht).2.2.2; omega⟩)]
 show _ = some (if (lst (isS true 0 0 0 0) odT b k l).f3 then ⟨#[]⟩ else (lst (isS true 0 0 0 0) odT b k l).f2, !(lst (isS true 0 0 0 0) odT b k l).f3)
 cases c : (Jud.wrs (isS true 0 0 0 0) b k l).isEmpty with
 | true =>
  rw [lst_empty c]
  rfl
 | false =>
  simp only [Bool.false_eq_true, if_false, if_true]
  cases (lst (isS true 0 0 0 0) odT b k l).f3 <;> rfl
end Go.Proofs.Ythjhkcebcgdeoaa.Pure
