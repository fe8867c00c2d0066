import Derived.Test.YtoagfdpgnfinhaaGStreamGets2
namespace Go.Proofs.Ytoagfdpgnfinhaa.Q
open Go.RowKit Go.Proofs.YtoagfdpgnfinhaaW.PrintWords Go.Proofs.YtoagfdpgnfinhaaW.PrintLast Go.Proofs.YtoagfdpgnfinhaaW.PrintMore
attribute [local go_sem] max2_int min2_int max_two min_two max_three min_three max_four min_four   -- for this text's walks alone
set_option linter.unusedVariables false
set_option linter.unusedSimpArgs false
def stream_Right.j0:Nat→Bool→Int→Int→Int→Int→Int→Int→Int→Int→List (S107)→Option (Bool)
 | 0,_,_,_,_,_,_,_,_,_,_=>none
 | k+1,x10,x106,x110,x108,x100,x101,x103,x104,x105,x109=>if x10=true then (some false) else (if x106=1 then ((item_Whole.f x100 x101 x103 x104 x105 x109).bind fun t123=>(if t123=true then ((stamp_Stamp_N.f x100 x101 x103 x104 x105).bind fun t124=>(some (x108 == t124))) else (some false))) else (if x106=2 then (if x108≤1152921504606846976 then ((item_Same.f k x100 x101 x103 x104 x105 x109 0 0 0 0 0 ([]:List (S107))).bind fun t125=>(some t125)) else (some false)) else (some false)))
def stream_Right.f (k:Nat) (a0_0:Int) (a0_1:Int) (a0_2:Int) (a0_3:Int) (a0_4:Int) (a0_5:Int) (a0_6:Int) (a0_7:Int) (l0_8:List (S107)):Option (Bool):=if a0_1<1 then (stream_Right.j0 k true a0_0 a0_1 a0_2 a0_3 a0_4 a0_5 a0_6 a0_7 l0_8) else (stream_Right.j0 k (decide (a0_1 > 4)) a0_0 a0_1 a0_2 a0_3 a0_4 a0_5 a0_6 a0_7 l0_8)
def stream_Right.T5:Bool × List (List Nat × List Nat):=(true,[([],[]),([0],[0]),([1],[1]),([2,2],[2]),([3],[3]),([4,3],[3,4]),([3],[3]),([6,3],[3,6]),([7,3],[3,7]),([8,3,3],[3,8]),([5,9,3],[3,5,9]),([3,10],[3,10]),([11,9,0,1,2,3,4,5,6,7,8,9,10,11],[11])])
def stream_Right.B5:List Nat:=[0,1,3,7,15,31,15,79,207,463,1023,2047,4095]
theorem stream_Right.tab5:rtab .any (opsOf Try.f33 5)=stream_Right.T5:=by kernel_rfl
theorem stream_Right.bits5:waitsOk stream_Right.T5.2 stream_Right.B5=true:=by kernel_rfl
set_option maxHeartbeats 8000000 in
set_option maxRecDepth 100000 in
theorem stream_Right.calls (k:Nat) (a0_0:Int) (a0_1:Int) (a0_2:Int) (a0_3:Int) (a0_4:Int) (a0_5:Int) (a0_6:Int) (a0_7:Int) (A0_8:Option Addr) (c0_8:Nat) (l0_8:List (S107)) (r:Bool) (w:World) (hr0_8:Kd.C k107 w A0_8 l0_8.length l0_8) (hc0_8:l0_8.length≤c0_8) (h:stream_Right.f k a0_0 a0_1 a0_2 a0_3 a0_4 a0_5 a0_6 a0_7 l0_8=some r) :
  Calls Try.prog 33 #[.agg #[.int .i64 a0_0,.int .i64 a0_1,.int .u64 a0_2,.int .u64 a0_3,.int .u64 a0_4,.int .u64 a0_5,.int .u64 a0_6,.int .i64 a0_7,.slice A0_8 l0_8.length c0_8]] w fun e w'=>e = .returned (.bool r)∧Below w.heap.size w w':=by
 have hu69:=Try.underlying69
 have hu33:=Try.underlying33
 have hu30:=Try.underlying30
 have HR0_8:=As_ hr0_8
 have HC0_8:=As_ hc0_8
 clear hr0_8 hc0_8
 have HB:=As_ (Below.refl w.heap.size w)
 unfold stream_Right.f at h
 have H:=h
 clear h
 have HC2:=As_ H
 clear H
 go_enter Try.func33,Try.ntmps33
 go_upto_region 1 with (first|((with_reducible refine gate_dst (N:=1) rfl ?_);refine Ka_ 1 #[.int .i64 a0_0,.int .i64 a0_1,.int .u64 a0_2,.int .u64 a0_3,.int .u64 a0_4,.int .u64 a0_5,.int .u64 a0_6,.int .i64 a0_7,.slice A0_8 l0_8.length c0_8] 69 ?_;intro gb122 hg w3 hbox hb;have BK122:=As_ (hbox);have GW122:=Kw_ HB hg;replace HB:=Ks_ HB hb;clear hb hbox hg))
 (try simp only [Act.put,List.setIfInBounds_toArray,List.set_cons_zero,List.set_cons_succ])
 go_cut [10] (fun v10 wc=>∃ (kq:Nat) (x10_1:Bool),v10 = .bool x10_1∧Aside0 (stream_Right.j0 kq x10_1 a0_0 a0_1 a0_2 a0_3 a0_4 a0_5 a0_6 a0_7 l0_8=some r)∧Aside0 (kq≤k)∧Aside0 (wc.heap[gb122]?=some (.cells #[.int .i64 a0_0,.int .i64 a0_1,.int .u64 a0_2,.int .u64 a0_3,.int .u64 a0_4,.int .u64 a0_5,.int .u64 a0_6,.int .i64 a0_7,(.slice A0_8 l0_8.length c0_8)] 69 (0,0)))∧Aside0 (Below w.heap.size w wc))
 case first =>
  have H:=HC2.out
  clear HC2
  by_cases c4:a0_1<1
  ·rw [if_pos c4] at H
   have c4b0:decide (a0_1<1)=true:=decide_eq_true c4
   clear c4
   (first|rw [c4b0]|(simp only [i64_w,i32_w];rw [c4b0])|skip)
   have H':=As_ H
   clear H
   obtain ⟨hcz5_0,hcz5_1,hcz5_2,hcz5_3,hcz5_4,hcz5_5,hcz5_6,hcz5_7,hcz5_8,hfz5_0,hfz5_1,hfz5_2,hfz5_3,hfz5_4,hfz5_5,hfz5_6,hfz5_7,hfz5_8⟩:=Ke9_ BK122.out
   go_wp2
   go_meet
   case rel=>exact ⟨_,(true),(by first|rfl|(simp;done)|(simp [*];done)),H',⟨by first|omega|exact Nat.le_refl _⟩,⟨by exact Kq_ BK122⟩,⟨Kz_ HB GW122⟩⟩
  rw [if_neg c4] at H
  have c4b0:decide (a0_1<1)=false:=decide_eq_false c4
  clear c4
  (first|rw [c4b0]|(simp only [i64_w,i32_w];rw [c4b0])|skip)
  have H':=As_ H
  clear H
  obtain ⟨hcz6_0,hcz6_1,hcz6_2,hcz6_3,hcz6_4,hcz6_5,hcz6_6,hcz6_7,hcz6_8,hfz6_0,hfz6_1,hfz6_2,hfz6_3,hfz6_4,hfz6_5,hfz6_6,hfz6_7,hfz6_8⟩:=Ke9_ BK122.out
  go_wp2
  go_meet
  case rel=>exact ⟨_,(decide (a0_1 > 4)),(by first|rfl|(simp;done)|(simp [*];done)),H',⟨by first|omega|exact Nat.le_refl _⟩,⟨by exact Kq_ BK122⟩,⟨Kz_ HB GW122⟩⟩
 case rest =>
  clear HC2
  try clear p2
  try clear c3
  try clear c4
  try clear c4b0
  try clear hcz5_0
  try clear hcz5_1
  try clear hcz5_2
  try clear hcz5_3
  try clear hcz5_4
  try clear hcz5_5
  try clear hcz5_6
  try clear hcz5_7
  try clear hcz5_8
  try clear hcz6_0
  try clear hcz6_1
  try clear hcz6_2
  try clear hcz6_3
  try clear hcz6_4
  try clear hcz6_5
  try clear hcz6_6
  try clear hcz6_7
  try clear hcz6_8
  try clear hfz5_0
  try clear hfz5_1
  try clear hfz5_2
  try clear hfz5_3
  try clear hfz5_4
  try clear hfz5_5
  try clear hfz5_6
  try clear hfz5_7
  try clear hfz5_8
  try clear hfz6_0
  try clear hfz6_1
  try clear hfz6_2
  try clear hfz6_3
  try clear hfz6_4
  try clear hfz6_5
  try clear hfz6_6
  try clear hfz6_7
  try clear hfz6_8
  obtain ⟨kq,x10_1,rfl,HA,HJ1,BK122,HB⟩:=hcut
  cases kq with
  | zero=>exact absurd HA.out (by simp [stream_Right.j0])
  | succ kj1 =>
   have H:=HA.out
   clear HA
   simp only [stream_Right.j0] at H
   by_cases c7:x10_1=true
   ·subst c7
    rw [if_pos rfl] at H
    obtain rfl:=Option.some.inj H
    go_wp2
    go_ret
    exact ⟨Kh_,Kz_ HB GW122⟩
   replace c7:=Bool.eq_false_iff.mpr c7
   subst c7
   rw [if_neg Bool.false_ne_true] at H
   by_cases c8:a0_0=1
   rotate_left
   ·rw [if_neg c8] at H
    have c8b0:=beq_eq_false_iff_ne.mpr c8
    have c8b1:(a0_0 != 1)=true:=bne_iff_ne.mpr c8
    by_cases c19:a0_0=2
    rotate_left
    ·rw [if_neg c19] at H
     have c19b0:=beq_eq_false_iff_ne.mpr c19
     have c19b1:(a0_0 != 2)=true:=bne_iff_ne.mpr c19
     obtain rfl:=Option.some.inj H
     obtain ⟨_,_,_,_,_,_,_,_,_,_,_,_,_,_,_,_,_,_⟩:=Ke9_ BK122.out
     go_wp2
     go_ret
     exact ⟨Kh_,Kz_ HB GW122⟩
    rw [if_pos c19] at H
    have c19b0:(a0_0 == 2)=true:=beq_iff_eq.mpr c19
    have c19b1:(a0_0 != 2)=false:=bne_eq_false_iff_eq.mpr c19
    clear c19
    by_cases c20:a0_2≤1152921504606846976
    rotate_left
    ·rw [if_neg c20] at H
     have c20b0:decide (a0_2≤1152921504606846976)=false:=decide_eq_false c20
     clear c20
     obtain rfl:=Option.some.inj H
     obtain ⟨_,_,_,_,_,_,_,_,_,_,_,_,_,_,_,_,_,_⟩:=Ke9_ BK122.out
     go_wp2
     go_ret
     exact ⟨Kh_,Kz_ HB GW122⟩
    rw [if_pos c20] at H
    have c20b0:decide (a0_2≤1152921504606846976)=true:=decide_eq_true c20
    clear c20
    obtain ⟨t125,A21,H⟩:=Kbind_ H
    (try dsimp only at H)
    obtain rfl:=Option.some.inj H
    obtain ⟨_,_,_,_,_,_,_,_,_,_,_,_,_,_,_,_,_,_⟩:=Ke9_ BK122.out
    go_wp2_with (first|(go_at_call 50;(refine (item_Same.calls kj1 a0_3 a0_4 a0_5 a0_6 a0_7 _ _ l0_8 0 0 0 0 0 _ _ ([]:List (S107)) t125 _ ?side1 ?side2 ?side3 ?side4 A21.out).mono ?_);(case side1=>repeat (first|exact (Kd.C_below HR0_8.out HB.out)|(with_reducible refine Kd.C_alloc ?_ _)|(with_reducible refine Kd.C_drewN ?_ _)|(with_reducible refine Kd.C_drew ?_)));(case side2=>exact HC0_8.out);(case side3=>exact Kd.C_nil _ _);(case side4=>exact Nat.le_refl _);rintro e w23 ⟨rfl,hb⟩;replace BK122:=Kb_ BK122 hb;replace HB:=Ks_ HB hb;(try clear hb)))
    go_ret
    exact ⟨Kh_,Kz_ HB GW122⟩
   rw [if_pos c8] at H
   have c8b0:(a0_0 == 1)=true:=beq_iff_eq.mpr c8
   have c8b1:(a0_0 != 1)=false:=bne_eq_false_iff_eq.mpr c8
   clear c8
   obtain ⟨t123,A9,H⟩:=Kbind_ H
   (try dsimp only at H)
   by_cases c10:t123=true
   rotate_left
   ·replace c10:=Bool.eq_false_iff.mpr c10
    subst c10
    rw [if_neg Bool.false_ne_true] at H
    obtain rfl:=Option.some.inj H
    obtain ⟨_,_,_,_,_,_,_,_,_,_,_,_,_,_,_,_,_,_⟩:=Ke9_ BK122.out
    try go_wp2
    replace BK122:=Kd_ BK122
    replace HB:=As_ (below_drew1 HB.out)
    refine start_ (n:=13) (S:=fun w'=>w'.cell? ⟨gb122,0,none⟩=some (.int .i64 a0_0)∧w'.cell? ⟨gb122,1,none⟩=some (.int .i64 a0_1)∧w'.cell? ⟨gb122,2,none⟩=some (.int .u64 a0_2)∧w'.cell? ⟨gb122,3,none⟩=some (.int .u64 a0_3)∧w'.cell? ⟨gb122,4,none⟩=some (.int .u64 a0_4)∧w'.cell? ⟨gb122,5,none⟩=some (.int .u64 a0_5)∧w'.cell? ⟨gb122,6,none⟩=some (.int .u64 a0_6)∧w'.cell? ⟨gb122,7,none⟩=some (.int .i64 a0_7)∧w'.cell? ⟨gb122,8,none⟩=some (.slice A0_8 l0_8.length c0_8)) (ds:=[]) (mB_ 13 0) (by kernel_rfl) rfl rfl (Kc9_ BK122.out) (fun hHeld=>?_);refine with_tabW stream_Right.tab5 stream_Right.bits5 (fun HT_ HW_=>?_)
    generalize wc.drew=w17 at BK122 HB hHeld ⊢
    refine Kp_ 0 15 (mB_ 13 1) (any_of HT_.out (by kernel_rfl)) ?_
    refine Ko_ 1 16 (mB_ 13 3) (take_ofW HT_.out HW_.out (by kernel_rfl)) hHeld ?_
    refine one_ (i:=2) (N:=some 17) (mB_ 13 7) rfl rfl (one_of HT_.out (by kernel_rfl)) (by decide) (fun K hK=>?_)
    refine goes_ Try.func73 (by kernel_rfl) rfl #[.agg #[.int .u64 a0_3,.int .u64 a0_4,.int .u64 a0_5,.int .u64 a0_6,.int .i64 a0_7,.slice A0_8 l0_8.length c0_8]] (by rfl) rfl rfl (by (try simp only [List.map_toArray,List.map_cons,List.map_nil]);first|done|rfl|(simp only [List.length_drop,List.length_take];rfl)) ?_
    with_reducible refine (item_Whole.calls a0_3 a0_4 a0_5 a0_6 a0_7 _ _ l0_8 false _ ?side1 ?side2 A9.out).mono ?_
    (case side1=>repeat (first|exact (Kd.C_below HR0_8.out HB.out)|(with_reducible refine Kd.C_alloc ?_ _)|(with_reducible refine Kd.C_drewN ?_ _)|(with_reducible refine Kd.C_drew ?_)))
    (case side2=>exact HC0_8.out)
    rintro e w18 ⟨rfl,hb⟩
    refine ⟨_,rfl,?_⟩
    replace BK122:=Kb_ BK122 hb
    replace HB:=Ks_ HB hb
    (try clear hb)
    (try clear hb2)
    (try clear hk)
    (try clear hi)
    refine hK.out _ _ (Kc9_ BK122.out) (fun hHeld=>?_)
    clear hK K
    refine Kn_ 17 ?_
    refine Kp_ 3 18 (mB_ 13 15) (any_of HT_.out (by kernel_rfl)) ?_
    refine pure_ (i:=4) (N:=some 19) (v:=undef) (a':=?_) (mB_ 13 31) rfl rfl (any_of HT_.out (by kernel_rfl)) (fun _ _ _ h=>h) (Or.inr ⟨by rfl,rfl⟩) ?_ ?_
    rotate_left
    ·simp only [Act.put,List.setIfInBounds_toArray,List.set_cons_zero,List.set_cons_succ,i64_w,i32_w]
     rfl
    refine pure_ (i:=5) (N:=some 20) (v:=undef) (a':=?_) (mB_ 13 63) rfl rfl (any_of HT_.out (by kernel_rfl)) (fun _ _ _ h=>h) (Or.inr ⟨by rfl,rfl⟩) ?_ ?_
    rotate_left
    ·simp only [Act.put,List.setIfInBounds_toArray,List.set_cons_zero,List.set_cons_succ,i64_w,i32_w]
     rfl
    refine pure_ (i:=6) (N:=some 21) (v:=undef) (a':=?_) (mB_ 13 127) rfl rfl (any_of HT_.out (by kernel_rfl)) (fun _ _ _ h=>h) (Or.inr ⟨by rfl,rfl⟩) ?_ ?_
    rotate_left
    ·simp only [Act.put,List.setIfInBounds_toArray,List.set_cons_zero,List.set_cons_succ,i64_w,i32_w]
     rfl
    refine pure_ (i:=7) (N:=some 22) (v:=undef) (a':=?_) (mB_ 13 255) rfl rfl (any_of HT_.out (by kernel_rfl)) (fun _ _ _ h=>h) (Or.inr ⟨by rfl,rfl⟩) ?_ ?_
    rotate_left
    ·simp only [Act.put,List.setIfInBounds_toArray,List.set_cons_zero,List.set_cons_succ,i64_w,i32_w]
     rfl
    refine pure_ (i:=8) (N:=some 23) (v:=undef) (a':=?_) (mB_ 13 511) rfl rfl (any_of HT_.out (by kernel_rfl)) (fun _ _ _ h=>h) (Or.inr ⟨by rfl,rfl⟩) ?_ ?_
    rotate_left
    ·simp only [Act.put,List.setIfInBounds_toArray,List.set_cons_zero,List.set_cons_succ,i64_w,i32_w]
     rfl
    refine pure_ (i:=9) (N:=some 24) (v:=undef) (a':=?_) (mB_ 13 1023) rfl rfl (any_of HT_.out (by kernel_rfl)) (fun _ _ _ h=>h) (Or.inr ⟨by rfl,rfl⟩) ?_ ?_
    rotate_left
    ·simp only [Act.put,List.setIfInBounds_toArray,List.set_cons_zero,List.set_cons_succ,i64_w,i32_w]
     rfl
    refine pure_ (i:=10) (N:=some 25) (v:=undef) (a':=?_) (mB_ 13 2047) rfl rfl (any_of HT_.out (by kernel_rfl)) (fun _ _ _ h=>h) (Or.inr ⟨by rfl,rfl⟩) ?_ ?_
    rotate_left
    ·simp only [Act.put,List.setIfInBounds_toArray,List.set_cons_zero,List.set_cons_succ,i64_w,i32_w]
     rfl
    refine Kp_ 11 26 (mB_ 13 4095) (any_of HT_.out (by kernel_rfl)) ?_
    refine Kp_ 12 2 (mB_ 13 8191) (any_of HT_.out (by kernel_rfl)) ?_
    refine done_ (done_of HT_.out (by kernel_rfl)) ?_
    try go_wp2
    go_ret
    exact ⟨Kh_,Kz_ HB GW122⟩
   subst c10
   rw [if_pos rfl] at H
   obtain ⟨t124,A11,H⟩:=Kbind_ H
   (try dsimp only at H)
   obtain rfl:=Option.some.inj H
   obtain ⟨_,_,_,_,_,_,_,_,_,_,_,_,_,_,_,_,_,_⟩:=Ke9_ BK122.out
   try go_wp2
   replace BK122:=Kd_ BK122
   replace HB:=As_ (below_drew1 HB.out)
   refine start_ (n:=13) (S:=fun w'=>w'.cell? ⟨gb122,0,none⟩=some (.int .i64 a0_0)∧w'.cell? ⟨gb122,1,none⟩=some (.int .i64 a0_1)∧w'.cell? ⟨gb122,2,none⟩=some (.int .u64 a0_2)∧w'.cell? ⟨gb122,3,none⟩=some (.int .u64 a0_3)∧w'.cell? ⟨gb122,4,none⟩=some (.int .u64 a0_4)∧w'.cell? ⟨gb122,5,none⟩=some (.int .u64 a0_5)∧w'.cell? ⟨gb122,6,none⟩=some (.int .u64 a0_6)∧w'.cell? ⟨gb122,7,none⟩=some (.int .i64 a0_7)∧w'.cell? ⟨gb122,8,none⟩=some (.slice A0_8 l0_8.length c0_8)) (ds:=[]) (mB_ 13 0) (by kernel_rfl) rfl rfl (Kc9_ BK122.out) (fun hHeld=>?_);refine with_tabW stream_Right.tab5 stream_Right.bits5 (fun HT_ HW_=>?_)
   generalize wc.drew=w13 at BK122 HB hHeld ⊢
   refine Kp_ 0 15 (mB_ 13 1) (any_of HT_.out (by kernel_rfl)) ?_
   refine Ko_ 1 16 (mB_ 13 3) (take_ofW HT_.out HW_.out (by kernel_rfl)) hHeld ?_
   refine one_ (i:=2) (N:=some 17) (mB_ 13 7) rfl rfl (one_of HT_.out (by kernel_rfl)) (by decide) (fun K hK=>?_)
   refine goes_ Try.func73 (by kernel_rfl) rfl #[.agg #[.int .u64 a0_3,.int .u64 a0_4,.int .u64 a0_5,.int .u64 a0_6,.int .i64 a0_7,.slice A0_8 l0_8.length c0_8]] (by rfl) rfl rfl (by (try simp only [List.map_toArray,List.map_cons,List.map_nil]);first|done|rfl|(simp only [List.length_drop,List.length_take];rfl)) ?_
   with_reducible refine (item_Whole.calls a0_3 a0_4 a0_5 a0_6 a0_7 _ _ l0_8 true _ ?side1 ?side2 A9.out).mono ?_
   (case side1=>repeat (first|exact (Kd.C_below HR0_8.out HB.out)|(with_reducible refine Kd.C_alloc ?_ _)|(with_reducible refine Kd.C_drewN ?_ _)|(with_reducible refine Kd.C_drew ?_)))
   (case side2=>exact HC0_8.out)
   rintro e w14 ⟨rfl,hb⟩
   refine ⟨_,rfl,?_⟩
   replace BK122:=Kb_ BK122 hb
   replace HB:=Ks_ HB hb
   (try clear hb)
   (try clear hb2)
   (try clear hk)
   (try clear hi)
   refine hK.out _ _ (Kc9_ BK122.out) (fun hHeld=>?_)
   clear hK K
   refine Kn_ 17 ?_
   refine Kp_ 3 18 (mB_ 13 15) (any_of HT_.out (by kernel_rfl)) ?_
   refine Kp_ 4 19 (mB_ 13 31) (any_of HT_.out (by kernel_rfl)) ?_
   refine Kp_ 6 21 (mB_ 13 95) (any_of HT_.out (by kernel_rfl)) ?_
   refine Kp_ 7 22 (mB_ 13 223) (any_of HT_.out (by kernel_rfl)) ?_
   refine Ko_ 5 20 (mB_ 13 255) (take_ofW HT_.out HW_.out (by kernel_rfl)) hHeld ?_
   refine Ko_ 8 23 (mB_ 13 511) (take_ofW HT_.out HW_.out (by kernel_rfl)) hHeld ?_
   refine one_ (i:=9) (N:=some 24) (mB_ 13 1023) rfl rfl (one_of HT_.out (by kernel_rfl)) (by decide) (fun K hK=>?_)
   refine goes_ Try.func47 (by kernel_rfl) rfl #[.agg #[.int .u64 a0_3,.int .u64 a0_4,.int .u64 a0_5,.int .u64 a0_6,.int .i64 a0_7]] (by rfl) rfl rfl (by (try simp only [List.map_toArray,List.map_cons,List.map_nil]);first|done|rfl|(simp only [List.length_drop,List.length_take];rfl)) ?_
   with_reducible refine (stamp_Stamp_N.calls a0_3 a0_4 a0_5 a0_6 a0_7 t124 _ A11.out).mono ?_
   rintro e w15 ⟨rfl,hb⟩
   refine ⟨_,rfl,?_⟩
   replace BK122:=Kb_ BK122 hb
   replace HB:=Ks_ HB hb
   (try clear hb)
   (try clear hb2)
   (try clear hk)
   (try clear hi)
   refine hK.out _ _ (Kc9_ BK122.out) (fun hHeld=>?_)
   clear hK K
   refine Kn_ 24 ?_
   refine Kp_ 10 25 (mB_ 13 2047) (any_of HT_.out (by kernel_rfl)) ?_
   refine Kp_ 11 26 (mB_ 13 4095) (any_of HT_.out (by kernel_rfl)) ?_
   refine Kp_ 12 2 (mB_ 13 8191) (any_of HT_.out (by kernel_rfl)) ?_
   refine done_ (done_of HT_.out (by kernel_rfl)) ?_
   try go_wp2
   go_ret
   exact ⟨Kh_,Kz_ HB GW122⟩
def numL (a0:Int) (n:Nat):List Int:=(List.range n).map fun k=>a0 / (2 ^ (8 * (n - 1 - k)):Nat) % 256
def pack_Number.f (a0 a1:Int):Option (ByteArray):=if a1<1 then some (⟨#[]⟩:ByteArray) else if 8<a1 then some (⟨#[]⟩:ByteArray) else some (strOfNums (numL a0 a1.toNat))
theorem conv_arr (P:Program) (src dst e T:TypeId) (hs:P.underlying src=some (.slice e)) (he:P.underlying e=some (.int .u8)) (hd:P.underlying dst=some .string) (w:World) (xs:List Int) (n c:Nat) (hn:n≤xs.length) :
  (convert src dst (.slice (some ⟨w.heap.size,0,none⟩) n c)).run P (w.alloc (.cells (xs.map (Value.int .u8)).toArray T)) = .ok (.string (strOfNums (xs.take n))) (w.alloc (.cells (xs.map (Value.int .u8)).toArray T)):=by
 refine run_convert_bytes_arg _ src e hs he w.heap.size 0 n c (xs.take n) (by simp;omega) (fun i hi=>?_) dst hd
 rw [Nat.zero_add]
 have hlt:i<xs.length:=by omega
 rw [World.cell?_alloc_at (hn:=rfl)]
 simp [hi,hlt]
theorem pack_Number.none_ (a0 a1:Int) (h:a1<1∨8<a1) (w:World) :
  Calls Try.prog 59 #[.int .u64 a0,.int .i64 a1] w fun e w'=>e = .returned (.string ⟨#[]⟩)∧Below w.heap.size w w':=by
 rcases h with h|h
 ·have b1:decide (a1<1)=true:=decide_eq_true h
  go_enter Try.func59,Try.ntmps59
  go_wp2
  go_ret
  exact ⟨rfl,Below.refl _ _⟩
 ·have b1:decide (a1<1)=false:=decide_eq_false (by omega)
  have b2:decide (8<a1)=true:=decide_eq_true h
  go_enter Try.func59,Try.ntmps59
  go_wp2
  go_ret
  exact ⟨rfl,Below.refl _ _⟩
set_option maxHeartbeats 4000000 in
theorem pack_Number.some_ (a0:Int) (n:Nat) (h1:1≤n) (h8:n≤8) (w:World) :
  Calls Try.prog 59 #[.int .u64 a0,.int .i64 (n:Int)] w fun e w'=>e = .returned (.string (strOfNums (numL a0 n)))∧Below w.heap.size w w':=by
 have hcv:=fun x0 x1 x2 x3 x4 x5 x6 x7 m (hm:m≤[x0,x1,x2,x3,x4,x5,x6,x7].length)=>conv_arr Try.prog 91 9 5 161 Try.underlying91 Try.underlying5 Try.underlying9 w [x0,x1,x2,x3,x4,x5,x6,x7] m 8 hm
 simp only [List.map_cons,List.map_nil] at hcv
 obtain rfl|rfl|rfl|rfl|rfl|rfl|rfl|rfl:n=1∨n=2∨n=3∨n=4∨n=5∨n=6∨n=7∨n=8:=by omega
 ·replace hcv:=fun x0 x1 x2 x3 x4 x5 x6 x7=>hcv x0 x1 x2 x3 x4 x5 x6 x7 1 (by simp)
  simp only [List.take] at hcv
  go_enter Try.func59,Try.ntmps59
  go_wp2
  refine wp_loop_rounds 2 ?_
  iterate 2 (rw [rounds_succ];go_wp2)
  go_ret
  exact ⟨by simp [numL,List.range,List.range.loop],(Below.refl _ _).alloc (Nat.le_refl _) _⟩
 ·replace hcv:=fun x0 x1 x2 x3 x4 x5 x6 x7=>hcv x0 x1 x2 x3 x4 x5 x6 x7 2 (by simp)
  simp only [List.take] at hcv
  go_enter Try.func59,Try.ntmps59
  go_wp2
  refine wp_loop_rounds 3 ?_
  iterate 3 (rw [rounds_succ];go_wp2)
  go_ret
  exact ⟨by simp [numL,List.range,List.range.loop],(Below.refl _ _).alloc (Nat.le_refl _) _⟩
 ·replace hcv:=fun x0 x1 x2 x3 x4 x5 x6 x7=>hcv x0 x1 x2 x3 x4 x5 x6 x7 3 (by simp)
  simp only [List.take] at hcv
  go_enter Try.func59,Try.ntmps59
  go_wp2
  refine wp_loop_rounds 4 ?_
  iterate 4 (rw [rounds_succ];go_wp2)
  go_ret
  exact ⟨by simp [numL,List.range,List.range.loop],(Below.refl _ _).alloc (Nat.le_refl _) _⟩
 ·replace hcv:=fun x0 x1 x2 x3 x4 x5 x6 x7=>hcv x0 x1 x2 x3 x4 x5 x6 x7 4 (by simp)
  simp only [List.take] at hcv
  go_enter Try.func59,Try.ntmps59
  go_wp2
  refine wp_loop_rounds 5 ?_
  iterate 5 (rw [rounds_succ];go_wp2)
  go_ret
  exact ⟨by simp [numL,List.range,List.range.loop],(Below.refl _ _).alloc (Nat.le_refl _) _⟩
 ·replace hcv:=fun x0 x1 x2 x3 x4 x5 x6 x7=>hcv x0 x1 x2 x3 x4 x5 x6 x7 5 (by simp)
  simp only [List.take] at hcv
  go_enter Try.func59,Try.ntmps59
  go_wp2
  refine wp_loop_rounds 6 ?_
  iterate 6 (rw [rounds_succ];go_wp2)
  go_ret
  exact ⟨by simp [numL,List.range,List.range.loop],(Below.refl _ _).alloc (Nat.le_refl _) _⟩
 ·replace hcv:=fun x0 x1 x2 x3 x4 x5 x6 x7=>hcv x0 x1 x2 x3 x4 x5 x6 x7 6 (by simp)
  simp only [List.take] at hcv
  go_enter Try.func59,Try.ntmps59
  go_wp2
  refine wp_loop_rounds 7 ?_
  iterate 7 (rw [rounds_succ];go_wp2)
  go_ret
  exact ⟨by simp [numL,List.range,List.range.loop],(Below.refl _ _).alloc (Nat.le_refl _) _⟩
 ·replace hcv:=fun x0 x1 x2 x3 x4 x5 x6 x7=>hcv x0 x1 x2 x3 x4 x5 x6 x7 7 (by simp)
  simp only [List.take] at hcv
  go_enter Try.func59,Try.ntmps59
  go_wp2
  refine wp_loop_rounds 8 ?_
  iterate 8 (rw [rounds_succ];go_wp2)
  go_ret
  exact ⟨by simp [numL,List.range,List.range.loop],(Below.refl _ _).alloc (Nat.le_refl _) _⟩
 ·replace hcv:=fun x0 x1 x2 x3 x4 x5 x6 x7=>hcv x0 x1 x2 x3 x4 x5 x6 x7 8 (by simp)
  simp only [List.take] at hcv
  go_enter Try.func59,Try.ntmps59
  go_wp2
  refine wp_loop_rounds 9 ?_
  iterate 9 (rw [rounds_succ];go_wp2)
  go_ret
  exact ⟨by simp [numL,List.range,List.range.loop],(Below.refl _ _).alloc (Nat.le_refl _) _⟩
theorem pack_Number.calls (a0:Int) (a1:Int) (r:ByteArray) (w:World) (h:pack_Number.f a0 a1=some r) :
  Calls Try.prog 59 #[.int .u64 a0,.int .i64 a1] w fun e w'=>e = .returned (.string r)∧Below w.heap.size w w':=by
 unfold pack_Number.f at h
 by_cases c1:a1<1
 ·rw [if_pos c1] at h
  obtain rfl:=Option.some.inj h
  exact pack_Number.none_ a0 a1 (.inl c1) w
 ·rw [if_neg c1] at h
  by_cases c2:8<a1
  ·rw [if_pos c2] at h
   obtain rfl:=Option.some.inj h
   exact pack_Number.none_ a0 a1 (.inr c2) w
  ·rw [if_neg c2] at h
   obtain rfl:=Option.some.inj h
   obtain ⟨n,rfl⟩:=Int.eq_ofNat_of_zero_le (show 0≤a1 by omega)
   rw [Int.toNat_natCast]
   exact pack_Number.some_ a0 n (by omega) (by omega) w
def pack_Vary.l0:Nat→Int→List Int→Option (ByteArray)
 | 0,_,_=>none
 | k+1,x0,x3=>if x0 ≥ 128 then (if x3.length<140737488355328 then (pack_Vary.l0 k (x0 / 128) (x3++[Go.bits .or .u8 ((x0) % 256) 128])) else (none)) else (if x3.length<140737488355328 then (some (strOfNums (x3++[(x0) % 256]))) else (none))
def pack_Vary.f (k:Nat) (a0:Int):Option (ByteArray):=pack_Vary.l0 k a0 ([]:List Int)
set_option maxHeartbeats 8000000 in
set_option maxRecDepth 100000 in
theorem pack_Vary.calls (k:Nat) (a0:Int) (r:ByteArray) (w:World) (h:pack_Vary.f k a0=some r) :
  Calls Try.prog 60 #[.int .u64 a0] w fun e w'=>e = .returned (.string r)∧Below w.heap.size w w':=by
 have HB:=As_ (Below.refl w.heap.size w)
 unfold pack_Vary.f at h
 have H:=h
 clear h
 have H':=As_ H
 clear H
 go_enter Try.func60,Try.ntmps60
 go_wp2
 go_loopg [0,3] k (fun kq v0 v3 w'=>∃ (x0_1:Int) (x3_1:List Int),v0 = .int .u64 x0_1∧Aside0 (pack_Vary.l0 kq x0_1 x3_1=some r)∧Aside0 (kq≤k)∧Aside0 (Kd.R (Kd.int .u8) 5 w' w.heap.size (fun _=>True) v3 x3_1)∧Aside0 (Below w.heap.size w w'))
 case atStart=>exact ⟨(a0),(([]:List Int)),(by first|rfl|(simp;done)|(simp [*];done)),H',⟨Nat.le_refl _⟩,⟨by first|exact Kd.R_nil _ _ _ _ _|exact Kd.N_nil _ _ _ _ _|exact Kd.V_nil _ _ _ _ _|exact Kd.Q_nil _ _ _ _ _|exact Kd.S_nil _ _ _ _ _⟩,⟨Ky_ HB⟩⟩
 case round =>
  clear H'
  obtain ⟨x0_1,x3_1,rfl,HA,HK1,HO_3,HB⟩:=hrel
  cases gk with
  | zero=>exact absurd HA.out (by simp [pack_Vary.l0])
  | succ k1 =>
   have H:=HA.out
   clear HA
   simp only [pack_Vary.l0] at H
   by_cases c2:x0_1 ≥ 128
   rotate_left
   ·rw [if_neg c2] at H
    have c2b0:decide (128≤x0_1)=false:=decide_eq_false c2
    clear c2
    by_cases c5:x3_1.length<140737488355328
    rotate_left
    ·rw [if_neg c5] at H
     exact absurd H (by simp)
    rw [if_pos c5] at H
    have LMc5:=As_ c5
    clear c5
    obtain ⟨y129,hy129⟩:∃ y_:List Int,y_=(x3_1++[(x0_1) % 256]):=⟨_,rfl⟩
    replace H:(some (strOfNums y129))=some r:=by first|(rw [hy129];with_reducible exact H)|(have H2_:=(Option.bind_some _ _).symm.trans H;rw [hy129];with_reducible exact H2_)|(have H2_:=(Option.bind_some _ _).symm.trans H;with_reducible exact H2_)|with_reducible exact H|(rw [hy129];exact H)|exact H
    have Ny129:=As_ hy129
    clear hy129
    obtain rfl:=Option.some.inj H
    go_wp2_with (first|((with_reducible refine gate_builtin (b:=.append) (xs:=#[.tmp 14,.tmp 17]) rfl ?_);at_builtin;refine Kd.R_append (Kd.int .u8) (w0:=w) w.heap.size rfl (.tmp 14) (.tmp 17) 91 5 (.int .u8 0) 1 rfl Try.underlying91 info5 rfl (by decide) (by omega) u3 x3_1 ((x0_1) % 256) [.int .u8 ((x0_1) % 256)] (fun _=>True) (fun _=>False) rfl rfl ?aP (fun _ hk=>hk.elim) ?aF ?aO ?aB ?aS ?aL ?_;(case aP=>exact rfl);(case aB=>exact (Ky_ HB));(case aF=>exact (fun _ _=>trivial));(case aO=>exact (Ku_ HO_3));(case aS=>exact (below_size (Ky_ HB)));(case aL=>have:=LMc5.out;omega);intro v130 w6 ho hb hg hat;rw [← Ny129.out] at ho;have HO131:=As_ (ho);replace HB:=As_ (hb);clear HO_3;clear ho hb hg hat;have hcv7:=own_string (P:=Try.prog) Try.underlying91 Try.underlying5 Try.underlying9 (Kd.own_of_R HO131.out)))
    go_ret
    exact ⟨Kh_,Ky_ HB⟩
   rw [if_pos c2] at H
   have c2b0:decide (128≤x0_1)=true:=decide_eq_true c2
   clear c2
   by_cases c3:x3_1.length<140737488355328
   rotate_left
   ·rw [if_neg c3] at H
    exact absurd H (by simp)
   rw [if_pos c3] at H
   have LMc3:=As_ c3
   clear c3
   obtain ⟨y126,hy126⟩:∃ y_:List Int,y_=(x3_1++[Go.bits .or .u8 ((x0_1) % 256) 128]):=⟨_,rfl⟩
   replace H:(pack_Vary.l0 k1 (x0_1 / 128) y126)=some r:=by first|(rw [hy126];with_reducible exact H)|(have H2_:=(Option.bind_some _ _).symm.trans H;rw [hy126];with_reducible exact H2_)|(have H2_:=(Option.bind_some _ _).symm.trans H;with_reducible exact H2_)|with_reducible exact H|(rw [hy126];exact H)|exact H
   have Ny126:=As_ hy126
   clear hy126
   have H':=As_ H
   clear H
   go_wp2_with (first|((with_reducible refine gate_builtin (b:=.append) (xs:=#[.tmp 8,.tmp 12]) rfl ?_);at_builtin;refine Kd.R_append (Kd.int .u8) (w0:=w) w.heap.size rfl (.tmp 8) (.tmp 12) 91 5 (.int .u8 0) 1 rfl Try.underlying91 info5 rfl (by decide) (by omega) u3 x3_1 (Go.bits .or .u8 ((x0_1) % 256) 128) [.int .u8 (Go.bits .or .u8 ((x0_1) % 256) 128)] (fun _=>True) (fun _=>False) rfl rfl ?aP (fun _ hk=>hk.elim) ?aF ?aO ?aB ?aS ?aL ?_;(case aP=>exact rfl);(case aB=>exact (Ky_ HB));(case aF=>exact (fun _ _=>trivial));(case aO=>exact (Ku_ HO_3));(case aS=>exact (below_size (Ky_ HB)));(case aL=>have:=LMc3.out;omega);intro v127 w4 ho hb hg hat;rw [← Ny126.out] at ho;have HO128:=As_ (ho);replace HB:=As_ (hb);clear HO_3;clear ho hb hg hat))
   go_roundg k1
   case measure=>have:=HK1.out;omega
   case rel=>exact ⟨(x0_1 / 128),(y126),(by first|rfl|(simp;done)|(simp [*];done)),H',⟨by have:=HK1.out;omega⟩,⟨by (with_reducible repeat (first|apply Kd.R_alloc|apply Kd.R_drewN|apply Kd.R_drew));exact HO128.out⟩,⟨Ky_ HB⟩⟩
def pack_Text.f (k:Nat) (a0:ByteArray):Option (ByteArray):=if a0.size≤9223372036854775807 then ((pack_Vary.f k (a0.size:Int)).bind fun t132=>(if t132.size+a0.size≤9223372036854775807 then (some (t132++a0)) else (none))) else (none)
set_option maxHeartbeats 8000000 in
set_option maxRecDepth 100000 in
theorem pack_Text.calls (k:Nat) (a0:ByteArray) (r:ByteArray) (w:World) (h:pack_Text.f k a0=some r) :
  Calls Try.prog 62 #[.string a0] w fun e w'=>e = .returned (.string r)∧Below w.heap.size w w':=by
 have HB:=As_ (Below.refl w.heap.size w)
 unfold pack_Text.f at h
 have H:=h
 (try (have Hs_:=H;simp only [ByteArray.size_append,Int.natCast_add] at Hs_))
 clear h
 by_cases c2:a0.size≤9223372036854775807
 rotate_left
 ·rw [if_neg c2] at H
  exact absurd H (by simp)
 rw [if_pos c2] at H
 have c2b0:=eq_true c2
 have c2b1:decide (a0.size≤9223372036854775807)=true:=decide_eq_true c2
 try have c2b2:(9223372036854775807<a0.size)=False:=eq_false (Nat.not_lt.2 c2)
 obtain ⟨t132,A3,H⟩:=Kbind_ H
 (try dsimp only at H)
 by_cases c4:t132.size+a0.size≤9223372036854775807
 rotate_left
 ·rw [if_neg c4] at H
  exact absurd H (by simp)
 rw [if_pos c4] at H
 have c4b0:=eq_true c4
 have c4b1:decide (t132.size+a0.size≤9223372036854775807)=true:=decide_eq_true c4
 try have c4b2:(9223372036854775807<t132.size+a0.size)=False:=eq_false (Nat.not_lt.2 c4)
 obtain rfl:=Option.some.inj H
 go_enter Try.func62,Try.ntmps62
 go_wp2_with (first|((with_reducible refine gate_callee (f:=60) rfl ?_);refine Kg_ (some 6) rfl rfl Try.func60 (by kernel_rfl) rfl #[.int .u64 (a0.size:Int)] rfl ?_;(with_reducible refine (pack_Vary.calls k (a0.size:Int) t132 _ A3.out).mono ?_);rintro e w5 ⟨rfl,hb⟩;refine ⟨_,rfl,?_⟩;replace HB:=Ks_ HB hb;(try clear hb)))
 go_ret
 exact ⟨Kh_,Ky_ HB⟩
def vec_Put.f (k:Nat) (a0_0 a0_1 a0_2 a0_3:Int):Option ByteArray :=
 (pack_Vary.f k a0_0).bind fun t0=>(pack_Vary.f k a0_1).bind fun t1=>(pack_Vary.f k a0_2).bind fun t2=>(pack_Vary.f k a0_3).bind fun t3 =>
  if t0.size+t1.size+t2.size+t3.size≤9223372036854775807 then some (t0++t1++t2++t3) else none
theorem vec_Put.at_ (xs:Array Value) (hn:xs.size=4) (i:Nat) (v:Value) (W:World) (h:xs[i]?=some v) :
  (Instr.index 28 (.agg xs) (.int .i64 (i:Int))).run Try.prog W = .ok v W:=by
 have hu:=Try.underlying28
 have hi:i<4:=by
  have:=(Array.getElem?_eq_some_iff.1 h).1
  omega
 have hs:(sizeOf 26).run Try.prog W = .ok 1 W:=by go_simp
 have hp:(part 26 xs i).run Try.prog W = .ok v W:=by
  unfold part
  go_simp
  exact (Array.getElem?_eq_some_iff.1 h).2
 simp [Instr.index,asIntOf,Sem.run_bind,run_underlying hu,hs,hp,hi]
set_option maxHeartbeats 8000000 in
set_option maxRecDepth 100000 in
theorem vec_Put.calls (k:Nat) (a0_0 a0_1 a0_2 a0_3:Int) (r:ByteArray) (w:World) (h:vec_Put.f k a0_0 a0_1 a0_2 a0_3=some r) :
  Calls Try.prog 102 #[.agg #[.int .u64 a0_0,.int .u64 a0_1,.int .u64 a0_2,.int .u64 a0_3]] w fun e w'=>e = .returned (.string r)∧Below w.heap.size w w':=by
 unfold vec_Put.f at h
 obtain ⟨t0,A0,h⟩:=Option.bind_eq_some_iff.1 h
 obtain ⟨t1,A1,h⟩:=Option.bind_eq_some_iff.1 h
 obtain ⟨t2,A2,h⟩:=Option.bind_eq_some_iff.1 h
 obtain ⟨t3,A3,h⟩:=Option.bind_eq_some_iff.1 h
 by_cases hz:t0.size+t1.size+t2.size+t3.size≤9223372036854775807
 ·rw [if_pos hz] at h
  obtain rfl:=Option.some.inj h
  have z0:t0.size≤9223372036854775807:=by omega
  have z1:t0.size+t1.size≤9223372036854775807:=by omega
  have z2:t0.size+t1.size+t2.size≤9223372036854775807:=by omega
  replace A0:=As_ A0
  replace A1:=As_ A1
  replace A2:=As_ A2
  replace A3:=As_ A3
  clear h
  have hu:=Try.underlying28
  have hu2:=Try.underlying26
  have x0:=fun W=>vec_Put.at_ #[.int .u64 a0_0,.int .u64 a0_1,.int .u64 a0_2,.int .u64 a0_3] rfl 0 (.int .u64 a0_0) W rfl
  have x1:=fun W=>vec_Put.at_ #[.int .u64 a0_0,.int .u64 a0_1,.int .u64 a0_2,.int .u64 a0_3] rfl 1 (.int .u64 a0_1) W rfl
  have x2:=fun W=>vec_Put.at_ #[.int .u64 a0_0,.int .u64 a0_1,.int .u64 a0_2,.int .u64 a0_3] rfl 2 (.int .u64 a0_2) W rfl
  have x3:=fun W=>vec_Put.at_ #[.int .u64 a0_0,.int .u64 a0_1,.int .u64 a0_2,.int .u64 a0_3] rfl 3 (.int .u64 a0_3) W rfl
  simp only [Int.ofNat_eq_natCast,Int.cast_ofNat_Int] at x0 x1 x2 x3
  go_enter Try.func102,Try.ntmps102
  go_wp2
  generalize hW:(w.alloc (Obj.cells _ _))=W0
  have HB:Below w.heap.size w W0:=by rw [← hW];exact below_alloc (Below.refl _ _) _
  replace HB:=As_ HB
  clear hW
  refine wp_loop_rounds 5 ?_
  rw [rounds_succ]
  go_wp2_with (go_at_call 60;refine (pack_Vary.calls k _ t0 _ A0.out).mono ?_;rintro e w1 ⟨rfl,hb⟩;have HB1:=As_ (below_step HB.out hb);clear hb)
  rw [rounds_succ]
  go_wp2_with (go_at_call 60;refine (pack_Vary.calls k _ t1 _ A1.out).mono ?_;rintro e w2 ⟨rfl,hb⟩;have HB2:=As_ (below_step HB1.out hb);clear hb)
  rw [rounds_succ]
  go_wp2_with (go_at_call 60;refine (pack_Vary.calls k _ t2 _ A2.out).mono ?_;rintro e w3 ⟨rfl,hb⟩;have HB3:=As_ (below_step HB2.out hb);clear hb)
  rw [rounds_succ]
  go_wp2_with (go_at_call 60;refine (pack_Vary.calls k _ t3 _ A3.out).mono ?_;rintro e w4 ⟨rfl,hb⟩;have HB4:=As_ (below_step HB3.out hb);clear hb)
  rw [rounds_succ]
  go_wp2
  go_ret
  exact ⟨by first|rfl|simp,HB4.out⟩
 ·rw [if_neg hz] at h
  exact absurd h (by simp)
def stamp_Put.f (k:Nat) (a0_0:Int) (a0_1:Int) (a0_2:Int) (a0_3:Int) (a0_4:Int):Option (ByteArray × Bool):=(stamp_Right.f a0_0 a0_1 a0_2 a0_3 a0_4).bind fun t134=>(if t134=true then ((pack_Number.f (IntKind.u64.wrap (a0_4)) 1).bind fun t135=>((vec_Put.f k a0_0 a0_1 a0_2 a0_3).bind fun t136=>(if t135.size+t136.size≤9223372036854775807 then (some (t135++t136,true)) else (none)))) else (some ((⟨#[]⟩:ByteArray),false)))
def stamp_Put.T3:Bool × List (List Nat × List Nat):=(true,[([],[]),([0],[0]),([1],[1]),([2],[2]),([],[]),([4],[4]),([5,3],[5]),([3,6],[3,6]),([7,6,0,1,2,3,4,5,6,7],[7]),([8,0,1,2,3,4,5,6,7,8],[])])
def stamp_Put.B3:List Nat:=[0,1,3,7,0,16,63,127,255,511]
theorem stamp_Put.tab3:rtab .any (opsOf Try.f88 3)=stamp_Put.T3:=by kernel_rfl
theorem stamp_Put.bits3:waitsOk stamp_Put.T3.2 stamp_Put.B3=true:=by kernel_rfl
set_option maxHeartbeats 8000000 in
set_option maxRecDepth 100000 in
theorem stamp_Put.calls (k:Nat) (a0_0:Int) (a0_1:Int) (a0_2:Int) (a0_3:Int) (a0_4:Int) (r1:ByteArray) (r2:Bool) (w:World) (h:stamp_Put.f k a0_0 a0_1 a0_2 a0_3 a0_4=some (r1,r2)) :
  Calls Try.prog 88 #[.agg #[.int .u64 a0_0,.int .u64 a0_1,.int .u64 a0_2,.int .u64 a0_3,.int .i64 a0_4]] w fun e w'=>e = .returned (.tuple #[.string r1,.bool r2])∧Below w.heap.size w w':=by
 have hu30:=Try.underlying30
 have hu28:=Try.underlying28
 have HB:=As_ (Below.refl w.heap.size w)
 unfold stamp_Put.f at h
 have H:=h
 (try (have Hs_:=H;simp only [ByteArray.size_append,Int.natCast_add] at Hs_))
 clear h
 obtain ⟨t134,A2,H⟩:=Kbind_ H
 (try dsimp only at H)
 by_cases c3:t134=true
 rotate_left
 ·replace c3:=Bool.eq_false_iff.mpr c3
  subst c3
  rw [if_neg Bool.false_ne_true] at H
  simp only [Option.some.injEq,Prod.mk.injEq] at H
  obtain ⟨rfl,rfl⟩:=H
  go_enter Try.func88,Try.ntmps88
  go_wp2_with (first|((with_reducible refine gate_dst (N:=1) rfl ?_);refine Ka_ 1 #[.int .u64 a0_0,.int .u64 a0_1,.int .u64 a0_2,.int .u64 a0_3,.int .i64 a0_4] 30 ?_;intro gb133 hg w13 hbox hb;have BK133:=As_ (hbox);have GW133:=Kw_ HB hg;replace HB:=Ks_ HB hb;clear hb hbox hg;obtain ⟨_,_,_,_,_,_,_,_,_,_⟩:=Ke5_ BK133.out)|((with_reducible refine gate_callee (f:=69) rfl ?_);refine Kg_ (some 5) rfl rfl Try.func69 (by kernel_rfl) rfl #[.agg #[.int .u64 a0_0,.int .u64 a0_1,.int .u64 a0_2,.int .u64 a0_3,.int .i64 a0_4]] rfl ?_;(with_reducible refine (stamp_Right.calls a0_0 a0_1 a0_2 a0_3 a0_4 false _ A2.out).mono ?_);rintro e w15 ⟨rfl,hb⟩;refine ⟨_,rfl,?_⟩;replace HB:=Ks_ HB hb;(try clear hb)))
  go_ret2
  exact ⟨Kh_,Kz_ HB GW133⟩
 subst c3
 rw [if_pos rfl] at H
 obtain ⟨t135,A4,H⟩:=Kbind_ H
 (try dsimp only at H)
 obtain ⟨t136,A5,H⟩:=Kbind_ H
 (try dsimp only at H)
 by_cases c6:t135.size+t136.size≤9223372036854775807
 rotate_left
 ·rw [if_neg c6] at H
  exact absurd H (by simp)
 rw [if_pos c6] at H
 have c6b0:=eq_true c6
 have c6b1:decide (t135.size+t136.size≤9223372036854775807)=true:=decide_eq_true c6
 try have c6b2:(9223372036854775807<t135.size+t136.size)=False:=eq_false (Nat.not_lt.2 c6)
 simp only [Option.some.injEq,Prod.mk.injEq] at H
 obtain ⟨rfl,rfl⟩:=H
 go_enter Try.func88,Try.ntmps88
 try go_wp2_with (first|((with_reducible refine gate_dst (N:=1) rfl ?_);refine Ka_ 1 #[.int .u64 a0_0,.int .u64 a0_1,.int .u64 a0_2,.int .u64 a0_3,.int .i64 a0_4] 30 ?_;intro gb133 hg w7 hbox hb;have BK133:=As_ (hbox);have GW133:=Kw_ HB hg;replace HB:=Ks_ HB hb;clear hb hbox hg;obtain ⟨_,_,_,_,_,_,_,_,_,_⟩:=Ke5_ BK133.out)|((with_reducible refine gate_callee (f:=69) rfl ?_);refine Kg_ (some 5) rfl rfl Try.func69 (by kernel_rfl) rfl #[.agg #[.int .u64 a0_0,.int .u64 a0_1,.int .u64 a0_2,.int .u64 a0_3,.int .i64 a0_4]] rfl ?_;(with_reducible refine (stamp_Right.calls a0_0 a0_1 a0_2 a0_3 a0_4 true _ A2.out).mono ?_);rintro e w9 ⟨rfl,hb⟩;refine ⟨_,rfl,?_⟩;replace BK133:=Kb_ BK133 hb;replace HB:=Ks_ HB hb;(try clear hb)))
 replace BK133:=Kd_ BK133
 replace HB:=As_ (below_drew1 HB.out)
 refine start_ (n:=10) (S:=fun w'=>w'.cell? ⟨gb133,0,none⟩=some (.int .u64 a0_0)∧w'.cell? ⟨gb133,1,none⟩=some (.int .u64 a0_1)∧w'.cell? ⟨gb133,2,none⟩=some (.int .u64 a0_2)∧w'.cell? ⟨gb133,3,none⟩=some (.int .u64 a0_3)∧w'.cell? ⟨gb133,4,none⟩=some (.int .i64 a0_4)) (ds:=[]) (mB_ 10 0) (by kernel_rfl) rfl rfl (Kc5_ BK133.out) (fun hHeld=>?_);refine with_tabW stamp_Put.tab3 stamp_Put.bits3 (fun HT_ HW_=>?_)
 generalize w9.drew=w10 at BK133 HB hHeld ⊢
 refine Kp_ 0 7 (mB_ 10 1) (any_of HT_.out (by kernel_rfl)) ?_
 refine Kp_ 4 11 (mB_ 10 17) (any_of HT_.out (by kernel_rfl)) ?_
 refine Ko_ 1 8 (mB_ 10 19) (take_ofW HT_.out HW_.out (by kernel_rfl)) hHeld ?_
 refine Kp_ 2 9 (mB_ 10 23) (any_of HT_.out (by kernel_rfl)) ?_
 refine Ko_ 5 12 (mB_ 10 55) (take_ofW HT_.out HW_.out (by kernel_rfl)) hHeld ?_
 refine one_ (i:=3) (N:=some 10) (mB_ 10 63) rfl rfl (one_of HT_.out (by kernel_rfl)) (by decide) (fun K hK=>?_)
 refine goes_ Try.func59 (by kernel_rfl) rfl #[.int .u64 (IntKind.u64.wrap (a0_4)),.int .i64 1] (by rfl) rfl rfl (by (try simp only [List.map_toArray,List.map_cons,List.map_nil]);first|done|rfl|(simp only [List.length_drop,List.length_take];rfl)) ?_
 with_reducible refine (pack_Number.calls (IntKind.u64.wrap (a0_4)) 1 t135 _ A4.out).mono ?_
 rintro e w11 ⟨rfl,hb⟩
 refine ⟨_,rfl,?_⟩
 replace BK133:=Kb_ BK133 hb
 replace HB:=Ks_ HB hb
 (try clear hb)
 (try clear hb2)
 (try clear hk)
 (try clear hi)
 refine hK.out _ _ (Kc5_ BK133.out) (fun hHeld=>?_)
 clear hK K
 refine Kn_ 10 ?_
 refine one_ (i:=6) (N:=some 13) (mB_ 10 127) rfl rfl (one_of HT_.out (by kernel_rfl)) (by decide) (fun K hK=>?_)
 refine goes_ Try.func102 (by kernel_rfl) rfl #[.agg #[.int .u64 a0_0,.int .u64 a0_1,.int .u64 a0_2,.int .u64 a0_3]] (by rfl) rfl rfl (by (try simp only [List.map_toArray,List.map_cons,List.map_nil]);first|done|rfl|(simp only [List.length_drop,List.length_take];rfl)) ?_
 with_reducible refine (vec_Put.calls k a0_0 a0_1 a0_2 a0_3 t136 _ A5.out).mono ?_
 rintro e w12 ⟨rfl,hb⟩
 refine ⟨_,rfl,?_⟩
 replace BK133:=Kb_ BK133 hb
 replace HB:=Ks_ HB hb
 (try clear hb)
 (try clear hb2)
 (try clear hk)
 (try clear hi)
 refine hK.out _ _ (Kc5_ BK133.out) (fun hHeld=>?_)
 clear hK K
 refine Kn_ 13 ?_
 refine Kp_ 7 14 (mB_ 10 255) (any_of HT_.out (by kernel_rfl)) ?_
 refine Kp_ 8 2 (mB_ 10 511) (any_of HT_.out (by kernel_rfl)) ?_
 refine Kp_ 9 3 (mB_ 10 1023) (any_of HT_.out (by kernel_rfl)) ?_
 refine done_ (done_of HT_.out (by kernel_rfl)) ?_
 try go_wp2
 go_ret2
 exact ⟨Kh_,Kz_ HB GW133⟩
def item_Bytes.l0:Nat→ByteArray→List (S107)→Int→Int→Option (ByteArray × Bool)
 | 0,_,_,_,_=>none
 | k+1,x4,x25,x26,x27=>if x27<x26 then (if 0≤x27 then (if x27<(x25.length:Int) then ((pack_Text.f k ((rd_T107 x25 x27).f0)).bind fun t144=>((pack_Text.f k ((rd_T107 x25 x27).f1)).bind fun t145=>(if t144.size+t145.size≤9223372036854775807 then (if x4.size+(t144++t145).size≤9223372036854775807 then (if (rd_T107 x25 x27).f3=true then ((pack_Number.f 1 1).bind fun t146=>(if (x4++(t144++t145)).size+t146.size≤9223372036854775807 then (item_Bytes.l0 k ((x4++(t144++t145))++t146) x25 x26 (wrap64 (x27+1))) else (none))) else ((pack_Number.f 0 1).bind fun t147=>((pack_Text.f k ((rd_T107 x25 x27).f2)).bind fun t148=>(if t147.size+t148.size≤9223372036854775807 then (if (x4++(t144++t145)).size+(t147++t148).size≤9223372036854775807 then (item_Bytes.l0 k ((x4++(t144++t145))++(t147++t148)) x25 x26 (wrap64 (x27+1))) else (none)) else (none))))) else (none)) else (none)))) else (none)) else (none)) else (some (x4,true))
def item_Bytes.f (k:Nat) (a0_0:Int) (a0_1:Int) (a0_2:Int) (a0_3:Int) (a0_4:Int) (l0_5:List (S107)):Option (ByteArray × Bool):=(item_Whole.f a0_0 a0_1 a0_2 a0_3 a0_4 l0_5).bind fun t138=>(if t138=true then ((stamp_Put.f k a0_0 a0_1 a0_2 a0_3 a0_4).bind fun bt139=>((pack_Number.f (IntKind.u64.wrap ((l0_5.length:Int))) 1).bind fun t141=>(if bt139.1.size+t141.size≤9223372036854775807 then (item_Bytes.l0 k (bt139.1++t141) l0_5 (l0_5.length:Int) 0) else (none)))) else (some ((⟨#[]⟩:ByteArray),false)))
def item_Bytes.T8:Bool × List (List Nat × List Nat):=(true,[([],[]),([],[]),([1],[1]),([2],[2]),([],[]),([4],[4]),([5,3],[5]),([3,6],[3,6]),([0,7],[0,7]),([8,6,0,1,2,3,4,5,6,7,8],[0,8])])
def item_Bytes.B8:List Nat:=[0,0,2,6,0,16,62,126,255,511]
theorem item_Bytes.tab8:rtab .any (opsOf Try.f61 8)=item_Bytes.T8:=by kernel_rfl
theorem item_Bytes.bits8:waitsOk item_Bytes.T8.2 item_Bytes.B8=true:=by kernel_rfl
def item_Bytes.T11:Bool × List (List Nat × List Nat):=(true,[([],[]),([],[]),([],[]),([2],[2]),([3,1],[3]),([1,4],[1,4]),([0,5],[0,5]),([6,4,0,1,2,3,4,5,6],[0,6])])
def item_Bytes.B11:List Nat:=[0,0,0,4,14,30,63,127]
theorem item_Bytes.tab11:rtab .any (opsOf Try.f61 11)=item_Bytes.T11:=by kernel_rfl
theorem item_Bytes.bits11:waitsOk item_Bytes.T11.2 item_Bytes.B11=true:=by kernel_rfl
set_option maxHeartbeats 8000000 in
set_option maxRecDepth 100000 in
theorem item_Bytes.calls (k:Nat) (a0_0:Int) (a0_1:Int) (a0_2:Int) (a0_3:Int) (a0_4:Int) (A0_5:Option Addr) (c0_5:Nat) (l0_5:List (S107)) (r1:ByteArray) (r2:Bool) (w:World) (hr0_5:Kd.C k107 w A0_5 l0_5.length l0_5) (hc0_5:l0_5.length≤c0_5) (h:item_Bytes.f k a0_0 a0_1 a0_2 a0_3 a0_4 l0_5=some (r1,r2)) :
  Calls Try.prog 61 #[.agg #[.int .u64 a0_0,.int .u64 a0_1,.int .u64 a0_2,.int .u64 a0_3,.int .i64 a0_4,.slice A0_5 l0_5.length c0_5]] w fun e w'=>e = .returned (.tuple #[.string r1,.bool r2])∧Below w.heap.size w w':=by
 have hu33:=Try.underlying33
 have hu30:=Try.underlying30
 have hu107:=Try.underlying107
 have HR0_5:=As_ hr0_5
 have HC0_5:=As_ hc0_5
 clear hr0_5 hc0_5
 have HB:=As_ (Below.refl w.heap.size w)
 unfold item_Bytes.f at h
 have H:=h
 (try (have Hs_:=H;simp only [ByteArray.size_append,Int.natCast_add] at Hs_))
 clear h
 obtain ⟨t138,A2,H⟩:=Kbind_ H
 (try dsimp only at H)
 by_cases c3:t138=true
 rotate_left
 ·replace c3:=Bool.eq_false_iff.mpr c3
  subst c3
  rw [if_neg Bool.false_ne_true] at H
  simp only [Option.some.injEq,Prod.mk.injEq] at H
  obtain ⟨rfl,rfl⟩:=H
  go_enter Try.func61,Try.ntmps61
  go_wp2_with (first|((with_reducible refine gate_dst (N:=1) rfl ?_);refine Ka_ 1 #[.int .u64 a0_0,.int .u64 a0_1,.int .u64 a0_2,.int .u64 a0_3,.int .i64 a0_4,.slice A0_5 l0_5.length c0_5] 33 ?_;intro gb137 hg w50 hbox hb;have BK137:=As_ (hbox);have GW137:=Kw_ HB hg;replace HB:=Ks_ HB hb;clear hb hbox hg;obtain ⟨_,_,_,_,_,_,_,_,_,_,_,_⟩:=Ke6_ BK137.out)|((with_reducible refine gate_callee (f:=73) rfl ?_);refine Kg_ (some 9) rfl rfl Try.func73 (by kernel_rfl) rfl #[.agg #[.int .u64 a0_0,.int .u64 a0_1,.int .u64 a0_2,.int .u64 a0_3,.int .i64 a0_4,.slice A0_5 l0_5.length c0_5]] rfl ?_;(with_reducible refine (item_Whole.calls a0_0 a0_1 a0_2 a0_3 a0_4 _ _ l0_5 false _ ?side1 ?side2 A2.out).mono ?_);(case side1=>repeat (first|exact (Kd.C_below HR0_5.out HB.out)|(with_reducible refine Kd.C_alloc ?_ _)|(with_reducible refine Kd.C_drewN ?_ _)|(with_reducible refine Kd.C_drew ?_)));(case side2=>exact HC0_5.out);rintro e w52 ⟨rfl,hb⟩;refine ⟨_,rfl,?_⟩;replace HB:=Ks_ HB hb;(try clear hb)))
  go_ret2
  exact ⟨Kh_,Kz_ HB GW137⟩
 subst c3
 rw [if_pos rfl] at H
 obtain ⟨⟨t139,t140⟩,A4,H⟩:=Kbind_ H
 (try dsimp only at H)
 obtain ⟨t141,A5,H⟩:=Kbind_ H
 (try dsimp only at H)
 by_cases c6:t139.size+t141.size≤9223372036854775807
 rotate_left
 ·rw [if_neg c6] at H
  exact absurd H (by simp)
 rw [if_pos c6] at H
 have c6b0:=eq_true c6
 have c6b1:decide (t139.size+t141.size≤9223372036854775807)=true:=decide_eq_true c6
 try have c6b2:(9223372036854775807<t139.size+t141.size)=False:=eq_false (Nat.not_lt.2 c6)
 have H':=As_ H
 clear H
 go_enter Try.func61,Try.ntmps61
 go_wp2_with (first|((with_reducible refine gate_dst (N:=1) rfl ?_);refine Ka_ 1 #[.int .u64 a0_0,.int .u64 a0_1,.int .u64 a0_2,.int .u64 a0_3,.int .i64 a0_4,.slice A0_5 l0_5.length c0_5] 33 ?_;intro gb137 hg w7 hbox hb;have BK137:=As_ (hbox);have GW137:=Kw_ HB hg;replace HB:=Ks_ HB hb;clear hb hbox hg;obtain ⟨hcz8_0,hcz8_1,hcz8_2,hcz8_3,hcz8_4,hcz8_5,hfz8_0,hfz8_1,hfz8_2,hfz8_3,hfz8_4,hfz8_5⟩:=Ke6_ BK137.out)|((with_reducible refine gate_callee (f:=73) rfl ?_);refine Kg_ (some 9) rfl rfl Try.func73 (by kernel_rfl) rfl #[.agg #[.int .u64 a0_0,.int .u64 a0_1,.int .u64 a0_2,.int .u64 a0_3,.int .i64 a0_4,.slice A0_5 l0_5.length c0_5]] rfl ?_;(with_reducible refine (item_Whole.calls a0_0 a0_1 a0_2 a0_3 a0_4 _ _ l0_5 true _ ?side1 ?side2 A2.out).mono ?_);(case side1=>repeat (first|exact (Kd.C_below HR0_5.out HB.out)|(with_reducible refine Kd.C_alloc ?_ _)|(with_reducible refine Kd.C_drewN ?_ _)|(with_reducible refine Kd.C_drew ?_)));(case side2=>exact HC0_5.out);rintro e w9 ⟨rfl,hb⟩;refine ⟨_,rfl,?_⟩;replace BK137:=Kb_ BK137 hb;replace HB:=Ks_ HB hb;(try clear hb);obtain ⟨hcz10_0,hcz10_1,hcz10_2,hcz10_3,hcz10_4,hcz10_5,hfz10_0,hfz10_1,hfz10_2,hfz10_3,hfz10_4,hfz10_5⟩:=Ke6_ BK137.out)|((with_reducible refine gate_callee (f:=88) rfl ?_);refine Kg_ (some 14) rfl rfl Try.func88 (by kernel_rfl) rfl #[.agg #[.int .u64 a0_0,.int .u64 a0_1,.int .u64 a0_2,.int .u64 a0_3,.int .i64 a0_4]] rfl ?_;(with_reducible refine (stamp_Put.calls k a0_0 a0_1 a0_2 a0_3 a0_4 t139 t140 _ A4.out).mono ?_);rintro e w11 ⟨rfl,hb⟩;refine ⟨_,rfl,?_⟩;replace BK137:=Kb_ BK137 hb;replace HB:=Ks_ HB hb;(try clear hb);obtain ⟨hcz12_0,hcz12_1,hcz12_2,hcz12_3,hcz12_4,hcz12_5,hfz12_0,hfz12_1,hfz12_2,hfz12_3,hfz12_4,hfz12_5⟩:=Ke6_ BK137.out)|((with_reducible refine gate_callee (f:=59) rfl ?_);refine Kg_ (some 22) rfl rfl Try.func59 (by kernel_rfl) rfl #[.int .u64 (IntKind.u64.wrap ((l0_5.length:Int))),.int .i64 1] rfl ?_;(with_reducible refine (pack_Number.calls (IntKind.u64.wrap ((l0_5.length:Int))) 1 t141 _ A5.out).mono ?_);rintro e w13 ⟨rfl,hb⟩;refine ⟨_,rfl,?_⟩;replace BK137:=Kb_ BK137 hb;replace HB:=Ks_ HB hb;(try clear hb);obtain ⟨hcz14_0,hcz14_1,hcz14_2,hcz14_3,hcz14_4,hcz14_5,hfz14_0,hfz14_1,hfz14_2,hfz14_3,hfz14_4,hfz14_5⟩:=Ke6_ BK137.out))
 go_loopg [4,27] k (fun kq v4 v27 w'=>∃ (x4_1:ByteArray) (x27_1:Int),v4 = .string x4_1∧v27 = .int .i64 x27_1∧Aside0 (item_Bytes.l0 kq x4_1 l0_5 (l0_5.length:Int) x27_1=some (r1,r2))∧Aside0 (kq≤k)∧Aside0 (w'.heap[gb137]?=some (.cells #[.int .u64 a0_0,.int .u64 a0_1,.int .u64 a0_2,.int .u64 a0_3,.int .i64 a0_4,(.slice A0_5 l0_5.length c0_5)] 33 (0,0)))∧Aside0 (Below w.heap.size w w'))
 case atStart=>exact ⟨(t139++t141),(0),(by first|rfl|(simp;done)|(simp [*];done)),(by first|rfl|(simp;done)|(simp [*];done)),H',⟨Nat.le_refl _⟩,⟨by exact Kq_ BK137⟩,⟨Kz_ HB GW137⟩⟩
 case round =>
  clear H'
  try clear p2
  try clear c3
  try clear c5
  try clear c6
  try clear c6b0
  try clear c6b1
  try clear c6b2
  try clear c7
  try clear c8
  try clear hcz10_0
  try clear hcz10_1
  try clear hcz10_2
  try clear hcz10_3
  try clear hcz10_4
  try clear hcz10_5
  try clear hcz12_0
  try clear hcz12_1
  try clear hcz12_2
  try clear hcz12_3
  try clear hcz12_4
  try clear hcz12_5
  try clear hcz14_0
  try clear hcz14_1
  try clear hcz14_2
  try clear hcz14_3
  try clear hcz14_4
  try clear hcz14_5
  try clear hcz8_0
  try clear hcz8_1
  try clear hcz8_2
  try clear hcz8_3
  try clear hcz8_4
  try clear hcz8_5
  try clear hfz10_0
  try clear hfz10_1
  try clear hfz10_2
  try clear hfz10_3
  try clear hfz10_4
  try clear hfz10_5
  try clear hfz12_0
  try clear hfz12_1
  try clear hfz12_2
  try clear hfz12_3
  try clear hfz12_4
  try clear hfz12_5
  try clear hfz14_0
  try clear hfz14_1
  try clear hfz14_2
  try clear hfz14_3
  try clear hfz14_4
  try clear hfz14_5
  try clear hfz8_0
  try clear hfz8_1
  try clear hfz8_2
  try clear hfz8_3
  try clear hfz8_4
  try clear hfz8_5
  obtain ⟨x4_1,x27_1,rfl,rfl,HA,HK1,BK137,HB⟩:=hrel
  cases gk with
  | zero=>exact absurd HA.out (by simp [item_Bytes.l0])
  | succ k1 =>
   have H:=HA.out
   clear HA
   simp only [item_Bytes.l0] at H
   by_cases c15:x27_1<(l0_5.length:Int)
   rotate_left
   ·rw [if_neg c15] at H
    have c15b0:decide (x27_1<(l0_5.length:Int))=false:=decide_eq_false c15
    clear c15
    simp only [Option.some.injEq,Prod.mk.injEq] at H
    obtain ⟨rfl,rfl⟩:=H
    go_wp2
    go_ret2
    exact ⟨Kh_,Kz_ HB GW137⟩
   rw [if_pos c15] at H
   have c15b0:decide (x27_1<(l0_5.length:Int))=true:=decide_eq_true c15
   clear c15
   by_cases c16:0≤x27_1
   rotate_left
   ·rw [if_neg c16] at H
    exact absurd H (by simp)
   rw [if_pos c16] at H
   have c16b0:decide (0≤x27_1)=true:=decide_eq_true c16
   clear c16
   by_cases c17:x27_1<(l0_5.length:Int)
   rotate_left
   ·rw [if_neg c17] at H
    exact absurd H (by simp)
   rw [if_pos c17] at H
   have c17b0:decide (x27_1<(l0_5.length:Int))=true:=decide_eq_true c17
   clear c17
   obtain ⟨t144,A18,H⟩:=Kbind_ H
   (try dsimp only at H)
   obtain ⟨t145,A19,H⟩:=Kbind_ H
   (try dsimp only at H)
   by_cases c20:t144.size+t145.size≤9223372036854775807
   rotate_left
   ·rw [if_neg c20] at H
    exact absurd H (by simp)
   rw [if_pos c20] at H
   have c20b0:=eq_true c20
   have c20b1:decide (t144.size+t145.size≤9223372036854775807)=true:=decide_eq_true c20
   try have c20b2:(9223372036854775807<t144.size+t145.size)=False:=eq_false (Nat.not_lt.2 c20)
   by_cases c21:x4_1.size+(t144++t145).size≤9223372036854775807
   rotate_left
   ·rw [if_neg c21] at H
    exact absurd H (by simp)
   rw [if_pos c21] at H
   have c21b0:=eq_true c21
   (try (have c21b0s_:=c21b0;simp only [ByteArray.size_append,Int.natCast_add] at c21b0s_))
   have c21b1:decide (x4_1.size+(t144++t145).size≤9223372036854775807)=true:=decide_eq_true c21
   (try (have c21b1s_:=c21b1;simp only [ByteArray.size_append,Int.natCast_add] at c21b1s_))
   try have c21b2:(9223372036854775807<x4_1.size+(t144++t145).size)=False:=eq_false (Nat.not_lt.2 c21)
   (try (have c21b2s_:=c21b2;simp only [ByteArray.size_append,Int.natCast_add] at c21b2s_))
   obtain ⟨bq22,hbq22⟩:∃ b_:Bool,b_=((rd_T107 l0_5 x27_1).f3):=⟨_,rfl⟩
   replace H:(if bq22=true then ((pack_Number.f 1 1).bind fun t146=>(if (x4_1++(t144++t145)).size+t146.size≤9223372036854775807 then (item_Bytes.l0 k1 ((x4_1++(t144++t145))++t146) l0_5 (l0_5.length:Int) (wrap64 (x27_1+1))) else (none))) else ((pack_Number.f 0 1).bind fun t147=>((pack_Text.f k1 ((rd_T107 l0_5 x27_1).f2)).bind fun t148=>(if t147.size+t148.size≤9223372036854775807 then (if (x4_1++(t144++t145)).size+(t147++t148).size≤9223372036854775807 then (item_Bytes.l0 k1 ((x4_1++(t144++t145))++(t147++t148)) l0_5 (l0_5.length:Int) (wrap64 (x27_1+1))) else (none)) else (none)))))=some (r1,r2):=by rw [← hbq22] at H;exact H
   have Nbq22:=As_ hbq22
   clear hbq22
   by_cases c23:bq22=true
   ·subst c23
    rw [if_pos rfl] at H
    obtain ⟨t146,A24,H⟩:=Kbind_ H
    (try dsimp only at H)
    by_cases c25:(x4_1++(t144++t145)).size+t146.size≤9223372036854775807
    rotate_left
    ·rw [if_neg c25] at H
     exact absurd H (by simp)
    rw [if_pos c25] at H
    have c25b0:=eq_true c25
    (try (have c25b0s_:=c25b0;simp only [ByteArray.size_append,Int.natCast_add] at c25b0s_))
    have c25b1:decide ((x4_1++(t144++t145)).size+t146.size≤9223372036854775807)=true:=decide_eq_true c25
    (try (have c25b1s_:=c25b1;simp only [ByteArray.size_append,Int.natCast_add] at c25b1s_))
    try have c25b2:(9223372036854775807<(x4_1++(t144++t145)).size+t146.size)=False:=eq_false (Nat.not_lt.2 c25)
    (try (have c25b2s_:=c25b2;simp only [ByteArray.size_append,Int.natCast_add] at c25b2s_))
    have H':=As_ H
    clear H
    have p142:0≤(x27_1:Int):=of_decide_eq_true (by first|(with_reducible assumption)|assumption)
    have q142:x27_1<(l0_5.length:Int):=of_decide_eq_true (by first|(with_reducible assumption)|assumption)
    obtain ⟨ad142,e142,hx142_0,hx142_1,hx142_2,hx142_3⟩:=at_T107 HR0_5.out x27_1 p142 q142
    (try rw [← Nbq22.out] at hx142_3)
    cases e142
    replace hx142_0:=(HB.out.cell (World.block_lt_of_cell? w _ hx142_0)).trans hx142_0
    replace hx142_1:=(HB.out.cell (World.block_lt_of_cell? w _ hx142_1)).trans hx142_1
    replace hx142_2:=(HB.out.cell (World.block_lt_of_cell? w _ hx142_2)).trans hx142_2
    replace hx142_3:=(HB.out.cell (World.block_lt_of_cell? w _ hx142_3)).trans hx142_3
    replace p142:=eq_true p142
    replace q142:=eq_true q142
    try go_wp2_with (first|((with_reducible refine gate_dst (N:=7) rfl ?_);refine Ka_ 7 #[.string (⟨#[]⟩:ByteArray),.string (⟨#[]⟩:ByteArray),.string (⟨#[]⟩:ByteArray),.bool false] 107 ?_;intro gb143 hg w26 hbox hb;have BK143:=As_ (hbox);have GW143:=Kw_ HB hg;have NB137_143:=Kl_ BK137 hg;have NB143_137:=Kr_ BK137 hg;replace BK137:=Kb_ BK137 hb;replace HB:=Ks_ HB hb;clear hb hbox hg;have hnb27:=NB143_137.out;have hnc27:=NB137_143.out;obtain ⟨_,_,_,_,_,_,_,_⟩:=Ke4_ BK143.out))
    have n0_:Aside0 (((((w26.setCell ⟨gb143,0,none⟩ (.string ((rd_T107 l0_5 x27_1).f0))).setCell ⟨gb143,1,none⟩ (.string ((rd_T107 l0_5 x27_1).f1))).setCell ⟨gb143,2,none⟩ (.string ((rd_T107 l0_5 x27_1).f2))).setCell ⟨gb143,3,none⟩ (.bool true)).heap[gb137]?=some (.cells #[.int .u64 a0_0,.int .u64 a0_1,.int .u64 a0_2,.int .u64 a0_3,.int .i64 a0_4,.slice (some ad142) l0_5.length c0_5] 33 (0,0))):=⟨by exact K1b_ BK137 NB137_143⟩
    have n1_:Aside0 (((((w26.setCell ⟨gb143,0,none⟩ (.string ((rd_T107 l0_5 x27_1).f0))).setCell ⟨gb143,1,none⟩ (.string ((rd_T107 l0_5 x27_1).f1))).setCell ⟨gb143,2,none⟩ (.string ((rd_T107 l0_5 x27_1).f2))).setCell ⟨gb143,3,none⟩ (.bool true)).heap[gb143]?=some (.cells #[.string ((rd_T107 l0_5 x27_1).f0),.string ((rd_T107 l0_5 x27_1).f1),.string ((rd_T107 l0_5 x27_1).f2),.bool true] 107 (0,0))):=⟨by refine Kv_ ?_;exact Kput4_ (Kq_ BK143)⟩
    have n2_:Aside0 (Below w.heap.size w ((((w26.setCell ⟨gb143,0,none⟩ (.string ((rd_T107 l0_5 x27_1).f0))).setCell ⟨gb143,1,none⟩ (.string ((rd_T107 l0_5 x27_1).f1))).setCell ⟨gb143,2,none⟩ (.string ((rd_T107 l0_5 x27_1).f2))).setCell ⟨gb143,3,none⟩ (.bool true))):=⟨K2a_ HB GW137 GW143⟩
    (try clear BK137)
    (try clear BK143)
    (try clear HB)
    generalize ((((w26.setCell ⟨gb143,0,none⟩ (.string ((rd_T107 l0_5 x27_1).f0))).setCell ⟨gb143,1,none⟩ (.string ((rd_T107 l0_5 x27_1).f1))).setCell ⟨gb143,2,none⟩ (.string ((rd_T107 l0_5 x27_1).f2))).setCell ⟨gb143,3,none⟩ (.bool true))=w29 at n0_ n1_ n2_ ⊢
    have BK137:=n0_
    have BK143:=n1_
    have HB:=n2_
    clear n0_ n1_ n2_
    replace BK137:=Kd_ BK137
    replace BK143:=Kd_ BK143
    replace HB:=As_ (below_drew1 HB.out)
    refine start_ (n:=10) (S:=fun w'=>w'.cell? ⟨gb143,0,none⟩=some (.string ((rd_T107 l0_5 x27_1).f0))∧w'.cell? ⟨gb143,1,none⟩=some (.string ((rd_T107 l0_5 x27_1).f1))∧w'.cell? ⟨gb143,2,none⟩=some (.string ((rd_T107 l0_5 x27_1).f2))∧w'.cell? ⟨gb143,3,none⟩=some (.bool true)) (ds:=[]) (mB_ 10 0) (by kernel_rfl) rfl rfl (Kc4_ BK143.out) (fun hHeld=>?_);refine with_tabW item_Bytes.tab8 item_Bytes.bits8 (fun HT_ HW_=>?_)
    generalize w29.drew=w30 at BK137 BK143 HB hHeld ⊢
    refine Kp_ 0 31 (mB_ 10 1) (any_of HT_.out (by kernel_rfl)) ?_
    refine Kp_ 1 32 (mB_ 10 3) (any_of HT_.out (by kernel_rfl)) ?_
    refine Kp_ 4 35 (mB_ 10 19) (any_of HT_.out (by kernel_rfl)) ?_
    refine Ko_ 2 33 (mB_ 10 23) (take_ofW HT_.out HW_.out (by kernel_rfl)) hHeld ?_
    refine Ko_ 5 36 (mB_ 10 55) (take_ofW HT_.out HW_.out (by kernel_rfl)) hHeld ?_
    refine one_ (i:=3) (N:=some 34) (mB_ 10 63) rfl rfl (one_of HT_.out (by kernel_rfl)) (by decide) (fun K hK=>?_)
    refine goes_ Try.func62 (by kernel_rfl) rfl #[.string ((rd_T107 l0_5 x27_1).f0)] (by rfl) rfl rfl (by (try simp only [List.map_toArray,List.map_cons,List.map_nil]);first|done|rfl|(simp only [List.length_drop,List.length_take];rfl)) ?_
    with_reducible refine (pack_Text.calls k1 ((rd_T107 l0_5 x27_1).f0) t144 _ A18.out).mono ?_
    rintro e w31 ⟨rfl,hb⟩
    refine ⟨_,rfl,?_⟩
    replace BK137:=Kb_ BK137 hb
    replace BK143:=Kb_ BK143 hb
    replace HB:=Ks_ HB hb
    (try clear hb)
    (try clear hb2)
    (try clear hk)
    (try clear hi)
    refine hK.out _ _ (Kc4_ BK143.out) (fun hHeld=>?_)
    clear hK K
    refine Kn_ 34 ?_
    refine one_ (i:=6) (N:=some 37) (mB_ 10 127) rfl rfl (one_of HT_.out (by kernel_rfl)) (by decide) (fun K hK=>?_)
    refine goes_ Try.func62 (by kernel_rfl) rfl #[.string ((rd_T107 l0_5 x27_1).f1)] (by rfl) rfl rfl (by (try simp only [List.map_toArray,List.map_cons,List.map_nil]);first|done|rfl|(simp only [List.length_drop,List.length_take];rfl)) ?_
    with_reducible refine (pack_Text.calls k1 ((rd_T107 l0_5 x27_1).f1) t145 _ A19.out).mono ?_
    rintro e w32 ⟨rfl,hb⟩
    refine ⟨_,rfl,?_⟩
    replace BK137:=Kb_ BK137 hb
    replace BK143:=Kb_ BK143 hb
    replace HB:=Ks_ HB hb
    (try clear hb)
    (try clear hb2)
    (try clear hk)
    (try clear hi)
    refine hK.out _ _ (Kc4_ BK143.out) (fun hHeld=>?_)
    clear hK K
    refine Kn_ 37 ?_
    refine Kp_ 7 38 (mB_ 10 255) (any_of HT_.out (by kernel_rfl)) ?_
    refine Kp_ 8 39 (mB_ 10 511) (any_of HT_.out (by kernel_rfl)) ?_
    refine Kp_ 9 4 (mB_ 10 1023) (any_of HT_.out (by kernel_rfl)) ?_
    refine done_ (done_of HT_.out (by kernel_rfl)) ?_
    obtain ⟨_,_,_,_,_,_,_,_⟩:=Ke4_ BK143.out
    try go_wp2_with (first|((with_reducible refine gate_callee (f:=59) rfl ?_);refine Kg_ (some 43) rfl rfl Try.func59 (by kernel_rfl) rfl #[.int .u64 1,.int .i64 1] rfl ?_;(with_reducible refine (pack_Number.calls 1 1 t146 _ A24.out).mono ?_);rintro e w34 ⟨rfl,hb⟩;refine ⟨_,rfl,?_⟩;replace BK137:=Kb_ BK137 hb;replace BK143:=Kb_ BK143 hb;replace HB:=Ks_ HB hb;(try clear hb)))
    go_roundg k1
    case measure=>have:=HK1.out;omega
    case rel=>exact ⟨((x4_1++(t144++t145))++t146),(wrap64 (x27_1+1)),(by first|rfl|(simp;done)|(simp [*];done)),(by first|rfl|(simp;done)|(simp [*];done)),H',⟨by have:=HK1.out;omega⟩,⟨by exact Kq_ BK137⟩,⟨K2a_ HB GW137 GW143⟩⟩
   replace c23:=Bool.eq_false_iff.mpr c23
   subst c23
   rw [if_neg Bool.false_ne_true] at H
   obtain ⟨t147,A35,H⟩:=Kbind_ H
   (try dsimp only at H)
   obtain ⟨t148,A36,H⟩:=Kbind_ H
   (try dsimp only at H)
   by_cases c37:t147.size+t148.size≤9223372036854775807
   rotate_left
   ·rw [if_neg c37] at H
    exact absurd H (by simp)
   rw [if_pos c37] at H
   have c37b0:=eq_true c37
   have c37b1:decide (t147.size+t148.size≤9223372036854775807)=true:=decide_eq_true c37
   try have c37b2:(9223372036854775807<t147.size+t148.size)=False:=eq_false (Nat.not_lt.2 c37)
   by_cases c38:(x4_1++(t144++t145)).size+(t147++t148).size≤9223372036854775807
   rotate_left
   ·rw [if_neg c38] at H
    exact absurd H (by simp)
   rw [if_pos c38] at H
   have c38b0:=eq_true c38
   (try (have c38b0s_:=c38b0;simp only [ByteArray.size_append,Int.natCast_add] at c38b0s_))
   have c38b1:decide ((x4_1++(t144++t145)).size+(t147++t148).size≤9223372036854775807)=true:=decide_eq_true c38
   (try (have c38b1s_:=c38b1;simp only [ByteArray.size_append,Int.natCast_add] at c38b1s_))
   try have c38b2:(9223372036854775807<(x4_1++(t144++t145)).size+(t147++t148).size)=False:=eq_false (Nat.not_lt.2 c38)
   (try (have c38b2s_:=c38b2;simp only [ByteArray.size_append,Int.natCast_add] at c38b2s_))
   have H':=As_ H
   clear H
   have p142:0≤(x27_1:Int):=of_decide_eq_true (by first|(with_reducible assumption)|assumption)
   have q142:x27_1<(l0_5.length:Int):=of_decide_eq_true (by first|(with_reducible assumption)|assumption)
   obtain ⟨ad142,e142,hx142_0,hx142_1,hx142_2,hx142_3⟩:=at_T107 HR0_5.out x27_1 p142 q142
   (try rw [← Nbq22.out] at hx142_3)
   cases e142
   replace hx142_0:=(HB.out.cell (World.block_lt_of_cell? w _ hx142_0)).trans hx142_0
   replace hx142_1:=(HB.out.cell (World.block_lt_of_cell? w _ hx142_1)).trans hx142_1
   replace hx142_2:=(HB.out.cell (World.block_lt_of_cell? w _ hx142_2)).trans hx142_2
   replace hx142_3:=(HB.out.cell (World.block_lt_of_cell? w _ hx142_3)).trans hx142_3
   replace p142:=eq_true p142
   replace q142:=eq_true q142
   try go_wp2_with (first|((with_reducible refine gate_dst (N:=7) rfl ?_);refine Ka_ 7 #[.string (⟨#[]⟩:ByteArray),.string (⟨#[]⟩:ByteArray),.string (⟨#[]⟩:ByteArray),.bool false] 107 ?_;intro gb143 hg w39 hbox hb;have BK143:=As_ (hbox);have GW143:=Kw_ HB hg;have NB137_143:=Kl_ BK137 hg;have NB143_137:=Kr_ BK137 hg;replace BK137:=Kb_ BK137 hb;replace HB:=Ks_ HB hb;clear hb hbox hg;have hnb40:=NB143_137.out;have hnc40:=NB137_143.out;obtain ⟨_,_,_,_,_,_,_,_⟩:=Ke4_ BK143.out))
   have n0_:Aside0 (((((w39.setCell ⟨gb143,0,none⟩ (.string ((rd_T107 l0_5 x27_1).f0))).setCell ⟨gb143,1,none⟩ (.string ((rd_T107 l0_5 x27_1).f1))).setCell ⟨gb143,2,none⟩ (.string ((rd_T107 l0_5 x27_1).f2))).setCell ⟨gb143,3,none⟩ (.bool false)).heap[gb137]?=some (.cells #[.int .u64 a0_0,.int .u64 a0_1,.int .u64 a0_2,.int .u64 a0_3,.int .i64 a0_4,.slice (some ad142) l0_5.length c0_5] 33 (0,0))):=⟨by exact K1b_ BK137 NB137_143⟩
   have n1_:Aside0 (((((w39.setCell ⟨gb143,0,none⟩ (.string ((rd_T107 l0_5 x27_1).f0))).setCell ⟨gb143,1,none⟩ (.string ((rd_T107 l0_5 x27_1).f1))).setCell ⟨gb143,2,none⟩ (.string ((rd_T107 l0_5 x27_1).f2))).setCell ⟨gb143,3,none⟩ (.bool false)).heap[gb143]?=some (.cells #[.string ((rd_T107 l0_5 x27_1).f0),.string ((rd_T107 l0_5 x27_1).f1),.string ((rd_T107 l0_5 x27_1).f2),.bool false] 107 (0,0))):=⟨by refine Kv_ ?_;exact Kput4_ (Kq_ BK143)⟩
   have n2_:Aside0 (Below w.heap.size w ((((w39.setCell ⟨gb143,0,none⟩ (.string ((rd_T107 l0_5 x27_1).f0))).setCell ⟨gb143,1,none⟩ (.string ((rd_T107 l0_5 x27_1).f1))).setCell ⟨gb143,2,none⟩ (.string ((rd_T107 l0_5 x27_1).f2))).setCell ⟨gb143,3,none⟩ (.bool false))):=⟨K2a_ HB GW137 GW143⟩
   (try clear BK137)
   (try clear BK143)
   (try clear HB)
   generalize ((((w39.setCell ⟨gb143,0,none⟩ (.string ((rd_T107 l0_5 x27_1).f0))).setCell ⟨gb143,1,none⟩ (.string ((rd_T107 l0_5 x27_1).f1))).setCell ⟨gb143,2,none⟩ (.string ((rd_T107 l0_5 x27_1).f2))).setCell ⟨gb143,3,none⟩ (.bool false))=w42 at n0_ n1_ n2_ ⊢
   have BK137:=n0_
   have BK143:=n1_
   have HB:=n2_
   clear n0_ n1_ n2_
   replace BK137:=Kd_ BK137
   replace BK143:=Kd_ BK143
   replace HB:=As_ (below_drew1 HB.out)
   refine start_ (n:=10) (S:=fun w'=>w'.cell? ⟨gb143,0,none⟩=some (.string ((rd_T107 l0_5 x27_1).f0))∧w'.cell? ⟨gb143,1,none⟩=some (.string ((rd_T107 l0_5 x27_1).f1))∧w'.cell? ⟨gb143,2,none⟩=some (.string ((rd_T107 l0_5 x27_1).f2))∧w'.cell? ⟨gb143,3,none⟩=some (.bool false)) (ds:=[]) (mB_ 10 0) (by kernel_rfl) rfl rfl (Kc4_ BK143.out) (fun hHeld=>?_);refine with_tabW item_Bytes.tab8 item_Bytes.bits8 (fun HT_ HW_=>?_)
   generalize w42.drew=w43 at BK137 BK143 HB hHeld ⊢
   refine Kp_ 0 31 (mB_ 10 1) (any_of HT_.out (by kernel_rfl)) ?_
   refine Kp_ 1 32 (mB_ 10 3) (any_of HT_.out (by kernel_rfl)) ?_
   refine Kp_ 4 35 (mB_ 10 19) (any_of HT_.out (by kernel_rfl)) ?_
   refine Ko_ 2 33 (mB_ 10 23) (take_ofW HT_.out HW_.out (by kernel_rfl)) hHeld ?_
   refine Ko_ 5 36 (mB_ 10 55) (take_ofW HT_.out HW_.out (by kernel_rfl)) hHeld ?_
   refine one_ (i:=3) (N:=some 34) (mB_ 10 63) rfl rfl (one_of HT_.out (by kernel_rfl)) (by decide) (fun K hK=>?_)
   refine goes_ Try.func62 (by kernel_rfl) rfl #[.string ((rd_T107 l0_5 x27_1).f0)] (by rfl) rfl rfl (by (try simp only [List.map_toArray,List.map_cons,List.map_nil]);first|done|rfl|(simp only [List.length_drop,List.length_take];rfl)) ?_
   with_reducible refine (pack_Text.calls k1 ((rd_T107 l0_5 x27_1).f0) t144 _ A18.out).mono ?_
   rintro e w44 ⟨rfl,hb⟩
   refine ⟨_,rfl,?_⟩
   replace BK137:=Kb_ BK137 hb
   replace BK143:=Kb_ BK143 hb
   replace HB:=Ks_ HB hb
   (try clear hb)
   (try clear hb2)
   (try clear hk)
   (try clear hi)
   refine hK.out _ _ (Kc4_ BK143.out) (fun hHeld=>?_)
   clear hK K
   refine Kn_ 34 ?_
   refine one_ (i:=6) (N:=some 37) (mB_ 10 127) rfl rfl (one_of HT_.out (by kernel_rfl)) (by decide) (fun K hK=>?_)
   refine goes_ Try.func62 (by kernel_rfl) rfl #[.string ((rd_T107 l0_5 x27_1).f1)] (by rfl) rfl rfl (by (try simp only [List.map_toArray,List.map_cons,List.map_nil]);first|done|rfl|(simp only [List.length_drop,List.length_take];rfl)) ?_
   with_reducible refine (pack_Text.calls k1 ((rd_T107 l0_5 x27_1).f1) t145 _ A19.out).mono ?_
   rintro e w45 ⟨rfl,hb⟩
   refine ⟨_,rfl,?_⟩
   replace BK137:=Kb_ BK137 hb
   replace BK143:=Kb_ BK143 hb
   replace HB:=Ks_ HB hb
   (try clear hb)
   (try clear hb2)
   (try clear hk)
   (try clear hi)
   refine hK.out _ _ (Kc4_ BK143.out) (fun hHeld=>?_)
   clear hK K
   refine Kn_ 37 ?_
   refine Kp_ 7 38 (mB_ 10 255) (any_of HT_.out (by kernel_rfl)) ?_
   refine Kp_ 8 39 (mB_ 10 511) (any_of HT_.out (by kernel_rfl)) ?_
   refine Kp_ 9 4 (mB_ 10 1023) (any_of HT_.out (by kernel_rfl)) ?_
   refine done_ (done_of HT_.out (by kernel_rfl)) ?_
   obtain ⟨_,_,_,_,_,_,_,_⟩:=Ke4_ BK143.out
   try go_wp2
   replace BK137:=Kd_ BK137
   replace BK143:=Kd_ BK143
   replace HB:=As_ (below_drew1 HB.out)
   refine start_ (n:=8) (S:=fun w'=>w'.cell? ⟨gb143,0,none⟩=some (.string ((rd_T107 l0_5 x27_1).f0))∧w'.cell? ⟨gb143,1,none⟩=some (.string ((rd_T107 l0_5 x27_1).f1))∧w'.cell? ⟨gb143,2,none⟩=some (.string ((rd_T107 l0_5 x27_1).f2))∧w'.cell? ⟨gb143,3,none⟩=some (.bool false)) (ds:=[]) (mB_ 8 0) (by kernel_rfl) rfl rfl (Kc4_ BK143.out) (fun hHeld=>?_);refine with_tabW item_Bytes.tab11 item_Bytes.bits11 (fun HT_ HW_=>?_)
   generalize w45.drew=w47 at BK137 BK143 HB hHeld ⊢
   refine Kp_ 0 45 (mB_ 8 1) (any_of HT_.out (by kernel_rfl)) ?_
   refine Kp_ 2 47 (mB_ 8 5) (any_of HT_.out (by kernel_rfl)) ?_
   refine Ko_ 3 48 (mB_ 8 13) (take_ofW HT_.out HW_.out (by kernel_rfl)) hHeld ?_
   refine one_ (i:=1) (N:=some 46) (mB_ 8 15) rfl rfl (one_of HT_.out (by kernel_rfl)) (by decide) (fun K hK=>?_)
   refine goes_ Try.func59 (by kernel_rfl) rfl #[.int .u64 0,.int .i64 1] (by rfl) rfl rfl (by (try simp only [List.map_toArray,List.map_cons,List.map_nil]);first|done|rfl|(simp only [List.length_drop,List.length_take];rfl)) ?_
   with_reducible refine (pack_Number.calls 0 1 t147 _ A35.out).mono ?_
   rintro e w48 ⟨rfl,hb⟩
   refine ⟨_,rfl,?_⟩
   replace BK137:=Kb_ BK137 hb
   replace BK143:=Kb_ BK143 hb
   replace HB:=Ks_ HB hb
   (try clear hb)
   (try clear hb2)
   (try clear hk)
   (try clear hi)
   refine hK.out _ _ (Kc4_ BK143.out) (fun hHeld=>?_)
   clear hK K
   refine Kn_ 46 ?_
   refine one_ (i:=4) (N:=some 49) (mB_ 8 31) rfl rfl (one_of HT_.out (by kernel_rfl)) (by decide) (fun K hK=>?_)
   refine goes_ Try.func62 (by kernel_rfl) rfl #[.string ((rd_T107 l0_5 x27_1).f2)] (by rfl) rfl rfl (by (try simp only [List.map_toArray,List.map_cons,List.map_nil]);first|done|rfl|(simp only [List.length_drop,List.length_take];rfl)) ?_
   with_reducible refine (pack_Text.calls k1 ((rd_T107 l0_5 x27_1).f2) t148 _ A36.out).mono ?_
   rintro e w49 ⟨rfl,hb⟩
   refine ⟨_,rfl,?_⟩
   replace BK137:=Kb_ BK137 hb
   replace BK143:=Kb_ BK143 hb
   replace HB:=Ks_ HB hb
   (try clear hb)
   (try clear hb2)
   (try clear hk)
   (try clear hi)
   refine hK.out _ _ (Kc4_ BK143.out) (fun hHeld=>?_)
   clear hK K
   refine Kn_ 49 ?_
   refine Kp_ 5 50 (mB_ 8 63) (any_of HT_.out (by kernel_rfl)) ?_
   refine Kp_ 6 51 (mB_ 8 127) (any_of HT_.out (by kernel_rfl)) ?_
   refine Kp_ 7 4 (mB_ 8 255) (any_of HT_.out (by kernel_rfl)) ?_
   refine done_ (done_of HT_.out (by kernel_rfl)) ?_
   try go_wp2
   go_roundg k1
   case measure=>have:=HK1.out;omega
   case rel=>exact ⟨((x4_1++(t144++t145))++(t147++t148)),(wrap64 (x27_1+1)),(by first|rfl|(simp;done)|(simp [*];done)),(by first|rfl|(simp;done)|(simp [*];done)),H',⟨by have:=HK1.out;omega⟩,⟨by exact Kq_ BK137⟩,⟨K2a_ HB GW137 GW143⟩⟩
def crc_next.l0:Nat→Int→Int→Option (Int)
 | 0,_,_=>none
 | k+1,x0,x9=>if x9<8 then (crc_next.l0 k (Go.bits .xor .u32 (x0 / 2) (Go.bits .and .u32 3988292384 ((-(Go.bits .and .u32 x0 1)) % 4294967296))) (wrap64 (x9+1))) else (some x0)
def crc_next.f (k:Nat) (a0:Int) (a1:Int):Option (Int):=crc_next.l0 k (Go.bits .xor .u32 a0 ((a1) % 4294967296)) 0
set_option maxHeartbeats 8000000 in
set_option maxRecDepth 100000 in
theorem crc_next.calls (k:Nat) (a0:Int) (a1:Int) (r:Int) (w:World) (h:crc_next.f k a0 a1=some r) :
  Calls Try.prog 89 #[.int .u32 a0,.int .u8 a1] w fun e w'=>e = .returned (.int .u32 r)∧Drawn0 w w':=by
 unfold crc_next.f at h
 have H:=h
 clear h
 have H':=As_ H
 clear H
 go_enter Try.func89,Try.ntmps89
 go_wp2
 go_loopg [0,9] k (fun kq v0 v9 w'=>∃ (x0_1:Int) (x9_1:Int),v0 = .int .u32 x0_1∧v9 = .int .i64 x9_1∧Aside0 (crc_next.l0 kq x0_1 x9_1=some r)∧Aside0 (kq≤k)∧Drawn0 w w')
 case atStart=>exact ⟨(Go.bits .xor .u32 a0 ((a1) % 4294967296)),(0),(by first|rfl|(simp;done)|(simp [*];done)),(by first|rfl|(simp;done)|(simp [*];done)),H',⟨Nat.le_refl _⟩,by repeat (first|exact Drawn0.refl _|apply Drawn0.step)⟩
 case round =>
  clear H'
  try clear p2
  obtain ⟨x0_1,x9_1,rfl,rfl,HA,HK1,⟨m1,rfl⟩⟩:=hrel
  cases gk with
  | zero=>exact absurd HA.out (by simp [crc_next.l0])
  | succ k1 =>
   have H:=HA.out
   clear HA
   simp only [crc_next.l0] at H
   by_cases c3:x9_1<8
   rotate_left
   ·rw [if_neg c3] at H
    have c3b0:decide (x9_1<8)=false:=decide_eq_false c3
    clear c3
    obtain rfl:=Option.some.inj H
    go_wp2
    go_ret
    exact ⟨by first|rfl|(simp;done)|(simp [*];done),by repeat (first|exact Drawn0.refl _|apply Drawn0.step)⟩
   rw [if_pos c3] at H
   have c3b0:decide (x9_1<8)=true:=decide_eq_true c3
   clear c3
   have H':=As_ H
   clear H
   go_wp2
   go_roundg k1
   case measure=>have:=HK1.out;omega
   case rel=>exact ⟨(Go.bits .xor .u32 (x0_1 / 2) (Go.bits .and .u32 3988292384 ((-(Go.bits .and .u32 x0_1 1)) % 4294967296))),(wrap64 (x9_1+1)),(by first|rfl|(simp;done)|(simp [*];done)),(by first|rfl|(simp;done)|(simp [*];done)),H',⟨by have:=HK1.out;omega⟩,by repeat (first|exact Drawn0.refl _|apply Drawn0.step)⟩
def crc_Sum.fold (k:Nat) (s:ByteArray):Nat→Option (Int)
 | 0=>some 4294967295
 | i+1=>(crc_Sum.fold k s i).bind fun c=>crc_next.f k c (bt s (i:Int))
def crc_Sum.f (k:Nat) (a0:ByteArray):Option (Int) :=
 if a0.size≤9223372036854775807 then (crc_Sum.fold k a0 a0.size).bind fun c=>some (Go.bits .xor .u32 4294967295 c) else none
theorem crc_Sum.fold_some {k:Nat} {s:ByteArray}:∀ {n:Nat} {c:Int},crc_Sum.fold k s n=some c→∀ i,i≤n→∃ d,crc_Sum.fold k s i=some d
 | 0,c,h,i,hi=>by
  obtain rfl:i=0:=by omega
  exact ⟨c,h⟩
 | n+1,c,h,i,hi=>by
  by_cases e:i=n+1
  ·subst e;exact ⟨c,h⟩
  ·obtain ⟨d,hd,_⟩:=Option.bind_eq_some_iff.1 h
   exact crc_Sum.fold_some hd i (by omega)
set_option maxHeartbeats 1000000 in
theorem crc_Sum.calls (k:Nat) (a0:ByteArray) (r:Int) (w:World) (h:crc_Sum.f k a0=some r) :
  Calls Try.prog 63 #[.string a0] w fun e w'=>e = .returned (.int .u32 r)∧Below w.heap.size w w':=by
 unfold crc_Sum.f at h
 by_cases hm:a0.size≤9223372036854775807
 ·rw [if_pos hm] at h
  obtain ⟨c,hc0,hr0⟩:=Option.bind_eq_some_iff.1 h
  obtain rfl:=Option.some.inj hr0
  have HC:=As_ hc0
  clear h hr0 hc0
  have hcv:=fun W t=>Lib.run_convert_string_bytes (P:=Try.prog) W 9 91 5 t Try.underlying9 Try.underlying91 Try.underlying5
  go_enter Try.func63,Try.ntmps63
  go_wp2
  obtain ⟨W,hW⟩:∃ W,W=Lib.bytesWorld w 5 a0:=⟨_,rfl⟩
  have HB:=As_ (show Below w.heap.size w W by rw [hW];exact bytes_below (Below.refl _ _) (Nat.le_refl _) _ _)
  have HE:=As_ (show ∀ j:Nat,j<a0.size→W.cell? ⟨w.heap.size,j,none⟩=some (.int .u8 (bt a0 j)) by
   intro j hj
   obtain ⟨_,_,hr⟩:=bytes_reads w 5 a0 hm
   rw [← hW] at hr
   obtain ⟨ad,had,hr⟩:=hr (by omega)
   have hr:=hr j hj
   simp at had
   subst had
   rw [add_plain] at hr
   rw [hr]
   have e1:(bytesOf a0).getD j 0=bt a0 j:=rd_bytesOf a0 j
   rw [e1])
  have HS:=As_ (show w.heap.size<W.heap.size by rw [hW,Lib.bytesWorld_size];omega)
  rw [← hW]
  clear hW hcv
  go_loopw [9,3] (fun i v wr=>∃ (j:Nat) (d:Int),j≤a0.size∧i = .int .i64 j∧v = .int .u32 d∧Aside0 (crc_Sum.fold k a0 j=some d)∧Aside0 (Below W.heap.size W wr)) (fun i _ _=>a0.size - (intOf i).toNat)
  case atStart=>exact ⟨0,_,Nat.zero_le _,rfl,rfl,⟨rfl⟩,⟨Below.refl _ _⟩⟩
  case round =>
   obtain ⟨j,d,hj,rfl,rfl,HD,HW⟩:=hrel
   by_cases hlt:j<a0.size
   ·obtain ⟨d',hd'⟩:=crc_Sum.fold_some HC.out (j+1) hlt
    have hn:crc_next.f k d (bt a0 j)=some d':=by
     have:=hd'
     simp only [crc_Sum.fold] at this
     rw [HD.out] at this
     exact this
    have HN:=As_ hn
    have HD':=As_ hd'
    clear hn hd'
    have hcell:=(HW.out.cell (p:=⟨w.heap.size,j,none⟩) HS.out).trans (HE.out j hlt)
    go_wp2_with (go_at_call 89;refine (crc_next.calls k d (bt a0 j) d' _ HN.out).mono ?_;rintro e w1 ⟨rfl,hb1⟩;have HW1:=As_ (HW.out.trans (hb1.below.mono HW.out.size));clear hb1)
    go_roundw
    case rel=>exact ⟨j+1,d',by omega,by go_num,rfl,HD',HW1⟩
    case measure=>simp [intOf];omega
   ·obtain rfl:j=a0.size:=by omega
    obtain rfl:d=c:=Option.some.inj (HD.out.symm.trans HC.out)
    go_wp2
    go_ret
    exact ⟨rfl,HB.out.trans (HW.out.mono (Nat.le_of_lt HS.out))⟩
 ·rw [if_neg hm] at h
  exact absurd h (by simp)
def stream_Put.f (k:Nat) (a0_0:Int) (a0_1:Int) (a0_2:Int) (a0_3:Int) (a0_4:Int) (a0_5:Int) (a0_6:Int) (a0_7:Int) (l0_8:List (S107)):Option (ByteArray × Bool):=(stream_Right.f k a0_0 a0_1 a0_2 a0_3 a0_4 a0_5 a0_6 a0_7 l0_8).bind fun t150=>(if t150=true then ((pack_Number.f (IntKind.u64.wrap (a0_0)) 1).bind fun t151=>((pack_Number.f (IntKind.u64.wrap (a0_1)) 1).bind fun t152=>(if t151.size+t152.size≤9223372036854775807 then ((pack_Vary.f k a0_2).bind fun t153=>(if (t151++t152).size+t153.size≤9223372036854775807 then ((item_Bytes.f k a0_3 a0_4 a0_5 a0_6 a0_7 l0_8).bind fun bt154=>(if bt154.2=true then ((pack_Text.f k bt154.1).bind fun t156=>(if ((t151++t152)++t153).size+t156.size≤9223372036854775807 then ((crc_Sum.f k (((t151++t152)++t153)++t156)).bind fun t157=>((pack_Number.f (IntKind.u64.wrap (t157)) 4).bind fun t158=>(if (((t151++t152)++t153)++t156).size+t158.size≤9223372036854775807 then (some ((((t151++t152)++t153)++t156)++t158,true)) else (none)))) else (none))) else ((crc_Sum.f k ((t151++t152)++t153)).bind fun t159=>((pack_Number.f (IntKind.u64.wrap (t159)) 4).bind fun t160=>(if ((t151++t152)++t153).size+t160.size≤9223372036854775807 then (some (((t151++t152)++t153)++t160,true)) else (none)))))) else (none))) else (none)))) else (some ((⟨#[]⟩:ByteArray),false)))
def stream_Put.T3:Bool × List (List Nat × List Nat):=(true,[([],[]),([0],[0]),([1],[1]),([2],[2]),([],[]),([4],[4]),([5],[5]),([6,3],[6]),([3,7],[3,7]),([],[]),([9],[9]),([10,7],[10]),([8,11],[8,11]),([12,11,0,1,2,3,4,5,6,7,8,9,10,11,12],[12])])
def stream_Put.B3:List Nat:=[0,1,3,7,0,16,48,127,255,0,512,1791,4095,8191]
theorem stream_Put.tab3:rtab .any (opsOf Try.f27 3)=stream_Put.T3:=by kernel_rfl
theorem stream_Put.bits3:waitsOk stream_Put.T3.2 stream_Put.B3=true:=by kernel_rfl
set_option maxHeartbeats 8000000 in
set_option maxRecDepth 100000 in
theorem stream_Put.calls (k:Nat) (a0_0:Int) (a0_1:Int) (a0_2:Int) (a0_3:Int) (a0_4:Int) (a0_5:Int) (a0_6:Int) (a0_7:Int) (A0_8:Option Addr) (c0_8:Nat) (l0_8:List (S107)) (r1:ByteArray) (r2:Bool) (w:World) (hr0_8:Kd.C k107 w A0_8 l0_8.length l0_8) (hc0_8:l0_8.length≤c0_8) (h:stream_Put.f k a0_0 a0_1 a0_2 a0_3 a0_4 a0_5 a0_6 a0_7 l0_8=some (r1,r2)) :
  Calls Try.prog 27 #[.agg #[.int .i64 a0_0,.int .i64 a0_1,.int .u64 a0_2,.int .u64 a0_3,.int .u64 a0_4,.int .u64 a0_5,.int .u64 a0_6,.int .i64 a0_7,.slice A0_8 l0_8.length c0_8]] w fun e w'=>e = .returned (.tuple #[.string r1,.bool r2])∧Below w.heap.size w w':=by
 have hu69:=Try.underlying69
 have hu33:=Try.underlying33
 have HR0_8:=As_ hr0_8
 have HC0_8:=As_ hc0_8
 clear hr0_8 hc0_8
 have HB:=As_ (Below.refl w.heap.size w)
 unfold stream_Put.f at h
 have H:=h
 (try (have Hs_:=H;simp only [ByteArray.size_append,Int.natCast_add] at Hs_))
 clear h
 obtain ⟨t150,A2,H⟩:=Kbind_ H
 (try dsimp only at H)
 by_cases c3:t150=true
 rotate_left
 ·replace c3:=Bool.eq_false_iff.mpr c3
  subst c3
  rw [if_neg Bool.false_ne_true] at H
  simp only [Option.some.injEq,Prod.mk.injEq] at H
  obtain ⟨rfl,rfl⟩:=H
  go_enter Try.func27,Try.ntmps27
  go_wp2_with (first|((with_reducible refine gate_dst (N:=1) rfl ?_);refine Ka_ 1 #[.int .i64 a0_0,.int .i64 a0_1,.int .u64 a0_2,.int .u64 a0_3,.int .u64 a0_4,.int .u64 a0_5,.int .u64 a0_6,.int .i64 a0_7,.slice A0_8 l0_8.length c0_8] 69 ?_;intro gb149 hg w42 hbox hb;have BK149:=As_ (hbox);have GW149:=Kw_ HB hg;replace HB:=Ks_ HB hb;clear hb hbox hg;obtain ⟨_,_,_,_,_,_,_,_,_,_,_,_,_,_,_,_,_,_⟩:=Ke9_ BK149.out)|((with_reducible refine gate_callee (f:=33) rfl ?_);refine Kg_ (some 8) rfl rfl Try.func33 (by kernel_rfl) rfl #[.agg #[.int .i64 a0_0,.int .i64 a0_1,.int .u64 a0_2,.int .u64 a0_3,.int .u64 a0_4,.int .u64 a0_5,.int .u64 a0_6,.int .i64 a0_7,.slice A0_8 l0_8.length c0_8]] rfl ?_;(with_reducible refine (stream_Right.calls k a0_0 a0_1 a0_2 a0_3 a0_4 a0_5 a0_6 a0_7 _ _ l0_8 false _ ?side1 ?side2 A2.out).mono ?_);(case side1=>repeat (first|exact (Kd.C_below HR0_8.out HB.out)|(with_reducible refine Kd.C_alloc ?_ _)|(with_reducible refine Kd.C_drewN ?_ _)|(with_reducible refine Kd.C_drew ?_)));(case side2=>exact HC0_8.out);rintro e w44 ⟨rfl,hb⟩;refine ⟨_,rfl,?_⟩;replace HB:=Ks_ HB hb;(try clear hb)))
  go_ret2
  exact ⟨Kh_,Kz_ HB GW149⟩
 subst c3
 rw [if_pos rfl] at H
 obtain ⟨t151,A4,H⟩:=Kbind_ H
 (try dsimp only at H)
 obtain ⟨t152,A5,H⟩:=Kbind_ H
 (try dsimp only at H)
 by_cases c6:t151.size+t152.size≤9223372036854775807
 rotate_left
 ·rw [if_neg c6] at H
  exact absurd H (by simp)
 rw [if_pos c6] at H
 have c6b0:=eq_true c6
 have c6b1:decide (t151.size+t152.size≤9223372036854775807)=true:=decide_eq_true c6
 try have c6b2:(9223372036854775807<t151.size+t152.size)=False:=eq_false (Nat.not_lt.2 c6)
 obtain ⟨t153,A7,H⟩:=Kbind_ H
 (try dsimp only at H)
 by_cases c8:(t151++t152).size+t153.size≤9223372036854775807
 rotate_left
 ·rw [if_neg c8] at H
  exact absurd H (by simp)
 rw [if_pos c8] at H
 have c8b0:=eq_true c8
 (try (have c8b0s_:=c8b0;simp only [ByteArray.size_append,Int.natCast_add] at c8b0s_))
 have c8b1:decide ((t151++t152).size+t153.size≤9223372036854775807)=true:=decide_eq_true c8
 (try (have c8b1s_:=c8b1;simp only [ByteArray.size_append,Int.natCast_add] at c8b1s_))
 try have c8b2:(9223372036854775807<(t151++t152).size+t153.size)=False:=eq_false (Nat.not_lt.2 c8)
 (try (have c8b2s_:=c8b2;simp only [ByteArray.size_append,Int.natCast_add] at c8b2s_))
 obtain ⟨⟨t154,t155⟩,A9,H⟩:=Kbind_ H
 (try dsimp only at H)
 by_cases c10:t155=true
 rotate_left
 ·replace c10:=Bool.eq_false_iff.mpr c10
  subst c10
  rw [if_neg Bool.false_ne_true] at H
  obtain ⟨t159,A28,H⟩:=Kbind_ H
  (try dsimp only at H)
  obtain ⟨t160,A29,H⟩:=Kbind_ H
  (try dsimp only at H)
  by_cases c30:((t151++t152)++t153).size+t160.size≤9223372036854775807
  rotate_left
  ·rw [if_neg c30] at H
   exact absurd H (by simp)
  rw [if_pos c30] at H
  have c30b0:=eq_true c30
  (try (have c30b0s_:=c30b0;simp only [ByteArray.size_append,Int.natCast_add] at c30b0s_))
  have c30b1:decide (((t151++t152)++t153).size+t160.size≤9223372036854775807)=true:=decide_eq_true c30
  (try (have c30b1s_:=c30b1;simp only [ByteArray.size_append,Int.natCast_add] at c30b1s_))
  try have c30b2:(9223372036854775807<((t151++t152)++t153).size+t160.size)=False:=eq_false (Nat.not_lt.2 c30)
  (try (have c30b2s_:=c30b2;simp only [ByteArray.size_append,Int.natCast_add] at c30b2s_))
  simp only [Option.some.injEq,Prod.mk.injEq] at H
  obtain ⟨rfl,rfl⟩:=H
  go_enter Try.func27,Try.ntmps27
  try go_wp2_with (first|((with_reducible refine gate_dst (N:=1) rfl ?_);refine Ka_ 1 #[.int .i64 a0_0,.int .i64 a0_1,.int .u64 a0_2,.int .u64 a0_3,.int .u64 a0_4,.int .u64 a0_5,.int .u64 a0_6,.int .i64 a0_7,.slice A0_8 l0_8.length c0_8] 69 ?_;intro gb149 hg w31 hbox hb;have BK149:=As_ (hbox);have GW149:=Kw_ HB hg;replace HB:=Ks_ HB hb;clear hb hbox hg;obtain ⟨_,_,_,_,_,_,_,_,_,_,_,_,_,_,_,_,_,_⟩:=Ke9_ BK149.out)|((with_reducible refine gate_callee (f:=33) rfl ?_);refine Kg_ (some 8) rfl rfl Try.func33 (by kernel_rfl) rfl #[.agg #[.int .i64 a0_0,.int .i64 a0_1,.int .u64 a0_2,.int .u64 a0_3,.int .u64 a0_4,.int .u64 a0_5,.int .u64 a0_6,.int .i64 a0_7,.slice A0_8 l0_8.length c0_8]] rfl ?_;(with_reducible refine (stream_Right.calls k a0_0 a0_1 a0_2 a0_3 a0_4 a0_5 a0_6 a0_7 _ _ l0_8 true _ ?side1 ?side2 A2.out).mono ?_);(case side1=>repeat (first|exact (Kd.C_below HR0_8.out HB.out)|(with_reducible refine Kd.C_alloc ?_ _)|(with_reducible refine Kd.C_drewN ?_ _)|(with_reducible refine Kd.C_drew ?_)));(case side2=>exact HC0_8.out);rintro e w33 ⟨rfl,hb⟩;refine ⟨_,rfl,?_⟩;replace BK149:=Kb_ BK149 hb;replace HB:=Ks_ HB hb;(try clear hb)))
  replace BK149:=Kd_ BK149
  replace HB:=As_ (below_drew1 HB.out)
  refine start_ (n:=14) (S:=fun w'=>w'.cell? ⟨gb149,0,none⟩=some (.int .i64 a0_0)∧w'.cell? ⟨gb149,1,none⟩=some (.int .i64 a0_1)∧w'.cell? ⟨gb149,2,none⟩=some (.int .u64 a0_2)∧w'.cell? ⟨gb149,3,none⟩=some (.int .u64 a0_3)∧w'.cell? ⟨gb149,4,none⟩=some (.int .u64 a0_4)∧w'.cell? ⟨gb149,5,none⟩=some (.int .u64 a0_5)∧w'.cell? ⟨gb149,6,none⟩=some (.int .u64 a0_6)∧w'.cell? ⟨gb149,7,none⟩=some (.int .i64 a0_7)∧w'.cell? ⟨gb149,8,none⟩=some (.slice A0_8 l0_8.length c0_8)) (ds:=[]) (mB_ 14 0) (by kernel_rfl) rfl rfl (Kc9_ BK149.out) (fun hHeld=>?_);refine with_tabW stream_Put.tab3 stream_Put.bits3 (fun HT_ HW_=>?_)
  generalize w33.drew=w34 at BK149 HB hHeld ⊢
  refine Kp_ 0 10 (mB_ 14 1) (any_of HT_.out (by kernel_rfl)) ?_
  refine Kp_ 4 14 (mB_ 14 17) (any_of HT_.out (by kernel_rfl)) ?_
  refine Kp_ 9 19 (mB_ 14 529) (any_of HT_.out (by kernel_rfl)) ?_
  refine Ko_ 1 11 (mB_ 14 531) (take_ofW HT_.out HW_.out (by kernel_rfl)) hHeld ?_
  refine Kp_ 2 12 (mB_ 14 535) (any_of HT_.out (by kernel_rfl)) ?_
  refine Ko_ 5 15 (mB_ 14 567) (take_ofW HT_.out HW_.out (by kernel_rfl)) hHeld ?_
  refine Kp_ 6 16 (mB_ 14 631) (any_of HT_.out (by kernel_rfl)) ?_
  refine Ko_ 10 20 (mB_ 14 1655) (take_ofW HT_.out HW_.out (by kernel_rfl)) hHeld ?_
  refine one_ (i:=3) (N:=some 13) (mB_ 14 1663) rfl rfl (one_of HT_.out (by kernel_rfl)) (by decide) (fun K hK=>?_)
  refine goes_ Try.func59 (by kernel_rfl) rfl #[.int .u64 (IntKind.u64.wrap (a0_0)),.int .i64 1] (by rfl) rfl rfl (by (try simp only [List.map_toArray,List.map_cons,List.map_nil]);first|done|rfl|(simp only [List.length_drop,List.length_take];rfl)) ?_
  with_reducible refine (pack_Number.calls (IntKind.u64.wrap (a0_0)) 1 t151 _ A4.out).mono ?_
  rintro e w35 ⟨rfl,hb⟩
  refine ⟨_,rfl,?_⟩
  replace BK149:=Kb_ BK149 hb
  replace HB:=Ks_ HB hb
  (try clear hb)
  (try clear hb2)
  (try clear hk)
  (try clear hi)
  refine hK.out _ _ (Kc9_ BK149.out) (fun hHeld=>?_)
  clear hK K
  refine Kn_ 13 ?_
  refine one_ (i:=7) (N:=some 17) (mB_ 14 1791) rfl rfl (one_of HT_.out (by kernel_rfl)) (by decide) (fun K hK=>?_)
  refine goes_ Try.func59 (by kernel_rfl) rfl #[.int .u64 (IntKind.u64.wrap (a0_1)),.int .i64 1] (by rfl) rfl rfl (by (try simp only [List.map_toArray,List.map_cons,List.map_nil]);first|done|rfl|(simp only [List.length_drop,List.length_take];rfl)) ?_
  with_reducible refine (pack_Number.calls (IntKind.u64.wrap (a0_1)) 1 t152 _ A5.out).mono ?_
  rintro e w36 ⟨rfl,hb⟩
  refine ⟨_,rfl,?_⟩
  replace BK149:=Kb_ BK149 hb
  replace HB:=Ks_ HB hb
  (try clear hb)
  (try clear hb2)
  (try clear hk)
  (try clear hi)
  refine hK.out _ _ (Kc9_ BK149.out) (fun hHeld=>?_)
  clear hK K
  refine Kn_ 17 ?_
  refine Kp_ 8 18 (mB_ 14 2047) (any_of HT_.out (by kernel_rfl)) ?_
  refine one_ (i:=11) (N:=some 21) (mB_ 14 4095) rfl rfl (one_of HT_.out (by kernel_rfl)) (by decide) (fun K hK=>?_)
  refine goes_ Try.func60 (by kernel_rfl) rfl #[.int .u64 a0_2] (by rfl) rfl rfl (by (try simp only [List.map_toArray,List.map_cons,List.map_nil]);first|done|rfl|(simp only [List.length_drop,List.length_take];rfl)) ?_
  with_reducible refine (pack_Vary.calls k a0_2 t153 _ A7.out).mono ?_
  rintro e w37 ⟨rfl,hb⟩
  refine ⟨_,rfl,?_⟩
  replace BK149:=Kb_ BK149 hb
  replace HB:=Ks_ HB hb
  (try clear hb)
  (try clear hb2)
  (try clear hk)
  (try clear hi)
  refine hK.out _ _ (Kc9_ BK149.out) (fun hHeld=>?_)
  clear hK K
  refine Kn_ 21 ?_
  refine Kp_ 12 22 (mB_ 14 8191) (any_of HT_.out (by kernel_rfl)) ?_
  refine Kp_ 13 4 (mB_ 14 16383) (any_of HT_.out (by kernel_rfl)) ?_
  refine done_ (done_of HT_.out (by kernel_rfl)) ?_
  obtain ⟨_,_,_,_,_,_,_,_,_,_,_,_,_,_,_,_,_,_⟩:=Ke9_ BK149.out
  try go_wp2_with (first|((with_reducible refine gate_callee (f:=61) rfl ?_);refine Kg_ (some 26) rfl rfl Try.func61 (by kernel_rfl) rfl #[.agg #[.int .u64 a0_3,.int .u64 a0_4,.int .u64 a0_5,.int .u64 a0_6,.int .i64 a0_7,.slice A0_8 l0_8.length c0_8]] rfl ?_;(with_reducible refine (item_Bytes.calls k a0_3 a0_4 a0_5 a0_6 a0_7 _ _ l0_8 t154 false _ ?side1 ?side2 A9.out).mono ?_);(case side1=>repeat (first|exact (Kd.C_below HR0_8.out HB.out)|(with_reducible refine Kd.C_alloc ?_ _)|(with_reducible refine Kd.C_drewN ?_ _)|(with_reducible refine Kd.C_drew ?_)));(case side2=>exact HC0_8.out);rintro e w39 ⟨rfl,hb⟩;refine ⟨_,rfl,?_⟩;replace HB:=Ks_ HB hb;(try clear hb))|((with_reducible refine gate_callee (f:=63) rfl ?_);refine Kg_ (some 36) rfl rfl Try.func63 (by kernel_rfl) rfl #[.string ((t151++t152)++t153)] rfl ?_;(with_reducible refine (crc_Sum.calls k ((t151++t152)++t153) t159 _ A28.out).mono ?_);rintro e w40 ⟨rfl,hb⟩;refine ⟨_,rfl,?_⟩;replace HB:=Ks_ HB hb;(try clear hb))|((with_reducible refine gate_callee (f:=59) rfl ?_);refine Kg_ (some 38) rfl rfl Try.func59 (by kernel_rfl) rfl #[.int .u64 (IntKind.u64.wrap (t159)),.int .i64 4] rfl ?_;(with_reducible refine (pack_Number.calls (IntKind.u64.wrap (t159)) 4 t160 _ A29.out).mono ?_);rintro e w41 ⟨rfl,hb⟩;refine ⟨_,rfl,?_⟩;replace HB:=Ks_ HB hb;(try clear hb)))
  go_ret2
  exact ⟨Kh_,Kz_ HB GW149⟩
 subst c10
 rw [if_pos rfl] at H
 obtain ⟨t156,A11,H⟩:=Kbind_ H
 (try dsimp only at H)
 by_cases c12:((t151++t152)++t153).size+t156.size≤9223372036854775807
 rotate_left
 ·rw [if_neg c12] at H
  exact absurd H (by simp)
 rw [if_pos c12] at H
 have c12b0:=eq_true c12
 (try (have c12b0s_:=c12b0;simp only [ByteArray.size_append,Int.natCast_add] at c12b0s_))
 have c12b1:decide (((t151++t152)++t153).size+t156.size≤9223372036854775807)=true:=decide_eq_true c12
 (try (have c12b1s_:=c12b1;simp only [ByteArray.size_append,Int.natCast_add] at c12b1s_))
 try have c12b2:(9223372036854775807<((t151++t152)++t153).size+t156.size)=False:=eq_false (Nat.not_lt.2 c12)
 (try (have c12b2s_:=c12b2;simp only [ByteArray.size_append,Int.natCast_add] at c12b2s_))
 obtain ⟨t157,A13,H⟩:=Kbind_ H
 (try dsimp only at H)
 obtain ⟨t158,A14,H⟩:=Kbind_ H
 (try dsimp only at H)
 by_cases c15:(((t151++t152)++t153)++t156).size+t158.size≤9223372036854775807
 rotate_left
 ·rw [if_neg c15] at H
  exact absurd H (by simp)
 rw [if_pos c15] at H
 have c15b0:=eq_true c15
 (try (have c15b0s_:=c15b0;simp only [ByteArray.size_append,Int.natCast_add] at c15b0s_))
 have c15b1:decide ((((t151++t152)++t153)++t156).size+t158.size≤9223372036854775807)=true:=decide_eq_true c15
 (try (have c15b1s_:=c15b1;simp only [ByteArray.size_append,Int.natCast_add] at c15b1s_))
 try have c15b2:(9223372036854775807<(((t151++t152)++t153)++t156).size+t158.size)=False:=eq_false (Nat.not_lt.2 c15)
 (try (have c15b2s_:=c15b2;simp only [ByteArray.size_append,Int.natCast_add] at c15b2s_))
 simp only [Option.some.injEq,Prod.mk.injEq] at H
 obtain ⟨rfl,rfl⟩:=H
 go_enter Try.func27,Try.ntmps27
 try go_wp2_with (first|((with_reducible refine gate_dst (N:=1) rfl ?_);refine Ka_ 1 #[.int .i64 a0_0,.int .i64 a0_1,.int .u64 a0_2,.int .u64 a0_3,.int .u64 a0_4,.int .u64 a0_5,.int .u64 a0_6,.int .i64 a0_7,.slice A0_8 l0_8.length c0_8] 69 ?_;intro gb149 hg w16 hbox hb;have BK149:=As_ (hbox);have GW149:=Kw_ HB hg;replace HB:=Ks_ HB hb;clear hb hbox hg;obtain ⟨_,_,_,_,_,_,_,_,_,_,_,_,_,_,_,_,_,_⟩:=Ke9_ BK149.out)|((with_reducible refine gate_callee (f:=33) rfl ?_);refine Kg_ (some 8) rfl rfl Try.func33 (by kernel_rfl) rfl #[.agg #[.int .i64 a0_0,.int .i64 a0_1,.int .u64 a0_2,.int .u64 a0_3,.int .u64 a0_4,.int .u64 a0_5,.int .u64 a0_6,.int .i64 a0_7,.slice A0_8 l0_8.length c0_8]] rfl ?_;(with_reducible refine (stream_Right.calls k a0_0 a0_1 a0_2 a0_3 a0_4 a0_5 a0_6 a0_7 _ _ l0_8 true _ ?side1 ?side2 A2.out).mono ?_);(case side1=>repeat (first|exact (Kd.C_below HR0_8.out HB.out)|(with_reducible refine Kd.C_alloc ?_ _)|(with_reducible refine Kd.C_drewN ?_ _)|(with_reducible refine Kd.C_drew ?_)));(case side2=>exact HC0_8.out);rintro e w18 ⟨rfl,hb⟩;refine ⟨_,rfl,?_⟩;replace BK149:=Kb_ BK149 hb;replace HB:=Ks_ HB hb;(try clear hb)))
 replace BK149:=Kd_ BK149
 replace HB:=As_ (below_drew1 HB.out)
 refine start_ (n:=14) (S:=fun w'=>w'.cell? ⟨gb149,0,none⟩=some (.int .i64 a0_0)∧w'.cell? ⟨gb149,1,none⟩=some (.int .i64 a0_1)∧w'.cell? ⟨gb149,2,none⟩=some (.int .u64 a0_2)∧w'.cell? ⟨gb149,3,none⟩=some (.int .u64 a0_3)∧w'.cell? ⟨gb149,4,none⟩=some (.int .u64 a0_4)∧w'.cell? ⟨gb149,5,none⟩=some (.int .u64 a0_5)∧w'.cell? ⟨gb149,6,none⟩=some (.int .u64 a0_6)∧w'.cell? ⟨gb149,7,none⟩=some (.int .i64 a0_7)∧w'.cell? ⟨gb149,8,none⟩=some (.slice A0_8 l0_8.length c0_8)) (ds:=[]) (mB_ 14 0) (by kernel_rfl) rfl rfl (Kc9_ BK149.out) (fun hHeld=>?_);refine with_tabW stream_Put.tab3 stream_Put.bits3 (fun HT_ HW_=>?_)
 generalize w18.drew=w19 at BK149 HB hHeld ⊢
 refine Kp_ 0 10 (mB_ 14 1) (any_of HT_.out (by kernel_rfl)) ?_
 refine Kp_ 4 14 (mB_ 14 17) (any_of HT_.out (by kernel_rfl)) ?_
 refine Kp_ 9 19 (mB_ 14 529) (any_of HT_.out (by kernel_rfl)) ?_
 refine Ko_ 1 11 (mB_ 14 531) (take_ofW HT_.out HW_.out (by kernel_rfl)) hHeld ?_
 refine Kp_ 2 12 (mB_ 14 535) (any_of HT_.out (by kernel_rfl)) ?_
 refine Ko_ 5 15 (mB_ 14 567) (take_ofW HT_.out HW_.out (by kernel_rfl)) hHeld ?_
 refine Kp_ 6 16 (mB_ 14 631) (any_of HT_.out (by kernel_rfl)) ?_
 refine Ko_ 10 20 (mB_ 14 1655) (take_ofW HT_.out HW_.out (by kernel_rfl)) hHeld ?_
 refine one_ (i:=3) (N:=some 13) (mB_ 14 1663) rfl rfl (one_of HT_.out (by kernel_rfl)) (by decide) (fun K hK=>?_)
 refine goes_ Try.func59 (by kernel_rfl) rfl #[.int .u64 (IntKind.u64.wrap (a0_0)),.int .i64 1] (by rfl) rfl rfl (by (try simp only [List.map_toArray,List.map_cons,List.map_nil]);first|done|rfl|(simp only [List.length_drop,List.length_take];rfl)) ?_
 with_reducible refine (pack_Number.calls (IntKind.u64.wrap (a0_0)) 1 t151 _ A4.out).mono ?_
 rintro e w20 ⟨rfl,hb⟩
 refine ⟨_,rfl,?_⟩
 replace BK149:=Kb_ BK149 hb
 replace HB:=Ks_ HB hb
 (try clear hb)
 (try clear hb2)
 (try clear hk)
 (try clear hi)
 refine hK.out _ _ (Kc9_ BK149.out) (fun hHeld=>?_)
 clear hK K
 refine Kn_ 13 ?_
 refine one_ (i:=7) (N:=some 17) (mB_ 14 1791) rfl rfl (one_of HT_.out (by kernel_rfl)) (by decide) (fun K hK=>?_)
 refine goes_ Try.func59 (by kernel_rfl) rfl #[.int .u64 (IntKind.u64.wrap (a0_1)),.int .i64 1] (by rfl) rfl rfl (by (try simp only [List.map_toArray,List.map_cons,List.map_nil]);first|done|rfl|(simp only [List.length_drop,List.length_take];rfl)) ?_
 with_reducible refine (pack_Number.calls (IntKind.u64.wrap (a0_1)) 1 t152 _ A5.out).mono ?_
 rintro e w21 ⟨rfl,hb⟩
 refine ⟨_,rfl,?_⟩
 replace BK149:=Kb_ BK149 hb
 replace HB:=Ks_ HB hb
 (try clear hb)
 (try clear hb2)
 (try clear hk)
 (try clear hi)
 refine hK.out _ _ (Kc9_ BK149.out) (fun hHeld=>?_)
 clear hK K
 refine Kn_ 17 ?_
 refine Kp_ 8 18 (mB_ 14 2047) (any_of HT_.out (by kernel_rfl)) ?_
 refine one_ (i:=11) (N:=some 21) (mB_ 14 4095) rfl rfl (one_of HT_.out (by kernel_rfl)) (by decide) (fun K hK=>?_)
 refine goes_ Try.func60 (by kernel_rfl) rfl #[.int .u64 a0_2] (by rfl) rfl rfl (by (try simp only [List.map_toArray,List.map_cons,List.map_nil]);first|done|rfl|(simp only [List.length_drop,List.length_take];rfl)) ?_
 with_reducible refine (pack_Vary.calls k a0_2 t153 _ A7.out).mono ?_
 rintro e w22 ⟨rfl,hb⟩
 refine ⟨_,rfl,?_⟩
 replace BK149:=Kb_ BK149 hb
 replace HB:=Ks_ HB hb
 (try clear hb)
 (try clear hb2)
 (try clear hk)
 (try clear hi)
 refine hK.out _ _ (Kc9_ BK149.out) (fun hHeld=>?_)
 clear hK K
 refine Kn_ 21 ?_
 refine Kp_ 12 22 (mB_ 14 8191) (any_of HT_.out (by kernel_rfl)) ?_
 refine Kp_ 13 4 (mB_ 14 16383) (any_of HT_.out (by kernel_rfl)) ?_
 refine done_ (done_of HT_.out (by kernel_rfl)) ?_
 obtain ⟨_,_,_,_,_,_,_,_,_,_,_,_,_,_,_,_,_,_⟩:=Ke9_ BK149.out
 try go_wp2_with (first|((with_reducible refine gate_callee (f:=61) rfl ?_);refine Kg_ (some 26) rfl rfl Try.func61 (by kernel_rfl) rfl #[.agg #[.int .u64 a0_3,.int .u64 a0_4,.int .u64 a0_5,.int .u64 a0_6,.int .i64 a0_7,.slice A0_8 l0_8.length c0_8]] rfl ?_;(with_reducible refine (item_Bytes.calls k a0_3 a0_4 a0_5 a0_6 a0_7 _ _ l0_8 t154 true _ ?side1 ?side2 A9.out).mono ?_);(case side1=>repeat (first|exact (Kd.C_below HR0_8.out HB.out)|(with_reducible refine Kd.C_alloc ?_ _)|(with_reducible refine Kd.C_drewN ?_ _)|(with_reducible refine Kd.C_drew ?_)));(case side2=>exact HC0_8.out);rintro e w24 ⟨rfl,hb⟩;refine ⟨_,rfl,?_⟩;replace HB:=Ks_ HB hb;(try clear hb))|((with_reducible refine gate_callee (f:=62) rfl ?_);refine Kg_ (some 32) rfl rfl Try.func62 (by kernel_rfl) rfl #[.string t154] rfl ?_;(with_reducible refine (pack_Text.calls k t154 t156 _ A11.out).mono ?_);rintro e w25 ⟨rfl,hb⟩;refine ⟨_,rfl,?_⟩;replace HB:=Ks_ HB hb;(try clear hb))|((with_reducible refine gate_callee (f:=63) rfl ?_);refine Kg_ (some 36) rfl rfl Try.func63 (by kernel_rfl) rfl #[.string (((t151++t152)++t153)++t156)] rfl ?_;(with_reducible refine (crc_Sum.calls k (((t151++t152)++t153)++t156) t157 _ A13.out).mono ?_);rintro e w26 ⟨rfl,hb⟩;refine ⟨_,rfl,?_⟩;replace HB:=Ks_ HB hb;(try clear hb))|((with_reducible refine gate_callee (f:=59) rfl ?_);refine Kg_ (some 38) rfl rfl Try.func59 (by kernel_rfl) rfl #[.int .u64 (IntKind.u64.wrap (t157)),.int .i64 4] rfl ?_;(with_reducible refine (pack_Number.calls (IntKind.u64.wrap (t157)) 4 t158 _ A14.out).mono ?_);rintro e w27 ⟨rfl,hb⟩;refine ⟨_,rfl,?_⟩;replace HB:=Ks_ HB hb;(try clear hb)))
 go_ret2
 exact ⟨Kh_,Kz_ HB GW149⟩
theorem pack_Reader_Number.bytesWorld_frozen (w:World) (e:TypeId) (s:ByteArray) (a:Addr) (ha:a.block<w.heap.size):(Lib.bytesWorld w e s).frozen? a=w.frozen? a :=
 (bytes_below (Below.refl _ _) (Nat.le_refl _) e s).frozen ha
theorem pack_Reader_Number.bt_extract0 (s:ByteArray) (n k:Nat) (hk:k<n) (hs:n≤s.size):bt (s.extract 0 n) k=bt s k:=by
 unfold bt
 rw [dif_pos (by simp;omega),dif_pos (by simp;omega)]
 simp [ByteArray.getElem_extract]
def rnum (s:ByteArray):Nat→Int
 | 0=>0
 | k+1=>Go.bits .or .u64 (IntKind.u64.wrap (rnum s k * 256)) (IntKind.u64.wrap (bt s k))
def pack_Reader_Number.f (a0_0:ByteArray) (a0_1:Bool) (a1:Int):Option (Int × ByteArray × Bool) :=
 if a0_0.size≤9223372036854775807 then
  (if a0_1=true then some (0,(⟨#[]⟩:ByteArray),true) else if a1<1 then some (0,(⟨#[]⟩:ByteArray),true) else if 8<a1 then some (0,(⟨#[]⟩:ByteArray),true)
   else if (a0_0.size:Int)<a1 then some (0,(⟨#[]⟩:ByteArray),true) else some (rnum a0_0 a1.toNat,a0_0.extract a1.toNat a0_0.size,false))
 else none
theorem pack_Reader_Number.some_ (s:ByteArray) (n:Nat) (h1:1≤n) (h8:n≤8) (hs:n≤s.size) (hm:s.size≤9223372036854775807) (w:World) :
  Calls Try.prog 75 #[.agg #[.string s,.bool false],.int .i64 n] w fun e w'=>e = .returned (.tuple #[.int .u64 (rnum s n),.agg #[.string (s.extract n s.size),.bool false]])∧Below w.heap.size w w':=by
 have hcv:=fun W t=>Lib.run_convert_string_bytes (P:=Try.prog) W 9 91 5 t Try.underlying9 Try.underlying91 Try.underlying5
 have b1:decide ((n:Int)<1)=false:=by simp;omega
 have b2:decide ((8:Int)<(n:Int))=false:=by simp;omega
 have b3:decide (s.size<n)=false:=by simp;omega
 go_enter Try.func75,Try.ntmps75
 go_wp2
 obtain ⟨W,hW⟩:∃ W,W=Lib.bytesWorld ((w.alloc (Obj.cells #[Value.string s,Value.bool false] 134)).alloc (Obj.cells #[Value.string { data:=#[] },Value.bool false] 134)) 5 (s.extract 0 n):=⟨_,rfl⟩
 have hbel:Below w.heap.size w W:=by
  rw [hW]
  exact bytes_below (((Below.refl _ _).alloc (Nat.le_refl _) _).alloc (by simp) _) (by simp;omega) _ _
 have hsz:W.heap.size=w.heap.size+3:=by rw [hW,Lib.bytesWorld_size];simp
 have hc0:W.cell? ⟨w.heap.size,0,none⟩=some (.string s):=by
  rw [hW,Lib.bytesWorld_old _ _ _ _ (by simp;omega)];simp [go_sem]
 have hc2:W.cell? ⟨w.heap.size+1,0,none⟩=some (.string ⟨#[]⟩):=by
  rw [hW,Lib.bytesWorld_old _ _ _ _ (by simp)];simp [go_sem]
 have hc3:W.cell? ⟨w.heap.size+1,1,none⟩=some (.bool false):=by
  rw [hW,Lib.bytesWorld_old _ _ _ _ (by simp)];simp [go_sem]
 have hf2:W.frozen? ⟨w.heap.size+1,0,none⟩=false:=by
  rw [hW,pack_Reader_Number.bytesWorld_frozen _ _ _ _ (by simp)];simp [go_sem]
 have hf3:W.frozen? ⟨w.heap.size+1,1,none⟩=false:=by
  rw [hW,pack_Reader_Number.bytesWorld_frozen _ _ _ _ (by simp)];simp [go_sem]
 have hel:∀ k:Nat,k<n→W.cell? ⟨w.heap.size+1+1,k,none⟩=some (.int .u8 (bt s k)):=by
  intro k hk
  obtain ⟨_,_,hr⟩:=bytes_reads ((w.alloc (Obj.cells #[Value.string s,Value.bool false] 134)).alloc (Obj.cells #[Value.string { data:=#[] },Value.bool false] 134)) 5 (s.extract 0 n) (by simp;omega)
  rw [← hW] at hr
  obtain ⟨ad,had,hr⟩:=hr (by simp;omega)
  have hr:=hr k (by simp;omega)
  simp at had
  subst had
  rw [add_plain] at hr
  rw [hr]
  have e1:(bytesOf (s.extract 0 n)).getD k 0=bt (s.extract 0 n) k:=rd_bytesOf (s.extract 0 n) k
  rw [e1,pack_Reader_Number.bt_extract0 _ _ _ hk hs]
 rw [← hW]
 clear hW hcv
 go_loop [32,4] (fun i v=>∃ k:Nat,k≤n∧i = .int .i64 k∧v = .int .u64 (rnum s k)) (fun i _=>n - (intOf i).toNat)
 case atStart=>exact ⟨0,Nat.zero_le _,rfl,rfl⟩
 case round =>
  obtain ⟨k,hk,rfl,rfl⟩:=hrel
  by_cases hlt:k<n
  ·have hcell:=hel k hlt
   clear hel
   go_wp2
   go_round
   case rel=>exact ⟨k+1,by omega,by go_num,rfl⟩
   case measure=>simp [intOf];omega
  ·obtain rfl:k=n:=by omega
   clear hel
   go_wp2
   go_region
   all_goals go_wp2
   refine bodyPost_ret (v:=.tuple #[.int .u64 (rnum s k),.agg #[.string (s.extract k s.size),.bool false]]) (by simp [results,Try.results75,go_sem,hc2,hc3,hf2,hf3]) rfl ⟨rfl,?_⟩
   exact ((hbel.setCell (by simp) _).setCell (by simp) _).drew
theorem pack_Reader_Number.bad_ (s:ByteArray) (b:Bool) (a1:Int) (h:b=true∨b=false∧(a1<1∨8<a1∨(s.size:Int)<a1)) (w:World) :
  Calls Try.prog 75 #[.agg #[.string s,.bool b],.int .i64 a1] w fun e w'=>e = .returned (.tuple #[.int .u64 0,.agg #[.string ⟨#[]⟩,.bool true]])∧Below w.heap.size w w':=by
 rcases h with rfl|⟨rfl,h⟩
 ·go_enter Try.func75,Try.ntmps75
  go_wp2
  refine bodyPost_ret (v:=.agg #[.string ⟨#[]⟩,.bool true]) (by simp [results,Try.results98,go_sem]) rfl ?_
  go_wp2
  refine bodyPost_ret (v:=.tuple #[.int .u64 0,.agg #[.string ⟨#[]⟩,.bool true]]) (by simp [results,Try.results75,go_sem]) rfl ⟨rfl,?_⟩
  repeat (first|exact Below.refl _ _|apply below_alloc|apply below_drew|refine Below.setCell ?_ (by simp) _)
 ·rcases h with h|h|h
  ·have b1:decide (a1<1)=true:=decide_eq_true h
   go_enter Try.func75,Try.ntmps75
   go_wp2
   refine bodyPost_ret (v:=.agg #[.string ⟨#[]⟩,.bool true]) (by simp [results,Try.results98,go_sem]) rfl ?_
   go_wp2
   refine bodyPost_ret (v:=.tuple #[.int .u64 0,.agg #[.string ⟨#[]⟩,.bool true]]) (by simp [results,Try.results75,go_sem]) rfl ⟨rfl,?_⟩
   repeat (first|exact Below.refl _ _|apply below_alloc|apply below_drew|refine Below.setCell ?_ (by simp) _)
  ·have b1:decide (8<a1)=true:=decide_eq_true h
   have b2:decide (a1<1)=false:=decide_eq_false (by omega)
   go_enter Try.func75,Try.ntmps75
   go_wp2
   refine bodyPost_ret (v:=.agg #[.string ⟨#[]⟩,.bool true]) (by simp [results,Try.results98,go_sem]) rfl ?_
   go_wp2
   refine bodyPost_ret (v:=.tuple #[.int .u64 0,.agg #[.string ⟨#[]⟩,.bool true]]) (by simp [results,Try.results75,go_sem]) rfl ⟨rfl,?_⟩
   repeat (first|exact Below.refl _ _|apply below_alloc|apply below_drew|refine Below.setCell ?_ (by simp) _)
  ·by_cases h1:a1<1
   ·have b1:decide (a1<1)=true:=decide_eq_true h1
    clear h
    go_enter Try.func75,Try.ntmps75
    go_wp2
    refine bodyPost_ret (v:=.agg #[.string ⟨#[]⟩,.bool true]) (by simp [results,Try.results98,go_sem]) rfl ?_
    go_wp2
    refine bodyPost_ret (v:=.tuple #[.int .u64 0,.agg #[.string ⟨#[]⟩,.bool true]]) (by simp [results,Try.results75,go_sem]) rfl ⟨rfl,?_⟩
    repeat (first|exact Below.refl _ _|apply below_alloc|apply below_drew|refine Below.setCell ?_ (by simp) _)
   ·by_cases h8:8<a1
    ·have b1:decide (8<a1)=true:=decide_eq_true h8
     clear h
     have b2:decide (a1<1)=false:=decide_eq_false (by omega)
     go_enter Try.func75,Try.ntmps75
     go_wp2
     refine bodyPost_ret (v:=.agg #[.string ⟨#[]⟩,.bool true]) (by simp [results,Try.results98,go_sem]) rfl ?_
     go_wp2
     refine bodyPost_ret (v:=.tuple #[.int .u64 0,.agg #[.string ⟨#[]⟩,.bool true]]) (by simp [results,Try.results75,go_sem]) rfl ⟨rfl,?_⟩
     repeat (first|exact Below.refl _ _|apply below_alloc|apply below_drew|refine Below.setCell ?_ (by simp) _)
    ·have b1:decide (8<a1)=false:=decide_eq_false (by omega)
     have b2:decide (a1<1)=false:=decide_eq_false (by omega)
     have b3:decide ((s.size:Int)<a1)=true:=decide_eq_true h
     go_enter Try.func75,Try.ntmps75
     go_wp2
     refine bodyPost_ret (v:=.agg #[.string ⟨#[]⟩,.bool true]) (by simp [results,Try.results98,go_sem]) rfl ?_
     go_wp2
     refine bodyPost_ret (v:=.tuple #[.int .u64 0,.agg #[.string ⟨#[]⟩,.bool true]]) (by simp [results,Try.results75,go_sem]) rfl ⟨rfl,?_⟩
     repeat (first|exact Below.refl _ _|apply below_alloc|apply below_drew|refine Below.setCell ?_ (by simp) _)
theorem pack_Reader_Number.calls (a0_0:ByteArray) (a0_1:Bool) (a1:Int) (r1:Int) (r2:ByteArray) (r3:Bool) (w:World) (h:pack_Reader_Number.f a0_0 a0_1 a1=some (r1,r2,r3)) :
  Calls Try.prog 75 #[.agg #[.string a0_0,.bool a0_1],.int .i64 a1] w fun e w'=>e = .returned (.tuple #[.int .u64 r1,.agg #[.string r2,.bool r3]])∧Below w.heap.size w w':=by
 unfold pack_Reader_Number.f at h
 by_cases hm:a0_0.size≤9223372036854775807
 ·rw [if_pos hm] at h
  by_cases c0:a0_1=true
  ·rw [if_pos c0] at h
   simp only [Option.some.injEq,Prod.mk.injEq] at h
   obtain ⟨rfl,rfl,rfl⟩:=h
   exact pack_Reader_Number.bad_ _ _ _ (.inl c0) w
  ·rw [if_neg c0] at h
   have c0':a0_1=false:=by simpa using c0
   by_cases c1:a1<1
   ·rw [if_pos c1] at h
    simp only [Option.some.injEq,Prod.mk.injEq] at h
    obtain ⟨rfl,rfl,rfl⟩:=h
    exact pack_Reader_Number.bad_ _ _ _ (.inr ⟨c0',.inl c1⟩) w
   ·rw [if_neg c1] at h
    by_cases c2:8<a1
    ·rw [if_pos c2] at h
     simp only [Option.some.injEq,Prod.mk.injEq] at h
     obtain ⟨rfl,rfl,rfl⟩:=h
     exact pack_Reader_Number.bad_ _ _ _ (.inr ⟨c0',.inr (.inl c2)⟩) w
    ·rw [if_neg c2] at h
     by_cases c3:(a0_0.size:Int)<a1
     ·rw [if_pos c3] at h
      simp only [Option.some.injEq,Prod.mk.injEq] at h
      obtain ⟨rfl,rfl,rfl⟩:=h
      exact pack_Reader_Number.bad_ _ _ _ (.inr ⟨c0',.inr (.inr c3)⟩) w
     ·rw [if_neg c3] at h
      simp only [Option.some.injEq,Prod.mk.injEq] at h
      obtain ⟨rfl,rfl,rfl⟩:=h
      obtain ⟨n,rfl⟩:=Int.eq_ofNat_of_zero_le (show 0≤a1 by omega)
      subst c0'
      rw [Int.toNat_natCast]
      exact pack_Reader_Number.some_ a0_0 n (by omega) (by omega) (by omega) hm w
 ·rw [if_neg hm] at h
  exact absurd h (by simp)
end Go.Proofs.Ytoagfdpgnfinhaa.Q
