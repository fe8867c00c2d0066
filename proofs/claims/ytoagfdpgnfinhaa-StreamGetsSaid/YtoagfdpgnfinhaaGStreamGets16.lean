import Derived.Test.YtoagfdpgnfinhaaGStreamGets2
import Derived.Test.YtoagfdpgnfinhaaGStreamGets5
import Derived.Test.YtoagfdpgnfinhaaGStreamGets7
import Derived.Test.YtoagfdpgnfinhaaGStreamGets8
import Derived.Test.YtoagfdpgnfinhaaGStreamGets9
import Derived.Test.YtoagfdpgnfinhaaGStreamGets15
import Derived.Test.YtoagfdpgnfinhaaGStreamGets10
import Derived.Test.YtoagfdpgnfinhaaGStreamGets11
import Derived.Test.YtoagfdpgnfinhaaGStreamGets14
import Derived.Test.YtoagfdpgnfinhaaGStreamGets12
namespace Go.Proofs.Ytoagfdpgnfinhaa.Q
open Go.RowKit Go.Proofs.YtoagfdpgnfinhaaW.PrintWords Go.Proofs.YtoagfdpgnfinhaaW.PrintLast Go.Proofs.YtoagfdpgnfinhaaW.PrintMore
attribute [local go_sem] max2_int min2_int max_two min_two max_three min_three max_four min_four   -- for this text's walks alone
set_option linter.unusedVariables false
set_option linter.unusedSimpArgs false
mutual
def L15_StreamGets.j1:Nat→ByteArray→Int→Bool→Option (Bool)
 | 0,_,_,_=>none
 | k+1,x1,x2,x11=>if x2 > 240 then (if x1.size+1≤9223372036854775807 then (L15_StreamGets.j2 k (x1++(⟨#[120]⟩:ByteArray)) x11) else (none)) else (L15_StreamGets.j2 k x1 x11)
def L15_StreamGets.j2:Nat→ByteArray→Bool→Option (Bool)
 | 0,_,_=>none
 | k+1,x1,x11=>(stream_Get.f k x1).bind fun bt654=>((R15_Get.f k x1).bind fun bt667=>(if x11=true then ((L15_refMsg.f k bt654.1 bt654.2.1 bt654.2.2.1 bt654.2.2.2.1 bt654.2.2.2.2.1 bt654.2.2.2.2.2.1 bt654.2.2.2.2.2.2.1 bt654.2.2.2.2.2.2.2.1 bt654.2.2.2.2.2.2.2.2.1).bind fun bt680=>((L15_alike.f k bt680.1 bt680.2.1 bt680.2.2.1 bt680.2.2.2.1 bt680.2.2.2.2.1 bt680.2.2.2.2.2.1 bt680.2.2.2.2.2.2.1 bt680.2.2.2.2.2.2.2.1 bt680.2.2.2.2.2.2.2.2 bt667.1 bt667.2.1 bt667.2.2.1 bt667.2.2.2.1 bt667.2.2.2.2.1 bt667.2.2.2.2.2.1 bt667.2.2.2.2.2.2.1 bt667.2.2.2.2.2.2.2.1 bt667.2.2.2.2.2.2.2.2.1).bind fun t691=>(if t691=true then (if bt654.2.2.2.2.2.2.2.2.2=bt667.2.2.2.2.2.2.2.2.2 then (some true) else (none)) else (none)))) else (none)))
def L15_StreamGets.j0:Nat→ByteArray→Int→Int→Int→Bool→ByteArray→Int→Bool→Option (Bool)
 | 0,_,_,_,_,_,_,_,_=>none
 | k+1,x1,x2,x3,x4,x11,x12,x30,x34=>if x34=true then ((L15_bend.f x12 x3 x4).bind fun t653=>(L15_StreamGets.j1 k t653 x2 x11)) else (if x30=3 then (if x12.size+x1.size≤9223372036854775807 then (L15_StreamGets.j1 k (x12++x1) x2 x11) else (none)) else (L15_StreamGets.j1 k x1 x2 x11))
end
def L15_StreamGets.f (k:Nat) (a0_0:Int) (a0_1:Int) (a0_2:Int) (a0_3:Int) (a0_4:Int) (a0_5:Int) (a0_6:Int) (a0_7:Int) (a0_8:Bool) (l0_9:List (S159)) (a0_10:Bool) (a0_11:Bool) (a1:ByteArray) (a2:Int) (a3:Int) (a4:Int):Option (Bool):=(L15_examples.f).bind fun t628=>(if t628=true then ((L15_Letter_letter.f k a0_0 a0_1 a0_2 a0_3 a0_4 a0_5 a0_6 a0_7 a0_8 l0_9 a0_10 true).bind fun bt629=>((L15_refMsg.f k bt629.1 bt629.2.1 bt629.2.2.1 bt629.2.2.2.1 bt629.2.2.2.2.1 bt629.2.2.2.2.2.1 bt629.2.2.2.2.2.2.1 bt629.2.2.2.2.2.2.2.1 bt629.2.2.2.2.2.2.2.2).bind fun bt640=>((R15_Put.f k bt640.1 bt640.2.1 bt640.2.2.1 bt640.2.2.2.1 bt640.2.2.2.2.1 bt640.2.2.2.2.2.1 bt640.2.2.2.2.2.2.1 bt640.2.2.2.2.2.2.2.1 bt640.2.2.2.2.2.2.2.2).bind fun bt651=>(if (Int.tmod a2 4)=0 then (L15_StreamGets.j1 k bt651.1 a2 t628) else (if (Int.tmod a2 4)=1 then (L15_StreamGets.j0 k a1 a2 a3 a4 t628 bt651.1 (Int.tmod a2 4) ((Int.tmod a2 4) == 1)) else (L15_StreamGets.j0 k a1 a2 a3 a4 t628 bt651.1 (Int.tmod a2 4) ((Int.tmod a2 4) == 2))))))) else (none))
def L15_StreamGets.T18:Bool × List (List Nat × List Nat):=(true,[([],[]),([0],[0]),([1],[1]),([2,1,1],[1,2]),([1],[1]),([3,4,3,1],[1,3,4]),([1,5],[1,5]),([6,5],[6]),([7],[7]),([7],[7]),([8,9,7],[7,8,9]),([7,10],[7,10]),([11,7,0,1,2,3,4,5,6,7,8,9,10,11],[11])])
def L15_StreamGets.B18:List Nat:=[0,1,3,7,3,31,63,127,255,255,1023,2047,4095]
theorem L15_StreamGets.tab18:rtab .any (opsOf Try.f5 18)=L15_StreamGets.T18:=by kernel_rfl
theorem L15_StreamGets.bits18:waitsOk L15_StreamGets.T18.2 L15_StreamGets.B18=true:=by kernel_rfl
set_option maxHeartbeats 8000000 in
set_option maxRecDepth 100000 in
theorem L15_StreamGets.calls (k:Nat) (a0_0:Int) (a0_1:Int) (a0_2:Int) (a0_3:Int) (a0_4:Int) (a0_5:Int) (a0_6:Int) (a0_7:Int) (a0_8:Bool) (A0_9:Option Addr) (c0_9:Nat) (l0_9:List (S159)) (a0_10:Bool) (a0_11:Bool) (a1:ByteArray) (a2:Int) (a3:Int) (a4:Int) (r:Bool) (w:World) (hr0_9:Kd.C k159 w A0_9 l0_9.length l0_9) (hc0_9:l0_9.length≤c0_9) (h:L15_StreamGets.f k a0_0 a0_1 a0_2 a0_3 a0_4 a0_5 a0_6 a0_7 a0_8 l0_9 a0_10 a0_11 a1 a2 a3 a4=some r) :
  Calls Try.prog 5 #[.agg #[.int .i64 a0_0,.int .i64 a0_1,.int .u64 a0_2,.int .u64 a0_3,.int .u64 a0_4,.int .u64 a0_5,.int .u64 a0_6,.int .i64 a0_7,.bool a0_8,.slice A0_9 l0_9.length c0_9,.bool a0_10,.bool a0_11],.string a1,.int .u8 a2,.int .i64 a3,.int .u8 a4] w fun e w'=>e = .returned (.bool r)∧Below w.heap.size w w':=by
 have hu65:=Try.underlying65
 have hu69:=Try.underlying69
 have hu75:=Try.underlying75
 have HR0_9:=As_ hr0_9
 have HC0_9:=As_ hc0_9
 clear hr0_9 hc0_9
 have HB:=As_ (Below.refl w.heap.size w)
 unfold L15_StreamGets.f at h
 have H:=h
 clear h
 obtain ⟨t628,A6,H⟩:=Kbind_ H
 (try dsimp only at H)
 by_cases c7:t628=true
 rotate_left
 ·replace c7:=Bool.eq_false_iff.mpr c7
  subst c7
  rw [if_neg Bool.false_ne_true] at H
  exact absurd H (by simp)
 subst c7
 rw [if_pos rfl] at H
 obtain ⟨⟨t629,t630,t631,t632,t633,t634,t635,t636,t637⟩,A8,H⟩:=Kbind_ H
 (try dsimp only at H)
 obtain ⟨⟨t640,t641,t642,t643,t644,t645,t646,t647,t648⟩,A9,H⟩:=Kbind_ H
 (try dsimp only at H)
 obtain ⟨⟨t651,t652⟩,A10,H⟩:=Kbind_ H
 (try dsimp only at H)
 have HC11:=As_ H
 clear H
 go_enter Try.func5,Try.ntmps5
 go_upto_block 0 with (first|((with_reducible refine gate_dst (N:=5) rfl ?_);refine Ka_ 5 #[.int .i64 a0_0,.int .i64 a0_1,.int .u64 a0_2,.int .u64 a0_3,.int .u64 a0_4,.int .u64 a0_5,.int .u64 a0_6,.int .i64 a0_7,.bool a0_8,.slice A0_9 l0_9.length c0_9,.bool a0_10,.bool a0_11] 65 ?_;intro gb627 hg w12 hbox hb;have BK627:=As_ (hbox);have GW627:=Kw_ HB hg;replace HB:=Ks_ HB hb;clear hb hbox hg)|((with_reducible refine gate_callee (f:=11) rfl ?_);refine Kg_ (some 18) rfl rfl Try.func11 (by kernel_rfl) rfl #[] rfl ?_;(with_reducible refine (L15_examples.calls  true _ A6.out).mono ?_);rintro e w13 ⟨rfl,hb⟩;refine ⟨_,rfl,?_⟩;replace BK627:=Kb_ BK627 hb;replace HB:=Ks_ HB hb;(try clear hb);(try clear hk);have hcz14_0:w13.cell? ⟨gb627,0,none⟩=some (.int .i64 a0_0):=(blk_cell BK627.out 0).trans rfl;have hcz14_1:w13.cell? ⟨gb627,1,none⟩=some (.int .i64 a0_1):=(blk_cell BK627.out 1).trans rfl;have hcz14_2:w13.cell? ⟨gb627,2,none⟩=some (.int .u64 a0_2):=(blk_cell BK627.out 2).trans rfl;have hcz14_3:w13.cell? ⟨gb627,3,none⟩=some (.int .u64 a0_3):=(blk_cell BK627.out 3).trans rfl;have hcz14_4:w13.cell? ⟨gb627,4,none⟩=some (.int .u64 a0_4):=(blk_cell BK627.out 4).trans rfl;have hcz14_5:w13.cell? ⟨gb627,5,none⟩=some (.int .u64 a0_5):=(blk_cell BK627.out 5).trans rfl;have hcz14_6:w13.cell? ⟨gb627,6,none⟩=some (.int .u64 a0_6):=(blk_cell BK627.out 6).trans rfl;have hcz14_7:w13.cell? ⟨gb627,7,none⟩=some (.int .i64 a0_7):=(blk_cell BK627.out 7).trans rfl;have hcz14_8:w13.cell? ⟨gb627,8,none⟩=some (.bool a0_8):=(blk_cell BK627.out 8).trans rfl;have hcz14_9:w13.cell? ⟨gb627,9,none⟩=some (.slice A0_9 l0_9.length c0_9):=(blk_cell BK627.out 9).trans rfl;have hcz14_10:w13.cell? ⟨gb627,10,none⟩=some (.bool a0_10):=(blk_cell BK627.out 10).trans rfl;have hcz14_11:w13.cell? ⟨gb627,11,none⟩=some (.bool a0_11):=(blk_cell BK627.out 11).trans rfl;have hfz14_0:=blk_frozen BK627.out 0;have hfz14_1:=blk_frozen BK627.out 1;have hfz14_2:=blk_frozen BK627.out 2;have hfz14_3:=blk_frozen BK627.out 3;have hfz14_4:=blk_frozen BK627.out 4;have hfz14_5:=blk_frozen BK627.out 5;have hfz14_6:=blk_frozen BK627.out 6;have hfz14_7:=blk_frozen BK627.out 7;have hfz14_8:=blk_frozen BK627.out 8;have hfz14_9:=blk_frozen BK627.out 9;have hfz14_10:=blk_frozen BK627.out 10;have hfz14_11:=blk_frozen BK627.out 11)|((with_reducible refine gate_callee (f:=26) rfl ?_);refine Kg_ (some 24) rfl rfl Try.func26 (by kernel_rfl) rfl #[.agg #[.int .i64 a0_0,.int .i64 a0_1,.int .u64 a0_2,.int .u64 a0_3,.int .u64 a0_4,.int .u64 a0_5,.int .u64 a0_6,.int .i64 a0_7,.bool a0_8,.slice A0_9 l0_9.length c0_9,.bool a0_10,.bool true]] rfl ?_;(with_reducible refine (L15_Letter_letter.calls k a0_0 a0_1 a0_2 a0_3 a0_4 a0_5 a0_6 a0_7 a0_8 _ _ l0_9 a0_10 true t629 t630 t631 t632 t633 t634 t635 t636 t637 _ ?side1 ?side2 A8.out).mono ?_);(case side1=>exact Kd.C_below HR0_9.out (Kz_ HB GW627));(case side2=>exact HC0_9.out);rintro e w15 ⟨v638,rfl,ho0,hb⟩;refine ⟨_,rfl,?_⟩;have HO639:=As_ (Kd.R_lower ho0 (below_size (Kz_ HB GW627)));replace BK627:=As_ (blk_below (g:=gb627) (o:=.cells #[.int .i64 a0_0,.int .i64 a0_1,.int .u64 a0_2,.int .u64 a0_3,.int .u64 a0_4,.int .u64 a0_5,.int .u64 a0_6,.int .i64 a0_7,.bool a0_8,.slice A0_9 l0_9.length c0_9,.bool a0_10,.bool true] 65 (0,0)) (by refine Kv_ ?_;refine blk_put (cs:=#[.int .i64 a0_0,.int .i64 a0_1,.int .u64 a0_2,.int .u64 a0_3,.int .u64 a0_4,.int .u64 a0_5,.int .u64 a0_6,.int .i64 a0_7,.bool a0_8,.slice A0_9 l0_9.length c0_9,.bool a0_10,.bool a0_11]) ?_ 11 _ rfl;exact Kq_ BK627) hb);replace HB:=Kt_ HB GW627 hb;(try clear hb);(try clear hk);(try clear ho0);obtain ⟨Ao16,co16,eo16⟩:=Kd.R_slice HO639.out;subst eo16)|((with_reducible refine gate_callee (f:=29) rfl ?_);refine Kg_ (some 25) rfl rfl Try.func29 (by kernel_rfl) rfl #[.agg #[.int .i64 t629,.int .i64 t630,.int .u64 t631,.int .u64 t632,.int .u64 t633,.int .u64 t634,.int .u64 t635,.int .i64 t636,.slice Ao16 t637.length co16]] rfl ?_;(with_reducible refine (L15_refMsg.calls k t629 t630 t631 t632 t633 t634 t635 t636 _ _ t637 t640 t641 t642 t643 t644 t645 t646 t647 t648 _ ?side1 ?side2 A9.out).mono ?_);(case side1=>repeat (first|exact (Kd.R_reads' HO639.out).2.2|(with_reducible refine Kd.C_alloc ?_ _)|(with_reducible refine Kd.C_drewN ?_ _)|(with_reducible refine Kd.C_drew ?_)));(case side2=>exact (Kd.R_reads' HO639.out).2.1);rintro e w17 ⟨v649,rfl,ho0,hb⟩;refine ⟨_,rfl,?_⟩;have HO650:=As_ (Kd.R_lower ho0 (below_size (Kz_ HB GW627)));replace BK627:=Kb_ BK627 hb;replace HB:=Ks_ HB hb;(try clear hb);(try clear hk);(try clear ho0);obtain ⟨Ao18,co18,eo18⟩:=Kd.R_slice HO650.out;subst eo18)|((with_reducible refine gate_callee (f:=28) rfl ?_);refine Kg_ (some 26) rfl rfl Try.func28 (by kernel_rfl) rfl #[.agg #[.int .i64 t640,.int .i64 t641,.int .u64 t642,.int .u64 t643,.int .u64 t644,.int .u64 t645,.int .u64 t646,.int .i64 t647,.slice Ao18 t648.length co18]] rfl ?_;(with_reducible refine (R15_Put.calls k t640 t641 t642 t643 t644 t645 t646 t647 _ _ t648 t651 t652 _ ?side1 ?side2 A10.out).mono ?_);(case side1=>repeat (first|exact (Kd.R_reads' HO650.out).2.2|(with_reducible refine Kd.C_alloc ?_ _)|(with_reducible refine Kd.C_drewN ?_ _)|(with_reducible refine Kd.C_drew ?_)));(case side2=>exact (Kd.R_reads' HO650.out).2.1);rintro e w19 ⟨rfl,hb⟩;refine ⟨_,rfl,?_⟩;replace BK627:=Kb_ BK627 hb;replace HB:=Ks_ HB hb;(try clear hb);(try clear hk)))
 (try simp only [Act.put,List.setIfInBounds_toArray,List.set_cons_zero,List.set_cons_succ])
 go_cut [1] (fun v1 wc=>∃ (kq:Nat) (x1_10:ByteArray),v1 = .string x1_10∧Aside0 (L15_StreamGets.j1 kq x1_10 a2 true=some r)∧Aside0 (kq≤k)∧Aside0 (Below w.heap.size w wc))
 case first =>
  have H:=HC11.out
  clear HC11
  by_cases c20:(Int.tmod a2 4)=0
  ·rw [if_pos c20] at H
   have c20b0:((Int.tmod a2 4) == 0)=true:=beq_iff_eq.mpr c20
   have c20b1:((Int.tmod a2 4) != 0)=false:=bne_eq_false_iff_eq.mpr c20
   clear c20
   (first|rw [c20b0]|(simp only [i64_w,i32_w];rw [c20b0])|skip)
   have H':=As_ H
   clear H
   go_wp2
   go_meet
   case rel=>exact ⟨_,(t651),(by first|rfl|(simp;done)|(simp [*];done)),H',⟨by first|omega|exact Nat.le_refl _⟩,⟨Kz_ HB GW627⟩⟩
  rw [if_neg c20] at H
  have c20b0:=beq_eq_false_iff_ne.mpr c20
  have c20b1:((Int.tmod a2 4) != 0)=true:=bne_iff_ne.mpr c20
  (first|rw [c20b0]|(simp only [i64_w,i32_w];rw [c20b0])|skip)
  have HC21:=As_ H
  clear H
  go_upto_if 34 with (fail)
  go_cut [34] (fun v34 wc=>∃ (kq:Nat) (x34_20:Bool),v34 = .bool x34_20∧Aside0 (L15_StreamGets.j0 kq a1 a2 a3 a4 true t651 (Int.tmod a2 4) x34_20=some r)∧Aside0 (kq≤k)∧Aside0 (wc.heap[gb627]?=some (.cells #[.int .i64 a0_0,.int .i64 a0_1,.int .u64 a0_2,.int .u64 a0_3,.int .u64 a0_4,.int .u64 a0_5,.int .u64 a0_6,.int .i64 a0_7,.bool a0_8,(.slice A0_9 l0_9.length c0_9),.bool a0_10,.bool true] 65 (0,0)))∧Aside0 (Below w.heap.size w wc))
  case first =>
   have H:=HC21.out
   clear HC21
   by_cases c22:(Int.tmod a2 4)=1
   rotate_left
   ·rw [if_neg c22] at H
    have c22b0:=beq_eq_false_iff_ne.mpr c22
    have c22b1:((Int.tmod a2 4) != 1)=true:=bne_iff_ne.mpr c22
    (first|rw [c22b0]|(simp only [i64_w,i32_w];rw [c22b0])|skip)
    have H':=As_ H
    clear H
    go_wp2
    go_meet
    case rel=>exact ⟨_,(((Int.tmod a2 4) == 2)),(by first|rfl|(simp;done)|(simp [*];done)),H',⟨by first|omega|exact Nat.le_refl _⟩,⟨by exact Kq_ BK627⟩,⟨Kz_ HB GW627⟩⟩
   rw [if_pos c22] at H
   have c22b0:((Int.tmod a2 4) == 1)=true:=beq_iff_eq.mpr c22
   have c22b1:((Int.tmod a2 4) != 1)=false:=bne_eq_false_iff_eq.mpr c22
   clear c22
   (first|rw [c22b0]|(simp only [i64_w,i32_w];rw [c22b0])|skip)
   have H':=As_ H
   clear H
   go_wp2
   go_meet
   case rel=>exact ⟨_,(((Int.tmod a2 4) == 1)),(by first|rfl|(simp;done)|(simp [*];done)),H',⟨by first|omega|exact Nat.le_refl _⟩,⟨by exact Kq_ BK627⟩,⟨Kz_ HB GW627⟩⟩
  case rest =>
   clear HC21
   try clear c1
   try clear c2
   try clear p2
   try clear c5
   try clear c7
   try clear c11
   try clear c20
   try clear c20b0
   try clear c20b1
   try clear c22
   try clear c22b0
   try clear c22b1
   try clear hcz14_0
   try clear hcz14_1
   try clear hcz14_10
   try clear hcz14_11
   try clear hcz14_2
   try clear hcz14_3
   try clear hcz14_4
   try clear hcz14_5
   try clear hcz14_6
   try clear hcz14_7
   try clear hcz14_8
   try clear hcz14_9
   try clear hfz14_0
   try clear hfz14_1
   try clear hfz14_10
   try clear hfz14_11
   try clear hfz14_2
   try clear hfz14_3
   try clear hfz14_4
   try clear hfz14_5
   try clear hfz14_6
   try clear hfz14_7
   try clear hfz14_8
   try clear hfz14_9
   obtain ⟨kq,x34_20,rfl,HA,HJ20,BK627,HB⟩:=hcut
   cases kq with
   | zero=>exact absurd HA.out (by simp [L15_StreamGets.j0])
   | succ kj20 =>
    have H:=HA.out
    clear HA
    simp only [L15_StreamGets.j0] at H
    by_cases c23:x34_20=true
    ·subst c23
     rw [if_pos rfl] at H
     obtain ⟨t653,A24,H⟩:=Kbind_ H
     (try dsimp only at H)
     have H':=As_ H
     clear H
     go_wp2_with (first|((with_reducible refine gate_callee (f:=35) rfl ?_);refine Kg_ (some 40) rfl rfl Try.func35 (by kernel_rfl) rfl #[.string t651,.int .i64 a3,.int .u8 a4] rfl ?_;(with_reducible refine (L15_bend.calls t651 a3 a4 t653 _ A24.out).mono ?_);rintro e w25 ⟨rfl,hb⟩;refine ⟨_,rfl,?_⟩;replace HB:=Ks_ HB hb;(try clear hb);(try clear hk)))
     go_meet
     case rel=>exact ⟨_,(t653),(by first|rfl|(simp;done)|(simp [*];done)),H',⟨by have:=HJ20.out;first|omega|exact Nat.le_refl _⟩,⟨Kz_ HB GW627⟩⟩
    replace c23:=Bool.eq_false_iff.mpr c23
    subst c23
    rw [if_neg Bool.false_ne_true] at H
    by_cases c26:(Int.tmod a2 4)=3
    rotate_left
    ·rw [if_neg c26] at H
     have c26b0:=beq_eq_false_iff_ne.mpr c26
     have c26b1:((Int.tmod a2 4) != 3)=true:=bne_iff_ne.mpr c26
     have H':=As_ H
     clear H
     go_wp2
     go_meet
     case rel=>exact ⟨_,(a1),(by first|rfl|(simp;done)|(simp [*];done)),H',⟨by have:=HJ20.out;first|omega|exact Nat.le_refl _⟩,⟨Kz_ HB GW627⟩⟩
    rw [if_pos c26] at H
    have c26b0:((Int.tmod a2 4) == 3)=true:=beq_iff_eq.mpr c26
    have c26b1:((Int.tmod a2 4) != 3)=false:=bne_eq_false_iff_eq.mpr c26
    clear c26
    by_cases c27:t651.size+a1.size≤9223372036854775807
    rotate_left
    ·rw [if_neg c27] at H
     exact absurd H (by simp)
    rw [if_pos c27] at H
    have c27b0:=eq_true c27
    have c27b1:decide (t651.size+a1.size≤9223372036854775807)=true:=decide_eq_true c27
    try have c27b2:(9223372036854775807<t651.size+a1.size)=False:=eq_false (Nat.not_lt.2 c27)
    have H':=As_ H
    clear H
    go_wp2
    go_meet
    case rel=>exact ⟨_,(t651++a1),(by first|rfl|(simp;done)|(simp [*];done)),H',⟨by have:=HJ20.out;first|omega|exact Nat.le_refl _⟩,⟨Kz_ HB GW627⟩⟩
 case rest =>
  clear HC11
  try clear c1
  try clear c2
  try clear p2
  try clear c3
  try clear c5
  try clear c7
  try clear c11
  try clear c20
  try clear c20b0
  try clear c20b1
  try clear c22
  try clear c22b0
  try clear c22b1
  try clear c23
  try clear c26
  try clear c26b0
  try clear c26b1
  try clear c27
  try clear c27b0
  try clear c27b1
  try clear c27b2
  try clear hcz14_0
  try clear hcz14_1
  try clear hcz14_10
  try clear hcz14_11
  try clear hcz14_2
  try clear hcz14_3
  try clear hcz14_4
  try clear hcz14_5
  try clear hcz14_6
  try clear hcz14_7
  try clear hcz14_8
  try clear hcz14_9
  try clear hfz14_0
  try clear hfz14_1
  try clear hfz14_10
  try clear hfz14_11
  try clear hfz14_2
  try clear hfz14_3
  try clear hfz14_4
  try clear hfz14_5
  try clear hfz14_6
  try clear hfz14_7
  try clear hfz14_8
  try clear hfz14_9
  try clear p2
  obtain ⟨kq,x1_10,rfl,HA,HJ10,HB⟩:=hcut
  cases kq with
  | zero=>exact absurd HA.out (by simp [L15_StreamGets.j1])
  | succ kj10 =>
   have H:=HA.out
   clear HA
   simp only [L15_StreamGets.j1] at H
   have HC28:=As_ H
   clear H
   go_upto_if 47 with (fail)
   go_cut [1] (fun v1 wc=>∃ (kq:Nat) (x1_27:ByteArray),v1 = .string x1_27∧Aside0 (L15_StreamGets.j2 kq x1_27 true=some r)∧Aside0 (kq≤kj10)∧Aside0 (Below w.heap.size w wc))
   case first =>
    have H:=HC28.out
    clear HC28
    by_cases c29:a2 > 240
    rotate_left
    ·rw [if_neg c29] at H
     have c29b0:decide (240<a2)=false:=decide_eq_false c29
     clear c29
     (first|rw [c29b0]|(simp only [i64_w,i32_w];rw [c29b0])|skip)
     have H':=As_ H
     clear H
     go_wp2
     go_meet
     case rel=>exact ⟨_,(x1_10),(by first|rfl|(simp;done)|(simp [*];done)),H',⟨by have:=HJ10.out;first|omega|exact Nat.le_refl _⟩,⟨Ky_ HB⟩⟩
    rw [if_pos c29] at H
    have c29b0:decide (240<a2)=true:=decide_eq_true c29
    clear c29
    (first|rw [c29b0]|(simp only [i64_w,i32_w];rw [c29b0])|skip)
    by_cases c30:x1_10.size+1≤9223372036854775807
    rotate_left
    ·rw [if_neg c30] at H
     exact absurd H (by simp)
    rw [if_pos c30] at H
    have c30b0:=eq_true c30
    have c30b1:decide (x1_10.size+1≤9223372036854775807)=true:=decide_eq_true c30
    try have c30b2:(9223372036854775807<x1_10.size+1)=False:=eq_false (Nat.not_lt.2 c30)
    have H':=As_ H
    clear H
    go_wp2
    go_meet
    case rel=>exact ⟨_,(x1_10++(⟨#[120]⟩:ByteArray)),(by first|rfl|(simp;done)|(simp [*];done)),H',⟨by have:=HJ10.out;first|omega|exact Nat.le_refl _⟩,⟨Ky_ HB⟩⟩
   case rest =>
    clear HC28
    try clear c1
    try clear c2
    try clear p2
    try clear c3
    try clear c5
    try clear c7
    try clear c11
    try clear c20
    try clear c20b0
    try clear c20b1
    try clear c22
    try clear c22b0
    try clear c22b1
    try clear c23
    try clear c26
    try clear c26b0
    try clear c26b1
    try clear c27
    try clear c27b0
    try clear c27b1
    try clear c27b2
    try clear c28
    try clear c29
    try clear c29b0
    try clear c30
    try clear c30b0
    try clear c30b1
    try clear c30b2
    try clear hcz14_0
    try clear hcz14_1
    try clear hcz14_10
    try clear hcz14_11
    try clear hcz14_2
    try clear hcz14_3
    try clear hcz14_4
    try clear hcz14_5
    try clear hcz14_6
    try clear hcz14_7
    try clear hcz14_8
    try clear hcz14_9
    try clear hfz14_0
    try clear hfz14_1
    try clear hfz14_10
    try clear hfz14_11
    try clear hfz14_2
    try clear hfz14_3
    try clear hfz14_4
    try clear hfz14_5
    try clear hfz14_6
    try clear hfz14_7
    try clear hfz14_8
    try clear hfz14_9
    try clear p2
    obtain ⟨kq,x1_27,rfl,HA,HJ27,HB⟩:=hcut
    cases kq with
    | zero=>exact absurd HA.out (by simp [L15_StreamGets.j2])
    | succ kj27 =>
     have H:=HA.out
     clear HA
     simp only [L15_StreamGets.j2] at H
     obtain ⟨⟨t654,t655,t656,t657,t658,t659,t660,t661,t662,t665⟩,A31,H⟩:=Kbind_ H
     (try dsimp only at H)
     obtain ⟨⟨t667,t668,t669,t670,t671,t672,t673,t674,t675,t678⟩,A32,H⟩:=Kbind_ H
     (try dsimp only at H)
     replace H:((L15_refMsg.f kj27 t654 t655 t656 t657 t658 t659 t660 t661 t662).bind fun bt680=>((L15_alike.f kj27 bt680.1 bt680.2.1 bt680.2.2.1 bt680.2.2.2.1 bt680.2.2.2.2.1 bt680.2.2.2.2.2.1 bt680.2.2.2.2.2.2.1 bt680.2.2.2.2.2.2.2.1 bt680.2.2.2.2.2.2.2.2 t667 t668 t669 t670 t671 t672 t673 t674 t675).bind fun t691=>(if t691=true then (if t665=t678 then (some true) else (none)) else (none))))=some r:=by first|(rw [if_pos rfl] at H;exact H)|(rw [if_pos trivial] at H;exact H)
     obtain ⟨⟨t680,t681,t682,t683,t684,t685,t686,t687,t688⟩,A33,H⟩:=Kbind_ H
     (try dsimp only at H)
     obtain ⟨t691,A34,H⟩:=Kbind_ H
     (try dsimp only at H)
     by_cases c35:t691=true
     rotate_left
     ·replace c35:=Bool.eq_false_iff.mpr c35
      subst c35
      rw [if_neg Bool.false_ne_true] at H
      exact absurd H (by simp)
     subst c35
     rw [if_pos rfl] at H
     by_cases c36:t665=t678
     rotate_left
     ·rw [if_neg c36] at H
      exact absurd H (by simp)
     rw [if_pos c36] at H
     have c36b0:(t665 == t678)=true:=beq_iff_eq.mpr c36
     have c36b1:(t665 != t678)=false:=bne_eq_false_iff_eq.mpr c36
     clear c36
     obtain rfl:=Option.some.inj H
     try go_wp2_with (first|((with_reducible refine gate_callee (f:=36) rfl ?_);refine Kg_ (some 52) rfl rfl Try.func36 (by kernel_rfl) rfl #[.string x1_27] rfl ?_;(with_reducible refine (stream_Get.calls kj27 x1_27 t654 t655 t656 t657 t658 t659 t660 t661 t662 t665 _ A31.out).mono ?_);rintro e w37 ⟨v663,rfl,ho0,hb⟩;refine ⟨_,rfl,?_⟩;have HO664:=As_ (Kd.R_lower ho0 (below_size (Ky_ HB)));replace HB:=Ks_ HB hb;(try clear hb);(try clear hk);(try clear ho0))|((with_reducible refine gate_dst (N:=14) rfl ?_);refine Ka_ 14 #[.int .i64 0,.int .i64 0,.int .u64 0,.int .u64 0,.int .u64 0,.int .u64 0,.int .u64 0,.int .i64 0,.slice none 0 0] 69 ?_;intro gb666 hg w38 hbox hb;have BK666:=As_ (hbox);have GW666:=Kw_ HB hg;replace HO664:=As_ (Kd.R_below (Ku_ HO664) hb);replace HB:=Ks_ HB hb;clear hb hbox hg;obtain ⟨_,_,_,_,_,_,_,_,_,_,_,_,_,_,_,_,_,_⟩:=Ke9_ BK666.out;obtain ⟨Ao40,co40,eo40⟩:=Kd.R_slice HO664.out;subst eo40)|((with_reducible refine gate_callee (f:=37) rfl ?_);refine Kg_ (some 57) rfl rfl Try.func37 (by kernel_rfl) rfl #[.string x1_27] rfl ?_;(with_reducible refine (R15_Get.calls kj27 x1_27 t667 t668 t669 t670 t671 t672 t673 t674 t675 t678 _ A32.out).mono ?_);rintro e w41 ⟨v676,rfl,ho0,hb⟩;refine ⟨_,rfl,?_⟩;have HO677:=As_ (Kd.R_lower ho0 (below_size (Kz_ HB GW666)));replace HO664:=As_ (Kd.R_below (by (with_reducible repeat (first|apply Kd.R_alloc|apply Kd.R_drewN|apply Kd.R_drew));exact (KRf9_ HO664 BK666)) hb);replace BK666:=As_ (blk_below (Kput9_ (Kq_ BK666)) hb);replace HB:=Kt_ HB GW666 hb;(try clear hb);(try clear hk);(try clear ho0))|((with_reducible refine gate_dst (N:=16) rfl ?_);refine Ka_ 16 #[.int .i64 0,.int .i64 0,.int .u64 0,.int .u64 0,.int .u64 0,.int .u64 0,.int .u64 0,.int .i64 0,.slice none 0 0] 75 ?_;intro gb679 hg w42 hbox hb;have BK679:=As_ (hbox);have GW679:=Kw_ HB hg;have NB666_679:=Kl_ BK666 hg;have NB679_666:=Kr_ BK666 hg;replace HO664:=As_ (Kd.R_below (Ku_ HO664) hb);replace HO677:=As_ (Kd.R_below (Ku_ HO677) hb);replace BK666:=Kb_ BK666 hb;replace HB:=Ks_ HB hb;clear hb hbox hg;have hnb43:=NB679_666.out;have hnc43:=NB666_679.out;obtain ⟨_,_,_,_,_,_,_,_,_,_,_,_,_,_,_,_,_,_⟩:=Ke9_ BK679.out;obtain ⟨Ao45,co45,eo45⟩:=Kd.R_slice HO677.out;subst eo45))
     have n0_:Aside0 (Kd.R k107 107 (((((((((w42.setCell ⟨gb679,0,none⟩ (.int .i64 t667)).setCell ⟨gb679,1,none⟩ (.int .i64 t668)).setCell ⟨gb679,2,none⟩ (.int .u64 t669)).setCell ⟨gb679,3,none⟩ (.int .u64 t670)).setCell ⟨gb679,4,none⟩ (.int .u64 t671)).setCell ⟨gb679,5,none⟩ (.int .u64 t672)).setCell ⟨gb679,6,none⟩ (.int .u64 t673)).setCell ⟨gb679,7,none⟩ (.int .i64 t674)).setCell ⟨gb679,8,none⟩ (.slice Ao45 t675.length co45)) w.heap.size (fun _=>True) (.slice Ao40 t662.length co40) t662):=⟨by (with_reducible repeat (first|apply Kd.R_alloc|apply Kd.R_drewN|apply Kd.R_drew));exact Kd.R_mono (Kd.R_far (p:=⟨gb679,8,none⟩) (Kd.R_far (p:=⟨gb679,7,none⟩) (Kd.R_far (p:=⟨gb679,6,none⟩) (Kd.R_far (p:=⟨gb679,5,none⟩) (Kd.R_far (p:=⟨gb679,4,none⟩) (Kd.R_far (p:=⟨gb679,3,none⟩) (Kd.R_far (p:=⟨gb679,2,none⟩) (Kd.R_far (p:=⟨gb679,1,none⟩) (Kd.R_far (p:=⟨gb679,0,none⟩) (Kd.R_types HO664.out BK679.out (by decide)) (fun _ hk=>hk.2) (.int .i64 t667)) (fun _ hk=>hk.2) (.int .i64 t668)) (fun _ hk=>hk.2) (.int .u64 t669)) (fun _ hk=>hk.2) (.int .u64 t670)) (fun _ hk=>hk.2) (.int .u64 t671)) (fun _ hk=>hk.2) (.int .u64 t672)) (fun _ hk=>hk.2) (.int .u64 t673)) (fun _ hk=>hk.2) (.int .i64 t674)) (fun _ hk=>hk.2) (.slice Ao45 t675.length co45)) (fun _ hk=>trivial)⟩
     have n1_:Aside0 (Kd.R k117 117 (((((((((w42.setCell ⟨gb679,0,none⟩ (.int .i64 t667)).setCell ⟨gb679,1,none⟩ (.int .i64 t668)).setCell ⟨gb679,2,none⟩ (.int .u64 t669)).setCell ⟨gb679,3,none⟩ (.int .u64 t670)).setCell ⟨gb679,4,none⟩ (.int .u64 t671)).setCell ⟨gb679,5,none⟩ (.int .u64 t672)).setCell ⟨gb679,6,none⟩ (.int .u64 t673)).setCell ⟨gb679,7,none⟩ (.int .i64 t674)).setCell ⟨gb679,8,none⟩ (.slice Ao45 t675.length co45)) w.heap.size (fun _=>True) (.slice Ao45 t675.length co45) t675):=⟨by (with_reducible repeat (first|apply Kd.R_alloc|apply Kd.R_drewN|apply Kd.R_drew));exact Kd.R_mono (Kd.R_far (p:=⟨gb679,8,none⟩) (Kd.R_far (p:=⟨gb679,7,none⟩) (Kd.R_far (p:=⟨gb679,6,none⟩) (Kd.R_far (p:=⟨gb679,5,none⟩) (Kd.R_far (p:=⟨gb679,4,none⟩) (Kd.R_far (p:=⟨gb679,3,none⟩) (Kd.R_far (p:=⟨gb679,2,none⟩) (Kd.R_far (p:=⟨gb679,1,none⟩) (Kd.R_far (p:=⟨gb679,0,none⟩) (Kd.R_types HO677.out BK679.out (by decide)) (fun _ hk=>hk.2) (.int .i64 t667)) (fun _ hk=>hk.2) (.int .i64 t668)) (fun _ hk=>hk.2) (.int .u64 t669)) (fun _ hk=>hk.2) (.int .u64 t670)) (fun _ hk=>hk.2) (.int .u64 t671)) (fun _ hk=>hk.2) (.int .u64 t672)) (fun _ hk=>hk.2) (.int .u64 t673)) (fun _ hk=>hk.2) (.int .i64 t674)) (fun _ hk=>hk.2) (.slice Ao45 t675.length co45)) (fun _ hk=>trivial)⟩
     have n2_:Aside0 ((((((((((w42.setCell ⟨gb679,0,none⟩ (.int .i64 t667)).setCell ⟨gb679,1,none⟩ (.int .i64 t668)).setCell ⟨gb679,2,none⟩ (.int .u64 t669)).setCell ⟨gb679,3,none⟩ (.int .u64 t670)).setCell ⟨gb679,4,none⟩ (.int .u64 t671)).setCell ⟨gb679,5,none⟩ (.int .u64 t672)).setCell ⟨gb679,6,none⟩ (.int .u64 t673)).setCell ⟨gb679,7,none⟩ (.int .i64 t674)).setCell ⟨gb679,8,none⟩ (.slice Ao45 t675.length co45)).heap[gb666]?=some (.cells #[.int .i64 t654,.int .i64 t655,.int .u64 t656,.int .u64 t657,.int .u64 t658,.int .u64 t659,.int .u64 t660,.int .i64 t661,.slice Ao40 t662.length co40] 69 (0,0))):=⟨by exact K1b_ BK666 NB666_679⟩
     have n3_:Aside0 ((((((((((w42.setCell ⟨gb679,0,none⟩ (.int .i64 t667)).setCell ⟨gb679,1,none⟩ (.int .i64 t668)).setCell ⟨gb679,2,none⟩ (.int .u64 t669)).setCell ⟨gb679,3,none⟩ (.int .u64 t670)).setCell ⟨gb679,4,none⟩ (.int .u64 t671)).setCell ⟨gb679,5,none⟩ (.int .u64 t672)).setCell ⟨gb679,6,none⟩ (.int .u64 t673)).setCell ⟨gb679,7,none⟩ (.int .i64 t674)).setCell ⟨gb679,8,none⟩ (.slice Ao45 t675.length co45)).heap[gb679]?=some (.cells #[.int .i64 t667,.int .i64 t668,.int .u64 t669,.int .u64 t670,.int .u64 t671,.int .u64 t672,.int .u64 t673,.int .i64 t674,.slice Ao45 t675.length co45] 75 (0,0))):=⟨by refine Kv_ ?_;exact Kput9_ (Kq_ BK679)⟩
     have n4_:Aside0 (Below w.heap.size w (((((((((w42.setCell ⟨gb679,0,none⟩ (.int .i64 t667)).setCell ⟨gb679,1,none⟩ (.int .i64 t668)).setCell ⟨gb679,2,none⟩ (.int .u64 t669)).setCell ⟨gb679,3,none⟩ (.int .u64 t670)).setCell ⟨gb679,4,none⟩ (.int .u64 t671)).setCell ⟨gb679,5,none⟩ (.int .u64 t672)).setCell ⟨gb679,6,none⟩ (.int .u64 t673)).setCell ⟨gb679,7,none⟩ (.int .i64 t674)).setCell ⟨gb679,8,none⟩ (.slice Ao45 t675.length co45))):=⟨K2a_ HB GW666 GW679⟩
     (try clear HO664)
     (try clear HO677)
     (try clear BK666)
     (try clear BK679)
     (try clear HB)
     generalize (((((((((w42.setCell ⟨gb679,0,none⟩ (.int .i64 t667)).setCell ⟨gb679,1,none⟩ (.int .i64 t668)).setCell ⟨gb679,2,none⟩ (.int .u64 t669)).setCell ⟨gb679,3,none⟩ (.int .u64 t670)).setCell ⟨gb679,4,none⟩ (.int .u64 t671)).setCell ⟨gb679,5,none⟩ (.int .u64 t672)).setCell ⟨gb679,6,none⟩ (.int .u64 t673)).setCell ⟨gb679,7,none⟩ (.int .i64 t674)).setCell ⟨gb679,8,none⟩ (.slice Ao45 t675.length co45))=w46 at n0_ n1_ n2_ n3_ n4_ ⊢
     have HO664:=n0_
     have HO677:=n1_
     have BK666:=n2_
     have BK679:=n3_
     have HB:=n4_
     clear n0_ n1_ n2_ n3_ n4_
     replace HO664:=As_ (Kd.R_drew HO664.out)
     replace HO677:=As_ (Kd.R_drew HO677.out)
     replace BK666:=Kd_ BK666
     replace BK679:=Kd_ BK679
     replace HB:=As_ (below_drew1 HB.out)
     refine start_ (n:=13) (S:=fun w'=>w'.cell? ⟨gb666,0,none⟩=some (.int .i64 t654)∧w'.cell? ⟨gb666,1,none⟩=some (.int .i64 t655)∧w'.cell? ⟨gb666,2,none⟩=some (.int .u64 t656)∧w'.cell? ⟨gb666,3,none⟩=some (.int .u64 t657)∧w'.cell? ⟨gb666,4,none⟩=some (.int .u64 t658)∧w'.cell? ⟨gb666,5,none⟩=some (.int .u64 t659)∧w'.cell? ⟨gb666,6,none⟩=some (.int .u64 t660)∧w'.cell? ⟨gb666,7,none⟩=some (.int .i64 t661)∧w'.cell? ⟨gb666,8,none⟩=some (.slice Ao40 t662.length co40)∧w'.cell? ⟨gb679,0,none⟩=some (.int .i64 t667)∧w'.cell? ⟨gb679,1,none⟩=some (.int .i64 t668)∧w'.cell? ⟨gb679,2,none⟩=some (.int .u64 t669)∧w'.cell? ⟨gb679,3,none⟩=some (.int .u64 t670)∧w'.cell? ⟨gb679,4,none⟩=some (.int .u64 t671)∧w'.cell? ⟨gb679,5,none⟩=some (.int .u64 t672)∧w'.cell? ⟨gb679,6,none⟩=some (.int .u64 t673)∧w'.cell? ⟨gb679,7,none⟩=some (.int .i64 t674)∧w'.cell? ⟨gb679,8,none⟩=some (.slice Ao45 t675.length co45)) (ds:=[]) (mB_ 13 0) (by kernel_rfl) rfl rfl ⟨Km_ BK666 0,Km_ BK666 1,Km_ BK666 2,Km_ BK666 3,Km_ BK666 4,Km_ BK666 5,Km_ BK666 6,Km_ BK666 7,Km_ BK666 8,Km_ BK679 0,Km_ BK679 1,Km_ BK679 2,Km_ BK679 3,Km_ BK679 4,Km_ BK679 5,Km_ BK679 6,Km_ BK679 7,Km_ BK679 8⟩ (fun hHeld=>?_);refine with_tabW L15_StreamGets.tab18 L15_StreamGets.bits18 (fun HT_ HW_=>?_)
     generalize w46.drew=w47 at HO664 HO677 BK666 BK679 HB hHeld ⊢
     refine Kp_ 0 60 (mB_ 13 1) (any_of HT_.out (by kernel_rfl)) ?_
     refine Kp_ 1 61 (mB_ 13 3) (any_of HT_.out (by kernel_rfl)) ?_
     refine Ko_ 2 62 (mB_ 13 7) (take_ofW HT_.out HW_.out (by kernel_rfl)) hHeld ?_
     refine Ko_ 4 64 (mB_ 13 23) (take_ofW HT_.out HW_.out (by kernel_rfl)) hHeld ?_
     refine one_ (i:=3) (N:=some 63) (mB_ 13 31) rfl rfl (one_of HT_.out (by kernel_rfl)) (by decide) (fun K hK=>?_)
     refine goes_ Try.func29 (by kernel_rfl) rfl #[.agg #[.int .i64 t654,.int .i64 t655,.int .u64 t656,.int .u64 t657,.int .u64 t658,.int .u64 t659,.int .u64 t660,.int .i64 t661,.slice Ao40 t662.length co40]] (by rfl) rfl rfl (by (try simp only [List.map_toArray,List.map_cons,List.map_nil]);first|done|rfl|(simp only [List.length_drop,List.length_take];rfl)) ?_
     with_reducible refine (L15_refMsg.calls kj27 t654 t655 t656 t657 t658 t659 t660 t661 _ _ t662 t680 t681 t682 t683 t684 t685 t686 t687 t688 _ ?side1 ?side2 A33.out).mono ?_
     (case side1=>repeat (first|exact (Kd.R_reads' HO664.out).2.2|(with_reducible refine Kd.C_alloc ?_ _)|(with_reducible refine Kd.C_drewN ?_ _)|(with_reducible refine Kd.C_drew ?_)))
     (case side2=>exact (Kd.R_reads' HO664.out).2.1)
     rintro e w48 ⟨v689,rfl,ho0,hb⟩
     refine ⟨_,rfl,?_⟩
     have HO690:=As_ (Kd.R_lower (Kd.R_new' ho0 (Kd.R_lt (Ku_ HO677))) (below_size (K2a_ HB GW666 GW679)))
     replace HO677:=As_ (Kd.R_elder' (Ku_ HO677) (Kd.R_base ho0) hb)
     replace BK666:=Kb_ BK666 hb
     replace BK679:=Kb_ BK679 hb
     replace HB:=Ks_ HB hb
     (try clear hb)
     (try clear hb2)
     (try clear hk)
     (try clear hi)
     (try clear ho0)
     obtain ⟨Ao49,co49,eo49⟩:=Kd.R_slice HO690.out
     (first|subst eo49|(injection eo49 with f1_ f2_ f3_;have f4_:=f1_.symm;have f5_:=f3_.symm;clear f1_ f2_ f3_;subst f4_;subst f5_))
     refine hK.out _ _ ⟨Km_ BK666 0,Km_ BK666 1,Km_ BK666 2,Km_ BK666 3,Km_ BK666 4,Km_ BK666 5,Km_ BK666 6,Km_ BK666 7,Km_ BK666 8,Km_ BK679 0,Km_ BK679 1,Km_ BK679 2,Km_ BK679 3,Km_ BK679 4,Km_ BK679 5,Km_ BK679 6,Km_ BK679 7,Km_ BK679 8⟩ (fun hHeld=>?_)
     clear hK K
     refine Kn_ 63 ?_
     refine one_ (i:=5) (N:=some 65) (mB_ 13 63) rfl rfl (one_of HT_.out (by kernel_rfl)) (by decide) (fun K hK=>?_)
     refine goes_ Try.func38 (by kernel_rfl) rfl #[.agg #[.int .i64 t680,.int .i64 t681,.int .u64 t682,.int .u64 t683,.int .u64 t684,.int .u64 t685,.int .u64 t686,.int .i64 t687,.slice Ao49 t688.length co49],.agg #[.int .i64 t667,.int .i64 t668,.int .u64 t669,.int .u64 t670,.int .u64 t671,.int .u64 t672,.int .u64 t673,.int .i64 t674,.slice Ao45 t675.length co45]] (by rfl) rfl rfl (by (try simp only [List.map_toArray,List.map_cons,List.map_nil]);first|done|rfl|(simp only [List.length_drop,List.length_take];rfl)) ?_
     with_reducible refine (L15_alike.calls kj27 t680 t681 t682 t683 t684 t685 t686 t687 _ _ t688 t667 t668 t669 t670 t671 t672 t673 t674 _ _ t675 true _ ?side1 ?side2 ?side3 ?side4 A34.out).mono ?_
     (case side1=>repeat (first|exact (Kd.R_reads' HO690.out).2.2|(with_reducible refine Kd.C_alloc ?_ _)|(with_reducible refine Kd.C_drewN ?_ _)|(with_reducible refine Kd.C_drew ?_)))
     (case side2=>exact (Kd.R_reads' HO690.out).2.1)
     (case side3=>repeat (first|exact (Kd.R_reads' HO677.out).2.2|(with_reducible refine Kd.C_alloc ?_ _)|(with_reducible refine Kd.C_drewN ?_ _)|(with_reducible refine Kd.C_drew ?_)))
     (case side4=>exact (Kd.R_reads' HO677.out).2.1)
     rintro e w50 ⟨rfl,hb⟩
     refine ⟨_,rfl,?_⟩
     replace BK666:=Kb_ BK666 hb
     replace BK679:=Kb_ BK679 hb
     replace HB:=Ks_ HB hb
     (try clear hb)
     (try clear hb2)
     (try clear hk)
     (try clear hi)
     refine hK.out _ _ ⟨Km_ BK666 0,Km_ BK666 1,Km_ BK666 2,Km_ BK666 3,Km_ BK666 4,Km_ BK666 5,Km_ BK666 6,Km_ BK666 7,Km_ BK666 8,Km_ BK679 0,Km_ BK679 1,Km_ BK679 2,Km_ BK679 3,Km_ BK679 4,Km_ BK679 5,Km_ BK679 6,Km_ BK679 7,Km_ BK679 8⟩ (fun hHeld=>?_)
     clear hK K
     refine Kn_ 65 ?_
     refine Kp_ 6 66 (mB_ 13 127) (any_of HT_.out (by kernel_rfl)) ?_
     refine Kp_ 7 67 (mB_ 13 255) (any_of HT_.out (by kernel_rfl)) ?_
     refine Kp_ 8 68 (mB_ 13 511) (any_of HT_.out (by kernel_rfl)) ?_
     refine Kp_ 9 69 (mB_ 13 1023) (any_of HT_.out (by kernel_rfl)) ?_
     refine Kp_ 10 70 (mB_ 13 2047) (any_of HT_.out (by kernel_rfl)) ?_
     refine Kp_ 11 71 (mB_ 13 4095) (any_of HT_.out (by kernel_rfl)) ?_
     refine Kp_ 12 10 (mB_ 13 8191) (any_of HT_.out (by kernel_rfl)) ?_
     refine done_ (done_of HT_.out (by kernel_rfl)) ?_
     try go_wp2
     go_ret
     exact ⟨Kh_,K2a_ HB GW666 GW679⟩
end Go.Proofs.Ytoagfdpgnfinhaa.Q

set_option linter.unusedVariables false
namespace Go.Proofs.Ytoagfdpgnfinhaa.Q
open Go.RowKit Go.Proofs.Ytoagfdpgnfinhaa.Q Go.Proofs.YtoagfdpgnfinhaaW.PrintWords Go.Proofs.YtoagfdpgnfinhaaW.PrintLast Go.Proofs.YtoagfdpgnfinhaaW.PrintMore
def L15_StreamGets.Pure:Prop:=∀ (x0:S65) (x1:ByteArray) (x2:Int) (x3:Int) (x4:Int),(wf65 x0)→(x1.size≤140737488351232)→((Lit.int .u8 x2).wf=true)→((Lit.int .i64 x3).wf=true)→((Lit.int .u8 x4).wf=true)→∃ k,L15_StreamGets.f k (x0.f0) (x0.f1) (x0.f2) (x0.f3.f0.f0.f0.f0) (x0.f3.f0.f0.f0.f1) (x0.f3.f0.f0.f0.f2) (x0.f3.f0.f0.f0.f3) (x0.f3.f0.f0.f1) (x0.f3.f0.f1) (x0.f3.f1) (x0.f3.f2) (x0.f4) x1 x2 x3 x4=some true
end Go.Proofs.Ytoagfdpgnfinhaa.Q

set_option linter.unusedVariables false
set_option linter.unusedSimpArgs false
namespace Go.Proofs.Ytoagfdpgnfinhaa.Pure
open Go.RowKit Go.Proofs.Ytoagfdpgnfinhaa.Q Go.Proofs.YtoagfdpgnfinhaaW.PrintWords Go.Proofs.YtoagfdpgnfinhaaW.PrintLast Go.Proofs.YtoagfdpgnfinhaaW.PrintMore Go.Proofs.Ytoagfdpgnfinhaa.Plain Go.Proofs.Ytoagfdpgnfinhaa.CrcN
theorem iread_both {t:ByteArray} (hz:t.size≤9223372036854775807) {K:Nat} (hK:700≤K) :
  ∃ (a b c g e:Nat) (xs:List Wr) (o:Bool),item_Read.f K t=some ((a:Int),(b:Int),(c:Int),(g:Int),(e:Int),xs,o)∧R08_Read.f K t=some ((a:Int),(b:Int),(c:Int),(g:Int),(e:Int),xs.map rw_,o)∧(∀ x ∈ xs,fits x)∧xs.length≤8:=by
 by_cases h:∃ (a b c g e:Nat) (xs:List Wr),wh a b c g e xs=true∧bl t=TL a b c g e xs
 ·obtain ⟨a,b,c,g,e,xs,w,hs⟩:=h
  obtain ⟨_,h0,h8,_,hok⟩:=wh_true w
  have hf:∀ x ∈ xs,fits x:=fun x hx=>fits_ok (hok x hx)
  exact ⟨a,b,c,g,e,xs,true,iread_txn w hf hs hz (by omega),rread_txn w hs hz (by omega),hf,h8⟩
 ·obtain ⟨r1,e1,k1,h1⟩:=iread_any hz (k:=K) (by omega)
  obtain ⟨r2,e2,h2⟩:=rread_any hz (k:=K) (by omega)
  have q1:r1=(0,0,0,0,0,[],false):=by
   cases ho:r1.2.2.2.2.2.2 with
   | false=>exact k1 ho
   | true =>
    obtain ⟨a,b,c,g,e,xs,w,hs,_⟩:=h1 ho
    exact absurd ⟨a,b,c,g,e,xs,w,hs⟩ h
  have q2:r2=(0,0,0,0,0,[],false):=h2.elim id (fun h2=>absurd h2 h)
  subst q1 q2
  exact ⟨0,0,0,0,0,[],false,e1,e2,by simp,by simp⟩
theorem get_same {s:ByteArray} (hz:s.size≤9223372036854775807) {K:Nat} (hK:200000≤K) :
  ∃ (kind frm:Int) (n a b c g:Nat) (e:Int) (xs:List Wr) (err:Int),stream_Get.f K s=some (kind,frm,(n:Int),(a:Int),(b:Int),(c:Int),(g:Int),e,xs,err)∧R15_Get.f K s=some (kind,frm,(n:Int),(a:Int),(b:Int),(c:Int),(g:Int),e,xs.map rw_,err)∧xs.length≤8:=by
 obtain ⟨n1,u1,c1,e1,z1,l1,_⟩:=num_step (s:=s) (b:=false) hz
 have f1:=rnum_of hz (k:=K) (by omega) e1
 obtain ⟨n2,u2,c2,e2,z2,l2,_⟩:=num_step (s:=u1) (b:=c1) (by omega)
 have f2:=rnum_of (by omega) (k:=K) (by omega) e2
 obtain ⟨r,e3,f3,z3,h3,h4⟩:=vary_same (s:=u2) (b:=c2) (by omega) (k:=K) (by omega)
 obtain ⟨n3,en⟩:∃ n3:Nat,r.1=(n3:Int):=by
  cases c2 with
  | true=>rw [h3 rfl];exact ⟨0,rfl⟩
  | false=>cases h4 rfl with
   | good n rest _ _=>exact ⟨n,rfl⟩
   | bad _=>exact ⟨0,rfl⟩
 clear h3 h4
 obtain ⟨n',u3,c3⟩:=r
 obtain rfl:n'=(n3:Int):=en
 have z3:u3.size≤u2.size:=z3
 have w1:wrap64 (n1:Int)=(n1:Int):=wrap64_id (by omega) (by omega)
 have w2:wrap64 (n2:Int)=(n2:Int):=wrap64_id (by omega) (by omega)
 by_cases k1:(n1:Int)=1
 ·obtain ⟨t,u4,c4,e4,z4,t4,_⟩:=text_step (s:=u3) (b:=c3) (by omega) 2048 (by omega) (k:=K) (by omega)
  have f4:=rtext_of (by omega) (by decide) (k:=K) (by omega) e4
  obtain ⟨a,b,c,g,e,xs,o,e5,f5,hf,h8⟩:=iread_both (t:=t) (by omega) (K:=K) (by omega)
  obtain ⟨p,ok,e6,f6⟩:=mput_same (kind:=n1) (frm:=n2) (n:=n3) (a:=a) (b:=b) (c:=c) (d:=g) (e:=e) hf (by omega) hK
  have E:stream_Get.f K s=(if ok=true then (if p.toList=s.toList then some ((n1:Int),(n2:Int),(n3:Int),(a:Int),(b:Int),(c:Int),(g:Int),(e:Int),xs,0) else some (0,0,0,0,0,0,0,0,[],2)) else some (0,0,0,0,0,0,0,0,[],2)):=by
   unfold stream_Get.f
   rw [e1,Option.bind_some];dsimp only
   rw [e2,Option.bind_some];dsimp only
   rw [e3,Option.bind_some];dsimp only
   rw [w1,if_pos k1,e4,Option.bind_some];dsimp only
   rw [e5,Option.bind_some];dsimp only
   rw [w2,e6,Option.bind_some]
  have F:R15_Get.f K s=(if ok=true then (if p.toList=s.toList then some ((n1:Int),(n2:Int),(n3:Int),(a:Int),(b:Int),(c:Int),(g:Int),(e:Int),xs.map rw_,0) else some (0,0,0,0,0,0,0,0,[],2)) else some (0,0,0,0,0,0,0,0,[],2)):=by
   unfold R15_Get.f
   rw [f1,Option.bind_some];dsimp only
   rw [f2,Option.bind_some];dsimp only
   rw [f3,Option.bind_some];dsimp only
   rw [w1,if_pos k1,f4,Option.bind_some];dsimp only
   rw [f5,Option.bind_some];dsimp only
   rw [w2,f6,Option.bind_some]
  rw [E,F]
  by_cases c1:ok=true
  ·rw [if_pos c1,if_pos c1]
   by_cases c2:p.toList=s.toList
   ·rw [if_pos c2,if_pos c2]
    exact ⟨_,_,_,_,_,_,_,_,xs,_,rfl,rfl,h8⟩
   ·rw [if_neg c2,if_neg c2]
    exact ⟨0,0,0,0,0,0,0,0,[],2,rfl,rfl,by simp⟩
  ·rw [if_neg c1,if_neg c1]
   exact ⟨0,0,0,0,0,0,0,0,[],2,rfl,rfl,by simp⟩
 ·obtain ⟨p,ok,e6,f6⟩:=mput_same (kind:=n1) (frm:=n2) (n:=n3) (a:=0) (b:=0) (c:=0) (d:=0) (e:=0) (xs:=[]) (by simp) (by simp) hK
  have E:stream_Get.f K s=(if ok=true then (if p.toList=s.toList then some ((n1:Int),(n2:Int),(n3:Int),0,0,0,0,0,[],0) else some (0,0,0,0,0,0,0,0,[],2)) else some (0,0,0,0,0,0,0,0,[],2)):=by
   unfold stream_Get.f
   rw [e1,Option.bind_some];dsimp only
   rw [e2,Option.bind_some];dsimp only
   rw [e3,Option.bind_some];dsimp only
   rw [w1,if_neg k1,w2]
   refine (congrArg (fun o=>Option.bind o _) e6).trans ?_
   rw [Option.bind_some]
  have F:R15_Get.f K s=(if ok=true then (if p.toList=s.toList then some ((n1:Int),(n2:Int),(n3:Int),0,0,0,0,0,[],0) else some (0,0,0,0,0,0,0,0,[],2)) else some (0,0,0,0,0,0,0,0,[],2)):=by
   unfold R15_Get.f
   rw [f1,Option.bind_some];dsimp only
   rw [f2,Option.bind_some];dsimp only
   rw [f3,Option.bind_some];dsimp only
   rw [w1,if_neg k1,w2]
   refine (congrArg (fun o=>Option.bind o _) f6).trans ?_
   rw [Option.bind_some]
  rw [E,F]
  by_cases c1:ok=true
  ·rw [if_pos c1,if_pos c1]
   by_cases c2:p.toList=s.toList
   ·rw [if_pos c2,if_pos c2]
    exact ⟨_,_,_,0,0,0,0,0,[],0,rfl,rfl,by simp⟩
   ·rw [if_neg c2,if_neg c2]
    exact ⟨0,0,0,0,0,0,0,0,[],2,rfl,rfl,by simp⟩
  ·rw [if_neg c1,if_neg c1]
   exact ⟨0,0,0,0,0,0,0,0,[],2,rfl,rfl,by simp⟩
theorem weq_refl (x:Wr):weq x x=true:=by
 unfold weq
 simp
theorem eqb_refl:∀ xs:List Wr,eqb xs xs=true
 | []=>rfl
 | x :: xs=>by
  unfold eqb
  rw [weq_refl,eqb_refl xs]
  rfl
theorem sameT_refl (a b c d e:Int) (xs:List Wr):sameT a b c d e xs a b c d e xs=true:=by
 unfold sameT
 rw [eqb_refl]
 simp
theorem gets_j2 {s:ByteArray} (hz:s.size≤9223372036854775807) {K:Nat} (hK:200001≤K):L15_StreamGets.j2 K s true=some true:=by
 obtain ⟨K,rfl⟩:∃ q,K=q+1:=⟨K - 1,by omega⟩
 rw [L15_StreamGets.j2]
 obtain ⟨kind,frm,n,a,b,c,g,e,xs,err,e1,e2,h8⟩:=get_same hz (K:=K) (by omega)
 have e3:=refMsg_f kind frm n a b c g e xs (by omega) (k:=K) (by omega)
 have e4:=rsame_f (a:Int) b c g e xs a b c g e xs (by omega) (k:=K) (by omega)
 rw [sameT_refl] at e4
 have e5:L15_alike.f K kind frm n a b c g e (xs.map rw_) kind frm n a b c g e (xs.map rw_)=some true:=by
  unfold L15_alike.f
  rw [e4,Option.bind_some,if_pos rfl,if_pos rfl,if_pos rfl,beq_self_eq_true]
 rw [e1,Option.bind_some,e2,Option.bind_some,if_pos rfl]
 dsimp only
 rw [e3,Option.bind_some]
 dsimp only
 rw [e5,Option.bind_some,if_pos rfl,if_pos rfl]
theorem gets_j1 {s:ByteArray} (hz:s.size≤9223372036854775806) (m:Int) {K:Nat} (hK:200002≤K):L15_StreamGets.j1 K s m true=some true:=by
 obtain ⟨K,rfl⟩:∃ q,K=q+1:=⟨K - 1,by omega⟩
 rw [L15_StreamGets.j1]
 by_cases c:m > 240
 ·rw [if_pos c,if_pos (by omega)]
  refine gets_j2 ?_ (by omega)
  have:(⟨#[120]⟩:ByteArray).size=1:=rfl
  rw [ByteArray.size_append]
  omega
 ·rw [if_neg c]
  exact gets_j2 (by omega) (by omega)
theorem gets_j0 {s x:ByteArray} (hz:s.size≤200000) (hx:x.size≤140737488351232) {p q:Int} (hp : -9223372036854775808≤p∧p≤9223372036854775807) (h m:Int) (o:Bool) {K:Nat} (hK:200003≤K):L15_StreamGets.j0 K x h p q true s m o=some true:=by
 obtain ⟨K,rfl⟩:∃ q,K=q+1:=⟨K - 1,by omega⟩
 rw [L15_StreamGets.j0]
 by_cases c:o=true
 ·obtain ⟨t,e1,z1⟩:=bend_small (s:=s) (p:=p) (b:=q) (by omega) hp
  rw [if_pos c,e1,Option.bind_some]
  exact gets_j1 (by omega) _ (by omega)
 ·rw [if_neg c]
  by_cases c3:m=3
  ·rw [if_pos c3,if_pos (by omega)]
   exact gets_j1 (by rw [ByteArray.size_append];omega) _ (by omega)
  ·rw [if_neg c3]
   exact gets_j1 (by omega) _ (by omega)
theorem StreamGets:L15_StreamGets.Pure:=by
 intro z s how at_ by_ hz hs hhow hat hby
 obtain ⟨kd,fr,n0,⟨⟨⟨⟨v0,v1,v2,v3⟩,d⟩,o⟩,l,q⟩,ow⟩:=z
 have hD:=hz.2.2.2.1
 have hw:=hD.1.1
 have hl:∀ p ∈ l,fits p.f0:=fun p hp=>⟨(hD.2.1.1 p hp).1.1,(hD.2.1.1 p hp).1.2.1,(hD.2.1.1 p hp).1.2.2.1⟩
 have hlen:l.length * 64≤140737488351232:=hD.2.1.2
 have hat:=i64_of hat
 obtain ⟨kind,frm,n,a,b,c,g,e,xs,eL,hM⟩:=letter_own kd fr n0 v0 v1 v2 v3 d hz.2.2.1 hw.1.1 hw.1.2.1 hw.1.2.2.1 o q l hl (by omega) (K:=(l.length+1) * 15+200003) (by omega)
 refine ⟨(l.length+1) * 15+200003,?_⟩
 show L15_StreamGets.f ((l.length+1) * 15+200003) kd fr n0 v0 v1 v2 v3 d o l q ow s how at_ by_=some true
 have hK:200003≤(l.length+1) * 15+200003:=by omega
 generalize (l.length+1) * 15+200003=K at eL hK ⊢
 clear hz hD hw hl hlen
 have hok:=mine_ok hM
 obtain ⟨f1,f4,hn,hf,h8,hcase⟩:=hM
 obtain ⟨p1,_,p3⟩:=mput_ok hf (by omega) hok (k:=K) (by omega)
 have p2:=rmput_ok hf (by omega) hok (k:=K) (by omega)
 have q3:=refMsg_f kind frm n a b c g e xs (by omega) (k:=K) (by omega)
 have hsz:(sealq (mq kind frm n a b c g e xs)).size≤200000:=by
  unfold sealq
  rw [ByteArray.size_append,nb_size]
  omega
 generalize sealq (mq kind frm n a b c g e xs)=t at p1 p2 hsz
 unfold L15_StreamGets.f
 rw [show L15_examples.f=some true from rfl,Option.bind_some,if_pos rfl,eL,Option.bind_some]
 dsimp only
 rw [q3,Option.bind_some]
 dsimp only
 rw [p2,Option.bind_some]
 dsimp only
 by_cases c0:Int.tmod how 4=0
 ·rw [if_pos c0]
  exact gets_j1 (by omega) _ (by omega)
 rw [if_neg c0]
 split
 ·exact gets_j0 hsz hs hat _ _ _ (by omega)
 ·exact gets_j0 hsz hs hat _ _ _ (by omega)
end Go.Proofs.Ytoagfdpgnfinhaa.Pure
