import Derived.Test.YtoagfdpgnfinhaaGStreamGets2
import Derived.Test.YtoagfdpgnfinhaaGStreamGets7
import Derived.Test.YtoagfdpgnfinhaaGStreamGets9
import Derived.Test.YtoagfdpgnfinhaaGStreamGets1
import Derived.Deep.Slices
import Derived.OpenShut
import Derived.SizedLaws
import Derived.ChangeArms
import Derived.WideShapes
import Derived.ChangeShapes
import Derived.KernelRfl
import Derived.Laws.BitsAllLaws
import Derived.Test.YtoagfdpgnfinhaaGStreamGets0
import Derived.Test.YtoagfdpgnfinhaaGStreamGets5
import Derived.Test.YtoagfdpgnfinhaaGStreamGets6
namespace Go.Proofs.Ytoagfdpgnfinhaa.Q
open Go.RowKit Go.Proofs.YtoagfdpgnfinhaaW.PrintWords Go.Proofs.YtoagfdpgnfinhaaW.PrintLast Go.Proofs.YtoagfdpgnfinhaaW.PrintMore
attribute [local go_sem] max2_int min2_int max_two min_two max_three min_three max_four min_four   -- for this text's walks alone
set_option linter.unusedVariables false
set_option linter.unusedSimpArgs false
def R07_Get.f (k:Nat) (a0_0:ByteArray) (a0_1:Bool):Option (Int × Int × Int × Int × Int × ByteArray × Bool):=(R02_Reader_Number.f k a0_0 a0_1 1).bind fun bt543=>((R06_Get.f k bt543.2.1 bt543.2.2).bind fun bt547=>(if bt547.2.2.2.2.2=true then (some (0,0,0,0,0,(⟨#[]⟩:ByteArray),true)) else ((R07_Right.f k bt547.1 bt547.2.1 bt547.2.2.1 bt547.2.2.2.1 (wrap64 (bt543.1))).bind fun t556=>(if t556=true then (some (bt547.1,bt547.2.1,bt547.2.2.1,bt547.2.2.2.1,wrap64 (bt543.1),bt547.2.2.2.2.1,bt547.2.2.2.2.2)) else (some (0,0,0,0,0,(⟨#[]⟩:ByteArray),true))))))
set_option maxHeartbeats 8000000 in
set_option maxRecDepth 100000 in
theorem R07_Get.calls (k:Nat) (a0_0:ByteArray) (a0_1:Bool) (r1:Int) (r2:Int) (r3:Int) (r4:Int) (r5:Int) (r6:ByteArray) (r7:Bool) (w:World) (h:R07_Get.f k a0_0 a0_1=some (r1,r2,r3,r4,r5,r6,r7)) :
  Calls Try.prog 101 #[.agg #[.string a0_0,.bool a0_1]] w fun e w'=>e = .returned (.tuple #[.agg #[.int .u64 r1,.int .u64 r2,.int .u64 r3,.int .u64 r4,.int .i64 r5],.agg #[.string r6,.bool r7]])∧Below w.heap.size w w':=by
 have hu142:=Try.underlying142
 have hu52:=Try.underlying52
 have hu50:=Try.underlying50
 have HB:=As_ (Below.refl w.heap.size w)
 unfold R07_Get.f at h
 have H:=h
 clear h
 obtain ⟨⟨t543,t544,t545⟩,A2,H⟩:=Kbind_ H
 (try dsimp only at H)
 obtain ⟨⟨t547,t548,t549,t550,t551,t552⟩,A3,H⟩:=Kbind_ H
 (try dsimp only at H)
 by_cases c4:t552=true
 ·subst c4
  rw [if_pos rfl] at H
  simp only [Option.some.injEq,Prod.mk.injEq] at H
  obtain ⟨rfl,rfl,rfl,rfl,rfl,rfl,rfl⟩:=H
  go_enter Try.func101,Try.ntmps101
  go_wp2_with (first|((with_reducible refine gate_dst (N:=1) rfl ?_);refine Ka_ 1 #[.string a0_0,.bool a0_1] 142 ?_;intro gb540 hg w5 hbox hb;have BK540:=As_ (hbox);have GW540:=Kw_ HB hg;replace HB:=Ks_ HB hb;clear hb hbox hg)|((with_reducible refine gate_dst (N:=2) rfl ?_);refine Ka_ 2 #[.int .u64 0,.int .u64 0,.int .u64 0,.int .u64 0,.int .i64 0] 52 ?_;intro gb541 hg w6 hbox hb;have BK541:=As_ (hbox);have GW541:=Kw_ HB hg;have NB540_541:=Kl_ BK540 hg;have NB541_540:=Kr_ BK540 hg;replace BK540:=Kb_ BK540 hb;replace HB:=Ks_ HB hb;clear hb hbox hg)|((with_reducible refine gate_dst (N:=3) rfl ?_);refine Ka_ 3 #[.string (⟨#[]⟩:ByteArray),.bool false] 142 ?_;intro gb542 hg w7 hbox hb;have BK542:=As_ (hbox);have GW542:=Kw_ HB hg;have NB540_542:=Kl_ BK540 hg;have NB542_540:=Kr_ BK540 hg;have NB541_542:=Kl_ BK541 hg;have NB542_541:=Kr_ BK541 hg;replace BK540:=Kb_ BK540 hb;replace BK541:=Kb_ BK541 hb;replace HB:=Ks_ HB hb;clear hb hbox hg;have hnb8:=NB540_541.out;have hnc8:=NB541_540.out;have hnb9:=NB540_542.out;have hnc9:=NB542_540.out;obtain ⟨_,_,_,_⟩:=Ke2_ BK540.out)|((with_reducible refine gate_callee (f:=79) rfl ?_);refine Kg_ (some 11) rfl rfl Try.func79 (by kernel_rfl) rfl #[.agg #[.string a0_0,.bool a0_1],.int .i64 1] rfl ?_;(with_reducible refine (R02_Reader_Number.calls k a0_0 a0_1 1 t543 t544 t545 _ A2.out).mono ?_);rintro e w11 ⟨rfl,hb⟩;refine ⟨_,rfl,?_⟩;replace BK540:=Kb_ BK540 hb;replace BK541:=Kb_ BK541 hb;replace BK542:=Kb_ BK542 hb;replace HB:=Ks_ HB hb;(try clear hb))|((with_reducible refine gate_dst (N:=5) rfl ?_);refine Ka_ 5 #[.string (⟨#[]⟩:ByteArray),.bool false] 142 ?_;intro gb546 hg w12 hbox hb;have BK546:=As_ (hbox);have GW546:=Kw_ HB hg;have NB540_546:=Kl_ BK540 hg;have NB546_540:=Kr_ BK540 hg;have NB541_546:=Kl_ BK541 hg;have NB546_541:=Kr_ BK541 hg;have NB542_546:=Kl_ BK542 hg;have NB546_542:=Kr_ BK542 hg;replace BK540:=Kb_ BK540 hb;replace BK541:=Kb_ BK541 hb;replace BK542:=Kb_ BK542 hb;replace HB:=Ks_ HB hb;clear hb hbox hg;have hnb13:=NB546_540.out;have hnc13:=NB540_546.out;have hnb14:=NB546_541.out;have hnc14:=NB541_546.out;have hnb15:=NB546_542.out;have hnc15:=NB542_546.out;obtain ⟨_,_,_,_⟩:=Ke2_ BK546.out)|((with_reducible refine gate_callee (f:=107) rfl ?_);refine Kg_ (some 16) rfl rfl Try.func107 (by kernel_rfl) rfl #[.agg #[.string t544,.bool t545]] rfl ?_;(with_reducible refine (R06_Get.calls k t544 t545 t547 t548 t549 t550 t551 true _ A3.out).mono ?_);rintro e w17 ⟨rfl,hb⟩;refine ⟨_,rfl,?_⟩;replace BK540:=Kf_ BK540 NB540_546 hb;replace BK541:=Kf_ BK541 NB541_546 hb;replace BK542:=Kf_ BK542 NB542_546 hb;replace BK546:=As_ (blk_below (Kput2_ (Kq_ BK546)) hb);replace HB:=Kt_ HB GW546 hb;(try clear hb))|((with_reducible refine gate_dst (N:=6) rfl ?_);refine Ka_ 6 #[.int .u64 0,.int .u64 0,.int .u64 0,.int .u64 0] 50 ?_;intro gb553 hg w18 hbox hb;have BK553:=As_ (hbox);have GW553:=Kw_ HB hg;have NB540_553:=Kl_ BK540 hg;have NB553_540:=Kr_ BK540 hg;have NB541_553:=Kl_ BK541 hg;have NB553_541:=Kr_ BK541 hg;have NB542_553:=Kl_ BK542 hg;have NB553_542:=Kr_ BK542 hg;have NB546_553:=Kl_ BK546 hg;have NB553_546:=Kr_ BK546 hg;replace BK540:=Kb_ BK540 hb;replace BK541:=Kb_ BK541 hb;replace BK542:=Kb_ BK542 hb;replace BK546:=Kb_ BK546 hb;replace HB:=Ks_ HB hb;clear hb hbox hg)|((with_reducible refine gate_dst (N:=7) rfl ?_);refine Ka_ 7 #[.string (⟨#[]⟩:ByteArray),.bool false] 142 ?_;intro gb554 hg w19 hbox hb;have BK554:=As_ (hbox);have GW554:=Kw_ HB hg;have NB540_554:=Kl_ BK540 hg;have NB554_540:=Kr_ BK540 hg;have NB541_554:=Kl_ BK541 hg;have NB554_541:=Kr_ BK541 hg;have NB542_554:=Kl_ BK542 hg;have NB554_542:=Kr_ BK542 hg;have NB546_554:=Kl_ BK546 hg;have NB554_546:=Kr_ BK546 hg;have NB553_554:=Kl_ BK553 hg;have NB554_553:=Kr_ BK553 hg;replace BK540:=Kb_ BK540 hb;replace BK541:=Kb_ BK541 hb;replace BK542:=Kb_ BK542 hb;replace BK546:=Kb_ BK546 hb;replace BK553:=Kb_ BK553 hb;replace HB:=Ks_ HB hb;clear hb hbox hg;have hnb20:=NB553_540.out;have hnc20:=NB540_553.out;have hnb21:=NB553_541.out;have hnc21:=NB541_553.out;have hnb22:=NB553_542.out;have hnc22:=NB542_553.out;have hnb23:=NB553_546.out;have hnc23:=NB546_553.out;have hnb24:=NB553_554.out;have hnc24:=NB554_553.out;obtain ⟨_,_,_,_,_,_,_,_⟩:=Ke4_ BK553.out;have hnb26:=NB554_540.out;have hnc26:=NB540_554.out;have hnb27:=NB554_541.out;have hnc27:=NB541_554.out;have hnb28:=NB554_542.out;have hnc28:=NB542_554.out;have hnb29:=NB554_546.out;have hnc29:=NB546_554.out;obtain ⟨_,_,_,_⟩:=Ke2_ BK554.out)|((with_reducible refine gate_dst (N:=8) rfl ?_);refine Ka_ 8 #[.int .u64 0,.int .u64 0,.int .u64 0,.int .u64 0,.int .i64 0] 52 ?_;intro gb555 hg w31 hbox hb;have BK555:=As_ (hbox);have GW555:=As_ ((by rw [hg];exact (below_size (by repeat (first|(with_reducible first|exact HB.out|apply below_alloc|apply pw_below_drewN|apply below_drew1|refine below_set ?_ GW540.out|refine below_set ?_ GW541.out|refine below_set ?_ GW542.out|refine below_set ?_ GW546.out|refine below_set ?_ GW553.out|refine below_set ?_ GW554.out)|exact HB.out))):w.heap.size≤gb555));have NB540_555:=As_ ((by rw [hg];exact Nat.ne_of_lt (blk_lt (g:=gb540) (o:=.cells #[.string a0_0,.bool a0_1] 142 (0,0)) (K2b_ BK540 NB540_554 NB540_553)):gb540 ≠ gb555));have NB555_540:=As_ ((by rw [hg];exact Nat.ne_of_gt (blk_lt (g:=gb540) (o:=.cells #[.string a0_0,.bool a0_1] 142 (0,0)) (K2b_ BK540 NB540_554 NB540_553)):gb555 ≠ gb540));have NB541_555:=As_ ((by rw [hg];exact Nat.ne_of_lt (blk_lt (g:=gb541) (o:=.cells #[.int .u64 0,.int .u64 0,.int .u64 0,.int .u64 0,.int .i64 0] 52 (0,0)) (K2b_ BK541 NB541_554 NB541_553)):gb541 ≠ gb555));have NB555_541:=As_ ((by rw [hg];exact Nat.ne_of_gt (blk_lt (g:=gb541) (o:=.cells #[.int .u64 0,.int .u64 0,.int .u64 0,.int .u64 0,.int .i64 0] 52 (0,0)) (K2b_ BK541 NB541_554 NB541_553)):gb555 ≠ gb541));have NB542_555:=As_ ((by rw [hg];exact Nat.ne_of_lt (blk_lt (g:=gb542) (o:=.cells #[.string (⟨#[]⟩:ByteArray),.bool false] 142 (0,0)) (K2b_ BK542 NB542_554 NB542_553)):gb542 ≠ gb555));have NB555_542:=As_ ((by rw [hg];exact Nat.ne_of_gt (blk_lt (g:=gb542) (o:=.cells #[.string (⟨#[]⟩:ByteArray),.bool false] 142 (0,0)) (K2b_ BK542 NB542_554 NB542_553)):gb555 ≠ gb542));have NB546_555:=As_ ((by rw [hg];exact Nat.ne_of_lt (blk_lt (g:=gb546) (o:=.cells #[.string t544,.bool t545] 142 (0,0)) (K2b_ BK546 NB546_554 NB546_553)):gb546 ≠ gb555));have NB555_546:=As_ ((by rw [hg];exact Nat.ne_of_gt (blk_lt (g:=gb546) (o:=.cells #[.string t544,.bool t545] 142 (0,0)) (K2b_ BK546 NB546_554 NB546_553)):gb555 ≠ gb546));have NB553_555:=As_ ((by rw [hg];exact Nat.ne_of_lt (blk_lt (g:=gb553) (o:=.cells #[.int .u64 t547,.int .u64 t548,.int .u64 t549,.int .u64 t550] 50 (0,0)) (by (repeat (first|(with_reducible first|refine blk_drewN ?_ _|refine blk_drew ?_|refine blk_alloc ?_ _)|refine blk_far ?_ NB553_554.out _));refine blk_put (cs:=#[.int .u64 t547,.int .u64 t548,.int .u64 t549,.int .u64 0]) ?_ 3 _ rfl;refine Kv_ ?_;exact Kput4_abc_ (Kq_ BK553))):gb553 ≠ gb555));have NB555_553:=As_ ((by rw [hg];exact Nat.ne_of_gt (blk_lt (g:=gb553) (o:=.cells #[.int .u64 t547,.int .u64 t548,.int .u64 t549,.int .u64 t550] 50 (0,0)) (by (repeat (first|(with_reducible first|refine blk_drewN ?_ _|refine blk_drew ?_|refine blk_alloc ?_ _)|refine blk_far ?_ NB553_554.out _));refine blk_put (cs:=#[.int .u64 t547,.int .u64 t548,.int .u64 t549,.int .u64 0]) ?_ 3 _ rfl;refine Kv_ ?_;exact Kput4_abc_ (Kq_ BK553))):gb555 ≠ gb553));have NB554_555:=As_ ((by rw [hg];exact Nat.ne_of_lt (blk_lt (g:=gb554) (o:=.cells #[.string t551,.bool true] 142 (0,0)) (by refine Kv_ ?_;refine blk_put (cs:=#[.string t551,.bool false]) ?_ 1 _ rfl;refine Kv_ ?_;refine blk_put (cs:=#[.string (⟨#[]⟩:ByteArray),.bool false]) ?_ 0 _ rfl;exact K1b_ BK554 NB554_553)):gb554 ≠ gb555));have NB555_554:=As_ ((by rw [hg];exact Nat.ne_of_gt (blk_lt (g:=gb554) (o:=.cells #[.string t551,.bool true] 142 (0,0)) (by refine Kv_ ?_;refine blk_put (cs:=#[.string t551,.bool false]) ?_ 1 _ rfl;refine Kv_ ?_;refine blk_put (cs:=#[.string (⟨#[]⟩:ByteArray),.bool false]) ?_ 0 _ rfl;exact K1b_ BK554 NB554_553)):gb555 ≠ gb554));replace BK541:=As_ (blk_below (g:=gb541) (o:=.cells #[.int .u64 0,.int .u64 0,.int .u64 0,.int .u64 0,.int .i64 0] 52 (0,0)) (K2b_ BK541 NB541_554 NB541_553) hb);replace BK542:=As_ (blk_below (g:=gb542) (o:=.cells #[.string (⟨#[]⟩:ByteArray),.bool false] 142 (0,0)) (K2b_ BK542 NB542_554 NB542_553) hb);replace BK554:=As_ (blk_below (g:=gb554) (o:=.cells #[.string t551,.bool true] 142 (0,0)) (by refine Kv_ ?_;refine blk_put (cs:=#[.string t551,.bool false]) ?_ 1 _ rfl;refine Kv_ ?_;refine blk_put (cs:=#[.string (⟨#[]⟩:ByteArray),.bool false]) ?_ 0 _ rfl;exact K1b_ BK554 NB554_553) hb);replace HB:=As_ (below_step (by repeat (first|(with_reducible first|exact HB.out|apply below_alloc|apply pw_below_drewN|apply below_drew1|refine below_set ?_ GW540.out|refine below_set ?_ GW541.out|refine below_set ?_ GW542.out|refine below_set ?_ GW546.out|refine below_set ?_ GW553.out|refine below_set ?_ GW554.out)|exact HB.out)) hb);clear hb hbox hg;have hnb32:=NB555_540.out;have hnc32:=NB540_555.out;have hnb33:=NB555_541.out;have hnc33:=NB541_555.out;have hnb34:=NB555_542.out;have hnc34:=NB542_555.out;have hnb35:=NB555_546.out;have hnc35:=NB546_555.out;have hnb36:=NB555_553.out;have hnc36:=NB553_555.out;have hnb37:=NB555_554.out;have hnc37:=NB554_555.out;obtain ⟨_,_,_,_,_,_,_,_,_,_⟩:=Ke5_ BK555.out;obtain ⟨_,_,_,_⟩:=Ke2_ BK554.out;have hnb40:=NB541_542.out;have hnc40:=NB542_541.out;obtain ⟨_,_,_,_,_,_,_,_,_,_⟩:=Ke5_ BK541.out;obtain ⟨_,_,_,_⟩:=Ke2_ BK542.out))
  refine bodyPost_ret (results_cc rfl _ _ gb541 gb542 52 142 #[.int .u64 0,.int .u64 0,.int .u64 0,.int .u64 0,.int .i64 0] #[.string (⟨#[]⟩:ByteArray),.bool true] (0,0) (0,0) _ _ rfl (by (repeat (first|(with_reducible first|refine blk_drewN ?_ _|refine blk_drew ?_|refine blk_alloc ?_ _)|refine blk_far ?_ NB541_542.out _));refine blk_put (cs:=#[.int .u64 0,.int .u64 0,.int .u64 0,.int .u64 0,.int .i64 0]) ?_ 4 _ rfl;refine Kv_ ?_;refine blk_put (cs:=#[.int .u64 0,.int .u64 0,.int .u64 0,.int .u64 0,.int .i64 0]) ?_ 3 _ rfl;refine Kv_ ?_;refine blk_put (cs:=#[.int .u64 0,.int .u64 0,.int .u64 0,.int .u64 0,.int .i64 0]) ?_ 2 _ rfl;refine Kv_ ?_;refine blk_put (cs:=#[.int .u64 0,.int .u64 0,.int .u64 0,.int .u64 0,.int .i64 0]) ?_ 1 _ rfl;refine Kv_ ?_;refine blk_put (cs:=#[.int .u64 0,.int .u64 0,.int .u64 0,.int .u64 0,.int .i64 0]) ?_ 0 _ rfl;exact K1b_ BK541 NB541_555) Try.underlying52 rfl (by kernel_rfl) rfl (by refine Kv_ ?_;refine blk_put (cs:=#[.string (⟨#[]⟩:ByteArray),.bool false]) ?_ 1 _ rfl;refine Kv_ ?_;refine blk_put (cs:=#[.string (⟨#[]⟩:ByteArray),.bool false]) ?_ 0 _ rfl;exact K2b_ BK542 NB542_541 NB542_555) Try.underlying142 rfl (by kernel_rfl)) rfl ?_
  exact ⟨Kh_,by repeat (first|(with_reducible first|exact HB.out|apply below_alloc|apply pw_below_drewN|apply below_drew1|refine below_set ?_ GW540.out|refine below_set ?_ GW541.out|refine below_set ?_ GW542.out|refine below_set ?_ GW546.out|refine below_set ?_ GW553.out|refine below_set ?_ GW554.out|refine below_set ?_ GW555.out)|exact HB.out)⟩
 replace c4:=Bool.eq_false_iff.mpr c4
 subst c4
 rw [if_neg Bool.false_ne_true] at H
 obtain ⟨t556,A43,H⟩:=Kbind_ H
 (try dsimp only at H)
 by_cases c44:t556=true
 rotate_left
 ·replace c44:=Bool.eq_false_iff.mpr c44
  subst c44
  rw [if_neg Bool.false_ne_true] at H
  simp only [Option.some.injEq,Prod.mk.injEq] at H
  obtain ⟨rfl,rfl,rfl,rfl,rfl,rfl,rfl⟩:=H
  go_enter Try.func101,Try.ntmps101
  go_wp2_with (first|((with_reducible refine gate_dst (N:=1) rfl ?_);refine Ka_ 1 #[.string a0_0,.bool a0_1] 142 ?_;intro gb540 hg w89 hbox hb;have BK540:=As_ (hbox);have GW540:=Kw_ HB hg;replace HB:=Ks_ HB hb;clear hb hbox hg)|((with_reducible refine gate_dst (N:=2) rfl ?_);refine Ka_ 2 #[.int .u64 0,.int .u64 0,.int .u64 0,.int .u64 0,.int .i64 0] 52 ?_;intro gb541 hg w90 hbox hb;have BK541:=As_ (hbox);have GW541:=Kw_ HB hg;have NB540_541:=Kl_ BK540 hg;have NB541_540:=Kr_ BK540 hg;replace BK540:=Kb_ BK540 hb;replace HB:=Ks_ HB hb;clear hb hbox hg)|((with_reducible refine gate_dst (N:=3) rfl ?_);refine Ka_ 3 #[.string (⟨#[]⟩:ByteArray),.bool false] 142 ?_;intro gb542 hg w91 hbox hb;have BK542:=As_ (hbox);have GW542:=Kw_ HB hg;have NB540_542:=Kl_ BK540 hg;have NB542_540:=Kr_ BK540 hg;have NB541_542:=Kl_ BK541 hg;have NB542_541:=Kr_ BK541 hg;replace BK540:=Kb_ BK540 hb;replace BK541:=Kb_ BK541 hb;replace HB:=Ks_ HB hb;clear hb hbox hg;have hnb92:=NB540_541.out;have hnc92:=NB541_540.out;have hnb93:=NB540_542.out;have hnc93:=NB542_540.out;obtain ⟨_,_,_,_⟩:=Ke2_ BK540.out)|((with_reducible refine gate_callee (f:=79) rfl ?_);refine Kg_ (some 11) rfl rfl Try.func79 (by kernel_rfl) rfl #[.agg #[.string a0_0,.bool a0_1],.int .i64 1] rfl ?_;(with_reducible refine (R02_Reader_Number.calls k a0_0 a0_1 1 t543 t544 t545 _ A2.out).mono ?_);rintro e w95 ⟨rfl,hb⟩;refine ⟨_,rfl,?_⟩;replace BK540:=Kb_ BK540 hb;replace BK541:=Kb_ BK541 hb;replace BK542:=Kb_ BK542 hb;replace HB:=Ks_ HB hb;(try clear hb))|((with_reducible refine gate_dst (N:=5) rfl ?_);refine Ka_ 5 #[.string (⟨#[]⟩:ByteArray),.bool false] 142 ?_;intro gb546 hg w96 hbox hb;have BK546:=As_ (hbox);have GW546:=Kw_ HB hg;have NB540_546:=Kl_ BK540 hg;have NB546_540:=Kr_ BK540 hg;have NB541_546:=Kl_ BK541 hg;have NB546_541:=Kr_ BK541 hg;have NB542_546:=Kl_ BK542 hg;have NB546_542:=Kr_ BK542 hg;replace BK540:=Kb_ BK540 hb;replace BK541:=Kb_ BK541 hb;replace BK542:=Kb_ BK542 hb;replace HB:=Ks_ HB hb;clear hb hbox hg;have hnb97:=NB546_540.out;have hnc97:=NB540_546.out;have hnb98:=NB546_541.out;have hnc98:=NB541_546.out;have hnb99:=NB546_542.out;have hnc99:=NB542_546.out;obtain ⟨_,_,_,_⟩:=Ke2_ BK546.out)|((with_reducible refine gate_callee (f:=107) rfl ?_);refine Kg_ (some 16) rfl rfl Try.func107 (by kernel_rfl) rfl #[.agg #[.string t544,.bool t545]] rfl ?_;(with_reducible refine (R06_Get.calls k t544 t545 t547 t548 t549 t550 t551 false _ A3.out).mono ?_);rintro e w101 ⟨rfl,hb⟩;refine ⟨_,rfl,?_⟩;replace BK540:=Kf_ BK540 NB540_546 hb;replace BK541:=Kf_ BK541 NB541_546 hb;replace BK542:=Kf_ BK542 NB542_546 hb;replace BK546:=As_ (blk_below (Kput2_ (Kq_ BK546)) hb);replace HB:=Kt_ HB GW546 hb;(try clear hb))|((with_reducible refine gate_dst (N:=6) rfl ?_);refine Ka_ 6 #[.int .u64 0,.int .u64 0,.int .u64 0,.int .u64 0] 50 ?_;intro gb553 hg w102 hbox hb;have BK553:=As_ (hbox);have GW553:=Kw_ HB hg;have NB540_553:=Kl_ BK540 hg;have NB553_540:=Kr_ BK540 hg;have NB541_553:=Kl_ BK541 hg;have NB553_541:=Kr_ BK541 hg;have NB542_553:=Kl_ BK542 hg;have NB553_542:=Kr_ BK542 hg;have NB546_553:=Kl_ BK546 hg;have NB553_546:=Kr_ BK546 hg;replace BK540:=Kb_ BK540 hb;replace BK541:=Kb_ BK541 hb;replace BK542:=Kb_ BK542 hb;replace BK546:=Kb_ BK546 hb;replace HB:=Ks_ HB hb;clear hb hbox hg)|((with_reducible refine gate_dst (N:=7) rfl ?_);refine Ka_ 7 #[.string (⟨#[]⟩:ByteArray),.bool false] 142 ?_;intro gb554 hg w103 hbox hb;have BK554:=As_ (hbox);have GW554:=Kw_ HB hg;have NB540_554:=Kl_ BK540 hg;have NB554_540:=Kr_ BK540 hg;have NB541_554:=Kl_ BK541 hg;have NB554_541:=Kr_ BK541 hg;have NB542_554:=Kl_ BK542 hg;have NB554_542:=Kr_ BK542 hg;have NB546_554:=Kl_ BK546 hg;have NB554_546:=Kr_ BK546 hg;have NB553_554:=Kl_ BK553 hg;have NB554_553:=Kr_ BK553 hg;replace BK540:=Kb_ BK540 hb;replace BK541:=Kb_ BK541 hb;replace BK542:=Kb_ BK542 hb;replace BK546:=Kb_ BK546 hb;replace BK553:=Kb_ BK553 hb;replace HB:=Ks_ HB hb;clear hb hbox hg;have hnb104:=NB553_540.out;have hnc104:=NB540_553.out;have hnb105:=NB553_541.out;have hnc105:=NB541_553.out;have hnb106:=NB553_542.out;have hnc106:=NB542_553.out;have hnb107:=NB553_546.out;have hnc107:=NB546_553.out;have hnb108:=NB553_554.out;have hnc108:=NB554_553.out;obtain ⟨_,_,_,_,_,_,_,_⟩:=Ke4_ BK553.out;have hnb110:=NB554_540.out;have hnc110:=NB540_554.out;have hnb111:=NB554_541.out;have hnc111:=NB541_554.out;have hnb112:=NB554_542.out;have hnc112:=NB542_554.out;have hnb113:=NB554_546.out;have hnc113:=NB546_554.out;obtain ⟨_,_,_,_⟩:=Ke2_ BK554.out)|((with_reducible refine gate_dst (N:=8) rfl ?_);refine Ka_ 8 #[.int .u64 0,.int .u64 0,.int .u64 0,.int .u64 0,.int .i64 0] 52 ?_;intro gb555 hg w115 hbox hb;have BK555:=As_ (hbox);have GW555:=As_ ((by rw [hg];exact (below_size (by repeat (first|(with_reducible first|exact HB.out|apply below_alloc|apply pw_below_drewN|apply below_drew1|refine below_set ?_ GW540.out|refine below_set ?_ GW541.out|refine below_set ?_ GW542.out|refine below_set ?_ GW546.out|refine below_set ?_ GW553.out|refine below_set ?_ GW554.out)|exact HB.out))):w.heap.size≤gb555));have NB540_555:=As_ ((by rw [hg];exact Nat.ne_of_lt (blk_lt (g:=gb540) (o:=.cells #[.string a0_0,.bool a0_1] 142 (0,0)) (K2b_ BK540 NB540_554 NB540_553)):gb540 ≠ gb555));have NB555_540:=As_ ((by rw [hg];exact Nat.ne_of_gt (blk_lt (g:=gb540) (o:=.cells #[.string a0_0,.bool a0_1] 142 (0,0)) (K2b_ BK540 NB540_554 NB540_553)):gb555 ≠ gb540));have NB541_555:=As_ ((by rw [hg];exact Nat.ne_of_lt (blk_lt (g:=gb541) (o:=.cells #[.int .u64 0,.int .u64 0,.int .u64 0,.int .u64 0,.int .i64 0] 52 (0,0)) (K2b_ BK541 NB541_554 NB541_553)):gb541 ≠ gb555));have NB555_541:=As_ ((by rw [hg];exact Nat.ne_of_gt (blk_lt (g:=gb541) (o:=.cells #[.int .u64 0,.int .u64 0,.int .u64 0,.int .u64 0,.int .i64 0] 52 (0,0)) (K2b_ BK541 NB541_554 NB541_553)):gb555 ≠ gb541));have NB542_555:=As_ ((by rw [hg];exact Nat.ne_of_lt (blk_lt (g:=gb542) (o:=.cells #[.string (⟨#[]⟩:ByteArray),.bool false] 142 (0,0)) (K2b_ BK542 NB542_554 NB542_553)):gb542 ≠ gb555));have NB555_542:=As_ ((by rw [hg];exact Nat.ne_of_gt (blk_lt (g:=gb542) (o:=.cells #[.string (⟨#[]⟩:ByteArray),.bool false] 142 (0,0)) (K2b_ BK542 NB542_554 NB542_553)):gb555 ≠ gb542));have NB546_555:=As_ ((by rw [hg];exact Nat.ne_of_lt (blk_lt (g:=gb546) (o:=.cells #[.string t544,.bool t545] 142 (0,0)) (K2b_ BK546 NB546_554 NB546_553)):gb546 ≠ gb555));have NB555_546:=As_ ((by rw [hg];exact Nat.ne_of_gt (blk_lt (g:=gb546) (o:=.cells #[.string t544,.bool t545] 142 (0,0)) (K2b_ BK546 NB546_554 NB546_553)):gb555 ≠ gb546));have NB553_555:=As_ ((by rw [hg];exact Nat.ne_of_lt (blk_lt (g:=gb553) (o:=.cells #[.int .u64 t547,.int .u64 t548,.int .u64 t549,.int .u64 t550] 50 (0,0)) (by (repeat (first|(with_reducible first|refine blk_drewN ?_ _|refine blk_drew ?_|refine blk_alloc ?_ _)|refine blk_far ?_ NB553_554.out _));refine blk_put (cs:=#[.int .u64 t547,.int .u64 t548,.int .u64 t549,.int .u64 0]) ?_ 3 _ rfl;refine Kv_ ?_;exact Kput4_abc_ (Kq_ BK553))):gb553 ≠ gb555));have NB555_553:=As_ ((by rw [hg];exact Nat.ne_of_gt (blk_lt (g:=gb553) (o:=.cells #[.int .u64 t547,.int .u64 t548,.int .u64 t549,.int .u64 t550] 50 (0,0)) (by (repeat (first|(with_reducible first|refine blk_drewN ?_ _|refine blk_drew ?_|refine blk_alloc ?_ _)|refine blk_far ?_ NB553_554.out _));refine blk_put (cs:=#[.int .u64 t547,.int .u64 t548,.int .u64 t549,.int .u64 0]) ?_ 3 _ rfl;refine Kv_ ?_;exact Kput4_abc_ (Kq_ BK553))):gb555 ≠ gb553));have NB554_555:=As_ ((by rw [hg];exact Nat.ne_of_lt (blk_lt (g:=gb554) (o:=.cells #[.string t551,.bool false] 142 (0,0)) (by refine Kv_ ?_;refine blk_put (cs:=#[.string t551,.bool false]) ?_ 1 _ rfl;refine Kv_ ?_;refine blk_put (cs:=#[.string (⟨#[]⟩:ByteArray),.bool false]) ?_ 0 _ rfl;exact K1b_ BK554 NB554_553)):gb554 ≠ gb555));have NB555_554:=As_ ((by rw [hg];exact Nat.ne_of_gt (blk_lt (g:=gb554) (o:=.cells #[.string t551,.bool false] 142 (0,0)) (by refine Kv_ ?_;refine blk_put (cs:=#[.string t551,.bool false]) ?_ 1 _ rfl;refine Kv_ ?_;refine blk_put (cs:=#[.string (⟨#[]⟩:ByteArray),.bool false]) ?_ 0 _ rfl;exact K1b_ BK554 NB554_553)):gb555 ≠ gb554));replace BK541:=As_ (blk_below (g:=gb541) (o:=.cells #[.int .u64 0,.int .u64 0,.int .u64 0,.int .u64 0,.int .i64 0] 52 (0,0)) (K2b_ BK541 NB541_554 NB541_553) hb);replace BK542:=As_ (blk_below (g:=gb542) (o:=.cells #[.string (⟨#[]⟩:ByteArray),.bool false] 142 (0,0)) (K2b_ BK542 NB542_554 NB542_553) hb);replace BK554:=As_ (blk_below (g:=gb554) (o:=.cells #[.string t551,.bool false] 142 (0,0)) (by refine Kv_ ?_;refine blk_put (cs:=#[.string t551,.bool false]) ?_ 1 _ rfl;refine Kv_ ?_;refine blk_put (cs:=#[.string (⟨#[]⟩:ByteArray),.bool false]) ?_ 0 _ rfl;exact K1b_ BK554 NB554_553) hb);replace HB:=As_ (below_step (by repeat (first|(with_reducible first|exact HB.out|apply below_alloc|apply pw_below_drewN|apply below_drew1|refine below_set ?_ GW540.out|refine below_set ?_ GW541.out|refine below_set ?_ GW542.out|refine below_set ?_ GW546.out|refine below_set ?_ GW553.out|refine below_set ?_ GW554.out)|exact HB.out)) hb);clear hb hbox hg;have hnb116:=NB555_540.out;have hnc116:=NB540_555.out;have hnb117:=NB555_541.out;have hnc117:=NB541_555.out;have hnb118:=NB555_542.out;have hnc118:=NB542_555.out;have hnb119:=NB555_546.out;have hnc119:=NB546_555.out;have hnb120:=NB555_553.out;have hnc120:=NB553_555.out;have hnb121:=NB555_554.out;have hnc121:=NB554_555.out;obtain ⟨_,_,_,_,_,_,_,_,_,_⟩:=Ke5_ BK555.out;obtain ⟨_,_,_,_⟩:=Ke2_ BK554.out)|(go_at_call 70;(with_reducible refine (R07_Right.calls k t547 t548 t549 t550 (wrap64 (t543)) false _ A43.out).mono ?_);rintro e w124 ⟨rfl,hb⟩;replace BK541:=Kf_ BK541 NB541_555 hb;replace BK542:=Kf_ BK542 NB542_555 hb;replace HB:=Kt_ HB GW555 hb;(try clear hb);have hnb125:=NB541_542.out;have hnc125:=NB542_541.out;obtain ⟨_,_,_,_,_,_,_,_,_,_⟩:=Ke5_ BK541.out;obtain ⟨_,_,_,_⟩:=Ke2_ BK542.out))
  refine bodyPost_ret (results_cc rfl _ _ gb541 gb542 52 142 #[.int .u64 0,.int .u64 0,.int .u64 0,.int .u64 0,.int .i64 0] #[.string (⟨#[]⟩:ByteArray),.bool true] (0,0) (0,0) _ _ rfl (by (repeat (first|(with_reducible first|refine blk_drewN ?_ _|refine blk_drew ?_|refine blk_alloc ?_ _)|refine blk_far ?_ NB541_542.out _));refine blk_put (cs:=#[.int .u64 0,.int .u64 0,.int .u64 0,.int .u64 0,.int .i64 0]) ?_ 4 _ rfl;refine Kv_ ?_;exact Kput5_abcd_ (Kq_ BK541)) Try.underlying52 rfl (by kernel_rfl) rfl (by refine Kv_ ?_;refine blk_put (cs:=#[.string (⟨#[]⟩:ByteArray),.bool false]) ?_ 1 _ rfl;refine Kv_ ?_;refine blk_put (cs:=#[.string (⟨#[]⟩:ByteArray),.bool false]) ?_ 0 _ rfl;exact K1b_ BK542 NB542_541) Try.underlying142 rfl (by kernel_rfl)) rfl ?_
  exact ⟨Kh_,by repeat (first|(with_reducible first|exact HB.out|apply below_alloc|apply pw_below_drewN|apply below_drew1|refine below_set ?_ GW540.out|refine below_set ?_ GW541.out|refine below_set ?_ GW542.out|refine below_set ?_ GW546.out|refine below_set ?_ GW553.out|refine below_set ?_ GW554.out|refine below_set ?_ GW555.out)|exact HB.out)⟩
 subst c44
 rw [if_pos rfl] at H
 simp only [Option.some.injEq,Prod.mk.injEq] at H
 obtain ⟨rfl,rfl,rfl,rfl,rfl,rfl,rfl⟩:=H
 go_enter Try.func101,Try.ntmps101
 try go_wp2_with (first|((with_reducible refine gate_dst (N:=1) rfl ?_);refine Ka_ 1 #[.string a0_0,.bool a0_1] 142 ?_;intro gb540 hg w45 hbox hb;have BK540:=As_ (hbox);have GW540:=Kw_ HB hg;replace HB:=Ks_ HB hb;clear hb hbox hg)|((with_reducible refine gate_dst (N:=2) rfl ?_);refine Ka_ 2 #[.int .u64 0,.int .u64 0,.int .u64 0,.int .u64 0,.int .i64 0] 52 ?_;intro gb541 hg w46 hbox hb;have BK541:=As_ (hbox);have GW541:=Kw_ HB hg;have NB540_541:=Kl_ BK540 hg;have NB541_540:=Kr_ BK540 hg;replace BK540:=Kb_ BK540 hb;replace HB:=Ks_ HB hb;clear hb hbox hg)|((with_reducible refine gate_dst (N:=3) rfl ?_);refine Ka_ 3 #[.string (⟨#[]⟩:ByteArray),.bool false] 142 ?_;intro gb542 hg w47 hbox hb;have BK542:=As_ (hbox);have GW542:=Kw_ HB hg;have NB540_542:=Kl_ BK540 hg;have NB542_540:=Kr_ BK540 hg;have NB541_542:=Kl_ BK541 hg;have NB542_541:=Kr_ BK541 hg;replace BK540:=Kb_ BK540 hb;replace BK541:=Kb_ BK541 hb;replace HB:=Ks_ HB hb;clear hb hbox hg;have hnb48:=NB540_541.out;have hnc48:=NB541_540.out;have hnb49:=NB540_542.out;have hnc49:=NB542_540.out;obtain ⟨_,_,_,_⟩:=Ke2_ BK540.out)|((with_reducible refine gate_callee (f:=79) rfl ?_);refine Kg_ (some 11) rfl rfl Try.func79 (by kernel_rfl) rfl #[.agg #[.string a0_0,.bool a0_1],.int .i64 1] rfl ?_;(with_reducible refine (R02_Reader_Number.calls k a0_0 a0_1 1 t543 t544 t545 _ A2.out).mono ?_);rintro e w51 ⟨rfl,hb⟩;refine ⟨_,rfl,?_⟩;replace BK540:=Kb_ BK540 hb;replace BK541:=Kb_ BK541 hb;replace BK542:=Kb_ BK542 hb;replace HB:=Ks_ HB hb;(try clear hb))|((with_reducible refine gate_dst (N:=5) rfl ?_);refine Ka_ 5 #[.string (⟨#[]⟩:ByteArray),.bool false] 142 ?_;intro gb546 hg w52 hbox hb;have BK546:=As_ (hbox);have GW546:=Kw_ HB hg;have NB540_546:=Kl_ BK540 hg;have NB546_540:=Kr_ BK540 hg;have NB541_546:=Kl_ BK541 hg;have NB546_541:=Kr_ BK541 hg;have NB542_546:=Kl_ BK542 hg;have NB546_542:=Kr_ BK542 hg;replace BK540:=Kb_ BK540 hb;replace BK541:=Kb_ BK541 hb;replace BK542:=Kb_ BK542 hb;replace HB:=Ks_ HB hb;clear hb hbox hg;have hnb53:=NB546_540.out;have hnc53:=NB540_546.out;have hnb54:=NB546_541.out;have hnc54:=NB541_546.out;have hnb55:=NB546_542.out;have hnc55:=NB542_546.out;obtain ⟨_,_,_,_⟩:=Ke2_ BK546.out)|((with_reducible refine gate_callee (f:=107) rfl ?_);refine Kg_ (some 16) rfl rfl Try.func107 (by kernel_rfl) rfl #[.agg #[.string t544,.bool t545]] rfl ?_;(with_reducible refine (R06_Get.calls k t544 t545 t547 t548 t549 t550 t551 false _ A3.out).mono ?_);rintro e w57 ⟨rfl,hb⟩;refine ⟨_,rfl,?_⟩;replace BK540:=Kf_ BK540 NB540_546 hb;replace BK541:=Kf_ BK541 NB541_546 hb;replace BK542:=Kf_ BK542 NB542_546 hb;replace BK546:=As_ (blk_below (Kput2_ (Kq_ BK546)) hb);replace HB:=Kt_ HB GW546 hb;(try clear hb))|((with_reducible refine gate_dst (N:=6) rfl ?_);refine Ka_ 6 #[.int .u64 0,.int .u64 0,.int .u64 0,.int .u64 0] 50 ?_;intro gb553 hg w58 hbox hb;have BK553:=As_ (hbox);have GW553:=Kw_ HB hg;have NB540_553:=Kl_ BK540 hg;have NB553_540:=Kr_ BK540 hg;have NB541_553:=Kl_ BK541 hg;have NB553_541:=Kr_ BK541 hg;have NB542_553:=Kl_ BK542 hg;have NB553_542:=Kr_ BK542 hg;have NB546_553:=Kl_ BK546 hg;have NB553_546:=Kr_ BK546 hg;replace BK540:=Kb_ BK540 hb;replace BK541:=Kb_ BK541 hb;replace BK542:=Kb_ BK542 hb;replace BK546:=Kb_ BK546 hb;replace HB:=Ks_ HB hb;clear hb hbox hg)|((with_reducible refine gate_dst (N:=7) rfl ?_);refine Ka_ 7 #[.string (⟨#[]⟩:ByteArray),.bool false] 142 ?_;intro gb554 hg w59 hbox hb;have BK554:=As_ (hbox);have GW554:=Kw_ HB hg;have NB540_554:=Kl_ BK540 hg;have NB554_540:=Kr_ BK540 hg;have NB541_554:=Kl_ BK541 hg;have NB554_541:=Kr_ BK541 hg;have NB542_554:=Kl_ BK542 hg;have NB554_542:=Kr_ BK542 hg;have NB546_554:=Kl_ BK546 hg;have NB554_546:=Kr_ BK546 hg;have NB553_554:=Kl_ BK553 hg;have NB554_553:=Kr_ BK553 hg;replace BK540:=Kb_ BK540 hb;replace BK541:=Kb_ BK541 hb;replace BK542:=Kb_ BK542 hb;replace BK546:=Kb_ BK546 hb;replace BK553:=Kb_ BK553 hb;replace HB:=Ks_ HB hb;clear hb hbox hg;have hnb60:=NB553_540.out;have hnc60:=NB540_553.out;have hnb61:=NB553_541.out;have hnc61:=NB541_553.out;have hnb62:=NB553_542.out;have hnc62:=NB542_553.out;have hnb63:=NB553_546.out;have hnc63:=NB546_553.out;have hnb64:=NB553_554.out;have hnc64:=NB554_553.out;obtain ⟨_,_,_,_,_,_,_,_⟩:=Ke4_ BK553.out;have hnb66:=NB554_540.out;have hnc66:=NB540_554.out;have hnb67:=NB554_541.out;have hnc67:=NB541_554.out;have hnb68:=NB554_542.out;have hnc68:=NB542_554.out;have hnb69:=NB554_546.out;have hnc69:=NB546_554.out;obtain ⟨_,_,_,_⟩:=Ke2_ BK554.out)|((with_reducible refine gate_dst (N:=8) rfl ?_);refine Ka_ 8 #[.int .u64 0,.int .u64 0,.int .u64 0,.int .u64 0,.int .i64 0] 52 ?_;intro gb555 hg w71 hbox hb;have BK555:=As_ (hbox);have GW555:=As_ ((by rw [hg];exact (below_size (by repeat (first|(with_reducible first|exact HB.out|apply below_alloc|apply pw_below_drewN|apply below_drew1|refine below_set ?_ GW540.out|refine below_set ?_ GW541.out|refine below_set ?_ GW542.out|refine below_set ?_ GW546.out|refine below_set ?_ GW553.out|refine below_set ?_ GW554.out)|exact HB.out))):w.heap.size≤gb555));have NB540_555:=As_ ((by rw [hg];exact Nat.ne_of_lt (blk_lt (g:=gb540) (o:=.cells #[.string a0_0,.bool a0_1] 142 (0,0)) (K2b_ BK540 NB540_554 NB540_553)):gb540 ≠ gb555));have NB555_540:=As_ ((by rw [hg];exact Nat.ne_of_gt (blk_lt (g:=gb540) (o:=.cells #[.string a0_0,.bool a0_1] 142 (0,0)) (K2b_ BK540 NB540_554 NB540_553)):gb555 ≠ gb540));have NB541_555:=As_ ((by rw [hg];exact Nat.ne_of_lt (blk_lt (g:=gb541) (o:=.cells #[.int .u64 0,.int .u64 0,.int .u64 0,.int .u64 0,.int .i64 0] 52 (0,0)) (K2b_ BK541 NB541_554 NB541_553)):gb541 ≠ gb555));have NB555_541:=As_ ((by rw [hg];exact Nat.ne_of_gt (blk_lt (g:=gb541) (o:=.cells #[.int .u64 0,.int .u64 0,.int .u64 0,.int .u64 0,.int .i64 0] 52 (0,0)) (K2b_ BK541 NB541_554 NB541_553)):gb555 ≠ gb541));have NB542_555:=As_ ((by rw [hg];exact Nat.ne_of_lt (blk_lt (g:=gb542) (o:=.cells #[.string (⟨#[]⟩:ByteArray),.bool false] 142 (0,0)) (K2b_ BK542 NB542_554 NB542_553)):gb542 ≠ gb555));have NB555_542:=As_ ((by rw [hg];exact Nat.ne_of_gt (blk_lt (g:=gb542) (o:=.cells #[.string (⟨#[]⟩:ByteArray),.bool false] 142 (0,0)) (K2b_ BK542 NB542_554 NB542_553)):gb555 ≠ gb542));have NB546_555:=As_ ((by rw [hg];exact Nat.ne_of_lt (blk_lt (g:=gb546) (o:=.cells #[.string t544,.bool t545] 142 (0,0)) (K2b_ BK546 NB546_554 NB546_553)):gb546 ≠ gb555));have NB555_546:=As_ ((by rw [hg];exact Nat.ne_of_gt (blk_lt (g:=gb546) (o:=.cells #[.string t544,.bool t545] 142 (0,0)) (K2b_ BK546 NB546_554 NB546_553)):gb555 ≠ gb546));have NB553_555:=As_ ((by rw [hg];exact Nat.ne_of_lt (blk_lt (g:=gb553) (o:=.cells #[.int .u64 t547,.int .u64 t548,.int .u64 t549,.int .u64 t550] 50 (0,0)) (by (repeat (first|(with_reducible first|refine blk_drewN ?_ _|refine blk_drew ?_|refine blk_alloc ?_ _)|refine blk_far ?_ NB553_554.out _));refine blk_put (cs:=#[.int .u64 t547,.int .u64 t548,.int .u64 t549,.int .u64 0]) ?_ 3 _ rfl;refine Kv_ ?_;exact Kput4_abc_ (Kq_ BK553))):gb553 ≠ gb555));have NB555_553:=As_ ((by rw [hg];exact Nat.ne_of_gt (blk_lt (g:=gb553) (o:=.cells #[.int .u64 t547,.int .u64 t548,.int .u64 t549,.int .u64 t550] 50 (0,0)) (by (repeat (first|(with_reducible first|refine blk_drewN ?_ _|refine blk_drew ?_|refine blk_alloc ?_ _)|refine blk_far ?_ NB553_554.out _));refine blk_put (cs:=#[.int .u64 t547,.int .u64 t548,.int .u64 t549,.int .u64 0]) ?_ 3 _ rfl;refine Kv_ ?_;exact Kput4_abc_ (Kq_ BK553))):gb555 ≠ gb553));have NB554_555:=As_ ((by rw [hg];exact Nat.ne_of_lt (blk_lt (g:=gb554) (o:=.cells #[.string t551,.bool false] 142 (0,0)) (by refine Kv_ ?_;refine blk_put (cs:=#[.string t551,.bool false]) ?_ 1 _ rfl;refine Kv_ ?_;refine blk_put (cs:=#[.string (⟨#[]⟩:ByteArray),.bool false]) ?_ 0 _ rfl;exact K1b_ BK554 NB554_553)):gb554 ≠ gb555));have NB555_554:=As_ ((by rw [hg];exact Nat.ne_of_gt (blk_lt (g:=gb554) (o:=.cells #[.string t551,.bool false] 142 (0,0)) (by refine Kv_ ?_;refine blk_put (cs:=#[.string t551,.bool false]) ?_ 1 _ rfl;refine Kv_ ?_;refine blk_put (cs:=#[.string (⟨#[]⟩:ByteArray),.bool false]) ?_ 0 _ rfl;exact K1b_ BK554 NB554_553)):gb555 ≠ gb554));replace BK540:=As_ (blk_below (g:=gb540) (o:=.cells #[.string a0_0,.bool a0_1] 142 (0,0)) (K2b_ BK540 NB540_554 NB540_553) hb);replace BK541:=As_ (blk_below (g:=gb541) (o:=.cells #[.int .u64 0,.int .u64 0,.int .u64 0,.int .u64 0,.int .i64 0] 52 (0,0)) (K2b_ BK541 NB541_554 NB541_553) hb);replace BK542:=As_ (blk_below (g:=gb542) (o:=.cells #[.string (⟨#[]⟩:ByteArray),.bool false] 142 (0,0)) (K2b_ BK542 NB542_554 NB542_553) hb);replace BK546:=As_ (blk_below (g:=gb546) (o:=.cells #[.string t544,.bool t545] 142 (0,0)) (K2b_ BK546 NB546_554 NB546_553) hb);replace BK553:=As_ (blk_below (g:=gb553) (o:=.cells #[.int .u64 t547,.int .u64 t548,.int .u64 t549,.int .u64 t550] 50 (0,0)) (by (repeat (first|(with_reducible first|refine blk_drewN ?_ _|refine blk_drew ?_|refine blk_alloc ?_ _)|refine blk_far ?_ NB553_554.out _));refine blk_put (cs:=#[.int .u64 t547,.int .u64 t548,.int .u64 t549,.int .u64 0]) ?_ 3 _ rfl;refine Kv_ ?_;exact Kput4_abc_ (Kq_ BK553)) hb);replace BK554:=As_ (blk_below (g:=gb554) (o:=.cells #[.string t551,.bool false] 142 (0,0)) (by refine Kv_ ?_;refine blk_put (cs:=#[.string t551,.bool false]) ?_ 1 _ rfl;refine Kv_ ?_;refine blk_put (cs:=#[.string (⟨#[]⟩:ByteArray),.bool false]) ?_ 0 _ rfl;exact K1b_ BK554 NB554_553) hb);replace HB:=As_ (below_step (by repeat (first|(with_reducible first|exact HB.out|apply below_alloc|apply pw_below_drewN|apply below_drew1|refine below_set ?_ GW540.out|refine below_set ?_ GW541.out|refine below_set ?_ GW542.out|refine below_set ?_ GW546.out|refine below_set ?_ GW553.out|refine below_set ?_ GW554.out)|exact HB.out)) hb);clear hb hbox hg;have hnb72:=NB555_540.out;have hnc72:=NB540_555.out;have hnb73:=NB555_541.out;have hnc73:=NB541_555.out;have hnb74:=NB555_542.out;have hnc74:=NB542_555.out;have hnb75:=NB555_546.out;have hnc75:=NB546_555.out;have hnb76:=NB555_553.out;have hnc76:=NB553_555.out;have hnb77:=NB555_554.out;have hnc77:=NB554_555.out;obtain ⟨_,_,_,_,_,_,_,_,_,_⟩:=Ke5_ BK555.out;obtain ⟨_,_,_,_⟩:=Ke2_ BK554.out)|(go_at_call 70;(with_reducible refine (R07_Right.calls k t547 t548 t549 t550 (wrap64 (t543)) true _ A43.out).mono ?_);rintro e w80 ⟨rfl,hb⟩;replace BK540:=Kf_ BK540 NB540_555 hb;replace BK541:=Kf_ BK541 NB541_555 hb;replace BK542:=Kf_ BK542 NB542_555 hb;replace BK546:=Kf_ BK546 NB546_555 hb;replace BK553:=Kf_ BK553 NB553_555 hb;replace BK554:=Kf_ BK554 NB554_555 hb;replace BK555:=As_ (blk_below (Kput5_ (Kq_ BK555)) hb);replace HB:=Kt_ HB GW555 hb;(try clear hb)))
 replace BK540:=Kd_ BK540
 replace BK541:=Kd_ BK541
 replace BK542:=Kd_ BK542
 replace BK546:=Kd_ BK546
 replace BK553:=Kd_ BK553
 replace BK554:=Kd_ BK554
 replace BK555:=Kd_ BK555
 replace HB:=As_ (below_drew1 HB.out)
 refine start_ (n:=4) (S:=fun w'=>w'.cell? ⟨gb555,0,none⟩=some (.int .u64 t547)∧w'.cell? ⟨gb555,1,none⟩=some (.int .u64 t548)∧w'.cell? ⟨gb555,2,none⟩=some (.int .u64 t549)∧w'.cell? ⟨gb555,3,none⟩=some (.int .u64 t550)∧w'.cell? ⟨gb555,4,none⟩=some (.int .i64 (wrap64 (t543)))∧w'.cell? ⟨gb554,0,none⟩=some (.string t551)∧w'.cell? ⟨gb554,1,none⟩=some (.bool false)) (ds:=[]) (mB_ 4 0) (by kernel_rfl) rfl rfl ⟨Km_ BK555 0,Km_ BK555 1,Km_ BK555 2,Km_ BK555 3,Km_ BK555 4,Km_ BK554 0,Km_ BK554 1⟩ (fun hHeld=>?_)
 generalize w80.drew=w81 at BK540 BK541 BK542 BK546 BK553 BK554 BK555 HB hHeld ⊢
 refine Ko_ 0 32 (mB_ 4 1) (by kernel_rfl) hHeld ?_
 refine Ko_ 1 33 (mB_ 4 3) (by kernel_rfl) hHeld ?_
 refine one_ (i:=2) (N:=none) (mB_ 4 7) rfl rfl (by kernel_rfl) (by decide) (fun K hK=>?_)
 have hs82:w81.cell? ⟨gb541,0,none⟩=some (.int .u64 0):=(blk_cell BK541.out 0).trans rfl
 have hfs82:=blk_frozen BK541.out 0
 have:=NB540_541.out
 have:=NB542_541.out
 have:=NB546_541.out
 have:=NB553_541.out
 have:=NB554_541.out
 have:=NB555_541.out
 have:=NB541_540.out
 have:=NB541_542.out
 have:=NB541_546.out
 have:=NB541_553.out
 have:=NB541_554.out
 have:=NB541_555.out
 have hs83:w81.cell? ⟨gb541,1,none⟩=some (.int .u64 0):=(blk_cell BK541.out 1).trans rfl
 have hfs83:=blk_frozen BK541.out 1
 have:=NB540_541.out
 have:=NB542_541.out
 have:=NB546_541.out
 have:=NB553_541.out
 have:=NB554_541.out
 have:=NB555_541.out
 have:=NB541_540.out
 have:=NB541_542.out
 have:=NB541_546.out
 have:=NB541_553.out
 have:=NB541_554.out
 have:=NB541_555.out
 have hs84:w81.cell? ⟨gb541,2,none⟩=some (.int .u64 0):=(blk_cell BK541.out 2).trans rfl
 have hfs84:=blk_frozen BK541.out 2
 have:=NB540_541.out
 have:=NB542_541.out
 have:=NB546_541.out
 have:=NB553_541.out
 have:=NB554_541.out
 have:=NB555_541.out
 have:=NB541_540.out
 have:=NB541_542.out
 have:=NB541_546.out
 have:=NB541_553.out
 have:=NB541_554.out
 have:=NB541_555.out
 have hs85:w81.cell? ⟨gb541,3,none⟩=some (.int .u64 0):=(blk_cell BK541.out 3).trans rfl
 have hfs85:=blk_frozen BK541.out 3
 have:=NB540_541.out
 have:=NB542_541.out
 have:=NB546_541.out
 have:=NB553_541.out
 have:=NB554_541.out
 have:=NB555_541.out
 have:=NB541_540.out
 have:=NB541_542.out
 have:=NB541_546.out
 have:=NB541_553.out
 have:=NB541_554.out
 have:=NB541_555.out
 have hs86:w81.cell? ⟨gb541,4,none⟩=some (.int .i64 0):=(blk_cell BK541.out 4).trans rfl
 have hfs86:=blk_frozen BK541.out 4
 have:=NB540_541.out
 have:=NB542_541.out
 have:=NB546_541.out
 have:=NB553_541.out
 have:=NB554_541.out
 have:=NB555_541.out
 have:=NB541_540.out
 have:=NB541_542.out
 have:=NB541_546.out
 have:=NB541_553.out
 have:=NB541_554.out
 have:=NB541_555.out
 refine skip_ (w1:=?_) (by rfl) rfl ?_ ?_
 rotate_left
 ·go_simp
  rfl
 refine hK.out _ _ ⟨(Kj_ NB555_541 ((Kj_ NB555_541 ((Kj_ NB555_541 ((Kj_ NB555_541 ((Kj_ NB555_541 (hHeld.1)))))))))),(Kj_ NB555_541 ((Kj_ NB555_541 ((Kj_ NB555_541 ((Kj_ NB555_541 ((Kj_ NB555_541 (hHeld.2.1)))))))))),(Kj_ NB555_541 ((Kj_ NB555_541 ((Kj_ NB555_541 ((Kj_ NB555_541 ((Kj_ NB555_541 (hHeld.2.2.1)))))))))),(Kj_ NB555_541 ((Kj_ NB555_541 ((Kj_ NB555_541 ((Kj_ NB555_541 ((Kj_ NB555_541 (hHeld.2.2.2.1)))))))))),(Kj_ NB555_541 ((Kj_ NB555_541 ((Kj_ NB555_541 ((Kj_ NB555_541 ((Kj_ NB555_541 (hHeld.2.2.2.2.1)))))))))),(Kj_ NB554_541 ((Kj_ NB554_541 ((Kj_ NB554_541 ((Kj_ NB554_541 ((Kj_ NB554_541 (hHeld.2.2.2.2.2.1)))))))))),(Kj_ NB554_541 ((Kj_ NB554_541 ((Kj_ NB554_541 ((Kj_ NB554_541 ((Kj_ NB554_541 (hHeld.2.2.2.2.2.2))))))))))⟩ (fun hHeld=>?_)
 clear hK K
 refine one_ (i:=3) (N:=none) (mB_ 4 15) rfl rfl (by kernel_rfl) (by decide) (fun K hK=>?_)
 have hs87:w81.cell? ⟨gb542,0,none⟩=some (.string (⟨#[]⟩:ByteArray)):=(blk_cell BK542.out 0).trans rfl
 have hfs87:=blk_frozen BK542.out 0
 have:=NB540_542.out
 have:=NB541_542.out
 have:=NB546_542.out
 have:=NB553_542.out
 have:=NB554_542.out
 have:=NB555_542.out
 have:=NB542_540.out
 have:=NB542_541.out
 have:=NB542_546.out
 have:=NB542_553.out
 have:=NB542_554.out
 have:=NB542_555.out
 have hs88:w81.cell? ⟨gb542,1,none⟩=some (.bool false):=(blk_cell BK542.out 1).trans rfl
 have hfs88:=blk_frozen BK542.out 1
 have:=NB540_542.out
 have:=NB541_542.out
 have:=NB546_542.out
 have:=NB553_542.out
 have:=NB554_542.out
 have:=NB555_542.out
 have:=NB542_540.out
 have:=NB542_541.out
 have:=NB542_546.out
 have:=NB542_553.out
 have:=NB542_554.out
 have:=NB542_555.out
 refine skip_ (w1:=?_) (by rfl) rfl ?_ ?_
 rotate_left
 ·go_simp
  rfl
 refine hK.out _ _ ⟨(Kj_ NB555_542 ((Kj_ NB555_542 (hHeld.1)))),(Kj_ NB555_542 ((Kj_ NB555_542 (hHeld.2.1)))),(Kj_ NB555_542 ((Kj_ NB555_542 (hHeld.2.2.1)))),(Kj_ NB555_542 ((Kj_ NB555_542 (hHeld.2.2.2.1)))),(Kj_ NB555_542 ((Kj_ NB555_542 (hHeld.2.2.2.2.1)))),(Kj_ NB554_542 ((Kj_ NB554_542 (hHeld.2.2.2.2.2.1)))),(Kj_ NB554_542 ((Kj_ NB554_542 (hHeld.2.2.2.2.2.2))))⟩ (fun hHeld=>?_)
 clear hK K
 refine done_ (by kernel_rfl) ?_
 try go_wp2
 refine bodyPost_ret (results_cc rfl _ _ gb541 gb542 52 142 #[.int .u64 t547,.int .u64 t548,.int .u64 t549,.int .u64 t550,.int .i64 (wrap64 (t543))] #[.string t551,.bool false] (0,0) (0,0) _ _ rfl (by (repeat (first|(with_reducible first|refine blk_drewN ?_ _|refine blk_drew ?_|refine blk_alloc ?_ _)|refine blk_far ?_ NB541_542.out _));refine blk_put (cs:=#[.int .u64 t547,.int .u64 t548,.int .u64 t549,.int .u64 t550,.int .i64 0]) ?_ 4 _ rfl;refine Kv_ ?_;exact Kput5_abcd_ (Kq_ BK541)) Try.underlying52 rfl (by kernel_rfl) rfl (by refine Kv_ ?_;refine blk_put (cs:=#[.string t551,.bool false]) ?_ 1 _ rfl;refine Kv_ ?_;refine blk_put (cs:=#[.string (⟨#[]⟩:ByteArray),.bool false]) ?_ 0 _ rfl;exact K1b_ BK542 NB542_541) Try.underlying142 rfl (by kernel_rfl)) rfl ?_
 exact ⟨Kh_,by repeat (first|(with_reducible first|exact HB.out|apply below_alloc|apply pw_below_drewN|apply below_drew1|refine below_set ?_ GW540.out|refine below_set ?_ GW541.out|refine below_set ?_ GW542.out|refine below_set ?_ GW546.out|refine below_set ?_ GW553.out|refine below_set ?_ GW554.out|refine below_set ?_ GW555.out)|exact HB.out)⟩
theorem eqA117 (d:Nat) (w:World) (x0 y0:ByteArray) (x1 y1:ByteArray) (x2 y2:ByteArray) (x3 y3:Bool) :
  (Op.equalIn (d+2) 117 (.agg #[.string x0,.string x1,.string x2,.bool x3]) (.agg #[.string y0,.string y1,.string y2,.bool y3])).run Try.prog w = .ok (x0.toList == y0.toList && (x1.toList == y1.toList && (x2.toList == y2.toList && (x3 == y3)))) w:=by
 refine eqA_of Try.underlying117 (by kernel_rfl) ?_
 refine eqf_cons (by rfl) (by go_simp;rfl) (by go_simp;rfl) (by go_simp) ?_
 refine eqf_cons (by rfl) (by go_simp;rfl) (by go_simp;rfl) (by go_simp) ?_
 refine eqf_cons (by rfl) (by go_simp;rfl) (by go_simp;rfl) (by go_simp) ?_
 exact eqf_last (by rfl) (by go_simp;rfl) (by go_simp;rfl) (by go_simp)
end Go.Proofs.Ytoagfdpgnfinhaa.Q

namespace Go.Proofs.Ytoagfdpgnfinhaa.Q
open Go.RowKit Go.Proofs.YtoagfdpgnfinhaaW.PrintWords Go.Proofs.YtoagfdpgnfinhaaW.PrintLast Go.Proofs.YtoagfdpgnfinhaaW.PrintMore
attribute [local go_sem] max2_int min2_int max_two min_two max_three min_three max_four min_four   -- for this text's walks alone
set_option linter.unusedVariables false
set_option linter.unusedSimpArgs false
attribute [local go_sem] ixA50_0 ixA50_1 ixA50_2 ixA50_3   -- for this text's walks alone
attribute [local go_sem high] eqA52 eqA117
mutual
def R08_Same.j0:Nat→Bool→Int→Int→Int→Int→Int→List (S117)→Int→Int→Int→Int→Int→List (S117)→Option (Bool)
 | 0,_,_,_,_,_,_,_,_,_,_,_,_,_=>none
 | k+1,x19,x114,x122,x123,x126,x127,x100,x128,x129,x130,x131,x132,x109=>if x19=true then (some false) else (R08_Same.l0 k 0 x114 x122 x123 x126 x127 x100 x128 x129 x130 x131 x132 x109)
def R08_Same.l0:Nat→Int→Int→Int→Int→Int→Int→List (S117)→Int→Int→Int→Int→Int→List (S117)→Option (Bool)
 | 0,_,_,_,_,_,_,_,_,_,_,_,_,_=>none
 | k+1,x5,x114,x122,x123,x126,x127,x100,x128,x129,x130,x131,x132,x109=>if x5<(x100.length:Int) then (if 0≤x5 then (if x5<(x109.length:Int) then (if (!((((rd_T117 x100 x5).f0).toList) == (((rd_T117 x109 x5).f0).toList)) || (!((((rd_T117 x100 x5).f1).toList) == (((rd_T117 x109 x5).f1).toList)) || (!((((rd_T117 x100 x5).f2).toList) == (((rd_T117 x109 x5).f2).toList)) || (!(((rd_T117 x100 x5).f3) == ((rd_T117 x109 x5).f3))))))=true then (some false) else (R08_Same.l0 k (wrap64 (x5+1)) x114 x122 x123 x126 x127 x100 x128 x129 x130 x131 x132 x109)) else (none)) else (none)) else (some true)
end
def R08_Same.f (k:Nat) (a0_0:Int) (a0_1:Int) (a0_2:Int) (a0_3:Int) (a0_4:Int) (l0_5:List (S117)) (a1_0:Int) (a1_1:Int) (a1_2:Int) (a1_3:Int) (a1_4:Int) (l1_5:List (S117)):Option (Bool):=if ((!(a0_0 == a1_0) || (!(a0_1 == a1_1) || (!(a0_2 == a1_2) || (!(a0_3 == a1_3))))) || (!(a0_4 == a1_4)))=true then (R08_Same.j0 k true a0_0 a0_1 a0_2 a0_3 a0_4 l0_5 a1_0 a1_1 a1_2 a1_3 a1_4 l1_5) else (R08_Same.j0 k ((l0_5.length:Int) != (l1_5.length:Int)) a0_0 a0_1 a0_2 a0_3 a0_4 l0_5 a1_0 a1_1 a1_2 a1_3 a1_4 l1_5)
set_option maxHeartbeats 8000000 in
set_option maxRecDepth 100000 in
theorem R08_Same.calls (k:Nat) (a0_0:Int) (a0_1:Int) (a0_2:Int) (a0_3:Int) (a0_4:Int) (A0_5:Option Addr) (c0_5:Nat) (l0_5:List (S117)) (a1_0:Int) (a1_1:Int) (a1_2:Int) (a1_3:Int) (a1_4:Int) (A1_5:Option Addr) (c1_5:Nat) (l1_5:List (S117)) (r:Bool) (w:World) (hr0_5:Kd.C k117 w A0_5 l0_5.length l0_5) (hc0_5:l0_5.length≤c0_5) (hr1_5:Kd.C k117 w A1_5 l1_5.length l1_5) (hc1_5:l1_5.length≤c1_5) (h:R08_Same.f k a0_0 a0_1 a0_2 a0_3 a0_4 l0_5 a1_0 a1_1 a1_2 a1_3 a1_4 l1_5=some r) :
  Calls Try.prog 17 #[.agg #[.int .u64 a0_0,.int .u64 a0_1,.int .u64 a0_2,.int .u64 a0_3,.int .i64 a0_4,.slice A0_5 l0_5.length c0_5],.agg #[.int .u64 a1_0,.int .u64 a1_1,.int .u64 a1_2,.int .u64 a1_3,.int .i64 a1_4,.slice A1_5 l1_5.length c1_5]] w fun e w'=>e = .returned (.bool r)∧Below w.heap.size w w':=by
 have hu55:=Try.underlying55
 have hu52:=Try.underlying52
 have hu117:=Try.underlying117
 have HR0_5:=As_ hr0_5
 have HC0_5:=As_ hc0_5
 clear hr0_5 hc0_5
 have HR1_5:=As_ hr1_5
 have HC1_5:=As_ hc1_5
 clear hr1_5 hc1_5
 have HB:=As_ (Below.refl w.heap.size w)
 unfold R08_Same.f at h
 have H:=h
 clear h
 have HC3:=As_ H
 clear H
 go_enter Try.func17,Try.ntmps17
 go_upto_region 1 with (first|((with_reducible refine gate_dst (N:=2) rfl ?_);refine Ka_ 2 #[.int .u64 a0_0,.int .u64 a0_1,.int .u64 a0_2,.int .u64 a0_3,.int .i64 a0_4,.slice A0_5 l0_5.length c0_5] 55 ?_;intro gb276 hg w4 hbox hb;have BK276:=As_ (hbox);have GW276:=Kw_ HB hg;replace HB:=Ks_ HB hb;clear hb hbox hg)|((with_reducible refine gate_dst (N:=3) rfl ?_);refine Ka_ 3 #[.int .u64 a1_0,.int .u64 a1_1,.int .u64 a1_2,.int .u64 a1_3,.int .i64 a1_4,.slice A1_5 l1_5.length c1_5] 55 ?_;intro gb277 hg w5 hbox hb;have BK277:=As_ (hbox);have GW277:=Kw_ HB hg;have NB276_277:=Kl_ BK276 hg;have NB277_276:=Kr_ BK276 hg;replace BK276:=Kb_ BK276 hb;replace HB:=Ks_ HB hb;clear hb hbox hg))
 repeat (go_quiet (first|((with_reducible refine gate_dst (N:=2) rfl ?_);refine Ka_ 2 #[.int .u64 a0_0,.int .u64 a0_1,.int .u64 a0_2,.int .u64 a0_3,.int .i64 a0_4,.slice A0_5 l0_5.length c0_5] 55 ?_;intro gb276 hg w4 hbox hb;have BK276:=As_ (hbox);have GW276:=Kw_ HB hg;replace HB:=Ks_ HB hb;clear hb hbox hg)|((with_reducible refine gate_dst (N:=3) rfl ?_);refine Ka_ 3 #[.int .u64 a1_0,.int .u64 a1_1,.int .u64 a1_2,.int .u64 a1_3,.int .i64 a1_4,.slice A1_5 l1_5.length c1_5] 55 ?_;intro gb277 hg w5 hbox hb;have BK277:=As_ (hbox);have GW277:=Kw_ HB hg;have NB276_277:=Kl_ BK276 hg;have NB277_276:=Kr_ BK276 hg;replace BK276:=Kb_ BK276 hb;replace HB:=Ks_ HB hb;clear hb hbox hg));go_upto_region 1 with (first|((with_reducible refine gate_dst (N:=2) rfl ?_);refine Ka_ 2 #[.int .u64 a0_0,.int .u64 a0_1,.int .u64 a0_2,.int .u64 a0_3,.int .i64 a0_4,.slice A0_5 l0_5.length c0_5] 55 ?_;intro gb276 hg w4 hbox hb;have BK276:=As_ (hbox);have GW276:=Kw_ HB hg;replace HB:=Ks_ HB hb;clear hb hbox hg)|((with_reducible refine gate_dst (N:=3) rfl ?_);refine Ka_ 3 #[.int .u64 a1_0,.int .u64 a1_1,.int .u64 a1_2,.int .u64 a1_3,.int .i64 a1_4,.slice A1_5 l1_5.length c1_5] 55 ?_;intro gb277 hg w5 hbox hb;have BK277:=As_ (hbox);have GW277:=Kw_ HB hg;have NB276_277:=Kl_ BK276 hg;have NB277_276:=Kr_ BK276 hg;replace BK276:=Kb_ BK276 hb;replace HB:=Ks_ HB hb;clear hb hbox hg)))
 (try simp only [Act.put,List.setIfInBounds_toArray,List.set_cons_zero,List.set_cons_succ])
 go_cut [19] (fun v19 wc=>∃ (kq:Nat) (x19_2:Bool),v19 = .bool x19_2∧Aside0 (R08_Same.j0 kq x19_2 a0_0 a0_1 a0_2 a0_3 a0_4 l0_5 a1_0 a1_1 a1_2 a1_3 a1_4 l1_5=some r)∧Aside0 (kq≤k)∧Aside0 (wc.heap[gb276]?=some (.cells #[.int .u64 a0_0,.int .u64 a0_1,.int .u64 a0_2,.int .u64 a0_3,.int .i64 a0_4,(.slice A0_5 l0_5.length c0_5)] 55 (0,0)))∧Aside0 (wc.heap[gb277]?=some (.cells #[.int .u64 a1_0,.int .u64 a1_1,.int .u64 a1_2,.int .u64 a1_3,.int .i64 a1_4,(.slice A1_5 l1_5.length c1_5)] 55 (0,0)))∧Aside0 (Below w.heap.size w wc))
 case first =>
  have H:=HC3.out
  clear HC3
  by_cases c6:((!(a0_0 == a1_0) || (!(a0_1 == a1_1) || (!(a0_2 == a1_2) || (!(a0_3 == a1_3))))) || (!(a0_4 == a1_4)))=true
  ·rw [if_pos c6] at H
   have c6b0:((!(a0_0 == a1_0) || (!(a0_1 == a1_1) || (!(a0_2 == a1_2) || (!(a0_3 == a1_3))))) || (!(a0_4 == a1_4)))=true:=c6
   clear c6
   (first|rw [c6b0]|(simp only [i64_w,i32_w];rw [c6b0])|skip)
   have H':=As_ H
   clear H
   have hnb7:=NB276_277.out
   have hnc7:=NB277_276.out
   obtain ⟨hcz8_0,hcz8_1,hcz8_2,hcz8_3,hcz8_4,hcz8_5,hfz8_0,hfz8_1,hfz8_2,hfz8_3,hfz8_4,hfz8_5⟩:=Ke6_ BK276.out
   obtain ⟨hcz9_0,hcz9_1,hcz9_2,hcz9_3,hcz9_4,hcz9_5,hfz9_0,hfz9_1,hfz9_2,hfz9_3,hfz9_4,hfz9_5⟩:=Ke6_ BK277.out
   go_wp2
   repeat (go_quiet (fail);try go_wp2)
   go_meet
   case rel=>exact ⟨_,(true),(by first|rfl|(simp;done)|(simp [*];done)),H',⟨by first|omega|exact Nat.le_refl _⟩,⟨by exact Kq_ BK276⟩,⟨by exact Kq_ BK277⟩,⟨K2a_ HB GW276 GW277⟩⟩
  rw [if_neg c6] at H
  have c6b0:((!(a0_0 == a1_0) || (!(a0_1 == a1_1) || (!(a0_2 == a1_2) || (!(a0_3 == a1_3))))) || (!(a0_4 == a1_4)))=false:=by simpa using c6
  clear c6
  (first|rw [c6b0]|(simp only [i64_w,i32_w];rw [c6b0])|skip)
  have H':=As_ H
  clear H
  have hnb10:=NB276_277.out
  have hnc10:=NB277_276.out
  obtain ⟨hcz11_0,hcz11_1,hcz11_2,hcz11_3,hcz11_4,hcz11_5,hfz11_0,hfz11_1,hfz11_2,hfz11_3,hfz11_4,hfz11_5⟩:=Ke6_ BK276.out
  obtain ⟨hcz12_0,hcz12_1,hcz12_2,hcz12_3,hcz12_4,hcz12_5,hfz12_0,hfz12_1,hfz12_2,hfz12_3,hfz12_4,hfz12_5⟩:=Ke6_ BK277.out
  go_wp2
  repeat (go_quiet (fail);try go_wp2)
  go_meet
  case rel=>exact ⟨_,(((l0_5.length:Int) != (l1_5.length:Int))),(by first|rfl|(simp;done)|(simp [*];done)),H',⟨by first|omega|exact Nat.le_refl _⟩,⟨by exact Kq_ BK276⟩,⟨by exact Kq_ BK277⟩,⟨K2a_ HB GW276 GW277⟩⟩
 case rest =>
  clear HC3
  try clear c1
  try clear p2
  try clear c6
  try clear c6b0
  try clear c7
  try clear c10
  try clear hcz11_0
  try clear hcz11_1
  try clear hcz11_2
  try clear hcz11_3
  try clear hcz11_4
  try clear hcz11_5
  try clear hcz12_0
  try clear hcz12_1
  try clear hcz12_2
  try clear hcz12_3
  try clear hcz12_4
  try clear hcz12_5
  try clear hcz8_0
  try clear hcz8_1
  try clear hcz8_2
  try clear hcz8_3
  try clear hcz8_4
  try clear hcz8_5
  try clear hcz9_0
  try clear hcz9_1
  try clear hcz9_2
  try clear hcz9_3
  try clear hcz9_4
  try clear hcz9_5
  try clear hfz11_0
  try clear hfz11_1
  try clear hfz11_2
  try clear hfz11_3
  try clear hfz11_4
  try clear hfz11_5
  try clear hfz12_0
  try clear hfz12_1
  try clear hfz12_2
  try clear hfz12_3
  try clear hfz12_4
  try clear hfz12_5
  try clear hfz8_0
  try clear hfz8_1
  try clear hfz8_2
  try clear hfz8_3
  try clear hfz8_4
  try clear hfz8_5
  try clear hfz9_0
  try clear hfz9_1
  try clear hfz9_2
  try clear hfz9_3
  try clear hfz9_4
  try clear hfz9_5
  obtain ⟨kq,x19_2,rfl,HA,HJ2,BK276,BK277,HB⟩:=hcut
  cases kq with
  | zero=>exact absurd HA.out (by simp [R08_Same.j0])
  | succ kj2 =>
   have H:=HA.out
   clear HA
   simp only [R08_Same.j0] at H
   by_cases c13:x19_2=true
   ·subst c13
    rw [if_pos rfl] at H
    obtain rfl:=Option.some.inj H
    go_wp2
    repeat (go_quiet (fail);try go_wp2)
    go_ret
    exact ⟨Kh_,K2a_ HB GW276 GW277⟩
   replace c13:=Bool.eq_false_iff.mpr c13
   subst c13
   rw [if_neg Bool.false_ne_true] at H
   have H':=As_ H
   clear H
   go_wp2
   repeat (go_quiet (fail);try go_wp2)
   go_loopg [5] kj2 (fun kq v5 w'=>∃ (x5_2:Int),v5 = .int .i64 x5_2∧Aside0 (R08_Same.l0 kq x5_2 a0_0 a0_1 a0_2 a0_3 a0_4 l0_5 a1_0 a1_1 a1_2 a1_3 a1_4 l1_5=some r)∧Aside0 (kq≤kj2)∧Aside0 (w'.heap[gb276]?=some (.cells #[.int .u64 a0_0,.int .u64 a0_1,.int .u64 a0_2,.int .u64 a0_3,.int .i64 a0_4,(.slice A0_5 l0_5.length c0_5)] 55 (0,0)))∧Aside0 (w'.heap[gb277]?=some (.cells #[.int .u64 a1_0,.int .u64 a1_1,.int .u64 a1_2,.int .u64 a1_3,.int .i64 a1_4,(.slice A1_5 l1_5.length c1_5)] 55 (0,0)))∧Aside0 (Below w.heap.size w w'))
   case atStart=>exact ⟨(0),(by first|rfl|(simp;done)|(simp [*];done)),H',⟨Nat.le_refl _⟩,⟨by exact Kq_ BK276⟩,⟨by exact Kq_ BK277⟩,⟨K2a_ HB GW276 GW277⟩⟩
   case round =>
    clear H'
    try clear c1
    try clear p2
    try clear c6
    try clear c6b0
    try clear c7
    try clear c10
    try clear c13
    try clear hcz11_0
    try clear hcz11_1
    try clear hcz11_2
    try clear hcz11_3
    try clear hcz11_4
    try clear hcz11_5
    try clear hcz12_0
    try clear hcz12_1
    try clear hcz12_2
    try clear hcz12_3
    try clear hcz12_4
    try clear hcz12_5
    try clear hcz8_0
    try clear hcz8_1
    try clear hcz8_2
    try clear hcz8_3
    try clear hcz8_4
    try clear hcz8_5
    try clear hcz9_0
    try clear hcz9_1
    try clear hcz9_2
    try clear hcz9_3
    try clear hcz9_4
    try clear hcz9_5
    try clear hfz11_0
    try clear hfz11_1
    try clear hfz11_2
    try clear hfz11_3
    try clear hfz11_4
    try clear hfz11_5
    try clear hfz12_0
    try clear hfz12_1
    try clear hfz12_2
    try clear hfz12_3
    try clear hfz12_4
    try clear hfz12_5
    try clear hfz8_0
    try clear hfz8_1
    try clear hfz8_2
    try clear hfz8_3
    try clear hfz8_4
    try clear hfz8_5
    try clear hfz9_0
    try clear hfz9_1
    try clear hfz9_2
    try clear hfz9_3
    try clear hfz9_4
    try clear hfz9_5
    try clear p2
    obtain ⟨x5_2,rfl,HA,HK2,BK276,BK277,HB⟩:=hrel
    cases gk with
    | zero=>exact absurd HA.out (by simp [R08_Same.l0])
    | succ k2 =>
     have H:=HA.out
     clear HA
     simp only [R08_Same.l0] at H
     by_cases c14:x5_2<(l0_5.length:Int)
     rotate_left
     ·rw [if_neg c14] at H
      have c14b0:decide (x5_2<(l0_5.length:Int))=false:=decide_eq_false c14
      clear c14
      obtain rfl:=Option.some.inj H
      have hnb24:=NB276_277.out
      have hnc24:=NB277_276.out
      obtain ⟨_,_,_,_,_,_,_,_,_,_,_,_⟩:=Ke6_ BK276.out
      go_wp2
      repeat (go_quiet (fail);try go_wp2)
      go_ret
      exact ⟨Kh_,K2a_ HB GW276 GW277⟩
     rw [if_pos c14] at H
     have c14b0:decide (x5_2<(l0_5.length:Int))=true:=decide_eq_true c14
     clear c14
     by_cases c15:0≤x5_2
     rotate_left
     ·rw [if_neg c15] at H
      exact absurd H (by simp)
     rw [if_pos c15] at H
     have c15b0:decide (0≤x5_2)=true:=decide_eq_true c15
     clear c15
     by_cases c16:x5_2<(l1_5.length:Int)
     rotate_left
     ·rw [if_neg c16] at H
      exact absurd H (by simp)
     rw [if_pos c16] at H
     have c16b0:decide (x5_2<(l1_5.length:Int))=true:=decide_eq_true c16
     clear c16
     by_cases c17:(!((((rd_T117 l0_5 x5_2).f0).toList) == (((rd_T117 l1_5 x5_2).f0).toList)) || (!((((rd_T117 l0_5 x5_2).f1).toList) == (((rd_T117 l1_5 x5_2).f1).toList)) || (!((((rd_T117 l0_5 x5_2).f2).toList) == (((rd_T117 l1_5 x5_2).f2).toList)) || (!(((rd_T117 l0_5 x5_2).f3) == ((rd_T117 l1_5 x5_2).f3))))))=true
     ·rw [if_pos c17] at H
      have c17b0:(!((((rd_T117 l0_5 x5_2).f0).toList) == (((rd_T117 l1_5 x5_2).f0).toList)) || (!((((rd_T117 l0_5 x5_2).f1).toList) == (((rd_T117 l1_5 x5_2).f1).toList)) || (!((((rd_T117 l0_5 x5_2).f2).toList) == (((rd_T117 l1_5 x5_2).f2).toList)) || (!(((rd_T117 l0_5 x5_2).f3) == ((rd_T117 l1_5 x5_2).f3))))))=true:=c17
      clear c17
      obtain rfl:=Option.some.inj H
      have hnb18:=NB276_277.out
      have hnc18:=NB277_276.out
      obtain ⟨_,_,_,_,_,_,_,_,_,_,_,_⟩:=Ke6_ BK276.out
      have p278:0≤(x5_2:Int):=of_decide_eq_true (by first|(with_reducible assumption)|assumption)
      have q278:x5_2<(l0_5.length:Int):=of_decide_eq_true (by first|(with_reducible assumption)|assumption)
      obtain ⟨ad278,e278,hx278_0,hx278_1,hx278_2,hx278_3⟩:=at_T117 HR0_5.out x5_2 p278 q278
      cases e278
      replace hx278_0:=(HB.out.cell (World.block_lt_of_cell? w _ hx278_0)).trans hx278_0
      replace hx278_1:=(HB.out.cell (World.block_lt_of_cell? w _ hx278_1)).trans hx278_1
      replace hx278_2:=(HB.out.cell (World.block_lt_of_cell? w _ hx278_2)).trans hx278_2
      replace hx278_3:=(HB.out.cell (World.block_lt_of_cell? w _ hx278_3)).trans hx278_3
      replace p278:=eq_true p278
      replace q278:=eq_true q278
      obtain ⟨_,_,_,_,_,_,_,_,_,_,_,_⟩:=Ke6_ BK277.out
      have p279:0≤(x5_2:Int):=of_decide_eq_true (by first|(with_reducible assumption)|assumption)
      have q279:x5_2<(l1_5.length:Int):=of_decide_eq_true (by first|(with_reducible assumption)|assumption)
      obtain ⟨ad279,e279,hx279_0,hx279_1,hx279_2,hx279_3⟩:=at_T117 HR1_5.out x5_2 p279 q279
      cases e279
      replace hx279_0:=(HB.out.cell (World.block_lt_of_cell? w _ hx279_0)).trans hx279_0
      replace hx279_1:=(HB.out.cell (World.block_lt_of_cell? w _ hx279_1)).trans hx279_1
      replace hx279_2:=(HB.out.cell (World.block_lt_of_cell? w _ hx279_2)).trans hx279_2
      replace hx279_3:=(HB.out.cell (World.block_lt_of_cell? w _ hx279_3)).trans hx279_3
      replace p279:=eq_true p279
      replace q279:=eq_true q279
      go_wp2
      repeat (go_quiet (fail);try go_wp2)
      go_ret
      exact ⟨Kh_,K2a_ HB GW276 GW277⟩
     rw [if_neg c17] at H
     have c17b0:(!((((rd_T117 l0_5 x5_2).f0).toList) == (((rd_T117 l1_5 x5_2).f0).toList)) || (!((((rd_T117 l0_5 x5_2).f1).toList) == (((rd_T117 l1_5 x5_2).f1).toList)) || (!((((rd_T117 l0_5 x5_2).f2).toList) == (((rd_T117 l1_5 x5_2).f2).toList)) || (!(((rd_T117 l0_5 x5_2).f3) == ((rd_T117 l1_5 x5_2).f3))))))=false:=by simpa using c17
     clear c17
     have H':=As_ H
     clear H
     have hnb21:=NB276_277.out
     have hnc21:=NB277_276.out
     obtain ⟨_,_,_,_,_,_,_,_,_,_,_,_⟩:=Ke6_ BK276.out
     have p278:0≤(x5_2:Int):=of_decide_eq_true (by first|(with_reducible assumption)|assumption)
     have q278:x5_2<(l0_5.length:Int):=of_decide_eq_true (by first|(with_reducible assumption)|assumption)
     obtain ⟨ad278,e278,hx278_0,hx278_1,hx278_2,hx278_3⟩:=at_T117 HR0_5.out x5_2 p278 q278
     cases e278
     replace hx278_0:=(HB.out.cell (World.block_lt_of_cell? w _ hx278_0)).trans hx278_0
     replace hx278_1:=(HB.out.cell (World.block_lt_of_cell? w _ hx278_1)).trans hx278_1
     replace hx278_2:=(HB.out.cell (World.block_lt_of_cell? w _ hx278_2)).trans hx278_2
     replace hx278_3:=(HB.out.cell (World.block_lt_of_cell? w _ hx278_3)).trans hx278_3
     replace p278:=eq_true p278
     replace q278:=eq_true q278
     obtain ⟨_,_,_,_,_,_,_,_,_,_,_,_⟩:=Ke6_ BK277.out
     have p279:0≤(x5_2:Int):=of_decide_eq_true (by first|(with_reducible assumption)|assumption)
     have q279:x5_2<(l1_5.length:Int):=of_decide_eq_true (by first|(with_reducible assumption)|assumption)
     obtain ⟨ad279,e279,hx279_0,hx279_1,hx279_2,hx279_3⟩:=at_T117 HR1_5.out x5_2 p279 q279
     cases e279
     replace hx279_0:=(HB.out.cell (World.block_lt_of_cell? w _ hx279_0)).trans hx279_0
     replace hx279_1:=(HB.out.cell (World.block_lt_of_cell? w _ hx279_1)).trans hx279_1
     replace hx279_2:=(HB.out.cell (World.block_lt_of_cell? w _ hx279_2)).trans hx279_2
     replace hx279_3:=(HB.out.cell (World.block_lt_of_cell? w _ hx279_3)).trans hx279_3
     replace p279:=eq_true p279
     replace q279:=eq_true q279
     go_wp2
     repeat (go_quiet (fail);try go_wp2)
     go_roundg k2
     case measure=>have:=HJ2.out;have:=HK2.out;omega
     case rel=>exact ⟨(wrap64 (x5_2+1)),(by first|rfl|(simp;done)|(simp [*];done)),H',⟨by have:=HJ2.out;have:=HK2.out;omega⟩,⟨by exact Kq_ BK276⟩,⟨by exact Kq_ BK277⟩,⟨K2a_ HB GW276 GW277⟩⟩
end Go.Proofs.Ytoagfdpgnfinhaa.Q

namespace Go.Proofs.Ytoagfdpgnfinhaa.Q
open Go.RowKit Go.Proofs.YtoagfdpgnfinhaaW.PrintWords Go.Proofs.YtoagfdpgnfinhaaW.PrintLast Go.Proofs.YtoagfdpgnfinhaaW.PrintMore
attribute [local go_sem] max2_int min2_int max_two min_two max_three min_three max_four min_four   -- for this text's walks alone
set_option linter.unusedVariables false
set_option linter.unusedSimpArgs false
def L15_alike.f (k:Nat) (a0_0:Int) (a0_1:Int) (a0_2:Int) (a0_3:Int) (a0_4:Int) (a0_5:Int) (a0_6:Int) (a0_7:Int) (l0_8:List (S117)) (a1_0:Int) (a1_1:Int) (a1_2:Int) (a1_3:Int) (a1_4:Int) (a1_5:Int) (a1_6:Int) (a1_7:Int) (l1_8:List (S117)):Option (Bool):=(R08_Same.f k a0_3 a0_4 a0_5 a0_6 a0_7 l0_8 a1_3 a1_4 a1_5 a1_6 a1_7 l1_8).bind fun t626=>(if t626=true then (if a0_0=a1_0 then (if a0_1=a1_1 then (some (a0_2 == a1_2)) else (some false)) else (some false)) else (some false))
set_option maxHeartbeats 8000000 in
set_option maxRecDepth 100000 in
theorem L15_alike.calls (k:Nat) (a0_0:Int) (a0_1:Int) (a0_2:Int) (a0_3:Int) (a0_4:Int) (a0_5:Int) (a0_6:Int) (a0_7:Int) (A0_8:Option Addr) (c0_8:Nat) (l0_8:List (S117)) (a1_0:Int) (a1_1:Int) (a1_2:Int) (a1_3:Int) (a1_4:Int) (a1_5:Int) (a1_6:Int) (a1_7:Int) (A1_8:Option Addr) (c1_8:Nat) (l1_8:List (S117)) (r:Bool) (w:World) (hr0_8:Kd.C k117 w A0_8 l0_8.length l0_8) (hc0_8:l0_8.length≤c0_8) (hr1_8:Kd.C k117 w A1_8 l1_8.length l1_8) (hc1_8:l1_8.length≤c1_8) (h:L15_alike.f k a0_0 a0_1 a0_2 a0_3 a0_4 a0_5 a0_6 a0_7 l0_8 a1_0 a1_1 a1_2 a1_3 a1_4 a1_5 a1_6 a1_7 l1_8=some r) :
  Calls Try.prog 38 #[.agg #[.int .i64 a0_0,.int .i64 a0_1,.int .u64 a0_2,.int .u64 a0_3,.int .u64 a0_4,.int .u64 a0_5,.int .u64 a0_6,.int .i64 a0_7,.slice A0_8 l0_8.length c0_8],.agg #[.int .i64 a1_0,.int .i64 a1_1,.int .u64 a1_2,.int .u64 a1_3,.int .u64 a1_4,.int .u64 a1_5,.int .u64 a1_6,.int .i64 a1_7,.slice A1_8 l1_8.length c1_8]] w fun e w'=>e = .returned (.bool r)∧Below w.heap.size w w':=by
 have hu75:=Try.underlying75
 have hu55:=Try.underlying55
 have HR0_8:=As_ hr0_8
 have HC0_8:=As_ hc0_8
 clear hr0_8 hc0_8
 have HR1_8:=As_ hr1_8
 have HC1_8:=As_ hc1_8
 clear hr1_8 hc1_8
 have HB:=As_ (Below.refl w.heap.size w)
 unfold L15_alike.f at h
 have H:=h
 clear h
 obtain ⟨t626,A3,H⟩:=Kbind_ H
 (try dsimp only at H)
 by_cases c4:t626=true
 rotate_left
 ·replace c4:=Bool.eq_false_iff.mpr c4
  subst c4
  rw [if_neg Bool.false_ne_true] at H
  obtain rfl:=Option.some.inj H
  go_enter Try.func38,Try.ntmps38
  go_wp2_with (first|((with_reducible refine gate_dst (N:=2) rfl ?_);refine Ka_ 2 #[.int .i64 a0_0,.int .i64 a0_1,.int .u64 a0_2,.int .u64 a0_3,.int .u64 a0_4,.int .u64 a0_5,.int .u64 a0_6,.int .i64 a0_7,.slice A0_8 l0_8.length c0_8] 75 ?_;intro gb624 hg w31 hbox hb;have BK624:=As_ (hbox);have GW624:=Kw_ HB hg;replace HB:=Ks_ HB hb;clear hb hbox hg)|((with_reducible refine gate_dst (N:=3) rfl ?_);refine Ka_ 3 #[.int .i64 a1_0,.int .i64 a1_1,.int .u64 a1_2,.int .u64 a1_3,.int .u64 a1_4,.int .u64 a1_5,.int .u64 a1_6,.int .i64 a1_7,.slice A1_8 l1_8.length c1_8] 75 ?_;intro gb625 hg w32 hbox hb;have BK625:=As_ (hbox);have GW625:=Kw_ HB hg;have NB624_625:=Kl_ BK624 hg;have NB625_624:=Kr_ BK624 hg;replace BK624:=Kb_ BK624 hb;replace HB:=Ks_ HB hb;clear hb hbox hg;have hnb33:=NB624_625.out;have hnc33:=NB625_624.out;obtain ⟨_,_,_,_,_,_,_,_,_,_,_,_,_,_,_,_,_,_⟩:=Ke9_ BK624.out;obtain ⟨_,_,_,_,_,_,_,_,_,_,_,_,_,_,_,_,_,_⟩:=Ke9_ BK625.out)|((with_reducible refine gate_callee (f:=17) rfl ?_);refine Kg_ (some 10) rfl rfl Try.func17 (by kernel_rfl) rfl #[.agg #[.int .u64 a0_3,.int .u64 a0_4,.int .u64 a0_5,.int .u64 a0_6,.int .i64 a0_7,.slice A0_8 l0_8.length c0_8],.agg #[.int .u64 a1_3,.int .u64 a1_4,.int .u64 a1_5,.int .u64 a1_6,.int .i64 a1_7,.slice A1_8 l1_8.length c1_8]] rfl ?_;(with_reducible refine (R08_Same.calls k a0_3 a0_4 a0_5 a0_6 a0_7 _ _ l0_8 a1_3 a1_4 a1_5 a1_6 a1_7 _ _ l1_8 false _ ?side1 ?side2 ?side3 ?side4 A3.out).mono ?_);(case side1=>repeat (first|exact (Kd.C_below HR0_8.out HB.out)|(with_reducible refine Kd.C_alloc ?_ _)|(with_reducible refine Kd.C_drewN ?_ _)|(with_reducible refine Kd.C_drew ?_)));(case side2=>exact HC0_8.out);(case side3=>repeat (first|exact (Kd.C_below HR1_8.out HB.out)|(with_reducible refine Kd.C_alloc ?_ _)|(with_reducible refine Kd.C_drewN ?_ _)|(with_reducible refine Kd.C_drew ?_)));(case side4=>exact HC1_8.out);rintro e w36 ⟨rfl,hb⟩;refine ⟨_,rfl,?_⟩;replace HB:=Ks_ HB hb;(try clear hb)))
  go_ret
  exact ⟨Kh_,K2a_ HB GW624 GW625⟩
 subst c4
 rw [if_pos rfl] at H
 by_cases c5:a0_0=a1_0
 rotate_left
 ·rw [if_neg c5] at H
  have c5b0:=beq_eq_false_iff_ne.mpr c5
  have c5b1:(a0_0 != a1_0)=true:=bne_iff_ne.mpr c5
  obtain rfl:=Option.some.inj H
  go_enter Try.func38,Try.ntmps38
  go_wp2_with (first|((with_reducible refine gate_dst (N:=2) rfl ?_);refine Ka_ 2 #[.int .i64 a0_0,.int .i64 a0_1,.int .u64 a0_2,.int .u64 a0_3,.int .u64 a0_4,.int .u64 a0_5,.int .u64 a0_6,.int .i64 a0_7,.slice A0_8 l0_8.length c0_8] 75 ?_;intro gb624 hg w23 hbox hb;have BK624:=As_ (hbox);have GW624:=Kw_ HB hg;replace HB:=Ks_ HB hb;clear hb hbox hg)|((with_reducible refine gate_dst (N:=3) rfl ?_);refine Ka_ 3 #[.int .i64 a1_0,.int .i64 a1_1,.int .u64 a1_2,.int .u64 a1_3,.int .u64 a1_4,.int .u64 a1_5,.int .u64 a1_6,.int .i64 a1_7,.slice A1_8 l1_8.length c1_8] 75 ?_;intro gb625 hg w24 hbox hb;have BK625:=As_ (hbox);have GW625:=Kw_ HB hg;have NB624_625:=Kl_ BK624 hg;have NB625_624:=Kr_ BK624 hg;replace BK624:=Kb_ BK624 hb;replace HB:=Ks_ HB hb;clear hb hbox hg;have hnb25:=NB624_625.out;have hnc25:=NB625_624.out;obtain ⟨_,_,_,_,_,_,_,_,_,_,_,_,_,_,_,_,_,_⟩:=Ke9_ BK624.out;obtain ⟨_,_,_,_,_,_,_,_,_,_,_,_,_,_,_,_,_,_⟩:=Ke9_ BK625.out)|((with_reducible refine gate_callee (f:=17) rfl ?_);refine Kg_ (some 10) rfl rfl Try.func17 (by kernel_rfl) rfl #[.agg #[.int .u64 a0_3,.int .u64 a0_4,.int .u64 a0_5,.int .u64 a0_6,.int .i64 a0_7,.slice A0_8 l0_8.length c0_8],.agg #[.int .u64 a1_3,.int .u64 a1_4,.int .u64 a1_5,.int .u64 a1_6,.int .i64 a1_7,.slice A1_8 l1_8.length c1_8]] rfl ?_;(with_reducible refine (R08_Same.calls k a0_3 a0_4 a0_5 a0_6 a0_7 _ _ l0_8 a1_3 a1_4 a1_5 a1_6 a1_7 _ _ l1_8 true _ ?side1 ?side2 ?side3 ?side4 A3.out).mono ?_);(case side1=>repeat (first|exact (Kd.C_below HR0_8.out HB.out)|(with_reducible refine Kd.C_alloc ?_ _)|(with_reducible refine Kd.C_drewN ?_ _)|(with_reducible refine Kd.C_drew ?_)));(case side2=>exact HC0_8.out);(case side3=>repeat (first|exact (Kd.C_below HR1_8.out HB.out)|(with_reducible refine Kd.C_alloc ?_ _)|(with_reducible refine Kd.C_drewN ?_ _)|(with_reducible refine Kd.C_drew ?_)));(case side4=>exact HC1_8.out);rintro e w28 ⟨rfl,hb⟩;refine ⟨_,rfl,?_⟩;replace BK624:=Kb_ BK624 hb;replace BK625:=Kb_ BK625 hb;replace HB:=Ks_ HB hb;(try clear hb);obtain ⟨_,_,_,_,_,_,_,_,_,_,_,_,_,_,_,_,_,_⟩:=Ke9_ BK624.out;obtain ⟨_,_,_,_,_,_,_,_,_,_,_,_,_,_,_,_,_,_⟩:=Ke9_ BK625.out))
  go_ret
  exact ⟨Kh_,K2a_ HB GW624 GW625⟩
 rw [if_pos c5] at H
 have c5b0:(a0_0 == a1_0)=true:=beq_iff_eq.mpr c5
 have c5b1:(a0_0 != a1_0)=false:=bne_eq_false_iff_eq.mpr c5
 clear c5
 by_cases c6:a0_1=a1_1
 ·rw [if_pos c6] at H
  have c6b0:(a0_1 == a1_1)=true:=beq_iff_eq.mpr c6
  have c6b1:(a0_1 != a1_1)=false:=bne_eq_false_iff_eq.mpr c6
  clear c6
  obtain rfl:=Option.some.inj H
  go_enter Try.func38,Try.ntmps38
  go_wp2_with (first|((with_reducible refine gate_dst (N:=2) rfl ?_);refine Ka_ 2 #[.int .i64 a0_0,.int .i64 a0_1,.int .u64 a0_2,.int .u64 a0_3,.int .u64 a0_4,.int .u64 a0_5,.int .u64 a0_6,.int .i64 a0_7,.slice A0_8 l0_8.length c0_8] 75 ?_;intro gb624 hg w7 hbox hb;have BK624:=As_ (hbox);have GW624:=Kw_ HB hg;replace HB:=Ks_ HB hb;clear hb hbox hg)|((with_reducible refine gate_dst (N:=3) rfl ?_);refine Ka_ 3 #[.int .i64 a1_0,.int .i64 a1_1,.int .u64 a1_2,.int .u64 a1_3,.int .u64 a1_4,.int .u64 a1_5,.int .u64 a1_6,.int .i64 a1_7,.slice A1_8 l1_8.length c1_8] 75 ?_;intro gb625 hg w8 hbox hb;have BK625:=As_ (hbox);have GW625:=Kw_ HB hg;have NB624_625:=Kl_ BK624 hg;have NB625_624:=Kr_ BK624 hg;replace BK624:=Kb_ BK624 hb;replace HB:=Ks_ HB hb;clear hb hbox hg;have hnb9:=NB624_625.out;have hnc9:=NB625_624.out;obtain ⟨_,_,_,_,_,_,_,_,_,_,_,_,_,_,_,_,_,_⟩:=Ke9_ BK624.out;obtain ⟨_,_,_,_,_,_,_,_,_,_,_,_,_,_,_,_,_,_⟩:=Ke9_ BK625.out)|((with_reducible refine gate_callee (f:=17) rfl ?_);refine Kg_ (some 10) rfl rfl Try.func17 (by kernel_rfl) rfl #[.agg #[.int .u64 a0_3,.int .u64 a0_4,.int .u64 a0_5,.int .u64 a0_6,.int .i64 a0_7,.slice A0_8 l0_8.length c0_8],.agg #[.int .u64 a1_3,.int .u64 a1_4,.int .u64 a1_5,.int .u64 a1_6,.int .i64 a1_7,.slice A1_8 l1_8.length c1_8]] rfl ?_;(with_reducible refine (R08_Same.calls k a0_3 a0_4 a0_5 a0_6 a0_7 _ _ l0_8 a1_3 a1_4 a1_5 a1_6 a1_7 _ _ l1_8 true _ ?side1 ?side2 ?side3 ?side4 A3.out).mono ?_);(case side1=>repeat (first|exact (Kd.C_below HR0_8.out HB.out)|(with_reducible refine Kd.C_alloc ?_ _)|(with_reducible refine Kd.C_drewN ?_ _)|(with_reducible refine Kd.C_drew ?_)));(case side2=>exact HC0_8.out);(case side3=>repeat (first|exact (Kd.C_below HR1_8.out HB.out)|(with_reducible refine Kd.C_alloc ?_ _)|(with_reducible refine Kd.C_drewN ?_ _)|(with_reducible refine Kd.C_drew ?_)));(case side4=>exact HC1_8.out);rintro e w12 ⟨rfl,hb⟩;refine ⟨_,rfl,?_⟩;replace BK624:=Kb_ BK624 hb;replace BK625:=Kb_ BK625 hb;replace HB:=Ks_ HB hb;(try clear hb);obtain ⟨_,_,_,_,_,_,_,_,_,_,_,_,_,_,_,_,_,_⟩:=Ke9_ BK624.out;obtain ⟨_,_,_,_,_,_,_,_,_,_,_,_,_,_,_,_,_,_⟩:=Ke9_ BK625.out))
  go_ret
  exact ⟨Kh_,K2a_ HB GW624 GW625⟩
 rw [if_neg c6] at H
 have c6b0:=beq_eq_false_iff_ne.mpr c6
 have c6b1:(a0_1 != a1_1)=true:=bne_iff_ne.mpr c6
 obtain rfl:=Option.some.inj H
 go_enter Try.func38,Try.ntmps38
 go_wp2_with (first|((with_reducible refine gate_dst (N:=2) rfl ?_);refine Ka_ 2 #[.int .i64 a0_0,.int .i64 a0_1,.int .u64 a0_2,.int .u64 a0_3,.int .u64 a0_4,.int .u64 a0_5,.int .u64 a0_6,.int .i64 a0_7,.slice A0_8 l0_8.length c0_8] 75 ?_;intro gb624 hg w15 hbox hb;have BK624:=As_ (hbox);have GW624:=Kw_ HB hg;replace HB:=Ks_ HB hb;clear hb hbox hg)|((with_reducible refine gate_dst (N:=3) rfl ?_);refine Ka_ 3 #[.int .i64 a1_0,.int .i64 a1_1,.int .u64 a1_2,.int .u64 a1_3,.int .u64 a1_4,.int .u64 a1_5,.int .u64 a1_6,.int .i64 a1_7,.slice A1_8 l1_8.length c1_8] 75 ?_;intro gb625 hg w16 hbox hb;have BK625:=As_ (hbox);have GW625:=Kw_ HB hg;have NB624_625:=Kl_ BK624 hg;have NB625_624:=Kr_ BK624 hg;replace BK624:=Kb_ BK624 hb;replace HB:=Ks_ HB hb;clear hb hbox hg;have hnb17:=NB624_625.out;have hnc17:=NB625_624.out;obtain ⟨_,_,_,_,_,_,_,_,_,_,_,_,_,_,_,_,_,_⟩:=Ke9_ BK624.out;obtain ⟨_,_,_,_,_,_,_,_,_,_,_,_,_,_,_,_,_,_⟩:=Ke9_ BK625.out)|((with_reducible refine gate_callee (f:=17) rfl ?_);refine Kg_ (some 10) rfl rfl Try.func17 (by kernel_rfl) rfl #[.agg #[.int .u64 a0_3,.int .u64 a0_4,.int .u64 a0_5,.int .u64 a0_6,.int .i64 a0_7,.slice A0_8 l0_8.length c0_8],.agg #[.int .u64 a1_3,.int .u64 a1_4,.int .u64 a1_5,.int .u64 a1_6,.int .i64 a1_7,.slice A1_8 l1_8.length c1_8]] rfl ?_;(with_reducible refine (R08_Same.calls k a0_3 a0_4 a0_5 a0_6 a0_7 _ _ l0_8 a1_3 a1_4 a1_5 a1_6 a1_7 _ _ l1_8 true _ ?side1 ?side2 ?side3 ?side4 A3.out).mono ?_);(case side1=>repeat (first|exact (Kd.C_below HR0_8.out HB.out)|(with_reducible refine Kd.C_alloc ?_ _)|(with_reducible refine Kd.C_drewN ?_ _)|(with_reducible refine Kd.C_drew ?_)));(case side2=>exact HC0_8.out);(case side3=>repeat (first|exact (Kd.C_below HR1_8.out HB.out)|(with_reducible refine Kd.C_alloc ?_ _)|(with_reducible refine Kd.C_drewN ?_ _)|(with_reducible refine Kd.C_drew ?_)));(case side4=>exact HC1_8.out);rintro e w20 ⟨rfl,hb⟩;refine ⟨_,rfl,?_⟩;replace BK624:=Kb_ BK624 hb;replace BK625:=Kb_ BK625 hb;replace HB:=Ks_ HB hb;(try clear hb);obtain ⟨_,_,_,_,_,_,_,_,_,_,_,_,_,_,_,_,_,_⟩:=Ke9_ BK624.out;obtain ⟨_,_,_,_,_,_,_,_,_,_,_,_,_,_,_,_,_,_⟩:=Ke9_ BK625.out))
 go_ret
 exact ⟨Kh_,K2a_ HB GW624 GW625⟩
end Go.Proofs.Ytoagfdpgnfinhaa.Q

set_option linter.unusedVariables false
set_option linter.unusedSimpArgs false
namespace Go.Proofs.Ytoagfdpgnfinhaa.Open
open Go Go.RowKit Go.Deep Go.WideShapes Go.ChangeShapes Go.Proofs.YtoagfdpgnfinhaaW.PrintWords Go.Proofs.YtoagfdpgnfinhaaW.PrintLast Go.Proofs.YtoagfdpgnfinhaaW.PrintMore
structure To (P:Program) (t:TypeId) {α:Type} (K:Kd α) (wf:α→Prop):Prop where
 sz:P.cellsOf t=K.sz
 go:∀ {H:Type} (enc:TypeId × Value→H) (w:World) (fuel:Nat) (cs:List Value) (d:DataW H) (ps:List MemPlace),
  DataW.trod enc P w 0 (fun _=>true) true fuel t cs=some (d,ps)→(DataW.weights P t d).all (·≤reachBytes)=true→∃ x:α,K.K w x cs∧wf x
theorem int {P:Program} {t:TypeId} {k:IntKind} (ht:P.underlying t=some (.int k)) (hs:P.cellsOf t=1):To P t (Kd.int k) (fun n=>(Lit.int k n).wf=true):=by
 refine ⟨hs,fun enc w fuel cs d ps h _=>?_⟩
 obtain ⟨n,rfl,_,hw⟩:=DataW.trod_int ht h
 exact ⟨n,rfl,hw⟩
theorem bool {P:Program} {t:TypeId} (ht:P.underlying t=some .bool) (hs:P.cellsOf t=1):To P t Kd.bool (fun _=>True):=by
 refine ⟨hs,fun enc w fuel cs d ps h _=>?_⟩
 obtain ⟨b,rfl,_⟩:=DataW.trod_bool ht h
 exact ⟨b,rfl,trivial⟩
theorem string {P:Program} {t:TypeId} (ht:P.underlying t=some .string) (hs:P.cellsOf t=1):To P t Kd.string (fun s=>s.size≤140737488351232):=by
 refine ⟨hs,fun enc w fuel cs d ps h hw=>?_⟩
 obtain ⟨s,rfl,hx,_⟩:=DataW.trod_string ht h
 obtain ⟨rfl,_⟩:=Prod.mk.inj hx
 refine ⟨s,rfl,?_⟩
 simp only [DataW.weights,List.all_cons,List.all_nil,Bool.and_true,reachBytes,Array.length_toList] at hw
 exact of_decide_eq_true hw
theorem weightsAll_mem {H:Type} {P:Program} {e:TypeId}:∀ {l:List (DataW H)} {d:DataW H},d ∈ l→(DataW.weightsAll P e l).all (·≤reachBytes)=true→(DataW.weights P e d).all (·≤reachBytes)=true
 | [],_,h,_=>by cases h
 | a :: l,d,h,hw=>by
  simp only [DataW.weightsAll,List.all_append,Bool.and_eq_true] at hw
  rcases List.mem_cons.1 h with rfl|h
  ·exact hw.1
  ·exact weightsAll_mem h hw.2
theorem add_add (a:Addr) (i j:Nat):(a.add i).add j=a.add (i+j):=by
 unfold Addr.add
 by_cases h1:i=0 <;> by_cases h2:j=0 <;> simp [h1,h2,Nat.add_assoc]
theorem slice {P:Program} {t e:TypeId} {α:Type} {K:Kd α} {wf:α→Prop} {B:Nat} (ht:P.underlying t=some (.slice e)) (hs:P.cellsOf t=1) (hB:P.bytesOf e=B) (he:To P e K wf) :
  To P t (Kd.slice e K) (fun l=>(∀ x ∈ l,wf x)∧l.length * B≤140737488351232):=by
 refine ⟨hs,fun {H} enc w fuel cs d ps h hw=>?_⟩
 rcases open_slice ht h with ⟨rfl,_⟩|⟨a,len,cap,m,n,D,Pl,rfl,_,hl,hm,hmc,hx,hel⟩
 ·exact ⟨[],⟨none,0,rfl,Nat.le_refl _,rfl,by simp,fun h=>absurd h (by simp)⟩,by simp,by simp⟩
 ·obtain ⟨rfl,_⟩:=Prod.mk.inj hx
  simp only [if_true] at hmc
  subst hmc
  have hw1:=hw
  simp only [DataW.weights,ht,List.all_cons,List.all_append,Bool.and_eq_true,decide_eq_true_eq,List.length_map,List.length_range,hB,reachBytes] at hw1
  have hchoose:∀ i,i<len→∃ x:α,(∃ cs',w.cells? 0 (a.add (i * P.cellsOf e)) (P.cellsOf e)=some cs'∧K.K w x cs')∧wf x:=by
   intro i hi
   obtain ⟨cs',h1,h2⟩:=hel i (by omega)
   obtain ⟨x,hx1,hx2⟩:=he.go enc w n cs' (D i) (Pl i) h2 (weightsAll_mem (List.mem_map.2 ⟨i,by simpa using hi,rfl⟩) hw1.2.1)
   exact ⟨x,⟨cs',h1,hx1⟩,hx2⟩
  have hall:∀ k,k≤len→∃ l:List α,l.length=k∧∀ i x,l[i]?=some x→(∃ cs',w.cells? 0 (a.add (i * P.cellsOf e)) (P.cellsOf e)=some cs'∧K.K w x cs')∧wf x:=by
   intro k
   induction k with
   | zero=>intro _;exact ⟨[],rfl,fun i x h=>by simp at h⟩
   | succ k ih =>
    intro hk
    obtain ⟨l,h1,h2⟩:=ih (by omega)
    obtain ⟨x,hx⟩:=hchoose k (by omega)
    refine ⟨l++[x],by simp [h1],fun i y hy=>?_⟩
    by_cases hi:i<l.length
    ·exact h2 i y (by rwa [List.getElem?_append_left hi] at hy)
    ·rw [List.getElem?_append_right (by omega)] at hy
     have:i=l.length:=by
      have:=(List.getElem?_eq_some_iff.1 hy).1
      simp at this;omega
     subst this
     simp at hy
     subst hy
     rw [h1];exact hx
  obtain ⟨l,h1,h2⟩:=hall len (Nat.le_refl _)
  refine ⟨l,⟨some a,m,by rw [h1],by omega,rfl,by unfold maxLen at hm;omega,fun _=>⟨a,rfl,fun j p hj=>?_⟩⟩,?_,?_⟩
  ·obtain ⟨⟨cs',g1,g2⟩,_⟩:=h2 j p hj
   obtain ⟨_,g3,g4⟩:=World.cells?_some g1
   refine ⟨cs',by rw [g3,he.sz],g2,fun i u hu=>?_⟩
   have hi:i<P.cellsOf e:=by
    have:=(List.getElem?_eq_some_iff.1 hu).1
    omega
   rw [← hu,← g4 i hi,add_add,he.sz]
  ·intro x hx
   obtain ⟨i,hi,rfl⟩:=List.getElem_of_mem hx
   exact (h2 i _ (List.getElem?_eq_getElem hi)).2
  ·rw [h1]
   refine Nat.le_trans (Nat.mul_le_mul_right _ ?_) (of_decide_eq_true hw1.1)
   omega
structure Fs (P:Program) (o:Nat) (fs:List (TypeId × Nat)) {α:Type} (K:Kd α) (wf:α→Prop):Prop where
 go:∀ {H:Type} (enc:TypeId × Value→H) (w:World) (n:Nat) (cs:List Value) (xs:List (DataW H × List MemPlace)),cs.length=o+K.sz→xs.length=fs.length →
  (∀ (i:Nat) (f:TypeId × Nat),fs[i]?=some f→DataW.trod enc P w 0 (fun _=>true) true n f.1 ((cs.drop f.2).take (P.cellsOf f.1))=xs[i]?) →
  (DataW.weightsEach P (fs.map (·.1)) (xs.map (·.1))).all (·≤reachBytes)=true→∃ x:α,K.K w x (cs.drop o)∧wf x
theorem one {P:Program} {o:Nat} {t:TypeId} {α:Type} {K:Kd α} {wf:α→Prop} (h:To P t K wf):Fs P o [(t,o)] K wf:=by
 refine ⟨fun enc w n cs xs hl hx hr hw=>?_⟩
 match xs,hx with
 | [x],_ =>
  have h0:=hr 0 _ rfl
  simp only [List.getElem?_cons_zero] at h0
  rw [h.sz,List.take_of_length_le (by simp;omega)] at h0
  simp only [List.map_cons,List.map_nil,DataW.weightsEach,List.append_nil] at hw
  exact h.go enc w n _ x.1 x.2 h0 hw
theorem cons {P:Program} {o:Nat} {t:TypeId} {fs:List (TypeId × Nat)} {α β:Type} {K:Kd α} {wf:α→Prop} {L:Kd β} {wg:β→Prop} (h:To P t K wf) (hs:Fs P (o+K.sz) fs L wg) :
  Fs P o ((t,o) :: fs) (Kd.pair K L) (fun x=>wf x.1∧wg x.2):=by
 refine ⟨fun {H} enc w n cs xs hl hx hr hw=>?_⟩
 have hsz:(Kd.pair K L).sz=K.sz+L.sz:=rfl
 match xs,hx with
 | x :: xs,hx =>
  have h0:=hr 0 _ rfl
  simp only [List.getElem?_cons_zero] at h0
  rw [h.sz] at h0
  simp only [List.map_cons,DataW.weightsEach,List.all_append,Bool.and_eq_true] at hw
  obtain ⟨a,ha,hwa⟩:=h.go enc w n _ x.1 x.2 h0 hw.1
  obtain ⟨b,hb,hwb⟩:=hs.go enc w n cs xs (by omega) (by simpa using hx) (fun i f hf=>by have:=hr (i+1) f (by simpa using hf);simpa using this) hw.2
  refine ⟨(a,b),⟨_,_,?_,ha,hb⟩,hwa,hwb⟩
  rw [← List.drop_drop,List.take_append_drop]
theorem struct {P:Program} {t:TypeId} {fs:Array Field} {gs:List (TypeId × Nat)} {α:Type} {K:Kd α} {wf:α→Prop} (ht:P.underlying t=some (.struct fs)) (hg:fs.toList.map (fun f=>(f.type,f.offset))=gs) (hs:P.cellsOf t=K.sz) (h:Fs P 0 gs K wf):To P t K wf:=by
 refine ⟨hs,fun {H} enc w fuel cs d ps hr hw=>?_⟩
 obtain ⟨xs,n,_,hx,hl,hxl,hel⟩:=DataW.trod_struct ht hr
 obtain ⟨rfl,_⟩:=Prod.mk.inj hx
 have:=h.go enc w n cs xs (by omega) (by rw [← hg];simpa using hxl) (fun i f hf=>?_) ?_
 ·simpa using this
 ·rw [← hg] at hf
  simp only [List.getElem?_map,Option.map_eq_some_iff] at hf
  obtain ⟨g,hg1,rfl⟩:=hf
  exact hel i g (by simpa using hg1)
 ·rw [← hg]
  simp only [DataW.weights,ht] at hw
  simpa [List.map_map,Function.comp_def] using hw
theorem weightsAll_each {H:Type} (P:Program) (e:TypeId):∀ (l:List (DataW H)) (ts:List TypeId),ts.length=l.length→(∀ t ∈ ts,t=e)→DataW.weightsEach P ts l=DataW.weightsAll P e l
 | [],[],_,_=>rfl
 | [],_ :: _,h,_=>by simp at h
 | _ :: _,[],h,_=>by simp at h
 | d :: l,t :: ts,h,ht=>by
  simp only [DataW.weightsEach,DataW.weightsAll]
  rw [ht t (by simp),weightsAll_each P e l ts (by simpa using h) (fun x hx=>ht x (by simp [hx]))]
theorem array {P:Program} {t e:TypeId} {n s:Nat} {α:Type} {K:Kd α} {wf:α→Prop} (ht:P.underlying t=some (.array n e)) (he:P.cellsOf e=s) (hs:P.cellsOf t=K.sz) (h:Fs P 0 ((List.range n).map fun i=>(e,i * s)) K wf):To P t K wf:=by
 refine ⟨hs,fun {H} enc w fuel cs d ps hr hw=>?_⟩
 obtain ⟨xs,m,_,hx,hl,hxl,hel⟩:=DataW.trod_array ht hr
 obtain ⟨rfl,_⟩:=Prod.mk.inj hx
 have:=h.go enc w m cs xs (by omega) (by simpa using hxl) (fun i f hf=>?_) ?_
 ·simpa using this
 ·simp only [List.getElem?_map,Option.map_eq_some_iff] at hf
  obtain ⟨g,hg1,rfl⟩:=hf
  have hi:i<n:=by have:=(List.getElem?_eq_some_iff.1 hg1).1;simpa using this
  have hgi:g=i:=by
   have:=(List.getElem?_eq_some_iff.1 hg1).2
   simpa using this.symm
  subst hgi
  have:=hel g hi
  rw [he] at this ⊢
  exact this
 ·simp only [DataW.weights,ht] at hw
  rw [weightsAll_each P e _ _ (by simp [hxl]) (by simp)]
  exact hw
theorem iso {P:Program} {t:TypeId} {α β:Type} {K:Kd α} {wf:α→Prop} (f:β→α) (g:α→β) (hfg:∀ a,f (g a)=a) (h:To P t K wf):To P t (Kd.iso K f) (fun b=>wf (f b)):=by
 refine ⟨h.sz,fun {H} enc w fuel cs d ps hr hw=>?_⟩
 obtain ⟨x,h1,h2⟩:=h.go enc w fuel cs d ps hr hw
 refine ⟨g x,?_,?_⟩
 ·show K.K w (f (g x)) cs
  rw [hfg];exact h1
 ·rw [hfg];exact h2
theorem imp {P:Program} {t:TypeId} {α:Type} {K:Kd α} {wf wf':α→Prop} (h:To P t K wf) (hi:∀ x,wf x→wf' x):To P t K wf' :=
 ⟨h.sz,fun enc w fuel cs d ps hr hw=>by
  obtain ⟨x,h1,h2⟩:=h.go enc w fuel cs d ps hr hw
  exact ⟨x,h1,hi x h2⟩⟩
theorem at_param {P:Program} {t:TypeId} {α:Type} {K:Kd α} {wf:α→Prop} (h:To P t K wf) {H:Type} {enc:TypeId × Value→H} {w:World} {v:Value} {d:DataW H} {ps:List MemPlace} {ts:List TypeId} {ds:List (DataW H)} {j:Nat}
  (hsz:(DataW.weightsEach P ts ds).all (·≤reachBytes)=true) (ht:ts[j]?=some t) (hd:ds[j]?=some d) (hr:DataW.Trod enc P w 0 (fun _=>true) true t v d ps):∃ x:α,K.K w x v.cells.toList∧wf x:=by
 obtain ⟨fuel,hf⟩:=hr
 refine h.go enc w fuel _ d ps hf ?_
 rw [List.all_eq_true]
 intro x hx
 exact List.all_eq_true.1 hsz x (DataW.weights_mem_each ht hd x hx)
end Go.Proofs.Ytoagfdpgnfinhaa.Open

set_option linter.unusedVariables false
namespace Go.Proofs.Ytoagfdpgnfinhaa.Q
open Go.RowKit Go.Proofs.Ytoagfdpgnfinhaa.Q Go.Proofs.YtoagfdpgnfinhaaW.PrintWords Go.Proofs.YtoagfdpgnfinhaaW.PrintLast Go.Proofs.YtoagfdpgnfinhaaW.PrintMore
open Go.Proofs.Ytoagfdpgnfinhaa
def wf28 (x:S28):Prop:=((Lit.int .u64 x.f0).wf=true)∧((Lit.int .u64 x.f1).wf=true)∧((Lit.int .u64 x.f2).wf=true)∧((Lit.int .u64 x.f3).wf=true)
theorem to28:Open.To Try.prog 28 k28 wf28:=Open.imp (Open.iso (fun x:S28=>(x.f0,(x.f1,(x.f2,x.f3)))) (fun y=>(⟨y.1,y.2.1,y.2.2.1,y.2.2.2⟩:S28)) (fun _=>rfl) (Open.array (n:=4) (e:=26) (s:=1) Try.underlying28 (by kernel_rfl) (by kernel_rfl) (show Open.Fs Try.prog 0 [(26,0),(26,1),(26,2),(26,3)] _ _ from (Open.cons (Open.int Try.underlying26 (by kernel_rfl)) (Open.cons (Open.int Try.underlying26 (by kernel_rfl)) (Open.cons (Open.int Try.underlying26 (by kernel_rfl)) (Open.one (Open.int Try.underlying26 (by kernel_rfl))))))))) (fun _ h=>h)
def wf30 (x:S30):Prop:=(wf28 x.f0)∧((Lit.int .i64 x.f1).wf=true)
theorem to30:Open.To Try.prog 30 k30 wf30:=Open.imp (Open.iso (fun x:S30=>(x.f0,x.f1)) (fun y=>(⟨y.1,y.2⟩:S30)) (fun _=>rfl) (Open.struct Try.underlying30 (by rfl) (by kernel_rfl) (show Open.Fs Try.prog 0 [(28,0),(3,4)] _ _ from (Open.cons to28 (Open.one (Open.int Try.underlying3 (by kernel_rfl))))))) (fun _ h=>h)
def wf39 (x:S39):Prop:=(wf30 x.f0)∧(True)
theorem to39:Open.To Try.prog 39 k39 wf39:=Open.imp (Open.iso (fun x:S39=>(x.f0,x.f1)) (fun y=>(⟨y.1,y.2⟩:S39)) (fun _=>rfl) (Open.struct Try.underlying39 (by rfl) (by kernel_rfl) (show Open.Fs Try.prog 0 [(30,0),(4,5)] _ _ from (Open.cons to30 (Open.one (Open.bool Try.underlying4 (by kernel_rfl))))))) (fun _ h=>h)
def wf107 (x:S107):Prop:=(x.f0.size≤140737488351232)∧(x.f1.size≤140737488351232)∧(x.f2.size≤140737488351232)∧(True)
theorem to107:Open.To Try.prog 107 k107 wf107:=Open.imp (Open.iso (fun x:S107=>(x.f0,(x.f1,(x.f2,x.f3)))) (fun y=>(⟨y.1,y.2.1,y.2.2.1,y.2.2.2⟩:S107)) (fun _=>rfl) (Open.struct Try.underlying107 (by rfl) (by kernel_rfl) (show Open.Fs Try.prog 0 [(9,0),(9,1),(9,2),(4,3)] _ _ from (Open.cons (Open.string Try.underlying9 (by kernel_rfl)) (Open.cons (Open.string Try.underlying9 (by kernel_rfl)) (Open.cons (Open.string Try.underlying9 (by kernel_rfl)) (Open.one (Open.bool Try.underlying4 (by kernel_rfl))))))))) (fun _ h=>h)
def wf159 (x:S159):Prop:=(wf107 x.f0)∧(True)∧((Lit.int .u8 x.f2).wf=true)
theorem to159:Open.To Try.prog 159 k159 wf159:=Open.imp (Open.iso (fun x:S159=>(x.f0,(x.f1,x.f2))) (fun y=>(⟨y.1,y.2.1,y.2.2⟩:S159)) (fun _=>rfl) (Open.struct Try.underlying159 (by rfl) (by kernel_rfl) (show Open.Fs Try.prog 0 [(107,0),(4,4),(5,5)] _ _ from (Open.cons to107 (Open.cons (Open.bool Try.underlying4 (by kernel_rfl)) (Open.one (Open.int Try.underlying5 (by kernel_rfl)))))))) (fun _ h=>h)
def wf42 (x:S42):Prop:=(wf39 x.f0)∧((∀ x_ ∈ x.f1,wf159 x_)∧x.f1.length * 64≤140737488351232)∧(True)
theorem to42:Open.To Try.prog 42 k42 wf42:=Open.imp (Open.iso (fun x:S42=>(x.f0,(x.f1,x.f2))) (fun y=>(⟨y.1,y.2.1,y.2.2⟩:S42)) (fun _=>rfl) (Open.struct Try.underlying42 (by rfl) (by kernel_rfl) (show Open.Fs Try.prog 0 [(39,0),(40,6),(4,7)] _ _ from (Open.cons to39 (Open.cons (Open.slice (e:=159) (B:=64) Try.underlying40 (by kernel_rfl) (by kernel_rfl) to159) (Open.one (Open.bool Try.underlying4 (by kernel_rfl)))))))) (fun _ h=>h)
def wf65 (x:S65):Prop:=((Lit.int .i64 x.f0).wf=true)∧((Lit.int .i64 x.f1).wf=true)∧((Lit.int .u64 x.f2).wf=true)∧(wf42 x.f3)∧(True)
theorem to65:Open.To Try.prog 65 k65 wf65:=Open.imp (Open.iso (fun x:S65=>(x.f0,(x.f1,(x.f2,(x.f3,x.f4))))) (fun y=>(⟨y.1,y.2.1,y.2.2.1,y.2.2.2.1,y.2.2.2.2⟩:S65)) (fun _=>rfl) (Open.struct Try.underlying65 (by rfl) (by kernel_rfl) (show Open.Fs Try.prog 0 [(3,0),(3,1),(26,2),(42,3),(4,11)] _ _ from (Open.cons (Open.int Try.underlying3 (by kernel_rfl)) (Open.cons (Open.int Try.underlying3 (by kernel_rfl)) (Open.cons (Open.int Try.underlying26 (by kernel_rfl)) (Open.cons to42 (Open.one (Open.bool Try.underlying4 (by kernel_rfl)))))))))) (fun _ h=>h)
end Go.Proofs.Ytoagfdpgnfinhaa.Q

set_option linter.unusedVariables false
set_option linter.unusedSimpArgs false
namespace Go.Proofs.Ytoagfdpgnfinhaa.Pure
open Go.RowKit Go.Proofs.YtoagfdpgnfinhaaW.PrintWords Go.Proofs.YtoagfdpgnfinhaaW.PrintLast Go.Proofs.YtoagfdpgnfinhaaW.PrintMore
def bl (s:ByteArray):List Nat:=s.data.toList.map UInt8.toNat
theorem bl_length (s:ByteArray):(bl s).length=s.size:=by unfold bl;rw [List.length_map,Array.length_toList];rfl
theorem bl_lt (s:ByteArray):∀ b ∈ bl s,b<256:=by
 intro b hb
 obtain ⟨u,_,rfl⟩:=List.mem_map.1 hb
 exact u.toNat_lt
theorem map_toNat_inj:∀ {l m:List UInt8},l.map UInt8.toNat=m.map UInt8.toNat→l=m
 | [],[],_=>rfl
 | [],_ :: _,h=>by simp at h
 | _ :: _,[],h=>by simp at h
 | a :: l,b :: m,h=>by
  simp only [List.map_cons,List.cons.injEq] at h
  rw [UInt8.toNat_inj.1 h.1,map_toNat_inj h.2]
theorem ba_ext {s t:ByteArray} (h:s.data.toList=t.data.toList):s=t:=by
 cases s;cases t
 simp only [ByteArray.mk.injEq]
 exact Array.toList_inj.1 h
theorem bl_inj {s t:ByteArray} (h:bl s=bl t):s=t:=ba_ext (map_toNat_inj h)
theorem bl_append (s t:ByteArray):bl (s++t)=bl s++bl t:=by
 unfold bl;rw [← List.map_append,ByteArray.data_append];simp
theorem bl_extract (s:ByteArray) (a b:Nat):bl (s.extract a b)=((bl s).take b).drop a:=by
 unfold bl
 rw [← List.map_take,← List.map_drop]
 congr 1
 simp [ByteArray.data_extract,Array.toList_extract,List.extract_eq_take_drop,List.drop_take]
theorem bl_take (s:ByteArray) (n:Nat):bl (s.extract 0 n)=(bl s).take n:=by rw [bl_extract,List.drop_zero]
theorem bl_drop (s:ByteArray) (n:Nat):bl (s.extract n s.size)=(bl s).drop n:=by rw [bl_extract,← bl_length,List.take_length]
theorem toList_data (s:ByteArray):s.toList=s.data.toList:=by
 exact ByteArray.toList_eq s
theorem toList_iff {s t:ByteArray}:s.toList=t.toList ↔ s=t:=by
 rw [toList_data,toList_data];exact ⟨ba_ext,fun h=>by rw [h]⟩
def NL (l:List Nat):List Int:=l.map fun n:Nat=>(n:Int)
theorem bl_str (l:List Nat) (h:∀ b ∈ l,b<256):bl (strOfNums (NL l))=l:=by
 unfold bl strOfNums NL
 simp only [List.map_map]
 conv=>rhs;rw [← List.map_id l]
 apply List.map_congr_left
 intro b hb
 have:=h b hb
 simp [UInt8.toNat_ofNat_of_lt',this]
theorem bl_nil {s:ByteArray}:bl s=[] ↔ s=⟨#[]⟩:=⟨fun h=>bl_inj (by rw [h];rfl),fun h=>by rw [h];rfl⟩
theorem bt_bl (s:ByteArray) (i:Nat) (h:i<s.size):∃ b,(bl s)[i]?=some b∧bt s i=(b:Int)∧b<256:=by
 have hl:i<(bl s).length:=by rw [bl_length];exact h
 refine ⟨(bl s)[i],List.getElem?_eq_getElem hl,?_,bl_lt s _ (List.getElem_mem hl)⟩
 unfold bt
 rw [dif_pos (by simpa using h)]
 simp [bl,ByteArray.getElem_eq_getElem_data]
theorem wrap_u64 {x:Int} (h0:0≤x) (h1:x<18446744073709551616):IntKind.u64.wrap x=x:=by
 simp only [IntKind.wrap_u64];omega
theorem wrap64_id {x:Int} (h0 : -9223372036854775808≤x) (h1:x≤9223372036854775807):wrap64 x=x:=by
 unfold wrap64;omega
end Go.Proofs.Ytoagfdpgnfinhaa.Pure

set_option linter.unusedVariables false
set_option linter.unusedSimpArgs false
namespace Go.Proofs.Ytoagfdpgnfinhaa.Pure
open Go.RowKit Go.Proofs.Ytoagfdpgnfinhaa.Q Go.Proofs.YtoagfdpgnfinhaaW.PrintWords Go.Proofs.YtoagfdpgnfinhaaW.PrintLast Go.Proofs.YtoagfdpgnfinhaaW.PrintMore Go.Proofs.Ytoagfdpgnfinhaa.Plain
theorem i64_of {x:Int} (h:(Lit.int .i64 x).wf=true) : -9223372036854775808≤x∧x≤9223372036854775807:=by
 have h:IntKind.i64.min≤x∧x≤IntKind.i64.max:=by simpa only [Lit.wf,Bool.and_eq_true,decide_eq_true_eq] using h
 exact h
theorem u64_of {x:Int} (h:(Lit.int .u64 x).wf=true):0≤x∧x≤18446744073709551615:=by
 have h:IntKind.u64.min≤x∧x≤IntKind.u64.max:=by simpa only [Lit.wf,Bool.and_eq_true,decide_eq_true_eq] using h
 exact h
def own (a b c d e:Int):Int:=if e=1 then a else if e=2 then b else if e=3 then c else if e=4 then d else 0
def okS (a b c d e:Int):Prop:=(a≤1152921504606846976∧b≤1152921504606846976∧c≤1152921504606846976∧d≤1152921504606846976)∧0<own a b c d e
theorem okS_dc {a b c d e:Int} (h:okS a b c d e):1≤e∧e≤4:=by
 have h:=h.2
 unfold own at h
 by_cases h1:e=1
 ·omega
 by_cases h2:e=2
 ·omega
 by_cases h3:e=3
 ·omega
 by_cases h4:e=4
 ·omega
 rw [if_neg h1,if_neg h2,if_neg h3,if_neg h4] at h
 omega
theorem mark_loop (v0 v1 v2 v3 d D:Int) (k:Nat):L15_Mark_mark.l0 (k+4) 0 v0 v1 v2 v3 d true 0 0 0 0 D =
  (if D=1 then some (IntKind.u64.wrap (1+Int.tmod v0 4),Int.tmod v1 4,Int.tmod v2 4,0,D) else if D=2 then some (Int.tmod v0 4,IntKind.u64.wrap (1+Int.tmod v1 4),Int.tmod v2 4,0,D) else
     if D=3 then some (Int.tmod v0 4,Int.tmod v1 4,IntKind.u64.wrap (1+Int.tmod v2 4),0,D) else if D=4 then some (Int.tmod v0 4,Int.tmod v1 4,Int.tmod v2 4,IntKind.u64.wrap (1+0),D) else none):=by
 rw [L15_Mark_mark.l0,if_pos (by omega),if_pos rfl,show wrap64 (0+1)=1 from wrap64_id (by omega) (by omega)]
 rw [L15_Mark_mark.l0,if_pos (by omega),if_neg (by omega),if_pos rfl,show wrap64 (1+1)=2 from wrap64_id (by omega) (by omega)]
 rw [L15_Mark_mark.l0,if_pos (by omega),if_neg (by omega),if_neg (by omega),if_pos rfl,show wrap64 (2+1)=3 from wrap64_id (by omega) (by omega)]
 rw [L15_Mark_mark.l0,if_neg (by omega)]
theorem mark_own {v0 v1 v2 v3 d:Int} (h0:(Lit.int .u64 v0).wf=true) (h1:(Lit.int .u64 v1).wf=true) (h2:(Lit.int .u64 v2).wf=true) {k:Nat} (hk:4≤k) :
  ∃ n0 n1 n2 n3 dc:Nat,L15_Mark_mark.f k v0 v1 v2 v3 d true=some ((n0:Int),(n1:Int),(n2:Int),(n3:Int),(dc:Int))∧(n0≤4∧n1≤4∧n2≤4∧n3≤4)∧1≤dc∧dc≤3∧okS n0 n1 n2 n3 dc:=by
 have h0:=u64_of h0
 have h1:=u64_of h1
 have h2:=u64_of h2
 obtain ⟨k,rfl⟩:∃ m,k=m+4:=⟨k - 4,by omega⟩
 unfold L15_Mark_mark.f
 rw [if_pos rfl]
 have hw:0≤IntKind.u64.wrap d:=by rw [IntKind.wrap_u64];omega
 have hD:wrap64 (1+(wrap64 (Int.tmod (IntKind.u64.wrap d) 3)))=1+(IntKind.u64.wrap d) % 3:=by
  rw [Int.tmod_eq_emod_of_nonneg hw,wrap64_id (x:=(IntKind.u64.wrap d) % 3) (by omega) (by omega),wrap64_id (by omega) (by omega)]
 rw [hD,mark_loop,Int.tmod_eq_emod_of_nonneg h0.1,Int.tmod_eq_emod_of_nonneg h1.1,Int.tmod_eq_emod_of_nonneg h2.1,wrap_u64 (x:=1+v0 % 4) (by omega) (by omega),wrap_u64 (x:=1+v1 % 4) (by omega) (by omega),wrap_u64 (x:=1+v2 % 4) (by omega) (by omega)]
 generalize IntKind.u64.wrap d=q at hw ⊢
 clear hD
 have c:q % 3=0∨q % 3=1∨q % 3=2:=by omega
 rcases c with c|c|c
 ·rw [c,if_pos (by omega)]
  refine ⟨(1+v0 % 4).toNat,(v1 % 4).toNat,(v2 % 4).toNat,0,1,by rw [Int.toNat_of_nonneg (by omega),Int.toNat_of_nonneg (by omega),Int.toNat_of_nonneg (by omega)];rfl,by omega,by omega,by omega,by omega,?_⟩
  unfold own
  rw [if_pos (by omega)]
  omega
 ·rw [c,if_neg (by omega),if_pos (by omega)]
  refine ⟨(v0 % 4).toNat,(1+v1 % 4).toNat,(v2 % 4).toNat,0,2,by rw [Int.toNat_of_nonneg (by omega),Int.toNat_of_nonneg (by omega),Int.toNat_of_nonneg (by omega)];rfl,by omega,by omega,by omega,by omega,?_⟩
  unfold own
  rw [if_neg (by omega),if_pos (by omega)]
  omega
 ·rw [c,if_neg (by omega),if_neg (by omega),if_pos (by omega)]
  refine ⟨(v0 % 4).toNat,(v1 % 4).toNat,(1+v2 % 4).toNat,0,3,by rw [Int.toNat_of_nonneg (by omega),Int.toNat_of_nonneg (by omega),Int.toNat_of_nonneg (by omega)];rfl,by omega,by omega,by omega,by omega,?_⟩
  unfold own
  rw [if_neg (by omega),if_neg (by omega),if_pos (by omega)]
  omega
abbrev Wr:=S107
abbrev Pt:=S159
def fits (x:Wr):Prop:=x.f0.size≤140737488351232∧x.f1.size≤140737488351232∧x.f2.size≤140737488351232
theorem str_size (l:List Int):(strOfNums l).size=l.length:=by
 unfold strOfNums
 simp [ByteArray.size]
def wrt (p:Pt) (own:Bool):Wr :=
 if own=true then (if 224≤p.f2 then ⟨strOfNums [98,IntKind.u8.wrap (48+Int.tmod p.f2 2)],strOfNums [IntKind.u8.wrap (97+Int.tmod (IntKind.u8.wrap (Int.tdiv p.f2 2)) 4)],⟨#[]⟩,true⟩
  else ⟨strOfNums [98,IntKind.u8.wrap (48+Int.tmod p.f2 2)],strOfNums [IntKind.u8.wrap (97+Int.tmod (IntKind.u8.wrap (Int.tdiv p.f2 2)) 4)],p.f0.f2.extract 0 (min p.f0.f2.size 8),false⟩)
 else p.f0
theorem wrt_f (p:Pt) (own:Bool) (h:fits p.f0):L15_Put_write.f p.f0.f0 p.f0.f1 p.f0.f2 p.f0.f3 own p.f2=some ((wrt p own).f0,(wrt p own).f1,(wrt p own).f2,(wrt p own).f3):=by
 unfold L15_Put_write.f wrt
 cases own with
 | true =>
  rw [if_pos rfl,if_pos rfl,if_pos (by have:=h.2.2;omega)]
  by_cases c:224≤p.f2
  ·rw [if_pos c,if_pos c]
  ·rw [if_neg c,if_neg c]
 | false=>rw [if_neg (by simp),if_neg (by simp)]
theorem wrt_fits (p:Pt) (own:Bool) (h:fits p.f0):fits (wrt p own):=by
 unfold wrt
 cases own with
 | true =>
  rw [if_pos rfl]
  have z:(⟨#[]⟩:ByteArray).size=0:=rfl
  by_cases c:224≤p.f2
  ·rw [if_pos c]
   refine ⟨?_,?_,?_⟩
   ·show (strOfNums _).size≤_;rw [str_size];simp
   ·show (strOfNums _).size≤_;rw [str_size];simp
   ·show (⟨#[]⟩:ByteArray).size≤_;omega
  ·rw [if_neg c]
   refine ⟨?_,?_,?_⟩
   ·show (strOfNums _).size≤_;rw [str_size];simp
   ·show (strOfNums _).size≤_;rw [str_size];simp
   ·show (ByteArray.extract _ _ _).size≤_;rw [ByteArray.size_extract];omega
 | false=>rw [if_neg (by simp)];exact h
def same (w y:Wr):Bool:=decide (y.f0=w.f0) && decide (y.f1=w.f1)
def wrs (most:Nat) (whole:Bool):List Pt→List Wr→List Wr
 | [],out=>out
 | p :: ps,out=>if out.length<most then (if (whole && out.any (same (wrt p (whole || p.f1))))=true then wrs most whole ps out else wrs most whole ps (out++[wrt p (whole || p.f1)])) else out
theorem wrs_len (most:Nat) (whole:Bool):∀ l out,out.length≤most→(wrs most whole l out).length≤most
 | [],out,h=>h
 | p :: ps,out,h=>by
  unfold wrs
  by_cases c:out.length<most
  ·rw [if_pos c]
   split
   ·exact wrs_len most whole ps out h
   ·exact wrs_len most whole ps _ (by simp;omega)
  ·rw [if_neg c];exact h
theorem wrs_all (most:Nat) (whole:Bool) (Q:Wr→Prop):∀ l out,(∀ p ∈ l,Q (wrt p (whole || p.f1)))→(∀ x ∈ out,Q x)→∀ x ∈ wrs most whole l out,Q x
 | [],out,_,h=>h
 | p :: ps,out,hl,h=>by
  unfold wrs
  have hl':∀ q ∈ ps,Q (wrt q (whole || q.f1)):=fun q hq=>hl q (by simp [hq])
  split
  ·split
   ·exact wrs_all most whole Q ps out hl' h
   ·refine wrs_all most whole Q ps _ hl' (fun x hx=>?_)
    rcases List.mem_append.1 hx with hx|hx
    ·exact h x hx
    ·rw [List.mem_singleton.1 hx];exact hl p (by simp)
  ·exact h
theorem idx (i:Nat) (h:i≤4611686018427387904):wrap64 ((i:Int)+1)=((i+1:Nat):Int):=by
 rw [wrap64_id (by omega) (by omega)]
 omega
theorem rdW (l:List Wr) (j:Nat) (h:j<l.length):rd_T107 l (j:Int)=l[j]:=by
 unfold rd_T107
 rw [Int.toNat_natCast,List.getD_eq_getElem?_getD,List.getElem?_eq_getElem h]
 rfl
theorem rdP (l:List Pt) (j:Nat) (h:j<l.length):rd_T159 l (j:Int)=l[j]:=by
 unfold rd_T159
 rw [Int.toNat_natCast,List.getD_eq_getElem?_getD,List.getElem?_eq_getElem h]
 rfl
theorem wr_l1 (l:List Pt) (most:Int) (whole:Bool) (out:List Wr) (i:Int) (w:Wr) (h7:out.length≤1000) (K:Nat):∀ d j fl,j+d=out.length →
  L15_writes.l1 (K+d+1) l most whole out i fl (j:Int) w.f0 w.f1 w.f2 w.f3 =
   if (whole && (fl || (out.drop j).any (same w)))=true then L15_writes.l0 K l most whole out (wrap64 (i+1)) else L15_writes.l0 K l most whole (out++[w]) (wrap64 (i+1)):=by
 intro d
 induction d with
 | zero =>
  intro j fl hj
  have e:out.drop j=[]:=List.drop_eq_nil_of_le (by omega)
  rw [Nat.add_zero,L15_writes.l1,if_neg (by omega),e,List.any_nil,Bool.or_false]
  cases whole with
  | true =>
   rw [if_pos rfl]
   cases fl with
   | true=>rw [if_pos rfl,if_pos (by rfl)]
   | false=>rw [if_neg (by simp),if_pos (by omega),if_neg (by simp)]
  | false=>rw [if_neg (by simp),if_pos (by omega),if_neg (by simp)]
 | succ d ih =>
  intro j fl hj
  have hlt:j<out.length:=by omega
  have e:out.drop j=out[j] :: out.drop (j+1):=List.drop_eq_getElem_cons hlt
  rw [show K+(d+1)+1=(K+d+1)+1 by omega,L15_writes.l1,if_pos (by omega),idx j (by omega),e,List.any_cons]
  cases fl with
  | true =>
   rw [if_pos rfl,ih (j+1) true (by omega)]
   simp only [Bool.true_or]
  | false =>
   rw [if_neg (by simp),if_pos (by omega),rdW out j hlt,Bool.false_or]
   by_cases c:(out[j].f0).toList=w.f0.toList
   ·rw [if_pos c,ih (j+1) _ (by omega)]
    have c0:=toList_iff.1 c
    have hs:((out[j].f1).toList == w.f1.toList)=same w out[j]:=by
     unfold same
     rw [decide_eq_true c0,Bool.true_and]
     by_cases c1:out[j].f1=w.f1
     ·rw [decide_eq_true c1,c1];simp
     ·rw [decide_eq_false c1]
      exact beq_eq_false_iff_ne.2 (fun h=>c1 (toList_iff.1 h))
    rw [hs]
   ·rw [if_neg c,ih (j+1) _ (by omega)]
    have hs:same w out[j]=false:=by
     unfold same
     rw [decide_eq_false (fun h=>c (by rw [h])),Bool.false_and]
    rw [hs,Bool.false_or]
theorem wr_l0 (l:List Pt) (most:Nat) (hm:most≤100) (whole:Bool) (hl:∀ p ∈ l,fits p.f0) (hz:l.length≤4611686018427387904):∀ d i (out:List Wr) K,i+d=l.length→out.length≤most→(d+1) * (most+5)≤K →
  L15_writes.l0 K l (most:Int) whole out (i:Int)=some (wrs most whole (l.drop i) out):=by
 intro d
 induction d with
 | zero =>
  intro i out K hi ho hK
  obtain ⟨K,rfl⟩:∃ m,K=m+2:=⟨K - 2,by omega⟩
  have e:l.drop i=[]:=List.drop_eq_nil_of_le (by omega)
  rw [L15_writes.l0,if_neg (by omega),L15_writes.j1,if_neg (by simp),e]
  rfl
 | succ d ih =>
  intro i out K hi ho hK
  have hlt:i<l.length:=by omega
  have e:l.drop i=l[i] :: l.drop (i+1):=List.drop_eq_getElem_cons hlt
  have hK':(d+1) * (most+5)+(most+5)≤K:=by
   rw [show (d+1+1) * (most+5)=(d+1) * (most+5)+(most+5) by rw [Nat.add_mul,Nat.one_mul]] at hK
   exact hK
  have hf:fits l[i].f0:=hl _ (List.getElem_mem _)
  rw [e]
  unfold wrs
  by_cases c:out.length<most
  ·rw [if_pos c]
   obtain ⟨m,hm'⟩:∃ m,K=(m+out.length+1)+3∧(d+1) * (most+5)≤m:=⟨K - out.length - 4,by omega,by omega⟩
   rw [hm'.1,L15_writes.l0,if_pos (by omega),decide_eq_true (by omega:(out.length:Int)<(most:Int)),L15_writes.j1,if_pos rfl,if_pos (by omega),if_pos (by omega),rdP l i hlt]
   have key:∀ own:Bool,own=(whole || l[i].f1)→L15_writes.j2 (m+out.length+1+1) l (most:Int) whole out (i:Int) l[i].f0.f0 l[i].f0.f1 l[i].f0.f2 l[i].f0.f3 own l[i].f2 =
     some (if (whole && out.any (same (wrt l[i] (whole || l[i].f1))))=true then wrs most whole (l.drop (i+1)) out else wrs most whole (l.drop (i+1)) (out++[wrt l[i] (whole || l[i].f1)])):=by
    intro own ho'
    rw [L15_writes.j2,wrt_f _ _ hf,Option.bind_some]
    show L15_writes.l1 (m+out.length+1) l (most:Int) whole out (i:Int) false 0 (wrt l[i] own).f0 (wrt l[i] own).f1 (wrt l[i] own).f2 (wrt l[i] own).f3=_
    have h1:=wr_l1 l (most:Int) whole out (i:Int) (wrt l[i] own) (by omega) m out.length 0 false (by omega)
    rw [show ((0:Nat):Int)=0 from rfl] at h1
    rw [h1,List.drop_zero,Bool.false_or,idx i (by omega),ho']
    split
    ·rw [ih (i+1) out m (by omega) ho hm'.2]
    ·rw [ih (i+1) _ m (by omega) (by simp;omega) hm'.2]
   cases whole with
   | true =>
    rw [if_pos rfl,key true rfl]
   | false =>
    rw [if_neg (by simp),key _ (by simp)]
  ·rw [if_neg c]
   obtain ⟨m,rfl⟩:∃ m,K=m+2:=⟨K - 2,by omega⟩
   rw [L15_writes.l0,if_pos (by omega),decide_eq_false (by omega:¬ (out.length:Int)<(most:Int)),L15_writes.j1,if_neg (by simp)]
theorem writes_f (l:List Pt) (most:Nat) (hm:most≤100) (whole:Bool) (hl:∀ p ∈ l,fits p.f0) (hz:l.length≤4611686018427387904) {K:Nat} (hK:(l.length+1) * (most+5)≤K) :
  L15_writes.f K l (most:Int) whole=some (wrs most whole l []):=by
 unfold L15_writes.f
 have:=wr_l0 l most hm whole hl hz l.length 0 [] K (by omega) (by simp) hK
 rw [show ((0:Nat):Int)=0 from rfl,List.drop_zero] at this
 exact this
end Go.Proofs.Ytoagfdpgnfinhaa.Pure
