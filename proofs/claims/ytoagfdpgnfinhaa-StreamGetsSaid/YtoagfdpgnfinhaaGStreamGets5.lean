import Derived.Test.YtoagfdpgnfinhaaGStreamGets2
import Derived.Test.YtoagfdpgnfinhaaGStreamGets3
import Derived.Test.YtoagfdpgnfinhaaGStreamGets4
import Derived.RegionTactic
import Derived.Test.YtoagfdpgnfinhaaGStreamGets0
namespace Go.Proofs.Ytoagfdpgnfinhaa.Q
open Go.RowKit Go.Proofs.YtoagfdpgnfinhaaW.PrintWords Go.Proofs.YtoagfdpgnfinhaaW.PrintLast Go.Proofs.YtoagfdpgnfinhaaW.PrintMore
attribute [local go_sem] max2_int min2_int max_two min_two max_three min_three max_four min_four   -- for this text's walks alone
set_option linter.unusedVariables false
set_option linter.unusedSimpArgs false
def stream_Get.f (k:Nat) (a0:ByteArray):Option (Int × Int × Int × Int × Int × Int × Int × Int × (List (S107)) × Int):=(pack_Reader_Number.f a0 false 1).bind fun bt242=>((pack_Reader_Number.f bt242.2.1 bt242.2.2 1).bind fun bt246=>((pack_Reader_Vary.f k bt246.2.1 bt246.2.2).bind fun bt249=>(if (wrap64 (bt242.1))=1 then ((pack_Reader_Text.f k bt249.2.1 bt249.2.2 2048).bind fun bt252=>((item_Read.f k bt252.1).bind fun bt256=>((stream_Put.f k (wrap64 (bt242.1)) (wrap64 (bt246.1)) bt249.1 bt256.1 bt256.2.1 bt256.2.2.1 bt256.2.2.2.1 bt256.2.2.2.2.1 bt256.2.2.2.2.2.1).bind fun bt265=>(if bt265.2=true then (if bt265.1.toList=a0.toList then (some (wrap64 (bt242.1),wrap64 (bt246.1),bt249.1,bt256.1,bt256.2.1,bt256.2.2.1,bt256.2.2.2.1,bt256.2.2.2.2.1,bt256.2.2.2.2.2.1,0)) else (some (0,0,0,0,0,0,0,0,([]:List (S107)),2))) else (some (0,0,0,0,0,0,0,0,([]:List (S107)),2)))))) else ((stream_Put.f k (wrap64 (bt242.1)) (wrap64 (bt246.1)) bt249.1 0 0 0 0 0 ([]:List (S107))).bind fun bt267=>(if bt267.2=true then (if bt267.1.toList=a0.toList then (some (wrap64 (bt242.1),wrap64 (bt246.1),bt249.1,0,0,0,0,0,([]:List (S107)),0)) else (some (0,0,0,0,0,0,0,0,([]:List (S107)),2))) else (some (0,0,0,0,0,0,0,0,([]:List (S107)),2)))))))
set_option maxHeartbeats 8000000 in
set_option maxRecDepth 100000 in
theorem stream_Get.calls (k:Nat) (a0:ByteArray) (r1:Int) (r2:Int) (r3:Int) (r4:Int) (r5:Int) (r6:Int) (r7:Int) (r8:Int) (r9:List (S107)) (r10:Int) (w:World) (h:stream_Get.f k a0=some (r1,r2,r3,r4,r5,r6,r7,r8,r9,r10)) :
  Calls Try.prog 36 #[.string a0] w fun e w'=>∃ v8_:Value,e = .returned (.tuple #[.agg #[.int .i64 r1,.int .i64 r2,.int .u64 r3,.int .u64 r4,.int .u64 r5,.int .u64 r6,.int .u64 r7,.int .i64 r8,v8_],.int .i64 r10])∧Kd.R k107 107 w' w.heap.size (fun _=>True) v8_ r9∧Below w.heap.size w w':=by
 have hu69:=Try.underlying69
 have hu134:=Try.underlying134
 have hu33:=Try.underlying33
 have HB:=As_ (Below.refl w.heap.size w)
 unfold stream_Get.f at h
 have H:=h
 clear h
 obtain ⟨⟨t242,t243,t244⟩,A2,H⟩:=Kbind_ H
 (try dsimp only at H)
 obtain ⟨⟨t246,t247,t248⟩,A3,H⟩:=Kbind_ H
 (try dsimp only at H)
 obtain ⟨⟨t249,t250,t251⟩,A4,H⟩:=Kbind_ H
 (try dsimp only at H)
 by_cases c5:(wrap64 (t242))=1
 rotate_left
 ·rw [if_neg c5] at H
  have c5b0:=beq_eq_false_iff_ne.mpr c5
  have c5b1:((wrap64 (t242)) != 1)=true:=bne_iff_ne.mpr c5
  obtain ⟨⟨t267,t268⟩,A74,H⟩:=Kbind_ H
  (try dsimp only at H)
  by_cases c75:t268=true
  rotate_left
  ·replace c75:=Bool.eq_false_iff.mpr c75
   subst c75
   rw [if_neg Bool.false_ne_true] at H
   simp only [Option.some.injEq,Prod.mk.injEq] at H
   obtain ⟨rfl,rfl,rfl,rfl,rfl,rfl,rfl,rfl,rfl,rfl⟩:=H
   go_enter Try.func36,Try.ntmps36
   go_wp2_with (first|((with_reducible refine gate_dst (N:=2) rfl ?_);refine Ka_ 2 #[.int .i64 0,.int .i64 0,.int .u64 0,.int .u64 0,.int .u64 0,.int .u64 0,.int .u64 0,.int .i64 0,.slice none 0 0] 69 ?_;intro gb241 hg w103 hbox hb;have BK241:=As_ (hbox);have GW241:=Kw_ HB hg;replace HB:=Ks_ HB hb;clear hb hbox hg)|((with_reducible refine gate_callee (f:=75) rfl ?_);refine Kg_ (some 14) rfl rfl Try.func75 (by kernel_rfl) rfl #[.agg #[.string a0,.bool false],.int .i64 1] rfl ?_;(with_reducible refine (pack_Reader_Number.calls a0 false 1 t242 t243 t244 _ A2.out).mono ?_);rintro e w104 ⟨rfl,hb⟩;refine ⟨_,rfl,?_⟩;replace BK241:=Kb_ BK241 hb;replace HB:=Ks_ HB hb;(try clear hb);(try clear hk))|((with_reducible refine gate_dst (N:=5) rfl ?_);refine Ka_ 5 #[.string (⟨#[]⟩:ByteArray),.bool false] 134 ?_;intro gb245 hg w105 hbox hb;have BK245:=As_ (hbox);have GW245:=Kw_ HB hg;have NB241_245:=Kl_ BK241 hg;have NB245_241:=Kr_ BK241 hg;replace BK241:=Kb_ BK241 hb;replace HB:=Ks_ HB hb;clear hb hbox hg;have hnb106:=NB245_241.out;have hnc106:=NB241_245.out;obtain ⟨_,_,_,_⟩:=Ke2_ BK245.out)|((with_reducible refine gate_callee (f:=75) rfl ?_);refine Kg_ (some 19) rfl rfl Try.func75 (by kernel_rfl) rfl #[.agg #[.string t243,.bool t244],.int .i64 1] rfl ?_;(with_reducible refine (pack_Reader_Number.calls t243 t244 1 t246 t247 t248 _ A3.out).mono ?_);rintro e w108 ⟨rfl,hb⟩;refine ⟨_,rfl,?_⟩;replace BK241:=Kf_ BK241 NB241_245 hb;replace BK245:=As_ (blk_below (Kput2_ (Kq_ BK245)) hb);replace HB:=Kt_ HB GW245 hb;(try clear hb);(try clear hk);obtain ⟨_,_,_,_⟩:=Ke2_ BK245.out;obtain ⟨_,_,_,_,_,_,_,_,_,_,_,_,_,_,_,_,_,_⟩:=Ke9_ BK241.out)|((with_reducible refine gate_callee (f:=76) rfl ?_);refine Kg_ (some 30) rfl rfl Try.func76 (by kernel_rfl) rfl #[.agg #[.string t247,.bool t248]] rfl ?_;(with_reducible refine (pack_Reader_Vary.calls k t247 t248 t249 t250 t251 _ A4.out).mono ?_);rintro e w111 ⟨rfl,hb⟩;refine ⟨_,rfl,?_⟩;replace BK241:=As_ (blk_below (g:=gb241) (o:=.cells #[.int .i64 (wrap64 (t242)),.int .i64 (wrap64 (t246)),.int .u64 0,.int .u64 0,.int .u64 0,.int .u64 0,.int .u64 0,.int .i64 0,.slice none 0 0] 69 (0,0)) (by refine Kv_ ?_;refine blk_put (cs:=#[.int .i64 (wrap64 (t242)),.int .i64 0,.int .u64 0,.int .u64 0,.int .u64 0,.int .u64 0,.int .u64 0,.int .i64 0,.slice none 0 0]) ?_ 1 _ rfl;refine Kv_ ?_;refine blk_put (cs:=#[.int .i64 0,.int .i64 0,.int .u64 0,.int .u64 0,.int .u64 0,.int .u64 0,.int .u64 0,.int .i64 0,.slice none 0 0]) ?_ 0 _ rfl;exact K1b_ BK241 NB241_245) hb);replace BK245:=As_ (blk_below (g:=gb245) (o:=.cells #[.string t247,.bool t248] 134 (0,0)) (by (repeat (first|(with_reducible first|refine blk_drewN ?_ _|refine blk_drew ?_|refine blk_alloc ?_ _)|refine blk_far ?_ NB245_241.out _));refine blk_put (cs:=#[.string t247,.bool t244]) ?_ 1 _ rfl;refine Kv_ ?_;refine blk_put (cs:=#[.string t243,.bool t244]) ?_ 0 _ rfl;exact Kq_ BK245) hb);replace HB:=As_ (below_step (K2a_ HB GW241 GW245) hb);(try clear hb);(try clear hk);obtain ⟨_,_,_,_,_,_,_,_,_,_,_,_,_,_,_,_,_,_⟩:=Ke9_ BK241.out;obtain ⟨_,_,_,_⟩:=Ke2_ BK245.out)|((with_reducible refine gate_callee (f:=27) rfl ?_);refine Kg_ (some 50) rfl rfl Try.func27 (by kernel_rfl) rfl #[.agg #[.int .i64 (wrap64 (t242)),.int .i64 (wrap64 (t246)),.int .u64 t249,.int .u64 0,.int .u64 0,.int .u64 0,.int .u64 0,.int .i64 0,.slice none 0 0]] rfl ?_;(refine (stream_Put.calls k (wrap64 (t242)) (wrap64 (t246)) t249 0 0 0 0 0 _ _ ([]:List (S107)) t267 false _ ?side1 ?side2 A74.out).mono ?_);(case side1=>exact Kd.C_nil _ _);(case side2=>exact Nat.le_refl _);rintro e w114 ⟨rfl,hb⟩;refine ⟨_,rfl,?_⟩;replace BK241:=As_ (blk_below (g:=gb241) (o:=.cells #[.int .i64 (wrap64 (t242)),.int .i64 (wrap64 (t246)),.int .u64 t249,.int .u64 0,.int .u64 0,.int .u64 0,.int .u64 0,.int .i64 0,.slice none 0 0] 69 (0,0)) (by (repeat (first|(with_reducible first|refine blk_drewN ?_ _|refine blk_drew ?_|refine blk_alloc ?_ _)|refine blk_far ?_ NB241_245.out _));refine blk_put (cs:=#[.int .i64 (wrap64 (t242)),.int .i64 (wrap64 (t246)),.int .u64 0,.int .u64 0,.int .u64 0,.int .u64 0,.int .u64 0,.int .i64 0,.slice none 0 0]) ?_ 2 _ rfl;exact Kq_ BK241) hb);replace HB:=As_ (below_step (K2a_ HB GW241 GW245) hb);(try clear hb);(try clear hk);obtain ⟨_,_,_,_,_,_,_,_,_,_,_,_,_,_,_,_,_,_⟩:=Ke9_ BK241.out))
   refine bodyPost_ret (results_ct rfl _ _ gb241 69 #[.int .i64 0,.int .i64 0,.int .u64 0,.int .u64 0,.int .u64 0,.int .u64 0,.int .u64 0,.int .i64 0,.slice none 0 0] (0,0) _ rfl (by refine Kv_ ?_;exact Kput9_ (Kq_ BK241)) Try.underlying69 rfl (by kernel_rfl)) rfl ?_
   exact ⟨_,by first|rfl|(simp [errW_none,errW_some] <;> rfl)|(simp [*,errW_none,errW_some] <;> rfl),by first|exact Kd.R_nil _ _ _ _ _|exact Kd.N_nil _ _ _ _ _|exact Kd.V_nil _ _ _ _ _|exact Kd.Q_nil _ _ _ _ _|exact Kd.S_nil _ _ _ _ _,K2a_ HB GW241 GW245⟩
  subst c75
  rw [if_pos rfl] at H
  by_cases c76:t267.toList=a0.toList
  rotate_left
  ·rw [if_neg c76] at H
   have c76b0:=beq_eq_false_iff_ne.mpr c76
   have c76b1:(t267.toList != a0.toList)=true:=bne_iff_ne.mpr c76
   simp only [Option.some.injEq,Prod.mk.injEq] at H
   obtain ⟨rfl,rfl,rfl,rfl,rfl,rfl,rfl,rfl,rfl,rfl⟩:=H
   go_enter Try.func36,Try.ntmps36
   go_wp2_with (first|((with_reducible refine gate_dst (N:=2) rfl ?_);refine Ka_ 2 #[.int .i64 0,.int .i64 0,.int .u64 0,.int .u64 0,.int .u64 0,.int .u64 0,.int .u64 0,.int .i64 0,.slice none 0 0] 69 ?_;intro gb241 hg w90 hbox hb;have BK241:=As_ (hbox);have GW241:=Kw_ HB hg;replace HB:=Ks_ HB hb;clear hb hbox hg)|((with_reducible refine gate_callee (f:=75) rfl ?_);refine Kg_ (some 14) rfl rfl Try.func75 (by kernel_rfl) rfl #[.agg #[.string a0,.bool false],.int .i64 1] rfl ?_;(with_reducible refine (pack_Reader_Number.calls a0 false 1 t242 t243 t244 _ A2.out).mono ?_);rintro e w91 ⟨rfl,hb⟩;refine ⟨_,rfl,?_⟩;replace BK241:=Kb_ BK241 hb;replace HB:=Ks_ HB hb;(try clear hb);(try clear hk))|((with_reducible refine gate_dst (N:=5) rfl ?_);refine Ka_ 5 #[.string (⟨#[]⟩:ByteArray),.bool false] 134 ?_;intro gb245 hg w92 hbox hb;have BK245:=As_ (hbox);have GW245:=Kw_ HB hg;have NB241_245:=Kl_ BK241 hg;have NB245_241:=Kr_ BK241 hg;replace BK241:=Kb_ BK241 hb;replace HB:=Ks_ HB hb;clear hb hbox hg;have hnb93:=NB245_241.out;have hnc93:=NB241_245.out;obtain ⟨_,_,_,_⟩:=Ke2_ BK245.out)|((with_reducible refine gate_callee (f:=75) rfl ?_);refine Kg_ (some 19) rfl rfl Try.func75 (by kernel_rfl) rfl #[.agg #[.string t243,.bool t244],.int .i64 1] rfl ?_;(with_reducible refine (pack_Reader_Number.calls t243 t244 1 t246 t247 t248 _ A3.out).mono ?_);rintro e w95 ⟨rfl,hb⟩;refine ⟨_,rfl,?_⟩;replace BK241:=Kf_ BK241 NB241_245 hb;replace BK245:=As_ (blk_below (Kput2_ (Kq_ BK245)) hb);replace HB:=Kt_ HB GW245 hb;(try clear hb);(try clear hk);obtain ⟨_,_,_,_⟩:=Ke2_ BK245.out;obtain ⟨_,_,_,_,_,_,_,_,_,_,_,_,_,_,_,_,_,_⟩:=Ke9_ BK241.out)|((with_reducible refine gate_callee (f:=76) rfl ?_);refine Kg_ (some 30) rfl rfl Try.func76 (by kernel_rfl) rfl #[.agg #[.string t247,.bool t248]] rfl ?_;(with_reducible refine (pack_Reader_Vary.calls k t247 t248 t249 t250 t251 _ A4.out).mono ?_);rintro e w98 ⟨rfl,hb⟩;refine ⟨_,rfl,?_⟩;replace BK241:=As_ (blk_below (g:=gb241) (o:=.cells #[.int .i64 (wrap64 (t242)),.int .i64 (wrap64 (t246)),.int .u64 0,.int .u64 0,.int .u64 0,.int .u64 0,.int .u64 0,.int .i64 0,.slice none 0 0] 69 (0,0)) (by refine Kv_ ?_;refine blk_put (cs:=#[.int .i64 (wrap64 (t242)),.int .i64 0,.int .u64 0,.int .u64 0,.int .u64 0,.int .u64 0,.int .u64 0,.int .i64 0,.slice none 0 0]) ?_ 1 _ rfl;refine Kv_ ?_;refine blk_put (cs:=#[.int .i64 0,.int .i64 0,.int .u64 0,.int .u64 0,.int .u64 0,.int .u64 0,.int .u64 0,.int .i64 0,.slice none 0 0]) ?_ 0 _ rfl;exact K1b_ BK241 NB241_245) hb);replace BK245:=As_ (blk_below (g:=gb245) (o:=.cells #[.string t247,.bool t248] 134 (0,0)) (by (repeat (first|(with_reducible first|refine blk_drewN ?_ _|refine blk_drew ?_|refine blk_alloc ?_ _)|refine blk_far ?_ NB245_241.out _));refine blk_put (cs:=#[.string t247,.bool t244]) ?_ 1 _ rfl;refine Kv_ ?_;refine blk_put (cs:=#[.string t243,.bool t244]) ?_ 0 _ rfl;exact Kq_ BK245) hb);replace HB:=As_ (below_step (K2a_ HB GW241 GW245) hb);(try clear hb);(try clear hk);obtain ⟨_,_,_,_,_,_,_,_,_,_,_,_,_,_,_,_,_,_⟩:=Ke9_ BK241.out;obtain ⟨_,_,_,_⟩:=Ke2_ BK245.out)|((with_reducible refine gate_callee (f:=27) rfl ?_);refine Kg_ (some 50) rfl rfl Try.func27 (by kernel_rfl) rfl #[.agg #[.int .i64 (wrap64 (t242)),.int .i64 (wrap64 (t246)),.int .u64 t249,.int .u64 0,.int .u64 0,.int .u64 0,.int .u64 0,.int .i64 0,.slice none 0 0]] rfl ?_;(refine (stream_Put.calls k (wrap64 (t242)) (wrap64 (t246)) t249 0 0 0 0 0 _ _ ([]:List (S107)) t267 true _ ?side1 ?side2 A74.out).mono ?_);(case side1=>exact Kd.C_nil _ _);(case side2=>exact Nat.le_refl _);rintro e w101 ⟨rfl,hb⟩;refine ⟨_,rfl,?_⟩;replace BK241:=As_ (blk_below (g:=gb241) (o:=.cells #[.int .i64 (wrap64 (t242)),.int .i64 (wrap64 (t246)),.int .u64 t249,.int .u64 0,.int .u64 0,.int .u64 0,.int .u64 0,.int .i64 0,.slice none 0 0] 69 (0,0)) (by (repeat (first|(with_reducible first|refine blk_drewN ?_ _|refine blk_drew ?_|refine blk_alloc ?_ _)|refine blk_far ?_ NB241_245.out _));refine blk_put (cs:=#[.int .i64 (wrap64 (t242)),.int .i64 (wrap64 (t246)),.int .u64 0,.int .u64 0,.int .u64 0,.int .u64 0,.int .u64 0,.int .i64 0,.slice none 0 0]) ?_ 2 _ rfl;exact Kq_ BK241) hb);replace HB:=As_ (below_step (K2a_ HB GW241 GW245) hb);(try clear hb);(try clear hk);obtain ⟨_,_,_,_,_,_,_,_,_,_,_,_,_,_,_,_,_,_⟩:=Ke9_ BK241.out))
   refine bodyPost_ret (results_ct rfl _ _ gb241 69 #[.int .i64 0,.int .i64 0,.int .u64 0,.int .u64 0,.int .u64 0,.int .u64 0,.int .u64 0,.int .i64 0,.slice none 0 0] (0,0) _ rfl (by refine Kv_ ?_;exact Kput9_ (Kq_ BK241)) Try.underlying69 rfl (by kernel_rfl)) rfl ?_
   exact ⟨_,by first|rfl|(simp [errW_none,errW_some] <;> rfl)|(simp [*,errW_none,errW_some] <;> rfl),by first|exact Kd.R_nil _ _ _ _ _|exact Kd.N_nil _ _ _ _ _|exact Kd.V_nil _ _ _ _ _|exact Kd.Q_nil _ _ _ _ _|exact Kd.S_nil _ _ _ _ _,K2a_ HB GW241 GW245⟩
  rw [if_pos c76] at H
  have c76b0:(t267.toList == a0.toList)=true:=beq_iff_eq.mpr c76
  have c76b1:(t267.toList != a0.toList)=false:=bne_eq_false_iff_eq.mpr c76
  clear c76
  simp only [Option.some.injEq,Prod.mk.injEq] at H
  obtain ⟨rfl,rfl,rfl,rfl,rfl,rfl,rfl,rfl,rfl,rfl⟩:=H
  go_enter Try.func36,Try.ntmps36
  go_wp2_with (first|((with_reducible refine gate_dst (N:=2) rfl ?_);refine Ka_ 2 #[.int .i64 0,.int .i64 0,.int .u64 0,.int .u64 0,.int .u64 0,.int .u64 0,.int .u64 0,.int .i64 0,.slice none 0 0] 69 ?_;intro gb241 hg w77 hbox hb;have BK241:=As_ (hbox);have GW241:=Kw_ HB hg;replace HB:=Ks_ HB hb;clear hb hbox hg)|((with_reducible refine gate_callee (f:=75) rfl ?_);refine Kg_ (some 14) rfl rfl Try.func75 (by kernel_rfl) rfl #[.agg #[.string a0,.bool false],.int .i64 1] rfl ?_;(with_reducible refine (pack_Reader_Number.calls a0 false 1 t242 t243 t244 _ A2.out).mono ?_);rintro e w78 ⟨rfl,hb⟩;refine ⟨_,rfl,?_⟩;replace BK241:=Kb_ BK241 hb;replace HB:=Ks_ HB hb;(try clear hb);(try clear hk))|((with_reducible refine gate_dst (N:=5) rfl ?_);refine Ka_ 5 #[.string (⟨#[]⟩:ByteArray),.bool false] 134 ?_;intro gb245 hg w79 hbox hb;have BK245:=As_ (hbox);have GW245:=Kw_ HB hg;have NB241_245:=Kl_ BK241 hg;have NB245_241:=Kr_ BK241 hg;replace BK241:=Kb_ BK241 hb;replace HB:=Ks_ HB hb;clear hb hbox hg;have hnb80:=NB245_241.out;have hnc80:=NB241_245.out;obtain ⟨_,_,_,_⟩:=Ke2_ BK245.out)|((with_reducible refine gate_callee (f:=75) rfl ?_);refine Kg_ (some 19) rfl rfl Try.func75 (by kernel_rfl) rfl #[.agg #[.string t243,.bool t244],.int .i64 1] rfl ?_;(with_reducible refine (pack_Reader_Number.calls t243 t244 1 t246 t247 t248 _ A3.out).mono ?_);rintro e w82 ⟨rfl,hb⟩;refine ⟨_,rfl,?_⟩;replace BK241:=Kf_ BK241 NB241_245 hb;replace BK245:=As_ (blk_below (Kput2_ (Kq_ BK245)) hb);replace HB:=Kt_ HB GW245 hb;(try clear hb);(try clear hk);obtain ⟨_,_,_,_⟩:=Ke2_ BK245.out;obtain ⟨_,_,_,_,_,_,_,_,_,_,_,_,_,_,_,_,_,_⟩:=Ke9_ BK241.out)|((with_reducible refine gate_callee (f:=76) rfl ?_);refine Kg_ (some 30) rfl rfl Try.func76 (by kernel_rfl) rfl #[.agg #[.string t247,.bool t248]] rfl ?_;(with_reducible refine (pack_Reader_Vary.calls k t247 t248 t249 t250 t251 _ A4.out).mono ?_);rintro e w85 ⟨rfl,hb⟩;refine ⟨_,rfl,?_⟩;replace BK241:=As_ (blk_below (g:=gb241) (o:=.cells #[.int .i64 (wrap64 (t242)),.int .i64 (wrap64 (t246)),.int .u64 0,.int .u64 0,.int .u64 0,.int .u64 0,.int .u64 0,.int .i64 0,.slice none 0 0] 69 (0,0)) (by refine Kv_ ?_;refine blk_put (cs:=#[.int .i64 (wrap64 (t242)),.int .i64 0,.int .u64 0,.int .u64 0,.int .u64 0,.int .u64 0,.int .u64 0,.int .i64 0,.slice none 0 0]) ?_ 1 _ rfl;refine Kv_ ?_;refine blk_put (cs:=#[.int .i64 0,.int .i64 0,.int .u64 0,.int .u64 0,.int .u64 0,.int .u64 0,.int .u64 0,.int .i64 0,.slice none 0 0]) ?_ 0 _ rfl;exact K1b_ BK241 NB241_245) hb);replace BK245:=As_ (blk_below (g:=gb245) (o:=.cells #[.string t247,.bool t248] 134 (0,0)) (by (repeat (first|(with_reducible first|refine blk_drewN ?_ _|refine blk_drew ?_|refine blk_alloc ?_ _)|refine blk_far ?_ NB245_241.out _));refine blk_put (cs:=#[.string t247,.bool t244]) ?_ 1 _ rfl;refine Kv_ ?_;refine blk_put (cs:=#[.string t243,.bool t244]) ?_ 0 _ rfl;exact Kq_ BK245) hb);replace HB:=As_ (below_step (K2a_ HB GW241 GW245) hb);(try clear hb);(try clear hk);obtain ⟨_,_,_,_,_,_,_,_,_,_,_,_,_,_,_,_,_,_⟩:=Ke9_ BK241.out;obtain ⟨_,_,_,_⟩:=Ke2_ BK245.out)|((with_reducible refine gate_callee (f:=27) rfl ?_);refine Kg_ (some 50) rfl rfl Try.func27 (by kernel_rfl) rfl #[.agg #[.int .i64 (wrap64 (t242)),.int .i64 (wrap64 (t246)),.int .u64 t249,.int .u64 0,.int .u64 0,.int .u64 0,.int .u64 0,.int .i64 0,.slice none 0 0]] rfl ?_;(refine (stream_Put.calls k (wrap64 (t242)) (wrap64 (t246)) t249 0 0 0 0 0 _ _ ([]:List (S107)) t267 true _ ?side1 ?side2 A74.out).mono ?_);(case side1=>exact Kd.C_nil _ _);(case side2=>exact Nat.le_refl _);rintro e w88 ⟨rfl,hb⟩;refine ⟨_,rfl,?_⟩;replace BK241:=As_ (blk_below (g:=gb241) (o:=.cells #[.int .i64 (wrap64 (t242)),.int .i64 (wrap64 (t246)),.int .u64 t249,.int .u64 0,.int .u64 0,.int .u64 0,.int .u64 0,.int .i64 0,.slice none 0 0] 69 (0,0)) (by (repeat (first|(with_reducible first|refine blk_drewN ?_ _|refine blk_drew ?_|refine blk_alloc ?_ _)|refine blk_far ?_ NB241_245.out _));refine blk_put (cs:=#[.int .i64 (wrap64 (t242)),.int .i64 (wrap64 (t246)),.int .u64 0,.int .u64 0,.int .u64 0,.int .u64 0,.int .u64 0,.int .i64 0,.slice none 0 0]) ?_ 2 _ rfl;exact Kq_ BK241) hb);replace HB:=As_ (below_step (K2a_ HB GW241 GW245) hb);(try clear hb);(try clear hk);obtain ⟨_,_,_,_,_,_,_,_,_,_,_,_,_,_,_,_,_,_⟩:=Ke9_ BK241.out))
  refine bodyPost_ret (results_ct rfl _ _ gb241 69 #[.int .i64 (wrap64 (t242)),.int .i64 (wrap64 (t246)),.int .u64 t249,.int .u64 0,.int .u64 0,.int .u64 0,.int .u64 0,.int .i64 0,.slice none 0 0] (0,0) _ rfl (by refine Kv_ ?_;exact Kput9_ (Kq_ BK241)) Try.underlying69 rfl (by kernel_rfl)) rfl ?_
  exact ⟨_,by first|rfl|(simp [errW_none,errW_some] <;> rfl)|(simp [*,errW_none,errW_some] <;> rfl),by first|exact Kd.R_nil _ _ _ _ _|exact Kd.N_nil _ _ _ _ _|exact Kd.V_nil _ _ _ _ _|exact Kd.Q_nil _ _ _ _ _|exact Kd.S_nil _ _ _ _ _,K2a_ HB GW241 GW245⟩
 rw [if_pos c5] at H
 have c5b0:((wrap64 (t242)) == 1)=true:=beq_iff_eq.mpr c5
 have c5b1:((wrap64 (t242)) != 1)=false:=bne_eq_false_iff_eq.mpr c5
 clear c5
 obtain ⟨⟨t252,t253,t254⟩,A6,H⟩:=Kbind_ H
 (try dsimp only at H)
 obtain ⟨⟨t256,t257,t258,t259,t260,t261,t264⟩,A7,H⟩:=Kbind_ H
 (try dsimp only at H)
 obtain ⟨⟨t265,t266⟩,A8,H⟩:=Kbind_ H
 (try dsimp only at H)
 by_cases c9:t266=true
 rotate_left
 ·replace c9:=Bool.eq_false_iff.mpr c9
  subst c9
  rw [if_neg Bool.false_ne_true] at H
  simp only [Option.some.injEq,Prod.mk.injEq] at H
  obtain ⟨rfl,rfl,rfl,rfl,rfl,rfl,rfl,rfl,rfl,rfl⟩:=H
  go_enter Try.func36,Try.ntmps36
  go_wp2_with (first|((with_reducible refine gate_dst (N:=2) rfl ?_);refine Ka_ 2 #[.int .i64 0,.int .i64 0,.int .u64 0,.int .u64 0,.int .u64 0,.int .u64 0,.int .u64 0,.int .i64 0,.slice none 0 0] 69 ?_;intro gb241 hg w53 hbox hb;have BK241:=As_ (hbox);have GW241:=Kw_ HB hg;replace HB:=Ks_ HB hb;clear hb hbox hg)|((with_reducible refine gate_callee (f:=75) rfl ?_);refine Kg_ (some 14) rfl rfl Try.func75 (by kernel_rfl) rfl #[.agg #[.string a0,.bool false],.int .i64 1] rfl ?_;(with_reducible refine (pack_Reader_Number.calls a0 false 1 t242 t243 t244 _ A2.out).mono ?_);rintro e w54 ⟨rfl,hb⟩;refine ⟨_,rfl,?_⟩;replace BK241:=Kb_ BK241 hb;replace HB:=Ks_ HB hb;(try clear hb);(try clear hk))|((with_reducible refine gate_dst (N:=5) rfl ?_);refine Ka_ 5 #[.string (⟨#[]⟩:ByteArray),.bool false] 134 ?_;intro gb245 hg w55 hbox hb;have BK245:=As_ (hbox);have GW245:=Kw_ HB hg;have NB241_245:=Kl_ BK241 hg;have NB245_241:=Kr_ BK241 hg;replace BK241:=Kb_ BK241 hb;replace HB:=Ks_ HB hb;clear hb hbox hg;have hnb56:=NB245_241.out;have hnc56:=NB241_245.out;obtain ⟨_,_,_,_⟩:=Ke2_ BK245.out)|((with_reducible refine gate_callee (f:=75) rfl ?_);refine Kg_ (some 19) rfl rfl Try.func75 (by kernel_rfl) rfl #[.agg #[.string t243,.bool t244],.int .i64 1] rfl ?_;(with_reducible refine (pack_Reader_Number.calls t243 t244 1 t246 t247 t248 _ A3.out).mono ?_);rintro e w58 ⟨rfl,hb⟩;refine ⟨_,rfl,?_⟩;replace BK241:=Kf_ BK241 NB241_245 hb;replace BK245:=As_ (blk_below (Kput2_ (Kq_ BK245)) hb);replace HB:=Kt_ HB GW245 hb;(try clear hb);(try clear hk);obtain ⟨_,_,_,_⟩:=Ke2_ BK245.out;obtain ⟨_,_,_,_,_,_,_,_,_,_,_,_,_,_,_,_,_,_⟩:=Ke9_ BK241.out)|((with_reducible refine gate_callee (f:=76) rfl ?_);refine Kg_ (some 30) rfl rfl Try.func76 (by kernel_rfl) rfl #[.agg #[.string t247,.bool t248]] rfl ?_;(with_reducible refine (pack_Reader_Vary.calls k t247 t248 t249 t250 t251 _ A4.out).mono ?_);rintro e w61 ⟨rfl,hb⟩;refine ⟨_,rfl,?_⟩;replace BK241:=As_ (blk_below (g:=gb241) (o:=.cells #[.int .i64 (wrap64 (t242)),.int .i64 (wrap64 (t246)),.int .u64 0,.int .u64 0,.int .u64 0,.int .u64 0,.int .u64 0,.int .i64 0,.slice none 0 0] 69 (0,0)) (by refine Kv_ ?_;refine blk_put (cs:=#[.int .i64 (wrap64 (t242)),.int .i64 0,.int .u64 0,.int .u64 0,.int .u64 0,.int .u64 0,.int .u64 0,.int .i64 0,.slice none 0 0]) ?_ 1 _ rfl;refine Kv_ ?_;refine blk_put (cs:=#[.int .i64 0,.int .i64 0,.int .u64 0,.int .u64 0,.int .u64 0,.int .u64 0,.int .u64 0,.int .i64 0,.slice none 0 0]) ?_ 0 _ rfl;exact K1b_ BK241 NB241_245) hb);replace BK245:=As_ (blk_below (g:=gb245) (o:=.cells #[.string t247,.bool t248] 134 (0,0)) (by (repeat (first|(with_reducible first|refine blk_drewN ?_ _|refine blk_drew ?_|refine blk_alloc ?_ _)|refine blk_far ?_ NB245_241.out _));refine blk_put (cs:=#[.string t247,.bool t244]) ?_ 1 _ rfl;refine Kv_ ?_;refine blk_put (cs:=#[.string t243,.bool t244]) ?_ 0 _ rfl;exact Kq_ BK245) hb);replace HB:=As_ (below_step (K2a_ HB GW241 GW245) hb);(try clear hb);(try clear hk);obtain ⟨_,_,_,_,_,_,_,_,_,_,_,_,_,_,_,_,_,_⟩:=Ke9_ BK241.out;obtain ⟨_,_,_,_⟩:=Ke2_ BK245.out)|((with_reducible refine gate_callee (f:=77) rfl ?_);refine Kg_ (some 39) rfl rfl Try.func77 (by kernel_rfl) rfl #[.agg #[.string t250,.bool t251],.int .i64 2048] rfl ?_;(with_reducible refine (pack_Reader_Text.calls k t250 t251 2048 t252 t253 t254 _ A6.out).mono ?_);rintro e w64 ⟨rfl,hb⟩;refine ⟨_,rfl,?_⟩;replace BK241:=As_ (blk_below (g:=gb241) (o:=.cells #[.int .i64 (wrap64 (t242)),.int .i64 (wrap64 (t246)),.int .u64 t249,.int .u64 0,.int .u64 0,.int .u64 0,.int .u64 0,.int .i64 0,.slice none 0 0] 69 (0,0)) (by (repeat (first|(with_reducible first|refine blk_drewN ?_ _|refine blk_drew ?_|refine blk_alloc ?_ _)|refine blk_far ?_ NB241_245.out _));refine blk_put (cs:=#[.int .i64 (wrap64 (t242)),.int .i64 (wrap64 (t246)),.int .u64 0,.int .u64 0,.int .u64 0,.int .u64 0,.int .u64 0,.int .i64 0,.slice none 0 0]) ?_ 2 _ rfl;exact Kq_ BK241) hb);replace BK245:=As_ (blk_below (g:=gb245) (o:=.cells #[.string t250,.bool t251] 134 (0,0)) (by refine Kv_ ?_;refine blk_put (cs:=#[.string t250,.bool t248]) ?_ 1 _ rfl;refine Kv_ ?_;refine blk_put (cs:=#[.string t247,.bool t248]) ?_ 0 _ rfl;exact K1b_ BK245 NB245_241) hb);replace HB:=As_ (below_step (K2a_ HB GW241 GW245) hb);(try clear hb);(try clear hk))|((with_reducible refine gate_dst (N:=8) rfl ?_);refine Ka_ 8 #[.string (⟨#[]⟩:ByteArray),.bool false] 134 ?_;intro gb255 hg w65 hbox hb;have BK255:=As_ (hbox);have GW255:=Kw_ HB hg;have NB241_255:=Kl_ BK241 hg;have NB255_241:=Kr_ BK241 hg;have NB245_255:=Kl_ BK245 hg;have NB255_245:=Kr_ BK245 hg;replace BK241:=Kb_ BK241 hb;replace HB:=Ks_ HB hb;clear hb hbox hg;have hnb66:=NB255_241.out;have hnc66:=NB241_255.out;have hnb67:=NB255_245.out;have hnc67:=NB245_255.out;obtain ⟨_,_,_,_⟩:=Ke2_ BK255.out)|((with_reducible refine gate_callee (f:=78) rfl ?_);refine Kg_ (some 44) rfl rfl Try.func78 (by kernel_rfl) rfl #[.string t252] rfl ?_;(with_reducible refine (item_Read.calls k t252 t256 t257 t258 t259 t260 t261 t264 _ A7.out).mono ?_);rintro e w69 ⟨v262,rfl,ho0,hb⟩;refine ⟨_,rfl,?_⟩;have HO263:=As_ (Kd.R_lower ho0 (below_size (K3a_ HB GW241 GW245 GW255)));replace BK241:=Kf_ BK241 NB241_255 hb;replace HB:=Kt_ HB GW255 hb;(try clear hb);(try clear hk);(try clear ho0);obtain ⟨_,_,_,_,_,_,_,_,_,_,_,_,_,_,_,_,_,_⟩:=Ke9_ BK241.out;obtain ⟨Ao71,co71,eo71⟩:=Kd.R_slice HO263.out;subst eo71)|((with_reducible refine gate_callee (f:=27) rfl ?_);refine Kg_ (some 50) rfl rfl Try.func27 (by kernel_rfl) rfl #[.agg #[.int .i64 (wrap64 (t242)),.int .i64 (wrap64 (t246)),.int .u64 t249,.int .u64 t256,.int .u64 t257,.int .u64 t258,.int .u64 t259,.int .i64 t260,.slice Ao71 t261.length co71]] rfl ?_;(with_reducible refine (stream_Put.calls k (wrap64 (t242)) (wrap64 (t246)) t249 t256 t257 t258 t259 t260 _ _ t261 t265 false _ ?side1 ?side2 A8.out).mono ?_);(case side1=>refine (Kd.R_reads' (e:=107) (base:=w.heap.size) (ok:=fun k_=>True) (n:=t261.length) (c:=co71) ?_).2.2;exact (by (with_reducible repeat (first|apply Kd.R_alloc|apply Kd.R_drewN|apply Kd.R_drew));exact (Kd.R_mono (Kd.R_far (p:=⟨gb241,8,none⟩) (Kd.R_far (p:=⟨gb241,7,none⟩) (Kd.R_far (p:=⟨gb241,6,none⟩) (Kd.R_far (p:=⟨gb241,5,none⟩) (Kd.R_far (p:=⟨gb241,4,none⟩) (Kd.R_far (p:=⟨gb241,3,none⟩) (Kd.R_types HO263.out BK241.out (by decide)) (fun _ hk=>hk.2) (.int .u64 t256)) (fun _ hk=>hk.2) (.int .u64 t257)) (fun _ hk=>hk.2) (.int .u64 t258)) (fun _ hk=>hk.2) (.int .u64 t259)) (fun _ hk=>hk.2) (.int .i64 t260)) (fun _ hk=>hk.2) (.slice Ao71 t261.length co71)) (fun _ h_=>h_.1))));(case side2=>exact (Kd.R_reads' HO263.out).2.1);rintro e w72 ⟨rfl,hb⟩;refine ⟨_,rfl,?_⟩;replace HO263:=As_ (Kd.R_below (by (with_reducible repeat (first|apply Kd.R_alloc|apply Kd.R_drewN|apply Kd.R_drew));exact (Kd.R_mono (Kd.R_far (p:=⟨gb241,8,none⟩) (Kd.R_far (p:=⟨gb241,7,none⟩) (Kd.R_far (p:=⟨gb241,6,none⟩) (Kd.R_far (p:=⟨gb241,5,none⟩) (Kd.R_far (p:=⟨gb241,4,none⟩) (Kd.R_far (p:=⟨gb241,3,none⟩) (Kd.R_types HO263.out BK241.out (by decide)) (fun _ hk=>hk.2) (.int .u64 t256)) (fun _ hk=>hk.2) (.int .u64 t257)) (fun _ hk=>hk.2) (.int .u64 t258)) (fun _ hk=>hk.2) (.int .u64 t259)) (fun _ hk=>hk.2) (.int .i64 t260)) (fun _ hk=>hk.2) (.slice Ao71 t261.length co71)) (fun _ h_=>h_.1))) hb);replace BK241:=As_ (blk_below (Kput9_defghi_ (Kq_ BK241)) hb);replace HB:=Kt_ HB GW241 hb;(try clear hb);(try clear hk);obtain ⟨_,_,_,_,_,_,_,_,_,_,_,_,_,_,_,_,_,_⟩:=Ke9_ BK241.out))
  refine bodyPost_ret (results_ct rfl _ _ gb241 69 #[.int .i64 0,.int .i64 0,.int .u64 0,.int .u64 0,.int .u64 0,.int .u64 0,.int .u64 0,.int .i64 0,.slice none 0 0] (0,0) _ rfl (by refine Kv_ ?_;exact Kput9_ (Kq_ BK241)) Try.underlying69 rfl (by kernel_rfl)) rfl ?_
  exact ⟨_,by first|rfl|(simp [errW_none,errW_some] <;> rfl)|(simp [*,errW_none,errW_some] <;> rfl),by first|exact Kd.R_nil _ _ _ _ _|exact Kd.N_nil _ _ _ _ _|exact Kd.V_nil _ _ _ _ _|exact Kd.Q_nil _ _ _ _ _|exact Kd.S_nil _ _ _ _ _,K3a_ HB GW241 GW245 GW255⟩
 subst c9
 rw [if_pos rfl] at H
 by_cases c10:t265.toList=a0.toList
 rotate_left
 ·rw [if_neg c10] at H
  have c10b0:=beq_eq_false_iff_ne.mpr c10
  have c10b1:(t265.toList != a0.toList)=true:=bne_iff_ne.mpr c10
  simp only [Option.some.injEq,Prod.mk.injEq] at H
  obtain ⟨rfl,rfl,rfl,rfl,rfl,rfl,rfl,rfl,rfl,rfl⟩:=H
  go_enter Try.func36,Try.ntmps36
  go_wp2_with (first|((with_reducible refine gate_dst (N:=2) rfl ?_);refine Ka_ 2 #[.int .i64 0,.int .i64 0,.int .u64 0,.int .u64 0,.int .u64 0,.int .u64 0,.int .u64 0,.int .i64 0,.slice none 0 0] 69 ?_;intro gb241 hg w32 hbox hb;have BK241:=As_ (hbox);have GW241:=Kw_ HB hg;replace HB:=Ks_ HB hb;clear hb hbox hg)|((with_reducible refine gate_callee (f:=75) rfl ?_);refine Kg_ (some 14) rfl rfl Try.func75 (by kernel_rfl) rfl #[.agg #[.string a0,.bool false],.int .i64 1] rfl ?_;(with_reducible refine (pack_Reader_Number.calls a0 false 1 t242 t243 t244 _ A2.out).mono ?_);rintro e w33 ⟨rfl,hb⟩;refine ⟨_,rfl,?_⟩;replace BK241:=Kb_ BK241 hb;replace HB:=Ks_ HB hb;(try clear hb);(try clear hk))|((with_reducible refine gate_dst (N:=5) rfl ?_);refine Ka_ 5 #[.string (⟨#[]⟩:ByteArray),.bool false] 134 ?_;intro gb245 hg w34 hbox hb;have BK245:=As_ (hbox);have GW245:=Kw_ HB hg;have NB241_245:=Kl_ BK241 hg;have NB245_241:=Kr_ BK241 hg;replace BK241:=Kb_ BK241 hb;replace HB:=Ks_ HB hb;clear hb hbox hg;have hnb35:=NB245_241.out;have hnc35:=NB241_245.out;obtain ⟨_,_,_,_⟩:=Ke2_ BK245.out)|((with_reducible refine gate_callee (f:=75) rfl ?_);refine Kg_ (some 19) rfl rfl Try.func75 (by kernel_rfl) rfl #[.agg #[.string t243,.bool t244],.int .i64 1] rfl ?_;(with_reducible refine (pack_Reader_Number.calls t243 t244 1 t246 t247 t248 _ A3.out).mono ?_);rintro e w37 ⟨rfl,hb⟩;refine ⟨_,rfl,?_⟩;replace BK241:=Kf_ BK241 NB241_245 hb;replace BK245:=As_ (blk_below (Kput2_ (Kq_ BK245)) hb);replace HB:=Kt_ HB GW245 hb;(try clear hb);(try clear hk);obtain ⟨_,_,_,_⟩:=Ke2_ BK245.out;obtain ⟨_,_,_,_,_,_,_,_,_,_,_,_,_,_,_,_,_,_⟩:=Ke9_ BK241.out)|((with_reducible refine gate_callee (f:=76) rfl ?_);refine Kg_ (some 30) rfl rfl Try.func76 (by kernel_rfl) rfl #[.agg #[.string t247,.bool t248]] rfl ?_;(with_reducible refine (pack_Reader_Vary.calls k t247 t248 t249 t250 t251 _ A4.out).mono ?_);rintro e w40 ⟨rfl,hb⟩;refine ⟨_,rfl,?_⟩;replace BK241:=As_ (blk_below (g:=gb241) (o:=.cells #[.int .i64 (wrap64 (t242)),.int .i64 (wrap64 (t246)),.int .u64 0,.int .u64 0,.int .u64 0,.int .u64 0,.int .u64 0,.int .i64 0,.slice none 0 0] 69 (0,0)) (by refine Kv_ ?_;refine blk_put (cs:=#[.int .i64 (wrap64 (t242)),.int .i64 0,.int .u64 0,.int .u64 0,.int .u64 0,.int .u64 0,.int .u64 0,.int .i64 0,.slice none 0 0]) ?_ 1 _ rfl;refine Kv_ ?_;refine blk_put (cs:=#[.int .i64 0,.int .i64 0,.int .u64 0,.int .u64 0,.int .u64 0,.int .u64 0,.int .u64 0,.int .i64 0,.slice none 0 0]) ?_ 0 _ rfl;exact K1b_ BK241 NB241_245) hb);replace BK245:=As_ (blk_below (g:=gb245) (o:=.cells #[.string t247,.bool t248] 134 (0,0)) (by (repeat (first|(with_reducible first|refine blk_drewN ?_ _|refine blk_drew ?_|refine blk_alloc ?_ _)|refine blk_far ?_ NB245_241.out _));refine blk_put (cs:=#[.string t247,.bool t244]) ?_ 1 _ rfl;refine Kv_ ?_;refine blk_put (cs:=#[.string t243,.bool t244]) ?_ 0 _ rfl;exact Kq_ BK245) hb);replace HB:=As_ (below_step (K2a_ HB GW241 GW245) hb);(try clear hb);(try clear hk);obtain ⟨_,_,_,_,_,_,_,_,_,_,_,_,_,_,_,_,_,_⟩:=Ke9_ BK241.out;obtain ⟨_,_,_,_⟩:=Ke2_ BK245.out)|((with_reducible refine gate_callee (f:=77) rfl ?_);refine Kg_ (some 39) rfl rfl Try.func77 (by kernel_rfl) rfl #[.agg #[.string t250,.bool t251],.int .i64 2048] rfl ?_;(with_reducible refine (pack_Reader_Text.calls k t250 t251 2048 t252 t253 t254 _ A6.out).mono ?_);rintro e w43 ⟨rfl,hb⟩;refine ⟨_,rfl,?_⟩;replace BK241:=As_ (blk_below (g:=gb241) (o:=.cells #[.int .i64 (wrap64 (t242)),.int .i64 (wrap64 (t246)),.int .u64 t249,.int .u64 0,.int .u64 0,.int .u64 0,.int .u64 0,.int .i64 0,.slice none 0 0] 69 (0,0)) (by (repeat (first|(with_reducible first|refine blk_drewN ?_ _|refine blk_drew ?_|refine blk_alloc ?_ _)|refine blk_far ?_ NB241_245.out _));refine blk_put (cs:=#[.int .i64 (wrap64 (t242)),.int .i64 (wrap64 (t246)),.int .u64 0,.int .u64 0,.int .u64 0,.int .u64 0,.int .u64 0,.int .i64 0,.slice none 0 0]) ?_ 2 _ rfl;exact Kq_ BK241) hb);replace BK245:=As_ (blk_below (g:=gb245) (o:=.cells #[.string t250,.bool t251] 134 (0,0)) (by refine Kv_ ?_;refine blk_put (cs:=#[.string t250,.bool t248]) ?_ 1 _ rfl;refine Kv_ ?_;refine blk_put (cs:=#[.string t247,.bool t248]) ?_ 0 _ rfl;exact K1b_ BK245 NB245_241) hb);replace HB:=As_ (below_step (K2a_ HB GW241 GW245) hb);(try clear hb);(try clear hk))|((with_reducible refine gate_dst (N:=8) rfl ?_);refine Ka_ 8 #[.string (⟨#[]⟩:ByteArray),.bool false] 134 ?_;intro gb255 hg w44 hbox hb;have BK255:=As_ (hbox);have GW255:=Kw_ HB hg;have NB241_255:=Kl_ BK241 hg;have NB255_241:=Kr_ BK241 hg;have NB245_255:=Kl_ BK245 hg;have NB255_245:=Kr_ BK245 hg;replace BK241:=Kb_ BK241 hb;replace HB:=Ks_ HB hb;clear hb hbox hg;have hnb45:=NB255_241.out;have hnc45:=NB241_255.out;have hnb46:=NB255_245.out;have hnc46:=NB245_255.out;obtain ⟨_,_,_,_⟩:=Ke2_ BK255.out)|((with_reducible refine gate_callee (f:=78) rfl ?_);refine Kg_ (some 44) rfl rfl Try.func78 (by kernel_rfl) rfl #[.string t252] rfl ?_;(with_reducible refine (item_Read.calls k t252 t256 t257 t258 t259 t260 t261 t264 _ A7.out).mono ?_);rintro e w48 ⟨v262,rfl,ho0,hb⟩;refine ⟨_,rfl,?_⟩;have HO263:=As_ (Kd.R_lower ho0 (below_size (K3a_ HB GW241 GW245 GW255)));replace BK241:=Kf_ BK241 NB241_255 hb;replace HB:=Kt_ HB GW255 hb;(try clear hb);(try clear hk);(try clear ho0);obtain ⟨_,_,_,_,_,_,_,_,_,_,_,_,_,_,_,_,_,_⟩:=Ke9_ BK241.out;obtain ⟨Ao50,co50,eo50⟩:=Kd.R_slice HO263.out;subst eo50)|((with_reducible refine gate_callee (f:=27) rfl ?_);refine Kg_ (some 50) rfl rfl Try.func27 (by kernel_rfl) rfl #[.agg #[.int .i64 (wrap64 (t242)),.int .i64 (wrap64 (t246)),.int .u64 t249,.int .u64 t256,.int .u64 t257,.int .u64 t258,.int .u64 t259,.int .i64 t260,.slice Ao50 t261.length co50]] rfl ?_;(with_reducible refine (stream_Put.calls k (wrap64 (t242)) (wrap64 (t246)) t249 t256 t257 t258 t259 t260 _ _ t261 t265 true _ ?side1 ?side2 A8.out).mono ?_);(case side1=>refine (Kd.R_reads' (e:=107) (base:=w.heap.size) (ok:=fun k_=>True) (n:=t261.length) (c:=co50) ?_).2.2;exact (by (with_reducible repeat (first|apply Kd.R_alloc|apply Kd.R_drewN|apply Kd.R_drew));exact (Kd.R_mono (Kd.R_far (p:=⟨gb241,8,none⟩) (Kd.R_far (p:=⟨gb241,7,none⟩) (Kd.R_far (p:=⟨gb241,6,none⟩) (Kd.R_far (p:=⟨gb241,5,none⟩) (Kd.R_far (p:=⟨gb241,4,none⟩) (Kd.R_far (p:=⟨gb241,3,none⟩) (Kd.R_types HO263.out BK241.out (by decide)) (fun _ hk=>hk.2) (.int .u64 t256)) (fun _ hk=>hk.2) (.int .u64 t257)) (fun _ hk=>hk.2) (.int .u64 t258)) (fun _ hk=>hk.2) (.int .u64 t259)) (fun _ hk=>hk.2) (.int .i64 t260)) (fun _ hk=>hk.2) (.slice Ao50 t261.length co50)) (fun _ h_=>h_.1))));(case side2=>exact (Kd.R_reads' HO263.out).2.1);rintro e w51 ⟨rfl,hb⟩;refine ⟨_,rfl,?_⟩;replace HO263:=As_ (Kd.R_below (by (with_reducible repeat (first|apply Kd.R_alloc|apply Kd.R_drewN|apply Kd.R_drew));exact (Kd.R_mono (Kd.R_far (p:=⟨gb241,8,none⟩) (Kd.R_far (p:=⟨gb241,7,none⟩) (Kd.R_far (p:=⟨gb241,6,none⟩) (Kd.R_far (p:=⟨gb241,5,none⟩) (Kd.R_far (p:=⟨gb241,4,none⟩) (Kd.R_far (p:=⟨gb241,3,none⟩) (Kd.R_types HO263.out BK241.out (by decide)) (fun _ hk=>hk.2) (.int .u64 t256)) (fun _ hk=>hk.2) (.int .u64 t257)) (fun _ hk=>hk.2) (.int .u64 t258)) (fun _ hk=>hk.2) (.int .u64 t259)) (fun _ hk=>hk.2) (.int .i64 t260)) (fun _ hk=>hk.2) (.slice Ao50 t261.length co50)) (fun _ h_=>h_.1))) hb);replace BK241:=As_ (blk_below (Kput9_defghi_ (Kq_ BK241)) hb);replace HB:=Kt_ HB GW241 hb;(try clear hb);(try clear hk);obtain ⟨_,_,_,_,_,_,_,_,_,_,_,_,_,_,_,_,_,_⟩:=Ke9_ BK241.out))
  refine bodyPost_ret (results_ct rfl _ _ gb241 69 #[.int .i64 0,.int .i64 0,.int .u64 0,.int .u64 0,.int .u64 0,.int .u64 0,.int .u64 0,.int .i64 0,.slice none 0 0] (0,0) _ rfl (by refine Kv_ ?_;exact Kput9_ (Kq_ BK241)) Try.underlying69 rfl (by kernel_rfl)) rfl ?_
  exact ⟨_,by first|rfl|(simp [errW_none,errW_some] <;> rfl)|(simp [*,errW_none,errW_some] <;> rfl),by first|exact Kd.R_nil _ _ _ _ _|exact Kd.N_nil _ _ _ _ _|exact Kd.V_nil _ _ _ _ _|exact Kd.Q_nil _ _ _ _ _|exact Kd.S_nil _ _ _ _ _,K3a_ HB GW241 GW245 GW255⟩
 rw [if_pos c10] at H
 have c10b0:(t265.toList == a0.toList)=true:=beq_iff_eq.mpr c10
 have c10b1:(t265.toList != a0.toList)=false:=bne_eq_false_iff_eq.mpr c10
 clear c10
 simp only [Option.some.injEq,Prod.mk.injEq] at H
 obtain ⟨rfl,rfl,rfl,rfl,rfl,rfl,rfl,rfl,rfl,rfl⟩:=H
 go_enter Try.func36,Try.ntmps36
 go_wp2_with (first|((with_reducible refine gate_dst (N:=2) rfl ?_);refine Ka_ 2 #[.int .i64 0,.int .i64 0,.int .u64 0,.int .u64 0,.int .u64 0,.int .u64 0,.int .u64 0,.int .i64 0,.slice none 0 0] 69 ?_;intro gb241 hg w11 hbox hb;have BK241:=As_ (hbox);have GW241:=Kw_ HB hg;replace HB:=Ks_ HB hb;clear hb hbox hg)|((with_reducible refine gate_callee (f:=75) rfl ?_);refine Kg_ (some 14) rfl rfl Try.func75 (by kernel_rfl) rfl #[.agg #[.string a0,.bool false],.int .i64 1] rfl ?_;(with_reducible refine (pack_Reader_Number.calls a0 false 1 t242 t243 t244 _ A2.out).mono ?_);rintro e w12 ⟨rfl,hb⟩;refine ⟨_,rfl,?_⟩;replace BK241:=Kb_ BK241 hb;replace HB:=Ks_ HB hb;(try clear hb);(try clear hk))|((with_reducible refine gate_dst (N:=5) rfl ?_);refine Ka_ 5 #[.string (⟨#[]⟩:ByteArray),.bool false] 134 ?_;intro gb245 hg w13 hbox hb;have BK245:=As_ (hbox);have GW245:=Kw_ HB hg;have NB241_245:=Kl_ BK241 hg;have NB245_241:=Kr_ BK241 hg;replace BK241:=Kb_ BK241 hb;replace HB:=Ks_ HB hb;clear hb hbox hg;have hnb14:=NB245_241.out;have hnc14:=NB241_245.out;obtain ⟨_,_,_,_⟩:=Ke2_ BK245.out)|((with_reducible refine gate_callee (f:=75) rfl ?_);refine Kg_ (some 19) rfl rfl Try.func75 (by kernel_rfl) rfl #[.agg #[.string t243,.bool t244],.int .i64 1] rfl ?_;(with_reducible refine (pack_Reader_Number.calls t243 t244 1 t246 t247 t248 _ A3.out).mono ?_);rintro e w16 ⟨rfl,hb⟩;refine ⟨_,rfl,?_⟩;replace BK241:=Kf_ BK241 NB241_245 hb;replace BK245:=As_ (blk_below (Kput2_ (Kq_ BK245)) hb);replace HB:=Kt_ HB GW245 hb;(try clear hb);(try clear hk);obtain ⟨_,_,_,_⟩:=Ke2_ BK245.out;obtain ⟨_,_,_,_,_,_,_,_,_,_,_,_,_,_,_,_,_,_⟩:=Ke9_ BK241.out)|((with_reducible refine gate_callee (f:=76) rfl ?_);refine Kg_ (some 30) rfl rfl Try.func76 (by kernel_rfl) rfl #[.agg #[.string t247,.bool t248]] rfl ?_;(with_reducible refine (pack_Reader_Vary.calls k t247 t248 t249 t250 t251 _ A4.out).mono ?_);rintro e w19 ⟨rfl,hb⟩;refine ⟨_,rfl,?_⟩;replace BK241:=As_ (blk_below (g:=gb241) (o:=.cells #[.int .i64 (wrap64 (t242)),.int .i64 (wrap64 (t246)),.int .u64 0,.int .u64 0,.int .u64 0,.int .u64 0,.int .u64 0,.int .i64 0,.slice none 0 0] 69 (0,0)) (by refine Kv_ ?_;refine blk_put (cs:=#[.int .i64 (wrap64 (t242)),.int .i64 0,.int .u64 0,.int .u64 0,.int .u64 0,.int .u64 0,.int .u64 0,.int .i64 0,.slice none 0 0]) ?_ 1 _ rfl;refine Kv_ ?_;refine blk_put (cs:=#[.int .i64 0,.int .i64 0,.int .u64 0,.int .u64 0,.int .u64 0,.int .u64 0,.int .u64 0,.int .i64 0,.slice none 0 0]) ?_ 0 _ rfl;exact K1b_ BK241 NB241_245) hb);replace BK245:=As_ (blk_below (g:=gb245) (o:=.cells #[.string t247,.bool t248] 134 (0,0)) (by (repeat (first|(with_reducible first|refine blk_drewN ?_ _|refine blk_drew ?_|refine blk_alloc ?_ _)|refine blk_far ?_ NB245_241.out _));refine blk_put (cs:=#[.string t247,.bool t244]) ?_ 1 _ rfl;refine Kv_ ?_;refine blk_put (cs:=#[.string t243,.bool t244]) ?_ 0 _ rfl;exact Kq_ BK245) hb);replace HB:=As_ (below_step (K2a_ HB GW241 GW245) hb);(try clear hb);(try clear hk);obtain ⟨_,_,_,_,_,_,_,_,_,_,_,_,_,_,_,_,_,_⟩:=Ke9_ BK241.out;obtain ⟨_,_,_,_⟩:=Ke2_ BK245.out)|((with_reducible refine gate_callee (f:=77) rfl ?_);refine Kg_ (some 39) rfl rfl Try.func77 (by kernel_rfl) rfl #[.agg #[.string t250,.bool t251],.int .i64 2048] rfl ?_;(with_reducible refine (pack_Reader_Text.calls k t250 t251 2048 t252 t253 t254 _ A6.out).mono ?_);rintro e w22 ⟨rfl,hb⟩;refine ⟨_,rfl,?_⟩;replace BK241:=As_ (blk_below (g:=gb241) (o:=.cells #[.int .i64 (wrap64 (t242)),.int .i64 (wrap64 (t246)),.int .u64 t249,.int .u64 0,.int .u64 0,.int .u64 0,.int .u64 0,.int .i64 0,.slice none 0 0] 69 (0,0)) (by (repeat (first|(with_reducible first|refine blk_drewN ?_ _|refine blk_drew ?_|refine blk_alloc ?_ _)|refine blk_far ?_ NB241_245.out _));refine blk_put (cs:=#[.int .i64 (wrap64 (t242)),.int .i64 (wrap64 (t246)),.int .u64 0,.int .u64 0,.int .u64 0,.int .u64 0,.int .u64 0,.int .i64 0,.slice none 0 0]) ?_ 2 _ rfl;exact Kq_ BK241) hb);replace BK245:=As_ (blk_below (g:=gb245) (o:=.cells #[.string t250,.bool t251] 134 (0,0)) (by refine Kv_ ?_;refine blk_put (cs:=#[.string t250,.bool t248]) ?_ 1 _ rfl;refine Kv_ ?_;refine blk_put (cs:=#[.string t247,.bool t248]) ?_ 0 _ rfl;exact K1b_ BK245 NB245_241) hb);replace HB:=As_ (below_step (K2a_ HB GW241 GW245) hb);(try clear hb);(try clear hk))|((with_reducible refine gate_dst (N:=8) rfl ?_);refine Ka_ 8 #[.string (⟨#[]⟩:ByteArray),.bool false] 134 ?_;intro gb255 hg w23 hbox hb;have BK255:=As_ (hbox);have GW255:=Kw_ HB hg;have NB241_255:=Kl_ BK241 hg;have NB255_241:=Kr_ BK241 hg;have NB245_255:=Kl_ BK245 hg;have NB255_245:=Kr_ BK245 hg;replace BK241:=Kb_ BK241 hb;replace HB:=Ks_ HB hb;clear hb hbox hg;have hnb24:=NB255_241.out;have hnc24:=NB241_255.out;have hnb25:=NB255_245.out;have hnc25:=NB245_255.out;obtain ⟨_,_,_,_⟩:=Ke2_ BK255.out)|((with_reducible refine gate_callee (f:=78) rfl ?_);refine Kg_ (some 44) rfl rfl Try.func78 (by kernel_rfl) rfl #[.string t252] rfl ?_;(with_reducible refine (item_Read.calls k t252 t256 t257 t258 t259 t260 t261 t264 _ A7.out).mono ?_);rintro e w27 ⟨v262,rfl,ho0,hb⟩;refine ⟨_,rfl,?_⟩;have HO263:=As_ (Kd.R_lower ho0 (below_size (K3a_ HB GW241 GW245 GW255)));replace BK241:=Kf_ BK241 NB241_255 hb;replace HB:=Kt_ HB GW255 hb;(try clear hb);(try clear hk);(try clear ho0);obtain ⟨_,_,_,_,_,_,_,_,_,_,_,_,_,_,_,_,_,_⟩:=Ke9_ BK241.out;obtain ⟨Ao29,co29,eo29⟩:=Kd.R_slice HO263.out;subst eo29)|((with_reducible refine gate_callee (f:=27) rfl ?_);refine Kg_ (some 50) rfl rfl Try.func27 (by kernel_rfl) rfl #[.agg #[.int .i64 (wrap64 (t242)),.int .i64 (wrap64 (t246)),.int .u64 t249,.int .u64 t256,.int .u64 t257,.int .u64 t258,.int .u64 t259,.int .i64 t260,.slice Ao29 t261.length co29]] rfl ?_;(with_reducible refine (stream_Put.calls k (wrap64 (t242)) (wrap64 (t246)) t249 t256 t257 t258 t259 t260 _ _ t261 t265 true _ ?side1 ?side2 A8.out).mono ?_);(case side1=>refine (Kd.R_reads' (e:=107) (base:=w.heap.size) (ok:=fun k_=>True) (n:=t261.length) (c:=co29) ?_).2.2;exact (by (with_reducible repeat (first|apply Kd.R_alloc|apply Kd.R_drewN|apply Kd.R_drew));exact (Kd.R_mono (Kd.R_far (p:=⟨gb241,8,none⟩) (Kd.R_far (p:=⟨gb241,7,none⟩) (Kd.R_far (p:=⟨gb241,6,none⟩) (Kd.R_far (p:=⟨gb241,5,none⟩) (Kd.R_far (p:=⟨gb241,4,none⟩) (Kd.R_far (p:=⟨gb241,3,none⟩) (Kd.R_types HO263.out BK241.out (by decide)) (fun _ hk=>hk.2) (.int .u64 t256)) (fun _ hk=>hk.2) (.int .u64 t257)) (fun _ hk=>hk.2) (.int .u64 t258)) (fun _ hk=>hk.2) (.int .u64 t259)) (fun _ hk=>hk.2) (.int .i64 t260)) (fun _ hk=>hk.2) (.slice Ao29 t261.length co29)) (fun _ h_=>h_.1))));(case side2=>exact (Kd.R_reads' HO263.out).2.1);rintro e w30 ⟨rfl,hb⟩;refine ⟨_,rfl,?_⟩;replace HO263:=As_ (Kd.R_below (by (with_reducible repeat (first|apply Kd.R_alloc|apply Kd.R_drewN|apply Kd.R_drew));exact (Kd.R_mono (Kd.R_far (p:=⟨gb241,8,none⟩) (Kd.R_far (p:=⟨gb241,7,none⟩) (Kd.R_far (p:=⟨gb241,6,none⟩) (Kd.R_far (p:=⟨gb241,5,none⟩) (Kd.R_far (p:=⟨gb241,4,none⟩) (Kd.R_far (p:=⟨gb241,3,none⟩) (Kd.R_types HO263.out BK241.out (by decide)) (fun _ hk=>hk.2) (.int .u64 t256)) (fun _ hk=>hk.2) (.int .u64 t257)) (fun _ hk=>hk.2) (.int .u64 t258)) (fun _ hk=>hk.2) (.int .u64 t259)) (fun _ hk=>hk.2) (.int .i64 t260)) (fun _ hk=>hk.2) (.slice Ao29 t261.length co29)) (fun _ h_=>h_.1))) hb);replace BK241:=As_ (blk_below (Kput9_defghi_ (Kq_ BK241)) hb);replace HB:=Kt_ HB GW241 hb;(try clear hb);(try clear hk);obtain ⟨_,_,_,_,_,_,_,_,_,_,_,_,_,_,_,_,_,_⟩:=Ke9_ BK241.out))
 refine bodyPost_ret (results_ct rfl _ _ gb241 69 #[.int .i64 (wrap64 (t242)),.int .i64 (wrap64 (t246)),.int .u64 t249,.int .u64 t256,.int .u64 t257,.int .u64 t258,.int .u64 t259,.int .i64 t260,.slice Ao29 t261.length co29] (0,0) _ rfl (by refine Kv_ ?_;exact Kput9_ (Kq_ BK241)) Try.underlying69 rfl (by kernel_rfl)) rfl ?_
 exact ⟨_,by first|rfl|(simp [errW_none,errW_some] <;> rfl)|(simp [*,errW_none,errW_some] <;> rfl),by (with_reducible repeat (first|apply Kd.R_alloc|apply Kd.R_drewN|apply Kd.R_drew));exact Kd.R_mono (Kd.R_far (p:=⟨gb241,8,none⟩) (Kd.R_far (p:=⟨gb241,7,none⟩) (Kd.R_far (p:=⟨gb241,6,none⟩) (Kd.R_far (p:=⟨gb241,5,none⟩) (Kd.R_far (p:=⟨gb241,4,none⟩) (Kd.R_far (p:=⟨gb241,3,none⟩) (Kd.R_far (p:=⟨gb241,2,none⟩) (Kd.R_far (p:=⟨gb241,1,none⟩) (Kd.R_far (p:=⟨gb241,0,none⟩) (Kd.R_types HO263.out BK241.out (by decide)) (fun _ hk=>hk.2) (.int .i64 (wrap64 (t242)))) (fun _ hk=>hk.2) (.int .i64 (wrap64 (t246)))) (fun _ hk=>hk.2) (.int .u64 t249)) (fun _ hk=>hk.2) (.int .u64 t256)) (fun _ hk=>hk.2) (.int .u64 t257)) (fun _ hk=>hk.2) (.int .u64 t258)) (fun _ hk=>hk.2) (.int .u64 t259)) (fun _ hk=>hk.2) (.int .i64 t260)) (fun _ hk=>hk.2) (.slice Ao29 t261.length co29)) (fun _ hk=>trivial),K3a_ HB GW241 GW245 GW255⟩
def vec_With.f (a0_0 a0_1 a0_2 a0_3 n x:Int):Option (Int × Int × Int × Int):=some (if n=1 then x else a0_0,if n=2 then x else a0_1,if n=3 then x else a0_2,if n=4 then x else a0_3)
set_option maxHeartbeats 8000000 in
set_option maxRecDepth 100000 in
theorem vec_With.calls (a0_0 a0_1 a0_2 a0_3 n x:Int) (r0 r1 r2 r3:Int) (w:World) (h:vec_With.f a0_0 a0_1 a0_2 a0_3 n x=some (r0,r1,r2,r3)) :
  Calls Try.prog 46 #[.agg #[.int .u64 a0_0,.int .u64 a0_1,.int .u64 a0_2,.int .u64 a0_3],.int .i64 n,.int .u64 x] w fun e w'=>e = .returned (.agg #[.int .u64 r0,.int .u64 r1,.int .u64 r2,.int .u64 r3])∧Below w.heap.size w w':=by
 unfold vec_With.f at h
 have h:=Option.some.inj h
 simp only [Prod.mk.injEq] at h
 obtain ⟨rfl,rfl,rfl,rfl⟩:=h
 have hu:=Try.underlying28
 have hu2:=Try.underlying26
 by_cases c0:n=1
 ·subst c0
  go_enter Try.func46,Try.ntmps46
  go_wp2
  refine bodyPost_ret (v:=.agg #[.int .u64 x,.int .u64 a0_1,.int .u64 a0_2,.int .u64 a0_3]) (by simp [results,Try.results46,go_sem,hu,hu2]) rfl ⟨rfl,by first|exact below_alloc (Below.refl _ _) _|(repeat (first|exact Below.refl _ _|apply below_alloc|apply pw_below_drewN|apply below_drew1|(refine below_set ?_ (by simp))|(refine below_set ?_ (by simp;omega))))⟩
 by_cases c1:n=2
 ·subst c1
  go_enter Try.func46,Try.ntmps46
  go_wp2
  refine bodyPost_ret (v:=.agg #[.int .u64 a0_0,.int .u64 x,.int .u64 a0_2,.int .u64 a0_3]) (by simp [results,Try.results46,go_sem,hu,hu2]) rfl ⟨rfl,by first|exact below_alloc (Below.refl _ _) _|(repeat (first|exact Below.refl _ _|apply below_alloc|apply pw_below_drewN|apply below_drew1|(refine below_set ?_ (by simp))|(refine below_set ?_ (by simp;omega))))⟩
 by_cases c2:n=3
 ·subst c2
  go_enter Try.func46,Try.ntmps46
  go_wp2
  refine bodyPost_ret (v:=.agg #[.int .u64 a0_0,.int .u64 a0_1,.int .u64 x,.int .u64 a0_3]) (by simp [results,Try.results46,go_sem,hu,hu2]) rfl ⟨rfl,by first|exact below_alloc (Below.refl _ _) _|(repeat (first|exact Below.refl _ _|apply below_alloc|apply pw_below_drewN|apply below_drew1|(refine below_set ?_ (by simp))|(refine below_set ?_ (by simp;omega))))⟩
 by_cases c3:n=4
 ·subst c3
  go_enter Try.func46,Try.ntmps46
  go_wp2
  refine bodyPost_ret (v:=.agg #[.int .u64 a0_0,.int .u64 a0_1,.int .u64 a0_2,.int .u64 x]) (by simp [results,Try.results46,go_sem,hu,hu2]) rfl ⟨rfl,by first|exact below_alloc (Below.refl _ _) _|(repeat (first|exact Below.refl _ _|apply below_alloc|apply pw_below_drewN|apply below_drew1|(refine below_set ?_ (by simp))|(refine below_set ?_ (by simp;omega))))⟩
 rw [if_neg c0,if_neg c1,if_neg c2,if_neg c3]
 have b1:(decide (1≤n)=false∧decide (n<1)=true)∨(decide (1≤n)=true∧decide (n<1)=false∧decide (n≤4)=false∧decide (4<n)=true):=by
  by_cases h:1≤n
  ·exact Or.inr ⟨decide_eq_true h,decide_eq_false (by omega),decide_eq_false (by omega),decide_eq_true (by omega)⟩
  ·exact Or.inl ⟨decide_eq_false h,decide_eq_true (by omega)⟩
 clear c0 c1 c2 c3
 rcases b1 with ⟨b1,b2⟩|⟨b1,b2,b3,b4⟩
 ·go_enter Try.func46,Try.ntmps46
  go_wp2
  refine bodyPost_ret (v:=.agg #[.int .u64 a0_0,.int .u64 a0_1,.int .u64 a0_2,.int .u64 a0_3]) (by simp [results,Try.results46,go_sem,hu,hu2]) rfl ⟨rfl,by first|exact below_alloc (Below.refl _ _) _|(repeat (first|exact Below.refl _ _|apply below_alloc|apply pw_below_drewN|apply below_drew1|(refine below_set ?_ (by simp))|(refine below_set ?_ (by simp;omega))))⟩
 ·go_enter Try.func46,Try.ntmps46
  go_wp2
  refine bodyPost_ret (v:=.agg #[.int .u64 a0_0,.int .u64 a0_1,.int .u64 a0_2,.int .u64 a0_3]) (by simp [results,Try.results46,go_sem,hu,hu2]) rfl ⟨rfl,by first|exact below_alloc (Below.refl _ _) _|(repeat (first|exact Below.refl _ _|apply below_alloc|apply pw_below_drewN|apply below_drew1|(refine below_set ?_ (by simp))|(refine below_set ?_ (by simp;omega))))⟩
def stream_Ready.f (a0_0:Int) (a0_1:Int) (a0_2:Int) (a0_3:Int) (a1_0:Int) (a1_1:Int) (a1_2:Int) (a1_3:Int) (a1_4:Int):Option (Int):=(vec_At.f a0_0 a0_1 a0_2 a0_3 a1_4).bind fun t163=>((stamp_Right.f a1_0 a1_1 a1_2 a1_3 a1_4).bind fun t164=>(if t164=true then ((stamp_Stamp_N.f a1_0 a1_1 a1_2 a1_3 a1_4).bind fun t165=>(if t165≤t163 then (some (-1)) else ((vec_With.f a0_0 a0_1 a0_2 a0_3 a1_4 (IntKind.u64.wrap (t163+1))).bind fun bt166=>((vec_Leq.f a1_0 a1_1 a1_2 a1_3 bt166.1 bt166.2.1 bt166.2.2.1 bt166.2.2.2).bind fun t170=>(if t170=true then (some 1) else (some 0)))))) else (some 0)))
def stream_Ready.T6:Bool × List (List Nat × List Nat):=(true,[([],[]),([0],[0]),([],[]),([],[]),([3],[3]),([],[]),([5],[5]),([2,4,6],[2,4,6]),([1,7,7],[1,7]),([8,8],[8])])
def stream_Ready.B6:List Nat:=[0,1,0,0,8,0,32,124,255,511]
theorem stream_Ready.tab6:rtab .any (opsOf Try.f30 6)=stream_Ready.T6:=by kernel_rfl
theorem stream_Ready.bits6:waitsOk stream_Ready.T6.2 stream_Ready.B6=true:=by kernel_rfl
set_option maxHeartbeats 8000000 in
set_option maxRecDepth 100000 in
theorem stream_Ready.calls (a0_0:Int) (a0_1:Int) (a0_2:Int) (a0_3:Int) (a1_0:Int) (a1_1:Int) (a1_2:Int) (a1_3:Int) (a1_4:Int) (r:Int) (w:World) (h:stream_Ready.f a0_0 a0_1 a0_2 a0_3 a1_0 a1_1 a1_2 a1_3 a1_4=some r) :
  Calls Try.prog 30 #[.agg #[.int .u64 a0_0,.int .u64 a0_1,.int .u64 a0_2,.int .u64 a0_3],.agg #[.int .u64 a1_0,.int .u64 a1_1,.int .u64 a1_2,.int .u64 a1_3,.int .i64 a1_4]] w fun e w'=>e = .returned (.int .i64 r)∧Below w.heap.size w w':=by
 have hu28:=Try.underlying28
 have hu30:=Try.underlying30
 have HB:=As_ (Below.refl w.heap.size w)
 unfold stream_Ready.f at h
 have H:=h
 clear h
 obtain ⟨t163,A3,H⟩:=Kbind_ H
 (try dsimp only at H)
 obtain ⟨t164,A4,H⟩:=Kbind_ H
 (try dsimp only at H)
 by_cases c5:t164=true
 rotate_left
 ·replace c5:=Bool.eq_false_iff.mpr c5
  subst c5
  rw [if_neg Bool.false_ne_true] at H
  obtain rfl:=Option.some.inj H
  go_enter Try.func30,Try.ntmps30
  go_wp2_with (first|((with_reducible refine gate_dst (N:=2) rfl ?_);refine Ka_ 2 #[.int .u64 a0_0,.int .u64 a0_1,.int .u64 a0_2,.int .u64 a0_3] 28 ?_;intro gb161 hg w47 hbox hb;have BK161:=As_ (hbox);have GW161:=Kw_ HB hg;replace HB:=Ks_ HB hb;clear hb hbox hg)|((with_reducible refine gate_dst (N:=3) rfl ?_);refine Ka_ 3 #[.int .u64 a1_0,.int .u64 a1_1,.int .u64 a1_2,.int .u64 a1_3,.int .i64 a1_4] 30 ?_;intro gb162 hg w48 hbox hb;have BK162:=As_ (hbox);have GW162:=Kw_ HB hg;have NB161_162:=Kl_ BK161 hg;have NB162_161:=Kr_ BK161 hg;replace BK161:=Kb_ BK161 hb;replace HB:=Ks_ HB hb;clear hb hbox hg;have hnb49:=NB161_162.out;have hnc49:=NB162_161.out;obtain ⟨_,_,_,_,_,_,_,_⟩:=Ke4_ BK161.out;obtain ⟨_,_,_,_,_,_,_,_,_,_⟩:=Ke5_ BK162.out)|((with_reducible refine gate_callee (f:=48) rfl ?_);refine Kg_ (some 9) rfl rfl Try.func48 (by kernel_rfl) rfl #[.agg #[.int .u64 a0_0,.int .u64 a0_1,.int .u64 a0_2,.int .u64 a0_3],.int .i64 a1_4] rfl ?_;(with_reducible refine (vec_At.calls a0_0 a0_1 a0_2 a0_3 a1_4 t163 _ A3.out).mono ?_);rintro e w52 ⟨rfl,hb⟩;refine ⟨_,rfl,?_⟩;replace BK162:=Kb_ BK162 hb;replace HB:=Ks_ HB hb;(try clear hb);obtain ⟨_,_,_,_,_,_,_,_,_,_⟩:=Ke5_ BK162.out)|((with_reducible refine gate_callee (f:=69) rfl ?_);refine Kg_ (some 12) rfl rfl Try.func69 (by kernel_rfl) rfl #[.agg #[.int .u64 a1_0,.int .u64 a1_1,.int .u64 a1_2,.int .u64 a1_3,.int .i64 a1_4]] rfl ?_;(with_reducible refine (stamp_Right.calls a1_0 a1_1 a1_2 a1_3 a1_4 false _ A4.out).mono ?_);rintro e w54 ⟨rfl,hb⟩;refine ⟨_,rfl,?_⟩;replace HB:=Ks_ HB hb;(try clear hb)))
  go_ret
  exact ⟨Kh_,K2a_ HB GW161 GW162⟩
 subst c5
 rw [if_pos rfl] at H
 obtain ⟨t165,A6,H⟩:=Kbind_ H
 (try dsimp only at H)
 by_cases c7:t165≤t163
 ·rw [if_pos c7] at H
  have c7b0:decide (t165≤t163)=true:=decide_eq_true c7
  clear c7
  obtain rfl:=Option.some.inj H
  go_enter Try.func30,Try.ntmps30
  go_wp2_with (first|((with_reducible refine gate_dst (N:=2) rfl ?_);refine Ka_ 2 #[.int .u64 a0_0,.int .u64 a0_1,.int .u64 a0_2,.int .u64 a0_3] 28 ?_;intro gb161 hg w8 hbox hb;have BK161:=As_ (hbox);have GW161:=Kw_ HB hg;replace HB:=Ks_ HB hb;clear hb hbox hg)|((with_reducible refine gate_dst (N:=3) rfl ?_);refine Ka_ 3 #[.int .u64 a1_0,.int .u64 a1_1,.int .u64 a1_2,.int .u64 a1_3,.int .i64 a1_4] 30 ?_;intro gb162 hg w9 hbox hb;have BK162:=As_ (hbox);have GW162:=Kw_ HB hg;have NB161_162:=Kl_ BK161 hg;have NB162_161:=Kr_ BK161 hg;replace BK161:=Kb_ BK161 hb;replace HB:=Ks_ HB hb;clear hb hbox hg;have hnb10:=NB161_162.out;have hnc10:=NB162_161.out;obtain ⟨_,_,_,_,_,_,_,_⟩:=Ke4_ BK161.out;obtain ⟨_,_,_,_,_,_,_,_,_,_⟩:=Ke5_ BK162.out)|((with_reducible refine gate_callee (f:=48) rfl ?_);refine Kg_ (some 9) rfl rfl Try.func48 (by kernel_rfl) rfl #[.agg #[.int .u64 a0_0,.int .u64 a0_1,.int .u64 a0_2,.int .u64 a0_3],.int .i64 a1_4] rfl ?_;(with_reducible refine (vec_At.calls a0_0 a0_1 a0_2 a0_3 a1_4 t163 _ A3.out).mono ?_);rintro e w13 ⟨rfl,hb⟩;refine ⟨_,rfl,?_⟩;replace BK162:=Kb_ BK162 hb;replace HB:=Ks_ HB hb;(try clear hb);obtain ⟨_,_,_,_,_,_,_,_,_,_⟩:=Ke5_ BK162.out)|((with_reducible refine gate_callee (f:=69) rfl ?_);refine Kg_ (some 12) rfl rfl Try.func69 (by kernel_rfl) rfl #[.agg #[.int .u64 a1_0,.int .u64 a1_1,.int .u64 a1_2,.int .u64 a1_3,.int .i64 a1_4]] rfl ?_;(with_reducible refine (stamp_Right.calls a1_0 a1_1 a1_2 a1_3 a1_4 true _ A4.out).mono ?_);rintro e w15 ⟨rfl,hb⟩;refine ⟨_,rfl,?_⟩;replace BK162:=Kb_ BK162 hb;replace HB:=Ks_ HB hb;(try clear hb);obtain ⟨_,_,_,_,_,_,_,_,_,_⟩:=Ke5_ BK162.out)|((with_reducible refine gate_callee (f:=47) rfl ?_);refine Kg_ (some 16) rfl rfl Try.func47 (by kernel_rfl) rfl #[.agg #[.int .u64 a1_0,.int .u64 a1_1,.int .u64 a1_2,.int .u64 a1_3,.int .i64 a1_4]] rfl ?_;(with_reducible refine (stamp_Stamp_N.calls a1_0 a1_1 a1_2 a1_3 a1_4 t165 _ A6.out).mono ?_);rintro e w17 ⟨rfl,hb⟩;refine ⟨_,rfl,?_⟩;replace HB:=Ks_ HB hb;(try clear hb)))
  go_ret
  exact ⟨Kh_,K2a_ HB GW161 GW162⟩
 rw [if_neg c7] at H
 have c7b0:decide (t165≤t163)=false:=decide_eq_false c7
 clear c7
 obtain ⟨⟨t166,t167,t168,t169⟩,A18,H⟩:=Kbind_ H
 (try dsimp only at H)
 obtain ⟨t170,A19,H⟩:=Kbind_ H
 (try dsimp only at H)
 by_cases c20:t170=true
 ·subst c20
  rw [if_pos rfl] at H
  obtain rfl:=Option.some.inj H
  go_enter Try.func30,Try.ntmps30
  try go_wp2_with (first|((with_reducible refine gate_dst (N:=2) rfl ?_);refine Ka_ 2 #[.int .u64 a0_0,.int .u64 a0_1,.int .u64 a0_2,.int .u64 a0_3] 28 ?_;intro gb161 hg w21 hbox hb;have BK161:=As_ (hbox);have GW161:=Kw_ HB hg;replace HB:=Ks_ HB hb;clear hb hbox hg)|((with_reducible refine gate_dst (N:=3) rfl ?_);refine Ka_ 3 #[.int .u64 a1_0,.int .u64 a1_1,.int .u64 a1_2,.int .u64 a1_3,.int .i64 a1_4] 30 ?_;intro gb162 hg w22 hbox hb;have BK162:=As_ (hbox);have GW162:=Kw_ HB hg;have NB161_162:=Kl_ BK161 hg;have NB162_161:=Kr_ BK161 hg;replace BK161:=Kb_ BK161 hb;replace HB:=Ks_ HB hb;clear hb hbox hg;have hnb23:=NB161_162.out;have hnc23:=NB162_161.out;obtain ⟨_,_,_,_,_,_,_,_⟩:=Ke4_ BK161.out;obtain ⟨_,_,_,_,_,_,_,_,_,_⟩:=Ke5_ BK162.out)|((with_reducible refine gate_callee (f:=48) rfl ?_);refine Kg_ (some 9) rfl rfl Try.func48 (by kernel_rfl) rfl #[.agg #[.int .u64 a0_0,.int .u64 a0_1,.int .u64 a0_2,.int .u64 a0_3],.int .i64 a1_4] rfl ?_;(with_reducible refine (vec_At.calls a0_0 a0_1 a0_2 a0_3 a1_4 t163 _ A3.out).mono ?_);rintro e w26 ⟨rfl,hb⟩;refine ⟨_,rfl,?_⟩;replace BK161:=Kb_ BK161 hb;replace BK162:=Kb_ BK162 hb;replace HB:=Ks_ HB hb;(try clear hb);obtain ⟨_,_,_,_,_,_,_,_,_,_⟩:=Ke5_ BK162.out)|((with_reducible refine gate_callee (f:=69) rfl ?_);refine Kg_ (some 12) rfl rfl Try.func69 (by kernel_rfl) rfl #[.agg #[.int .u64 a1_0,.int .u64 a1_1,.int .u64 a1_2,.int .u64 a1_3,.int .i64 a1_4]] rfl ?_;(with_reducible refine (stamp_Right.calls a1_0 a1_1 a1_2 a1_3 a1_4 true _ A4.out).mono ?_);rintro e w28 ⟨rfl,hb⟩;refine ⟨_,rfl,?_⟩;replace BK161:=Kb_ BK161 hb;replace BK162:=Kb_ BK162 hb;replace HB:=Ks_ HB hb;(try clear hb);obtain ⟨_,_,_,_,_,_,_,_,_,_⟩:=Ke5_ BK162.out)|((with_reducible refine gate_callee (f:=47) rfl ?_);refine Kg_ (some 16) rfl rfl Try.func47 (by kernel_rfl) rfl #[.agg #[.int .u64 a1_0,.int .u64 a1_1,.int .u64 a1_2,.int .u64 a1_3,.int .i64 a1_4]] rfl ?_;(with_reducible refine (stamp_Stamp_N.calls a1_0 a1_1 a1_2 a1_3 a1_4 t165 _ A6.out).mono ?_);rintro e w30 ⟨rfl,hb⟩;refine ⟨_,rfl,?_⟩;replace BK161:=Kb_ BK161 hb;replace BK162:=Kb_ BK162 hb;replace HB:=Ks_ HB hb;(try clear hb)))
  replace BK161:=Kd_ BK161
  replace BK162:=Kd_ BK162
  replace HB:=As_ (below_drew1 HB.out)
  refine start_ (n:=10) (S:=fun w'=>w'.cell? ⟨gb162,0,none⟩=some (.int .u64 a1_0)∧w'.cell? ⟨gb162,1,none⟩=some (.int .u64 a1_1)∧w'.cell? ⟨gb162,2,none⟩=some (.int .u64 a1_2)∧w'.cell? ⟨gb162,3,none⟩=some (.int .u64 a1_3)∧w'.cell? ⟨gb162,4,none⟩=some (.int .i64 a1_4)∧w'.cell? ⟨gb161,0,none⟩=some (.int .u64 a0_0)∧w'.cell? ⟨gb161,1,none⟩=some (.int .u64 a0_1)∧w'.cell? ⟨gb161,2,none⟩=some (.int .u64 a0_2)∧w'.cell? ⟨gb161,3,none⟩=some (.int .u64 a0_3)) (ds:=[]) (mB_ 10 0) (by kernel_rfl) rfl rfl ⟨Km_ BK162 0,Km_ BK162 1,Km_ BK162 2,Km_ BK162 3,Km_ BK162 4,Km_ BK161 0,Km_ BK161 1,Km_ BK161 2,Km_ BK161 3⟩ (fun hHeld=>?_);refine with_tabW stream_Ready.tab6 stream_Ready.bits6 (fun HT_ HW_=>?_)
  generalize w30.drew=w31 at BK161 BK162 HB hHeld ⊢
  refine Kp_ 0 20 (mB_ 10 1) (any_of HT_.out (by kernel_rfl)) ?_
  refine Kp_ 3 23 (mB_ 10 9) (any_of HT_.out (by kernel_rfl)) ?_
  refine Kp_ 5 25 (mB_ 10 41) (any_of HT_.out (by kernel_rfl)) ?_
  refine Kp_ 6 26 (mB_ 10 105) (any_of HT_.out (by kernel_rfl)) ?_
  refine Ko_ 1 21 (mB_ 10 107) (take_ofW HT_.out HW_.out (by kernel_rfl)) hHeld ?_
  refine Ko_ 2 22 (mB_ 10 111) (take_ofW HT_.out HW_.out (by kernel_rfl)) hHeld ?_
  refine Ko_ 4 24 (mB_ 10 127) (take_ofW HT_.out HW_.out (by kernel_rfl)) hHeld ?_
  refine one_ (i:=7) (N:=some 27) (mB_ 10 255) rfl rfl (one_of HT_.out (by kernel_rfl)) (by decide) (fun K hK=>?_)
  refine goes_ Try.func46 (by kernel_rfl) rfl #[.agg #[.int .u64 a0_0,.int .u64 a0_1,.int .u64 a0_2,.int .u64 a0_3],.int .i64 a1_4,.int .u64 (IntKind.u64.wrap (t163+1))] (by rfl) rfl rfl (by (try simp only [List.map_toArray,List.map_cons,List.map_nil]);first|done|rfl|(simp only [List.length_drop,List.length_take];rfl)) ?_
  with_reducible refine (vec_With.calls a0_0 a0_1 a0_2 a0_3 a1_4 (IntKind.u64.wrap (t163+1)) t166 t167 t168 t169 _ A18.out).mono ?_
  rintro e w32 ⟨rfl,hb⟩
  refine ⟨_,rfl,?_⟩
  replace BK161:=Kb_ BK161 hb
  replace BK162:=Kb_ BK162 hb
  replace HB:=Ks_ HB hb
  (try clear hb)
  (try clear hb2)
  (try clear hk)
  (try clear hi)
  refine hK.out _ _ ⟨Km_ BK162 0,Km_ BK162 1,Km_ BK162 2,Km_ BK162 3,Km_ BK162 4,Km_ BK161 0,Km_ BK161 1,Km_ BK161 2,Km_ BK161 3⟩ (fun hHeld=>?_)
  clear hK K
  refine Kn_ 27 ?_
  refine one_ (i:=8) (N:=some 28) (mB_ 10 511) rfl rfl (one_of HT_.out (by kernel_rfl)) (by decide) (fun K hK=>?_)
  refine goes_ Try.func49 (by kernel_rfl) rfl #[.agg #[.int .u64 a1_0,.int .u64 a1_1,.int .u64 a1_2,.int .u64 a1_3],.agg #[.int .u64 t166,.int .u64 t167,.int .u64 t168,.int .u64 t169]] (by rfl) rfl rfl (by (try simp only [List.map_toArray,List.map_cons,List.map_nil]);first|done|rfl|(simp only [List.length_drop,List.length_take];rfl)) ?_
  with_reducible refine (vec_Leq.calls a1_0 a1_1 a1_2 a1_3 t166 t167 t168 t169 true _ A19.out).mono ?_
  rintro e w33 ⟨rfl,hb⟩
  refine ⟨_,rfl,?_⟩
  replace BK161:=Kb_ BK161 hb
  replace BK162:=Kb_ BK162 hb
  replace HB:=Ks_ HB hb
  (try clear hb)
  (try clear hb2)
  (try clear hk)
  (try clear hi)
  refine hK.out _ _ ⟨Km_ BK162 0,Km_ BK162 1,Km_ BK162 2,Km_ BK162 3,Km_ BK162 4,Km_ BK161 0,Km_ BK161 1,Km_ BK161 2,Km_ BK161 3⟩ (fun hHeld=>?_)
  clear hK K
  refine Kn_ 28 ?_
  refine Kp_ 9 19 (mB_ 10 1023) (any_of HT_.out (by kernel_rfl)) ?_
  refine done_ (done_of HT_.out (by kernel_rfl)) ?_
  try go_wp2
  go_ret
  exact ⟨Kh_,K2a_ HB GW161 GW162⟩
 replace c20:=Bool.eq_false_iff.mpr c20
 subst c20
 rw [if_neg Bool.false_ne_true] at H
 obtain rfl:=Option.some.inj H
 go_enter Try.func30,Try.ntmps30
 try go_wp2_with (first|((with_reducible refine gate_dst (N:=2) rfl ?_);refine Ka_ 2 #[.int .u64 a0_0,.int .u64 a0_1,.int .u64 a0_2,.int .u64 a0_3] 28 ?_;intro gb161 hg w34 hbox hb;have BK161:=As_ (hbox);have GW161:=Kw_ HB hg;replace HB:=Ks_ HB hb;clear hb hbox hg)|((with_reducible refine gate_dst (N:=3) rfl ?_);refine Ka_ 3 #[.int .u64 a1_0,.int .u64 a1_1,.int .u64 a1_2,.int .u64 a1_3,.int .i64 a1_4] 30 ?_;intro gb162 hg w35 hbox hb;have BK162:=As_ (hbox);have GW162:=Kw_ HB hg;have NB161_162:=Kl_ BK161 hg;have NB162_161:=Kr_ BK161 hg;replace BK161:=Kb_ BK161 hb;replace HB:=Ks_ HB hb;clear hb hbox hg;have hnb36:=NB161_162.out;have hnc36:=NB162_161.out;obtain ⟨_,_,_,_,_,_,_,_⟩:=Ke4_ BK161.out;obtain ⟨_,_,_,_,_,_,_,_,_,_⟩:=Ke5_ BK162.out)|((with_reducible refine gate_callee (f:=48) rfl ?_);refine Kg_ (some 9) rfl rfl Try.func48 (by kernel_rfl) rfl #[.agg #[.int .u64 a0_0,.int .u64 a0_1,.int .u64 a0_2,.int .u64 a0_3],.int .i64 a1_4] rfl ?_;(with_reducible refine (vec_At.calls a0_0 a0_1 a0_2 a0_3 a1_4 t163 _ A3.out).mono ?_);rintro e w39 ⟨rfl,hb⟩;refine ⟨_,rfl,?_⟩;replace BK161:=Kb_ BK161 hb;replace BK162:=Kb_ BK162 hb;replace HB:=Ks_ HB hb;(try clear hb);obtain ⟨_,_,_,_,_,_,_,_,_,_⟩:=Ke5_ BK162.out)|((with_reducible refine gate_callee (f:=69) rfl ?_);refine Kg_ (some 12) rfl rfl Try.func69 (by kernel_rfl) rfl #[.agg #[.int .u64 a1_0,.int .u64 a1_1,.int .u64 a1_2,.int .u64 a1_3,.int .i64 a1_4]] rfl ?_;(with_reducible refine (stamp_Right.calls a1_0 a1_1 a1_2 a1_3 a1_4 true _ A4.out).mono ?_);rintro e w41 ⟨rfl,hb⟩;refine ⟨_,rfl,?_⟩;replace BK161:=Kb_ BK161 hb;replace BK162:=Kb_ BK162 hb;replace HB:=Ks_ HB hb;(try clear hb);obtain ⟨_,_,_,_,_,_,_,_,_,_⟩:=Ke5_ BK162.out)|((with_reducible refine gate_callee (f:=47) rfl ?_);refine Kg_ (some 16) rfl rfl Try.func47 (by kernel_rfl) rfl #[.agg #[.int .u64 a1_0,.int .u64 a1_1,.int .u64 a1_2,.int .u64 a1_3,.int .i64 a1_4]] rfl ?_;(with_reducible refine (stamp_Stamp_N.calls a1_0 a1_1 a1_2 a1_3 a1_4 t165 _ A6.out).mono ?_);rintro e w43 ⟨rfl,hb⟩;refine ⟨_,rfl,?_⟩;replace BK161:=Kb_ BK161 hb;replace BK162:=Kb_ BK162 hb;replace HB:=Ks_ HB hb;(try clear hb)))
 replace BK161:=Kd_ BK161
 replace BK162:=Kd_ BK162
 replace HB:=As_ (below_drew1 HB.out)
 refine start_ (n:=10) (S:=fun w'=>w'.cell? ⟨gb162,0,none⟩=some (.int .u64 a1_0)∧w'.cell? ⟨gb162,1,none⟩=some (.int .u64 a1_1)∧w'.cell? ⟨gb162,2,none⟩=some (.int .u64 a1_2)∧w'.cell? ⟨gb162,3,none⟩=some (.int .u64 a1_3)∧w'.cell? ⟨gb162,4,none⟩=some (.int .i64 a1_4)∧w'.cell? ⟨gb161,0,none⟩=some (.int .u64 a0_0)∧w'.cell? ⟨gb161,1,none⟩=some (.int .u64 a0_1)∧w'.cell? ⟨gb161,2,none⟩=some (.int .u64 a0_2)∧w'.cell? ⟨gb161,3,none⟩=some (.int .u64 a0_3)) (ds:=[]) (mB_ 10 0) (by kernel_rfl) rfl rfl ⟨Km_ BK162 0,Km_ BK162 1,Km_ BK162 2,Km_ BK162 3,Km_ BK162 4,Km_ BK161 0,Km_ BK161 1,Km_ BK161 2,Km_ BK161 3⟩ (fun hHeld=>?_);refine with_tabW stream_Ready.tab6 stream_Ready.bits6 (fun HT_ HW_=>?_)
 generalize w43.drew=w44 at BK161 BK162 HB hHeld ⊢
 refine Kp_ 0 20 (mB_ 10 1) (any_of HT_.out (by kernel_rfl)) ?_
 refine Kp_ 3 23 (mB_ 10 9) (any_of HT_.out (by kernel_rfl)) ?_
 refine Kp_ 5 25 (mB_ 10 41) (any_of HT_.out (by kernel_rfl)) ?_
 refine Kp_ 6 26 (mB_ 10 105) (any_of HT_.out (by kernel_rfl)) ?_
 refine Ko_ 1 21 (mB_ 10 107) (take_ofW HT_.out HW_.out (by kernel_rfl)) hHeld ?_
 refine Ko_ 2 22 (mB_ 10 111) (take_ofW HT_.out HW_.out (by kernel_rfl)) hHeld ?_
 refine Ko_ 4 24 (mB_ 10 127) (take_ofW HT_.out HW_.out (by kernel_rfl)) hHeld ?_
 refine one_ (i:=7) (N:=some 27) (mB_ 10 255) rfl rfl (one_of HT_.out (by kernel_rfl)) (by decide) (fun K hK=>?_)
 refine goes_ Try.func46 (by kernel_rfl) rfl #[.agg #[.int .u64 a0_0,.int .u64 a0_1,.int .u64 a0_2,.int .u64 a0_3],.int .i64 a1_4,.int .u64 (IntKind.u64.wrap (t163+1))] (by rfl) rfl rfl (by (try simp only [List.map_toArray,List.map_cons,List.map_nil]);first|done|rfl|(simp only [List.length_drop,List.length_take];rfl)) ?_
 with_reducible refine (vec_With.calls a0_0 a0_1 a0_2 a0_3 a1_4 (IntKind.u64.wrap (t163+1)) t166 t167 t168 t169 _ A18.out).mono ?_
 rintro e w45 ⟨rfl,hb⟩
 refine ⟨_,rfl,?_⟩
 replace BK161:=Kb_ BK161 hb
 replace BK162:=Kb_ BK162 hb
 replace HB:=Ks_ HB hb
 (try clear hb)
 (try clear hb2)
 (try clear hk)
 (try clear hi)
 refine hK.out _ _ ⟨Km_ BK162 0,Km_ BK162 1,Km_ BK162 2,Km_ BK162 3,Km_ BK162 4,Km_ BK161 0,Km_ BK161 1,Km_ BK161 2,Km_ BK161 3⟩ (fun hHeld=>?_)
 clear hK K
 refine Kn_ 27 ?_
 refine one_ (i:=8) (N:=some 28) (mB_ 10 511) rfl rfl (one_of HT_.out (by kernel_rfl)) (by decide) (fun K hK=>?_)
 refine goes_ Try.func49 (by kernel_rfl) rfl #[.agg #[.int .u64 a1_0,.int .u64 a1_1,.int .u64 a1_2,.int .u64 a1_3],.agg #[.int .u64 t166,.int .u64 t167,.int .u64 t168,.int .u64 t169]] (by rfl) rfl rfl (by (try simp only [List.map_toArray,List.map_cons,List.map_nil]);first|done|rfl|(simp only [List.length_drop,List.length_take];rfl)) ?_
 with_reducible refine (vec_Leq.calls a1_0 a1_1 a1_2 a1_3 t166 t167 t168 t169 false _ A19.out).mono ?_
 rintro e w46 ⟨rfl,hb⟩
 refine ⟨_,rfl,?_⟩
 replace BK161:=Kb_ BK161 hb
 replace BK162:=Kb_ BK162 hb
 replace HB:=Ks_ HB hb
 (try clear hb)
 (try clear hb2)
 (try clear hk)
 (try clear hi)
 refine hK.out _ _ ⟨Km_ BK162 0,Km_ BK162 1,Km_ BK162 2,Km_ BK162 3,Km_ BK162 4,Km_ BK161 0,Km_ BK161 1,Km_ BK161 2,Km_ BK161 3⟩ (fun hHeld=>?_)
 clear hK K
 refine Kn_ 28 ?_
 refine Kp_ 9 19 (mB_ 10 1023) (any_of HT_.out (by kernel_rfl)) ?_
 refine done_ (done_of HT_.out (by kernel_rfl)) ?_
 try go_wp2
 go_ret
 exact ⟨Kh_,K2a_ HB GW161 GW162⟩
def L15_examples.St (w:World) (g:Nat) (n:Int) (v:Value):Prop:=w.heap[g]?=some (.cells #[.int .u64 n,v] 157 (0,0))
theorem L15_examples.St.below {w w1:World} {g:Nat} {n:Int} {v:Value} (h:L15_examples.St w g n v) (hb:Below w.heap.size w w1):L15_examples.St w1 g n v:=blk_below h hb
theorem L15_examples.St.alloc {w:World} {g:Nat} {n:Int} {v:Value} (h:L15_examples.St w g n v) (o:Obj):L15_examples.St (w.alloc o) g n v:=blk_alloc h o
theorem L15_examples.info:(Try.prog.info? 9).map (fun i=>(i.zero,i.size,i.bytes))=some (some (.string ⟨#[]⟩),1,16):=by kernel_rfl
theorem L15_examples.w64 {x:Int} (h0:0≤x) (h1:x≤1000000):IntKind.u64.wrap x=x:=by
 rw [IntKind.wrap_u64]
 omega
set_option maxHeartbeats 4000000 in
theorem L15_examples.new_c (w:World):Calls Try.prog 51 #[] w fun e w'=>e = .returned (.pointer (some ⟨w.heap.size,0,none⟩))∧L15_examples.St w' w.heap.size 0 (.slice none 0 0)∧Below w.heap.size w w':=by
 go_enter Try.func51,Try.ntmps51
 go_wp2
 go_ret
 exact ⟨rfl,blk_new _ _,below_alloc (Below.refl _ _) _⟩
set_option maxHeartbeats 4000000 in
theorem L15_examples.acked_c (w:World) {g:Nat} {n:Int} {v:Value} (hS:L15_examples.St w g n v):Calls Try.prog 55 #[.pointer (some ⟨g,0,none⟩)] w fun e w'=>e = .returned (.int .u64 n)∧Below w.heap.size w w':=by
 have h0:w.cell? ⟨g,0,none⟩=some (.int .u64 n):=(blk_cell hS 0).trans rfl
 have h1:w.cell? ⟨g,1,none⟩=some v:=(blk_cell hS 1).trans rfl
 have HS:=As_ hS
 clear hS
 go_enter Try.func55,Try.ntmps55
 go_wp2
 try (go_region;go_wp2)
 go_ret
 exact ⟨rfl,by first|exact Below.refl _ _|exact below_drew1 (Below.refl _ _)⟩
set_option maxHeartbeats 4000000 in
theorem L15_examples.last_c (w:World) {g:Nat} {n:Int} {A:Option Addr} {m c:Nat} (hS:L15_examples.St w g n (.slice A m c)) (n0:0≤n) (n1:n≤1000) (m1:m≤1000):Calls Try.prog 56 #[.pointer (some ⟨g,0,none⟩)] w fun e w'=>e = .returned (.int .u64 (n+(m:Int)))∧Below w.heap.size w w':=by
 have h0:w.cell? ⟨g,0,none⟩=some (.int .u64 n):=(blk_cell hS 0).trans rfl
 have h1:w.cell? ⟨g,1,none⟩=some (.slice A m c):=(blk_cell hS 1).trans rfl
 have e1:IntKind.u64.wrap (m:Int)=m:=L15_examples.w64 (by omega) (by omega)
 have e2:IntKind.u64.wrap (n+(m:Int))=n+(m:Int):=L15_examples.w64 (by omega) (by omega)
 clear hS
 go_enter Try.func56,Try.ntmps56
 go_wp2
 go_region
 all_goals go_wp2
 go_ret
 exact ⟨rfl,below_drew1 (Below.refl _ _)⟩
set_option maxHeartbeats 4000000 in
theorem L15_examples.push_c (w0 w:World) {g:Nat} {n:Int} {v:Value} {xs:List ByteArray} (x:ByteArray) (hS:L15_examples.St w g n v) (hR:Kd.R Kd.string 9 w w0.heap.size (fun k=>k ≠ g) v xs) (hB:Below w0.heap.size w0 w) (hg:w0.heap.size≤g) (n0:0≤n) (n1:n≤900) (m1:xs.length≤900) :
  Calls Try.prog 52 #[.pointer (some ⟨g,0,none⟩),.string x] w fun e w'=>e = .returned (.int .u64 (n+((xs.length:Int)+1)))∧(∃ v',L15_examples.St w' g n v'∧Kd.R Kd.string 9 w' w0.heap.size (fun k=>k ≠ g) v' (xs++[x]))∧Below w0.heap.size w0 w':=by
 obtain ⟨A,c,rfl,hc,_⟩:=Kd.R_reads hR
 have h0:w.cell? ⟨g,0,none⟩=some (.int .u64 n):=(blk_cell hS 0).trans rfl
 have h1:w.cell? ⟨g,1,none⟩=some (.slice A xs.length c):=(blk_cell hS 1).trans rfl
 have HS:=As_ hS
 have HR:=As_ hR
 have HB:=As_ hB
 have HGL:=As_ (blk_lt hS)
 have hn9:n≤1000:=by omega
 have hm9:xs.length+1≤1000:=by omega
 have hl9:(xs++[x]).length=xs.length+1:=by rw [List.length_append,List.length_singleton]
 clear hS hR hB
 go_enter Try.func52,Try.ntmps52
 go_wp2_with (first
  | ((with_reducible refine gate_builtin (b:=.append) (xs:=#[.tmp 9,.tmp 11]) rfl ?_);at_builtin;refine Kd.R_append Kd.string (w0:=w0) w0.heap.size rfl (.tmp 9) (.tmp 11) 113 9 (.string ⟨#[]⟩) 16 rfl Try.underlying113 L15_examples.info rfl (by decide) (by omega) (.slice A xs.length c) xs x [.string x] (fun k=>k ≠ g) (fun _=>False) rfl rfl ?aP (fun _ hk=>hk.elim) ?aF ?aO ?aB ?aS ?aL ?_;(case aP=>rfl);(case aF=>exact (fun k hk=>by have:=HGL.out;omega));(case aO=>exact HR.out);(case aB=>exact HB.out);(case aS=>exact below_size HB.out);(case aL=>omega);intro v1 w1 ho hb hg1 hat;have HO:=As_ ho;have HB1:=As_ hb;have HS1:=As_ (blk_grown HS.out hg1 (fun e=>HR.out.1 g e.symm rfl));have h11:w1.cell? ⟨g,1,none⟩=some (.slice A xs.length c):=((blk_cell HS1.out 1).trans rfl);have h1f:=blk_frozen HS1.out 1;obtain ⟨A1,c1,e1,_,_⟩:=Kd.R_reads ho;subst e1;have HS2:Aside0 (L15_examples.St (w1.setCell ⟨g,1,none⟩ (.slice A1 (xs.length+1) c1)) g n (.slice A1 (xs.length+1) c1)):=⟨blk_put HS1.out 1 (.slice A1 (xs.length+1) c1) rfl⟩;rw [hl9] at HO;clear ho hb hg1 hat)
  | (go_at_call 56;go_loud ((with_reducible refine (L15_examples.last_c _ HS2.out n0 hn9 hm9).mono ?_);rintro e w2 ⟨rfl,hb⟩;have HB2:=As_ hb;clear hb)))
 go_ret
 refine ⟨?_,⟨_,blk_below HS2.out HB2.out,Kd.R_below (Kd.R_far HO.out (p:=⟨g,1,none⟩) (fun k hk=>hk) _) HB2.out⟩,below_step (HB1.out.setCell hg _) HB2.out⟩
 rfl
set_option maxHeartbeats 4000000 in
theorem L15_examples.rest_c (w:World) {g:Nat} {n:Int} {A:Option Addr} {c:Nat} {xs:List ByteArray} (hS:L15_examples.St w g n (.slice A xs.length c)) (hC:Kd.C Kd.string w A xs.length xs) (hc:xs.length≤c) (m1:xs.length≤9) :
  Calls Try.prog 53 #[.pointer (some ⟨g,0,none⟩),.int .i64 9] w fun e w'=>∃ v,e = .returned v∧Kd.R Kd.string 9 w' w.heap.size (fun _=>True) v xs∧Below w.heap.size w w':=by
 have h0:w.cell? ⟨g,0,none⟩=some (.int .u64 n):=(blk_cell hS 0).trans rfl
 have h1:w.cell? ⟨g,1,none⟩=some (.slice A xs.length c):=(blk_cell hS 1).trans rfl
 have HC:=As_ hC
 obtain ⟨m,hm⟩:∃ m,m=xs.length:=⟨_,rfl⟩
 rw [← hm] at h1 hc m1
 have hmin:(if (m:Int)<9 then (m:Int) else 9)=(m:Int):=by split <;> omega
 have hmax:(if (m:Int)<0 then 0 else (m:Int))=(m:Int):=if_neg (by omega)
 have hm0:(0:Int)≤(m:Int):=by omega
 have hmc:(m:Int)≤(c:Int):=by omega
 rw [← hm] at HC
 clear hS hC hm
 go_enter Try.func53,Try.ntmps53
 go_wp2
 refine start_ (n:=15) (S:=fun w'=>w'.cell? ⟨g,0,none⟩=some (.int .u64 n)∧w'.cell? ⟨g,1,none⟩=some (.slice A m c)) (ds:=[]) (mB_ 15 0) (by kernel_rfl) rfl rfl ⟨h0,h1⟩ (fun hHeld=>?_)
 refine Kp_ 0 5 (mB_ 15 1) (by kernel_rfl) ?_
 refine Kp_ 1 6 (mB_ 15 3) (by kernel_rfl) ?_
 refine Kp_ 2 7 (mB_ 15 7) (by kernel_rfl) ?_
 refine Ko_ 3 8 (mB_ 15 15) (by kernel_rfl) hHeld ?_
 refine Kp_ 4 9 (mB_ 15 31) (by kernel_rfl) ?_
 refine Kp_ 5 10 (mB_ 15 63) (by kernel_rfl) ?_
 refine Kp_ 6 11 (mB_ 15 127) (by kernel_rfl) ?_
 refine Kp_ 7 12 (mB_ 15 255) (by kernel_rfl) ?_
 refine Ko_ 8 13 (mB_ 15 511) (by kernel_rfl) hHeld ?_
 refine Kp_ 9 14 (mB_ 15 1023) (by kernel_rfl) ?_
 refine Kp_ 10 15 (mB_ 15 2047) (by kernel_rfl) ?_
 refine Kp_ 11 16 (mB_ 15 4095) (by kernel_rfl) ?_
 refine Kp_ 12 17 (mB_ 15 8191) (by kernel_rfl) ?_
 refine one_ (i:=13) (N:=some 18) (mB_ 15 16383) rfl rfl (by kernel_rfl) (by decide) (fun K hK=>?_)
 refine Kd.R_append_rows_step Kd.string (w0:=w) w.heap.size (by rfl) (.const (.slice none 0 0)) (.tmp 17) 113 9 (.string ⟨#[]⟩) 16 rfl Try.underlying113 L15_examples.info rfl (by decide) (by omega) (.slice none 0 0) ([]:List ByteArray) xs _ _ _ (fun _=>True) (fun _=>False) rfl rfl ?aO ?aR (fun _ _ h=>h) (fun _ h=>h.elim) ?aF ?aB ?aS ?aL ?_
 (case aO=>exact Kd.R_nil _ _ _ _ _)
 (case aR=>exact HC.out)
 (case aF=>exact (fun _ _=>trivial))
 (case aB=>exact below_drew1 (Below.refl _ _))
 (case aS=>exact Nat.le_refl _)
 (case aL=>rw [List.length_nil];omega)
 intro v1 w6 ho hb hg6 hat
 have HO:=As_ ho
 have HB6:=As_ hb
 clear ho hg6 hat
 refine hK.out _ _ ⟨(hb.cell (World.block_lt_of_cell? _ _ h0)).trans h0,(hb.cell (World.block_lt_of_cell? _ _ h1)).trans h1⟩ (fun hHeld=>?_)
 clear hb hK K
 refine Kn_ 18 ?_
 refine Kp_ 14 4 (mB_ 15 32767) (by kernel_rfl) ?_
 refine done_ (by kernel_rfl) ?_
 try go_wp2
 go_ret
 exact ⟨_,rfl,HO.out,HB6.out⟩
set_option maxHeartbeats 4000000 in
theorem L15_examples.ack_no (w:World) {g:Nat} {n x:Int} {A:Option Addr} {m c:Nat} (hS:L15_examples.St w g n (.slice A m c)) (n0:0≤n) (n1:n≤1000) (m1:m≤1000) (hx:n+(m:Int)<x∨x≤n) :
  Calls Try.prog 54 #[.pointer (some ⟨g,0,none⟩),.int .u64 x] w fun e w'=>e = .returned (.bool false)∧Below w.heap.size w w':=by
 have HS:=As_ hS
 clear hS
 by_cases hgt:n+(m:Int)<x
 ·have c1:decide (n+(m:Int)<x)=true:=decide_eq_true hgt
  go_enter Try.func54,Try.ntmps54
  go_wp2_with (first|(go_at_call 56;(with_reducible refine (L15_examples.last_c _ HS.out n0 n1 m1).mono ?_);rintro e w2 ⟨rfl,hb⟩;have HB2:=As_ hb;clear hb))
  go_ret
  exact ⟨rfl,HB2.out⟩
 ·have c1:decide (n+(m:Int)<x)=false:=decide_eq_false hgt
  have hle:x≤n:=hx.resolve_left hgt
  have c2:decide (x≤n)=true:=decide_eq_true hle
  go_enter Try.func54,Try.ntmps54
  go_wp2_with (first|(go_at_call 56;(with_reducible refine (L15_examples.last_c _ HS.out n0 n1 m1).mono ?_);rintro e w2 ⟨rfl,hb⟩;have HB2:=As_ hb;have h0:w2.cell? ⟨g,0,none⟩=some (.int .u64 n):=((blk_cell (blk_below HS.out hb) 0).trans rfl);clear hb))
  go_ret
  exact ⟨rfl,HB2.out⟩
set_option maxHeartbeats 4000000 in
set_option maxRecDepth 100000 in
theorem L15_examples.ack_yes (w0 w:World) {g:Nat} {n x:Int} {A:Option Addr} {m c j:Nat} (hS:L15_examples.St w g n (.slice A m c)) (hB:Below w0.heap.size w0 w) (hg:w0.heap.size≤g) (n0:0≤n) (n1:n≤1000) (m1:m≤1000) (hx:x=n+(j:Int)) (hj:1≤j) (hjm:j≤m) (hmc:m≤c) :
  Calls Try.prog 54 #[.pointer (some ⟨g,0,none⟩),.int .u64 x] w fun e w'=>e = .returned (.bool true)∧L15_examples.St w' g x (.slice (if c=j then A else A.map (·.add j)) (m - j) (c - j))∧KeepBut w w' g none∧Below w0.heap.size w0 w':=by
 have HS:=As_ hS
 have HB:=As_ hB
 clear hS hB
 have c1:decide (n+(m:Int)<x)=false:=decide_eq_false (by omega)
 have c2:decide (x≤n)=false:=decide_eq_false (by omega)
 have e3:IntKind.u64.wrap (x - n)=(j:Int):=by rw [show x - n=(j:Int) by omega];exact L15_examples.w64 (by omega) (by omega)
 have d1:(0:Int)≤(j:Int):=by omega
 have d2:(j:Int)≤(m:Int):=by omega
 have d3:(m:Int)≤(c:Int):=by omega
 clear hx
 go_enter Try.func54,Try.ntmps54
 go_wp2_with (first|(go_at_call 56;(with_reducible refine (L15_examples.last_c _ HS.out n0 n1 m1).mono ?_);rintro e w2 ⟨rfl,hb⟩;have HB2:=As_ hb;have HS2:=As_ (blk_below HS.out hb);obtain ⟨h0,h1,f0,f1⟩:=Ke2_ HS2.out;clear hb))
 go_region
 all_goals go_wp2
 all_goals
  have hsz:w.heap.size≤w2.heap.size:=HB2.out.size
  go_ret
  refine ⟨rfl,blk_drew (blk_put (blk_put HS2.out 1 _ rfl) 0 _ rfl),⟨by simpa using hsz,fun i hi hne _=>?_⟩,below_drew1 (((below_step HB.out HB2.out).setCell hg _).setCell hg _)⟩
  refine (Below.heap_setCell _ _ _ i hne).trans ((Below.heap_setCell _ _ _ i hne).trans (HB2.out.block i hi))
def L15_examples.T:ByteArray:=⟨#[2,2,172,2,100,117,81,48]⟩
theorem L15_examples.put:stream_Put.f 100 2 2 300 0 0 0 0 0 []=some (L15_examples.T,true):=by kernel_rfl
theorem L15_examples.get:stream_Get.f 100 L15_examples.T=some (2,2,300,0,0,0,0,0,[],0):=by kernel_rfl
theorem L15_examples.right:stream_Right.f 100 0 0 0 0 0 0 0 0 []=some false:=by kernel_rfl
theorem L15_examples.ready1:stream_Ready.f 1 1 0 0 2 1 0 0 1=some 1:=by kernel_rfl
theorem L15_examples.ready2:stream_Ready.f 2 1 0 0 2 1 0 0 1=some (-1):=by kernel_rfl
theorem L15_examples.ready3:stream_Ready.f 1 0 0 0 2 1 0 0 1=some 0:=by kernel_rfl
theorem L15_examples.nilC (w:World):Kd.C k107 w none ([]:List S107).length []:=⟨rfl,by simp,fun h=>absurd h (Nat.lt_irrefl 0)⟩
def L15_examples.f:Option Bool:=some true
set_option maxHeartbeats 8000000 in
set_option maxRecDepth 100000 in
theorem L15_examples.calls (r:Bool) (w:World) (h:L15_examples.f=some r):Calls Try.prog 11 #[] w fun e w'=>e = .returned (.bool r)∧Below w.heap.size w w':=by
 obtain rfl:=Option.some.inj h
 clear h
 go_enter Try.func11,Try.ntmps11
 go_wp2_with (first
  | (go_at_call 51;(with_reducible refine (L15_examples.new_c _).mono ?_);rintro e wc ⟨rfl,hS,hb⟩;have HS:=As_ hS;have HB:=As_ hb;have HR:=As_ (Kd.R_nil Kd.string 9 wc w.heap.size (fun k=>k ≠ w.heap.size));clear hS hb)
  | (go_at_call 52;(with_reducible refine (L15_examples.push_c w _ _ HS.out HR.out HB.out (Nat.le_refl _) (by decide) (by decide) (by simp)).mono ?_);rintro e wc ⟨rfl,⟨v,hS,hR⟩,hB⟩;(simp only [List.nil_append,List.cons_append] at hR);obtain ⟨A,c,ev,hc,hC⟩:=Kd.R_reads hR;subst ev;have HS:=As_ hS;have HR:=As_ hR;have HB:=As_ hB;have HC:=As_ hC;clear hS hR hB hC)
  | (go_at_call 53;(with_reducible refine (L15_examples.rest_c _ HS.out HC.out hc (by decide)).mono ?_);rintro e wc ⟨v3,rfl,hR3,hb⟩;obtain ⟨A3,c3,ev,_,hC3⟩:=Kd.R_reads hR3;subst ev;have HL:=As_ hC3;have HS:=As_ (HS.out.below hb);have HC:=As_ (Kd.C_below HC.out hb);have HR:=As_ (Kd.R_below HR.out hb);have HB:=As_ (below_step HB.out hb);clear hR3 hC3 hb)
  | (go_at_call 54;(with_reducible refine (L15_examples.ack_no _ HS.out (by decide) (by decide) (by decide) ?hx).mono ?_);(case hx=>first|decide|(simp;done));rintro e wc ⟨rfl,hb⟩;have HS:=As_ (HS.out.below hb);have HC:=As_ (Kd.C_below HC.out hb);have HR:=As_ (Kd.R_below HR.out hb);have HB:=As_ (below_step HB.out hb);clear hb)
  | (go_at_call 54;(with_reducible refine (L15_examples.ack_yes w _ (j:=1) HS.out HB.out (Nat.le_refl _) (by decide) (by decide) (by decide) ?hx (by decide) (by decide) hc).mono ?_);(case hx=>first|decide|(simp;done));rintro e wc ⟨rfl,hS,hk,hB⟩;have HS:=As_ hS;have HB:=As_ hB;have HR:=As_ (Kd.R_keep HR.out hk (fun k hk=>hk));have HC:=As_ (Kd.C_drop (m:=1) (Kd.R_reads' HR.out).2.2 (by decide) hc);have hc:([⟨#[98]⟩]:List ByteArray).length≤c - 1:=(by have:2≤c:=hc;show 1≤c - 1;omega);clear hS hk hB)
  | (go_at_call 27;refine (stream_Put.calls 100 2 2 300 0 0 0 0 0 none 0 [] _ _ _ (L15_examples.nilC _) (by simp) L15_examples.put).mono ?_;rintro e wd ⟨rfl,hb⟩;have hbq:=below_step (below_alloc (Below.refl wc.heap.size wc) _) hb;have HT:=As_ (blk_below (blk_new wc (Obj.cells #[.int .u64 2,.int .u64 1,.int .u64 0,.int .u64 0,.int .i64 1] 30)) hb);have HS:=As_ (HS.out.below hbq);have HL:=As_ (Kd.C_below HL.out hbq);have HB:=As_ (below_step HB.out hbq);clear hb hbq)
  | (go_at_call 36;refine (stream_Get.calls 100 L15_examples.T 2 2 300 0 0 0 0 0 [] 0 _ L15_examples.get).mono ?_;rintro e we ⟨v8,rfl,hR8,hb⟩;obtain ⟨A8,c8,e8,_,_⟩:=Kd.R_reads hR8;subst e8;have HT:=As_ (blk_below HT.out hb);have HS:=As_ (HS.out.below hb);have HL:=As_ (Kd.C_below HL.out hb);have HB:=As_ (below_step HB.out hb);obtain ⟨ad,ea,hq⟩:=Kd.at_string HL.out 0 (by decide) (by decide);cases ea;have hq0:∀ o,(we.alloc o).cell? (ad.add 0)=some (.string ⟨#[98]⟩):=(fun o=>(World.cell?_alloc_lt _ _ _ (World.block_lt_of_cell? _ _ hq)).trans hq);have hq1:∀ o,(we.alloc o).cell? ad=some (.string ⟨#[98]⟩):=(fun o=>by have ha:ad.add 0=ad:=(by simp [Addr.add]);have h2:=hq0 o;rwa [ha] at h2);clear hR8 hb)
  | (go_at_call 55;(with_reducible refine (L15_examples.acked_c _ (HS.out.alloc _)).mono ?_);rintro e wc ⟨rfl,hb⟩;have HM:=As_ (blk_below (blk_new we (Obj.cells #[.int .i64 2,.int .i64 2,.int .u64 300,.int .u64 0,.int .u64 0,.int .u64 0,.int .u64 0,.int .i64 0,.slice A8 0 c8] 69)) hb);have HT:=As_ (blk_below (blk_alloc HT.out _) hb);have HS:=As_ ((HS.out.alloc _).below hb);have HB:=As_ (below_step (below_alloc HB.out _) hb);obtain ⟨t0,t1,t2,t3,t4⟩:=Kc5_ HT.out;obtain ⟨m0,m1,m2,m3,m4,m5,m6,m7,m8⟩:=Kc9_ HM.out;clear hb)
  | (go_at_call 56;(with_reducible refine (L15_examples.last_c _ HS.out (by decide) (by decide) (by decide)).mono ?_);rintro e wc ⟨rfl,hb⟩;have HS:=As_ (HS.out.below hb);have HT:=As_ (blk_below HT.out hb);have HM:=As_ (blk_below HM.out hb);have HB:=As_ (below_step HB.out hb);obtain ⟨t0,t1,t2,t3,t4⟩:=Kc5_ HT.out;obtain ⟨m0,m1,m2,m3,m4,m5,m6,m7,m8⟩:=Kc9_ HM.out;clear hb)
  | (go_at_call 30;(with_reducible refine (stream_Ready.calls 1 1 0 0 2 1 0 0 1 _ _ L15_examples.ready1).mono ?_);rintro e wc ⟨rfl,hb⟩;have HS:=As_ (HS.out.below hb);have HT:=As_ (blk_below HT.out hb);have HM:=As_ (blk_below HM.out hb);have HB:=As_ (below_step HB.out hb);obtain ⟨t0,t1,t2,t3,t4⟩:=Kc5_ HT.out;obtain ⟨m0,m1,m2,m3,m4,m5,m6,m7,m8⟩:=Kc9_ HM.out;clear hb)
  | (go_at_call 30;(with_reducible refine (stream_Ready.calls 2 1 0 0 2 1 0 0 1 _ _ L15_examples.ready2).mono ?_);rintro e wc ⟨rfl,hb⟩;have HS:=As_ (HS.out.below hb);have HT:=As_ (blk_below HT.out hb);have HM:=As_ (blk_below HM.out hb);have HB:=As_ (below_step HB.out hb);obtain ⟨t0,t1,t2,t3,t4⟩:=Kc5_ HT.out;obtain ⟨m0,m1,m2,m3,m4,m5,m6,m7,m8⟩:=Kc9_ HM.out;clear hb)
  | (go_at_call 30;(with_reducible refine (stream_Ready.calls 1 0 0 0 2 1 0 0 1 _ _ L15_examples.ready3).mono ?_);rintro e wc ⟨rfl,hb⟩;have HS:=As_ (HS.out.below hb);have HT:=As_ (blk_below HT.out hb);have HM:=As_ (blk_below HM.out hb);have HB:=As_ (below_step HB.out hb);obtain ⟨t0,t1,t2,t3,t4⟩:=Kc5_ HT.out;obtain ⟨m0,m1,m2,m3,m4,m5,m6,m7,m8⟩:=Kc9_ HM.out;clear hb)
  | (go_at_call 33;refine (stream_Right.calls 100 0 0 0 0 0 0 0 0 none 0 [] _ _ (L15_examples.nilC _) (by simp) L15_examples.right).mono ?_;rintro e wc ⟨rfl,hb⟩;have HB:=As_ (below_step HB.out hb);clear hb))
 go_ret
 exact ⟨rfl,HB.out⟩
theorem w64_0:wrap64 0=0:=by first|rfl|decide|(unfold wrap64;omega)
theorem w64_1:wrap64 1=1:=by first|rfl|decide|(unfold wrap64;omega)
theorem w64_2:wrap64 2=2:=by first|rfl|decide|(unfold wrap64;omega)
theorem w64_3:wrap64 3=3:=by first|rfl|decide|(unfold wrap64;omega)
attribute [local go_sem] w64_0 w64_1 w64_2 w64_3   -- for this text's walks alone
def L15_Mark_mark.l0:Nat→Int→Int→Int→Int→Int→Int→Bool→Int→Int→Int→Int→Int→Option (Int × Int × Int × Int × Int)
 | 0,_,_,_,_,_,_,_,_,_,_,_,_=>none
 | k+1,x4,x115,x116,x117,x118,x119,x120,x100,x102,x109,x110,x112=>if x4<3 then (if x4=0 then (L15_Mark_mark.l0 k (wrap64 (x4+1)) x115 x116 x117 x118 x119 x120 (Int.tmod x115 4) x102 x109 x110 x112) else (if x4=1 then (L15_Mark_mark.l0 k (wrap64 (x4+1)) x115 x116 x117 x118 x119 x120 x100 (Int.tmod x116 4) x109 x110 x112) else (if x4=2 then (L15_Mark_mark.l0 k (wrap64 (x4+1)) x115 x116 x117 x118 x119 x120 x100 x102 (Int.tmod x117 4) x110 x112) else (none)))) else (if x112=1 then (some (IntKind.u64.wrap (1+x100),x102,x109,x110,x112)) else (if x112=2 then (some (x100,IntKind.u64.wrap (1+x102),x109,x110,x112)) else (if x112=3 then (some (x100,x102,IntKind.u64.wrap (1+x109),x110,x112)) else (if x112=4 then (some (x100,x102,x109,IntKind.u64.wrap (1+x110),x112)) else (none)))))
def L15_Mark_mark.f (k:Nat) (a0_0:Int) (a0_1:Int) (a0_2:Int) (a0_3:Int) (a0_4:Int) (a0_5:Bool):Option (Int × Int × Int × Int × Int):=if a0_5=true then (L15_Mark_mark.l0 k 0 a0_0 a0_1 a0_2 a0_3 a0_4 a0_5 0 0 0 0 (wrap64 (1+(wrap64 (Int.tmod (IntKind.u64.wrap (a0_4)) 3))))) else (some (a0_0,a0_1,a0_2,a0_3,a0_4))
def L15_Mark_mark.T8:Bool × List (List Nat × List Nat):=(true,[([],[]),([0],[0]),([1],[1]),([],[]),([3],[3]),([4],[4]),([],[]),([6,5],[5,6]),([7],[7]),([8],[8]),([],[]),([10,2,0,1,2,3,4,5,6,7,8,9],[2,10]),([11,9,0,1,2,3,4,5,6,7,8,9],[9,11])])
def L15_Mark_mark.B8:List Nat:=[0,1,3,0,8,24,0,120,248,504,0,2047,4095]
theorem L15_Mark_mark.tab8:rtab .any (opsOf Try.f25 8)=L15_Mark_mark.T8:=by kernel_rfl
theorem L15_Mark_mark.bits8:waitsOk L15_Mark_mark.T8.2 L15_Mark_mark.B8=true:=by kernel_rfl
set_option maxHeartbeats 8000000 in
set_option maxRecDepth 100000 in
theorem L15_Mark_mark.calls (k:Nat) (a0_0:Int) (a0_1:Int) (a0_2:Int) (a0_3:Int) (a0_4:Int) (a0_5:Bool) (r1:Int) (r2:Int) (r3:Int) (r4:Int) (r5:Int) (w:World) (h:L15_Mark_mark.f k a0_0 a0_1 a0_2 a0_3 a0_4 a0_5=some (r1,r2,r3,r4,r5)) :
  Calls Try.prog 25 #[.agg #[.int .u64 a0_0,.int .u64 a0_1,.int .u64 a0_2,.int .u64 a0_3,.int .i64 a0_4,.bool a0_5]] w fun e w'=>e = .returned (.agg #[.int .u64 r1,.int .u64 r2,.int .u64 r3,.int .u64 r4,.int .i64 r5])∧Below w.heap.size w w':=by
 have hu39:=Try.underlying39
 have hu30:=Try.underlying30
 have HB:=As_ (Below.refl w.heap.size w)
 unfold L15_Mark_mark.f at h
 have H:=h
 clear h
 by_cases c2:a0_5=true
 rotate_left
 ·replace c2:=Bool.eq_false_iff.mpr c2
  subst c2
  rw [if_neg Bool.false_ne_true] at H
  simp only [Option.some.injEq,Prod.mk.injEq] at H
  obtain ⟨rfl,rfl,rfl,rfl,rfl⟩:=H
  go_enter Try.func25,Try.ntmps25
  go_wp2_with (first|((with_reducible refine gate_dst (N:=1) rfl ?_);refine Ka_ 1 #[.int .u64 a0_0,.int .u64 a0_1,.int .u64 a0_2,.int .u64 a0_3,.int .i64 a0_4,.bool false] 39 ?_;intro gb299 hg w62 hbox hb;have BK299:=As_ (hbox);have GW299:=Kw_ HB hg;replace HB:=Ks_ HB hb;clear hb hbox hg)|((with_reducible refine gate_dst (N:=2) rfl ?_);refine Ka_ 2 #[.int .u64 0,.int .u64 0,.int .u64 0,.int .u64 0,.int .i64 0] 30 ?_;intro gb300 hg w63 hbox hb;have BK300:=As_ (hbox);have GW300:=Kw_ HB hg;have NB299_300:=Kl_ BK299 hg;have NB300_299:=Kr_ BK299 hg;replace BK299:=Kb_ BK299 hb;replace HB:=Ks_ HB hb;clear hb hbox hg;have hnb64:=NB299_300.out;have hnc64:=NB300_299.out;obtain ⟨_,_,_,_,_,_,_,_,_,_,_,_⟩:=Ke6_ BK299.out;obtain ⟨_,_,_,_,_,_,_,_,_,_⟩:=Ke5_ BK300.out))
  refine bodyPost_ret (results_cell_row rfl _ _ gb300 30 #[.int .u64 a0_0,.int .u64 a0_1,.int .u64 a0_2,.int .u64 a0_3,.int .i64 a0_4] (0,0) _ rfl (by refine Kv_ ?_;exact Kput5_ (Kq_ BK300)) Try.underlying30 rfl (by kernel_rfl)) rfl ?_
  exact ⟨Kh_,K2a_ HB GW299 GW300⟩
 subst c2
 rw [if_pos rfl] at H
 have H':=As_ H
 clear H
 go_enter Try.func25,Try.ntmps25
 go_wp2_with (first|((with_reducible refine gate_dst (N:=1) rfl ?_);refine Ka_ 1 #[.int .u64 a0_0,.int .u64 a0_1,.int .u64 a0_2,.int .u64 a0_3,.int .i64 a0_4,.bool true] 39 ?_;intro gb299 hg w3 hbox hb;have BK299:=As_ (hbox);have GW299:=Kw_ HB hg;replace HB:=Ks_ HB hb;clear hb hbox hg)|((with_reducible refine gate_dst (N:=2) rfl ?_);refine Ka_ 2 #[.int .u64 0,.int .u64 0,.int .u64 0,.int .u64 0,.int .i64 0] 30 ?_;intro gb300 hg w4 hbox hb;have BK300:=As_ (hbox);have GW300:=Kw_ HB hg;have NB299_300:=Kl_ BK299 hg;have NB300_299:=Kr_ BK299 hg;replace BK299:=Kb_ BK299 hb;replace HB:=Ks_ HB hb;clear hb hbox hg;have hnb5:=NB299_300.out;have hnc5:=NB300_299.out;obtain ⟨hcz6_0,hcz6_1,hcz6_2,hcz6_3,hcz6_4,hcz6_5,hfz6_0,hfz6_1,hfz6_2,hfz6_3,hfz6_4,hfz6_5⟩:=Ke6_ BK299.out)|((with_reducible refine gate_dst (N:=3) rfl ?_);refine Ka_ 3 #[.int .u64 0,.int .u64 0,.int .u64 0,.int .u64 0,.int .i64 0] 30 ?_;intro gb301 hg w7 hbox hb;have BK301:=As_ (hbox);have GW301:=Kw_ HB hg;have NB299_301:=Kl_ BK299 hg;have NB301_299:=Kr_ BK299 hg;have NB300_301:=Kl_ BK300 hg;have NB301_300:=Kr_ BK300 hg;replace BK299:=Kb_ BK299 hb;replace BK300:=Kb_ BK300 hb;replace HB:=Ks_ HB hb;clear hb hbox hg;have hnb8:=NB301_299.out;have hnc8:=NB299_301.out;have hnb9:=NB301_300.out;have hnc9:=NB300_301.out;obtain ⟨hcz10_0,hcz10_1,hcz10_2,hcz10_3,hcz10_4,hfz10_0,hfz10_1,hfz10_2,hfz10_3,hfz10_4⟩:=Ke5_ BK301.out))
 go_loopg [4] k (fun kq v4 w'=>∃ (x4_1:Int) (x100_1:Int) (x102_1:Int) (x109_1:Int) (x110_1:Int),v4 = .int .i64 x4_1∧Aside0 (L15_Mark_mark.l0 kq x4_1 a0_0 a0_1 a0_2 a0_3 a0_4 true x100_1 x102_1 x109_1 x110_1 (wrap64 (1+(wrap64 (Int.tmod (IntKind.u64.wrap (a0_4)) 3))))=some (r1,r2,r3,r4,r5))∧Aside0 (kq≤k)∧Aside0 (w'.heap[gb299]?=some (.cells #[.int .u64 a0_0,.int .u64 a0_1,.int .u64 a0_2,.int .u64 a0_3,.int .i64 a0_4,.bool true] 39 (0,0)))∧Aside0 (w'.heap[gb300]?=some (.cells #[.int .u64 0,.int .u64 0,.int .u64 0,.int .u64 0,.int .i64 0] 30 (0,0)))∧Aside0 (w'.heap[gb301]?=some (.cells #[.int .u64 x100_1,.int .u64 x102_1,.int .u64 x109_1,.int .u64 x110_1,.int .i64 (wrap64 (1+(wrap64 (Int.tmod (IntKind.u64.wrap (a0_4)) 3))))] 30 (0,0)))∧Aside0 (Below w.heap.size w w'))
 case atStart=>exact ⟨(0),(0),(0),(0),(0),(by first|rfl|(simp;done)|(simp [*];done)),H',⟨Nat.le_refl _⟩,⟨by exact K1b_ BK299 NB299_301⟩,⟨by exact K1b_ BK300 NB300_301⟩,⟨by refine Kv_ ?_;exact Kput5_ (Kq_ BK301)⟩,⟨K3a_ HB GW299 GW300 GW301⟩⟩
 case round =>
  clear H'
  try clear c2
  try clear p2
  try clear c5
  try clear p6
  try clear c8
  try clear c9
  try clear hcz10_0
  try clear hcz10_1
  try clear hcz10_2
  try clear hcz10_3
  try clear hcz10_4
  try clear hcz6_0
  try clear hcz6_1
  try clear hcz6_2
  try clear hcz6_3
  try clear hcz6_4
  try clear hcz6_5
  try clear hfz10_0
  try clear hfz10_1
  try clear hfz10_2
  try clear hfz10_3
  try clear hfz10_4
  try clear hfz6_0
  try clear hfz6_1
  try clear hfz6_2
  try clear hfz6_3
  try clear hfz6_4
  try clear hfz6_5
  obtain ⟨x4_1,x100_1,x102_1,x109_1,x110_1,rfl,HA,HK1,BK299,BK300,BK301,HB⟩:=hrel
  cases gk with
  | zero=>exact absurd HA.out (by simp [L15_Mark_mark.l0])
  | succ k1 =>
   have H:=HA.out
   clear HA
   simp only [L15_Mark_mark.l0] at H
   by_cases c11:x4_1<3
   ·rw [if_pos c11] at H
    have c11b0:decide (x4_1<3)=true:=decide_eq_true c11
    clear c11
    by_cases c12:x4_1=0
    ·subst c12
     have H1:(L15_Mark_mark.l0 k1 1 a0_0 a0_1 a0_2 a0_3 a0_4 true (Int.tmod a0_0 4) x102_1 x109_1 x110_1 (wrap64 (1+(wrap64 (Int.tmod (IntKind.u64.wrap (a0_4)) 3)))))=some (r1,r2,r3,r4,r5):=by rw [if_pos rfl] at H;(try simp only [show wrap64 ((0:Int)+1)=1 from by first|rfl|decide|(unfold wrap64;omega),show wrap64 ((0:Int) - 1) = -1 from by first|rfl|decide|(unfold wrap64;omega)] at H);exact H
     clear H
     have H:=H1
     clear H1
     have H':=As_ H
     clear H
     have hnb13:=NB299_300.out
     have hnc13:=NB300_299.out
     have hnb14:=NB299_301.out
     have hnc14:=NB301_299.out
     obtain ⟨_,_,_,_,_,_,_,_,_,_,_,_⟩:=Ke6_ BK299.out
     have hnb16:=NB301_300.out
     have hnc16:=NB300_301.out
     obtain ⟨_,_,_,_,_,_,_,_,_,_⟩:=Ke5_ BK301.out
     go_wp2
     go_roundg k1
     case measure=>have:=HK1.out;omega
     case rel=>exact ⟨(1),(Int.tmod a0_0 4),(x102_1),(x109_1),(x110_1),(by first|rfl|(simp;done)|(simp [*];done)),H',⟨by have:=HK1.out;omega⟩,⟨by exact K1b_ BK299 NB299_301⟩,⟨by exact K1b_ BK300 NB300_301⟩,⟨by refine Kv_ ?_;refine blk_put (cs:=#[.int .u64 x100_1,.int .u64 x102_1,.int .u64 x109_1,.int .u64 x110_1,.int .i64 (wrap64 (1+(wrap64 (Int.tmod (IntKind.u64.wrap (a0_4)) 3))))]) ?_ 0 _ rfl;exact Kq_ BK301⟩,⟨K3a_ HB GW299 GW300 GW301⟩⟩
    rw [if_neg c12] at H
    by_cases c18:x4_1=1
    ·subst c18
     have H1:(L15_Mark_mark.l0 k1 2 a0_0 a0_1 a0_2 a0_3 a0_4 true x100_1 (Int.tmod a0_1 4) x109_1 x110_1 (wrap64 (1+(wrap64 (Int.tmod (IntKind.u64.wrap (a0_4)) 3)))))=some (r1,r2,r3,r4,r5):=by rw [if_pos rfl] at H;(try simp only [show wrap64 ((1:Int)+1)=2 from by first|rfl|decide|(unfold wrap64;omega),show wrap64 ((1:Int) - 1)=0 from by first|rfl|decide|(unfold wrap64;omega)] at H);exact H
     clear H
     have H:=H1
     clear H1
     have H':=As_ H
     clear H
     have hnb19:=NB299_300.out
     have hnc19:=NB300_299.out
     have hnb20:=NB299_301.out
     have hnc20:=NB301_299.out
     obtain ⟨_,_,_,_,_,_,_,_,_,_,_,_⟩:=Ke6_ BK299.out
     have hnb22:=NB301_300.out
     have hnc22:=NB300_301.out
     obtain ⟨_,_,_,_,_,_,_,_,_,_⟩:=Ke5_ BK301.out
     go_wp2
     go_roundg k1
     case measure=>have:=HK1.out;omega
     case rel=>exact ⟨(2),(x100_1),(Int.tmod a0_1 4),(x109_1),(x110_1),(by first|rfl|(simp;done)|(simp [*];done)),H',⟨by have:=HK1.out;omega⟩,⟨by exact K1b_ BK299 NB299_301⟩,⟨by exact K1b_ BK300 NB300_301⟩,⟨by refine Kv_ ?_;refine blk_put (cs:=#[.int .u64 x100_1,.int .u64 x102_1,.int .u64 x109_1,.int .u64 x110_1,.int .i64 (wrap64 (1+(wrap64 (Int.tmod (IntKind.u64.wrap (a0_4)) 3))))]) ?_ 1 _ rfl;exact Kq_ BK301⟩,⟨K3a_ HB GW299 GW300 GW301⟩⟩
    rw [if_neg c18] at H
    by_cases c24:x4_1=2
    rotate_left
    ·rw [if_neg c24] at H
     exact absurd H (by simp)
    subst c24
    have H1:(L15_Mark_mark.l0 k1 3 a0_0 a0_1 a0_2 a0_3 a0_4 true x100_1 x102_1 (Int.tmod a0_2 4) x110_1 (wrap64 (1+(wrap64 (Int.tmod (IntKind.u64.wrap (a0_4)) 3)))))=some (r1,r2,r3,r4,r5):=by rw [if_pos rfl] at H;(try simp only [show wrap64 ((2:Int)+1)=3 from by first|rfl|decide|(unfold wrap64;omega),show wrap64 ((2:Int) - 1)=1 from by first|rfl|decide|(unfold wrap64;omega)] at H);exact H
    clear H
    have H:=H1
    clear H1
    have H':=As_ H
    clear H
    have hnb25:=NB299_300.out
    have hnc25:=NB300_299.out
    have hnb26:=NB299_301.out
    have hnc26:=NB301_299.out
    obtain ⟨_,_,_,_,_,_,_,_,_,_,_,_⟩:=Ke6_ BK299.out
    have hnb28:=NB301_300.out
    have hnc28:=NB300_301.out
    obtain ⟨_,_,_,_,_,_,_,_,_,_⟩:=Ke5_ BK301.out
    go_wp2
    go_roundg k1
    case measure=>have:=HK1.out;omega
    case rel=>exact ⟨(3),(x100_1),(x102_1),(Int.tmod a0_2 4),(x110_1),(by first|rfl|(simp;done)|(simp [*];done)),H',⟨by have:=HK1.out;omega⟩,⟨by exact K1b_ BK299 NB299_301⟩,⟨by exact K1b_ BK300 NB300_301⟩,⟨by refine Kv_ ?_;refine blk_put (cs:=#[.int .u64 x100_1,.int .u64 x102_1,.int .u64 x109_1,.int .u64 x110_1,.int .i64 (wrap64 (1+(wrap64 (Int.tmod (IntKind.u64.wrap (a0_4)) 3))))]) ?_ 2 _ rfl;exact Kq_ BK301⟩,⟨K3a_ HB GW299 GW300 GW301⟩⟩
   rw [if_neg c11] at H
   have c11b0:decide (x4_1<3)=false:=decide_eq_false c11
   clear c11
   by_cases c30:(wrap64 (1+(wrap64 (Int.tmod (IntKind.u64.wrap (a0_4)) 3))))=1
   ·generalize (wrap64 (1+(wrap64 (Int.tmod (IntKind.u64.wrap (a0_4)) 3))))=xg_ at *
    subst c30
    have H1:(some (IntKind.u64.wrap (1+x100_1),x102_1,x109_1,x110_1,1))=some (r1,r2,r3,r4,r5):=by rw [if_pos rfl] at H;(try simp only [show wrap64 ((1:Int)+1)=2 from by first|rfl|decide|(unfold wrap64;omega),show wrap64 ((1:Int) - 1)=0 from by first|rfl|decide|(unfold wrap64;omega)] at H);exact H
    clear H
    have H:=H1
    clear H1
    simp only [Option.some.injEq,Prod.mk.injEq] at H
    obtain ⟨rfl,rfl,rfl,rfl,rfl⟩:=H
    try go_wp2
    replace BK299:=Kd_ BK299
    replace BK300:=Kd_ BK300
    replace BK301:=Kd_ BK301
    replace HB:=As_ (below_drew1 HB.out)
    refine start_ (n:=13) (S:=fun w'=>w'.cell? ⟨gb301,0,none⟩=some (.int .u64 x100_1)∧w'.cell? ⟨gb301,1,none⟩=some (.int .u64 x102_1)∧w'.cell? ⟨gb301,2,none⟩=some (.int .u64 x109_1)∧w'.cell? ⟨gb301,3,none⟩=some (.int .u64 x110_1)∧w'.cell? ⟨gb301,4,none⟩=some (.int .i64 1)) (ds:=[12]) (mB_ 13 0) (by kernel_rfl) rfl rfl (Kc5_ BK301.out) (fun hHeld=>?_);refine with_tabW L15_Mark_mark.tab8 L15_Mark_mark.bits8 (fun HT_ HW_=>?_)
    generalize wr.drew=w31 at BK299 BK300 BK301 HB hHeld ⊢
    refine Kp_ 0 31 (mB_ 13 1) (any_of HT_.out (by kernel_rfl)) ?_
    refine Kp_ 3 34 (mB_ 13 9) (any_of HT_.out (by kernel_rfl)) ?_
    refine Kp_ 6 37 (mB_ 13 73) (any_of HT_.out (by kernel_rfl)) ?_
    refine Kp_ 10 41 (mB_ 13 1097) (any_of HT_.out (by kernel_rfl)) ?_
    refine Ko_ 1 32 (mB_ 13 1099) (take_ofW HT_.out HW_.out (by kernel_rfl)) hHeld ?_
    refine Kp_ 2 33 (mB_ 13 1103) (any_of HT_.out (by kernel_rfl)) ?_
    refine Ko_ 4 35 (mB_ 13 1119) (take_ofW HT_.out HW_.out (by kernel_rfl)) hHeld ?_
    refine Kp_ 5 36 (mB_ 13 1151) (any_of HT_.out (by kernel_rfl)) ?_
    refine Kp_ 7 38 (mB_ 13 1279) (any_of HT_.out (by kernel_rfl)) ?_
    refine Ko_ 8 39 (mB_ 13 1535) (take_ofW HT_.out HW_.out (by kernel_rfl)) hHeld ?_
    refine Kp_ 9 40 (mB_ 13 2047) (any_of HT_.out (by kernel_rfl)) ?_
    refine Kp_ 11 42 (mB_ 13 4095) (any_of HT_.out (by kernel_rfl)) ?_
    refine last_ (i:=12) (N:=none) (mB_ 13 8191) rfl rfl (one_of HT_.out (by kernel_rfl)) (by decide) (fun K hK=>?_)
    have hs32:w31.cell? ⟨gb301,0,none⟩=some (.int .u64 x100_1):=(blk_cell BK301.out 0).trans rfl
    have hfs32:=blk_frozen BK301.out 0
    have:=NB299_301.out
    have:=NB300_301.out
    have:=NB301_299.out
    have:=NB301_300.out
    refine skip_ (w1:=?_) (by rfl) rfl ?_ ?_
    rotate_left
    ·go_simp
     rfl
    refine hK.out _ _ ?_
    clear hK K
    refine done_ (done_of HT_.out (by kernel_rfl)) ?_
    have hnb33:=NB301_299.out
    have hnc33:=NB299_301.out
    have hnb34:=NB301_300.out
    have hnc34:=NB300_301.out
    obtain ⟨_,_,_,_,_,_,_,_,_,_⟩:=Ke5_ BK301.out
    have hnb36:=NB300_299.out
    have hnc36:=NB299_300.out
    obtain ⟨_,_,_,_,_,_,_,_,_,_⟩:=Ke5_ BK300.out
    try go_wp2
    refine bodyPost_ret (results_cell_row rfl _ _ gb300 30 #[.int .u64 (IntKind.u64.wrap (1+x100_1)),.int .u64 x102_1,.int .u64 x109_1,.int .u64 x110_1,.int .i64 1] (0,0) _ rfl (by refine Kv_ ?_;refine blk_put (cs:=#[.int .u64 (IntKind.u64.wrap (1+x100_1)),.int .u64 x102_1,.int .u64 x109_1,.int .u64 x110_1,.int .i64 0]) ?_ 4 _ rfl;refine Kv_ ?_;refine blk_put (cs:=#[.int .u64 (IntKind.u64.wrap (1+x100_1)),.int .u64 x102_1,.int .u64 x109_1,.int .u64 0,.int .i64 0]) ?_ 3 _ rfl;refine Kv_ ?_;refine blk_put (cs:=#[.int .u64 (IntKind.u64.wrap (1+x100_1)),.int .u64 x102_1,.int .u64 0,.int .u64 0,.int .i64 0]) ?_ 2 _ rfl;refine Kv_ ?_;refine blk_put (cs:=#[.int .u64 (IntKind.u64.wrap (1+x100_1)),.int .u64 0,.int .u64 0,.int .u64 0,.int .i64 0]) ?_ 1 _ rfl;refine Kv_ ?_;refine blk_put (cs:=#[.int .u64 0,.int .u64 0,.int .u64 0,.int .u64 0,.int .i64 0]) ?_ 0 _ rfl;exact K1b_ BK300 NB300_301) Try.underlying30 rfl (by kernel_rfl)) rfl ?_
    exact ⟨Kh_,K3a_ HB GW299 GW300 GW301⟩
   rw [if_neg c30] at H
   by_cases c38:(wrap64 (1+(wrap64 (Int.tmod (IntKind.u64.wrap (a0_4)) 3))))=2
   ·generalize (wrap64 (1+(wrap64 (Int.tmod (IntKind.u64.wrap (a0_4)) 3))))=xg_ at *
    subst c38
    have H1:(some (x100_1,IntKind.u64.wrap (1+x102_1),x109_1,x110_1,2))=some (r1,r2,r3,r4,r5):=by rw [if_pos rfl] at H;(try simp only [show wrap64 ((2:Int)+1)=3 from by first|rfl|decide|(unfold wrap64;omega),show wrap64 ((2:Int) - 1)=1 from by first|rfl|decide|(unfold wrap64;omega)] at H);exact H
    clear H
    have H:=H1
    clear H1
    simp only [Option.some.injEq,Prod.mk.injEq] at H
    obtain ⟨rfl,rfl,rfl,rfl,rfl⟩:=H
    try go_wp2
    replace BK299:=Kd_ BK299
    replace BK300:=Kd_ BK300
    replace BK301:=Kd_ BK301
    replace HB:=As_ (below_drew1 HB.out)
    refine start_ (n:=13) (S:=fun w'=>w'.cell? ⟨gb301,0,none⟩=some (.int .u64 x100_1)∧w'.cell? ⟨gb301,1,none⟩=some (.int .u64 x102_1)∧w'.cell? ⟨gb301,2,none⟩=some (.int .u64 x109_1)∧w'.cell? ⟨gb301,3,none⟩=some (.int .u64 x110_1)∧w'.cell? ⟨gb301,4,none⟩=some (.int .i64 2)) (ds:=[12]) (mB_ 13 0) (by kernel_rfl) rfl rfl (Kc5_ BK301.out) (fun hHeld=>?_);refine with_tabW L15_Mark_mark.tab8 L15_Mark_mark.bits8 (fun HT_ HW_=>?_)
    generalize wr.drew=w39 at BK299 BK300 BK301 HB hHeld ⊢
    refine Kp_ 0 31 (mB_ 13 1) (any_of HT_.out (by kernel_rfl)) ?_
    refine Kp_ 3 34 (mB_ 13 9) (any_of HT_.out (by kernel_rfl)) ?_
    refine Kp_ 6 37 (mB_ 13 73) (any_of HT_.out (by kernel_rfl)) ?_
    refine Kp_ 10 41 (mB_ 13 1097) (any_of HT_.out (by kernel_rfl)) ?_
    refine Ko_ 1 32 (mB_ 13 1099) (take_ofW HT_.out HW_.out (by kernel_rfl)) hHeld ?_
    refine Kp_ 2 33 (mB_ 13 1103) (any_of HT_.out (by kernel_rfl)) ?_
    refine Ko_ 4 35 (mB_ 13 1119) (take_ofW HT_.out HW_.out (by kernel_rfl)) hHeld ?_
    refine Kp_ 5 36 (mB_ 13 1151) (any_of HT_.out (by kernel_rfl)) ?_
    refine Kp_ 7 38 (mB_ 13 1279) (any_of HT_.out (by kernel_rfl)) ?_
    refine Ko_ 8 39 (mB_ 13 1535) (take_ofW HT_.out HW_.out (by kernel_rfl)) hHeld ?_
    refine Kp_ 9 40 (mB_ 13 2047) (any_of HT_.out (by kernel_rfl)) ?_
    refine Kp_ 11 42 (mB_ 13 4095) (any_of HT_.out (by kernel_rfl)) ?_
    refine last_ (i:=12) (N:=none) (mB_ 13 8191) rfl rfl (one_of HT_.out (by kernel_rfl)) (by decide) (fun K hK=>?_)
    have hs40:w39.cell? ⟨gb301,1,none⟩=some (.int .u64 x102_1):=(blk_cell BK301.out 1).trans rfl
    have hfs40:=blk_frozen BK301.out 1
    have:=NB299_301.out
    have:=NB300_301.out
    have:=NB301_299.out
    have:=NB301_300.out
    refine skip_ (w1:=?_) (by rfl) rfl ?_ ?_
    rotate_left
    ·go_simp
     rfl
    refine hK.out _ _ ?_
    clear hK K
    refine done_ (done_of HT_.out (by kernel_rfl)) ?_
    have hnb41:=NB301_299.out
    have hnc41:=NB299_301.out
    have hnb42:=NB301_300.out
    have hnc42:=NB300_301.out
    obtain ⟨_,_,_,_,_,_,_,_,_,_⟩:=Ke5_ BK301.out
    have hnb44:=NB300_299.out
    have hnc44:=NB299_300.out
    obtain ⟨_,_,_,_,_,_,_,_,_,_⟩:=Ke5_ BK300.out
    try go_wp2
    refine bodyPost_ret (results_cell_row rfl _ _ gb300 30 #[.int .u64 x100_1,.int .u64 (IntKind.u64.wrap (1+x102_1)),.int .u64 x109_1,.int .u64 x110_1,.int .i64 2] (0,0) _ rfl (by refine Kv_ ?_;refine blk_put (cs:=#[.int .u64 x100_1,.int .u64 (IntKind.u64.wrap (1+x102_1)),.int .u64 x109_1,.int .u64 x110_1,.int .i64 0]) ?_ 4 _ rfl;refine Kv_ ?_;refine blk_put (cs:=#[.int .u64 x100_1,.int .u64 (IntKind.u64.wrap (1+x102_1)),.int .u64 x109_1,.int .u64 0,.int .i64 0]) ?_ 3 _ rfl;refine Kv_ ?_;refine blk_put (cs:=#[.int .u64 x100_1,.int .u64 (IntKind.u64.wrap (1+x102_1)),.int .u64 0,.int .u64 0,.int .i64 0]) ?_ 2 _ rfl;refine Kv_ ?_;refine blk_put (cs:=#[.int .u64 x100_1,.int .u64 0,.int .u64 0,.int .u64 0,.int .i64 0]) ?_ 1 _ rfl;refine Kv_ ?_;refine blk_put (cs:=#[.int .u64 0,.int .u64 0,.int .u64 0,.int .u64 0,.int .i64 0]) ?_ 0 _ rfl;exact K1b_ BK300 NB300_301) Try.underlying30 rfl (by kernel_rfl)) rfl ?_
    exact ⟨Kh_,K3a_ HB GW299 GW300 GW301⟩
   rw [if_neg c38] at H
   by_cases c46:(wrap64 (1+(wrap64 (Int.tmod (IntKind.u64.wrap (a0_4)) 3))))=3
   ·generalize (wrap64 (1+(wrap64 (Int.tmod (IntKind.u64.wrap (a0_4)) 3))))=xg_ at *
    subst c46
    have H1:(some (x100_1,x102_1,IntKind.u64.wrap (1+x109_1),x110_1,3))=some (r1,r2,r3,r4,r5):=by rw [if_pos rfl] at H;(try simp only [show wrap64 ((3:Int)+1)=4 from by first|rfl|decide|(unfold wrap64;omega),show wrap64 ((3:Int) - 1)=2 from by first|rfl|decide|(unfold wrap64;omega)] at H);exact H
    clear H
    have H:=H1
    clear H1
    simp only [Option.some.injEq,Prod.mk.injEq] at H
    obtain ⟨rfl,rfl,rfl,rfl,rfl⟩:=H
    try go_wp2
    replace BK299:=Kd_ BK299
    replace BK300:=Kd_ BK300
    replace BK301:=Kd_ BK301
    replace HB:=As_ (below_drew1 HB.out)
    refine start_ (n:=13) (S:=fun w'=>w'.cell? ⟨gb301,0,none⟩=some (.int .u64 x100_1)∧w'.cell? ⟨gb301,1,none⟩=some (.int .u64 x102_1)∧w'.cell? ⟨gb301,2,none⟩=some (.int .u64 x109_1)∧w'.cell? ⟨gb301,3,none⟩=some (.int .u64 x110_1)∧w'.cell? ⟨gb301,4,none⟩=some (.int .i64 3)) (ds:=[12]) (mB_ 13 0) (by kernel_rfl) rfl rfl (Kc5_ BK301.out) (fun hHeld=>?_);refine with_tabW L15_Mark_mark.tab8 L15_Mark_mark.bits8 (fun HT_ HW_=>?_)
    generalize wr.drew=w47 at BK299 BK300 BK301 HB hHeld ⊢
    refine Kp_ 0 31 (mB_ 13 1) (any_of HT_.out (by kernel_rfl)) ?_
    refine Kp_ 3 34 (mB_ 13 9) (any_of HT_.out (by kernel_rfl)) ?_
    refine Kp_ 6 37 (mB_ 13 73) (any_of HT_.out (by kernel_rfl)) ?_
    refine Kp_ 10 41 (mB_ 13 1097) (any_of HT_.out (by kernel_rfl)) ?_
    refine Ko_ 1 32 (mB_ 13 1099) (take_ofW HT_.out HW_.out (by kernel_rfl)) hHeld ?_
    refine Kp_ 2 33 (mB_ 13 1103) (any_of HT_.out (by kernel_rfl)) ?_
    refine Ko_ 4 35 (mB_ 13 1119) (take_ofW HT_.out HW_.out (by kernel_rfl)) hHeld ?_
    refine Kp_ 5 36 (mB_ 13 1151) (any_of HT_.out (by kernel_rfl)) ?_
    refine Kp_ 7 38 (mB_ 13 1279) (any_of HT_.out (by kernel_rfl)) ?_
    refine Ko_ 8 39 (mB_ 13 1535) (take_ofW HT_.out HW_.out (by kernel_rfl)) hHeld ?_
    refine Kp_ 9 40 (mB_ 13 2047) (any_of HT_.out (by kernel_rfl)) ?_
    refine Kp_ 11 42 (mB_ 13 4095) (any_of HT_.out (by kernel_rfl)) ?_
    refine last_ (i:=12) (N:=none) (mB_ 13 8191) rfl rfl (one_of HT_.out (by kernel_rfl)) (by decide) (fun K hK=>?_)
    have hs48:w47.cell? ⟨gb301,2,none⟩=some (.int .u64 x109_1):=(blk_cell BK301.out 2).trans rfl
    have hfs48:=blk_frozen BK301.out 2
    have:=NB299_301.out
    have:=NB300_301.out
    have:=NB301_299.out
    have:=NB301_300.out
    refine skip_ (w1:=?_) (by rfl) rfl ?_ ?_
    rotate_left
    ·go_simp
     rfl
    refine hK.out _ _ ?_
    clear hK K
    refine done_ (done_of HT_.out (by kernel_rfl)) ?_
    have hnb49:=NB301_299.out
    have hnc49:=NB299_301.out
    have hnb50:=NB301_300.out
    have hnc50:=NB300_301.out
    obtain ⟨_,_,_,_,_,_,_,_,_,_⟩:=Ke5_ BK301.out
    have hnb52:=NB300_299.out
    have hnc52:=NB299_300.out
    obtain ⟨_,_,_,_,_,_,_,_,_,_⟩:=Ke5_ BK300.out
    try go_wp2
    refine bodyPost_ret (results_cell_row rfl _ _ gb300 30 #[.int .u64 x100_1,.int .u64 x102_1,.int .u64 (IntKind.u64.wrap (1+x109_1)),.int .u64 x110_1,.int .i64 3] (0,0) _ rfl (by refine Kv_ ?_;refine blk_put (cs:=#[.int .u64 x100_1,.int .u64 x102_1,.int .u64 (IntKind.u64.wrap (1+x109_1)),.int .u64 x110_1,.int .i64 0]) ?_ 4 _ rfl;refine Kv_ ?_;refine blk_put (cs:=#[.int .u64 x100_1,.int .u64 x102_1,.int .u64 (IntKind.u64.wrap (1+x109_1)),.int .u64 0,.int .i64 0]) ?_ 3 _ rfl;refine Kv_ ?_;refine blk_put (cs:=#[.int .u64 x100_1,.int .u64 x102_1,.int .u64 0,.int .u64 0,.int .i64 0]) ?_ 2 _ rfl;refine Kv_ ?_;refine blk_put (cs:=#[.int .u64 x100_1,.int .u64 0,.int .u64 0,.int .u64 0,.int .i64 0]) ?_ 1 _ rfl;refine Kv_ ?_;refine blk_put (cs:=#[.int .u64 0,.int .u64 0,.int .u64 0,.int .u64 0,.int .i64 0]) ?_ 0 _ rfl;exact K1b_ BK300 NB300_301) Try.underlying30 rfl (by kernel_rfl)) rfl ?_
    exact ⟨Kh_,K3a_ HB GW299 GW300 GW301⟩
   rw [if_neg c46] at H
   by_cases c54:(wrap64 (1+(wrap64 (Int.tmod (IntKind.u64.wrap (a0_4)) 3))))=4
   rotate_left
   ·rw [if_neg c54] at H
    exact absurd H (by simp)
   generalize (wrap64 (1+(wrap64 (Int.tmod (IntKind.u64.wrap (a0_4)) 3))))=xg_ at *
   subst c54
   have H1:(some (x100_1,x102_1,x109_1,IntKind.u64.wrap (1+x110_1),4))=some (r1,r2,r3,r4,r5):=by rw [if_pos rfl] at H;(try simp only [show wrap64 ((4:Int)+1)=5 from by first|rfl|decide|(unfold wrap64;omega),show wrap64 ((4:Int) - 1)=3 from by first|rfl|decide|(unfold wrap64;omega)] at H);exact H
   clear H
   have H:=H1
   clear H1
   simp only [Option.some.injEq,Prod.mk.injEq] at H
   obtain ⟨rfl,rfl,rfl,rfl,rfl⟩:=H
   try go_wp2
   replace BK299:=Kd_ BK299
   replace BK300:=Kd_ BK300
   replace BK301:=Kd_ BK301
   replace HB:=As_ (below_drew1 HB.out)
   refine start_ (n:=13) (S:=fun w'=>w'.cell? ⟨gb301,0,none⟩=some (.int .u64 x100_1)∧w'.cell? ⟨gb301,1,none⟩=some (.int .u64 x102_1)∧w'.cell? ⟨gb301,2,none⟩=some (.int .u64 x109_1)∧w'.cell? ⟨gb301,3,none⟩=some (.int .u64 x110_1)∧w'.cell? ⟨gb301,4,none⟩=some (.int .i64 4)) (ds:=[12]) (mB_ 13 0) (by kernel_rfl) rfl rfl (Kc5_ BK301.out) (fun hHeld=>?_);refine with_tabW L15_Mark_mark.tab8 L15_Mark_mark.bits8 (fun HT_ HW_=>?_)
   generalize wr.drew=w55 at BK299 BK300 BK301 HB hHeld ⊢
   refine Kp_ 0 31 (mB_ 13 1) (any_of HT_.out (by kernel_rfl)) ?_
   refine Kp_ 3 34 (mB_ 13 9) (any_of HT_.out (by kernel_rfl)) ?_
   refine Kp_ 6 37 (mB_ 13 73) (any_of HT_.out (by kernel_rfl)) ?_
   refine Kp_ 10 41 (mB_ 13 1097) (any_of HT_.out (by kernel_rfl)) ?_
   refine Ko_ 1 32 (mB_ 13 1099) (take_ofW HT_.out HW_.out (by kernel_rfl)) hHeld ?_
   refine Kp_ 2 33 (mB_ 13 1103) (any_of HT_.out (by kernel_rfl)) ?_
   refine Ko_ 4 35 (mB_ 13 1119) (take_ofW HT_.out HW_.out (by kernel_rfl)) hHeld ?_
   refine Kp_ 5 36 (mB_ 13 1151) (any_of HT_.out (by kernel_rfl)) ?_
   refine Kp_ 7 38 (mB_ 13 1279) (any_of HT_.out (by kernel_rfl)) ?_
   refine Ko_ 8 39 (mB_ 13 1535) (take_ofW HT_.out HW_.out (by kernel_rfl)) hHeld ?_
   refine Kp_ 9 40 (mB_ 13 2047) (any_of HT_.out (by kernel_rfl)) ?_
   refine Kp_ 11 42 (mB_ 13 4095) (any_of HT_.out (by kernel_rfl)) ?_
   refine last_ (i:=12) (N:=none) (mB_ 13 8191) rfl rfl (one_of HT_.out (by kernel_rfl)) (by decide) (fun K hK=>?_)
   have hs56:w55.cell? ⟨gb301,3,none⟩=some (.int .u64 x110_1):=(blk_cell BK301.out 3).trans rfl
   have hfs56:=blk_frozen BK301.out 3
   have:=NB299_301.out
   have:=NB300_301.out
   have:=NB301_299.out
   have:=NB301_300.out
   refine skip_ (w1:=?_) (by rfl) rfl ?_ ?_
   rotate_left
   ·go_simp
    rfl
   refine hK.out _ _ ?_
   clear hK K
   refine done_ (done_of HT_.out (by kernel_rfl)) ?_
   have hnb57:=NB301_299.out
   have hnc57:=NB299_301.out
   have hnb58:=NB301_300.out
   have hnc58:=NB300_301.out
   obtain ⟨_,_,_,_,_,_,_,_,_,_⟩:=Ke5_ BK301.out
   have hnb60:=NB300_299.out
   have hnc60:=NB299_300.out
   obtain ⟨_,_,_,_,_,_,_,_,_,_⟩:=Ke5_ BK300.out
   try go_wp2
   refine bodyPost_ret (results_cell_row rfl _ _ gb300 30 #[.int .u64 x100_1,.int .u64 x102_1,.int .u64 x109_1,.int .u64 (IntKind.u64.wrap (1+x110_1)),.int .i64 4] (0,0) _ rfl (by refine Kv_ ?_;refine blk_put (cs:=#[.int .u64 x100_1,.int .u64 x102_1,.int .u64 x109_1,.int .u64 (IntKind.u64.wrap (1+x110_1)),.int .i64 0]) ?_ 4 _ rfl;refine Kv_ ?_;refine blk_put (cs:=#[.int .u64 x100_1,.int .u64 x102_1,.int .u64 x109_1,.int .u64 0,.int .i64 0]) ?_ 3 _ rfl;refine Kv_ ?_;refine blk_put (cs:=#[.int .u64 x100_1,.int .u64 x102_1,.int .u64 0,.int .u64 0,.int .i64 0]) ?_ 2 _ rfl;refine Kv_ ?_;refine blk_put (cs:=#[.int .u64 x100_1,.int .u64 0,.int .u64 0,.int .u64 0,.int .i64 0]) ?_ 1 _ rfl;refine Kv_ ?_;refine blk_put (cs:=#[.int .u64 0,.int .u64 0,.int .u64 0,.int .u64 0,.int .i64 0]) ?_ 0 _ rfl;exact K1b_ BK300 NB300_301) Try.underlying30 rfl (by kernel_rfl)) rfl ?_
   exact ⟨Kh_,K3a_ HB GW299 GW300 GW301⟩
end Go.Proofs.Ytoagfdpgnfinhaa.Q
