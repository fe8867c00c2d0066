import Derived.Test.YtoagfdpgnfinhaaGStreamGets2
import Derived.Test.YtoagfdpgnfinhaaGStreamGets8
import Derived.Test.YtoagfdpgnfinhaaGStreamGets7
namespace Go.Proofs.Ytoagfdpgnfinhaa.Q
open Go.RowKit Go.Proofs.YtoagfdpgnfinhaaW.PrintWords Go.Proofs.YtoagfdpgnfinhaaW.PrintLast Go.Proofs.YtoagfdpgnfinhaaW.PrintMore
attribute [local go_sem] max2_int min2_int max_two min_two max_three min_three max_four min_four   -- for this text's walks alone
set_option linter.unusedVariables false
set_option linter.unusedSimpArgs false
def L15_refTxn.f (k:Nat) (a0_0:Int) (a0_1:Int) (a0_2:Int) (a0_3:Int) (a0_4:Int) (l0_5:List (S107)):Option (Int × Int × Int × Int × Int × (List (S117))):=(L15_refStamp.f a0_0 a0_1 a0_2 a0_3 a0_4).bind fun bt291=>((L15_refWrites.f k l0_5).bind fun t296=>(some (bt291.1,bt291.2.1,bt291.2.2.1,bt291.2.2.2.1,bt291.2.2.2.2,t296)))
def L15_refTxn.T1:Bool × List (List Nat × List Nat):=(true,[([],[]),([0],[0]),([1],[1]),([],[]),([3],[3]),([4,2],[4]),([2,5],[2,5]),([6,5,0,1,2,3,4,5,6],[6])])
def L15_refTxn.B1:List Nat:=[0,1,3,0,8,31,63,127]
theorem L15_refTxn.tab1:rtab .any (opsOf Try.f18 1)=L15_refTxn.T1:=by kernel_rfl
theorem L15_refTxn.bits1:waitsOk L15_refTxn.T1.2 L15_refTxn.B1=true:=by kernel_rfl
set_option maxHeartbeats 8000000 in
set_option maxRecDepth 100000 in
theorem L15_refTxn.calls (k:Nat) (a0_0:Int) (a0_1:Int) (a0_2:Int) (a0_3:Int) (a0_4:Int) (A0_5:Option Addr) (c0_5:Nat) (l0_5:List (S107)) (r1:Int) (r2:Int) (r3:Int) (r4:Int) (r5:Int) (r6:List (S117)) (w:World) (hr0_5:Kd.C k107 w A0_5 l0_5.length l0_5) (hc0_5:l0_5.length≤c0_5) (h:L15_refTxn.f k a0_0 a0_1 a0_2 a0_3 a0_4 l0_5=some (r1,r2,r3,r4,r5,r6)) :
  Calls Try.prog 18 #[.agg #[.int .u64 a0_0,.int .u64 a0_1,.int .u64 a0_2,.int .u64 a0_3,.int .i64 a0_4,.slice A0_5 l0_5.length c0_5]] w fun e w'=>∃ v5_:Value,e = .returned (.agg #[.int .u64 r1,.int .u64 r2,.int .u64 r3,.int .u64 r4,.int .i64 r5,v5_])∧Kd.R k117 117 w' w.heap.size (fun _=>True) v5_ r6∧Below w.heap.size w w':=by
 have hu33:=Try.underlying33
 have hu55:=Try.underlying55
 have hu30:=Try.underlying30
 have HR0_5:=As_ hr0_5
 have HC0_5:=As_ hc0_5
 clear hr0_5 hc0_5
 have HB:=As_ (Below.refl w.heap.size w)
 unfold L15_refTxn.f at h
 have H:=h
 clear h
 obtain ⟨⟨t291,t292,t293,t294,t295⟩,A2,H⟩:=Kbind_ H
 (try dsimp only at H)
 obtain ⟨t296,A3,H⟩:=Kbind_ H
 (try dsimp only at H)
 simp only [Option.some.injEq,Prod.mk.injEq] at H
 obtain ⟨rfl,rfl,rfl,rfl,rfl,rfl⟩:=H
 go_enter Try.func18,Try.ntmps18
 try go_wp2_with (first|((with_reducible refine gate_dst (N:=1) rfl ?_);refine Ka_ 1 #[.int .u64 a0_0,.int .u64 a0_1,.int .u64 a0_2,.int .u64 a0_3,.int .i64 a0_4,.slice A0_5 l0_5.length c0_5] 33 ?_;intro gb289 hg w4 hbox hb;have BK289:=As_ (hbox);have GW289:=Kw_ HB hg;replace HB:=Ks_ HB hb;clear hb hbox hg)|((with_reducible refine gate_dst (N:=2) rfl ?_);refine Ka_ 2 #[.int .u64 0,.int .u64 0,.int .u64 0,.int .u64 0,.int .i64 0,.slice none 0 0] 55 ?_;intro gb290 hg w5 hbox hb;have BK290:=As_ (hbox);have GW290:=Kw_ HB hg;have NB289_290:=Kl_ BK289 hg;have NB290_289:=Kr_ BK289 hg;replace BK289:=Kb_ BK289 hb;replace HB:=Ks_ HB hb;clear hb hbox hg))
 replace BK289:=Kd_ BK289
 replace BK290:=Kd_ BK290
 replace HB:=As_ (below_drew1 HB.out)
 refine start_ (n:=8) (S:=fun w'=>w'.cell? ⟨gb289,0,none⟩=some (.int .u64 a0_0)∧w'.cell? ⟨gb289,1,none⟩=some (.int .u64 a0_1)∧w'.cell? ⟨gb289,2,none⟩=some (.int .u64 a0_2)∧w'.cell? ⟨gb289,3,none⟩=some (.int .u64 a0_3)∧w'.cell? ⟨gb289,4,none⟩=some (.int .i64 a0_4)∧w'.cell? ⟨gb289,5,none⟩=some (.slice A0_5 l0_5.length c0_5)) (ds:=[]) (mB_ 8 0) (by kernel_rfl) rfl rfl (Kc6_ BK289.out) (fun hHeld=>?_);refine with_tabW L15_refTxn.tab1 L15_refTxn.bits1 (fun HT_ HW_=>?_)
 generalize w5.drew=w6 at BK289 BK290 HB hHeld ⊢
 refine Kp_ 0 3 (mB_ 8 1) (any_of HT_.out (by kernel_rfl)) ?_
 refine Kp_ 3 6 (mB_ 8 9) (any_of HT_.out (by kernel_rfl)) ?_
 refine Ko_ 1 4 (mB_ 8 11) (take_ofW HT_.out HW_.out (by kernel_rfl)) hHeld ?_
 refine Ko_ 4 7 (mB_ 8 27) (take_ofW HT_.out HW_.out (by kernel_rfl)) hHeld ?_
 refine one_ (i:=2) (N:=some 5) (mB_ 8 31) rfl rfl (one_of HT_.out (by kernel_rfl)) (by decide) (fun K hK=>?_)
 refine goes_ Try.func32 (by kernel_rfl) rfl #[.agg #[.int .u64 a0_0,.int .u64 a0_1,.int .u64 a0_2,.int .u64 a0_3,.int .i64 a0_4]] (by rfl) rfl rfl (by (try simp only [List.map_toArray,List.map_cons,List.map_nil]);first|done|rfl|(simp only [List.length_drop,List.length_take];rfl)) ?_
 with_reducible refine (L15_refStamp.calls a0_0 a0_1 a0_2 a0_3 a0_4 t291 t292 t293 t294 t295 _ A2.out).mono ?_
 rintro e w7 ⟨rfl,hb⟩
 refine ⟨_,rfl,?_⟩
 replace BK289:=Kb_ BK289 hb
 replace BK290:=Kb_ BK290 hb
 replace HB:=Ks_ HB hb
 (try clear hb)
 (try clear hb2)
 (try clear hk)
 (try clear hi)
 refine hK.out _ _ (Kc6_ BK289.out) (fun hHeld=>?_)
 clear hK K
 refine Kn_ 5 ?_
 refine one_ (i:=5) (N:=some 8) (mB_ 8 63) rfl rfl (one_of HT_.out (by kernel_rfl)) (by decide) (fun K hK=>?_)
 refine goes_ Try.func57 (by kernel_rfl) rfl #[.slice A0_5 l0_5.length c0_5] (by rfl) rfl rfl (by (try simp only [List.map_toArray,List.map_cons,List.map_nil]);first|done|rfl|(simp only [List.length_drop,List.length_take];rfl)) ?_
 with_reducible refine (L15_refWrites.calls k _ _ l0_5 t296 _ ?side1 ?side2 A3.out).mono ?_
 (case side1=>repeat (first|exact (Kd.C_below HR0_5.out HB.out)|(with_reducible refine Kd.C_alloc ?_ _)|(with_reducible refine Kd.C_drewN ?_ _)|(with_reducible refine Kd.C_drew ?_)))
 (case side2=>exact HC0_5.out)
 rintro e w8 ⟨v297,rfl,ho0,hb⟩
 refine ⟨_,rfl,?_⟩
 have HO298:=As_ (Kd.R_lower ho0 (below_size (K2a_ HB GW289 GW290)))
 replace BK289:=Kb_ BK289 hb
 replace BK290:=Kb_ BK290 hb
 replace HB:=Ks_ HB hb
 (try clear hb)
 (try clear hb2)
 (try clear hk)
 (try clear hi)
 (try clear ho0)
 obtain ⟨Ao9,co9,eo9⟩:=Kd.R_slice HO298.out
 (first|subst eo9|(injection eo9 with f1_ f2_ f3_;have f4_:=f1_.symm;have f5_:=f3_.symm;clear f1_ f2_ f3_;subst f4_;subst f5_))
 refine hK.out _ _ (Kc6_ BK289.out) (fun hHeld=>?_)
 clear hK K
 refine Kn_ 8 ?_
 refine Kp_ 6 9 (mB_ 8 127) (any_of HT_.out (by kernel_rfl)) ?_
 refine one_ (i:=7) (N:=none) (mB_ 8 255) rfl rfl (one_of HT_.out (by kernel_rfl)) (by decide) (fun K hK=>?_)
 have hs10:w8.cell? ⟨gb290,0,none⟩=some (.int .u64 0):=(blk_cell BK290.out 0).trans rfl
 have hfs10:=blk_frozen BK290.out 0
 have:=NB289_290.out
 have:=NB290_289.out
 have hs11:w8.cell? ⟨gb290,1,none⟩=some (.int .u64 0):=(blk_cell BK290.out 1).trans rfl
 have hfs11:=blk_frozen BK290.out 1
 have:=NB289_290.out
 have:=NB290_289.out
 have hs12:w8.cell? ⟨gb290,2,none⟩=some (.int .u64 0):=(blk_cell BK290.out 2).trans rfl
 have hfs12:=blk_frozen BK290.out 2
 have:=NB289_290.out
 have:=NB290_289.out
 have hs13:w8.cell? ⟨gb290,3,none⟩=some (.int .u64 0):=(blk_cell BK290.out 3).trans rfl
 have hfs13:=blk_frozen BK290.out 3
 have:=NB289_290.out
 have:=NB290_289.out
 have hs14:w8.cell? ⟨gb290,4,none⟩=some (.int .i64 0):=(blk_cell BK290.out 4).trans rfl
 have hfs14:=blk_frozen BK290.out 4
 have:=NB289_290.out
 have:=NB290_289.out
 have hs15:w8.cell? ⟨gb290,5,none⟩=some (.slice none 0 0):=(blk_cell BK290.out 5).trans rfl
 have hfs15:=blk_frozen BK290.out 5
 have:=NB289_290.out
 have:=NB290_289.out
 refine skip_ (w1:=?_) (by rfl) rfl ?_ ?_
 rotate_left
 ·go_simp
  rfl
 refine hK.out _ _ ⟨(Kj_ NB289_290 ((Kj_ NB289_290 ((Kj_ NB289_290 ((Kj_ NB289_290 ((Kj_ NB289_290 ((Kj_ NB289_290 (hHeld.1)))))))))))),(Kj_ NB289_290 ((Kj_ NB289_290 ((Kj_ NB289_290 ((Kj_ NB289_290 ((Kj_ NB289_290 ((Kj_ NB289_290 (hHeld.2.1)))))))))))),(Kj_ NB289_290 ((Kj_ NB289_290 ((Kj_ NB289_290 ((Kj_ NB289_290 ((Kj_ NB289_290 ((Kj_ NB289_290 (hHeld.2.2.1)))))))))))),(Kj_ NB289_290 ((Kj_ NB289_290 ((Kj_ NB289_290 ((Kj_ NB289_290 ((Kj_ NB289_290 ((Kj_ NB289_290 (hHeld.2.2.2.1)))))))))))),(Kj_ NB289_290 ((Kj_ NB289_290 ((Kj_ NB289_290 ((Kj_ NB289_290 ((Kj_ NB289_290 ((Kj_ NB289_290 (hHeld.2.2.2.2.1)))))))))))),(Kj_ NB289_290 ((Kj_ NB289_290 ((Kj_ NB289_290 ((Kj_ NB289_290 ((Kj_ NB289_290 ((Kj_ NB289_290 (hHeld.2.2.2.2.2))))))))))))⟩ (fun hHeld=>?_)
 clear hK K
 refine done_ (done_of HT_.out (by kernel_rfl)) ?_
 try go_wp2
 refine bodyPost_ret (results_cell_row rfl _ _ gb290 55 #[.int .u64 t291,.int .u64 t292,.int .u64 t293,.int .u64 t294,.int .i64 t295,.slice Ao9 t296.length co9] (0,0) _ rfl (by refine Kv_ ?_;exact Kput6_ (Kq_ BK290)) Try.underlying55 rfl (by kernel_rfl)) rfl ?_
 exact ⟨_,by first|rfl|(simp [errW_none,errW_some] <;> rfl)|(simp [*,errW_none,errW_some] <;> rfl),by (with_reducible repeat (first|apply Kd.R_alloc|apply Kd.R_drewN|apply Kd.R_drew));exact Kd.R_mono (Kd.R_far (p:=⟨gb290,5,none⟩) (Kd.R_far (p:=⟨gb290,4,none⟩) (Kd.R_far (p:=⟨gb290,3,none⟩) (Kd.R_far (p:=⟨gb290,2,none⟩) (Kd.R_far (p:=⟨gb290,1,none⟩) (Kd.R_far (p:=⟨gb290,0,none⟩) (Kd.R_types HO298.out BK290.out (by decide)) (fun _ hk=>hk.2) (.int .u64 t291)) (fun _ hk=>hk.2) (.int .u64 t292)) (fun _ hk=>hk.2) (.int .u64 t293)) (fun _ hk=>hk.2) (.int .u64 t294)) (fun _ hk=>hk.2) (.int .i64 t295)) (fun _ hk=>hk.2) (.slice Ao9 t296.length co9)) (fun _ hk=>trivial),K2a_ HB GW289 GW290⟩
def L15_refMsg.f (k:Nat) (a0_0:Int) (a0_1:Int) (a0_2:Int) (a0_3:Int) (a0_4:Int) (a0_5:Int) (a0_6:Int) (a0_7:Int) (l0_8:List (S107)):Option (Int × Int × Int × Int × Int × Int × Int × Int × (List (S117))):=(L15_refTxn.f k a0_3 a0_4 a0_5 a0_6 a0_7 l0_8).bind fun bt430=>(some (a0_0,a0_1,a0_2,bt430.1,bt430.2.1,bt430.2.2.1,bt430.2.2.2.1,bt430.2.2.2.2.1,bt430.2.2.2.2.2))
def L15_refMsg.T1:Bool × List (List Nat × List Nat):=(true,[([],[]),([0],[0]),([],[]),([2],[2]),([],[]),([4],[4]),([],[]),([6],[6]),([7],[7]),([1,3,5,8],[1,3,5,8]),([9,8,0,1,2,3,4,5,6,7,8,9],[9])])
def L15_refMsg.B1:List Nat:=[0,1,0,4,0,16,0,64,192,511,1023]
theorem L15_refMsg.tab1:rtab .any (opsOf Try.f29 1)=L15_refMsg.T1:=by kernel_rfl
theorem L15_refMsg.bits1:waitsOk L15_refMsg.T1.2 L15_refMsg.B1=true:=by kernel_rfl
set_option maxHeartbeats 8000000 in
set_option maxRecDepth 100000 in
theorem L15_refMsg.calls (k:Nat) (a0_0:Int) (a0_1:Int) (a0_2:Int) (a0_3:Int) (a0_4:Int) (a0_5:Int) (a0_6:Int) (a0_7:Int) (A0_8:Option Addr) (c0_8:Nat) (l0_8:List (S107)) (r1:Int) (r2:Int) (r3:Int) (r4:Int) (r5:Int) (r6:Int) (r7:Int) (r8:Int) (r9:List (S117)) (w:World) (hr0_8:Kd.C k107 w A0_8 l0_8.length l0_8) (hc0_8:l0_8.length≤c0_8) (h:L15_refMsg.f k a0_0 a0_1 a0_2 a0_3 a0_4 a0_5 a0_6 a0_7 l0_8=some (r1,r2,r3,r4,r5,r6,r7,r8,r9)) :
  Calls Try.prog 29 #[.agg #[.int .i64 a0_0,.int .i64 a0_1,.int .u64 a0_2,.int .u64 a0_3,.int .u64 a0_4,.int .u64 a0_5,.int .u64 a0_6,.int .i64 a0_7,.slice A0_8 l0_8.length c0_8]] w fun e w'=>∃ v8_:Value,e = .returned (.agg #[.int .i64 r1,.int .i64 r2,.int .u64 r3,.int .u64 r4,.int .u64 r5,.int .u64 r6,.int .u64 r7,.int .i64 r8,v8_])∧Kd.R k117 117 w' w.heap.size (fun _=>True) v8_ r9∧Below w.heap.size w w':=by
 have hu69:=Try.underlying69
 have hu75:=Try.underlying75
 have hu33:=Try.underlying33
 have HR0_8:=As_ hr0_8
 have HC0_8:=As_ hc0_8
 clear hr0_8 hc0_8
 have HB:=As_ (Below.refl w.heap.size w)
 unfold L15_refMsg.f at h
 have H:=h
 clear h
 obtain ⟨⟨t430,t431,t432,t433,t434,t435⟩,A2,H⟩:=Kbind_ H
 (try dsimp only at H)
 simp only [Option.some.injEq,Prod.mk.injEq] at H
 obtain ⟨rfl,rfl,rfl,rfl,rfl,rfl,rfl,rfl,rfl⟩:=H
 go_enter Try.func29,Try.ntmps29
 try go_wp2_with (first|((with_reducible refine gate_dst (N:=1) rfl ?_);refine Ka_ 1 #[.int .i64 a0_0,.int .i64 a0_1,.int .u64 a0_2,.int .u64 a0_3,.int .u64 a0_4,.int .u64 a0_5,.int .u64 a0_6,.int .i64 a0_7,.slice A0_8 l0_8.length c0_8] 69 ?_;intro gb428 hg w3 hbox hb;have BK428:=As_ (hbox);have GW428:=Kw_ HB hg;replace HB:=Ks_ HB hb;clear hb hbox hg)|((with_reducible refine gate_dst (N:=2) rfl ?_);refine Ka_ 2 #[.int .i64 0,.int .i64 0,.int .u64 0,.int .u64 0,.int .u64 0,.int .u64 0,.int .u64 0,.int .i64 0,.slice none 0 0] 75 ?_;intro gb429 hg w4 hbox hb;have BK429:=As_ (hbox);have GW429:=Kw_ HB hg;have NB428_429:=Kl_ BK428 hg;have NB429_428:=Kr_ BK428 hg;replace BK428:=Kb_ BK428 hb;replace HB:=Ks_ HB hb;clear hb hbox hg))
 replace BK428:=Kd_ BK428
 replace BK429:=Kd_ BK429
 replace HB:=As_ (below_drew1 HB.out)
 refine start_ (n:=11) (S:=fun w'=>w'.cell? ⟨gb428,0,none⟩=some (.int .i64 a0_0)∧w'.cell? ⟨gb428,1,none⟩=some (.int .i64 a0_1)∧w'.cell? ⟨gb428,2,none⟩=some (.int .u64 a0_2)∧w'.cell? ⟨gb428,3,none⟩=some (.int .u64 a0_3)∧w'.cell? ⟨gb428,4,none⟩=some (.int .u64 a0_4)∧w'.cell? ⟨gb428,5,none⟩=some (.int .u64 a0_5)∧w'.cell? ⟨gb428,6,none⟩=some (.int .u64 a0_6)∧w'.cell? ⟨gb428,7,none⟩=some (.int .i64 a0_7)∧w'.cell? ⟨gb428,8,none⟩=some (.slice A0_8 l0_8.length c0_8)) (ds:=[]) (mB_ 11 0) (by kernel_rfl) rfl rfl (Kc9_ BK428.out) (fun hHeld=>?_);refine with_tabW L15_refMsg.tab1 L15_refMsg.bits1 (fun HT_ HW_=>?_)
 generalize w4.drew=w5 at BK428 BK429 HB hHeld ⊢
 refine Kp_ 0 3 (mB_ 11 1) (any_of HT_.out (by kernel_rfl)) ?_
 refine Kp_ 2 5 (mB_ 11 5) (any_of HT_.out (by kernel_rfl)) ?_
 refine Kp_ 4 7 (mB_ 11 21) (any_of HT_.out (by kernel_rfl)) ?_
 refine Kp_ 6 9 (mB_ 11 85) (any_of HT_.out (by kernel_rfl)) ?_
 refine Ko_ 1 4 (mB_ 11 87) (take_ofW HT_.out HW_.out (by kernel_rfl)) hHeld ?_
 refine Ko_ 3 6 (mB_ 11 95) (take_ofW HT_.out HW_.out (by kernel_rfl)) hHeld ?_
 refine Ko_ 5 8 (mB_ 11 127) (take_ofW HT_.out HW_.out (by kernel_rfl)) hHeld ?_
 refine Ko_ 7 10 (mB_ 11 255) (take_ofW HT_.out HW_.out (by kernel_rfl)) hHeld ?_
 refine one_ (i:=8) (N:=some 11) (mB_ 11 511) rfl rfl (one_of HT_.out (by kernel_rfl)) (by decide) (fun K hK=>?_)
 refine goes_ Try.func18 (by kernel_rfl) rfl #[.agg #[.int .u64 a0_3,.int .u64 a0_4,.int .u64 a0_5,.int .u64 a0_6,.int .i64 a0_7,.slice A0_8 l0_8.length c0_8]] (by rfl) rfl rfl (by (try simp only [List.map_toArray,List.map_cons,List.map_nil]);first|done|rfl|(simp only [List.length_drop,List.length_take];rfl)) ?_
 with_reducible refine (L15_refTxn.calls k a0_3 a0_4 a0_5 a0_6 a0_7 _ _ l0_8 t430 t431 t432 t433 t434 t435 _ ?side1 ?side2 A2.out).mono ?_
 (case side1=>repeat (first|exact (Kd.C_below HR0_8.out HB.out)|(with_reducible refine Kd.C_alloc ?_ _)|(with_reducible refine Kd.C_drewN ?_ _)|(with_reducible refine Kd.C_drew ?_)))
 (case side2=>exact HC0_8.out)
 rintro e w6 ⟨v436,rfl,ho0,hb⟩
 refine ⟨_,rfl,?_⟩
 have HO437:=As_ (Kd.R_lower ho0 (below_size (K2a_ HB GW428 GW429)))
 replace BK428:=Kb_ BK428 hb
 replace BK429:=Kb_ BK429 hb
 replace HB:=Ks_ HB hb
 (try clear hb)
 (try clear hb2)
 (try clear hk)
 (try clear hi)
 (try clear ho0)
 obtain ⟨Ao7,co7,eo7⟩:=Kd.R_slice HO437.out
 (first|subst eo7|(injection eo7 with f1_ f2_ f3_;have f4_:=f1_.symm;have f5_:=f3_.symm;clear f1_ f2_ f3_;subst f4_;subst f5_))
 refine hK.out _ _ (Kc9_ BK428.out) (fun hHeld=>?_)
 clear hK K
 refine Kn_ 11 ?_
 refine Kp_ 9 12 (mB_ 11 1023) (any_of HT_.out (by kernel_rfl)) ?_
 refine one_ (i:=10) (N:=none) (mB_ 11 2047) rfl rfl (one_of HT_.out (by kernel_rfl)) (by decide) (fun K hK=>?_)
 have hs8:w6.cell? ⟨gb429,0,none⟩=some (.int .i64 0):=(blk_cell BK429.out 0).trans rfl
 have hfs8:=blk_frozen BK429.out 0
 have:=NB428_429.out
 have:=NB429_428.out
 have hs9:w6.cell? ⟨gb429,1,none⟩=some (.int .i64 0):=(blk_cell BK429.out 1).trans rfl
 have hfs9:=blk_frozen BK429.out 1
 have:=NB428_429.out
 have:=NB429_428.out
 have hs10:w6.cell? ⟨gb429,2,none⟩=some (.int .u64 0):=(blk_cell BK429.out 2).trans rfl
 have hfs10:=blk_frozen BK429.out 2
 have:=NB428_429.out
 have:=NB429_428.out
 have hs11:w6.cell? ⟨gb429,3,none⟩=some (.int .u64 0):=(blk_cell BK429.out 3).trans rfl
 have hfs11:=blk_frozen BK429.out 3
 have:=NB428_429.out
 have:=NB429_428.out
 have hs12:w6.cell? ⟨gb429,4,none⟩=some (.int .u64 0):=(blk_cell BK429.out 4).trans rfl
 have hfs12:=blk_frozen BK429.out 4
 have:=NB428_429.out
 have:=NB429_428.out
 have hs13:w6.cell? ⟨gb429,5,none⟩=some (.int .u64 0):=(blk_cell BK429.out 5).trans rfl
 have hfs13:=blk_frozen BK429.out 5
 have:=NB428_429.out
 have:=NB429_428.out
 have hs14:w6.cell? ⟨gb429,6,none⟩=some (.int .u64 0):=(blk_cell BK429.out 6).trans rfl
 have hfs14:=blk_frozen BK429.out 6
 have:=NB428_429.out
 have:=NB429_428.out
 have hs15:w6.cell? ⟨gb429,7,none⟩=some (.int .i64 0):=(blk_cell BK429.out 7).trans rfl
 have hfs15:=blk_frozen BK429.out 7
 have:=NB428_429.out
 have:=NB429_428.out
 have hs16:w6.cell? ⟨gb429,8,none⟩=some (.slice none 0 0):=(blk_cell BK429.out 8).trans rfl
 have hfs16:=blk_frozen BK429.out 8
 have:=NB428_429.out
 have:=NB429_428.out
 refine skip_ (w1:=?_) (by rfl) rfl ?_ ?_
 rotate_left
 ·go_simp
  rfl
 refine hK.out _ _ ⟨(Kj_ NB428_429 ((Kj_ NB428_429 ((Kj_ NB428_429 ((Kj_ NB428_429 ((Kj_ NB428_429 ((Kj_ NB428_429 ((Kj_ NB428_429 ((Kj_ NB428_429 ((Kj_ NB428_429 (hHeld.1)))))))))))))))))),(Kj_ NB428_429 ((Kj_ NB428_429 ((Kj_ NB428_429 ((Kj_ NB428_429 ((Kj_ NB428_429 ((Kj_ NB428_429 ((Kj_ NB428_429 ((Kj_ NB428_429 ((Kj_ NB428_429 (hHeld.2.1)))))))))))))))))),(Kj_ NB428_429 ((Kj_ NB428_429 ((Kj_ NB428_429 ((Kj_ NB428_429 ((Kj_ NB428_429 ((Kj_ NB428_429 ((Kj_ NB428_429 ((Kj_ NB428_429 ((Kj_ NB428_429 (hHeld.2.2.1)))))))))))))))))),(Kj_ NB428_429 ((Kj_ NB428_429 ((Kj_ NB428_429 ((Kj_ NB428_429 ((Kj_ NB428_429 ((Kj_ NB428_429 ((Kj_ NB428_429 ((Kj_ NB428_429 ((Kj_ NB428_429 (hHeld.2.2.2.1)))))))))))))))))),(Kj_ NB428_429 ((Kj_ NB428_429 ((Kj_ NB428_429 ((Kj_ NB428_429 ((Kj_ NB428_429 ((Kj_ NB428_429 ((Kj_ NB428_429 ((Kj_ NB428_429 ((Kj_ NB428_429 (hHeld.2.2.2.2.1)))))))))))))))))),(Kj_ NB428_429 ((Kj_ NB428_429 ((Kj_ NB428_429 ((Kj_ NB428_429 ((Kj_ NB428_429 ((Kj_ NB428_429 ((Kj_ NB428_429 ((Kj_ NB428_429 ((Kj_ NB428_429 (hHeld.2.2.2.2.2.1)))))))))))))))))),(Kj_ NB428_429 ((Kj_ NB428_429 ((Kj_ NB428_429 ((Kj_ NB428_429 ((Kj_ NB428_429 ((Kj_ NB428_429 ((Kj_ NB428_429 ((Kj_ NB428_429 ((Kj_ NB428_429 (hHeld.2.2.2.2.2.2.1)))))))))))))))))),(Kj_ NB428_429 ((Kj_ NB428_429 ((Kj_ NB428_429 ((Kj_ NB428_429 ((Kj_ NB428_429 ((Kj_ NB428_429 ((Kj_ NB428_429 ((Kj_ NB428_429 ((Kj_ NB428_429 (hHeld.2.2.2.2.2.2.2.1)))))))))))))))))),(Kj_ NB428_429 ((Kj_ NB428_429 ((Kj_ NB428_429 ((Kj_ NB428_429 ((Kj_ NB428_429 ((Kj_ NB428_429 ((Kj_ NB428_429 ((Kj_ NB428_429 ((Kj_ NB428_429 (hHeld.2.2.2.2.2.2.2.2))))))))))))))))))⟩ (fun hHeld=>?_)
 clear hK K
 refine done_ (done_of HT_.out (by kernel_rfl)) ?_
 try go_wp2
 refine bodyPost_ret (results_cell_row rfl _ _ gb429 75 #[.int .i64 a0_0,.int .i64 a0_1,.int .u64 a0_2,.int .u64 t430,.int .u64 t431,.int .u64 t432,.int .u64 t433,.int .i64 t434,.slice Ao7 t435.length co7] (0,0) _ rfl (by refine Kv_ ?_;exact Kput9_ (Kq_ BK429)) Try.underlying75 rfl (by kernel_rfl)) rfl ?_
 exact ⟨_,by first|rfl|(simp [errW_none,errW_some] <;> rfl)|(simp [*,errW_none,errW_some] <;> rfl),by (with_reducible repeat (first|apply Kd.R_alloc|apply Kd.R_drewN|apply Kd.R_drew));exact Kd.R_mono (Kd.R_far (p:=⟨gb429,8,none⟩) (Kd.R_far (p:=⟨gb429,7,none⟩) (Kd.R_far (p:=⟨gb429,6,none⟩) (Kd.R_far (p:=⟨gb429,5,none⟩) (Kd.R_far (p:=⟨gb429,4,none⟩) (Kd.R_far (p:=⟨gb429,3,none⟩) (Kd.R_far (p:=⟨gb429,2,none⟩) (Kd.R_far (p:=⟨gb429,1,none⟩) (Kd.R_far (p:=⟨gb429,0,none⟩) (Kd.R_types HO437.out BK429.out (by decide)) (fun _ hk=>hk.2) (.int .i64 a0_0)) (fun _ hk=>hk.2) (.int .i64 a0_1)) (fun _ hk=>hk.2) (.int .u64 a0_2)) (fun _ hk=>hk.2) (.int .u64 t430)) (fun _ hk=>hk.2) (.int .u64 t431)) (fun _ hk=>hk.2) (.int .u64 t432)) (fun _ hk=>hk.2) (.int .u64 t433)) (fun _ hk=>hk.2) (.int .i64 t434)) (fun _ hk=>hk.2) (.slice Ao7 t435.length co7)) (fun _ hk=>trivial),K2a_ HB GW428 GW429⟩
def L15_bend.turn (l:List Int) (p:Nat) (x:Int):List Int:=l.set p (Go.bits .xor .u8 (l.getD p 0) x)
def L15_bend.At (W:World) (B:Nat) (l:List Int):Prop:=∀ j,j<l.length→W.cell? ⟨B,j,none⟩=some (.int .u8 (l.getD j 0))∧W.frozen? ⟨B,j,none⟩=false
theorem L15_bend.At.set {W:World} {B:Nat} {l:List Int} (h:L15_bend.At W B l) (p:Nat) (hp:p<l.length) (v:Int):L15_bend.At (W.setCell ⟨B,p,none⟩ (.int .u8 v)) B (l.set p v):=by
 intro j hj
 rw [List.length_set] at hj
 obtain ⟨h1,h2⟩:=h j hj
 obtain ⟨g1,g2⟩:=h p hp
 by_cases e:j=p
 ·subst e
  refine ⟨?_,?_⟩
  ·rw [World.cell?_setCell_same _ _ _ g1];simp [List.getD_eq_getElem?_getD,hj]
  ·simp [go_sem,h2]
 ·refine ⟨?_,?_⟩
  ·rw [World.cell?_setCell_other _ _ _ _ (by intro h;injection h with _ h;exact e h.symm),h1]
   simp [List.getD_eq_getElem?_getD,Ne.symm e]
  ·simp [go_sem,h2]
theorem L15_bend.At.below {W W':World} {B:Nat} {l:List Int} (h:L15_bend.At W B l) (hb:Below W.heap.size W W') (hB:B<W.heap.size):L15_bend.At W' B l:=fun j hj =>
 ⟨(hb.cell (p:=⟨B,j,none⟩) hB).trans (h j hj).1,(hb.frozen (p:=⟨B,j,none⟩) hB).trans (h j hj).2⟩
theorem L15_bend.At.conv {W:World} {B:Nat} {l:List Int} (h:L15_bend.At W B l) (n c:Nat) (hn:l.length=n) :
  (convert 91 9 (.slice (some ⟨B,0,none⟩) n c)).run Try.prog W = .ok (.string (strOfNums l)) W :=
 run_convert_bytes_arg W 91 5 Try.underlying91 Try.underlying5 B 0 n c l hn (fun i hi=>by rw [Nat.zero_add];exact (h i (by omega)).1) 9 Try.underlying9
theorem L15_bend.str_bytes (s:ByteArray):strOfNums (bytesOf s)=s:=by
 cases s with
 | mk d =>
 unfold strOfNums bytesOf
 simp only [List.map_map]
 congr 1
 apply Array.toList_inj.1
 simp only [List.toList_toArray]
 conv=>rhs;rw [← List.map_id d.toList]
 apply List.map_congr_left
 intro b _
 simp
theorem L15_bend.made (w:World) (s:ByteArray) (hs:s.size≤9223372036854775807):∃ (W:World) (c:Nat),(convert 9 91 (.string s)).run Try.prog w = .ok (.slice (some ⟨w.heap.size,0,none⟩) s.size c) W ∧
  (convert 91 9 (.slice (some ⟨w.heap.size,0,none⟩) s.size c)).run Try.prog W = .ok (.string s) W∧Aside0 (L15_bend.At W w.heap.size (bytesOf s))∧Aside0 (Below w.heap.size w W)∧Aside0 (W.heap.size=w.heap.size+1):=by
 have hat:L15_bend.At (Lib.bytesWorld w 5 s) w.heap.size (bytesOf s):=by
  intro j hj
  rw [bytesOf_length] at hj
  refine ⟨?_,?_⟩
  ·obtain ⟨_,_,hr⟩:=bytes_reads w 5 s hs
   obtain ⟨ad,had,hr⟩:=hr (by omega)
   have hr:=hr j hj
   simp at had
   subst had
   rw [add_plain] at hr
   exact hr
  ·have hsz:(Lib.bytesCells w 5 s).size=s.size+(grownCap w s.size 0 5 - s.size):=by
    unfold Lib.bytesCells;simp
   simp only [World.frozen?,Lib.bytesWorld_at_new]
   simp;omega
 refine ⟨_,_,Lib.run_convert_string_bytes (P:=Try.prog) w 9 91 5 s Try.underlying9 Try.underlying91 Try.underlying5,?_,⟨hat⟩,⟨bytes_below (Below.refl _ _) (Nat.le_refl _) _ _⟩,⟨Lib.bytesWorld_size _ _ _⟩⟩
 have:=hat.conv s.size (grownCap w s.size 0 5) (bytesOf_length s)
 rw [L15_bend.str_bytes] at this
 exact this
theorem L15_bend.At.drew {W:World} {B:Nat} {l:List Int} (h:L15_bend.At W B l):L15_bend.At W.drew B l:=fun j hj=>⟨by simpa [go_sem] using (h j hj).1,by simpa [go_sem] using (h j hj).2⟩
theorem L15_bend.round {w0 w W:World} {B p n:Nat} {l:List Int} {x:Int} (hW:W=(w.setCell ⟨B,p,none⟩ (.int .u8 (Go.bits .xor .u8 (l[p]?.getD 0) x))).drew) (hn:l.length=n) (hp:p<n) (hB:w0.heap.size≤B) (h:L15_bend.At w B l) (hb:Below w0.heap.size w0 w) :
  L15_bend.At W B (L15_bend.turn l p x)∧(L15_bend.turn l p x).length=n∧Below w0.heap.size w0 W∧W.heap.size=w.heap.size:=by
 subst hW
 refine ⟨?_,?_,?_,?_⟩
 ·unfold L15_bend.turn
  rw [List.getD_eq_getElem?_getD]
  exact (h.set p (by omega) _).drew
 ·unfold L15_bend.turn;rw [List.length_set];exact hn
 ·exact below_drew (hb.setCell hB _)
 ·simp
def L15_bend.at_ (a1:Int):Int:=if a1<0 then -(a1+1) else a1
def L15_bend.f (a0:ByteArray) (a1 a2:Int):Option ByteArray :=
 if a0.toList=[] then some a0 else
 if a0.size≤9223372036854775807 ∧ -9223372036854775808≤a1∧a1≤9223372036854775807 then some (strOfNums (L15_bend.turn (bytesOf a0) ((L15_bend.at_ a1) % (a0.size:Int)).toNat a2)) else none
set_option maxHeartbeats 4000000 in
theorem L15_bend.calls (a0:ByteArray) (a1:Int) (a2:Int) (r:ByteArray) (w:World) (h:L15_bend.f a0 a1 a2=some r) :
  Calls Try.prog 35 #[.string a0,.int .i64 a1,.int .u8 a2] w fun e w'=>e = .returned (.string r)∧Below w.heap.size w w':=by
 unfold L15_bend.f at h
 by_cases c0:a0.toList=[]
 ·rw [if_pos c0] at h
  obtain rfl:=Option.some.inj h
  have c0b0:(a0.toList == ([]:List UInt8))=true:=beq_iff_eq.mpr c0
  go_enter Try.func35,Try.ntmps35
  go_wp2
  go_ret
  exact ⟨rfl,Below.refl _ _⟩
 ·rw [if_neg c0] at h
  have c0b0:=beq_eq_false_iff_ne.mpr c0
  by_cases c1:a0.size≤9223372036854775807 ∧ -9223372036854775808≤a1∧a1≤9223372036854775807
  ·rw [if_pos c1] at h
   obtain rfl:=Option.some.inj h
   clear h
   obtain ⟨hz,hlo,hhi⟩:=c1
   have hz0:0<a0.size:=by
    rcases Nat.eq_zero_or_pos a0.size with e|e
    ·exfalso
     apply c0
     have:a0=ByteArray.empty:=ByteArray.size_eq_zero_iff.1 e
     rw [this]
     decide +kernel
    ·exact e
   clear c0
   obtain ⟨W,c,hcv,hcv2,HA,HB,HZ⟩:=L15_bend.made w a0 hz
   by_cases c2:a1<0
   ·have b1:decide (a1<0)=true:=decide_eq_true c2
    have ha:L15_bend.at_ a1 = -(a1+1):=by unfold L15_bend.at_;rw [if_pos c2]
    rw [ha]
    clear ha
    obtain ⟨p,hp,hp4⟩:∃ p:Nat,(-(a1+1)) % (a0.size:Int)=(p:Int)∧p<a0.size:=by
     have e1:=Int.emod_nonneg (-(a1+1)) (show (a0.size:Int) ≠ 0 by omega)
     have e2:=Int.emod_lt_of_pos (-(a1+1)) (show 0<(a0.size:Int) by omega)
     exact ⟨((-(a1+1)) % (a0.size:Int)).toNat,by omega,by omega⟩
    rw [hp,Int.toNat_natCast]
    have hq:Int.tmod (-(a1+1)) (a0.size:Int)=(p:Int):=by rw [Int.tmod_eq_emod_of_nonneg (by omega),hp]
    have hg:=(HA.out p (by rw [bytesOf_length];exact hp4)).1
    have hf:=(HA.out p (by rw [bytesOf_length];exact hp4)).2
    have hb0:0≤(p:Int):=Int.natCast_nonneg p
    have hb1:(p:Int)<(a0.size:Int):=by omega
    go_enter Try.func35,Try.ntmps35
    go_wp2
    go_region
    obtain ⟨W3,hW⟩:∃ W',W'=(W.setCell ⟨w.heap.size,p,none⟩ (.int .u8 (Go.bits .xor .u8 ((bytesOf a0)[p]?.getD 0) a2))).drew:=⟨_,rfl⟩
    rw [← hW]
    obtain ⟨r1,r2,r3,r4⟩:=L15_bend.round hW (bytesOf_length a0) hp4 (Nat.le_refl _) HA.out HB.out
    have hcv3:=r1.conv a0.size c r2
    clear hW hcv hcv2 r1 hg hf
    replace r3:=As_ r3
    go_wp2
    go_ret
    exact ⟨rfl,r3.out⟩
   ·have b1:decide (a1<0)=false:=decide_eq_false c2
    have ha:L15_bend.at_ a1=a1:=by unfold L15_bend.at_;rw [if_neg c2]
    rw [ha]
    clear ha
    obtain ⟨p,hp,hp4⟩:∃ p:Nat,(a1) % (a0.size:Int)=(p:Int)∧p<a0.size:=by
     have e1:=Int.emod_nonneg (a1) (show (a0.size:Int) ≠ 0 by omega)
     have e2:=Int.emod_lt_of_pos (a1) (show 0<(a0.size:Int) by omega)
     exact ⟨((a1) % (a0.size:Int)).toNat,by omega,by omega⟩
    rw [hp,Int.toNat_natCast]
    have hq:Int.tmod (a1) (a0.size:Int)=(p:Int):=by rw [Int.tmod_eq_emod_of_nonneg (by omega),hp]
    have hg:=(HA.out p (by rw [bytesOf_length];exact hp4)).1
    have hf:=(HA.out p (by rw [bytesOf_length];exact hp4)).2
    have hb0:0≤(p:Int):=Int.natCast_nonneg p
    have hb1:(p:Int)<(a0.size:Int):=by omega
    go_enter Try.func35,Try.ntmps35
    go_wp2
    go_region
    obtain ⟨W3,hW⟩:∃ W',W'=(W.setCell ⟨w.heap.size,p,none⟩ (.int .u8 (Go.bits .xor .u8 ((bytesOf a0)[p]?.getD 0) a2))).drew:=⟨_,rfl⟩
    rw [← hW]
    obtain ⟨r1,r2,r3,r4⟩:=L15_bend.round hW (bytesOf_length a0) hp4 (Nat.le_refl _) HA.out HB.out
    have hcv3:=r1.conv a0.size c r2
    clear hW hcv hcv2 r1 hg hf
    replace r3:=As_ r3
    go_wp2
    go_ret
    exact ⟨rfl,r3.out⟩
  ·rw [if_neg c1] at h
   exact absurd h (by simp)
mutual
def R02_Reader_Number.j0:Nat→Int→Bool→ByteArray→Bool→Option (Int × ByteArray × Bool)
 | 0,_,_,_,_=>none
 | k+1,x1,x24,x103,x147=>if x24=true then (some (0,(⟨#[]⟩:ByteArray),true)) else (R02_Reader_Number.l0 k x1 0 0 x103 x147)
def R02_Reader_Number.l0:Nat→Int→Int→Int→ByteArray→Bool→Option (Int × ByteArray × Bool)
 | 0,_,_,_,_,_=>none
 | k+1,x1,x6,x7,x103,x147=>if x7<x1 then (if 0≤x7 then (if x7<(x103.size:Int) then (R02_Reader_Number.l0 k x1 (Go.bits .or .u64 (IntKind.u64.wrap (x6 * 256)) (IntKind.u64.wrap (bt x103 x7))) (wrap64 (x7+1)) x103 x147) else (none)) else (none)) else (if 0≤x1 then (if x1≤(x103.size:Int) then (some (x6,x103.extract (x1:Int).toNat x103.size,false)) else (none)) else (none))
end
def R02_Reader_Number.f (k:Nat) (a0_0:ByteArray) (a0_1:Bool) (a1:Int):Option (Int × ByteArray × Bool):=if a0_1=true then (R02_Reader_Number.j0 k a1 true a0_0 a0_1) else (if a1<1 then (R02_Reader_Number.j0 k a1 true a0_0 a0_1) else (if a1 > 8 then (R02_Reader_Number.j0 k a1 true a0_0 a0_1) else (R02_Reader_Number.j0 k a1 (decide ((a0_0.size:Int)<a1)) a0_0 a0_1)))
def R02_Reader_Number.T8:Bool × List (List Nat × List Nat):=(true,[([],[]),([],[]),([1],[1]),([],[]),([2,3],[2,3]),([4],[4]),([0,0],[0]),([5,6,0,1,2,3,4,5,6],[5])])
def R02_Reader_Number.B8:List Nat:=[0,0,2,0,14,30,1,127]
theorem R02_Reader_Number.tab8:rtab .any (opsOf Try.f79 8)=R02_Reader_Number.T8:=by kernel_rfl
theorem R02_Reader_Number.bits8:waitsOk R02_Reader_Number.T8.2 R02_Reader_Number.B8=true:=by kernel_rfl
set_option maxHeartbeats 8000000 in
set_option maxRecDepth 100000 in
theorem R02_Reader_Number.calls (k:Nat) (a0_0:ByteArray) (a0_1:Bool) (a1:Int) (r1:Int) (r2:ByteArray) (r3:Bool) (w:World) (h:R02_Reader_Number.f k a0_0 a0_1 a1=some (r1,r2,r3)) :
  Calls Try.prog 79 #[.agg #[.string a0_0,.bool a0_1],.int .i64 a1] w fun e w'=>e = .returned (.tuple #[.int .u64 r1,.agg #[.string r2,.bool r3]])∧Below w.heap.size w w':=by
 have hu142:=Try.underlying142
 have HB:=As_ (Below.refl w.heap.size w)
 unfold R02_Reader_Number.f at h
 have H:=h
 clear h
 have HC3:=As_ H
 clear H
 go_enter Try.func79,Try.ntmps79
 go_upto_region 1 with (first|((with_reducible refine gate_dst (N:=2) rfl ?_);refine Ka_ 2 #[.string a0_0,.bool a0_1] 142 ?_;intro gb508 hg w4 hbox hb;have BK508:=As_ (hbox);have GW508:=Kw_ HB hg;replace HB:=Ks_ HB hb;clear hb hbox hg)|((with_reducible refine gate_dst (N:=5) rfl ?_);refine Ka_ 5 #[.string (⟨#[]⟩:ByteArray),.bool false] 142 ?_;intro gb509 hg w5 hbox hb;have BK509:=As_ (hbox);have GW509:=Kw_ HB hg;have NB508_509:=Kl_ BK508 hg;have NB509_508:=Kr_ BK508 hg;replace BK508:=Kb_ BK508 hb;replace HB:=Ks_ HB hb;clear hb hbox hg))
 (try simp only [Act.put,List.setIfInBounds_toArray,List.set_cons_zero,List.set_cons_succ])
 go_cut [24] (fun v24 wc=>∃ (kq:Nat) (x24_2:Bool),v24 = .bool x24_2∧Aside0 (R02_Reader_Number.j0 kq a1 x24_2 a0_0 a0_1=some (r1,r2,r3))∧Aside0 (kq≤k)∧Aside0 (wc.heap[gb508]?=some (.cells #[.string a0_0,.bool a0_1] 142 (0,0)))∧Aside0 (wc.heap[gb509]?=some (.cells #[.string (⟨#[]⟩:ByteArray),.bool false] 142 (0,0)))∧Aside0 (Below w.heap.size w wc))
 case first =>
  have H:=HC3.out
  clear HC3
  by_cases c6:a0_1=true
  ·subst c6
   rw [if_pos rfl] at H
   have H':=As_ H
   clear H
   have hnb7:=NB508_509.out
   have hnc7:=NB509_508.out
   obtain ⟨hcz8_0,hcz8_1,hfz8_0,hfz8_1⟩:=Ke2_ BK508.out
   go_wp2
   go_meet
   case rel=>exact ⟨_,(true),(by first|rfl|(simp;done)|(simp [*];done)),H',⟨by first|omega|exact Nat.le_refl _⟩,⟨by exact Kq_ BK508⟩,⟨by exact Kq_ BK509⟩,⟨K2a_ HB GW508 GW509⟩⟩
  replace c6:=Bool.eq_false_iff.mpr c6
  subst c6
  rw [if_neg Bool.false_ne_true] at H
  by_cases c9:a1<1
  ·rw [if_pos c9] at H
   have c9b0:decide (a1<1)=true:=decide_eq_true c9
   clear c9
   (first|rw [c9b0]|(simp only [i64_w,i32_w];rw [c9b0])|skip)
   have H':=As_ H
   clear H
   have hnb10:=NB508_509.out
   have hnc10:=NB509_508.out
   obtain ⟨hcz11_0,hcz11_1,hfz11_0,hfz11_1⟩:=Ke2_ BK508.out
   go_wp2
   go_meet
   case rel=>exact ⟨_,(true),(by first|rfl|(simp;done)|(simp [*];done)),H',⟨by first|omega|exact Nat.le_refl _⟩,⟨by exact Kq_ BK508⟩,⟨by exact Kq_ BK509⟩,⟨K2a_ HB GW508 GW509⟩⟩
  rw [if_neg c9] at H
  have c9b0:decide (a1<1)=false:=decide_eq_false c9
  clear c9
  (first|rw [c9b0]|(simp only [i64_w,i32_w];rw [c9b0])|skip)
  by_cases c12:a1 > 8
  ·rw [if_pos c12] at H
   have c12b0:decide (8<a1)=true:=decide_eq_true c12
   clear c12
   have H':=As_ H
   clear H
   have hnb13:=NB508_509.out
   have hnc13:=NB509_508.out
   obtain ⟨hcz14_0,hcz14_1,hfz14_0,hfz14_1⟩:=Ke2_ BK508.out
   go_wp2
   go_meet
   case rel=>exact ⟨_,(true),(by first|rfl|(simp;done)|(simp [*];done)),H',⟨by first|omega|exact Nat.le_refl _⟩,⟨by exact Kq_ BK508⟩,⟨by exact Kq_ BK509⟩,⟨K2a_ HB GW508 GW509⟩⟩
  rw [if_neg c12] at H
  have c12b0:decide (8<a1)=false:=decide_eq_false c12
  clear c12
  have H':=As_ H
  clear H
  have hnb15:=NB508_509.out
  have hnc15:=NB509_508.out
  obtain ⟨hcz16_0,hcz16_1,hfz16_0,hfz16_1⟩:=Ke2_ BK508.out
  go_wp2
  go_meet
  case rel=>exact ⟨_,(decide ((a0_0.size:Int)<a1)),(by first|rfl|(simp;done)|(simp [*];done)),H',⟨by first|omega|exact Nat.le_refl _⟩,⟨by exact Kq_ BK508⟩,⟨by exact Kq_ BK509⟩,⟨K2a_ HB GW508 GW509⟩⟩
 case rest =>
  clear HC3
  try clear c1
  try clear p2
  try clear c6
  try clear c7
  try clear c9
  try clear c9b0
  try clear c10
  try clear c12
  try clear c12b0
  try clear c13
  try clear c15
  try clear hcz11_0
  try clear hcz11_1
  try clear hcz14_0
  try clear hcz14_1
  try clear hcz16_0
  try clear hcz16_1
  try clear hcz8_0
  try clear hcz8_1
  try clear hfz11_0
  try clear hfz11_1
  try clear hfz14_0
  try clear hfz14_1
  try clear hfz16_0
  try clear hfz16_1
  try clear hfz8_0
  try clear hfz8_1
  obtain ⟨kq,x24_2,rfl,HA,HJ2,BK508,BK509,HB⟩:=hcut
  cases kq with
  | zero=>exact absurd HA.out (by simp [R02_Reader_Number.j0])
  | succ kj2 =>
   have H:=HA.out
   clear HA
   simp only [R02_Reader_Number.j0] at H
   by_cases c17:x24_2=true
   ·subst c17
    rw [if_pos rfl] at H
    simp only [Option.some.injEq,Prod.mk.injEq] at H
    obtain ⟨rfl,rfl,rfl⟩:=H
    have hnb18:=NB509_508.out
    have hnc18:=NB508_509.out
    obtain ⟨hcz19_0,hcz19_1,hfz19_0,hfz19_1⟩:=Ke2_ BK509.out
    go_wp2
    refine bodyPost_ret (results_tc rfl _ _ gb509 142 #[.string (⟨#[]⟩:ByteArray),.bool true] (0,0) _ rfl (by refine Kv_ ?_;exact Kput2_ (Kq_ BK509)) Try.underlying142 rfl (by kernel_rfl)) rfl ?_
    exact ⟨Kh_,K2a_ HB GW508 GW509⟩
   replace c17:=Bool.eq_false_iff.mpr c17
   subst c17
   rw [if_neg Bool.false_ne_true] at H
   have H':=As_ H
   clear H
   go_wp2
   go_loopg [6,7] kj2 (fun kq v6 v7 w'=>∃ (x6_2:Int) (x7_2:Int),v6 = .int .u64 x6_2∧v7 = .int .i64 x7_2∧Aside0 (R02_Reader_Number.l0 kq a1 x6_2 x7_2 a0_0 a0_1=some (r1,r2,r3))∧Aside0 (kq≤kj2)∧Aside0 (w'.heap[gb508]?=some (.cells #[.string a0_0,.bool a0_1] 142 (0,0)))∧Aside0 (w'.heap[gb509]?=some (.cells #[.string (⟨#[]⟩:ByteArray),.bool false] 142 (0,0)))∧Aside0 (Below w.heap.size w w'))
   case atStart=>exact ⟨(0),(0),(by first|rfl|(simp;done)|(simp [*];done)),(by first|rfl|(simp;done)|(simp [*];done)),H',⟨Nat.le_refl _⟩,⟨by exact Kq_ BK508⟩,⟨by exact Kq_ BK509⟩,⟨K2a_ HB GW508 GW509⟩⟩
   case round =>
    clear H'
    try clear c1
    try clear p2
    try clear c6
    try clear c7
    try clear c9
    try clear c9b0
    try clear c10
    try clear c12
    try clear c12b0
    try clear c13
    try clear c15
    try clear c17
    try clear c18
    try clear hcz11_0
    try clear hcz11_1
    try clear hcz14_0
    try clear hcz14_1
    try clear hcz16_0
    try clear hcz16_1
    try clear hcz19_0
    try clear hcz19_1
    try clear hcz8_0
    try clear hcz8_1
    try clear hfz11_0
    try clear hfz11_1
    try clear hfz14_0
    try clear hfz14_1
    try clear hfz16_0
    try clear hfz16_1
    try clear hfz19_0
    try clear hfz19_1
    try clear hfz8_0
    try clear hfz8_1
    try clear p2
    obtain ⟨x6_2,x7_2,rfl,rfl,HA,HK2,BK508,BK509,HB⟩:=hrel
    cases gk with
    | zero=>exact absurd HA.out (by simp [R02_Reader_Number.l0])
    | succ k2 =>
     have H:=HA.out
     clear HA
     simp only [R02_Reader_Number.l0] at H
     by_cases c20:x7_2<a1
     ·rw [if_pos c20] at H
      have c20b0:decide (x7_2<a1)=true:=decide_eq_true c20
      clear c20
      by_cases c21:0≤x7_2
      rotate_left
      ·rw [if_neg c21] at H
       exact absurd H (by simp)
      rw [if_pos c21] at H
      have c21b0:decide (0≤x7_2)=true:=decide_eq_true c21
      clear c21
      by_cases c22:x7_2<(a0_0.size:Int)
      rotate_left
      ·rw [if_neg c22] at H
       exact absurd H (by simp)
      rw [if_pos c22] at H
      have c22b0:decide (x7_2<(a0_0.size:Int))=true:=decide_eq_true c22
      clear c22
      have H':=As_ H
      clear H
      have hnb24:=NB508_509.out
      have hnc24:=NB509_508.out
      obtain ⟨_,_,_,_⟩:=Ke2_ BK508.out
      have p23:0≤(x7_2:Int):=of_decide_eq_true (by first|(with_reducible assumption)|assumption)
      have q23:x7_2<(a0_0.size:Int):=of_decide_eq_true (by first|(with_reducible assumption)|assumption)
      have hx23:=bt_at a0_0 x7_2
      replace p23:=eq_true p23
      replace q23:=eq_true q23
      go_wp2
      go_roundg k2
      case measure=>have:=HJ2.out;have:=HK2.out;omega
      case rel=>exact ⟨(Go.bits .or .u64 (IntKind.u64.wrap (x6_2 * 256)) (IntKind.u64.wrap (bt a0_0 x7_2))),(wrap64 (x7_2+1)),(by first|rfl|(simp;done)|(simp [*];done)),(by first|rfl|(simp;done)|(simp [*];done)),H',⟨by have:=HJ2.out;have:=HK2.out;omega⟩,⟨by exact Kq_ BK508⟩,⟨by exact Kq_ BK509⟩,⟨K2a_ HB GW508 GW509⟩⟩
     rw [if_neg c20] at H
     have c20b0:decide (x7_2<a1)=false:=decide_eq_false c20
     clear c20
     by_cases c26:0≤a1
     rotate_left
     ·rw [if_neg c26] at H
      exact absurd H (by simp)
     rw [if_pos c26] at H
     have c26b0:=eq_true c26
     have c26b1:decide (0≤a1)=true:=decide_eq_true c26
     clear c26
     by_cases c27:a1≤(a0_0.size:Int)
     rotate_left
     ·rw [if_neg c27] at H
      exact absurd H (by simp)
     rw [if_pos c27] at H
     have c27b0:=eq_true c27
     have c27b1:decide (a1≤(a0_0.size:Int))=true:=decide_eq_true c27
     clear c27
     simp only [Option.some.injEq,Prod.mk.injEq] at H
     obtain ⟨rfl,rfl,rfl⟩:=H
     try go_wp2
     replace BK508:=Kd_ BK508
     replace BK509:=Kd_ BK509
     replace HB:=As_ (below_drew1 HB.out)
     refine start_ (n:=8) (S:=fun w'=>w'.cell? ⟨gb508,0,none⟩=some (.string a0_0)∧w'.cell? ⟨gb508,1,none⟩=some (.bool a0_1)) (ds:=[]) (mB_ 8 0) (by kernel_rfl) rfl rfl (Kc2_ BK508.out) (fun hHeld=>?_);refine with_tabW R02_Reader_Number.tab8 R02_Reader_Number.bits8 (fun HT_ HW_=>?_)
     generalize wr.drew=w28 at BK508 BK509 HB hHeld ⊢
     refine Kp_ 0 39 (mB_ 8 1) (any_of HT_.out (by kernel_rfl)) ?_
     refine Kp_ 1 40 (mB_ 8 3) (any_of HT_.out (by kernel_rfl)) ?_
     refine Kp_ 3 42 (mB_ 8 11) (any_of HT_.out (by kernel_rfl)) ?_
     refine Kp_ 6 4 (mB_ 8 75) (any_of HT_.out (by kernel_rfl)) ?_
     refine Ko_ 2 41 (mB_ 8 79) (take_ofW HT_.out HW_.out (by kernel_rfl)) hHeld ?_
     refine Kp_ 4 43 (mB_ 8 95) (any_of HT_.out (by kernel_rfl)) ?_
     refine Kp_ 5 44 (mB_ 8 127) (any_of HT_.out (by kernel_rfl)) ?_
     refine one_ (i:=7) (N:=none) (mB_ 8 255) rfl rfl (one_of HT_.out (by kernel_rfl)) (by decide) (fun K hK=>?_)
     have hs29:w28.cell? ⟨gb509,0,none⟩=some (.string (⟨#[]⟩:ByteArray)):=(blk_cell BK509.out 0).trans rfl
     have hfs29:=blk_frozen BK509.out 0
     have:=NB508_509.out
     have:=NB509_508.out
     have hs30:w28.cell? ⟨gb509,1,none⟩=some (.bool false):=(blk_cell BK509.out 1).trans rfl
     have hfs30:=blk_frozen BK509.out 1
     have:=NB508_509.out
     have:=NB509_508.out
     refine skip_ (w1:=?_) (by rfl) rfl ?_ ?_
     rotate_left
     ·go_simp
      rfl
     refine hK.out _ _ ⟨(Kj_ NB508_509 ((Kj_ NB508_509 (hHeld.1)))),(Kj_ NB508_509 ((Kj_ NB508_509 (hHeld.2))))⟩ (fun hHeld=>?_)
     clear hK K
     refine done_ (done_of HT_.out (by kernel_rfl)) ?_
     try go_wp2
     refine bodyPost_ret (results_tc rfl _ _ gb509 142 #[.string (a0_0.extract (a1:Int).toNat a0_0.size),.bool false] (0,0) _ rfl (by refine Kv_ ?_;exact Kput2_ (Kq_ BK509)) Try.underlying142 rfl (by kernel_rfl)) rfl ?_
     exact ⟨Kh_,K2a_ HB GW508 GW509⟩
mutual
def R02_Reader_Vary.l0:Nat→Int→Int→ByteArray→Bool→Option (Int × ByteArray × Bool)
 | 0,_,_,_,_=>none
 | k+1,x4,x5,x102,x123=>if x5<(x102.size:Int) then (if x5<10 then (R02_Reader_Vary.j1 k x4 x5 (!x123) x102 x123) else (R02_Reader_Vary.j1 k x4 x5 false x102 x123)) else (R02_Reader_Vary.j1 k x4 x5 false x102 x123)
def R02_Reader_Vary.j1:Nat→Int→Int→Bool→ByteArray→Bool→Option (Int × ByteArray × Bool)
 | 0,_,_,_,_,_=>none
 | k+1,x4,x5,x19,x102,x123=>if x19=true then (if 0≤x5 then (if x5<(x102.size:Int) then (if 0≤(wrap64 (7 * x5)) then (if (bt x102 x5)<128 then ((R02_Vary.f k (Go.bits .or .u64 x4 (shl .u64 (IntKind.u64.wrap (Int.tmod (bt x102 x5) 128)) (wrap64 (7 * x5))))).bind fun t512=>(if 0≤(wrap64 (x5+1)) then (if (wrap64 (x5+1))≤(x102.size:Int) then (if t512.toList=(x102.extract 0 ((wrap64 (x5+1)):Int).toNat).toList then (some (Go.bits .or .u64 x4 (shl .u64 (IntKind.u64.wrap (Int.tmod (bt x102 x5) 128)) (wrap64 (7 * x5))),x102.extract ((wrap64 (x5+1)):Int).toNat x102.size,false)) else (some (0,(⟨#[]⟩:ByteArray),true))) else (none)) else (none))) else (R02_Reader_Vary.l0 k (Go.bits .or .u64 x4 (shl .u64 (IntKind.u64.wrap (Int.tmod (bt x102 x5) 128)) (wrap64 (7 * x5)))) (wrap64 (x5+1)) x102 x123)) else (none)) else (none)) else (none)) else (some (0,(⟨#[]⟩:ByteArray),true))
end
def R02_Reader_Vary.f (k:Nat) (a0_0:ByteArray) (a0_1:Bool):Option (Int × ByteArray × Bool):=R02_Reader_Vary.l0 k 0 0 a0_0 a0_1
def R02_Reader_Vary.T7:Bool × List (List Nat × List Nat):=(true,[([],[]),([0],[0]),([],[]),([2],[2]),([],[]),([4],[4]),([3,5],[3,5]),([1,6],[1,6])])
def R02_Reader_Vary.B7:List Nat:=[0,1,0,4,0,16,60,127]
theorem R02_Reader_Vary.tab7:rtab .any (opsOf Try.f80 7)=R02_Reader_Vary.T7:=by kernel_rfl
theorem R02_Reader_Vary.bits7:waitsOk R02_Reader_Vary.T7.2 R02_Reader_Vary.B7=true:=by kernel_rfl
def R02_Reader_Vary.T9:Bool × List (List Nat × List Nat):=(true,[([],[]),([],[]),([1],[1]),([],[]),([3],[3]),([2,4],[2,4]),([5],[5]),([0,0],[0]),([6,7,0,1,2,3,4,5,6,7],[6])])
def R02_Reader_Vary.B9:List Nat:=[0,0,2,0,8,30,62,1,255]
theorem R02_Reader_Vary.tab9:rtab .any (opsOf Try.f80 9)=R02_Reader_Vary.T9:=by kernel_rfl
theorem R02_Reader_Vary.bits9:waitsOk R02_Reader_Vary.T9.2 R02_Reader_Vary.B9=true:=by kernel_rfl
set_option maxHeartbeats 8000000 in
set_option maxRecDepth 100000 in
theorem R02_Reader_Vary.calls (k:Nat) (a0_0:ByteArray) (a0_1:Bool) (r1:Int) (r2:ByteArray) (r3:Bool) (w:World) (h:R02_Reader_Vary.f k a0_0 a0_1=some (r1,r2,r3)) :
  Calls Try.prog 80 #[.agg #[.string a0_0,.bool a0_1]] w fun e w'=>e = .returned (.tuple #[.int .u64 r1,.agg #[.string r2,.bool r3]])∧Below w.heap.size w w':=by
 have hu142:=Try.underlying142
 have HB:=As_ (Below.refl w.heap.size w)
 unfold R02_Reader_Vary.f at h
 have H:=h
 clear h
 have H':=As_ H
 clear H
 go_enter Try.func80,Try.ntmps80
 go_wp2_with (first|((with_reducible refine gate_dst (N:=1) rfl ?_);refine Ka_ 1 #[.string a0_0,.bool a0_1] 142 ?_;intro gb510 hg w2 hbox hb;have BK510:=As_ (hbox);have GW510:=Kw_ HB hg;replace HB:=Ks_ HB hb;clear hb hbox hg)|((with_reducible refine gate_dst (N:=3) rfl ?_);refine Ka_ 3 #[.string (⟨#[]⟩:ByteArray),.bool false] 142 ?_;intro gb511 hg w3 hbox hb;have BK511:=As_ (hbox);have GW511:=Kw_ HB hg;have NB510_511:=Kl_ BK510 hg;have NB511_510:=Kr_ BK510 hg;replace BK510:=Kb_ BK510 hb;replace HB:=Ks_ HB hb;clear hb hbox hg))
 go_loopg [4,5] k (fun kq v4 v5 w'=>∃ (x4_1:Int) (x5_1:Int) (x130_1:ByteArray) (x138_1:Bool),v4 = .int .u64 x4_1∧v5 = .int .i64 x5_1∧Aside0 (R02_Reader_Vary.l0 kq x4_1 x5_1 a0_0 a0_1=some (r1,r2,r3))∧Aside0 (kq≤k)∧Aside0 (w'.heap[gb510]?=some (.cells #[.string a0_0,.bool a0_1] 142 (0,0)))∧Aside0 (w'.heap[gb511]?=some (.cells #[.string x130_1,.bool x138_1] 142 (0,0)))∧Aside0 (Below w.heap.size w w'))
 case atStart=>exact ⟨(0),(0),((⟨#[]⟩:ByteArray)),(false),(by first|rfl|(simp;done)|(simp [*];done)),(by first|rfl|(simp;done)|(simp [*];done)),H',⟨Nat.le_refl _⟩,⟨by exact Kq_ BK510⟩,⟨by exact Kq_ BK511⟩,⟨K2a_ HB GW510 GW511⟩⟩
 case round =>
  clear H'
  try clear p2
  obtain ⟨x4_1,x5_1,x130_1,x138_1,rfl,rfl,HA,HK1,BK510,BK511,HB⟩:=hrel
  cases gk with
  | zero=>exact absurd HA.out (by simp [R02_Reader_Vary.l0])
  | succ k1 =>
   have H:=HA.out
   clear HA
   simp only [R02_Reader_Vary.l0] at H
   have HC4:=As_ H
   clear H
   go_upto_region 3 with (fail)
   go_cut [19] (fun v19 wc=>∃ (kq:Nat) (x19_3:Bool),v19 = .bool x19_3∧Aside0 (R02_Reader_Vary.j1 kq x4_1 x5_1 x19_3 a0_0 a0_1=some (r1,r2,r3))∧Aside0 (kq≤k1)∧Aside0 (wc.heap[gb510]?=some (.cells #[.string a0_0,.bool a0_1] 142 (0,0)))∧Aside0 (wc.heap[gb511]?=some (.cells #[.string x130_1,.bool x138_1] 142 (0,0)))∧Aside0 (Below w.heap.size w wc))
   case first =>
    have H:=HC4.out
    clear HC4
    by_cases c5:x5_1<(a0_0.size:Int)
    rotate_left
    ·rw [if_neg c5] at H
     have c5b0:decide (x5_1<(a0_0.size:Int))=false:=decide_eq_false c5
     clear c5
     (first|rw [c5b0]|(simp only [i64_w,i32_w];rw [c5b0])|skip)
     have H':=As_ H
     clear H
     have hnb11:=NB510_511.out
     have hnc11:=NB511_510.out
     obtain ⟨hcz12_0,hcz12_1,hfz12_0,hfz12_1⟩:=Ke2_ BK510.out
     go_wp2
     go_meet
     case rel=>exact ⟨_,(false),(by first|rfl|(simp;done)|(simp [*];done)),H',⟨by have:=HK1.out;first|omega|exact Nat.le_refl _⟩,⟨by exact Kq_ BK510⟩,⟨by exact Kq_ BK511⟩,⟨K2a_ HB GW510 GW511⟩⟩
    rw [if_pos c5] at H
    have c5b0:decide (x5_1<(a0_0.size:Int))=true:=decide_eq_true c5
    clear c5
    (first|rw [c5b0]|(simp only [i64_w,i32_w];rw [c5b0])|skip)
    by_cases c6:x5_1<10
    ·rw [if_pos c6] at H
     have c6b0:decide (x5_1<10)=true:=decide_eq_true c6
     clear c6
     have H':=As_ H
     clear H
     have hnb7:=NB510_511.out
     have hnc7:=NB511_510.out
     obtain ⟨hcz8_0,hcz8_1,hfz8_0,hfz8_1⟩:=Ke2_ BK510.out
     go_wp2
     go_meet
     case rel=>exact ⟨_,(!a0_1),(by first|rfl|(simp;done)|(simp [*];done)),H',⟨by have:=HK1.out;first|omega|exact Nat.le_refl _⟩,⟨by exact Kq_ BK510⟩,⟨by exact Kq_ BK511⟩,⟨K2a_ HB GW510 GW511⟩⟩
    rw [if_neg c6] at H
    have c6b0:decide (x5_1<10)=false:=decide_eq_false c6
    clear c6
    have H':=As_ H
    clear H
    have hnb9:=NB510_511.out
    have hnc9:=NB511_510.out
    obtain ⟨hcz10_0,hcz10_1,hfz10_0,hfz10_1⟩:=Ke2_ BK510.out
    go_wp2
    go_meet
    case rel=>exact ⟨_,(false),(by first|rfl|(simp;done)|(simp [*];done)),H',⟨by have:=HK1.out;first|omega|exact Nat.le_refl _⟩,⟨by exact Kq_ BK510⟩,⟨by exact Kq_ BK511⟩,⟨K2a_ HB GW510 GW511⟩⟩
   case rest =>
    clear HC4
    try clear c1
    try clear p2
    try clear c5
    try clear c5b0
    try clear c6
    try clear c6b0
    try clear c7
    try clear c8
    try clear c9
    try clear c11
    try clear hcz10_0
    try clear hcz10_1
    try clear hcz12_0
    try clear hcz12_1
    try clear hcz8_0
    try clear hcz8_1
    try clear hfz10_0
    try clear hfz10_1
    try clear hfz12_0
    try clear hfz12_1
    try clear hfz8_0
    try clear hfz8_1
    try clear p2
    obtain ⟨kq,x19_3,rfl,HA,HJ3,BK510,BK511,HB⟩:=hcut
    cases kq with
    | zero=>exact absurd HA.out (by simp [R02_Reader_Vary.j1])
    | succ kj3 =>
     have H:=HA.out
     clear HA
     simp only [R02_Reader_Vary.j1] at H
     by_cases c13:x19_3=true
     rotate_left
     ·replace c13:=Bool.eq_false_iff.mpr c13
      subst c13
      rw [if_neg Bool.false_ne_true] at H
      simp only [Option.some.injEq,Prod.mk.injEq] at H
      obtain ⟨rfl,rfl,rfl⟩:=H
      have hnb43:=NB511_510.out
      have hnc43:=NB510_511.out
      obtain ⟨_,_,_,_⟩:=Ke2_ BK511.out
      go_wp2
      refine bodyPost_ret (results_tc rfl _ _ gb511 142 #[.string (⟨#[]⟩:ByteArray),.bool true] (0,0) _ rfl (by refine Kv_ ?_;exact Kput2_ (Kq_ BK511)) Try.underlying142 rfl (by kernel_rfl)) rfl ?_
      exact ⟨Kh_,K2a_ HB GW510 GW511⟩
     subst c13
     rw [if_pos rfl] at H
     by_cases c14:0≤x5_1
     rotate_left
     ·rw [if_neg c14] at H
      exact absurd H (by simp)
     rw [if_pos c14] at H
     have c14b0:decide (0≤x5_1)=true:=decide_eq_true c14
     clear c14
     by_cases c15:x5_1<(a0_0.size:Int)
     rotate_left
     ·rw [if_neg c15] at H
      exact absurd H (by simp)
     rw [if_pos c15] at H
     have c15b0:decide (x5_1<(a0_0.size:Int))=true:=decide_eq_true c15
     clear c15
     obtain ⟨ji17,hji17⟩:∃ j_:Int,(wrap64 (7 * x5_1))=j_:=⟨_,rfl⟩
     replace H:(if 0≤(ji17) then (if (bt a0_0 x5_1)<128 then ((R02_Vary.f kj3 (Go.bits .or .u64 x4_1 (shl .u64 (IntKind.u64.wrap (Int.tmod (bt a0_0 x5_1) 128)) (ji17)))).bind fun t512=>(if 0≤(wrap64 (x5_1+1)) then (if (wrap64 (x5_1+1))≤(a0_0.size:Int) then (if t512.toList=(a0_0.extract 0 ((wrap64 (x5_1+1)):Int).toNat).toList then (some (Go.bits .or .u64 x4_1 (shl .u64 (IntKind.u64.wrap (Int.tmod (bt a0_0 x5_1) 128)) (ji17)),a0_0.extract ((wrap64 (x5_1+1)):Int).toNat a0_0.size,false)) else (some (0,(⟨#[]⟩:ByteArray),true))) else (none)) else (none))) else (R02_Reader_Vary.l0 kj3 (Go.bits .or .u64 x4_1 (shl .u64 (IntKind.u64.wrap (Int.tmod (bt a0_0 x5_1) 128)) (ji17))) (wrap64 (x5_1+1)) a0_0 a0_1)) else (none))=some (r1,r2,r3):=by first|(rw [hji17] at H;exact H)|(simp only [hji17] at H ⊢;exact H)
     have hji17w:(IntKind.i64.wrap (7 * x5_1))=ji17:=(i64_w _).trans hji17
     by_cases c18:0≤(ji17)
     rotate_left
     ·rw [if_neg c18] at H
      exact absurd H (by simp)
     rw [if_pos c18] at H
     have c18b0:=eq_true c18
     have c18b1:decide (0≤(ji17))=true:=decide_eq_true c18
     clear c18
     obtain ⟨ji19,hji19⟩:∃ j_:Int,(shl .u64 (IntKind.u64.wrap (Int.tmod (bt a0_0 x5_1) 128)) (ji17))=j_:=⟨_,rfl⟩
     replace H:(if (bt a0_0 x5_1)<128 then ((R02_Vary.f kj3 (Go.bits .or .u64 x4_1 (ji19))).bind fun t512=>(if 0≤(wrap64 (x5_1+1)) then (if (wrap64 (x5_1+1))≤(a0_0.size:Int) then (if t512.toList=(a0_0.extract 0 ((wrap64 (x5_1+1)):Int).toNat).toList then (some (Go.bits .or .u64 x4_1 (ji19),a0_0.extract ((wrap64 (x5_1+1)):Int).toNat a0_0.size,false)) else (some (0,(⟨#[]⟩:ByteArray),true))) else (none)) else (none))) else (R02_Reader_Vary.l0 kj3 (Go.bits .or .u64 x4_1 (ji19)) (wrap64 (x5_1+1)) a0_0 a0_1))=some (r1,r2,r3):=by first|(rw [hji19] at H;exact H)|(simp only [hji19] at H ⊢;exact H)
     have hji19_:(IntKind.u64.wrap ((IntKind.u64.wrap (Int.tmod (bt a0_0 x5_1) 128)) * 2 ^ min (ji17).toNat 64))=ji19:=hji19
     have hji19z:(ji17)≤64→(IntKind.u64.wrap ((IntKind.u64.wrap (Int.tmod (bt a0_0 x5_1) 128)) * 2 ^ (ji17).toNat))=ji19:=shl_small hji19
     by_cases c21:(bt a0_0 x5_1)<128
     rotate_left
     ·rw [if_neg c21] at H
      have c21b0:decide ((bt a0_0 x5_1)<128)=false:=decide_eq_false c21
      clear c21
      have H':=As_ H
      clear H
      have hnb41:=NB510_511.out
      have hnc41:=NB511_510.out
      obtain ⟨_,_,_,_⟩:=Ke2_ BK510.out
      have p16:0≤(x5_1:Int):=of_decide_eq_true (by first|(with_reducible assumption)|assumption)
      have q16:x5_1<(a0_0.size:Int):=of_decide_eq_true (by first|(with_reducible assumption)|assumption)
      have hx16:=bt_at a0_0 x5_1
      replace p16:=eq_true p16
      replace q16:=eq_true q16
      have p20:0≤(x5_1:Int):=of_decide_eq_true (by first|(with_reducible assumption)|assumption)
      have q20:x5_1<(a0_0.size:Int):=of_decide_eq_true (by first|(with_reducible assumption)|assumption)
      have hx20:=bt_at a0_0 x5_1
      replace p20:=eq_true p20
      replace q20:=eq_true q20
      go_wp2
      go_roundg kj3
      case measure=>have:=HK1.out;have:=HJ3.out;omega
      case rel=>exact ⟨(Go.bits .or .u64 x4_1 (ji19)),(wrap64 (x5_1+1)),(x130_1),(x138_1),(by first|rfl|(simp;done)|(simp only [← hji19] <;> (first|rfl|simp))|(simp [*];done)),(by first|rfl|(simp;done)|(simp [*];done)),H',⟨by have:=HK1.out;have:=HJ3.out;omega⟩,⟨by exact Kq_ BK510⟩,⟨by exact Kq_ BK511⟩,⟨K2a_ HB GW510 GW511⟩⟩
     rw [if_pos c21] at H
     have c21b0:decide ((bt a0_0 x5_1)<128)=true:=decide_eq_true c21
     clear c21
     obtain ⟨t512,A22,H⟩:=Kbind_ H
     (try dsimp only at H)
     obtain ⟨ji23,hji23⟩:∃ j_:Int,(wrap64 (x5_1+1))=j_:=⟨_,rfl⟩
     replace H:(if 0≤(ji23) then (if (ji23)≤(a0_0.size:Int) then (if t512.toList=(a0_0.extract 0 ((ji23):Int).toNat).toList then (some (Go.bits .or .u64 x4_1 (ji19),a0_0.extract ((ji23):Int).toNat a0_0.size,false)) else (some (0,(⟨#[]⟩:ByteArray),true))) else (none)) else (none))=some (r1,r2,r3):=by first|(rw [hji23] at H;exact H)|(simp only [hji23] at H ⊢;exact H)
     (try rw [hji23] at A22)
     have hji23w:(IntKind.i64.wrap (x5_1+1))=ji23:=(i64_w _).trans hji23
     by_cases c24:0≤(ji23)
     rotate_left
     ·rw [if_neg c24] at H
      exact absurd H (by simp)
     rw [if_pos c24] at H
     have c24b0:=eq_true c24
     have c24b1:decide (0≤(ji23))=true:=decide_eq_true c24
     clear c24
     by_cases c25:(ji23)≤(a0_0.size:Int)
     rotate_left
     ·rw [if_neg c25] at H
      exact absurd H (by simp)
     rw [if_pos c25] at H
     have c25b0:=eq_true c25
     have c25b1:decide ((ji23)≤(a0_0.size:Int))=true:=decide_eq_true c25
     clear c25
     by_cases c26:t512.toList=(a0_0.extract 0 ((ji23):Int).toNat).toList
     rotate_left
     ·rw [if_neg c26] at H
      have c26b0:=beq_eq_false_iff_ne.mpr c26
      have c26b1:(t512.toList != (a0_0.extract 0 ((ji23):Int).toNat).toList)=true:=bne_iff_ne.mpr c26
      simp only [Option.some.injEq,Prod.mk.injEq] at H
      obtain ⟨rfl,rfl,rfl⟩:=H
      have hnb36:=NB510_511.out
      have hnc36:=NB511_510.out
      obtain ⟨_,_,_,_⟩:=Ke2_ BK510.out
      have p16:0≤(x5_1:Int):=of_decide_eq_true (by first|(with_reducible assumption)|assumption)
      have q16:x5_1<(a0_0.size:Int):=of_decide_eq_true (by first|(with_reducible assumption)|assumption)
      have hx16:=bt_at a0_0 x5_1
      replace p16:=eq_true p16
      replace q16:=eq_true q16
      have p20:0≤(x5_1:Int):=of_decide_eq_true (by first|(with_reducible assumption)|assumption)
      have q20:x5_1<(a0_0.size:Int):=of_decide_eq_true (by first|(with_reducible assumption)|assumption)
      have hx20:=bt_at a0_0 x5_1
      replace p20:=eq_true p20
      replace q20:=eq_true q20
      try go_wp2
      replace BK510:=Kd_ BK510
      replace BK511:=Kd_ BK511
      replace HB:=As_ (below_drew1 HB.out)
      refine start_ (n:=8) (S:=fun w'=>w'.cell? ⟨gb510,0,none⟩=some (.string a0_0)∧w'.cell? ⟨gb510,1,none⟩=some (.bool a0_1)) (ds:=[]) (mB_ 8 0) (by kernel_rfl) rfl rfl (Kc2_ BK510.out) (fun hHeld=>?_);refine with_tabW R02_Reader_Vary.tab7 R02_Reader_Vary.bits7 (fun HT_ HW_=>?_)
      generalize wc.drew=w38 at BK510 BK511 HB hHeld ⊢
      refine Kp_ 0 38 (mB_ 8 1) (any_of HT_.out (by kernel_rfl)) ?_
      refine Kp_ 2 40 (mB_ 8 5) (any_of HT_.out (by kernel_rfl)) ?_
      refine Kp_ 4 42 (mB_ 8 21) (any_of HT_.out (by kernel_rfl)) ?_
      refine Kp_ 5 43 (mB_ 8 53) (any_of HT_.out (by kernel_rfl)) ?_
      refine Ko_ 3 41 (mB_ 8 61) (take_ofW HT_.out HW_.out (by kernel_rfl)) hHeld ?_
      refine Kp_ 6 44 (mB_ 8 125) (any_of HT_.out (by kernel_rfl)) ?_
      refine one_ (i:=1) (N:=some 39) (mB_ 8 127) rfl rfl (one_of HT_.out (by kernel_rfl)) (by decide) (fun K hK=>?_)
      refine goes_ Try.func65 (by kernel_rfl) rfl #[.int .u64 (Go.bits .or .u64 x4_1 (ji19))] (by rfl) rfl rfl (by (try simp only [List.map_toArray,List.map_cons,List.map_nil]);first|done|(simp only [hji19];rfl)|rfl|(simp only [List.length_drop,List.length_take];rfl)) ?_
      with_reducible refine (R02_Vary.calls kj3 (Go.bits .or .u64 x4_1 (ji19)) t512 _ A22.out).mono ?_
      rintro e w39 ⟨rfl,hb⟩
      refine ⟨_,rfl,?_⟩
      replace BK510:=Kb_ BK510 hb
      replace BK511:=Kb_ BK511 hb
      replace HB:=Ks_ HB hb
      (try clear hb)
      (try clear hb2)
      (try clear hk)
      (try clear hi)
      refine hK.out _ _ (Kc2_ BK510.out) (fun hHeld=>?_)
      clear hK K
      refine Kn_ 39 ?_
      refine Kp_ 7 45 (mB_ 8 255) (any_of HT_.out (by kernel_rfl)) ?_
      refine done_ (done_of HT_.out (by kernel_rfl)) ?_
      obtain ⟨_,_,_,_⟩:=Ke2_ BK511.out
      try go_wp2
      refine bodyPost_ret (results_tc rfl _ _ gb511 142 #[.string (⟨#[]⟩:ByteArray),.bool true] (0,0) _ rfl (by refine Kv_ ?_;exact Kput2_ (Kq_ BK511)) Try.underlying142 rfl (by kernel_rfl)) rfl ?_
      exact ⟨by first|rfl|(simp [errW_none,errW_some] <;> rfl)|(simp only [← hji17,← hji19,← hji23];first|rfl|(simp [errW_none,errW_some] <;> rfl))|(simp [*,errW_none,errW_some] <;> rfl),K2a_ HB GW510 GW511⟩
     rw [if_pos c26] at H
     have c26b0:(t512.toList == (a0_0.extract 0 ((ji23):Int).toNat).toList)=true:=beq_iff_eq.mpr c26
     have c26b1:(t512.toList != (a0_0.extract 0 ((ji23):Int).toNat).toList)=false:=bne_eq_false_iff_eq.mpr c26
     clear c26
     have c27b0:=eq_true (of_decide_eq_true (by first|(with_reducible assumption)|assumption):0≤(ji23))
     have c28b0:=eq_true (of_decide_eq_true (by first|(with_reducible assumption)|assumption):(ji23)≤(a0_0.size:Int))
     simp only [Option.some.injEq,Prod.mk.injEq] at H
     obtain ⟨rfl,rfl,rfl⟩:=H
     have hnb29:=NB510_511.out
     have hnc29:=NB511_510.out
     obtain ⟨_,_,_,_⟩:=Ke2_ BK510.out
     have p16:0≤(x5_1:Int):=of_decide_eq_true (by first|(with_reducible assumption)|assumption)
     have q16:x5_1<(a0_0.size:Int):=of_decide_eq_true (by first|(with_reducible assumption)|assumption)
     have hx16:=bt_at a0_0 x5_1
     replace p16:=eq_true p16
     replace q16:=eq_true q16
     have p20:0≤(x5_1:Int):=of_decide_eq_true (by first|(with_reducible assumption)|assumption)
     have q20:x5_1<(a0_0.size:Int):=of_decide_eq_true (by first|(with_reducible assumption)|assumption)
     have hx20:=bt_at a0_0 x5_1
     replace p20:=eq_true p20
     replace q20:=eq_true q20
     try go_wp2
     replace BK510:=Kd_ BK510
     replace BK511:=Kd_ BK511
     replace HB:=As_ (below_drew1 HB.out)
     refine start_ (n:=8) (S:=fun w'=>w'.cell? ⟨gb510,0,none⟩=some (.string a0_0)∧w'.cell? ⟨gb510,1,none⟩=some (.bool a0_1)) (ds:=[]) (mB_ 8 0) (by kernel_rfl) rfl rfl (Kc2_ BK510.out) (fun hHeld=>?_);refine with_tabW R02_Reader_Vary.tab7 R02_Reader_Vary.bits7 (fun HT_ HW_=>?_)
     generalize wc.drew=w31 at BK510 BK511 HB hHeld ⊢
     refine Kp_ 0 38 (mB_ 8 1) (any_of HT_.out (by kernel_rfl)) ?_
     refine Kp_ 2 40 (mB_ 8 5) (any_of HT_.out (by kernel_rfl)) ?_
     refine Kp_ 4 42 (mB_ 8 21) (any_of HT_.out (by kernel_rfl)) ?_
     refine Kp_ 5 43 (mB_ 8 53) (any_of HT_.out (by kernel_rfl)) ?_
     refine Ko_ 3 41 (mB_ 8 61) (take_ofW HT_.out HW_.out (by kernel_rfl)) hHeld ?_
     refine Kp_ 6 44 (mB_ 8 125) (any_of HT_.out (by kernel_rfl)) ?_
     refine one_ (i:=1) (N:=some 39) (mB_ 8 127) rfl rfl (one_of HT_.out (by kernel_rfl)) (by decide) (fun K hK=>?_)
     refine goes_ Try.func65 (by kernel_rfl) rfl #[.int .u64 (Go.bits .or .u64 x4_1 (ji19))] (by rfl) rfl rfl (by (try simp only [List.map_toArray,List.map_cons,List.map_nil]);first|done|(simp only [hji19];rfl)|rfl|(simp only [List.length_drop,List.length_take];rfl)) ?_
     with_reducible refine (R02_Vary.calls kj3 (Go.bits .or .u64 x4_1 (ji19)) t512 _ A22.out).mono ?_
     rintro e w32 ⟨rfl,hb⟩
     refine ⟨_,rfl,?_⟩
     replace BK510:=Kb_ BK510 hb
     replace BK511:=Kb_ BK511 hb
     replace HB:=Ks_ HB hb
     (try clear hb)
     (try clear hb2)
     (try clear hk)
     (try clear hi)
     refine hK.out _ _ (Kc2_ BK510.out) (fun hHeld=>?_)
     clear hK K
     refine Kn_ 39 ?_
     refine Kp_ 7 45 (mB_ 8 255) (any_of HT_.out (by kernel_rfl)) ?_
     refine done_ (done_of HT_.out (by kernel_rfl)) ?_
     try go_wp2
     replace BK510:=Kd_ BK510
     replace BK511:=Kd_ BK511
     replace HB:=As_ (below_drew1 HB.out)
     refine start_ (n:=9) (S:=fun w'=>w'.cell? ⟨gb510,0,none⟩=some (.string a0_0)∧w'.cell? ⟨gb510,1,none⟩=some (.bool a0_1)) (ds:=[]) (mB_ 9 0) (by kernel_rfl) rfl rfl (Kc2_ BK510.out) (fun hHeld=>?_);refine with_tabW R02_Reader_Vary.tab9 R02_Reader_Vary.bits9 (fun HT_ HW_=>?_)
     generalize w32.drew=w33 at BK510 BK511 HB hHeld ⊢
     refine Kp_ 0 47 (mB_ 9 1) (any_of HT_.out (by kernel_rfl)) ?_
     refine Kp_ 1 48 (mB_ 9 3) (any_of HT_.out (by kernel_rfl)) ?_
     refine Kp_ 3 50 (mB_ 9 11) (any_of HT_.out (by kernel_rfl)) ?_
     refine Kp_ 4 51 (mB_ 9 27) (any_of HT_.out (by kernel_rfl)) ?_
     refine Kp_ 7 2 (mB_ 9 155) (any_of HT_.out (by kernel_rfl)) ?_
     refine Ko_ 2 49 (mB_ 9 159) (take_ofW HT_.out HW_.out (by kernel_rfl)) hHeld ?_
     refine Kp_ 5 52 (mB_ 9 191) (any_of HT_.out (by kernel_rfl)) ?_
     refine Kp_ 6 53 (mB_ 9 255) (any_of HT_.out (by kernel_rfl)) ?_
     refine one_ (i:=8) (N:=none) (mB_ 9 511) rfl rfl (one_of HT_.out (by kernel_rfl)) (by decide) (fun K hK=>?_)
     have hs34:w33.cell? ⟨gb511,0,none⟩=some (.string x130_1):=(blk_cell BK511.out 0).trans rfl
     have hfs34:=blk_frozen BK511.out 0
     have:=NB510_511.out
     have:=NB511_510.out
     have hs35:w33.cell? ⟨gb511,1,none⟩=some (.bool x138_1):=(blk_cell BK511.out 1).trans rfl
     have hfs35:=blk_frozen BK511.out 1
     have:=NB510_511.out
     have:=NB511_510.out
     refine skip_ (w1:=?_) (by rfl) rfl ?_ ?_
     rotate_left
     ·go_simp
      rfl
     refine hK.out _ _ ⟨(Kj_ NB510_511 ((Kj_ NB510_511 (hHeld.1)))),(Kj_ NB510_511 ((Kj_ NB510_511 (hHeld.2))))⟩ (fun hHeld=>?_)
     clear hK K
     refine done_ (done_of HT_.out (by kernel_rfl)) ?_
     try go_wp2
     refine bodyPost_ret (results_tc rfl _ _ gb511 142 #[.string (a0_0.extract ((ji23):Int).toNat a0_0.size),.bool false] (0,0) _ rfl (by refine Kv_ ?_;exact Kput2_ (Kq_ BK511)) Try.underlying142 rfl (by kernel_rfl)) rfl ?_
     exact ⟨by first|rfl|(simp [errW_none,errW_some] <;> rfl)|(simp only [← hji17,← hji19,← hji23];first|rfl|(simp [errW_none,errW_some] <;> rfl))|(simp [*,errW_none,errW_some] <;> rfl),K2a_ HB GW510 GW511⟩
def R02_Reader_Text.f (k:Nat) (a0_0:ByteArray) (a0_1:Bool) (a1:Int):Option (ByteArray × ByteArray × Bool):=(R02_Reader_Vary.f k a0_0 a0_1).bind fun bt515=>(if bt515.2.2=true then (some ((⟨#[]⟩:ByteArray),(⟨#[]⟩:ByteArray),true)) else (if a1<0 then (some ((⟨#[]⟩:ByteArray),(⟨#[]⟩:ByteArray),true)) else (if bt515.1 > (IntKind.u64.wrap (a1)) then (some ((⟨#[]⟩:ByteArray),(⟨#[]⟩:ByteArray),true)) else (if bt515.2.1.size≤9223372036854775807 then (if bt515.1 > (bt515.2.1.size:Int) then (some ((⟨#[]⟩:ByteArray),(⟨#[]⟩:ByteArray),true)) else (if 0≤bt515.1 then (if bt515.1≤(bt515.2.1.size:Int) then (some (bt515.2.1.extract 0 (bt515.1:Int).toNat,bt515.2.1.extract (bt515.1:Int).toNat bt515.2.1.size,false)) else (none)) else (none))) else (none)))))
def R02_Reader_Text.T4:Bool × List (List Nat × List Nat):=(true,[([],[]),([0],[0]),([],[]),([1,2],[1,2]),([],[]),([4],[4]),([],[]),([5,6],[5,6]),([7],[7]),([3,0,1,2,3],[3]),([8,9,0,1,2,3,4,5,6,7,8,9],[8])])
def R02_Reader_Text.B4:List Nat:=[0,1,0,7,0,16,0,112,240,15,1023]
theorem R02_Reader_Text.tab4:rtab .any (opsOf Try.f81 4)=R02_Reader_Text.T4:=by kernel_rfl
theorem R02_Reader_Text.bits4:waitsOk R02_Reader_Text.T4.2 R02_Reader_Text.B4=true:=by kernel_rfl
set_option maxHeartbeats 8000000 in
set_option maxRecDepth 100000 in
theorem R02_Reader_Text.calls (k:Nat) (a0_0:ByteArray) (a0_1:Bool) (a1:Int) (r1:ByteArray) (r2:ByteArray) (r3:Bool) (w:World) (h:R02_Reader_Text.f k a0_0 a0_1 a1=some (r1,r2,r3)) :
  Calls Try.prog 81 #[.agg #[.string a0_0,.bool a0_1],.int .i64 a1] w fun e w'=>e = .returned (.tuple #[.string r1,.agg #[.string r2,.bool r3]])∧Below w.heap.size w w':=by
 have hu142:=Try.underlying142
 have HB:=As_ (Below.refl w.heap.size w)
 unfold R02_Reader_Text.f at h
 have H:=h
 clear h
 obtain ⟨⟨t515,t516,t517⟩,A3,H⟩:=Kbind_ H
 (try dsimp only at H)
 by_cases c4:t517=true
 ·subst c4
  rw [if_pos rfl] at H
  simp only [Option.some.injEq,Prod.mk.injEq] at H
  obtain ⟨rfl,rfl,rfl⟩:=H
  go_enter Try.func81,Try.ntmps81
  go_wp2_with (first|((with_reducible refine gate_dst (N:=2) rfl ?_);refine Ka_ 2 #[.string a0_0,.bool a0_1] 142 ?_;intro gb513 hg w5 hbox hb;have BK513:=As_ (hbox);have GW513:=Kw_ HB hg;replace HB:=Ks_ HB hb;clear hb hbox hg)|((with_reducible refine gate_dst (N:=5) rfl ?_);refine Ka_ 5 #[.string (⟨#[]⟩:ByteArray),.bool false] 142 ?_;intro gb514 hg w6 hbox hb;have BK514:=As_ (hbox);have GW514:=Kw_ HB hg;have NB513_514:=Kl_ BK513 hg;have NB514_513:=Kr_ BK513 hg;replace BK513:=Kb_ BK513 hb;replace HB:=Ks_ HB hb;clear hb hbox hg;have hnb7:=NB513_514.out;have hnc7:=NB514_513.out;obtain ⟨_,_,_,_⟩:=Ke2_ BK513.out)|((with_reducible refine gate_callee (f:=80) rfl ?_);refine Kg_ (some 10) rfl rfl Try.func80 (by kernel_rfl) rfl #[.agg #[.string a0_0,.bool a0_1]] rfl ?_;(with_reducible refine (R02_Reader_Vary.calls k a0_0 a0_1 t515 t516 true _ A3.out).mono ?_);rintro e w9 ⟨rfl,hb⟩;refine ⟨_,rfl,?_⟩;replace BK513:=Kb_ BK513 hb;replace BK514:=Kb_ BK514 hb;replace HB:=Ks_ HB hb;(try clear hb))|((with_reducible refine gate_dst (N:=7) rfl ?_);refine Ka_ 7 #[.string (⟨#[]⟩:ByteArray),.bool false] 142 ?_;intro gb518 hg w10 hbox hb;have BK518:=As_ (hbox);have GW518:=Kw_ HB hg;have NB513_518:=Kl_ BK513 hg;have NB518_513:=Kr_ BK513 hg;have NB514_518:=Kl_ BK514 hg;have NB518_514:=Kr_ BK514 hg;replace BK514:=Kb_ BK514 hb;replace HB:=Ks_ HB hb;clear hb hbox hg;have hnb11:=NB518_513.out;have hnc11:=NB513_518.out;have hnb12:=NB518_514.out;have hnc12:=NB514_518.out;obtain ⟨_,_,_,_⟩:=Ke2_ BK518.out;obtain ⟨_,_,_,_⟩:=Ke2_ BK514.out))
  refine bodyPost_ret (results_tc rfl _ _ gb514 142 #[.string (⟨#[]⟩:ByteArray),.bool true] (0,0) _ rfl (by refine Kv_ ?_;refine blk_put (cs:=#[.string (⟨#[]⟩:ByteArray),.bool false]) ?_ 1 _ rfl;refine Kv_ ?_;refine blk_put (cs:=#[.string (⟨#[]⟩:ByteArray),.bool false]) ?_ 0 _ rfl;exact K1b_ BK514 NB514_518) Try.underlying142 rfl (by kernel_rfl)) rfl ?_
  exact ⟨Kh_,K3a_ HB GW513 GW514 GW518⟩
 replace c4:=Bool.eq_false_iff.mpr c4
 subst c4
 rw [if_neg Bool.false_ne_true] at H
 by_cases c15:a1<0
 ·rw [if_pos c15] at H
  have c15b0:decide (a1<0)=true:=decide_eq_true c15
  clear c15
  simp only [Option.some.injEq,Prod.mk.injEq] at H
  obtain ⟨rfl,rfl,rfl⟩:=H
  go_enter Try.func81,Try.ntmps81
  go_wp2_with (first|((with_reducible refine gate_dst (N:=2) rfl ?_);refine Ka_ 2 #[.string a0_0,.bool a0_1] 142 ?_;intro gb513 hg w16 hbox hb;have BK513:=As_ (hbox);have GW513:=Kw_ HB hg;replace HB:=Ks_ HB hb;clear hb hbox hg)|((with_reducible refine gate_dst (N:=5) rfl ?_);refine Ka_ 5 #[.string (⟨#[]⟩:ByteArray),.bool false] 142 ?_;intro gb514 hg w17 hbox hb;have BK514:=As_ (hbox);have GW514:=Kw_ HB hg;have NB513_514:=Kl_ BK513 hg;have NB514_513:=Kr_ BK513 hg;replace BK513:=Kb_ BK513 hb;replace HB:=Ks_ HB hb;clear hb hbox hg;have hnb18:=NB513_514.out;have hnc18:=NB514_513.out;obtain ⟨_,_,_,_⟩:=Ke2_ BK513.out)|((with_reducible refine gate_callee (f:=80) rfl ?_);refine Kg_ (some 10) rfl rfl Try.func80 (by kernel_rfl) rfl #[.agg #[.string a0_0,.bool a0_1]] rfl ?_;(with_reducible refine (R02_Reader_Vary.calls k a0_0 a0_1 t515 t516 false _ A3.out).mono ?_);rintro e w20 ⟨rfl,hb⟩;refine ⟨_,rfl,?_⟩;replace BK513:=Kb_ BK513 hb;replace BK514:=Kb_ BK514 hb;replace HB:=Ks_ HB hb;(try clear hb))|((with_reducible refine gate_dst (N:=7) rfl ?_);refine Ka_ 7 #[.string (⟨#[]⟩:ByteArray),.bool false] 142 ?_;intro gb518 hg w21 hbox hb;have BK518:=As_ (hbox);have GW518:=Kw_ HB hg;have NB513_518:=Kl_ BK513 hg;have NB518_513:=Kr_ BK513 hg;have NB514_518:=Kl_ BK514 hg;have NB518_514:=Kr_ BK514 hg;replace BK514:=Kb_ BK514 hb;replace HB:=Ks_ HB hb;clear hb hbox hg;have hnb22:=NB518_513.out;have hnc22:=NB513_518.out;have hnb23:=NB518_514.out;have hnc23:=NB514_518.out;obtain ⟨_,_,_,_⟩:=Ke2_ BK518.out;obtain ⟨_,_,_,_⟩:=Ke2_ BK514.out))
  refine bodyPost_ret (results_tc rfl _ _ gb514 142 #[.string (⟨#[]⟩:ByteArray),.bool true] (0,0) _ rfl (by refine Kv_ ?_;refine blk_put (cs:=#[.string (⟨#[]⟩:ByteArray),.bool false]) ?_ 1 _ rfl;refine Kv_ ?_;refine blk_put (cs:=#[.string (⟨#[]⟩:ByteArray),.bool false]) ?_ 0 _ rfl;exact K1b_ BK514 NB514_518) Try.underlying142 rfl (by kernel_rfl)) rfl ?_
  exact ⟨Kh_,K3a_ HB GW513 GW514 GW518⟩
 rw [if_neg c15] at H
 have c15b0:decide (a1<0)=false:=decide_eq_false c15
 clear c15
 by_cases c26:t515 > (IntKind.u64.wrap (a1))
 ·rw [if_pos c26] at H
  have c26b0:decide ((IntKind.u64.wrap (a1))<t515)=true:=decide_eq_true c26
  clear c26
  simp only [Option.some.injEq,Prod.mk.injEq] at H
  obtain ⟨rfl,rfl,rfl⟩:=H
  go_enter Try.func81,Try.ntmps81
  go_wp2_with (first|((with_reducible refine gate_dst (N:=2) rfl ?_);refine Ka_ 2 #[.string a0_0,.bool a0_1] 142 ?_;intro gb513 hg w27 hbox hb;have BK513:=As_ (hbox);have GW513:=Kw_ HB hg;replace HB:=Ks_ HB hb;clear hb hbox hg)|((with_reducible refine gate_dst (N:=5) rfl ?_);refine Ka_ 5 #[.string (⟨#[]⟩:ByteArray),.bool false] 142 ?_;intro gb514 hg w28 hbox hb;have BK514:=As_ (hbox);have GW514:=Kw_ HB hg;have NB513_514:=Kl_ BK513 hg;have NB514_513:=Kr_ BK513 hg;replace BK513:=Kb_ BK513 hb;replace HB:=Ks_ HB hb;clear hb hbox hg;have hnb29:=NB513_514.out;have hnc29:=NB514_513.out;obtain ⟨_,_,_,_⟩:=Ke2_ BK513.out)|((with_reducible refine gate_callee (f:=80) rfl ?_);refine Kg_ (some 10) rfl rfl Try.func80 (by kernel_rfl) rfl #[.agg #[.string a0_0,.bool a0_1]] rfl ?_;(with_reducible refine (R02_Reader_Vary.calls k a0_0 a0_1 t515 t516 false _ A3.out).mono ?_);rintro e w31 ⟨rfl,hb⟩;refine ⟨_,rfl,?_⟩;replace BK513:=Kb_ BK513 hb;replace BK514:=Kb_ BK514 hb;replace HB:=Ks_ HB hb;(try clear hb))|((with_reducible refine gate_dst (N:=7) rfl ?_);refine Ka_ 7 #[.string (⟨#[]⟩:ByteArray),.bool false] 142 ?_;intro gb518 hg w32 hbox hb;have BK518:=As_ (hbox);have GW518:=Kw_ HB hg;have NB513_518:=Kl_ BK513 hg;have NB518_513:=Kr_ BK513 hg;have NB514_518:=Kl_ BK514 hg;have NB518_514:=Kr_ BK514 hg;replace BK514:=Kb_ BK514 hb;replace HB:=Ks_ HB hb;clear hb hbox hg;have hnb33:=NB518_513.out;have hnc33:=NB513_518.out;have hnb34:=NB518_514.out;have hnc34:=NB514_518.out;obtain ⟨_,_,_,_⟩:=Ke2_ BK518.out;obtain ⟨_,_,_,_⟩:=Ke2_ BK514.out))
  refine bodyPost_ret (results_tc rfl _ _ gb514 142 #[.string (⟨#[]⟩:ByteArray),.bool true] (0,0) _ rfl (by refine Kv_ ?_;refine blk_put (cs:=#[.string (⟨#[]⟩:ByteArray),.bool false]) ?_ 1 _ rfl;refine Kv_ ?_;refine blk_put (cs:=#[.string (⟨#[]⟩:ByteArray),.bool false]) ?_ 0 _ rfl;exact K1b_ BK514 NB514_518) Try.underlying142 rfl (by kernel_rfl)) rfl ?_
  exact ⟨Kh_,K3a_ HB GW513 GW514 GW518⟩
 rw [if_neg c26] at H
 have c26b0:decide ((IntKind.u64.wrap (a1))<t515)=false:=decide_eq_false c26
 clear c26
 by_cases c37:t516.size≤9223372036854775807
 rotate_left
 ·rw [if_neg c37] at H
  exact absurd H (by simp)
 rw [if_pos c37] at H
 have c37b0:=eq_true c37
 have c37b1:decide (t516.size≤9223372036854775807)=true:=decide_eq_true c37
 try have c37b2:(9223372036854775807<t516.size)=False:=eq_false (Nat.not_lt.2 c37)
 by_cases c38:t515 > (t516.size:Int)
 ·rw [if_pos c38] at H
  have c38b0:decide ((t516.size:Int)<t515)=true:=decide_eq_true c38
  clear c38
  simp only [Option.some.injEq,Prod.mk.injEq] at H
  obtain ⟨rfl,rfl,rfl⟩:=H
  go_enter Try.func81,Try.ntmps81
  go_wp2_with (first|((with_reducible refine gate_dst (N:=2) rfl ?_);refine Ka_ 2 #[.string a0_0,.bool a0_1] 142 ?_;intro gb513 hg w39 hbox hb;have BK513:=As_ (hbox);have GW513:=Kw_ HB hg;replace HB:=Ks_ HB hb;clear hb hbox hg)|((with_reducible refine gate_dst (N:=5) rfl ?_);refine Ka_ 5 #[.string (⟨#[]⟩:ByteArray),.bool false] 142 ?_;intro gb514 hg w40 hbox hb;have BK514:=As_ (hbox);have GW514:=Kw_ HB hg;have NB513_514:=Kl_ BK513 hg;have NB514_513:=Kr_ BK513 hg;replace BK513:=Kb_ BK513 hb;replace HB:=Ks_ HB hb;clear hb hbox hg;have hnb41:=NB513_514.out;have hnc41:=NB514_513.out;obtain ⟨_,_,_,_⟩:=Ke2_ BK513.out)|((with_reducible refine gate_callee (f:=80) rfl ?_);refine Kg_ (some 10) rfl rfl Try.func80 (by kernel_rfl) rfl #[.agg #[.string a0_0,.bool a0_1]] rfl ?_;(with_reducible refine (R02_Reader_Vary.calls k a0_0 a0_1 t515 t516 false _ A3.out).mono ?_);rintro e w43 ⟨rfl,hb⟩;refine ⟨_,rfl,?_⟩;replace BK513:=Kb_ BK513 hb;replace BK514:=Kb_ BK514 hb;replace HB:=Ks_ HB hb;(try clear hb))|((with_reducible refine gate_dst (N:=7) rfl ?_);refine Ka_ 7 #[.string (⟨#[]⟩:ByteArray),.bool false] 142 ?_;intro gb518 hg w44 hbox hb;have BK518:=As_ (hbox);have GW518:=Kw_ HB hg;have NB513_518:=Kl_ BK513 hg;have NB518_513:=Kr_ BK513 hg;have NB514_518:=Kl_ BK514 hg;have NB518_514:=Kr_ BK514 hg;replace BK514:=Kb_ BK514 hb;replace HB:=Ks_ HB hb;clear hb hbox hg;have hnb45:=NB518_513.out;have hnc45:=NB513_518.out;have hnb46:=NB518_514.out;have hnc46:=NB514_518.out;obtain ⟨_,_,_,_⟩:=Ke2_ BK518.out;obtain ⟨_,_,_,_⟩:=Ke2_ BK514.out))
  refine bodyPost_ret (results_tc rfl _ _ gb514 142 #[.string (⟨#[]⟩:ByteArray),.bool true] (0,0) _ rfl (by refine Kv_ ?_;refine blk_put (cs:=#[.string (⟨#[]⟩:ByteArray),.bool false]) ?_ 1 _ rfl;refine Kv_ ?_;refine blk_put (cs:=#[.string (⟨#[]⟩:ByteArray),.bool false]) ?_ 0 _ rfl;exact K1b_ BK514 NB514_518) Try.underlying142 rfl (by kernel_rfl)) rfl ?_
  exact ⟨Kh_,K3a_ HB GW513 GW514 GW518⟩
 rw [if_neg c38] at H
 have c38b0:decide ((t516.size:Int)<t515)=false:=decide_eq_false c38
 clear c38
 by_cases c49:0≤t515
 rotate_left
 ·rw [if_neg c49] at H
  exact absurd H (by simp)
 rw [if_pos c49] at H
 have c49b0:=eq_true c49
 have c49b1:decide (0≤t515)=true:=decide_eq_true c49
 clear c49
 by_cases c50:t515≤(t516.size:Int)
 rotate_left
 ·rw [if_neg c50] at H
  exact absurd H (by simp)
 rw [if_pos c50] at H
 have c50b0:=eq_true c50
 have c50b1:decide (t515≤(t516.size:Int))=true:=decide_eq_true c50
 clear c50
 have c51b0:=eq_true (of_decide_eq_true (by first|(with_reducible assumption)|assumption):0≤t515)
 have c52b0:=eq_true (of_decide_eq_true (by first|(with_reducible assumption)|assumption):t515≤(t516.size:Int))
 simp only [Option.some.injEq,Prod.mk.injEq] at H
 obtain ⟨rfl,rfl,rfl⟩:=H
 go_enter Try.func81,Try.ntmps81
 try go_wp2_with (first|((with_reducible refine gate_dst (N:=2) rfl ?_);refine Ka_ 2 #[.string a0_0,.bool a0_1] 142 ?_;intro gb513 hg w53 hbox hb;have BK513:=As_ (hbox);have GW513:=Kw_ HB hg;replace HB:=Ks_ HB hb;clear hb hbox hg)|((with_reducible refine gate_dst (N:=5) rfl ?_);refine Ka_ 5 #[.string (⟨#[]⟩:ByteArray),.bool false] 142 ?_;intro gb514 hg w54 hbox hb;have BK514:=As_ (hbox);have GW514:=Kw_ HB hg;have NB513_514:=Kl_ BK513 hg;have NB514_513:=Kr_ BK513 hg;replace BK513:=Kb_ BK513 hb;replace HB:=Ks_ HB hb;clear hb hbox hg;have hnb55:=NB513_514.out;have hnc55:=NB514_513.out;obtain ⟨_,_,_,_⟩:=Ke2_ BK513.out)|((with_reducible refine gate_callee (f:=80) rfl ?_);refine Kg_ (some 10) rfl rfl Try.func80 (by kernel_rfl) rfl #[.agg #[.string a0_0,.bool a0_1]] rfl ?_;(with_reducible refine (R02_Reader_Vary.calls k a0_0 a0_1 t515 t516 false _ A3.out).mono ?_);rintro e w57 ⟨rfl,hb⟩;refine ⟨_,rfl,?_⟩;replace BK513:=Kb_ BK513 hb;replace BK514:=Kb_ BK514 hb;replace HB:=Ks_ HB hb;(try clear hb))|((with_reducible refine gate_dst (N:=7) rfl ?_);refine Ka_ 7 #[.string (⟨#[]⟩:ByteArray),.bool false] 142 ?_;intro gb518 hg w58 hbox hb;have BK518:=As_ (hbox);have GW518:=Kw_ HB hg;have NB513_518:=Kl_ BK513 hg;have NB518_513:=Kr_ BK513 hg;have NB514_518:=Kl_ BK514 hg;have NB518_514:=Kr_ BK514 hg;replace BK513:=Kb_ BK513 hb;replace BK514:=Kb_ BK514 hb;replace HB:=Ks_ HB hb;clear hb hbox hg;have hnb59:=NB518_513.out;have hnc59:=NB513_518.out;have hnb60:=NB518_514.out;have hnc60:=NB514_518.out;obtain ⟨_,_,_,_⟩:=Ke2_ BK518.out))
 have n0_:Aside0 (((w58.setCell ⟨gb518,0,none⟩ (.string t516)).setCell ⟨gb518,1,none⟩ (.bool false)).heap[gb513]?=some (.cells #[.string a0_0,.bool a0_1] 142 (0,0))):=⟨by exact K1b_ BK513 NB513_518⟩
 have n1_:Aside0 (((w58.setCell ⟨gb518,0,none⟩ (.string t516)).setCell ⟨gb518,1,none⟩ (.bool false)).heap[gb514]?=some (.cells #[.string (⟨#[]⟩:ByteArray),.bool false] 142 (0,0))):=⟨by exact K1b_ BK514 NB514_518⟩
 have n2_:Aside0 (((w58.setCell ⟨gb518,0,none⟩ (.string t516)).setCell ⟨gb518,1,none⟩ (.bool false)).heap[gb518]?=some (.cells #[.string t516,.bool false] 142 (0,0))):=⟨by refine Kv_ ?_;exact Kput2_ (Kq_ BK518)⟩
 have n3_:Aside0 (Below w.heap.size w ((w58.setCell ⟨gb518,0,none⟩ (.string t516)).setCell ⟨gb518,1,none⟩ (.bool false))):=⟨K3a_ HB GW513 GW514 GW518⟩
 (try clear BK513)
 (try clear BK514)
 (try clear BK518)
 (try clear HB)
 generalize ((w58.setCell ⟨gb518,0,none⟩ (.string t516)).setCell ⟨gb518,1,none⟩ (.bool false))=w62 at n0_ n1_ n2_ n3_ ⊢
 have BK513:=n0_
 have BK514:=n1_
 have BK518:=n2_
 have HB:=n3_
 clear n0_ n1_ n2_ n3_
 replace BK513:=Kd_ BK513
 replace BK514:=Kd_ BK514
 replace BK518:=Kd_ BK518
 replace HB:=As_ (below_drew1 HB.out)
 refine start_ (n:=11) (S:=fun w'=>w'.cell? ⟨gb518,0,none⟩=some (.string t516)∧w'.cell? ⟨gb518,1,none⟩=some (.bool false)) (ds:=[]) (mB_ 11 0) (by kernel_rfl) rfl rfl (Kc2_ BK518.out) (fun hHeld=>?_);refine with_tabW R02_Reader_Text.tab4 R02_Reader_Text.bits4 (fun HT_ HW_=>?_)
 generalize w62.drew=w63 at BK513 BK514 BK518 HB hHeld ⊢
 refine Kp_ 0 34 (mB_ 11 1) (any_of HT_.out (by kernel_rfl)) ?_
 refine Kp_ 2 36 (mB_ 11 5) (any_of HT_.out (by kernel_rfl)) ?_
 refine Kp_ 4 38 (mB_ 11 21) (any_of HT_.out (by kernel_rfl)) ?_
 refine Kp_ 6 40 (mB_ 11 85) (any_of HT_.out (by kernel_rfl)) ?_
 refine Ko_ 1 35 (mB_ 11 87) (take_ofW HT_.out HW_.out (by kernel_rfl)) hHeld ?_
 refine Kp_ 3 37 (mB_ 11 95) (any_of HT_.out (by kernel_rfl)) ?_
 refine Kp_ 9 4 (mB_ 11 607) (any_of HT_.out (by kernel_rfl)) ?_
 refine Ko_ 5 39 (mB_ 11 639) (take_ofW HT_.out HW_.out (by kernel_rfl)) hHeld ?_
 refine Kp_ 7 41 (mB_ 11 767) (any_of HT_.out (by kernel_rfl)) ?_
 refine Kp_ 8 42 (mB_ 11 1023) (any_of HT_.out (by kernel_rfl)) ?_
 refine one_ (i:=10) (N:=none) (mB_ 11 2047) rfl rfl (one_of HT_.out (by kernel_rfl)) (by decide) (fun K hK=>?_)
 have hs64:w63.cell? ⟨gb514,0,none⟩=some (.string (⟨#[]⟩:ByteArray)):=(blk_cell BK514.out 0).trans rfl
 have hfs64:=blk_frozen BK514.out 0
 have:=NB513_514.out
 have:=NB518_514.out
 have:=NB514_513.out
 have:=NB514_518.out
 have hs65:w63.cell? ⟨gb514,1,none⟩=some (.bool false):=(blk_cell BK514.out 1).trans rfl
 have hfs65:=blk_frozen BK514.out 1
 have:=NB513_514.out
 have:=NB518_514.out
 have:=NB514_513.out
 have:=NB514_518.out
 refine skip_ (w1:=?_) (by rfl) rfl ?_ ?_
 rotate_left
 ·go_simp
  rfl
 refine hK.out _ _ ⟨(Kj_ NB518_514 ((Kj_ NB518_514 (hHeld.1)))),(Kj_ NB518_514 ((Kj_ NB518_514 (hHeld.2))))⟩ (fun hHeld=>?_)
 clear hK K
 refine done_ (done_of HT_.out (by kernel_rfl)) ?_
 try go_wp2
 refine bodyPost_ret (results_tc rfl _ _ gb514 142 #[.string (t516.extract (t515:Int).toNat t516.size),.bool false] (0,0) _ rfl (by refine Kv_ ?_;exact Kput2_ (Kq_ BK514)) Try.underlying142 rfl (by kernel_rfl)) rfl ?_
 exact ⟨Kh_,K3a_ HB GW513 GW514 GW518⟩
def R06_Get.f (k:Nat) (a0_0:ByteArray) (a0_1:Bool):Option (Int × Int × Int × Int × ByteArray × Bool):=(R02_Reader_Vary.f k a0_0 a0_1).bind fun bt522=>((R02_Reader_Vary.f k bt522.2.1 bt522.2.2).bind fun bt526=>((R02_Reader_Vary.f k bt526.2.1 bt526.2.2).bind fun bt530=>((R02_Reader_Vary.f k bt530.2.1 bt530.2.2).bind fun bt534=>(if bt534.2.2=true then (some (0,0,0,0,(⟨#[]⟩:ByteArray),true)) else ((R06_Right.f k bt522.1 bt526.1 bt530.1 bt534.1).bind fun t539=>(if t539=true then (some (bt522.1,bt526.1,bt530.1,bt534.1,bt534.2.1,bt534.2.2)) else (some (0,0,0,0,(⟨#[]⟩:ByteArray),true))))))))
set_option maxHeartbeats 8000000 in
set_option maxRecDepth 100000 in
theorem R06_Get.calls (k:Nat) (a0_0:ByteArray) (a0_1:Bool) (r1:Int) (r2:Int) (r3:Int) (r4:Int) (r5:ByteArray) (r6:Bool) (w:World) (h:R06_Get.f k a0_0 a0_1=some (r1,r2,r3,r4,r5,r6)) :
  Calls Try.prog 107 #[.agg #[.string a0_0,.bool a0_1]] w fun e w'=>e = .returned (.tuple #[.agg #[.int .u64 r1,.int .u64 r2,.int .u64 r3,.int .u64 r4],.agg #[.string r5,.bool r6]])∧Below w.heap.size w w':=by
 have hu142:=Try.underlying142
 have hu50:=Try.underlying50
 have HB:=As_ (Below.refl w.heap.size w)
 unfold R06_Get.f at h
 have H:=h
 clear h
 obtain ⟨⟨t522,t523,t524⟩,A2,H⟩:=Kbind_ H
 (try dsimp only at H)
 obtain ⟨⟨t526,t527,t528⟩,A3,H⟩:=Kbind_ H
 (try dsimp only at H)
 obtain ⟨⟨t530,t531,t532⟩,A4,H⟩:=Kbind_ H
 (try dsimp only at H)
 obtain ⟨⟨t534,t535,t536⟩,A5,H⟩:=Kbind_ H
 (try dsimp only at H)
 by_cases c6:t536=true
 ·subst c6
  rw [if_pos rfl] at H
  simp only [Option.some.injEq,Prod.mk.injEq] at H
  obtain ⟨rfl,rfl,rfl,rfl,rfl,rfl⟩:=H
  go_enter Try.func107,Try.ntmps107
  go_wp2_with (first|((with_reducible refine gate_dst (N:=1) rfl ?_);refine Ka_ 1 #[.string a0_0,.bool a0_1] 142 ?_;intro gb519 hg w7 hbox hb;have BK519:=As_ (hbox);have GW519:=Kw_ HB hg;replace HB:=Ks_ HB hb;clear hb hbox hg)|((with_reducible refine gate_dst (N:=2) rfl ?_);refine Ka_ 2 #[.int .u64 0,.int .u64 0,.int .u64 0,.int .u64 0] 50 ?_;intro gb520 hg w8 hbox hb;have BK520:=As_ (hbox);have GW520:=Kw_ HB hg;have NB519_520:=Kl_ BK519 hg;have NB520_519:=Kr_ BK519 hg;replace BK519:=Kb_ BK519 hb;replace HB:=Ks_ HB hb;clear hb hbox hg)|((with_reducible refine gate_dst (N:=3) rfl ?_);refine Ka_ 3 #[.string (⟨#[]⟩:ByteArray),.bool false] 142 ?_;intro gb521 hg w9 hbox hb;have BK521:=As_ (hbox);have GW521:=Kw_ HB hg;have NB519_521:=Kl_ BK519 hg;have NB521_519:=Kr_ BK519 hg;have NB520_521:=Kl_ BK520 hg;have NB521_520:=Kr_ BK520 hg;replace BK519:=Kb_ BK519 hb;replace BK520:=Kb_ BK520 hb;replace HB:=Ks_ HB hb;clear hb hbox hg;have hnb10:=NB519_520.out;have hnc10:=NB520_519.out;have hnb11:=NB519_521.out;have hnc11:=NB521_519.out;obtain ⟨_,_,_,_⟩:=Ke2_ BK519.out)|((with_reducible refine gate_callee (f:=80) rfl ?_);refine Kg_ (some 15) rfl rfl Try.func80 (by kernel_rfl) rfl #[.agg #[.string a0_0,.bool a0_1]] rfl ?_;(with_reducible refine (R02_Reader_Vary.calls k a0_0 a0_1 t522 t523 t524 _ A2.out).mono ?_);rintro e w13 ⟨rfl,hb⟩;refine ⟨_,rfl,?_⟩;replace BK519:=Kb_ BK519 hb;replace BK520:=Kb_ BK520 hb;replace BK521:=Kb_ BK521 hb;replace HB:=Ks_ HB hb;(try clear hb))|((with_reducible refine gate_dst (N:=5) rfl ?_);refine Ka_ 5 #[.string (⟨#[]⟩:ByteArray),.bool false] 142 ?_;intro gb525 hg w14 hbox hb;have BK525:=As_ (hbox);have GW525:=Kw_ HB hg;have NB519_525:=Kl_ BK519 hg;have NB525_519:=Kr_ BK519 hg;have NB520_525:=Kl_ BK520 hg;have NB525_520:=Kr_ BK520 hg;have NB521_525:=Kl_ BK521 hg;have NB525_521:=Kr_ BK521 hg;replace BK519:=Kb_ BK519 hb;replace BK520:=Kb_ BK520 hb;replace BK521:=Kb_ BK521 hb;replace HB:=Ks_ HB hb;clear hb hbox hg;have hnb15:=NB525_519.out;have hnc15:=NB519_525.out;have hnb16:=NB525_520.out;have hnc16:=NB520_525.out;have hnb17:=NB525_521.out;have hnc17:=NB521_525.out;obtain ⟨_,_,_,_⟩:=Ke2_ BK525.out)|((with_reducible refine gate_callee (f:=80) rfl ?_);refine Kg_ (some 20) rfl rfl Try.func80 (by kernel_rfl) rfl #[.agg #[.string t523,.bool t524]] rfl ?_;(with_reducible refine (R02_Reader_Vary.calls k t523 t524 t526 t527 t528 _ A3.out).mono ?_);rintro e w19 ⟨rfl,hb⟩;refine ⟨_,rfl,?_⟩;replace BK519:=Kf_ BK519 NB519_525 hb;replace BK520:=Kf_ BK520 NB520_525 hb;replace BK521:=Kf_ BK521 NB521_525 hb;replace BK525:=As_ (blk_below (Kput2_ (Kq_ BK525)) hb);replace HB:=Kt_ HB GW525 hb;(try clear hb))|((with_reducible refine gate_dst (N:=7) rfl ?_);refine Ka_ 7 #[.string (⟨#[]⟩:ByteArray),.bool false] 142 ?_;intro gb529 hg w20 hbox hb;have BK529:=As_ (hbox);have GW529:=Kw_ HB hg;have NB519_529:=Kl_ BK519 hg;have NB529_519:=Kr_ BK519 hg;have NB520_529:=Kl_ BK520 hg;have NB529_520:=Kr_ BK520 hg;have NB521_529:=Kl_ BK521 hg;have NB529_521:=Kr_ BK521 hg;have NB525_529:=Kl_ BK525 hg;have NB529_525:=Kr_ BK525 hg;replace BK519:=Kb_ BK519 hb;replace BK520:=Kb_ BK520 hb;replace BK521:=Kb_ BK521 hb;replace BK525:=Kb_ BK525 hb;replace HB:=Ks_ HB hb;clear hb hbox hg;have hnb21:=NB529_519.out;have hnc21:=NB519_529.out;have hnb22:=NB529_520.out;have hnc22:=NB520_529.out;have hnb23:=NB529_521.out;have hnc23:=NB521_529.out;have hnb24:=NB529_525.out;have hnc24:=NB525_529.out;obtain ⟨_,_,_,_⟩:=Ke2_ BK529.out)|((with_reducible refine gate_callee (f:=80) rfl ?_);refine Kg_ (some 25) rfl rfl Try.func80 (by kernel_rfl) rfl #[.agg #[.string t527,.bool t528]] rfl ?_;(with_reducible refine (R02_Reader_Vary.calls k t527 t528 t530 t531 t532 _ A4.out).mono ?_);rintro e w26 ⟨rfl,hb⟩;refine ⟨_,rfl,?_⟩;replace BK519:=Kf_ BK519 NB519_529 hb;replace BK520:=Kf_ BK520 NB520_529 hb;replace BK521:=Kf_ BK521 NB521_529 hb;replace BK525:=Kf_ BK525 NB525_529 hb;replace BK529:=As_ (blk_below (Kput2_ (Kq_ BK529)) hb);replace HB:=Kt_ HB GW529 hb;(try clear hb))|((with_reducible refine gate_dst (N:=9) rfl ?_);refine Ka_ 9 #[.string (⟨#[]⟩:ByteArray),.bool false] 142 ?_;intro gb533 hg w27 hbox hb;have BK533:=As_ (hbox);have GW533:=Kw_ HB hg;have NB519_533:=Kl_ BK519 hg;have NB533_519:=Kr_ BK519 hg;have NB520_533:=Kl_ BK520 hg;have NB533_520:=Kr_ BK520 hg;have NB521_533:=Kl_ BK521 hg;have NB533_521:=Kr_ BK521 hg;have NB525_533:=Kl_ BK525 hg;have NB533_525:=Kr_ BK525 hg;have NB529_533:=Kl_ BK529 hg;have NB533_529:=Kr_ BK529 hg;replace BK519:=Kb_ BK519 hb;replace BK520:=Kb_ BK520 hb;replace BK521:=Kb_ BK521 hb;replace BK525:=Kb_ BK525 hb;replace BK529:=Kb_ BK529 hb;replace HB:=Ks_ HB hb;clear hb hbox hg;have hnb28:=NB533_519.out;have hnc28:=NB519_533.out;have hnb29:=NB533_520.out;have hnc29:=NB520_533.out;have hnb30:=NB533_521.out;have hnc30:=NB521_533.out;have hnb31:=NB533_525.out;have hnc31:=NB525_533.out;have hnb32:=NB533_529.out;have hnc32:=NB529_533.out;obtain ⟨_,_,_,_⟩:=Ke2_ BK533.out)|((with_reducible refine gate_callee (f:=80) rfl ?_);refine Kg_ (some 30) rfl rfl Try.func80 (by kernel_rfl) rfl #[.agg #[.string t531,.bool t532]] rfl ?_;(with_reducible refine (R02_Reader_Vary.calls k t531 t532 t534 t535 true _ A5.out).mono ?_);rintro e w34 ⟨rfl,hb⟩;refine ⟨_,rfl,?_⟩;replace BK519:=Kf_ BK519 NB519_533 hb;replace BK520:=Kf_ BK520 NB520_533 hb;replace BK521:=Kf_ BK521 NB521_533 hb;replace BK525:=Kf_ BK525 NB525_533 hb;replace BK529:=Kf_ BK529 NB529_533 hb;replace BK533:=As_ (blk_below (Kput2_ (Kq_ BK533)) hb);replace HB:=Kt_ HB GW533 hb;(try clear hb))|((with_reducible refine gate_dst (N:=11) rfl ?_);refine Ka_ 11 #[.string (⟨#[]⟩:ByteArray),.bool false] 142 ?_;intro gb537 hg w35 hbox hb;have BK537:=As_ (hbox);have GW537:=Kw_ HB hg;have NB519_537:=Kl_ BK519 hg;have NB537_519:=Kr_ BK519 hg;have NB520_537:=Kl_ BK520 hg;have NB537_520:=Kr_ BK520 hg;have NB521_537:=Kl_ BK521 hg;have NB537_521:=Kr_ BK521 hg;have NB525_537:=Kl_ BK525 hg;have NB537_525:=Kr_ BK525 hg;have NB529_537:=Kl_ BK529 hg;have NB537_529:=Kr_ BK529 hg;have NB533_537:=Kl_ BK533 hg;have NB537_533:=Kr_ BK533 hg;replace BK519:=Kb_ BK519 hb;replace BK520:=Kb_ BK520 hb;replace BK521:=Kb_ BK521 hb;replace BK525:=Kb_ BK525 hb;replace BK529:=Kb_ BK529 hb;replace BK533:=Kb_ BK533 hb;replace HB:=Ks_ HB hb;clear hb hbox hg;have hnb36:=NB537_519.out;have hnc36:=NB519_537.out;have hnb37:=NB537_520.out;have hnc37:=NB520_537.out;have hnb38:=NB537_521.out;have hnc38:=NB521_537.out;have hnb39:=NB537_525.out;have hnc39:=NB525_537.out;have hnb40:=NB537_529.out;have hnc40:=NB529_537.out;have hnb41:=NB537_533.out;have hnc41:=NB533_537.out;obtain ⟨_,_,_,_⟩:=Ke2_ BK537.out)|((with_reducible refine gate_dst (N:=12) rfl ?_);refine Ka_ 12 #[.int .u64 0,.int .u64 0,.int .u64 0,.int .u64 0] 50 ?_;intro gb538 hg w43 hbox hb;have BK538:=As_ (hbox);have GW538:=Kx_ HB GW537 hg;have NB519_538:=As_ ((by rw [hg];exact Nat.ne_of_lt (blk_lt (g:=gb519) (o:=.cells #[.string a0_0,.bool a0_1] 142 (0,0)) (K1b_ BK519 NB519_537)):gb519 ≠ gb538));have NB538_519:=As_ ((by rw [hg];exact Nat.ne_of_gt (blk_lt (g:=gb519) (o:=.cells #[.string a0_0,.bool a0_1] 142 (0,0)) (K1b_ BK519 NB519_537)):gb538 ≠ gb519));have NB520_538:=As_ ((by rw [hg];exact Nat.ne_of_lt (blk_lt (g:=gb520) (o:=.cells #[.int .u64 0,.int .u64 0,.int .u64 0,.int .u64 0] 50 (0,0)) (K1b_ BK520 NB520_537)):gb520 ≠ gb538));have NB538_520:=As_ ((by rw [hg];exact Nat.ne_of_gt (blk_lt (g:=gb520) (o:=.cells #[.int .u64 0,.int .u64 0,.int .u64 0,.int .u64 0] 50 (0,0)) (K1b_ BK520 NB520_537)):gb538 ≠ gb520));have NB521_538:=As_ ((by rw [hg];exact Nat.ne_of_lt (blk_lt (g:=gb521) (o:=.cells #[.string (⟨#[]⟩:ByteArray),.bool false] 142 (0,0)) (K1b_ BK521 NB521_537)):gb521 ≠ gb538));have NB538_521:=As_ ((by rw [hg];exact Nat.ne_of_gt (blk_lt (g:=gb521) (o:=.cells #[.string (⟨#[]⟩:ByteArray),.bool false] 142 (0,0)) (K1b_ BK521 NB521_537)):gb538 ≠ gb521));have NB525_538:=As_ ((by rw [hg];exact Nat.ne_of_lt (blk_lt (g:=gb525) (o:=.cells #[.string t523,.bool t524] 142 (0,0)) (K1b_ BK525 NB525_537)):gb525 ≠ gb538));have NB538_525:=As_ ((by rw [hg];exact Nat.ne_of_gt (blk_lt (g:=gb525) (o:=.cells #[.string t523,.bool t524] 142 (0,0)) (K1b_ BK525 NB525_537)):gb538 ≠ gb525));have NB529_538:=As_ ((by rw [hg];exact Nat.ne_of_lt (blk_lt (g:=gb529) (o:=.cells #[.string t527,.bool t528] 142 (0,0)) (K1b_ BK529 NB529_537)):gb529 ≠ gb538));have NB538_529:=As_ ((by rw [hg];exact Nat.ne_of_gt (blk_lt (g:=gb529) (o:=.cells #[.string t527,.bool t528] 142 (0,0)) (K1b_ BK529 NB529_537)):gb538 ≠ gb529));have NB533_538:=As_ ((by rw [hg];exact Nat.ne_of_lt (blk_lt (g:=gb533) (o:=.cells #[.string t531,.bool t532] 142 (0,0)) (K1b_ BK533 NB533_537)):gb533 ≠ gb538));have NB538_533:=As_ ((by rw [hg];exact Nat.ne_of_gt (blk_lt (g:=gb533) (o:=.cells #[.string t531,.bool t532] 142 (0,0)) (K1b_ BK533 NB533_537)):gb538 ≠ gb533));have NB537_538:=As_ ((by rw [hg];exact Nat.ne_of_lt (blk_lt (g:=gb537) (o:=.cells #[.string t535,.bool true] 142 (0,0)) (by refine Kv_ ?_;exact Kput2_ (Kq_ BK537))):gb537 ≠ gb538));have NB538_537:=As_ ((by rw [hg];exact Nat.ne_of_gt (blk_lt (g:=gb537) (o:=.cells #[.string t535,.bool true] 142 (0,0)) (by refine Kv_ ?_;exact Kput2_ (Kq_ BK537))):gb538 ≠ gb537));replace BK520:=Kf_ BK520 NB520_537 hb;replace BK521:=Kf_ BK521 NB521_537 hb;replace BK537:=As_ (blk_below (Kput2_ (Kq_ BK537)) hb);replace HB:=Kt_ HB GW537 hb;clear hb hbox hg;have hnb44:=NB538_519.out;have hnc44:=NB519_538.out;have hnb45:=NB538_520.out;have hnc45:=NB520_538.out;have hnb46:=NB538_521.out;have hnc46:=NB521_538.out;have hnb47:=NB538_525.out;have hnc47:=NB525_538.out;have hnb48:=NB538_529.out;have hnc48:=NB529_538.out;have hnb49:=NB538_533.out;have hnc49:=NB533_538.out;have hnb50:=NB538_537.out;have hnc50:=NB537_538.out;obtain ⟨_,_,_,_,_,_,_,_⟩:=Ke4_ BK538.out;obtain ⟨_,_,_,_⟩:=Ke2_ BK537.out;have hnb53:=NB520_521.out;have hnc53:=NB521_520.out;obtain ⟨_,_,_,_,_,_,_,_⟩:=Ke4_ BK520.out;obtain ⟨_,_,_,_⟩:=Ke2_ BK521.out))
  refine bodyPost_ret (results_cc rfl _ _ gb520 gb521 50 142 #[.int .u64 0,.int .u64 0,.int .u64 0,.int .u64 0] #[.string (⟨#[]⟩:ByteArray),.bool true] (0,0) (0,0) _ _ rfl (by (repeat (first|(with_reducible first|refine blk_drewN ?_ _|refine blk_drew ?_|refine blk_alloc ?_ _)|refine blk_far ?_ NB520_521.out _));refine blk_put (cs:=#[.int .u64 0,.int .u64 0,.int .u64 0,.int .u64 0]) ?_ 3 _ rfl;refine Kv_ ?_;refine blk_put (cs:=#[.int .u64 0,.int .u64 0,.int .u64 0,.int .u64 0]) ?_ 2 _ rfl;refine Kv_ ?_;refine blk_put (cs:=#[.int .u64 0,.int .u64 0,.int .u64 0,.int .u64 0]) ?_ 1 _ rfl;refine Kv_ ?_;refine blk_put (cs:=#[.int .u64 0,.int .u64 0,.int .u64 0,.int .u64 0]) ?_ 0 _ rfl;exact K1b_ BK520 NB520_538) Try.underlying50 rfl (by kernel_rfl) rfl (by refine Kv_ ?_;refine blk_put (cs:=#[.string (⟨#[]⟩:ByteArray),.bool false]) ?_ 1 _ rfl;refine Kv_ ?_;refine blk_put (cs:=#[.string (⟨#[]⟩:ByteArray),.bool false]) ?_ 0 _ rfl;exact K2b_ BK521 NB521_520 NB521_538) Try.underlying142 rfl (by kernel_rfl)) rfl ?_
  exact ⟨Kh_,by repeat (first|(with_reducible first|exact HB.out|apply below_alloc|apply pw_below_drewN|apply below_drew1|refine below_set ?_ GW519.out|refine below_set ?_ GW520.out|refine below_set ?_ GW521.out|refine below_set ?_ GW525.out|refine below_set ?_ GW529.out|refine below_set ?_ GW533.out|refine below_set ?_ GW537.out|refine below_set ?_ GW538.out)|exact HB.out)⟩
 replace c6:=Bool.eq_false_iff.mpr c6
 subst c6
 rw [if_neg Bool.false_ne_true] at H
 obtain ⟨t539,A56,H⟩:=Kbind_ H
 (try dsimp only at H)
 by_cases c57:t539=true
 rotate_left
 ·replace c57:=Bool.eq_false_iff.mpr c57
  subst c57
  rw [if_neg Bool.false_ne_true] at H
  simp only [Option.some.injEq,Prod.mk.injEq] at H
  obtain ⟨rfl,rfl,rfl,rfl,rfl,rfl⟩:=H
  go_enter Try.func107,Try.ntmps107
  go_wp2_with (first|((with_reducible refine gate_dst (N:=1) rfl ?_);refine Ka_ 1 #[.string a0_0,.bool a0_1] 142 ?_;intro gb519 hg w112 hbox hb;have BK519:=As_ (hbox);have GW519:=Kw_ HB hg;replace HB:=Ks_ HB hb;clear hb hbox hg)|((with_reducible refine gate_dst (N:=2) rfl ?_);refine Ka_ 2 #[.int .u64 0,.int .u64 0,.int .u64 0,.int .u64 0] 50 ?_;intro gb520 hg w113 hbox hb;have BK520:=As_ (hbox);have GW520:=Kw_ HB hg;have NB519_520:=Kl_ BK519 hg;have NB520_519:=Kr_ BK519 hg;replace BK519:=Kb_ BK519 hb;replace HB:=Ks_ HB hb;clear hb hbox hg)|((with_reducible refine gate_dst (N:=3) rfl ?_);refine Ka_ 3 #[.string (⟨#[]⟩:ByteArray),.bool false] 142 ?_;intro gb521 hg w114 hbox hb;have BK521:=As_ (hbox);have GW521:=Kw_ HB hg;have NB519_521:=Kl_ BK519 hg;have NB521_519:=Kr_ BK519 hg;have NB520_521:=Kl_ BK520 hg;have NB521_520:=Kr_ BK520 hg;replace BK519:=Kb_ BK519 hb;replace BK520:=Kb_ BK520 hb;replace HB:=Ks_ HB hb;clear hb hbox hg;have hnb115:=NB519_520.out;have hnc115:=NB520_519.out;have hnb116:=NB519_521.out;have hnc116:=NB521_519.out;obtain ⟨_,_,_,_⟩:=Ke2_ BK519.out)|((with_reducible refine gate_callee (f:=80) rfl ?_);refine Kg_ (some 15) rfl rfl Try.func80 (by kernel_rfl) rfl #[.agg #[.string a0_0,.bool a0_1]] rfl ?_;(with_reducible refine (R02_Reader_Vary.calls k a0_0 a0_1 t522 t523 t524 _ A2.out).mono ?_);rintro e w118 ⟨rfl,hb⟩;refine ⟨_,rfl,?_⟩;replace BK519:=Kb_ BK519 hb;replace BK520:=Kb_ BK520 hb;replace BK521:=Kb_ BK521 hb;replace HB:=Ks_ HB hb;(try clear hb))|((with_reducible refine gate_dst (N:=5) rfl ?_);refine Ka_ 5 #[.string (⟨#[]⟩:ByteArray),.bool false] 142 ?_;intro gb525 hg w119 hbox hb;have BK525:=As_ (hbox);have GW525:=Kw_ HB hg;have NB519_525:=Kl_ BK519 hg;have NB525_519:=Kr_ BK519 hg;have NB520_525:=Kl_ BK520 hg;have NB525_520:=Kr_ BK520 hg;have NB521_525:=Kl_ BK521 hg;have NB525_521:=Kr_ BK521 hg;replace BK519:=Kb_ BK519 hb;replace BK520:=Kb_ BK520 hb;replace BK521:=Kb_ BK521 hb;replace HB:=Ks_ HB hb;clear hb hbox hg;have hnb120:=NB525_519.out;have hnc120:=NB519_525.out;have hnb121:=NB525_520.out;have hnc121:=NB520_525.out;have hnb122:=NB525_521.out;have hnc122:=NB521_525.out;obtain ⟨_,_,_,_⟩:=Ke2_ BK525.out)|((with_reducible refine gate_callee (f:=80) rfl ?_);refine Kg_ (some 20) rfl rfl Try.func80 (by kernel_rfl) rfl #[.agg #[.string t523,.bool t524]] rfl ?_;(with_reducible refine (R02_Reader_Vary.calls k t523 t524 t526 t527 t528 _ A3.out).mono ?_);rintro e w124 ⟨rfl,hb⟩;refine ⟨_,rfl,?_⟩;replace BK519:=Kf_ BK519 NB519_525 hb;replace BK520:=Kf_ BK520 NB520_525 hb;replace BK521:=Kf_ BK521 NB521_525 hb;replace BK525:=As_ (blk_below (Kput2_ (Kq_ BK525)) hb);replace HB:=Kt_ HB GW525 hb;(try clear hb))|((with_reducible refine gate_dst (N:=7) rfl ?_);refine Ka_ 7 #[.string (⟨#[]⟩:ByteArray),.bool false] 142 ?_;intro gb529 hg w125 hbox hb;have BK529:=As_ (hbox);have GW529:=Kw_ HB hg;have NB519_529:=Kl_ BK519 hg;have NB529_519:=Kr_ BK519 hg;have NB520_529:=Kl_ BK520 hg;have NB529_520:=Kr_ BK520 hg;have NB521_529:=Kl_ BK521 hg;have NB529_521:=Kr_ BK521 hg;have NB525_529:=Kl_ BK525 hg;have NB529_525:=Kr_ BK525 hg;replace BK519:=Kb_ BK519 hb;replace BK520:=Kb_ BK520 hb;replace BK521:=Kb_ BK521 hb;replace BK525:=Kb_ BK525 hb;replace HB:=Ks_ HB hb;clear hb hbox hg;have hnb126:=NB529_519.out;have hnc126:=NB519_529.out;have hnb127:=NB529_520.out;have hnc127:=NB520_529.out;have hnb128:=NB529_521.out;have hnc128:=NB521_529.out;have hnb129:=NB529_525.out;have hnc129:=NB525_529.out;obtain ⟨_,_,_,_⟩:=Ke2_ BK529.out)|((with_reducible refine gate_callee (f:=80) rfl ?_);refine Kg_ (some 25) rfl rfl Try.func80 (by kernel_rfl) rfl #[.agg #[.string t527,.bool t528]] rfl ?_;(with_reducible refine (R02_Reader_Vary.calls k t527 t528 t530 t531 t532 _ A4.out).mono ?_);rintro e w131 ⟨rfl,hb⟩;refine ⟨_,rfl,?_⟩;replace BK519:=Kf_ BK519 NB519_529 hb;replace BK520:=Kf_ BK520 NB520_529 hb;replace BK521:=Kf_ BK521 NB521_529 hb;replace BK525:=Kf_ BK525 NB525_529 hb;replace BK529:=As_ (blk_below (Kput2_ (Kq_ BK529)) hb);replace HB:=Kt_ HB GW529 hb;(try clear hb))|((with_reducible refine gate_dst (N:=9) rfl ?_);refine Ka_ 9 #[.string (⟨#[]⟩:ByteArray),.bool false] 142 ?_;intro gb533 hg w132 hbox hb;have BK533:=As_ (hbox);have GW533:=Kw_ HB hg;have NB519_533:=Kl_ BK519 hg;have NB533_519:=Kr_ BK519 hg;have NB520_533:=Kl_ BK520 hg;have NB533_520:=Kr_ BK520 hg;have NB521_533:=Kl_ BK521 hg;have NB533_521:=Kr_ BK521 hg;have NB525_533:=Kl_ BK525 hg;have NB533_525:=Kr_ BK525 hg;have NB529_533:=Kl_ BK529 hg;have NB533_529:=Kr_ BK529 hg;replace BK519:=Kb_ BK519 hb;replace BK520:=Kb_ BK520 hb;replace BK521:=Kb_ BK521 hb;replace BK525:=Kb_ BK525 hb;replace BK529:=Kb_ BK529 hb;replace HB:=Ks_ HB hb;clear hb hbox hg;have hnb133:=NB533_519.out;have hnc133:=NB519_533.out;have hnb134:=NB533_520.out;have hnc134:=NB520_533.out;have hnb135:=NB533_521.out;have hnc135:=NB521_533.out;have hnb136:=NB533_525.out;have hnc136:=NB525_533.out;have hnb137:=NB533_529.out;have hnc137:=NB529_533.out;obtain ⟨_,_,_,_⟩:=Ke2_ BK533.out)|((with_reducible refine gate_callee (f:=80) rfl ?_);refine Kg_ (some 30) rfl rfl Try.func80 (by kernel_rfl) rfl #[.agg #[.string t531,.bool t532]] rfl ?_;(with_reducible refine (R02_Reader_Vary.calls k t531 t532 t534 t535 false _ A5.out).mono ?_);rintro e w139 ⟨rfl,hb⟩;refine ⟨_,rfl,?_⟩;replace BK519:=Kf_ BK519 NB519_533 hb;replace BK520:=Kf_ BK520 NB520_533 hb;replace BK521:=Kf_ BK521 NB521_533 hb;replace BK525:=Kf_ BK525 NB525_533 hb;replace BK529:=Kf_ BK529 NB529_533 hb;replace BK533:=As_ (blk_below (Kput2_ (Kq_ BK533)) hb);replace HB:=Kt_ HB GW533 hb;(try clear hb))|((with_reducible refine gate_dst (N:=11) rfl ?_);refine Ka_ 11 #[.string (⟨#[]⟩:ByteArray),.bool false] 142 ?_;intro gb537 hg w140 hbox hb;have BK537:=As_ (hbox);have GW537:=Kw_ HB hg;have NB519_537:=Kl_ BK519 hg;have NB537_519:=Kr_ BK519 hg;have NB520_537:=Kl_ BK520 hg;have NB537_520:=Kr_ BK520 hg;have NB521_537:=Kl_ BK521 hg;have NB537_521:=Kr_ BK521 hg;have NB525_537:=Kl_ BK525 hg;have NB537_525:=Kr_ BK525 hg;have NB529_537:=Kl_ BK529 hg;have NB537_529:=Kr_ BK529 hg;have NB533_537:=Kl_ BK533 hg;have NB537_533:=Kr_ BK533 hg;replace BK519:=Kb_ BK519 hb;replace BK520:=Kb_ BK520 hb;replace BK521:=Kb_ BK521 hb;replace BK525:=Kb_ BK525 hb;replace BK529:=Kb_ BK529 hb;replace BK533:=Kb_ BK533 hb;replace HB:=Ks_ HB hb;clear hb hbox hg;have hnb141:=NB537_519.out;have hnc141:=NB519_537.out;have hnb142:=NB537_520.out;have hnc142:=NB520_537.out;have hnb143:=NB537_521.out;have hnc143:=NB521_537.out;have hnb144:=NB537_525.out;have hnc144:=NB525_537.out;have hnb145:=NB537_529.out;have hnc145:=NB529_537.out;have hnb146:=NB537_533.out;have hnc146:=NB533_537.out;obtain ⟨_,_,_,_⟩:=Ke2_ BK537.out)|((with_reducible refine gate_dst (N:=12) rfl ?_);refine Ka_ 12 #[.int .u64 0,.int .u64 0,.int .u64 0,.int .u64 0] 50 ?_;intro gb538 hg w148 hbox hb;have BK538:=As_ (hbox);have GW538:=Kx_ HB GW537 hg;have NB519_538:=As_ ((by rw [hg];exact Nat.ne_of_lt (blk_lt (g:=gb519) (o:=.cells #[.string a0_0,.bool a0_1] 142 (0,0)) (K1b_ BK519 NB519_537)):gb519 ≠ gb538));have NB538_519:=As_ ((by rw [hg];exact Nat.ne_of_gt (blk_lt (g:=gb519) (o:=.cells #[.string a0_0,.bool a0_1] 142 (0,0)) (K1b_ BK519 NB519_537)):gb538 ≠ gb519));have NB520_538:=As_ ((by rw [hg];exact Nat.ne_of_lt (blk_lt (g:=gb520) (o:=.cells #[.int .u64 0,.int .u64 0,.int .u64 0,.int .u64 0] 50 (0,0)) (K1b_ BK520 NB520_537)):gb520 ≠ gb538));have NB538_520:=As_ ((by rw [hg];exact Nat.ne_of_gt (blk_lt (g:=gb520) (o:=.cells #[.int .u64 0,.int .u64 0,.int .u64 0,.int .u64 0] 50 (0,0)) (K1b_ BK520 NB520_537)):gb538 ≠ gb520));have NB521_538:=As_ ((by rw [hg];exact Nat.ne_of_lt (blk_lt (g:=gb521) (o:=.cells #[.string (⟨#[]⟩:ByteArray),.bool false] 142 (0,0)) (K1b_ BK521 NB521_537)):gb521 ≠ gb538));have NB538_521:=As_ ((by rw [hg];exact Nat.ne_of_gt (blk_lt (g:=gb521) (o:=.cells #[.string (⟨#[]⟩:ByteArray),.bool false] 142 (0,0)) (K1b_ BK521 NB521_537)):gb538 ≠ gb521));have NB525_538:=As_ ((by rw [hg];exact Nat.ne_of_lt (blk_lt (g:=gb525) (o:=.cells #[.string t523,.bool t524] 142 (0,0)) (K1b_ BK525 NB525_537)):gb525 ≠ gb538));have NB538_525:=As_ ((by rw [hg];exact Nat.ne_of_gt (blk_lt (g:=gb525) (o:=.cells #[.string t523,.bool t524] 142 (0,0)) (K1b_ BK525 NB525_537)):gb538 ≠ gb525));have NB529_538:=As_ ((by rw [hg];exact Nat.ne_of_lt (blk_lt (g:=gb529) (o:=.cells #[.string t527,.bool t528] 142 (0,0)) (K1b_ BK529 NB529_537)):gb529 ≠ gb538));have NB538_529:=As_ ((by rw [hg];exact Nat.ne_of_gt (blk_lt (g:=gb529) (o:=.cells #[.string t527,.bool t528] 142 (0,0)) (K1b_ BK529 NB529_537)):gb538 ≠ gb529));have NB533_538:=As_ ((by rw [hg];exact Nat.ne_of_lt (blk_lt (g:=gb533) (o:=.cells #[.string t531,.bool t532] 142 (0,0)) (K1b_ BK533 NB533_537)):gb533 ≠ gb538));have NB538_533:=As_ ((by rw [hg];exact Nat.ne_of_gt (blk_lt (g:=gb533) (o:=.cells #[.string t531,.bool t532] 142 (0,0)) (K1b_ BK533 NB533_537)):gb538 ≠ gb533));have NB537_538:=As_ ((by rw [hg];exact Nat.ne_of_lt (blk_lt (g:=gb537) (o:=.cells #[.string t535,.bool false] 142 (0,0)) (by refine Kv_ ?_;exact Kput2_ (Kq_ BK537))):gb537 ≠ gb538));have NB538_537:=As_ ((by rw [hg];exact Nat.ne_of_gt (blk_lt (g:=gb537) (o:=.cells #[.string t535,.bool false] 142 (0,0)) (by refine Kv_ ?_;exact Kput2_ (Kq_ BK537))):gb538 ≠ gb537));replace BK520:=Kf_ BK520 NB520_537 hb;replace BK521:=Kf_ BK521 NB521_537 hb;replace BK537:=As_ (blk_below (Kput2_ (Kq_ BK537)) hb);replace HB:=Kt_ HB GW537 hb;clear hb hbox hg;have hnb149:=NB538_519.out;have hnc149:=NB519_538.out;have hnb150:=NB538_520.out;have hnc150:=NB520_538.out;have hnb151:=NB538_521.out;have hnc151:=NB521_538.out;have hnb152:=NB538_525.out;have hnc152:=NB525_538.out;have hnb153:=NB538_529.out;have hnc153:=NB529_538.out;have hnb154:=NB538_533.out;have hnc154:=NB533_538.out;have hnb155:=NB538_537.out;have hnc155:=NB537_538.out;obtain ⟨_,_,_,_,_,_,_,_⟩:=Ke4_ BK538.out;obtain ⟨_,_,_,_⟩:=Ke2_ BK537.out)|(go_at_call 93;(with_reducible refine (R06_Right.calls k t522 t526 t530 t534 false _ A56.out).mono ?_);rintro e w158 ⟨rfl,hb⟩;replace BK520:=Kf_ BK520 NB520_538 hb;replace BK521:=Kf_ BK521 NB521_538 hb;replace HB:=Kt_ HB GW538 hb;(try clear hb);have hnb159:=NB520_521.out;have hnc159:=NB521_520.out;obtain ⟨_,_,_,_,_,_,_,_⟩:=Ke4_ BK520.out;obtain ⟨_,_,_,_⟩:=Ke2_ BK521.out))
  refine bodyPost_ret (results_cc rfl _ _ gb520 gb521 50 142 #[.int .u64 0,.int .u64 0,.int .u64 0,.int .u64 0] #[.string (⟨#[]⟩:ByteArray),.bool true] (0,0) (0,0) _ _ rfl (by (repeat (first|(with_reducible first|refine blk_drewN ?_ _|refine blk_drew ?_|refine blk_alloc ?_ _)|refine blk_far ?_ NB520_521.out _));refine blk_put (cs:=#[.int .u64 0,.int .u64 0,.int .u64 0,.int .u64 0]) ?_ 3 _ rfl;refine Kv_ ?_;exact Kput4_abc_ (Kq_ BK520)) Try.underlying50 rfl (by kernel_rfl) rfl (by refine Kv_ ?_;refine blk_put (cs:=#[.string (⟨#[]⟩:ByteArray),.bool false]) ?_ 1 _ rfl;refine Kv_ ?_;refine blk_put (cs:=#[.string (⟨#[]⟩:ByteArray),.bool false]) ?_ 0 _ rfl;exact K1b_ BK521 NB521_520) Try.underlying142 rfl (by kernel_rfl)) rfl ?_
  exact ⟨Kh_,by repeat (first|(with_reducible first|exact HB.out|apply below_alloc|apply pw_below_drewN|apply below_drew1|refine below_set ?_ GW519.out|refine below_set ?_ GW520.out|refine below_set ?_ GW521.out|refine below_set ?_ GW525.out|refine below_set ?_ GW529.out|refine below_set ?_ GW533.out|refine below_set ?_ GW537.out|refine below_set ?_ GW538.out)|exact HB.out)⟩
 subst c57
 rw [if_pos rfl] at H
 simp only [Option.some.injEq,Prod.mk.injEq] at H
 obtain ⟨rfl,rfl,rfl,rfl,rfl,rfl⟩:=H
 go_enter Try.func107,Try.ntmps107
 try go_wp2_with (first|((with_reducible refine gate_dst (N:=1) rfl ?_);refine Ka_ 1 #[.string a0_0,.bool a0_1] 142 ?_;intro gb519 hg w58 hbox hb;have BK519:=As_ (hbox);have GW519:=Kw_ HB hg;replace HB:=Ks_ HB hb;clear hb hbox hg)|((with_reducible refine gate_dst (N:=2) rfl ?_);refine Ka_ 2 #[.int .u64 0,.int .u64 0,.int .u64 0,.int .u64 0] 50 ?_;intro gb520 hg w59 hbox hb;have BK520:=As_ (hbox);have GW520:=Kw_ HB hg;have NB519_520:=Kl_ BK519 hg;have NB520_519:=Kr_ BK519 hg;replace BK519:=Kb_ BK519 hb;replace HB:=Ks_ HB hb;clear hb hbox hg)|((with_reducible refine gate_dst (N:=3) rfl ?_);refine Ka_ 3 #[.string (⟨#[]⟩:ByteArray),.bool false] 142 ?_;intro gb521 hg w60 hbox hb;have BK521:=As_ (hbox);have GW521:=Kw_ HB hg;have NB519_521:=Kl_ BK519 hg;have NB521_519:=Kr_ BK519 hg;have NB520_521:=Kl_ BK520 hg;have NB521_520:=Kr_ BK520 hg;replace BK519:=Kb_ BK519 hb;replace BK520:=Kb_ BK520 hb;replace HB:=Ks_ HB hb;clear hb hbox hg;have hnb61:=NB519_520.out;have hnc61:=NB520_519.out;have hnb62:=NB519_521.out;have hnc62:=NB521_519.out;obtain ⟨_,_,_,_⟩:=Ke2_ BK519.out)|((with_reducible refine gate_callee (f:=80) rfl ?_);refine Kg_ (some 15) rfl rfl Try.func80 (by kernel_rfl) rfl #[.agg #[.string a0_0,.bool a0_1]] rfl ?_;(with_reducible refine (R02_Reader_Vary.calls k a0_0 a0_1 t522 t523 t524 _ A2.out).mono ?_);rintro e w64 ⟨rfl,hb⟩;refine ⟨_,rfl,?_⟩;replace BK519:=Kb_ BK519 hb;replace BK520:=Kb_ BK520 hb;replace BK521:=Kb_ BK521 hb;replace HB:=Ks_ HB hb;(try clear hb))|((with_reducible refine gate_dst (N:=5) rfl ?_);refine Ka_ 5 #[.string (⟨#[]⟩:ByteArray),.bool false] 142 ?_;intro gb525 hg w65 hbox hb;have BK525:=As_ (hbox);have GW525:=Kw_ HB hg;have NB519_525:=Kl_ BK519 hg;have NB525_519:=Kr_ BK519 hg;have NB520_525:=Kl_ BK520 hg;have NB525_520:=Kr_ BK520 hg;have NB521_525:=Kl_ BK521 hg;have NB525_521:=Kr_ BK521 hg;replace BK519:=Kb_ BK519 hb;replace BK520:=Kb_ BK520 hb;replace BK521:=Kb_ BK521 hb;replace HB:=Ks_ HB hb;clear hb hbox hg;have hnb66:=NB525_519.out;have hnc66:=NB519_525.out;have hnb67:=NB525_520.out;have hnc67:=NB520_525.out;have hnb68:=NB525_521.out;have hnc68:=NB521_525.out;obtain ⟨_,_,_,_⟩:=Ke2_ BK525.out)|((with_reducible refine gate_callee (f:=80) rfl ?_);refine Kg_ (some 20) rfl rfl Try.func80 (by kernel_rfl) rfl #[.agg #[.string t523,.bool t524]] rfl ?_;(with_reducible refine (R02_Reader_Vary.calls k t523 t524 t526 t527 t528 _ A3.out).mono ?_);rintro e w70 ⟨rfl,hb⟩;refine ⟨_,rfl,?_⟩;replace BK519:=Kf_ BK519 NB519_525 hb;replace BK520:=Kf_ BK520 NB520_525 hb;replace BK521:=Kf_ BK521 NB521_525 hb;replace BK525:=As_ (blk_below (Kput2_ (Kq_ BK525)) hb);replace HB:=Kt_ HB GW525 hb;(try clear hb))|((with_reducible refine gate_dst (N:=7) rfl ?_);refine Ka_ 7 #[.string (⟨#[]⟩:ByteArray),.bool false] 142 ?_;intro gb529 hg w71 hbox hb;have BK529:=As_ (hbox);have GW529:=Kw_ HB hg;have NB519_529:=Kl_ BK519 hg;have NB529_519:=Kr_ BK519 hg;have NB520_529:=Kl_ BK520 hg;have NB529_520:=Kr_ BK520 hg;have NB521_529:=Kl_ BK521 hg;have NB529_521:=Kr_ BK521 hg;have NB525_529:=Kl_ BK525 hg;have NB529_525:=Kr_ BK525 hg;replace BK519:=Kb_ BK519 hb;replace BK520:=Kb_ BK520 hb;replace BK521:=Kb_ BK521 hb;replace BK525:=Kb_ BK525 hb;replace HB:=Ks_ HB hb;clear hb hbox hg;have hnb72:=NB529_519.out;have hnc72:=NB519_529.out;have hnb73:=NB529_520.out;have hnc73:=NB520_529.out;have hnb74:=NB529_521.out;have hnc74:=NB521_529.out;have hnb75:=NB529_525.out;have hnc75:=NB525_529.out;obtain ⟨_,_,_,_⟩:=Ke2_ BK529.out)|((with_reducible refine gate_callee (f:=80) rfl ?_);refine Kg_ (some 25) rfl rfl Try.func80 (by kernel_rfl) rfl #[.agg #[.string t527,.bool t528]] rfl ?_;(with_reducible refine (R02_Reader_Vary.calls k t527 t528 t530 t531 t532 _ A4.out).mono ?_);rintro e w77 ⟨rfl,hb⟩;refine ⟨_,rfl,?_⟩;replace BK519:=Kf_ BK519 NB519_529 hb;replace BK520:=Kf_ BK520 NB520_529 hb;replace BK521:=Kf_ BK521 NB521_529 hb;replace BK525:=Kf_ BK525 NB525_529 hb;replace BK529:=As_ (blk_below (Kput2_ (Kq_ BK529)) hb);replace HB:=Kt_ HB GW529 hb;(try clear hb))|((with_reducible refine gate_dst (N:=9) rfl ?_);refine Ka_ 9 #[.string (⟨#[]⟩:ByteArray),.bool false] 142 ?_;intro gb533 hg w78 hbox hb;have BK533:=As_ (hbox);have GW533:=Kw_ HB hg;have NB519_533:=Kl_ BK519 hg;have NB533_519:=Kr_ BK519 hg;have NB520_533:=Kl_ BK520 hg;have NB533_520:=Kr_ BK520 hg;have NB521_533:=Kl_ BK521 hg;have NB533_521:=Kr_ BK521 hg;have NB525_533:=Kl_ BK525 hg;have NB533_525:=Kr_ BK525 hg;have NB529_533:=Kl_ BK529 hg;have NB533_529:=Kr_ BK529 hg;replace BK519:=Kb_ BK519 hb;replace BK520:=Kb_ BK520 hb;replace BK521:=Kb_ BK521 hb;replace BK525:=Kb_ BK525 hb;replace BK529:=Kb_ BK529 hb;replace HB:=Ks_ HB hb;clear hb hbox hg;have hnb79:=NB533_519.out;have hnc79:=NB519_533.out;have hnb80:=NB533_520.out;have hnc80:=NB520_533.out;have hnb81:=NB533_521.out;have hnc81:=NB521_533.out;have hnb82:=NB533_525.out;have hnc82:=NB525_533.out;have hnb83:=NB533_529.out;have hnc83:=NB529_533.out;obtain ⟨_,_,_,_⟩:=Ke2_ BK533.out)|((with_reducible refine gate_callee (f:=80) rfl ?_);refine Kg_ (some 30) rfl rfl Try.func80 (by kernel_rfl) rfl #[.agg #[.string t531,.bool t532]] rfl ?_;(with_reducible refine (R02_Reader_Vary.calls k t531 t532 t534 t535 false _ A5.out).mono ?_);rintro e w85 ⟨rfl,hb⟩;refine ⟨_,rfl,?_⟩;replace BK519:=Kf_ BK519 NB519_533 hb;replace BK520:=Kf_ BK520 NB520_533 hb;replace BK521:=Kf_ BK521 NB521_533 hb;replace BK525:=Kf_ BK525 NB525_533 hb;replace BK529:=Kf_ BK529 NB529_533 hb;replace BK533:=As_ (blk_below (Kput2_ (Kq_ BK533)) hb);replace HB:=Kt_ HB GW533 hb;(try clear hb))|((with_reducible refine gate_dst (N:=11) rfl ?_);refine Ka_ 11 #[.string (⟨#[]⟩:ByteArray),.bool false] 142 ?_;intro gb537 hg w86 hbox hb;have BK537:=As_ (hbox);have GW537:=Kw_ HB hg;have NB519_537:=Kl_ BK519 hg;have NB537_519:=Kr_ BK519 hg;have NB520_537:=Kl_ BK520 hg;have NB537_520:=Kr_ BK520 hg;have NB521_537:=Kl_ BK521 hg;have NB537_521:=Kr_ BK521 hg;have NB525_537:=Kl_ BK525 hg;have NB537_525:=Kr_ BK525 hg;have NB529_537:=Kl_ BK529 hg;have NB537_529:=Kr_ BK529 hg;have NB533_537:=Kl_ BK533 hg;have NB537_533:=Kr_ BK533 hg;replace BK519:=Kb_ BK519 hb;replace BK520:=Kb_ BK520 hb;replace BK521:=Kb_ BK521 hb;replace BK525:=Kb_ BK525 hb;replace BK529:=Kb_ BK529 hb;replace BK533:=Kb_ BK533 hb;replace HB:=Ks_ HB hb;clear hb hbox hg;have hnb87:=NB537_519.out;have hnc87:=NB519_537.out;have hnb88:=NB537_520.out;have hnc88:=NB520_537.out;have hnb89:=NB537_521.out;have hnc89:=NB521_537.out;have hnb90:=NB537_525.out;have hnc90:=NB525_537.out;have hnb91:=NB537_529.out;have hnc91:=NB529_537.out;have hnb92:=NB537_533.out;have hnc92:=NB533_537.out;obtain ⟨_,_,_,_⟩:=Ke2_ BK537.out)|((with_reducible refine gate_dst (N:=12) rfl ?_);refine Ka_ 12 #[.int .u64 0,.int .u64 0,.int .u64 0,.int .u64 0] 50 ?_;intro gb538 hg w94 hbox hb;have BK538:=As_ (hbox);have GW538:=Kx_ HB GW537 hg;have NB519_538:=As_ ((by rw [hg];exact Nat.ne_of_lt (blk_lt (g:=gb519) (o:=.cells #[.string a0_0,.bool a0_1] 142 (0,0)) (K1b_ BK519 NB519_537)):gb519 ≠ gb538));have NB538_519:=As_ ((by rw [hg];exact Nat.ne_of_gt (blk_lt (g:=gb519) (o:=.cells #[.string a0_0,.bool a0_1] 142 (0,0)) (K1b_ BK519 NB519_537)):gb538 ≠ gb519));have NB520_538:=As_ ((by rw [hg];exact Nat.ne_of_lt (blk_lt (g:=gb520) (o:=.cells #[.int .u64 0,.int .u64 0,.int .u64 0,.int .u64 0] 50 (0,0)) (K1b_ BK520 NB520_537)):gb520 ≠ gb538));have NB538_520:=As_ ((by rw [hg];exact Nat.ne_of_gt (blk_lt (g:=gb520) (o:=.cells #[.int .u64 0,.int .u64 0,.int .u64 0,.int .u64 0] 50 (0,0)) (K1b_ BK520 NB520_537)):gb538 ≠ gb520));have NB521_538:=As_ ((by rw [hg];exact Nat.ne_of_lt (blk_lt (g:=gb521) (o:=.cells #[.string (⟨#[]⟩:ByteArray),.bool false] 142 (0,0)) (K1b_ BK521 NB521_537)):gb521 ≠ gb538));have NB538_521:=As_ ((by rw [hg];exact Nat.ne_of_gt (blk_lt (g:=gb521) (o:=.cells #[.string (⟨#[]⟩:ByteArray),.bool false] 142 (0,0)) (K1b_ BK521 NB521_537)):gb538 ≠ gb521));have NB525_538:=As_ ((by rw [hg];exact Nat.ne_of_lt (blk_lt (g:=gb525) (o:=.cells #[.string t523,.bool t524] 142 (0,0)) (K1b_ BK525 NB525_537)):gb525 ≠ gb538));have NB538_525:=As_ ((by rw [hg];exact Nat.ne_of_gt (blk_lt (g:=gb525) (o:=.cells #[.string t523,.bool t524] 142 (0,0)) (K1b_ BK525 NB525_537)):gb538 ≠ gb525));have NB529_538:=As_ ((by rw [hg];exact Nat.ne_of_lt (blk_lt (g:=gb529) (o:=.cells #[.string t527,.bool t528] 142 (0,0)) (K1b_ BK529 NB529_537)):gb529 ≠ gb538));have NB538_529:=As_ ((by rw [hg];exact Nat.ne_of_gt (blk_lt (g:=gb529) (o:=.cells #[.string t527,.bool t528] 142 (0,0)) (K1b_ BK529 NB529_537)):gb538 ≠ gb529));have NB533_538:=As_ ((by rw [hg];exact Nat.ne_of_lt (blk_lt (g:=gb533) (o:=.cells #[.string t531,.bool t532] 142 (0,0)) (K1b_ BK533 NB533_537)):gb533 ≠ gb538));have NB538_533:=As_ ((by rw [hg];exact Nat.ne_of_gt (blk_lt (g:=gb533) (o:=.cells #[.string t531,.bool t532] 142 (0,0)) (K1b_ BK533 NB533_537)):gb538 ≠ gb533));have NB537_538:=As_ ((by rw [hg];exact Nat.ne_of_lt (blk_lt (g:=gb537) (o:=.cells #[.string t535,.bool false] 142 (0,0)) (by refine Kv_ ?_;exact Kput2_ (Kq_ BK537))):gb537 ≠ gb538));have NB538_537:=As_ ((by rw [hg];exact Nat.ne_of_gt (blk_lt (g:=gb537) (o:=.cells #[.string t535,.bool false] 142 (0,0)) (by refine Kv_ ?_;exact Kput2_ (Kq_ BK537))):gb538 ≠ gb537));replace BK519:=Kf_ BK519 NB519_537 hb;replace BK520:=Kf_ BK520 NB520_537 hb;replace BK521:=Kf_ BK521 NB521_537 hb;replace BK525:=Kf_ BK525 NB525_537 hb;replace BK529:=Kf_ BK529 NB529_537 hb;replace BK533:=Kf_ BK533 NB533_537 hb;replace BK537:=As_ (blk_below (Kput2_ (Kq_ BK537)) hb);replace HB:=Kt_ HB GW537 hb;clear hb hbox hg;have hnb95:=NB538_519.out;have hnc95:=NB519_538.out;have hnb96:=NB538_520.out;have hnc96:=NB520_538.out;have hnb97:=NB538_521.out;have hnc97:=NB521_538.out;have hnb98:=NB538_525.out;have hnc98:=NB525_538.out;have hnb99:=NB538_529.out;have hnc99:=NB529_538.out;have hnb100:=NB538_533.out;have hnc100:=NB533_538.out;have hnb101:=NB538_537.out;have hnc101:=NB537_538.out;obtain ⟨_,_,_,_,_,_,_,_⟩:=Ke4_ BK538.out;obtain ⟨_,_,_,_⟩:=Ke2_ BK537.out)|(go_at_call 93;(with_reducible refine (R06_Right.calls k t522 t526 t530 t534 true _ A56.out).mono ?_);rintro e w104 ⟨rfl,hb⟩;replace BK519:=Kf_ BK519 NB519_538 hb;replace BK520:=Kf_ BK520 NB520_538 hb;replace BK521:=Kf_ BK521 NB521_538 hb;replace BK525:=Kf_ BK525 NB525_538 hb;replace BK529:=Kf_ BK529 NB529_538 hb;replace BK533:=Kf_ BK533 NB533_538 hb;replace BK537:=Kf_ BK537 NB537_538 hb;replace BK538:=As_ (blk_below (Kput4_ (Kq_ BK538)) hb);replace HB:=Kt_ HB GW538 hb;(try clear hb)))
 replace BK519:=Kd_ BK519
 replace BK520:=Kd_ BK520
 replace BK521:=Kd_ BK521
 replace BK525:=Kd_ BK525
 replace BK529:=Kd_ BK529
 replace BK533:=Kd_ BK533
 replace BK537:=Kd_ BK537
 replace BK538:=Kd_ BK538
 replace HB:=As_ (below_drew1 HB.out)
 refine start_ (n:=4) (S:=fun w'=>w'.cell? ⟨gb538,0,none⟩=some (.int .u64 t522)∧w'.cell? ⟨gb538,1,none⟩=some (.int .u64 t526)∧w'.cell? ⟨gb538,2,none⟩=some (.int .u64 t530)∧w'.cell? ⟨gb538,3,none⟩=some (.int .u64 t534)∧w'.cell? ⟨gb537,0,none⟩=some (.string t535)∧w'.cell? ⟨gb537,1,none⟩=some (.bool false)) (ds:=[]) (mB_ 4 0) (by kernel_rfl) rfl rfl ⟨Km_ BK538 0,Km_ BK538 1,Km_ BK538 2,Km_ BK538 3,Km_ BK537 0,Km_ BK537 1⟩ (fun hHeld=>?_)
 generalize w104.drew=w105 at BK519 BK520 BK521 BK525 BK529 BK533 BK537 BK538 HB hHeld ⊢
 refine Ko_ 0 47 (mB_ 4 1) (by kernel_rfl) hHeld ?_
 refine Ko_ 1 48 (mB_ 4 3) (by kernel_rfl) hHeld ?_
 refine one_ (i:=2) (N:=none) (mB_ 4 7) rfl rfl (by kernel_rfl) (by decide) (fun K hK=>?_)
 have hs106:w105.cell? ⟨gb520,0,none⟩=some (.int .u64 0):=(blk_cell BK520.out 0).trans rfl
 have hfs106:=blk_frozen BK520.out 0
 have:=NB519_520.out
 have:=NB521_520.out
 have:=NB525_520.out
 have:=NB529_520.out
 have:=NB533_520.out
 have:=NB537_520.out
 have:=NB538_520.out
 have:=NB520_519.out
 have:=NB520_521.out
 have:=NB520_525.out
 have:=NB520_529.out
 have:=NB520_533.out
 have:=NB520_537.out
 have:=NB520_538.out
 have hs107:w105.cell? ⟨gb520,1,none⟩=some (.int .u64 0):=(blk_cell BK520.out 1).trans rfl
 have hfs107:=blk_frozen BK520.out 1
 have:=NB519_520.out
 have:=NB521_520.out
 have:=NB525_520.out
 have:=NB529_520.out
 have:=NB533_520.out
 have:=NB537_520.out
 have:=NB538_520.out
 have:=NB520_519.out
 have:=NB520_521.out
 have:=NB520_525.out
 have:=NB520_529.out
 have:=NB520_533.out
 have:=NB520_537.out
 have:=NB520_538.out
 have hs108:w105.cell? ⟨gb520,2,none⟩=some (.int .u64 0):=(blk_cell BK520.out 2).trans rfl
 have hfs108:=blk_frozen BK520.out 2
 have:=NB519_520.out
 have:=NB521_520.out
 have:=NB525_520.out
 have:=NB529_520.out
 have:=NB533_520.out
 have:=NB537_520.out
 have:=NB538_520.out
 have:=NB520_519.out
 have:=NB520_521.out
 have:=NB520_525.out
 have:=NB520_529.out
 have:=NB520_533.out
 have:=NB520_537.out
 have:=NB520_538.out
 have hs109:w105.cell? ⟨gb520,3,none⟩=some (.int .u64 0):=(blk_cell BK520.out 3).trans rfl
 have hfs109:=blk_frozen BK520.out 3
 have:=NB519_520.out
 have:=NB521_520.out
 have:=NB525_520.out
 have:=NB529_520.out
 have:=NB533_520.out
 have:=NB537_520.out
 have:=NB538_520.out
 have:=NB520_519.out
 have:=NB520_521.out
 have:=NB520_525.out
 have:=NB520_529.out
 have:=NB520_533.out
 have:=NB520_537.out
 have:=NB520_538.out
 refine skip_ (w1:=?_) (by rfl) rfl ?_ ?_
 rotate_left
 ·go_simp
  rfl
 refine hK.out _ _ ⟨(Kj_ NB538_520 ((Kj_ NB538_520 ((Kj_ NB538_520 ((Kj_ NB538_520 (hHeld.1)))))))),(Kj_ NB538_520 ((Kj_ NB538_520 ((Kj_ NB538_520 ((Kj_ NB538_520 (hHeld.2.1)))))))),(Kj_ NB538_520 ((Kj_ NB538_520 ((Kj_ NB538_520 ((Kj_ NB538_520 (hHeld.2.2.1)))))))),(Kj_ NB538_520 ((Kj_ NB538_520 ((Kj_ NB538_520 ((Kj_ NB538_520 (hHeld.2.2.2.1)))))))),(Kj_ NB537_520 ((Kj_ NB537_520 ((Kj_ NB537_520 ((Kj_ NB537_520 (hHeld.2.2.2.2.1)))))))),(Kj_ NB537_520 ((Kj_ NB537_520 ((Kj_ NB537_520 ((Kj_ NB537_520 (hHeld.2.2.2.2.2))))))))⟩ (fun hHeld=>?_)
 clear hK K
 refine one_ (i:=3) (N:=none) (mB_ 4 15) rfl rfl (by kernel_rfl) (by decide) (fun K hK=>?_)
 have hs110:w105.cell? ⟨gb521,0,none⟩=some (.string (⟨#[]⟩:ByteArray)):=(blk_cell BK521.out 0).trans rfl
 have hfs110:=blk_frozen BK521.out 0
 have:=NB519_521.out
 have:=NB520_521.out
 have:=NB525_521.out
 have:=NB529_521.out
 have:=NB533_521.out
 have:=NB537_521.out
 have:=NB538_521.out
 have:=NB521_519.out
 have:=NB521_520.out
 have:=NB521_525.out
 have:=NB521_529.out
 have:=NB521_533.out
 have:=NB521_537.out
 have:=NB521_538.out
 have hs111:w105.cell? ⟨gb521,1,none⟩=some (.bool false):=(blk_cell BK521.out 1).trans rfl
 have hfs111:=blk_frozen BK521.out 1
 have:=NB519_521.out
 have:=NB520_521.out
 have:=NB525_521.out
 have:=NB529_521.out
 have:=NB533_521.out
 have:=NB537_521.out
 have:=NB538_521.out
 have:=NB521_519.out
 have:=NB521_520.out
 have:=NB521_525.out
 have:=NB521_529.out
 have:=NB521_533.out
 have:=NB521_537.out
 have:=NB521_538.out
 refine skip_ (w1:=?_) (by rfl) rfl ?_ ?_
 rotate_left
 ·go_simp
  rfl
 refine hK.out _ _ ⟨(Kj_ NB538_521 ((Kj_ NB538_521 (hHeld.1)))),(Kj_ NB538_521 ((Kj_ NB538_521 (hHeld.2.1)))),(Kj_ NB538_521 ((Kj_ NB538_521 (hHeld.2.2.1)))),(Kj_ NB538_521 ((Kj_ NB538_521 (hHeld.2.2.2.1)))),(Kj_ NB537_521 ((Kj_ NB537_521 (hHeld.2.2.2.2.1)))),(Kj_ NB537_521 ((Kj_ NB537_521 (hHeld.2.2.2.2.2))))⟩ (fun hHeld=>?_)
 clear hK K
 refine done_ (by kernel_rfl) ?_
 try go_wp2
 refine bodyPost_ret (results_cc rfl _ _ gb520 gb521 50 142 #[.int .u64 t522,.int .u64 t526,.int .u64 t530,.int .u64 t534] #[.string t535,.bool false] (0,0) (0,0) _ _ rfl (by (repeat (first|(with_reducible first|refine blk_drewN ?_ _|refine blk_drew ?_|refine blk_alloc ?_ _)|refine blk_far ?_ NB520_521.out _));refine blk_put (cs:=#[.int .u64 t522,.int .u64 t526,.int .u64 t530,.int .u64 0]) ?_ 3 _ rfl;refine Kv_ ?_;exact Kput4_abc_ (Kq_ BK520)) Try.underlying50 rfl (by kernel_rfl) rfl (by refine Kv_ ?_;refine blk_put (cs:=#[.string t535,.bool false]) ?_ 1 _ rfl;refine Kv_ ?_;refine blk_put (cs:=#[.string (⟨#[]⟩:ByteArray),.bool false]) ?_ 0 _ rfl;exact K1b_ BK521 NB521_520) Try.underlying142 rfl (by kernel_rfl)) rfl ?_
 exact ⟨Kh_,by repeat (first|(with_reducible first|exact HB.out|apply below_alloc|apply pw_below_drewN|apply below_drew1|refine below_set ?_ GW519.out|refine below_set ?_ GW520.out|refine below_set ?_ GW521.out|refine below_set ?_ GW525.out|refine below_set ?_ GW529.out|refine below_set ?_ GW533.out|refine below_set ?_ GW537.out|refine below_set ?_ GW538.out)|exact HB.out)⟩
end Go.Proofs.Ytoagfdpgnfinhaa.Q
