import Derived.Test.YtoagfdpgnfinhaaGStreamGets2
import Derived.Test.YtoagfdpgnfinhaaGStreamGets6
namespace Go.Proofs.Ytoagfdpgnfinhaa.Q
open Go.RowKit Go.Proofs.YtoagfdpgnfinhaaW.PrintWords Go.Proofs.YtoagfdpgnfinhaaW.PrintLast Go.Proofs.YtoagfdpgnfinhaaW.PrintMore
attribute [local go_sem] max2_int min2_int max_two min_two max_three min_three max_four min_four   -- for this text's walks alone
set_option linter.unusedVariables false
set_option linter.unusedSimpArgs false
def L15_Letter_letter.f (k:Nat) (a0_0:Int) (a0_1:Int) (a0_2:Int) (a0_3:Int) (a0_4:Int) (a0_5:Int) (a0_6:Int) (a0_7:Int) (a0_8:Bool) (l0_9:List (S159)) (a0_10:Bool) (a0_11:Bool):Option (Int × Int × Int × Int × Int × Int × Int × Int × (List (S107))):=if a0_11=true then (if (wrap64 (1+(wrap64 (Int.tmod (IntKind.u64.wrap (a0_0)) 2))))=1 then ((L15_Deal_deal.f k a0_3 a0_4 a0_5 a0_6 a0_7 a0_8 l0_9 true).bind fun bt359=>((stamp_Stamp_N.f bt359.1 bt359.2.1 bt359.2.2.1 bt359.2.2.2.1 bt359.2.2.2.2.1).bind fun t367=>(some (wrap64 (1+(wrap64 (Int.tmod (IntKind.u64.wrap (a0_0)) 2))),wrap64 (1+(wrap64 (Int.tmod (IntKind.u64.wrap (a0_1)) 4))),t367,bt359.1,bt359.2.1,bt359.2.2.1,bt359.2.2.2.1,bt359.2.2.2.2.1,bt359.2.2.2.2.2)))) else (some (wrap64 (1+(wrap64 (Int.tmod (IntKind.u64.wrap (a0_0)) 2))),wrap64 (1+(wrap64 (Int.tmod (IntKind.u64.wrap (a0_1)) 4))),Int.tmod a0_2 9,0,0,0,0,0,([]:List (S107))))) else ((L15_Deal_deal.f k a0_3 a0_4 a0_5 a0_6 a0_7 a0_8 l0_9 a0_10).bind fun bt350=>(some (a0_0,a0_1,a0_2,bt350.1,bt350.2.1,bt350.2.2.1,bt350.2.2.2.1,bt350.2.2.2.2.1,bt350.2.2.2.2.2)))
def L15_Letter_letter.T2:Bool × List (List Nat × List Nat):=(true,[([],[]),([0],[0]),([],[]),([2],[2]),([],[]),([4],[4]),([],[]),([6],[6]),([7],[7]),([1,3,5,8],[1,3,5,8]),([9,8,0,1,2,3,4,5,6,7,8,9],[9])])
def L15_Letter_letter.B2:List Nat:=[0,1,0,4,0,16,0,64,192,511,1023]
theorem L15_Letter_letter.tab2:rtab .any (opsOf Try.f26 2)=L15_Letter_letter.T2:=by kernel_rfl
theorem L15_Letter_letter.bits2:waitsOk L15_Letter_letter.T2.2 L15_Letter_letter.B2=true:=by kernel_rfl
set_option maxHeartbeats 8000000 in
set_option maxRecDepth 100000 in
theorem L15_Letter_letter.calls (k:Nat) (a0_0:Int) (a0_1:Int) (a0_2:Int) (a0_3:Int) (a0_4:Int) (a0_5:Int) (a0_6:Int) (a0_7:Int) (a0_8:Bool) (A0_9:Option Addr) (c0_9:Nat) (l0_9:List (S159)) (a0_10:Bool) (a0_11:Bool) (r1:Int) (r2:Int) (r3:Int) (r4:Int) (r5:Int) (r6:Int) (r7:Int) (r8:Int) (r9:List (S107)) (w:World) (hr0_9:Kd.C k159 w A0_9 l0_9.length l0_9) (hc0_9:l0_9.length≤c0_9) (h:L15_Letter_letter.f k a0_0 a0_1 a0_2 a0_3 a0_4 a0_5 a0_6 a0_7 a0_8 l0_9 a0_10 a0_11=some (r1,r2,r3,r4,r5,r6,r7,r8,r9)) :
  Calls Try.prog 26 #[.agg #[.int .i64 a0_0,.int .i64 a0_1,.int .u64 a0_2,.int .u64 a0_3,.int .u64 a0_4,.int .u64 a0_5,.int .u64 a0_6,.int .i64 a0_7,.bool a0_8,.slice A0_9 l0_9.length c0_9,.bool a0_10,.bool a0_11]] w fun e w'=>∃ v8_:Value,e = .returned (.agg #[.int .i64 r1,.int .i64 r2,.int .u64 r3,.int .u64 r4,.int .u64 r5,.int .u64 r6,.int .u64 r7,.int .i64 r8,v8_])∧Kd.R k107 107 w' w.heap.size (fun _=>True) v8_ r9∧Below w.heap.size w w':=by
 have hu65:=Try.underlying65
 have hu69:=Try.underlying69
 have hu42:=Try.underlying42
 have hu33:=Try.underlying33
 have hu30:=Try.underlying30
 have HR0_9:=As_ hr0_9
 have HC0_9:=As_ hc0_9
 clear hr0_9 hc0_9
 have HB:=As_ (Below.refl w.heap.size w)
 unfold L15_Letter_letter.f at h
 have H:=h
 clear h
 by_cases c2:a0_11=true
 rotate_left
 ·replace c2:=Bool.eq_false_iff.mpr c2
  subst c2
  rw [if_neg Bool.false_ne_true] at H
  obtain ⟨⟨t350,t351,t352,t353,t354,t355⟩,A30,H⟩:=Kbind_ H
  (try dsimp only at H)
  simp only [Option.some.injEq,Prod.mk.injEq] at H
  obtain ⟨rfl,rfl,rfl,rfl,rfl,rfl,rfl,rfl,rfl⟩:=H
  go_enter Try.func26,Try.ntmps26
  try go_wp2_with (first|((with_reducible refine gate_dst (N:=1) rfl ?_);refine Ka_ 1 #[.int .i64 a0_0,.int .i64 a0_1,.int .u64 a0_2,.int .u64 a0_3,.int .u64 a0_4,.int .u64 a0_5,.int .u64 a0_6,.int .i64 a0_7,.bool a0_8,.slice A0_9 l0_9.length c0_9,.bool a0_10,.bool false] 65 ?_;intro gb348 hg w31 hbox hb;have BK348:=As_ (hbox);have GW348:=Kw_ HB hg;replace HB:=Ks_ HB hb;clear hb hbox hg)|((with_reducible refine gate_dst (N:=2) rfl ?_);refine Ka_ 2 #[.int .i64 0,.int .i64 0,.int .u64 0,.int .u64 0,.int .u64 0,.int .u64 0,.int .u64 0,.int .i64 0,.slice none 0 0] 69 ?_;intro gb349 hg w32 hbox hb;have BK349:=As_ (hbox);have GW349:=Kw_ HB hg;have NB348_349:=Kl_ BK348 hg;have NB349_348:=Kr_ BK348 hg;replace BK348:=Kb_ BK348 hb;replace HB:=Ks_ HB hb;clear hb hbox hg;have hnb33:=NB348_349.out;have hnc33:=NB349_348.out;have hcz34_0:w32.cell? ⟨gb348,0,none⟩=some (.int .i64 a0_0):=(blk_cell BK348.out 0).trans rfl;have hcz34_1:w32.cell? ⟨gb348,1,none⟩=some (.int .i64 a0_1):=(blk_cell BK348.out 1).trans rfl;have hcz34_2:w32.cell? ⟨gb348,2,none⟩=some (.int .u64 a0_2):=(blk_cell BK348.out 2).trans rfl;have hcz34_3:w32.cell? ⟨gb348,3,none⟩=some (.int .u64 a0_3):=(blk_cell BK348.out 3).trans rfl;have hcz34_4:w32.cell? ⟨gb348,4,none⟩=some (.int .u64 a0_4):=(blk_cell BK348.out 4).trans rfl;have hcz34_5:w32.cell? ⟨gb348,5,none⟩=some (.int .u64 a0_5):=(blk_cell BK348.out 5).trans rfl;have hcz34_6:w32.cell? ⟨gb348,6,none⟩=some (.int .u64 a0_6):=(blk_cell BK348.out 6).trans rfl;have hcz34_7:w32.cell? ⟨gb348,7,none⟩=some (.int .i64 a0_7):=(blk_cell BK348.out 7).trans rfl;have hcz34_8:w32.cell? ⟨gb348,8,none⟩=some (.bool a0_8):=(blk_cell BK348.out 8).trans rfl;have hcz34_9:w32.cell? ⟨gb348,9,none⟩=some (.slice A0_9 l0_9.length c0_9):=(blk_cell BK348.out 9).trans rfl;have hcz34_10:w32.cell? ⟨gb348,10,none⟩=some (.bool a0_10):=(blk_cell BK348.out 10).trans rfl;have hcz34_11:w32.cell? ⟨gb348,11,none⟩=some (.bool false):=(blk_cell BK348.out 11).trans rfl;have hfz34_0:=blk_frozen BK348.out 0;have hfz34_1:=blk_frozen BK348.out 1;have hfz34_2:=blk_frozen BK348.out 2;have hfz34_3:=blk_frozen BK348.out 3;have hfz34_4:=blk_frozen BK348.out 4;have hfz34_5:=blk_frozen BK348.out 5;have hfz34_6:=blk_frozen BK348.out 6;have hfz34_7:=blk_frozen BK348.out 7;have hfz34_8:=blk_frozen BK348.out 8;have hfz34_9:=blk_frozen BK348.out 9;have hfz34_10:=blk_frozen BK348.out 10;have hfz34_11:=blk_frozen BK348.out 11))
  replace BK348:=Kd_ BK348
  replace BK349:=Kd_ BK349
  replace HB:=As_ (below_drew1 HB.out)
  refine start_ (n:=11) (S:=fun w'=>w'.cell? ⟨gb348,0,none⟩=some (.int .i64 a0_0)∧w'.cell? ⟨gb348,1,none⟩=some (.int .i64 a0_1)∧w'.cell? ⟨gb348,2,none⟩=some (.int .u64 a0_2)∧w'.cell? ⟨gb348,3,none⟩=some (.int .u64 a0_3)∧w'.cell? ⟨gb348,4,none⟩=some (.int .u64 a0_4)∧w'.cell? ⟨gb348,5,none⟩=some (.int .u64 a0_5)∧w'.cell? ⟨gb348,6,none⟩=some (.int .u64 a0_6)∧w'.cell? ⟨gb348,7,none⟩=some (.int .i64 a0_7)∧w'.cell? ⟨gb348,8,none⟩=some (.bool a0_8)∧w'.cell? ⟨gb348,9,none⟩=some (.slice A0_9 l0_9.length c0_9)∧w'.cell? ⟨gb348,10,none⟩=some (.bool a0_10)∧w'.cell? ⟨gb348,11,none⟩=some (.bool false)) (ds:=[]) (mB_ 11 0) (by kernel_rfl) rfl rfl ⟨Km_ BK348 0,Km_ BK348 1,Km_ BK348 2,Km_ BK348 3,Km_ BK348 4,Km_ BK348 5,Km_ BK348 6,Km_ BK348 7,Km_ BK348 8,Km_ BK348 9,Km_ BK348 10,Km_ BK348 11⟩ (fun hHeld=>?_);refine with_tabW L15_Letter_letter.tab2 L15_Letter_letter.bits2 (fun HT_ HW_=>?_)
  generalize w32.drew=w35 at BK348 BK349 HB hHeld ⊢
  refine Kp_ 0 7 (mB_ 11 1) (any_of HT_.out (by kernel_rfl)) ?_
  refine Kp_ 2 9 (mB_ 11 5) (any_of HT_.out (by kernel_rfl)) ?_
  refine Kp_ 4 11 (mB_ 11 21) (any_of HT_.out (by kernel_rfl)) ?_
  refine Kp_ 6 13 (mB_ 11 85) (any_of HT_.out (by kernel_rfl)) ?_
  refine Ko_ 1 8 (mB_ 11 87) (take_ofW HT_.out HW_.out (by kernel_rfl)) hHeld ?_
  refine Ko_ 3 10 (mB_ 11 95) (take_ofW HT_.out HW_.out (by kernel_rfl)) hHeld ?_
  refine Ko_ 5 12 (mB_ 11 127) (take_ofW HT_.out HW_.out (by kernel_rfl)) hHeld ?_
  refine Ko_ 7 14 (mB_ 11 255) (take_ofW HT_.out HW_.out (by kernel_rfl)) hHeld ?_
  refine one_ (i:=8) (N:=some 15) (mB_ 11 511) rfl rfl (one_of HT_.out (by kernel_rfl)) (by decide) (fun K hK=>?_)
  refine goes_ Try.func19 (by kernel_rfl) rfl #[.agg #[.int .u64 a0_3,.int .u64 a0_4,.int .u64 a0_5,.int .u64 a0_6,.int .i64 a0_7,.bool a0_8,.slice A0_9 l0_9.length c0_9,.bool a0_10]] (by rfl) rfl rfl (by (try simp only [List.map_toArray,List.map_cons,List.map_nil]);first|done|rfl|(simp only [List.length_drop,List.length_take];rfl)) ?_
  with_reducible refine (L15_Deal_deal.calls k a0_3 a0_4 a0_5 a0_6 a0_7 a0_8 _ _ l0_9 a0_10 t350 t351 t352 t353 t354 t355 _ ?side1 ?side2 A30.out).mono ?_
  (case side1=>repeat (first|exact (Kd.C_below HR0_9.out HB.out)|(with_reducible refine Kd.C_alloc ?_ _)|(with_reducible refine Kd.C_drewN ?_ _)|(with_reducible refine Kd.C_drew ?_)))
  (case side2=>exact HC0_9.out)
  rintro e w36 ⟨v356,rfl,ho0,hb⟩
  refine ⟨_,rfl,?_⟩
  have HO357:=As_ (Kd.R_lower ho0 (below_size (K2a_ HB GW348 GW349)))
  replace BK348:=Kb_ BK348 hb
  replace BK349:=Kb_ BK349 hb
  replace HB:=Ks_ HB hb
  (try clear hb)
  (try clear hb2)
  (try clear hk)
  (try clear hi)
  (try clear ho0)
  obtain ⟨Ao37,co37,eo37⟩:=Kd.R_slice HO357.out
  (first|subst eo37|(injection eo37 with f1_ f2_ f3_;have f4_:=f1_.symm;have f5_:=f3_.symm;clear f1_ f2_ f3_;subst f4_;subst f5_))
  refine hK.out _ _ ⟨Km_ BK348 0,Km_ BK348 1,Km_ BK348 2,Km_ BK348 3,Km_ BK348 4,Km_ BK348 5,Km_ BK348 6,Km_ BK348 7,Km_ BK348 8,Km_ BK348 9,Km_ BK348 10,Km_ BK348 11⟩ (fun hHeld=>?_)
  clear hK K
  refine Kn_ 15 ?_
  refine Kp_ 9 16 (mB_ 11 1023) (any_of HT_.out (by kernel_rfl)) ?_
  refine one_ (i:=10) (N:=none) (mB_ 11 2047) rfl rfl (one_of HT_.out (by kernel_rfl)) (by decide) (fun K hK=>?_)
  have hs38:w36.cell? ⟨gb349,0,none⟩=some (.int .i64 0):=(blk_cell BK349.out 0).trans rfl
  have hfs38:=blk_frozen BK349.out 0
  have:=NB348_349.out
  have:=NB349_348.out
  have hs39:w36.cell? ⟨gb349,1,none⟩=some (.int .i64 0):=(blk_cell BK349.out 1).trans rfl
  have hfs39:=blk_frozen BK349.out 1
  have:=NB348_349.out
  have:=NB349_348.out
  have hs40:w36.cell? ⟨gb349,2,none⟩=some (.int .u64 0):=(blk_cell BK349.out 2).trans rfl
  have hfs40:=blk_frozen BK349.out 2
  have:=NB348_349.out
  have:=NB349_348.out
  have hs41:w36.cell? ⟨gb349,3,none⟩=some (.int .u64 0):=(blk_cell BK349.out 3).trans rfl
  have hfs41:=blk_frozen BK349.out 3
  have:=NB348_349.out
  have:=NB349_348.out
  have hs42:w36.cell? ⟨gb349,4,none⟩=some (.int .u64 0):=(blk_cell BK349.out 4).trans rfl
  have hfs42:=blk_frozen BK349.out 4
  have:=NB348_349.out
  have:=NB349_348.out
  have hs43:w36.cell? ⟨gb349,5,none⟩=some (.int .u64 0):=(blk_cell BK349.out 5).trans rfl
  have hfs43:=blk_frozen BK349.out 5
  have:=NB348_349.out
  have:=NB349_348.out
  have hs44:w36.cell? ⟨gb349,6,none⟩=some (.int .u64 0):=(blk_cell BK349.out 6).trans rfl
  have hfs44:=blk_frozen BK349.out 6
  have:=NB348_349.out
  have:=NB349_348.out
  have hs45:w36.cell? ⟨gb349,7,none⟩=some (.int .i64 0):=(blk_cell BK349.out 7).trans rfl
  have hfs45:=blk_frozen BK349.out 7
  have:=NB348_349.out
  have:=NB349_348.out
  have hs46:w36.cell? ⟨gb349,8,none⟩=some (.slice none 0 0):=(blk_cell BK349.out 8).trans rfl
  have hfs46:=blk_frozen BK349.out 8
  have:=NB348_349.out
  have:=NB349_348.out
  refine skip_ (w1:=?_) (by rfl) rfl ?_ ?_
  rotate_left
  ·go_simp
   rfl
  refine hK.out _ _ ⟨(Kj_ NB348_349 ((Kj_ NB348_349 ((Kj_ NB348_349 ((Kj_ NB348_349 ((Kj_ NB348_349 ((Kj_ NB348_349 ((Kj_ NB348_349 ((Kj_ NB348_349 ((Kj_ NB348_349 (hHeld.1)))))))))))))))))),(Kj_ NB348_349 ((Kj_ NB348_349 ((Kj_ NB348_349 ((Kj_ NB348_349 ((Kj_ NB348_349 ((Kj_ NB348_349 ((Kj_ NB348_349 ((Kj_ NB348_349 ((Kj_ NB348_349 (hHeld.2.1)))))))))))))))))),(Kj_ NB348_349 ((Kj_ NB348_349 ((Kj_ NB348_349 ((Kj_ NB348_349 ((Kj_ NB348_349 ((Kj_ NB348_349 ((Kj_ NB348_349 ((Kj_ NB348_349 ((Kj_ NB348_349 (hHeld.2.2.1)))))))))))))))))),(Kj_ NB348_349 ((Kj_ NB348_349 ((Kj_ NB348_349 ((Kj_ NB348_349 ((Kj_ NB348_349 ((Kj_ NB348_349 ((Kj_ NB348_349 ((Kj_ NB348_349 ((Kj_ NB348_349 (hHeld.2.2.2.1)))))))))))))))))),(Kj_ NB348_349 ((Kj_ NB348_349 ((Kj_ NB348_349 ((Kj_ NB348_349 ((Kj_ NB348_349 ((Kj_ NB348_349 ((Kj_ NB348_349 ((Kj_ NB348_349 ((Kj_ NB348_349 (hHeld.2.2.2.2.1)))))))))))))))))),(Kj_ NB348_349 ((Kj_ NB348_349 ((Kj_ NB348_349 ((Kj_ NB348_349 ((Kj_ NB348_349 ((Kj_ NB348_349 ((Kj_ NB348_349 ((Kj_ NB348_349 ((Kj_ NB348_349 (hHeld.2.2.2.2.2.1)))))))))))))))))),(Kj_ NB348_349 ((Kj_ NB348_349 ((Kj_ NB348_349 ((Kj_ NB348_349 ((Kj_ NB348_349 ((Kj_ NB348_349 ((Kj_ NB348_349 ((Kj_ NB348_349 ((Kj_ NB348_349 (hHeld.2.2.2.2.2.2.1)))))))))))))))))),(Kj_ NB348_349 ((Kj_ NB348_349 ((Kj_ NB348_349 ((Kj_ NB348_349 ((Kj_ NB348_349 ((Kj_ NB348_349 ((Kj_ NB348_349 ((Kj_ NB348_349 ((Kj_ NB348_349 (hHeld.2.2.2.2.2.2.2.1)))))))))))))))))),(Kj_ NB348_349 ((Kj_ NB348_349 ((Kj_ NB348_349 ((Kj_ NB348_349 ((Kj_ NB348_349 ((Kj_ NB348_349 ((Kj_ NB348_349 ((Kj_ NB348_349 ((Kj_ NB348_349 (hHeld.2.2.2.2.2.2.2.2.1)))))))))))))))))),(Kj_ NB348_349 ((Kj_ NB348_349 ((Kj_ NB348_349 ((Kj_ NB348_349 ((Kj_ NB348_349 ((Kj_ NB348_349 ((Kj_ NB348_349 ((Kj_ NB348_349 ((Kj_ NB348_349 (hHeld.2.2.2.2.2.2.2.2.2.1)))))))))))))))))),(Kj_ NB348_349 ((Kj_ NB348_349 ((Kj_ NB348_349 ((Kj_ NB348_349 ((Kj_ NB348_349 ((Kj_ NB348_349 ((Kj_ NB348_349 ((Kj_ NB348_349 ((Kj_ NB348_349 (hHeld.2.2.2.2.2.2.2.2.2.2.1)))))))))))))))))),(Kj_ NB348_349 ((Kj_ NB348_349 ((Kj_ NB348_349 ((Kj_ NB348_349 ((Kj_ NB348_349 ((Kj_ NB348_349 ((Kj_ NB348_349 ((Kj_ NB348_349 ((Kj_ NB348_349 (hHeld.2.2.2.2.2.2.2.2.2.2.2))))))))))))))))))⟩ (fun hHeld=>?_)
  clear hK K
  refine done_ (done_of HT_.out (by kernel_rfl)) ?_
  try go_wp2
  refine bodyPost_ret (results_cell_row rfl _ _ gb349 69 #[.int .i64 a0_0,.int .i64 a0_1,.int .u64 a0_2,.int .u64 t350,.int .u64 t351,.int .u64 t352,.int .u64 t353,.int .i64 t354,.slice Ao37 t355.length co37] (0,0) _ rfl (by refine Kv_ ?_;exact Kput9_ (Kq_ BK349)) Try.underlying69 rfl (by kernel_rfl)) rfl ?_
  exact ⟨_,by first|rfl|(simp [errW_none,errW_some] <;> rfl)|(simp [*,errW_none,errW_some] <;> rfl),by (with_reducible repeat (first|apply Kd.R_alloc|apply Kd.R_drewN|apply Kd.R_drew));exact Kd.R_mono (Kd.R_far (p:=⟨gb349,8,none⟩) (Kd.R_far (p:=⟨gb349,7,none⟩) (Kd.R_far (p:=⟨gb349,6,none⟩) (Kd.R_far (p:=⟨gb349,5,none⟩) (Kd.R_far (p:=⟨gb349,4,none⟩) (Kd.R_far (p:=⟨gb349,3,none⟩) (Kd.R_far (p:=⟨gb349,2,none⟩) (Kd.R_far (p:=⟨gb349,1,none⟩) (Kd.R_far (p:=⟨gb349,0,none⟩) (Kd.R_types HO357.out BK349.out (by decide)) (fun _ hk=>hk.2) (.int .i64 a0_0)) (fun _ hk=>hk.2) (.int .i64 a0_1)) (fun _ hk=>hk.2) (.int .u64 a0_2)) (fun _ hk=>hk.2) (.int .u64 t350)) (fun _ hk=>hk.2) (.int .u64 t351)) (fun _ hk=>hk.2) (.int .u64 t352)) (fun _ hk=>hk.2) (.int .u64 t353)) (fun _ hk=>hk.2) (.int .i64 t354)) (fun _ hk=>hk.2) (.slice Ao37 t355.length co37)) (fun _ hk=>trivial),K2a_ HB GW348 GW349⟩
 subst c2
 rw [if_pos rfl] at H
 by_cases c3:(wrap64 (1+(wrap64 (Int.tmod (IntKind.u64.wrap (a0_0)) 2))))=1
 rotate_left
 ·rw [if_neg c3] at H
  have c3b0:=beq_eq_false_iff_ne.mpr c3
  have c3b1:((wrap64 (1+(wrap64 (Int.tmod (IntKind.u64.wrap (a0_0)) 2)))) != 1)=true:=bne_iff_ne.mpr c3
  simp only [Option.some.injEq,Prod.mk.injEq] at H
  obtain ⟨rfl,rfl,rfl,rfl,rfl,rfl,rfl,rfl,rfl⟩:=H
  go_enter Try.func26,Try.ntmps26
  go_wp2_with (first|((with_reducible refine gate_dst (N:=1) rfl ?_);refine Ka_ 1 #[.int .i64 a0_0,.int .i64 a0_1,.int .u64 a0_2,.int .u64 a0_3,.int .u64 a0_4,.int .u64 a0_5,.int .u64 a0_6,.int .i64 a0_7,.bool a0_8,.slice A0_9 l0_9.length c0_9,.bool a0_10,.bool true] 65 ?_;intro gb348 hg w21 hbox hb;have BK348:=As_ (hbox);have GW348:=Kw_ HB hg;replace HB:=Ks_ HB hb;clear hb hbox hg)|((with_reducible refine gate_dst (N:=2) rfl ?_);refine Ka_ 2 #[.int .i64 0,.int .i64 0,.int .u64 0,.int .u64 0,.int .u64 0,.int .u64 0,.int .u64 0,.int .i64 0,.slice none 0 0] 69 ?_;intro gb349 hg w22 hbox hb;have BK349:=As_ (hbox);have GW349:=Kw_ HB hg;have NB348_349:=Kl_ BK348 hg;have NB349_348:=Kr_ BK348 hg;replace BK348:=Kb_ BK348 hb;replace HB:=Ks_ HB hb;clear hb hbox hg;have hnb23:=NB348_349.out;have hnc23:=NB349_348.out;have hcz24_0:w22.cell? ⟨gb348,0,none⟩=some (.int .i64 a0_0):=(blk_cell BK348.out 0).trans rfl;have hcz24_1:w22.cell? ⟨gb348,1,none⟩=some (.int .i64 a0_1):=(blk_cell BK348.out 1).trans rfl;have hcz24_2:w22.cell? ⟨gb348,2,none⟩=some (.int .u64 a0_2):=(blk_cell BK348.out 2).trans rfl;have hcz24_3:w22.cell? ⟨gb348,3,none⟩=some (.int .u64 a0_3):=(blk_cell BK348.out 3).trans rfl;have hcz24_4:w22.cell? ⟨gb348,4,none⟩=some (.int .u64 a0_4):=(blk_cell BK348.out 4).trans rfl;have hcz24_5:w22.cell? ⟨gb348,5,none⟩=some (.int .u64 a0_5):=(blk_cell BK348.out 5).trans rfl;have hcz24_6:w22.cell? ⟨gb348,6,none⟩=some (.int .u64 a0_6):=(blk_cell BK348.out 6).trans rfl;have hcz24_7:w22.cell? ⟨gb348,7,none⟩=some (.int .i64 a0_7):=(blk_cell BK348.out 7).trans rfl;have hcz24_8:w22.cell? ⟨gb348,8,none⟩=some (.bool a0_8):=(blk_cell BK348.out 8).trans rfl;have hcz24_9:w22.cell? ⟨gb348,9,none⟩=some (.slice A0_9 l0_9.length c0_9):=(blk_cell BK348.out 9).trans rfl;have hcz24_10:w22.cell? ⟨gb348,10,none⟩=some (.bool a0_10):=(blk_cell BK348.out 10).trans rfl;have hcz24_11:w22.cell? ⟨gb348,11,none⟩=some (.bool true):=(blk_cell BK348.out 11).trans rfl;have hfz24_0:=blk_frozen BK348.out 0;have hfz24_1:=blk_frozen BK348.out 1;have hfz24_2:=blk_frozen BK348.out 2;have hfz24_3:=blk_frozen BK348.out 3;have hfz24_4:=blk_frozen BK348.out 4;have hfz24_5:=blk_frozen BK348.out 5;have hfz24_6:=blk_frozen BK348.out 6;have hfz24_7:=blk_frozen BK348.out 7;have hfz24_8:=blk_frozen BK348.out 8;have hfz24_9:=blk_frozen BK348.out 9;have hfz24_10:=blk_frozen BK348.out 10;have hfz24_11:=blk_frozen BK348.out 11)|((with_reducible refine gate_dst (N:=3) rfl ?_);refine Ka_ 3 #[.int .i64 0,.int .i64 0,.int .u64 0,.int .u64 0,.int .u64 0,.int .u64 0,.int .u64 0,.int .i64 0,.slice none 0 0] 69 ?_;intro gb358 hg w25 hbox hb;have BK358:=As_ (hbox);have GW358:=Kw_ HB hg;have NB348_358:=Kl_ BK348 hg;have NB358_348:=Kr_ BK348 hg;have NB349_358:=Kl_ BK349 hg;have NB358_349:=Kr_ BK349 hg;replace BK349:=Kb_ BK349 hb;replace HB:=Ks_ HB hb;clear hb hbox hg;have hnb26:=NB358_348.out;have hnc26:=NB348_358.out;have hnb27:=NB358_349.out;have hnc27:=NB349_358.out;obtain ⟨_,_,_,_,_,_,_,_,_,_,_,_,_,_,_,_,_,_⟩:=Ke9_ BK358.out;obtain ⟨_,_,_,_,_,_,_,_,_,_,_,_,_,_,_,_,_,_⟩:=Ke9_ BK349.out))
  refine bodyPost_ret (results_cell_row rfl _ _ gb349 69 #[.int .i64 (wrap64 (1+(wrap64 (Int.tmod (IntKind.u64.wrap (a0_0)) 2)))),.int .i64 (wrap64 (1+(wrap64 (Int.tmod (IntKind.u64.wrap (a0_1)) 4)))),.int .u64 (Int.tmod a0_2 9),.int .u64 0,.int .u64 0,.int .u64 0,.int .u64 0,.int .i64 0,.slice none 0 0] (0,0) _ rfl (by refine Kv_ ?_;refine blk_put (cs:=#[.int .i64 (wrap64 (1+(wrap64 (Int.tmod (IntKind.u64.wrap (a0_0)) 2)))),.int .i64 (wrap64 (1+(wrap64 (Int.tmod (IntKind.u64.wrap (a0_1)) 4)))),.int .u64 (Int.tmod a0_2 9),.int .u64 0,.int .u64 0,.int .u64 0,.int .u64 0,.int .i64 0,.slice none 0 0]) ?_ 8 _ rfl;refine Kv_ ?_;refine blk_put (cs:=#[.int .i64 (wrap64 (1+(wrap64 (Int.tmod (IntKind.u64.wrap (a0_0)) 2)))),.int .i64 (wrap64 (1+(wrap64 (Int.tmod (IntKind.u64.wrap (a0_1)) 4)))),.int .u64 (Int.tmod a0_2 9),.int .u64 0,.int .u64 0,.int .u64 0,.int .u64 0,.int .i64 0,.slice none 0 0]) ?_ 7 _ rfl;refine Kv_ ?_;refine blk_put (cs:=#[.int .i64 (wrap64 (1+(wrap64 (Int.tmod (IntKind.u64.wrap (a0_0)) 2)))),.int .i64 (wrap64 (1+(wrap64 (Int.tmod (IntKind.u64.wrap (a0_1)) 4)))),.int .u64 (Int.tmod a0_2 9),.int .u64 0,.int .u64 0,.int .u64 0,.int .u64 0,.int .i64 0,.slice none 0 0]) ?_ 6 _ rfl;refine Kv_ ?_;refine blk_put (cs:=#[.int .i64 (wrap64 (1+(wrap64 (Int.tmod (IntKind.u64.wrap (a0_0)) 2)))),.int .i64 (wrap64 (1+(wrap64 (Int.tmod (IntKind.u64.wrap (a0_1)) 4)))),.int .u64 (Int.tmod a0_2 9),.int .u64 0,.int .u64 0,.int .u64 0,.int .u64 0,.int .i64 0,.slice none 0 0]) ?_ 5 _ rfl;refine Kv_ ?_;refine blk_put (cs:=#[.int .i64 (wrap64 (1+(wrap64 (Int.tmod (IntKind.u64.wrap (a0_0)) 2)))),.int .i64 (wrap64 (1+(wrap64 (Int.tmod (IntKind.u64.wrap (a0_1)) 4)))),.int .u64 (Int.tmod a0_2 9),.int .u64 0,.int .u64 0,.int .u64 0,.int .u64 0,.int .i64 0,.slice none 0 0]) ?_ 4 _ rfl;refine Kv_ ?_;refine blk_put (cs:=#[.int .i64 (wrap64 (1+(wrap64 (Int.tmod (IntKind.u64.wrap (a0_0)) 2)))),.int .i64 (wrap64 (1+(wrap64 (Int.tmod (IntKind.u64.wrap (a0_1)) 4)))),.int .u64 (Int.tmod a0_2 9),.int .u64 0,.int .u64 0,.int .u64 0,.int .u64 0,.int .i64 0,.slice none 0 0]) ?_ 3 _ rfl;refine Kv_ ?_;refine blk_put (cs:=#[.int .i64 (wrap64 (1+(wrap64 (Int.tmod (IntKind.u64.wrap (a0_0)) 2)))),.int .i64 (wrap64 (1+(wrap64 (Int.tmod (IntKind.u64.wrap (a0_1)) 4)))),.int .u64 0,.int .u64 0,.int .u64 0,.int .u64 0,.int .u64 0,.int .i64 0,.slice none 0 0]) ?_ 2 _ rfl;refine Kv_ ?_;refine blk_put (cs:=#[.int .i64 (wrap64 (1+(wrap64 (Int.tmod (IntKind.u64.wrap (a0_0)) 2)))),.int .i64 0,.int .u64 0,.int .u64 0,.int .u64 0,.int .u64 0,.int .u64 0,.int .i64 0,.slice none 0 0]) ?_ 1 _ rfl;refine Kv_ ?_;refine blk_put (cs:=#[.int .i64 0,.int .i64 0,.int .u64 0,.int .u64 0,.int .u64 0,.int .u64 0,.int .u64 0,.int .i64 0,.slice none 0 0]) ?_ 0 _ rfl;exact K1b_ BK349 NB349_358) Try.underlying69 rfl (by kernel_rfl)) rfl ?_
  exact ⟨_,by first|rfl|(simp [errW_none,errW_some] <;> rfl)|(simp [*,errW_none,errW_some] <;> rfl),by first|exact Kd.R_nil _ _ _ _ _|exact Kd.N_nil _ _ _ _ _|exact Kd.V_nil _ _ _ _ _|exact Kd.Q_nil _ _ _ _ _|exact Kd.S_nil _ _ _ _ _,K3a_ HB GW348 GW349 GW358⟩
 rw [if_pos c3] at H
 have c3b0:((wrap64 (1+(wrap64 (Int.tmod (IntKind.u64.wrap (a0_0)) 2)))) == 1)=true:=beq_iff_eq.mpr c3
 have c3b1:((wrap64 (1+(wrap64 (Int.tmod (IntKind.u64.wrap (a0_0)) 2)))) != 1)=false:=bne_eq_false_iff_eq.mpr c3
 clear c3
 obtain ⟨⟨t359,t360,t361,t362,t363,t364⟩,A4,H⟩:=Kbind_ H
 (try dsimp only at H)
 obtain ⟨t367,A5,H⟩:=Kbind_ H
 (try dsimp only at H)
 simp only [Option.some.injEq,Prod.mk.injEq] at H
 obtain ⟨rfl,rfl,rfl,rfl,rfl,rfl,rfl,rfl,rfl⟩:=H
 go_enter Try.func26,Try.ntmps26
 go_wp2_with (first|((with_reducible refine gate_dst (N:=1) rfl ?_);refine Ka_ 1 #[.int .i64 a0_0,.int .i64 a0_1,.int .u64 a0_2,.int .u64 a0_3,.int .u64 a0_4,.int .u64 a0_5,.int .u64 a0_6,.int .i64 a0_7,.bool a0_8,.slice A0_9 l0_9.length c0_9,.bool a0_10,.bool true] 65 ?_;intro gb348 hg w6 hbox hb;have BK348:=As_ (hbox);have GW348:=Kw_ HB hg;replace HB:=Ks_ HB hb;clear hb hbox hg)|((with_reducible refine gate_dst (N:=2) rfl ?_);refine Ka_ 2 #[.int .i64 0,.int .i64 0,.int .u64 0,.int .u64 0,.int .u64 0,.int .u64 0,.int .u64 0,.int .i64 0,.slice none 0 0] 69 ?_;intro gb349 hg w7 hbox hb;have BK349:=As_ (hbox);have GW349:=Kw_ HB hg;have NB348_349:=Kl_ BK348 hg;have NB349_348:=Kr_ BK348 hg;replace BK348:=Kb_ BK348 hb;replace HB:=Ks_ HB hb;clear hb hbox hg;have hnb8:=NB348_349.out;have hnc8:=NB349_348.out;have hcz9_0:w7.cell? ⟨gb348,0,none⟩=some (.int .i64 a0_0):=(blk_cell BK348.out 0).trans rfl;have hcz9_1:w7.cell? ⟨gb348,1,none⟩=some (.int .i64 a0_1):=(blk_cell BK348.out 1).trans rfl;have hcz9_2:w7.cell? ⟨gb348,2,none⟩=some (.int .u64 a0_2):=(blk_cell BK348.out 2).trans rfl;have hcz9_3:w7.cell? ⟨gb348,3,none⟩=some (.int .u64 a0_3):=(blk_cell BK348.out 3).trans rfl;have hcz9_4:w7.cell? ⟨gb348,4,none⟩=some (.int .u64 a0_4):=(blk_cell BK348.out 4).trans rfl;have hcz9_5:w7.cell? ⟨gb348,5,none⟩=some (.int .u64 a0_5):=(blk_cell BK348.out 5).trans rfl;have hcz9_6:w7.cell? ⟨gb348,6,none⟩=some (.int .u64 a0_6):=(blk_cell BK348.out 6).trans rfl;have hcz9_7:w7.cell? ⟨gb348,7,none⟩=some (.int .i64 a0_7):=(blk_cell BK348.out 7).trans rfl;have hcz9_8:w7.cell? ⟨gb348,8,none⟩=some (.bool a0_8):=(blk_cell BK348.out 8).trans rfl;have hcz9_9:w7.cell? ⟨gb348,9,none⟩=some (.slice A0_9 l0_9.length c0_9):=(blk_cell BK348.out 9).trans rfl;have hcz9_10:w7.cell? ⟨gb348,10,none⟩=some (.bool a0_10):=(blk_cell BK348.out 10).trans rfl;have hcz9_11:w7.cell? ⟨gb348,11,none⟩=some (.bool true):=(blk_cell BK348.out 11).trans rfl;have hfz9_0:=blk_frozen BK348.out 0;have hfz9_1:=blk_frozen BK348.out 1;have hfz9_2:=blk_frozen BK348.out 2;have hfz9_3:=blk_frozen BK348.out 3;have hfz9_4:=blk_frozen BK348.out 4;have hfz9_5:=blk_frozen BK348.out 5;have hfz9_6:=blk_frozen BK348.out 6;have hfz9_7:=blk_frozen BK348.out 7;have hfz9_8:=blk_frozen BK348.out 8;have hfz9_9:=blk_frozen BK348.out 9;have hfz9_10:=blk_frozen BK348.out 10;have hfz9_11:=blk_frozen BK348.out 11)|((with_reducible refine gate_dst (N:=3) rfl ?_);refine Ka_ 3 #[.int .i64 0,.int .i64 0,.int .u64 0,.int .u64 0,.int .u64 0,.int .u64 0,.int .u64 0,.int .i64 0,.slice none 0 0] 69 ?_;intro gb358 hg w10 hbox hb;have BK358:=As_ (hbox);have GW358:=Kw_ HB hg;have NB348_358:=Kl_ BK348 hg;have NB358_348:=Kr_ BK348 hg;have NB349_358:=Kl_ BK349 hg;have NB358_349:=Kr_ BK349 hg;replace BK348:=Kb_ BK348 hb;replace BK349:=Kb_ BK349 hb;replace HB:=Ks_ HB hb;clear hb hbox hg;have hnb11:=NB358_348.out;have hnc11:=NB348_358.out;have hnb12:=NB358_349.out;have hnc12:=NB349_358.out;obtain ⟨_,_,_,_,_,_,_,_,_,_,_,_,_,_,_,_,_,_⟩:=Ke9_ BK358.out;have hcz14_0:w10.cell? ⟨gb348,0,none⟩=some (.int .i64 a0_0):=(blk_cell BK348.out 0).trans rfl;have hcz14_1:w10.cell? ⟨gb348,1,none⟩=some (.int .i64 a0_1):=(blk_cell BK348.out 1).trans rfl;have hcz14_2:w10.cell? ⟨gb348,2,none⟩=some (.int .u64 a0_2):=(blk_cell BK348.out 2).trans rfl;have hcz14_3:w10.cell? ⟨gb348,3,none⟩=some (.int .u64 a0_3):=(blk_cell BK348.out 3).trans rfl;have hcz14_4:w10.cell? ⟨gb348,4,none⟩=some (.int .u64 a0_4):=(blk_cell BK348.out 4).trans rfl;have hcz14_5:w10.cell? ⟨gb348,5,none⟩=some (.int .u64 a0_5):=(blk_cell BK348.out 5).trans rfl;have hcz14_6:w10.cell? ⟨gb348,6,none⟩=some (.int .u64 a0_6):=(blk_cell BK348.out 6).trans rfl;have hcz14_7:w10.cell? ⟨gb348,7,none⟩=some (.int .i64 a0_7):=(blk_cell BK348.out 7).trans rfl;have hcz14_8:w10.cell? ⟨gb348,8,none⟩=some (.bool a0_8):=(blk_cell BK348.out 8).trans rfl;have hcz14_9:w10.cell? ⟨gb348,9,none⟩=some (.slice A0_9 l0_9.length c0_9):=(blk_cell BK348.out 9).trans rfl;have hcz14_10:w10.cell? ⟨gb348,10,none⟩=some (.bool a0_10):=(blk_cell BK348.out 10).trans rfl;have hcz14_11:w10.cell? ⟨gb348,11,none⟩=some (.bool true):=(blk_cell BK348.out 11).trans rfl;have hfz14_0:=blk_frozen BK348.out 0;have hfz14_1:=blk_frozen BK348.out 1;have hfz14_2:=blk_frozen BK348.out 2;have hfz14_3:=blk_frozen BK348.out 3;have hfz14_4:=blk_frozen BK348.out 4;have hfz14_5:=blk_frozen BK348.out 5;have hfz14_6:=blk_frozen BK348.out 6;have hfz14_7:=blk_frozen BK348.out 7;have hfz14_8:=blk_frozen BK348.out 8;have hfz14_9:=blk_frozen BK348.out 9;have hfz14_10:=blk_frozen BK348.out 10;have hfz14_11:=blk_frozen BK348.out 11)|((with_reducible refine gate_callee (f:=19) rfl ?_);refine Kg_ (some 40) rfl rfl Try.func19 (by kernel_rfl) rfl #[.agg #[.int .u64 a0_3,.int .u64 a0_4,.int .u64 a0_5,.int .u64 a0_6,.int .i64 a0_7,.bool a0_8,.slice A0_9 l0_9.length c0_9,.bool true]] rfl ?_;(with_reducible refine (L15_Deal_deal.calls k a0_3 a0_4 a0_5 a0_6 a0_7 a0_8 _ _ l0_9 true t359 t360 t361 t362 t363 t364 _ ?side1 ?side2 A4.out).mono ?_);(case side1=>exact Kd.C_below HR0_9.out (K3a_ HB GW348 GW349 GW358));(case side2=>exact HC0_9.out);rintro e w15 ⟨v365,rfl,ho0,hb⟩;refine ⟨_,rfl,?_⟩;have HO366:=As_ (Kd.R_lower ho0 (below_size (K3a_ HB GW348 GW349 GW358)));replace BK349:=As_ (blk_below (g:=gb349) (o:=.cells #[.int .i64 0,.int .i64 0,.int .u64 0,.int .u64 0,.int .u64 0,.int .u64 0,.int .u64 0,.int .i64 0,.slice none 0 0] 69 (0,0)) (K2b_ BK349 NB349_348 NB349_358) hb);replace BK358:=As_ (blk_below (g:=gb358) (o:=.cells #[.int .i64 (wrap64 (1+(wrap64 (Int.tmod (IntKind.u64.wrap (a0_0)) 2)))),.int .i64 (wrap64 (1+(wrap64 (Int.tmod (IntKind.u64.wrap (a0_1)) 4)))),.int .u64 (Int.tmod a0_2 9),.int .u64 0,.int .u64 0,.int .u64 0,.int .u64 0,.int .i64 0,.slice none 0 0] 69 (0,0)) (by (repeat (first|(with_reducible first|refine blk_drewN ?_ _|refine blk_drew ?_|refine blk_alloc ?_ _)|refine blk_far ?_ NB358_348.out _));refine blk_put (cs:=#[.int .i64 (wrap64 (1+(wrap64 (Int.tmod (IntKind.u64.wrap (a0_0)) 2)))),.int .i64 (wrap64 (1+(wrap64 (Int.tmod (IntKind.u64.wrap (a0_1)) 4)))),.int .u64 (Int.tmod a0_2 9),.int .u64 0,.int .u64 0,.int .u64 0,.int .u64 0,.int .i64 0,.slice none 0 0]) ?_ 8 _ rfl;refine Kv_ ?_;exact Kput9_abcdefgh_ (Kq_ BK358)) hb);replace HB:=As_ (below_step (K3a_ HB GW348 GW349 GW358) hb);(try clear hb);(try clear hk);(try clear ho0);obtain ⟨_,_,_,_,_,_,_,_,_,_,_,_,_,_,_,_,_,_⟩:=Ke9_ BK358.out;obtain ⟨Ao17,co17,eo17⟩:=Kd.R_slice HO366.out;subst eo17)|((with_reducible refine gate_callee (f:=47) rfl ?_);refine Kg_ (some 45) rfl rfl Try.func47 (by kernel_rfl) rfl #[.agg #[.int .u64 t359,.int .u64 t360,.int .u64 t361,.int .u64 t362,.int .i64 t363]] rfl ?_;(with_reducible refine (stamp_Stamp_N.calls t359 t360 t361 t362 t363 t367 _ A5.out).mono ?_);rintro e w18 ⟨rfl,hb⟩;refine ⟨_,rfl,?_⟩;replace HO366:=As_ (Kd.R_below (by (with_reducible repeat (first|apply Kd.R_alloc|apply Kd.R_drewN|apply Kd.R_drew));exact (Kd.R_mono (Kd.R_far (p:=⟨gb358,8,none⟩) (Kd.R_far (p:=⟨gb358,7,none⟩) (Kd.R_far (p:=⟨gb358,6,none⟩) (Kd.R_far (p:=⟨gb358,5,none⟩) (Kd.R_far (p:=⟨gb358,4,none⟩) (Kd.R_far (p:=⟨gb358,3,none⟩) (Kd.R_types HO366.out BK358.out (by decide)) (fun _ hk=>hk.2) (.int .u64 t359)) (fun _ hk=>hk.2) (.int .u64 t360)) (fun _ hk=>hk.2) (.int .u64 t361)) (fun _ hk=>hk.2) (.int .u64 t362)) (fun _ hk=>hk.2) (.int .i64 t363)) (fun _ hk=>hk.2) (.slice Ao17 t364.length co17)) (fun _ h_=>h_.1))) hb);replace BK349:=Kf_ BK349 NB349_358 hb;replace BK358:=As_ (blk_below (Kput9_defghi_ (Kq_ BK358)) hb);replace HB:=Kt_ HB GW358 hb;(try clear hb);(try clear hk);obtain ⟨_,_,_,_,_,_,_,_,_,_,_,_,_,_,_,_,_,_⟩:=Ke9_ BK358.out;obtain ⟨_,_,_,_,_,_,_,_,_,_,_,_,_,_,_,_,_,_⟩:=Ke9_ BK349.out))
 refine bodyPost_ret (results_cell_row rfl _ _ gb349 69 #[.int .i64 (wrap64 (1+(wrap64 (Int.tmod (IntKind.u64.wrap (a0_0)) 2)))),.int .i64 (wrap64 (1+(wrap64 (Int.tmod (IntKind.u64.wrap (a0_1)) 4)))),.int .u64 t367,.int .u64 t359,.int .u64 t360,.int .u64 t361,.int .u64 t362,.int .i64 t363,.slice Ao17 t364.length co17] (0,0) _ rfl (by refine Kv_ ?_;refine blk_put (cs:=#[.int .i64 (wrap64 (1+(wrap64 (Int.tmod (IntKind.u64.wrap (a0_0)) 2)))),.int .i64 (wrap64 (1+(wrap64 (Int.tmod (IntKind.u64.wrap (a0_1)) 4)))),.int .u64 t367,.int .u64 t359,.int .u64 t360,.int .u64 t361,.int .u64 t362,.int .i64 t363,.slice none 0 0]) ?_ 8 _ rfl;refine Kv_ ?_;refine blk_put (cs:=#[.int .i64 (wrap64 (1+(wrap64 (Int.tmod (IntKind.u64.wrap (a0_0)) 2)))),.int .i64 (wrap64 (1+(wrap64 (Int.tmod (IntKind.u64.wrap (a0_1)) 4)))),.int .u64 t367,.int .u64 t359,.int .u64 t360,.int .u64 t361,.int .u64 t362,.int .i64 0,.slice none 0 0]) ?_ 7 _ rfl;refine Kv_ ?_;refine blk_put (cs:=#[.int .i64 (wrap64 (1+(wrap64 (Int.tmod (IntKind.u64.wrap (a0_0)) 2)))),.int .i64 (wrap64 (1+(wrap64 (Int.tmod (IntKind.u64.wrap (a0_1)) 4)))),.int .u64 t367,.int .u64 t359,.int .u64 t360,.int .u64 t361,.int .u64 0,.int .i64 0,.slice none 0 0]) ?_ 6 _ rfl;refine Kv_ ?_;refine blk_put (cs:=#[.int .i64 (wrap64 (1+(wrap64 (Int.tmod (IntKind.u64.wrap (a0_0)) 2)))),.int .i64 (wrap64 (1+(wrap64 (Int.tmod (IntKind.u64.wrap (a0_1)) 4)))),.int .u64 t367,.int .u64 t359,.int .u64 t360,.int .u64 0,.int .u64 0,.int .i64 0,.slice none 0 0]) ?_ 5 _ rfl;refine Kv_ ?_;refine blk_put (cs:=#[.int .i64 (wrap64 (1+(wrap64 (Int.tmod (IntKind.u64.wrap (a0_0)) 2)))),.int .i64 (wrap64 (1+(wrap64 (Int.tmod (IntKind.u64.wrap (a0_1)) 4)))),.int .u64 t367,.int .u64 t359,.int .u64 0,.int .u64 0,.int .u64 0,.int .i64 0,.slice none 0 0]) ?_ 4 _ rfl;refine Kv_ ?_;refine blk_put (cs:=#[.int .i64 (wrap64 (1+(wrap64 (Int.tmod (IntKind.u64.wrap (a0_0)) 2)))),.int .i64 (wrap64 (1+(wrap64 (Int.tmod (IntKind.u64.wrap (a0_1)) 4)))),.int .u64 t367,.int .u64 0,.int .u64 0,.int .u64 0,.int .u64 0,.int .i64 0,.slice none 0 0]) ?_ 3 _ rfl;refine Kv_ ?_;refine blk_put (cs:=#[.int .i64 (wrap64 (1+(wrap64 (Int.tmod (IntKind.u64.wrap (a0_0)) 2)))),.int .i64 (wrap64 (1+(wrap64 (Int.tmod (IntKind.u64.wrap (a0_1)) 4)))),.int .u64 0,.int .u64 0,.int .u64 0,.int .u64 0,.int .u64 0,.int .i64 0,.slice none 0 0]) ?_ 2 _ rfl;refine Kv_ ?_;refine blk_put (cs:=#[.int .i64 (wrap64 (1+(wrap64 (Int.tmod (IntKind.u64.wrap (a0_0)) 2)))),.int .i64 0,.int .u64 0,.int .u64 0,.int .u64 0,.int .u64 0,.int .u64 0,.int .i64 0,.slice none 0 0]) ?_ 1 _ rfl;refine Kv_ ?_;refine blk_put (cs:=#[.int .i64 0,.int .i64 0,.int .u64 0,.int .u64 0,.int .u64 0,.int .u64 0,.int .u64 0,.int .i64 0,.slice none 0 0]) ?_ 0 _ rfl;exact K1b_ BK349 NB349_358) Try.underlying69 rfl (by kernel_rfl)) rfl ?_
 exact ⟨_,by first|rfl|(simp [errW_none,errW_some] <;> rfl)|(simp [*,errW_none,errW_some] <;> rfl),by (with_reducible repeat (first|apply Kd.R_alloc|apply Kd.R_drewN|apply Kd.R_drew));exact Kd.R_mono (Kd.R_far (p:=⟨gb349,8,none⟩) (Kd.R_far (p:=⟨gb349,7,none⟩) (Kd.R_far (p:=⟨gb349,6,none⟩) (Kd.R_far (p:=⟨gb349,5,none⟩) (Kd.R_far (p:=⟨gb349,4,none⟩) (Kd.R_far (p:=⟨gb349,3,none⟩) (Kd.R_far (p:=⟨gb349,2,none⟩) (Kd.R_far (p:=⟨gb349,1,none⟩) (Kd.R_far (p:=⟨gb349,0,none⟩) (Kd.R_far (p:=⟨gb358,2,none⟩) (Kd.R_types (Kd.R_types HO366.out BK358.out (by decide)) BK349.out (by decide)) (fun _ hk=>hk.1.2) (.int .u64 t367)) (fun _ hk=>hk.2) (.int .i64 (wrap64 (1+(wrap64 (Int.tmod (IntKind.u64.wrap (a0_0)) 2)))))) (fun _ hk=>hk.2) (.int .i64 (wrap64 (1+(wrap64 (Int.tmod (IntKind.u64.wrap (a0_1)) 4)))))) (fun _ hk=>hk.2) (.int .u64 t367)) (fun _ hk=>hk.2) (.int .u64 t359)) (fun _ hk=>hk.2) (.int .u64 t360)) (fun _ hk=>hk.2) (.int .u64 t361)) (fun _ hk=>hk.2) (.int .u64 t362)) (fun _ hk=>hk.2) (.int .i64 t363)) (fun _ hk=>hk.2) (.slice Ao17 t364.length co17)) (fun _ hk=>trivial),K3a_ HB GW348 GW349 GW358⟩
theorem eqA50 (d:Nat) (w:World) (x0 y0:Int) (x1 y1:Int) (x2 y2:Int) (x3 y3:Int) :
  (Op.equalIn (d+2) 50 (.agg #[.int .u64 x0,.int .u64 x1,.int .u64 x2,.int .u64 x3]) (.agg #[.int .u64 y0,.int .u64 y1,.int .u64 y2,.int .u64 y3])).run Try.prog w = .ok (x0 == y0 && (x1 == y1 && (x2 == y2 && (x3 == y3)))) w:=by
 have hu:=Try.underlying50
 have hs:(sizeOf 26).run Try.prog w = .ok 1 w:=by go_simp
 have hp:∀ (xs:Array Value) (i:Nat) (v:Value),xs[i]?=some v→(part 26 xs i).run Try.prog w = .ok v w:=by
  intro xs i v h
  unfold part
  go_simp
 have hE:∀ a b:Int,(Op.equalIn (d+1) 26 (.int .u64 a) (.int .u64 b)).run Try.prog w = .ok (a == b) w:=by intro a b;go_simp
 obtain ⟨X,hX⟩:∃ X,X=(#[.int .u64 x0,.int .u64 x1,.int .u64 x2,.int .u64 x3]:Array Value):=⟨_,rfl⟩
 obtain ⟨Y,hY⟩:∃ Y,Y=(#[.int .u64 y0,.int .u64 y1,.int .u64 y2,.int .u64 y3]:Array Value):=⟨_,rfl⟩
 rw [← hX,← hY]
 have a0:(part 26 X 0).run Try.prog w = .ok (.int .u64 x0) w:=by rw [hX];exact hp _ 0 _ rfl
 have b0:(part 26 Y 0).run Try.prog w = .ok (.int .u64 y0) w:=by rw [hY];exact hp _ 0 _ rfl
 have a1:(part 26 X 1).run Try.prog w = .ok (.int .u64 x1) w:=by rw [hX];exact hp _ 1 _ rfl
 have b1:(part 26 Y 1).run Try.prog w = .ok (.int .u64 y1) w:=by rw [hY];exact hp _ 1 _ rfl
 have a2:(part 26 X 2).run Try.prog w = .ok (.int .u64 x2) w:=by rw [hX];exact hp _ 2 _ rfl
 have b2:(part 26 Y 2).run Try.prog w = .ok (.int .u64 y2) w:=by rw [hY];exact hp _ 2 _ rfl
 have a3:(part 26 X 3).run Try.prog w = .ok (.int .u64 x3) w:=by rw [hX];exact hp _ 3 _ rfl
 have b3:(part 26 Y 3).run Try.prog w = .ok (.int .u64 y3) w:=by rw [hY];exact hp _ 3 _ rfl
 clear hX hY hp
 obtain ⟨m,hm⟩:∃ m,d+1=m:=⟨_,rfl⟩
 rw [hm] at hE
 rw [show d+2=m+1 by omega]
 clear hm
 unfold Op.equalIn
 simp only [Sem.run_bind,run_underlying hu,Result.andThen_ok,hs,Nat.mul_one]
 have hfor:∀ (f:Nat→Option Bool × Unit→Sem (ForInStep (Option Bool × Unit))),forIn (m:=Sem) [:4] ((none,()):Option Bool × Unit) f=forIn (m:=Sem) [0,1,2,3] ((none,()):Option Bool × Unit) f:=by
  intro f
  simp
  rfl
 rw [hfor]
 simp only [List.forIn_cons,List.forIn_nil,Sem.run_bind,a0,b0,a1,b1,a2,b2,a3,b3,Result.andThen_ok,hE]
 by_cases h0:x0=y0 <;> by_cases h1:x1=y1 <;> by_cases h2:x2=y2 <;> by_cases h3:x3=y3 <;> simp [Sem.run_bind,a0,b0,a1,b1,a2,b2,a3,b3,hE,h0,h1,h2,h3]
theorem ixA50_0 (x0:Int) (x1:Int) (x2:Int) (x3:Int) (W:World) :
  (Instr.index 50 (.agg #[.int .u64 x0,.int .u64 x1,.int .u64 x2,.int .u64 x3]) (.int .i64 0)).run Try.prog W = .ok (.int .u64 x0) W:=by
 have hu:=Try.underlying50
 have hs:(sizeOf 26).run Try.prog W = .ok 1 W:=by go_simp
 have hp:(part 26 #[.int .u64 x0,.int .u64 x1,.int .u64 x2,.int .u64 x3] 0).run Try.prog W = .ok (.int .u64 x0) W:=by
  unfold part
  go_simp
 simp [Instr.index,asIntOf,Sem.run_bind,run_underlying hu,hs,hp]
theorem ixA50_1 (x0:Int) (x1:Int) (x2:Int) (x3:Int) (W:World) :
  (Instr.index 50 (.agg #[.int .u64 x0,.int .u64 x1,.int .u64 x2,.int .u64 x3]) (.int .i64 1)).run Try.prog W = .ok (.int .u64 x1) W:=by
 have hu:=Try.underlying50
 have hs:(sizeOf 26).run Try.prog W = .ok 1 W:=by go_simp
 have hp:(part 26 #[.int .u64 x0,.int .u64 x1,.int .u64 x2,.int .u64 x3] 1).run Try.prog W = .ok (.int .u64 x1) W:=by
  unfold part
  go_simp
 simp [Instr.index,asIntOf,Sem.run_bind,run_underlying hu,hs,hp]
theorem ixA50_2 (x0:Int) (x1:Int) (x2:Int) (x3:Int) (W:World) :
  (Instr.index 50 (.agg #[.int .u64 x0,.int .u64 x1,.int .u64 x2,.int .u64 x3]) (.int .i64 2)).run Try.prog W = .ok (.int .u64 x2) W:=by
 have hu:=Try.underlying50
 have hs:(sizeOf 26).run Try.prog W = .ok 1 W:=by go_simp
 have hp:(part 26 #[.int .u64 x0,.int .u64 x1,.int .u64 x2,.int .u64 x3] 2).run Try.prog W = .ok (.int .u64 x2) W:=by
  unfold part
  go_simp
 simp [Instr.index,asIntOf,Sem.run_bind,run_underlying hu,hs,hp]
theorem ixA50_3 (x0:Int) (x1:Int) (x2:Int) (x3:Int) (W:World) :
  (Instr.index 50 (.agg #[.int .u64 x0,.int .u64 x1,.int .u64 x2,.int .u64 x3]) (.int .i64 3)).run Try.prog W = .ok (.int .u64 x3) W:=by
 have hu:=Try.underlying50
 have hs:(sizeOf 26).run Try.prog W = .ok 1 W:=by go_simp
 have hp:(part 26 #[.int .u64 x0,.int .u64 x1,.int .u64 x2,.int .u64 x3] 3).run Try.prog W = .ok (.int .u64 x3) W:=by
  unfold part
  go_simp
 simp [Instr.index,asIntOf,Sem.run_bind,run_underlying hu,hs,hp]
theorem eqA52 (d:Nat) (w:World) (x0 y0:Int) (x1 y1:Int) (x2 y2:Int) (x3 y3:Int) (x4 y4:Int) :
  (Op.equalIn (d+3) 52 (.agg #[.int .u64 x0,.int .u64 x1,.int .u64 x2,.int .u64 x3,.int .i64 x4]) (.agg #[.int .u64 y0,.int .u64 y1,.int .u64 y2,.int .u64 y3,.int .i64 y4])).run Try.prog w = .ok ((x0 == y0 && (x1 == y1 && (x2 == y2 && (x3 == y3)))) && (x4 == y4)) w:=by
 refine eqA_of Try.underlying52 (by kernel_rfl) ?_
 refine eqf_cons (by rfl) (by go_simp) (by go_simp) (eqA50 (d+0) w _ _ _ _ _ _ _ _) ?_
 exact eqf_last (by rfl) (by go_simp;rfl) (by go_simp;rfl) (by go_simp)
def R06_At.f (a0_0 a0_1 a0_2 a0_3 n:Int):Option Int:=some (if n=1 then a0_0 else if n=2 then a0_1 else if n=3 then a0_2 else if n=4 then a0_3 else 0)
set_option maxHeartbeats 8000000 in
set_option maxRecDepth 100000 in
theorem R06_At.calls (a0_0 a0_1 a0_2 a0_3 n:Int) (r:Int) (w:World) (h:R06_At.f a0_0 a0_1 a0_2 a0_3 n=some r) :
  Calls Try.prog 71 #[.agg #[.int .u64 a0_0,.int .u64 a0_1,.int .u64 a0_2,.int .u64 a0_3],.int .i64 n] w fun e w'=>e = .returned (.int .u64 r)∧Below w.heap.size w w':=by
 unfold R06_At.f at h
 obtain rfl:=Option.some.inj h
 clear h
 have hu:=Try.underlying50
 by_cases c0:n=1
 ·subst c0
  go_enter Try.func71,Try.ntmps71
  go_wp2
  go_ret
  exact ⟨by first|rfl|simp,by first|exact below_alloc (Below.refl _ _) _|(repeat (first|exact Below.refl _ _|apply below_alloc|apply pw_below_drewN|apply below_drew1))⟩
 by_cases c1:n=2
 ·subst c1
  go_enter Try.func71,Try.ntmps71
  go_wp2
  go_ret
  exact ⟨by first|rfl|simp,by first|exact below_alloc (Below.refl _ _) _|(repeat (first|exact Below.refl _ _|apply below_alloc|apply pw_below_drewN|apply below_drew1))⟩
 by_cases c2:n=3
 ·subst c2
  go_enter Try.func71,Try.ntmps71
  go_wp2
  go_ret
  exact ⟨by first|rfl|simp,by first|exact below_alloc (Below.refl _ _) _|(repeat (first|exact Below.refl _ _|apply below_alloc|apply pw_below_drewN|apply below_drew1))⟩
 by_cases c3:n=4
 ·subst c3
  go_enter Try.func71,Try.ntmps71
  go_wp2
  go_ret
  exact ⟨by first|rfl|simp,by first|exact below_alloc (Below.refl _ _) _|(repeat (first|exact Below.refl _ _|apply below_alloc|apply pw_below_drewN|apply below_drew1))⟩
 rw [if_neg c0,if_neg c1,if_neg c2,if_neg c3]
 have b1:(decide (1≤n)=false∧decide (n<1)=true)∨(decide (1≤n)=true∧decide (n<1)=false∧decide (n≤4)=false∧decide (4<n)=true):=by
  by_cases h:1≤n
  ·exact Or.inr ⟨decide_eq_true h,decide_eq_false (by omega),decide_eq_false (by omega),decide_eq_true (by omega)⟩
  ·exact Or.inl ⟨decide_eq_false h,decide_eq_true (by omega)⟩
 clear c0 c1 c2 c3
 rcases b1 with ⟨b1,b2⟩|⟨b1,b2,b3,b4⟩
 ·go_enter Try.func71,Try.ntmps71
  go_wp2
  go_ret
  exact ⟨by first|rfl|simp,by first|exact below_alloc (Below.refl _ _) _|(repeat (first|exact Below.refl _ _|apply below_alloc|apply pw_below_drewN|apply below_drew1))⟩
 ·go_enter Try.func71,Try.ntmps71
  go_wp2
  go_ret
  exact ⟨by first|rfl|simp,by first|exact below_alloc (Below.refl _ _) _|(repeat (first|exact Below.refl _ _|apply below_alloc|apply pw_below_drewN|apply below_drew1))⟩
def R07_Stamp_N.f (a0_0:Int) (a0_1:Int) (a0_2:Int) (a0_3:Int) (a0_4:Int):Option (Int):=(R06_At.f a0_0 a0_1 a0_2 a0_3 a0_4).bind fun t369=>(some t369)
set_option maxHeartbeats 8000000 in
set_option maxRecDepth 100000 in
theorem R07_Stamp_N.calls (a0_0:Int) (a0_1:Int) (a0_2:Int) (a0_3:Int) (a0_4:Int) (r:Int) (w:World) (h:R07_Stamp_N.f a0_0 a0_1 a0_2 a0_3 a0_4=some r) :
  Calls Try.prog 72 #[.agg #[.int .u64 a0_0,.int .u64 a0_1,.int .u64 a0_2,.int .u64 a0_3,.int .i64 a0_4]] w fun e w'=>e = .returned (.int .u64 r)∧Below w.heap.size w w':=by
 have hu52:=Try.underlying52
 have hu50:=Try.underlying50
 have HB:=As_ (Below.refl w.heap.size w)
 unfold R07_Stamp_N.f at h
 have H:=h
 clear h
 obtain ⟨t369,A2,H⟩:=Kbind_ H
 (try dsimp only at H)
 obtain rfl:=Option.some.inj H
 go_enter Try.func72,Try.ntmps72
 go_wp2_with (first|((with_reducible refine gate_dst (N:=1) rfl ?_);refine Ka_ 1 #[.int .u64 a0_0,.int .u64 a0_1,.int .u64 a0_2,.int .u64 a0_3,.int .i64 a0_4] 52 ?_;intro gb368 hg w3 hbox hb;have BK368:=As_ (hbox);have GW368:=Kw_ HB hg;replace HB:=Ks_ HB hb;clear hb hbox hg;obtain ⟨_,_,_,_,_,_,_,_,_,_⟩:=Ke5_ BK368.out)|((with_reducible refine gate_callee (f:=71) rfl ?_);refine Kg_ (some 7) rfl rfl Try.func71 (by kernel_rfl) rfl #[.agg #[.int .u64 a0_0,.int .u64 a0_1,.int .u64 a0_2,.int .u64 a0_3],.int .i64 a0_4] rfl ?_;(with_reducible refine (R06_At.calls a0_0 a0_1 a0_2 a0_3 a0_4 t369 _ A2.out).mono ?_);rintro e w5 ⟨rfl,hb⟩;refine ⟨_,rfl,?_⟩;replace HB:=Ks_ HB hb;(try clear hb)))
 go_ret
 exact ⟨Kh_,Kz_ HB GW368⟩
def R06_Right.l0:Nat→Int→Int→Int→Int→Int→Option (Bool)
 | 0,_,_,_,_,_=>none
 | k+1,x3,x106,x108,x109,x110=>if x3<4 then (if x3=0 then (if x106 > 1152921504606846976 then (some false) else (R06_Right.l0 k (wrap64 (x3+1)) x106 x108 x109 x110)) else (if x3=1 then (if x108 > 1152921504606846976 then (some false) else (R06_Right.l0 k (wrap64 (x3+1)) x106 x108 x109 x110)) else (if x3=2 then (if x109 > 1152921504606846976 then (some false) else (R06_Right.l0 k (wrap64 (x3+1)) x106 x108 x109 x110)) else (if x3=3 then (if x110 > 1152921504606846976 then (some false) else (R06_Right.l0 k (wrap64 (x3+1)) x106 x108 x109 x110)) else (none))))) else (some true)
def R06_Right.f (k:Nat) (a0_0:Int) (a0_1:Int) (a0_2:Int) (a0_3:Int):Option (Bool):=R06_Right.l0 k 0 a0_0 a0_1 a0_2 a0_3
set_option maxHeartbeats 8000000 in
set_option maxRecDepth 100000 in
theorem R06_Right.calls (k:Nat) (a0_0:Int) (a0_1:Int) (a0_2:Int) (a0_3:Int) (r:Bool) (w:World) (h:R06_Right.f k a0_0 a0_1 a0_2 a0_3=some r) :
  Calls Try.prog 93 #[.agg #[.int .u64 a0_0,.int .u64 a0_1,.int .u64 a0_2,.int .u64 a0_3]] w fun e w'=>e = .returned (.bool r)∧Below w.heap.size w w':=by
 have hu50:=Try.underlying50
 have HB:=As_ (Below.refl w.heap.size w)
 unfold R06_Right.f at h
 have H:=h
 clear h
 have H':=As_ H
 clear H
 go_enter Try.func93,Try.ntmps93
 go_wp2_with (first|((with_reducible refine gate_dst (N:=1) rfl ?_);refine Ka_ 1 #[.int .u64 a0_0,.int .u64 a0_1,.int .u64 a0_2,.int .u64 a0_3] 50 ?_;intro gb370 hg w2 hbox hb;have BK370:=As_ (hbox);have GW370:=Kw_ HB hg;replace HB:=Ks_ HB hb;clear hb hbox hg))
 go_loopg [3] k (fun kq v3 w'=>∃ (x3_1:Int),v3 = .int .i64 x3_1∧Aside0 (R06_Right.l0 kq x3_1 a0_0 a0_1 a0_2 a0_3=some r)∧Aside0 (kq≤k)∧Aside0 (w'.heap[gb370]?=some (.cells #[.int .u64 a0_0,.int .u64 a0_1,.int .u64 a0_2,.int .u64 a0_3] 50 (0,0)))∧Aside0 (Below w.heap.size w w'))
 case atStart=>exact ⟨(0),(by first|rfl|(simp;done)|(simp [*];done)),H',⟨Nat.le_refl _⟩,⟨by exact Kq_ BK370⟩,⟨Kz_ HB GW370⟩⟩
 case round =>
  clear H'
  try clear p2
  obtain ⟨x3_1,rfl,HA,HK1,BK370,HB⟩:=hrel
  cases gk with
  | zero=>exact absurd HA.out (by simp [R06_Right.l0])
  | succ k1 =>
   have H:=HA.out
   clear HA
   simp only [R06_Right.l0] at H
   by_cases c3:x3_1<4
   rotate_left
   ·rw [if_neg c3] at H
    have c3b0:decide (x3_1<4)=false:=decide_eq_false c3
    clear c3
    obtain rfl:=Option.some.inj H
    go_wp2
    go_ret
    exact ⟨Kh_,Kz_ HB GW370⟩
   rw [if_pos c3] at H
   have c3b0:decide (x3_1<4)=true:=decide_eq_true c3
   clear c3
   by_cases c4:x3_1=0
   ·subst c4
    have H1:(if a0_0 > 1152921504606846976 then (some false) else (R06_Right.l0 k1 1 a0_0 a0_1 a0_2 a0_3))=some r:=by rw [if_pos rfl] at H;(try simp only [show wrap64 ((0:Int)+1)=1 from by first|rfl|decide|(unfold wrap64;omega),show wrap64 ((0:Int) - 1) = -1 from by first|rfl|decide|(unfold wrap64;omega)] at H);exact H
    clear H
    have H:=H1
    clear H1
    by_cases c5:a0_0 > 1152921504606846976
    ·rw [if_pos c5] at H
     have c5b0:decide (1152921504606846976<a0_0)=true:=decide_eq_true c5
     clear c5
     obtain rfl:=Option.some.inj H
     obtain ⟨_,_,_,_,_,_,_,_⟩:=Ke4_ BK370.out
     go_wp2
     go_ret
     exact ⟨Kh_,Kz_ HB GW370⟩
    rw [if_neg c5] at H
    have c5b0:decide (1152921504606846976<a0_0)=false:=decide_eq_false c5
    clear c5
    have H':=As_ H
    clear H
    obtain ⟨_,_,_,_,_,_,_,_⟩:=Ke4_ BK370.out
    go_wp2
    go_roundg k1
    case measure=>have:=HK1.out;omega
    case rel=>exact ⟨(1),(by first|rfl|(simp;done)|(simp [*];done)),H',⟨by have:=HK1.out;omega⟩,⟨by exact Kq_ BK370⟩,⟨Kz_ HB GW370⟩⟩
   rw [if_neg c4] at H
   by_cases c8:x3_1=1
   ·subst c8
    have H1:(if a0_1 > 1152921504606846976 then (some false) else (R06_Right.l0 k1 2 a0_0 a0_1 a0_2 a0_3))=some r:=by rw [if_pos rfl] at H;(try simp only [show wrap64 ((1:Int)+1)=2 from by first|rfl|decide|(unfold wrap64;omega),show wrap64 ((1:Int) - 1)=0 from by first|rfl|decide|(unfold wrap64;omega)] at H);exact H
    clear H
    have H:=H1
    clear H1
    by_cases c9:a0_1 > 1152921504606846976
    ·rw [if_pos c9] at H
     have c9b0:decide (1152921504606846976<a0_1)=true:=decide_eq_true c9
     clear c9
     obtain rfl:=Option.some.inj H
     obtain ⟨_,_,_,_,_,_,_,_⟩:=Ke4_ BK370.out
     go_wp2
     go_ret
     exact ⟨Kh_,Kz_ HB GW370⟩
    rw [if_neg c9] at H
    have c9b0:decide (1152921504606846976<a0_1)=false:=decide_eq_false c9
    clear c9
    have H':=As_ H
    clear H
    obtain ⟨_,_,_,_,_,_,_,_⟩:=Ke4_ BK370.out
    go_wp2
    go_roundg k1
    case measure=>have:=HK1.out;omega
    case rel=>exact ⟨(2),(by first|rfl|(simp;done)|(simp [*];done)),H',⟨by have:=HK1.out;omega⟩,⟨by exact Kq_ BK370⟩,⟨Kz_ HB GW370⟩⟩
   rw [if_neg c8] at H
   by_cases c12:x3_1=2
   ·subst c12
    have H1:(if a0_2 > 1152921504606846976 then (some false) else (R06_Right.l0 k1 3 a0_0 a0_1 a0_2 a0_3))=some r:=by rw [if_pos rfl] at H;(try simp only [show wrap64 ((2:Int)+1)=3 from by first|rfl|decide|(unfold wrap64;omega),show wrap64 ((2:Int) - 1)=1 from by first|rfl|decide|(unfold wrap64;omega)] at H);exact H
    clear H
    have H:=H1
    clear H1
    by_cases c13:a0_2 > 1152921504606846976
    ·rw [if_pos c13] at H
     have c13b0:decide (1152921504606846976<a0_2)=true:=decide_eq_true c13
     clear c13
     obtain rfl:=Option.some.inj H
     obtain ⟨_,_,_,_,_,_,_,_⟩:=Ke4_ BK370.out
     go_wp2
     go_ret
     exact ⟨Kh_,Kz_ HB GW370⟩
    rw [if_neg c13] at H
    have c13b0:decide (1152921504606846976<a0_2)=false:=decide_eq_false c13
    clear c13
    have H':=As_ H
    clear H
    obtain ⟨_,_,_,_,_,_,_,_⟩:=Ke4_ BK370.out
    go_wp2
    go_roundg k1
    case measure=>have:=HK1.out;omega
    case rel=>exact ⟨(3),(by first|rfl|(simp;done)|(simp [*];done)),H',⟨by have:=HK1.out;omega⟩,⟨by exact Kq_ BK370⟩,⟨Kz_ HB GW370⟩⟩
   rw [if_neg c12] at H
   by_cases c16:x3_1=3
   rotate_left
   ·rw [if_neg c16] at H
    exact absurd H (by simp)
   subst c16
   have H1:(if a0_3 > 1152921504606846976 then (some false) else (R06_Right.l0 k1 4 a0_0 a0_1 a0_2 a0_3))=some r:=by rw [if_pos rfl] at H;(try simp only [show wrap64 ((3:Int)+1)=4 from by first|rfl|decide|(unfold wrap64;omega),show wrap64 ((3:Int) - 1)=2 from by first|rfl|decide|(unfold wrap64;omega)] at H);exact H
   clear H
   have H:=H1
   clear H1
   by_cases c17:a0_3 > 1152921504606846976
   ·rw [if_pos c17] at H
    have c17b0:decide (1152921504606846976<a0_3)=true:=decide_eq_true c17
    clear c17
    obtain rfl:=Option.some.inj H
    obtain ⟨_,_,_,_,_,_,_,_⟩:=Ke4_ BK370.out
    go_wp2
    go_ret
    exact ⟨Kh_,Kz_ HB GW370⟩
   rw [if_neg c17] at H
   have c17b0:decide (1152921504606846976<a0_3)=false:=decide_eq_false c17
   clear c17
   have H':=As_ H
   clear H
   obtain ⟨_,_,_,_,_,_,_,_⟩:=Ke4_ BK370.out
   go_wp2
   go_roundg k1
   case measure=>have:=HK1.out;omega
   case rel=>exact ⟨(4),(by first|rfl|(simp;done)|(simp [*];done)),H',⟨by have:=HK1.out;omega⟩,⟨by exact Kq_ BK370⟩,⟨Kz_ HB GW370⟩⟩
def R07_Right.f (k:Nat) (a0_0:Int) (a0_1:Int) (a0_2:Int) (a0_3:Int) (a0_4:Int):Option (Bool):=(R06_Right.f k a0_0 a0_1 a0_2 a0_3).bind fun t372=>(if t372=true then ((R07_Stamp_N.f a0_0 a0_1 a0_2 a0_3 a0_4).bind fun t373=>(some (decide (t373 ≥ 1)))) else (some false))
set_option maxHeartbeats 8000000 in
set_option maxRecDepth 100000 in
theorem R07_Right.calls (k:Nat) (a0_0:Int) (a0_1:Int) (a0_2:Int) (a0_3:Int) (a0_4:Int) (r:Bool) (w:World) (h:R07_Right.f k a0_0 a0_1 a0_2 a0_3 a0_4=some r) :
  Calls Try.prog 70 #[.agg #[.int .u64 a0_0,.int .u64 a0_1,.int .u64 a0_2,.int .u64 a0_3,.int .i64 a0_4]] w fun e w'=>e = .returned (.bool r)∧Below w.heap.size w w':=by
 have hu52:=Try.underlying52
 have hu50:=Try.underlying50
 have HB:=As_ (Below.refl w.heap.size w)
 unfold R07_Right.f at h
 have H:=h
 clear h
 obtain ⟨t372,A2,H⟩:=Kbind_ H
 (try dsimp only at H)
 by_cases c3:t372=true
 rotate_left
 ·replace c3:=Bool.eq_false_iff.mpr c3
  subst c3
  rw [if_neg Bool.false_ne_true] at H
  obtain rfl:=Option.some.inj H
  go_enter Try.func70,Try.ntmps70
  go_wp2_with (first|((with_reducible refine gate_dst (N:=1) rfl ?_);refine Ka_ 1 #[.int .u64 a0_0,.int .u64 a0_1,.int .u64 a0_2,.int .u64 a0_3,.int .i64 a0_4] 52 ?_;intro gb371 hg w10 hbox hb;have BK371:=As_ (hbox);have GW371:=Kw_ HB hg;replace HB:=Ks_ HB hb;clear hb hbox hg;obtain ⟨_,_,_,_,_,_,_,_,_,_⟩:=Ke5_ BK371.out)|((with_reducible refine gate_callee (f:=93) rfl ?_);refine Kg_ (some 5) rfl rfl Try.func93 (by kernel_rfl) rfl #[.agg #[.int .u64 a0_0,.int .u64 a0_1,.int .u64 a0_2,.int .u64 a0_3]] rfl ?_;(with_reducible refine (R06_Right.calls k a0_0 a0_1 a0_2 a0_3 false _ A2.out).mono ?_);rintro e w12 ⟨rfl,hb⟩;refine ⟨_,rfl,?_⟩;replace HB:=Ks_ HB hb;(try clear hb)))
  go_ret
  exact ⟨Kh_,Kz_ HB GW371⟩
 subst c3
 rw [if_pos rfl] at H
 obtain ⟨t373,A4,H⟩:=Kbind_ H
 (try dsimp only at H)
 obtain rfl:=Option.some.inj H
 go_enter Try.func70,Try.ntmps70
 go_wp2_with (first|((with_reducible refine gate_dst (N:=1) rfl ?_);refine Ka_ 1 #[.int .u64 a0_0,.int .u64 a0_1,.int .u64 a0_2,.int .u64 a0_3,.int .i64 a0_4] 52 ?_;intro gb371 hg w5 hbox hb;have BK371:=As_ (hbox);have GW371:=Kw_ HB hg;replace HB:=Ks_ HB hb;clear hb hbox hg;obtain ⟨_,_,_,_,_,_,_,_,_,_⟩:=Ke5_ BK371.out)|((with_reducible refine gate_callee (f:=93) rfl ?_);refine Kg_ (some 5) rfl rfl Try.func93 (by kernel_rfl) rfl #[.agg #[.int .u64 a0_0,.int .u64 a0_1,.int .u64 a0_2,.int .u64 a0_3]] rfl ?_;(with_reducible refine (R06_Right.calls k a0_0 a0_1 a0_2 a0_3 true _ A2.out).mono ?_);rintro e w7 ⟨rfl,hb⟩;refine ⟨_,rfl,?_⟩;replace BK371:=Kb_ BK371 hb;replace HB:=Ks_ HB hb;(try clear hb);obtain ⟨_,_,_,_,_,_,_,_,_,_⟩:=Ke5_ BK371.out)|(go_at_call 72;(with_reducible refine (R07_Stamp_N.calls a0_0 a0_1 a0_2 a0_3 a0_4 t373 _ A4.out).mono ?_);rintro e w9 ⟨rfl,hb⟩;replace HB:=Ks_ HB hb;(try clear hb)))
 go_ret
 exact ⟨Kh_,Kz_ HB GW371⟩
def R08_Right.f (a0_0:ByteArray) (a0_1:ByteArray) (a0_2:ByteArray) (a0_3:Bool):Option (Bool):=if (a0_0.size:Int) ≥ 1 then (if (a0_0.size:Int)≤16 then (if (a0_1.size:Int) ≥ 1 then (if (a0_1.size:Int)≤16 then (if (a0_2.size:Int)≤32 then (if a0_3=true then (some (a0_2.toList == ([]:List UInt8))) else (some true)) else (some false)) else (some false)) else (some false)) else (some false)) else (some false)
set_option maxHeartbeats 8000000 in
set_option maxRecDepth 100000 in
theorem R08_Right.calls (a0_0:ByteArray) (a0_1:ByteArray) (a0_2:ByteArray) (a0_3:Bool) (r:Bool) (w:World) (h:R08_Right.f a0_0 a0_1 a0_2 a0_3=some r) :
  Calls Try.prog 97 #[.agg #[.string a0_0,.string a0_1,.string a0_2,.bool a0_3]] w fun e w'=>e = .returned (.bool r)∧Below w.heap.size w w':=by
 have hu117:=Try.underlying117
 have HB:=As_ (Below.refl w.heap.size w)
 unfold R08_Right.f at h
 have H:=h
 clear h
 by_cases c2:(a0_0.size:Int) ≥ 1
 rotate_left
 ·rw [if_neg c2] at H
  have c2b0:decide (1≤(a0_0.size:Int))=false:=decide_eq_false c2
  have c2b1:decide (1≤a0_0.size)=false:=decide_eq_false (by omega)
  clear c2
  obtain rfl:=Option.some.inj H
  go_enter Try.func97,Try.ntmps97
  go_wp2_with (first|((with_reducible refine gate_dst (N:=1) rfl ?_);refine Ka_ 1 #[.string a0_0,.string a0_1,.string a0_2,.bool a0_3] 117 ?_;intro gb374 hg w20 hbox hb;have BK374:=As_ (hbox);have GW374:=Kw_ HB hg;replace HB:=Ks_ HB hb;clear hb hbox hg;obtain ⟨_,_,_,_,_,_,_,_⟩:=Ke4_ BK374.out))
  go_ret
  exact ⟨Kh_,Kz_ HB GW374⟩
 rw [if_pos c2] at H
 have c2b0:decide (1≤(a0_0.size:Int))=true:=decide_eq_true c2
 have c2b1:decide (1≤a0_0.size)=true:=decide_eq_true (by omega)
 clear c2
 by_cases c3:(a0_0.size:Int)≤16
 rotate_left
 ·rw [if_neg c3] at H
  have c3b0:decide ((a0_0.size:Int)≤16)=false:=decide_eq_false c3
  have c3b1:decide (a0_0.size≤16)=false:=decide_eq_false (by omega)
  clear c3
  obtain rfl:=Option.some.inj H
  go_enter Try.func97,Try.ntmps97
  go_wp2_with (first|((with_reducible refine gate_dst (N:=1) rfl ?_);refine Ka_ 1 #[.string a0_0,.string a0_1,.string a0_2,.bool a0_3] 117 ?_;intro gb374 hg w18 hbox hb;have BK374:=As_ (hbox);have GW374:=Kw_ HB hg;replace HB:=Ks_ HB hb;clear hb hbox hg;obtain ⟨_,_,_,_,_,_,_,_⟩:=Ke4_ BK374.out))
  go_ret
  exact ⟨Kh_,Kz_ HB GW374⟩
 rw [if_pos c3] at H
 have c3b0:decide ((a0_0.size:Int)≤16)=true:=decide_eq_true c3
 have c3b1:decide (a0_0.size≤16)=true:=decide_eq_true (by omega)
 clear c3
 by_cases c4:(a0_1.size:Int) ≥ 1
 rotate_left
 ·rw [if_neg c4] at H
  have c4b0:decide (1≤(a0_1.size:Int))=false:=decide_eq_false c4
  have c4b1:decide (1≤a0_1.size)=false:=decide_eq_false (by omega)
  clear c4
  obtain rfl:=Option.some.inj H
  go_enter Try.func97,Try.ntmps97
  go_wp2_with (first|((with_reducible refine gate_dst (N:=1) rfl ?_);refine Ka_ 1 #[.string a0_0,.string a0_1,.string a0_2,.bool a0_3] 117 ?_;intro gb374 hg w16 hbox hb;have BK374:=As_ (hbox);have GW374:=Kw_ HB hg;replace HB:=Ks_ HB hb;clear hb hbox hg;obtain ⟨_,_,_,_,_,_,_,_⟩:=Ke4_ BK374.out))
  go_ret
  exact ⟨Kh_,Kz_ HB GW374⟩
 rw [if_pos c4] at H
 have c4b0:decide (1≤(a0_1.size:Int))=true:=decide_eq_true c4
 have c4b1:decide (1≤a0_1.size)=true:=decide_eq_true (by omega)
 clear c4
 by_cases c5:(a0_1.size:Int)≤16
 rotate_left
 ·rw [if_neg c5] at H
  have c5b0:decide ((a0_1.size:Int)≤16)=false:=decide_eq_false c5
  have c5b1:decide (a0_1.size≤16)=false:=decide_eq_false (by omega)
  clear c5
  obtain rfl:=Option.some.inj H
  go_enter Try.func97,Try.ntmps97
  go_wp2_with (first|((with_reducible refine gate_dst (N:=1) rfl ?_);refine Ka_ 1 #[.string a0_0,.string a0_1,.string a0_2,.bool a0_3] 117 ?_;intro gb374 hg w14 hbox hb;have BK374:=As_ (hbox);have GW374:=Kw_ HB hg;replace HB:=Ks_ HB hb;clear hb hbox hg;obtain ⟨_,_,_,_,_,_,_,_⟩:=Ke4_ BK374.out))
  go_ret
  exact ⟨Kh_,Kz_ HB GW374⟩
 rw [if_pos c5] at H
 have c5b0:decide ((a0_1.size:Int)≤16)=true:=decide_eq_true c5
 have c5b1:decide (a0_1.size≤16)=true:=decide_eq_true (by omega)
 clear c5
 by_cases c6:(a0_2.size:Int)≤32
 rotate_left
 ·rw [if_neg c6] at H
  have c6b0:decide ((a0_2.size:Int)≤32)=false:=decide_eq_false c6
  have c6b1:decide (a0_2.size≤32)=false:=decide_eq_false (by omega)
  clear c6
  obtain rfl:=Option.some.inj H
  go_enter Try.func97,Try.ntmps97
  go_wp2_with (first|((with_reducible refine gate_dst (N:=1) rfl ?_);refine Ka_ 1 #[.string a0_0,.string a0_1,.string a0_2,.bool a0_3] 117 ?_;intro gb374 hg w12 hbox hb;have BK374:=As_ (hbox);have GW374:=Kw_ HB hg;replace HB:=Ks_ HB hb;clear hb hbox hg;obtain ⟨_,_,_,_,_,_,_,_⟩:=Ke4_ BK374.out))
  go_ret
  exact ⟨Kh_,Kz_ HB GW374⟩
 rw [if_pos c6] at H
 have c6b0:decide ((a0_2.size:Int)≤32)=true:=decide_eq_true c6
 have c6b1:decide (a0_2.size≤32)=true:=decide_eq_true (by omega)
 clear c6
 by_cases c7:a0_3=true
 ·subst c7
  rw [if_pos rfl] at H
  obtain rfl:=Option.some.inj H
  go_enter Try.func97,Try.ntmps97
  go_wp2_with (first|((with_reducible refine gate_dst (N:=1) rfl ?_);refine Ka_ 1 #[.string a0_0,.string a0_1,.string a0_2,.bool true] 117 ?_;intro gb374 hg w8 hbox hb;have BK374:=As_ (hbox);have GW374:=Kw_ HB hg;replace HB:=Ks_ HB hb;clear hb hbox hg;obtain ⟨_,_,_,_,_,_,_,_⟩:=Ke4_ BK374.out))
  go_ret
  exact ⟨Kh_,Kz_ HB GW374⟩
 replace c7:=Bool.eq_false_iff.mpr c7
 subst c7
 rw [if_neg Bool.false_ne_true] at H
 obtain rfl:=Option.some.inj H
 go_enter Try.func97,Try.ntmps97
 go_wp2_with (first|((with_reducible refine gate_dst (N:=1) rfl ?_);refine Ka_ 1 #[.string a0_0,.string a0_1,.string a0_2,.bool false] 117 ?_;intro gb374 hg w10 hbox hb;have BK374:=As_ (hbox);have GW374:=Kw_ HB hg;replace HB:=Ks_ HB hb;clear hb hbox hg;obtain ⟨_,_,_,_,_,_,_,_⟩:=Ke4_ BK374.out))
 go_ret
 exact ⟨Kh_,Kz_ HB GW374⟩
mutual
def R08_Whole.j0:Nat→Bool→Int→Int→Int→Int→Int→List (S117)→Option (Bool)
 | 0,_,_,_,_,_,_,_=>none
 | k+1,x20,x101,x102,x103,x104,x105,x100=>if x20=true then (some false) else (R08_Whole.l0 k 0 x101 x102 x103 x104 x105 x100)
def R08_Whole.l0:Nat→Int→Int→Int→Int→Int→Int→List (S117)→Option (Bool)
 | 0,_,_,_,_,_,_,_=>none
 | k+1,x3,x101,x102,x103,x104,x105,x100=>if x3<(x100.length:Int) then (if 0≤x3 then ((R08_Right.f ((rd_T117 x100 x3).f0) ((rd_T117 x100 x3).f1) ((rd_T117 x100 x3).f2) ((rd_T117 x100 x3).f3)).bind fun t378=>(if t378=true then (R08_Whole.l1 k x3 0 x101 x102 x103 x104 x105 x100) else (some false))) else (none)) else (some true)
def R08_Whole.l1:Nat→Int→Int→Int→Int→Int→Int→Int→List (S117)→Option (Bool)
 | 0,_,_,_,_,_,_,_,_=>none
 | k+1,x3,x4,x101,x102,x103,x104,x105,x100=>if x4<x3 then (if 0≤x4 then (if x4<(x100.length:Int) then (if 0≤x3 then (if x3<(x100.length:Int) then (if ((rd_T117 x100 x4).f0).toList=((rd_T117 x100 x3).f0).toList then (if ((rd_T117 x100 x4).f1).toList=((rd_T117 x100 x3).f1).toList then (some false) else (R08_Whole.l1 k x3 (wrap64 (x4+1)) x101 x102 x103 x104 x105 x100)) else (R08_Whole.l1 k x3 (wrap64 (x4+1)) x101 x102 x103 x104 x105 x100)) else (none)) else (none)) else (none)) else (none)) else (R08_Whole.l0 k (wrap64 (x3+1)) x101 x102 x103 x104 x105 x100)
end
def R08_Whole.f (k:Nat) (a0_0:Int) (a0_1:Int) (a0_2:Int) (a0_3:Int) (a0_4:Int) (l0_5:List (S117)):Option (Bool):=(R07_Right.f k a0_0 a0_1 a0_2 a0_3 a0_4).bind fun t376=>(if t376=true then (if (l0_5.length:Int)<1 then (R08_Whole.j0 k true a0_0 a0_1 a0_2 a0_3 a0_4 l0_5) else (R08_Whole.j0 k (decide ((l0_5.length:Int) > 8)) a0_0 a0_1 a0_2 a0_3 a0_4 l0_5)) else (R08_Whole.j0 k true a0_0 a0_1 a0_2 a0_3 a0_4 l0_5))
set_option maxHeartbeats 8000000 in
set_option maxRecDepth 100000 in
theorem R08_Whole.calls (k:Nat) (a0_0:Int) (a0_1:Int) (a0_2:Int) (a0_3:Int) (a0_4:Int) (A0_5:Option Addr) (c0_5:Nat) (l0_5:List (S117)) (r:Bool) (w:World) (hr0_5:Kd.C k117 w A0_5 l0_5.length l0_5) (hc0_5:l0_5.length≤c0_5) (h:R08_Whole.f k a0_0 a0_1 a0_2 a0_3 a0_4 l0_5=some r) :
  Calls Try.prog 74 #[.agg #[.int .u64 a0_0,.int .u64 a0_1,.int .u64 a0_2,.int .u64 a0_3,.int .i64 a0_4,.slice A0_5 l0_5.length c0_5]] w fun e w'=>e = .returned (.bool r)∧Below w.heap.size w w':=by
 have hu55:=Try.underlying55
 have hu52:=Try.underlying52
 have hu117:=Try.underlying117
 have HR0_5:=As_ hr0_5
 have HC0_5:=As_ hc0_5
 clear hr0_5 hc0_5
 have HB:=As_ (Below.refl w.heap.size w)
 unfold R08_Whole.f at h
 have H:=h
 clear h
 have HC2:=As_ H
 clear H
 go_enter Try.func74,Try.ntmps74
 go_upto_region 1 with (first|((with_reducible refine gate_dst (N:=1) rfl ?_);refine Ka_ 1 #[.int .u64 a0_0,.int .u64 a0_1,.int .u64 a0_2,.int .u64 a0_3,.int .i64 a0_4,.slice A0_5 l0_5.length c0_5] 55 ?_;intro gb375 hg w3 hbox hb;have BK375:=As_ (hbox);have GW375:=Kw_ HB hg;replace HB:=Ks_ HB hb;clear hb hbox hg))
 repeat (go_quiet (first|((with_reducible refine gate_dst (N:=1) rfl ?_);refine Ka_ 1 #[.int .u64 a0_0,.int .u64 a0_1,.int .u64 a0_2,.int .u64 a0_3,.int .i64 a0_4,.slice A0_5 l0_5.length c0_5] 55 ?_;intro gb375 hg w3 hbox hb;have BK375:=As_ (hbox);have GW375:=Kw_ HB hg;replace HB:=Ks_ HB hb;clear hb hbox hg));go_upto_region 1 with (first|((with_reducible refine gate_dst (N:=1) rfl ?_);refine Ka_ 1 #[.int .u64 a0_0,.int .u64 a0_1,.int .u64 a0_2,.int .u64 a0_3,.int .i64 a0_4,.slice A0_5 l0_5.length c0_5] 55 ?_;intro gb375 hg w3 hbox hb;have BK375:=As_ (hbox);have GW375:=Kw_ HB hg;replace HB:=Ks_ HB hb;clear hb hbox hg)))
 (try simp only [Act.put,List.setIfInBounds_toArray,List.set_cons_zero,List.set_cons_succ])
 go_cut [20] (fun v20 wc=>∃ (kq:Nat) (x20_1:Bool),v20 = .bool x20_1∧Aside0 (R08_Whole.j0 kq x20_1 a0_0 a0_1 a0_2 a0_3 a0_4 l0_5=some r)∧Aside0 (kq≤k)∧Aside0 (wc.heap[gb375]?=some (.cells #[.int .u64 a0_0,.int .u64 a0_1,.int .u64 a0_2,.int .u64 a0_3,.int .i64 a0_4,(.slice A0_5 l0_5.length c0_5)] 55 (0,0)))∧Aside0 (Below w.heap.size w wc))
 case first =>
  have H:=HC2.out
  clear HC2
  obtain ⟨t376,A4,H⟩:=Kbind_ H
  (try dsimp only at H)
  by_cases c5:t376=true
  rotate_left
  ·replace c5:=Bool.eq_false_iff.mpr c5
   subst c5
   rw [if_neg Bool.false_ne_true] at H
   have H':=As_ H
   clear H
   obtain ⟨hcz13_0,hcz13_1,hcz13_2,hcz13_3,hcz13_4,hcz13_5,hfz13_0,hfz13_1,hfz13_2,hfz13_3,hfz13_4,hfz13_5⟩:=Ke6_ BK375.out
   go_wp2_with (first|(go_at_call 70;(with_reducible refine (R07_Right.calls k a0_0 a0_1 a0_2 a0_3 a0_4 false _ A4.out).mono ?_);rintro e w14 ⟨rfl,hb⟩;replace BK375:=Kb_ BK375 hb;replace HB:=Ks_ HB hb;(try clear hb)))
   repeat (go_quiet (first|(go_at_call 70;(with_reducible refine (R07_Right.calls k a0_0 a0_1 a0_2 a0_3 a0_4 false _ A4.out).mono ?_);rintro e w14 ⟨rfl,hb⟩;replace BK375:=Kb_ BK375 hb;replace HB:=Ks_ HB hb;(try clear hb)));try go_wp2_with (first|(go_at_call 70;(with_reducible refine (R07_Right.calls k a0_0 a0_1 a0_2 a0_3 a0_4 false _ A4.out).mono ?_);rintro e w14 ⟨rfl,hb⟩;replace BK375:=Kb_ BK375 hb;replace HB:=Ks_ HB hb;(try clear hb))))
   go_meet
   case rel=>exact ⟨_,(true),(by first|rfl|(simp;done)|(simp [*];done)),H',⟨by first|omega|exact Nat.le_refl _⟩,⟨by exact Kq_ BK375⟩,⟨Kz_ HB GW375⟩⟩
  subst c5
  rw [if_pos rfl] at H
  by_cases c6:(l0_5.length:Int)<1
  ·rw [if_pos c6] at H
   have c6b0:decide ((l0_5.length:Int)<1)=true:=decide_eq_true c6
   have c6b1:decide (l0_5.length<1)=true:=decide_eq_true (by omega)
   clear c6
   (first|rw [c6b0]|(simp only [i64_w,i32_w];rw [c6b0])|skip)
   have H':=As_ H
   clear H
   obtain ⟨hcz7_0,hcz7_1,hcz7_2,hcz7_3,hcz7_4,hcz7_5,hfz7_0,hfz7_1,hfz7_2,hfz7_3,hfz7_4,hfz7_5⟩:=Ke6_ BK375.out
   go_wp2_with (first|(go_at_call 70;(with_reducible refine (R07_Right.calls k a0_0 a0_1 a0_2 a0_3 a0_4 true _ A4.out).mono ?_);rintro e w8 ⟨rfl,hb⟩;replace BK375:=Kb_ BK375 hb;replace HB:=Ks_ HB hb;(try clear hb);obtain ⟨hcz9_0,hcz9_1,hcz9_2,hcz9_3,hcz9_4,hcz9_5,hfz9_0,hfz9_1,hfz9_2,hfz9_3,hfz9_4,hfz9_5⟩:=Ke6_ BK375.out))
   repeat (go_quiet (first|(go_at_call 70;(with_reducible refine (R07_Right.calls k a0_0 a0_1 a0_2 a0_3 a0_4 true _ A4.out).mono ?_);rintro e w8 ⟨rfl,hb⟩;replace BK375:=Kb_ BK375 hb;replace HB:=Ks_ HB hb;(try clear hb);obtain ⟨hcz9_0,hcz9_1,hcz9_2,hcz9_3,hcz9_4,hcz9_5,hfz9_0,hfz9_1,hfz9_2,hfz9_3,hfz9_4,hfz9_5⟩:=Ke6_ BK375.out));try go_wp2_with (first|(go_at_call 70;(with_reducible refine (R07_Right.calls k a0_0 a0_1 a0_2 a0_3 a0_4 true _ A4.out).mono ?_);rintro e w8 ⟨rfl,hb⟩;replace BK375:=Kb_ BK375 hb;replace HB:=Ks_ HB hb;(try clear hb);obtain ⟨hcz9_0,hcz9_1,hcz9_2,hcz9_3,hcz9_4,hcz9_5,hfz9_0,hfz9_1,hfz9_2,hfz9_3,hfz9_4,hfz9_5⟩:=Ke6_ BK375.out)))
   go_meet
   case rel=>exact ⟨_,(true),(by first|rfl|(simp;done)|(simp [*];done)),H',⟨by first|omega|exact Nat.le_refl _⟩,⟨by exact Kq_ BK375⟩,⟨Kz_ HB GW375⟩⟩
  rw [if_neg c6] at H
  have c6b0:decide ((l0_5.length:Int)<1)=false:=decide_eq_false c6
  have c6b1:decide (l0_5.length<1)=false:=decide_eq_false (by omega)
  clear c6
  (first|rw [c6b0]|(simp only [i64_w,i32_w];rw [c6b0])|skip)
  have H':=As_ H
  clear H
  obtain ⟨hcz10_0,hcz10_1,hcz10_2,hcz10_3,hcz10_4,hcz10_5,hfz10_0,hfz10_1,hfz10_2,hfz10_3,hfz10_4,hfz10_5⟩:=Ke6_ BK375.out
  go_wp2_with (first|(go_at_call 70;(with_reducible refine (R07_Right.calls k a0_0 a0_1 a0_2 a0_3 a0_4 true _ A4.out).mono ?_);rintro e w11 ⟨rfl,hb⟩;replace BK375:=Kb_ BK375 hb;replace HB:=Ks_ HB hb;(try clear hb);obtain ⟨hcz12_0,hcz12_1,hcz12_2,hcz12_3,hcz12_4,hcz12_5,hfz12_0,hfz12_1,hfz12_2,hfz12_3,hfz12_4,hfz12_5⟩:=Ke6_ BK375.out))
  repeat (go_quiet (first|(go_at_call 70;(with_reducible refine (R07_Right.calls k a0_0 a0_1 a0_2 a0_3 a0_4 true _ A4.out).mono ?_);rintro e w11 ⟨rfl,hb⟩;replace BK375:=Kb_ BK375 hb;replace HB:=Ks_ HB hb;(try clear hb);obtain ⟨hcz12_0,hcz12_1,hcz12_2,hcz12_3,hcz12_4,hcz12_5,hfz12_0,hfz12_1,hfz12_2,hfz12_3,hfz12_4,hfz12_5⟩:=Ke6_ BK375.out));try go_wp2_with (first|(go_at_call 70;(with_reducible refine (R07_Right.calls k a0_0 a0_1 a0_2 a0_3 a0_4 true _ A4.out).mono ?_);rintro e w11 ⟨rfl,hb⟩;replace BK375:=Kb_ BK375 hb;replace HB:=Ks_ HB hb;(try clear hb);obtain ⟨hcz12_0,hcz12_1,hcz12_2,hcz12_3,hcz12_4,hcz12_5,hfz12_0,hfz12_1,hfz12_2,hfz12_3,hfz12_4,hfz12_5⟩:=Ke6_ BK375.out)))
  go_meet
  case rel=>exact ⟨_,(decide ((l0_5.length:Int) > 8)),(by first|rfl|(simp;done)|(simp [*];done)),H',⟨by first|omega|exact Nat.le_refl _⟩,⟨by exact Kq_ BK375⟩,⟨Kz_ HB GW375⟩⟩
 case rest =>
  clear HC2
  try clear p2
  try clear c5
  try clear c6
  try clear c6b0
  try clear c6b1
  try clear c7
  try clear hcz10_0
  try clear hcz10_1
  try clear hcz10_2
  try clear hcz10_3
  try clear hcz10_4
  try clear hcz10_5
  try clear hcz12_0
  try clear hcz12_1
  try clear hcz12_2
  try clear hcz12_3
  try clear hcz12_4
  try clear hcz12_5
  try clear hcz13_0
  try clear hcz13_1
  try clear hcz13_2
  try clear hcz13_3
  try clear hcz13_4
  try clear hcz13_5
  try clear hcz7_0
  try clear hcz7_1
  try clear hcz7_2
  try clear hcz7_3
  try clear hcz7_4
  try clear hcz7_5
  try clear hcz9_0
  try clear hcz9_1
  try clear hcz9_2
  try clear hcz9_3
  try clear hcz9_4
  try clear hcz9_5
  try clear hfz10_0
  try clear hfz10_1
  try clear hfz10_2
  try clear hfz10_3
  try clear hfz10_4
  try clear hfz10_5
  try clear hfz12_0
  try clear hfz12_1
  try clear hfz12_2
  try clear hfz12_3
  try clear hfz12_4
  try clear hfz12_5
  try clear hfz13_0
  try clear hfz13_1
  try clear hfz13_2
  try clear hfz13_3
  try clear hfz13_4
  try clear hfz13_5
  try clear hfz7_0
  try clear hfz7_1
  try clear hfz7_2
  try clear hfz7_3
  try clear hfz7_4
  try clear hfz7_5
  try clear hfz9_0
  try clear hfz9_1
  try clear hfz9_2
  try clear hfz9_3
  try clear hfz9_4
  try clear hfz9_5
  obtain ⟨kq,x20_1,rfl,HA,HJ1,BK375,HB⟩:=hcut
  cases kq with
  | zero=>exact absurd HA.out (by simp [R08_Whole.j0])
  | succ kj1 =>
   have H:=HA.out
   clear HA
   simp only [R08_Whole.j0] at H
   by_cases c15:x20_1=true
   ·subst c15
    rw [if_pos rfl] at H
    obtain rfl:=Option.some.inj H
    go_wp2
    repeat (go_quiet (fail);try go_wp2)
    go_ret
    exact ⟨Kh_,Kz_ HB GW375⟩
   replace c15:=Bool.eq_false_iff.mpr c15
   subst c15
   rw [if_neg Bool.false_ne_true] at H
   have H':=As_ H
   clear H
   go_wp2
   repeat (go_quiet (fail);try go_wp2)
   go_loopg [3] kj1 (fun kq v3 w'=>∃ (x3_2:Int),v3 = .int .i64 x3_2∧Aside0 (R08_Whole.l0 kq x3_2 a0_0 a0_1 a0_2 a0_3 a0_4 l0_5=some r)∧Aside0 (kq≤kj1)∧Aside0 (w'.heap[gb375]?=some (.cells #[.int .u64 a0_0,.int .u64 a0_1,.int .u64 a0_2,.int .u64 a0_3,.int .i64 a0_4,(.slice A0_5 l0_5.length c0_5)] 55 (0,0)))∧Aside0 (Below w.heap.size w w'))
   case atStart=>exact ⟨(0),(by first|rfl|(simp;done)|(simp [*];done)),H',⟨Nat.le_refl _⟩,⟨by exact Kq_ BK375⟩,⟨Kz_ HB GW375⟩⟩
   case round =>
    clear H'
    try clear c1
    try clear p2
    try clear c5
    try clear c6
    try clear c6b0
    try clear c6b1
    try clear c7
    try clear c15
    try clear hcz10_0
    try clear hcz10_1
    try clear hcz10_2
    try clear hcz10_3
    try clear hcz10_4
    try clear hcz10_5
    try clear hcz12_0
    try clear hcz12_1
    try clear hcz12_2
    try clear hcz12_3
    try clear hcz12_4
    try clear hcz12_5
    try clear hcz13_0
    try clear hcz13_1
    try clear hcz13_2
    try clear hcz13_3
    try clear hcz13_4
    try clear hcz13_5
    try clear hcz7_0
    try clear hcz7_1
    try clear hcz7_2
    try clear hcz7_3
    try clear hcz7_4
    try clear hcz7_5
    try clear hcz9_0
    try clear hcz9_1
    try clear hcz9_2
    try clear hcz9_3
    try clear hcz9_4
    try clear hcz9_5
    try clear hfz10_0
    try clear hfz10_1
    try clear hfz10_2
    try clear hfz10_3
    try clear hfz10_4
    try clear hfz10_5
    try clear hfz12_0
    try clear hfz12_1
    try clear hfz12_2
    try clear hfz12_3
    try clear hfz12_4
    try clear hfz12_5
    try clear hfz13_0
    try clear hfz13_1
    try clear hfz13_2
    try clear hfz13_3
    try clear hfz13_4
    try clear hfz13_5
    try clear hfz7_0
    try clear hfz7_1
    try clear hfz7_2
    try clear hfz7_3
    try clear hfz7_4
    try clear hfz7_5
    try clear hfz9_0
    try clear hfz9_1
    try clear hfz9_2
    try clear hfz9_3
    try clear hfz9_4
    try clear hfz9_5
    try clear p2
    obtain ⟨x3_2,rfl,HA,HK2,BK375,HB⟩:=hrel
    cases gk with
    | zero=>exact absurd HA.out (by simp [R08_Whole.l0])
    | succ k2 =>
     have H:=HA.out
     clear HA
     simp only [R08_Whole.l0] at H
     by_cases c16:x3_2<(l0_5.length:Int)
     rotate_left
     ·rw [if_neg c16] at H
      have c16b0:decide (x3_2<(l0_5.length:Int))=false:=decide_eq_false c16
      clear c16
      obtain rfl:=Option.some.inj H
      obtain ⟨_,_,_,_,_,_,_,_,_,_,_,_⟩:=Ke6_ BK375.out
      go_wp2
      repeat (go_quiet (fail);try go_wp2)
      go_ret
      exact ⟨Kh_,Kz_ HB GW375⟩
     rw [if_pos c16] at H
     have c16b0:decide (x3_2<(l0_5.length:Int))=true:=decide_eq_true c16
     clear c16
     by_cases c17:0≤x3_2
     rotate_left
     ·rw [if_neg c17] at H
      exact absurd H (by simp)
     rw [if_pos c17] at H
     have c17b0:decide (0≤x3_2)=true:=decide_eq_true c17
     clear c17
     obtain ⟨t378,A18,H⟩:=Kbind_ H
     (try dsimp only at H)
     by_cases c19:t378=true
     rotate_left
     ·replace c19:=Bool.eq_false_iff.mpr c19
      subst c19
      rw [if_neg Bool.false_ne_true] at H
      obtain rfl:=Option.some.inj H
      obtain ⟨_,_,_,_,_,_,_,_,_,_,_,_⟩:=Ke6_ BK375.out
      have p377:0≤(x3_2:Int):=of_decide_eq_true (by first|(with_reducible assumption)|assumption)
      have q377:x3_2<(l0_5.length:Int):=of_decide_eq_true (by first|(with_reducible assumption)|assumption)
      obtain ⟨ad377,e377,hx377_0,hx377_1,hx377_2,hx377_3⟩:=at_T117 HR0_5.out x3_2 p377 q377
      cases e377
      replace hx377_0:=(HB.out.cell (World.block_lt_of_cell? w _ hx377_0)).trans hx377_0
      replace hx377_1:=(HB.out.cell (World.block_lt_of_cell? w _ hx377_1)).trans hx377_1
      replace hx377_2:=(HB.out.cell (World.block_lt_of_cell? w _ hx377_2)).trans hx377_2
      replace hx377_3:=(HB.out.cell (World.block_lt_of_cell? w _ hx377_3)).trans hx377_3
      replace p377:=eq_true p377
      replace q377:=eq_true q377
      go_wp2_with (first|(go_at_call 97;(with_reducible refine (R08_Right.calls ((rd_T117 l0_5 x3_2).f0) ((rd_T117 l0_5 x3_2).f1) ((rd_T117 l0_5 x3_2).f2) ((rd_T117 l0_5 x3_2).f3) false _ A18.out).mono ?_);rintro e w33 ⟨rfl,hb⟩;replace BK375:=Kb_ BK375 hb;replace HB:=Ks_ HB hb;(try clear hb)))
      repeat (go_quiet (first|(go_at_call 97;(with_reducible refine (R08_Right.calls ((rd_T117 l0_5 x3_2).f0) ((rd_T117 l0_5 x3_2).f1) ((rd_T117 l0_5 x3_2).f2) ((rd_T117 l0_5 x3_2).f3) false _ A18.out).mono ?_);rintro e w33 ⟨rfl,hb⟩;replace BK375:=Kb_ BK375 hb;replace HB:=Ks_ HB hb;(try clear hb)));try go_wp2_with (first|(go_at_call 97;(with_reducible refine (R08_Right.calls ((rd_T117 l0_5 x3_2).f0) ((rd_T117 l0_5 x3_2).f1) ((rd_T117 l0_5 x3_2).f2) ((rd_T117 l0_5 x3_2).f3) false _ A18.out).mono ?_);rintro e w33 ⟨rfl,hb⟩;replace BK375:=Kb_ BK375 hb;replace HB:=Ks_ HB hb;(try clear hb))))
      go_ret
      exact ⟨Kh_,Kz_ HB GW375⟩
     subst c19
     rw [if_pos rfl] at H
     have H':=As_ H
     clear H
     obtain ⟨hcz20_0,hcz20_1,hcz20_2,hcz20_3,hcz20_4,hcz20_5,hfz20_0,hfz20_1,hfz20_2,hfz20_3,hfz20_4,hfz20_5⟩:=Ke6_ BK375.out
     have p377:0≤(x3_2:Int):=of_decide_eq_true (by first|(with_reducible assumption)|assumption)
     have q377:x3_2<(l0_5.length:Int):=of_decide_eq_true (by first|(with_reducible assumption)|assumption)
     obtain ⟨ad377,e377,hx377_0,hx377_1,hx377_2,hx377_3⟩:=at_T117 HR0_5.out x3_2 p377 q377
     cases e377
     replace hx377_0:=(HB.out.cell (World.block_lt_of_cell? w _ hx377_0)).trans hx377_0
     replace hx377_1:=(HB.out.cell (World.block_lt_of_cell? w _ hx377_1)).trans hx377_1
     replace hx377_2:=(HB.out.cell (World.block_lt_of_cell? w _ hx377_2)).trans hx377_2
     replace hx377_3:=(HB.out.cell (World.block_lt_of_cell? w _ hx377_3)).trans hx377_3
     replace p377:=eq_true p377
     replace q377:=eq_true q377
     go_wp2_with (first|(go_at_call 97;(with_reducible refine (R08_Right.calls ((rd_T117 l0_5 x3_2).f0) ((rd_T117 l0_5 x3_2).f1) ((rd_T117 l0_5 x3_2).f2) ((rd_T117 l0_5 x3_2).f3) true _ A18.out).mono ?_);rintro e w21 ⟨rfl,hb⟩;replace BK375:=Kb_ BK375 hb;replace HB:=Ks_ HB hb;(try clear hb)))
     repeat (go_quiet (first|(go_at_call 97;(with_reducible refine (R08_Right.calls ((rd_T117 l0_5 x3_2).f0) ((rd_T117 l0_5 x3_2).f1) ((rd_T117 l0_5 x3_2).f2) ((rd_T117 l0_5 x3_2).f3) true _ A18.out).mono ?_);rintro e w21 ⟨rfl,hb⟩;replace BK375:=Kb_ BK375 hb;replace HB:=Ks_ HB hb;(try clear hb)));try go_wp2_with (first|(go_at_call 97;(with_reducible refine (R08_Right.calls ((rd_T117 l0_5 x3_2).f0) ((rd_T117 l0_5 x3_2).f1) ((rd_T117 l0_5 x3_2).f2) ((rd_T117 l0_5 x3_2).f3) true _ A18.out).mono ?_);rintro e w21 ⟨rfl,hb⟩;replace BK375:=Kb_ BK375 hb;replace HB:=Ks_ HB hb;(try clear hb))))
     go_loopg [4] k2 (fun kq v4 w'=>∃ (x4_3:Int),v4 = .int .i64 x4_3∧Aside0 (R08_Whole.l1 kq x3_2 x4_3 a0_0 a0_1 a0_2 a0_3 a0_4 l0_5=some r)∧Aside0 (kq≤k2)∧Aside0 (w'.heap[gb375]?=some (.cells #[.int .u64 a0_0,.int .u64 a0_1,.int .u64 a0_2,.int .u64 a0_3,.int .i64 a0_4,(.slice (some ad377) l0_5.length c0_5)] 55 (0,0)))∧Aside0 (Below w.heap.size w w'))
     case atStart=>exact ⟨(0),(by first|rfl|(simp;done)|(simp [*];done)),H',⟨Nat.le_refl _⟩,⟨by exact Kq_ BK375⟩,⟨Kz_ HB GW375⟩⟩
     case round =>
      clear H'
      try clear c1
      try clear p2
      try clear p3
      try clear q3
      try clear hx3
      try clear c5
      try clear c6
      try clear c6b0
      try clear c6b1
      try clear c7
      try clear c15
      try clear c16
      try clear c16b0
      try clear c17
      try clear c17b0
      try clear c19
      try clear hcz10_0
      try clear hcz10_1
      try clear hcz10_2
      try clear hcz10_3
      try clear hcz10_4
      try clear hcz10_5
      try clear hcz12_0
      try clear hcz12_1
      try clear hcz12_2
      try clear hcz12_3
      try clear hcz12_4
      try clear hcz12_5
      try clear hcz13_0
      try clear hcz13_1
      try clear hcz13_2
      try clear hcz13_3
      try clear hcz13_4
      try clear hcz13_5
      try clear hcz20_0
      try clear hcz20_1
      try clear hcz20_2
      try clear hcz20_3
      try clear hcz20_4
      try clear hcz20_5
      try clear hcz7_0
      try clear hcz7_1
      try clear hcz7_2
      try clear hcz7_3
      try clear hcz7_4
      try clear hcz7_5
      try clear hcz9_0
      try clear hcz9_1
      try clear hcz9_2
      try clear hcz9_3
      try clear hcz9_4
      try clear hcz9_5
      try clear hfz10_0
      try clear hfz10_1
      try clear hfz10_2
      try clear hfz10_3
      try clear hfz10_4
      try clear hfz10_5
      try clear hfz12_0
      try clear hfz12_1
      try clear hfz12_2
      try clear hfz12_3
      try clear hfz12_4
      try clear hfz12_5
      try clear hfz13_0
      try clear hfz13_1
      try clear hfz13_2
      try clear hfz13_3
      try clear hfz13_4
      try clear hfz13_5
      try clear hfz20_0
      try clear hfz20_1
      try clear hfz20_2
      try clear hfz20_3
      try clear hfz20_4
      try clear hfz20_5
      try clear hfz7_0
      try clear hfz7_1
      try clear hfz7_2
      try clear hfz7_3
      try clear hfz7_4
      try clear hfz7_5
      try clear hfz9_0
      try clear hfz9_1
      try clear hfz9_2
      try clear hfz9_3
      try clear hfz9_4
      try clear hfz9_5
      try clear hx377_0
      try clear hx377_1
      try clear hx377_2
      try clear hx377_3
      try clear p2
      try clear p377
      try clear q377
      obtain ⟨x4_3,rfl,HA,HK3,BK375,HB⟩:=hrel
      cases gk with
      | zero=>exact absurd HA.out (by simp [R08_Whole.l1])
      | succ k3 =>
       have H:=HA.out
       clear HA
       simp only [R08_Whole.l1] at H
       by_cases c22:x4_3<x3_2
       rotate_left
       ·rw [if_neg c22] at H
        have c22b0:decide (x4_3<x3_2)=false:=decide_eq_false c22
        clear c22
        have H':=As_ H
        clear H
        go_wp2
        repeat (go_quiet (fail);try go_wp2)
        go_roundg k3
        case measure=>have:=HJ1.out;have:=HK2.out;have:=HK3.out;omega
        case rel=>exact ⟨(wrap64 (x3_2+1)),(by first|rfl|(simp;done)|(simp [*];done)),H',⟨by have:=HJ1.out;have:=HK2.out;have:=HK3.out;omega⟩,⟨by exact Kq_ BK375⟩,⟨Kz_ HB GW375⟩⟩
       rw [if_pos c22] at H
       have c22b0:decide (x4_3<x3_2)=true:=decide_eq_true c22
       clear c22
       by_cases c23:0≤x4_3
       rotate_left
       ·rw [if_neg c23] at H
        exact absurd H (by simp)
       rw [if_pos c23] at H
       have c23b0:decide (0≤x4_3)=true:=decide_eq_true c23
       clear c23
       by_cases c24:x4_3<(l0_5.length:Int)
       rotate_left
       ·rw [if_neg c24] at H
        exact absurd H (by simp)
       rw [if_pos c24] at H
       have c24b0:decide (x4_3<(l0_5.length:Int))=true:=decide_eq_true c24
       clear c24
       by_cases c25:0≤x3_2
       rotate_left
       ·rw [if_neg c25] at H
        exact absurd H (by simp)
       rw [if_pos c25] at H
       have c25b0:decide (0≤x3_2)=true:=decide_eq_true c25
       clear c25
       by_cases c26:x3_2<(l0_5.length:Int)
       rotate_left
       ·rw [if_neg c26] at H
        exact absurd H (by simp)
       rw [if_pos c26] at H
       have c26b0:decide (x3_2<(l0_5.length:Int))=true:=decide_eq_true c26
       clear c26
       by_cases c27:((rd_T117 l0_5 x4_3).f0).toList=((rd_T117 l0_5 x3_2).f0).toList
       rotate_left
       ·rw [if_neg c27] at H
        have c27b0:=beq_eq_false_iff_ne.mpr c27
        have c27b1:(((rd_T117 l0_5 x4_3).f0).toList != ((rd_T117 l0_5 x3_2).f0).toList)=true:=bne_iff_ne.mpr c27
        have H':=As_ H
        clear H
        obtain ⟨_,_,_,_,_,_,_,_,_,_,_,_⟩:=Ke6_ BK375.out
        have p379:0≤(x4_3:Int):=of_decide_eq_true (by first|(with_reducible assumption)|assumption)
        have q379:x4_3<(l0_5.length:Int):=of_decide_eq_true (by first|(with_reducible assumption)|assumption)
        obtain ⟨ad379,e379,hx379_0,hx379_1,hx379_2,hx379_3⟩:=at_T117 HR0_5.out x4_3 p379 q379
        obtain rfl:ad377=ad379:=(by injection e379)
        replace hx379_0:=(HB.out.cell (World.block_lt_of_cell? w _ hx379_0)).trans hx379_0
        replace hx379_1:=(HB.out.cell (World.block_lt_of_cell? w _ hx379_1)).trans hx379_1
        replace hx379_2:=(HB.out.cell (World.block_lt_of_cell? w _ hx379_2)).trans hx379_2
        replace hx379_3:=(HB.out.cell (World.block_lt_of_cell? w _ hx379_3)).trans hx379_3
        replace p379:=eq_true p379
        replace q379:=eq_true q379
        have p380:0≤(x3_2:Int):=of_decide_eq_true (by first|(with_reducible assumption)|assumption)
        have q380:x3_2<(l0_5.length:Int):=of_decide_eq_true (by first|(with_reducible assumption)|assumption)
        obtain ⟨ad380,e380,hx380_0,hx380_1,hx380_2,hx380_3⟩:=at_T117 HR0_5.out x3_2 p380 q380
        obtain rfl:ad377=ad380:=(by injection e380)
        replace hx380_0:=(HB.out.cell (World.block_lt_of_cell? w _ hx380_0)).trans hx380_0
        replace hx380_1:=(HB.out.cell (World.block_lt_of_cell? w _ hx380_1)).trans hx380_1
        replace hx380_2:=(HB.out.cell (World.block_lt_of_cell? w _ hx380_2)).trans hx380_2
        replace hx380_3:=(HB.out.cell (World.block_lt_of_cell? w _ hx380_3)).trans hx380_3
        replace p380:=eq_true p380
        replace q380:=eq_true q380
        go_wp2
        repeat (go_quiet (fail);try go_wp2)
        go_roundg k3
        case measure=>have:=HJ1.out;have:=HK2.out;have:=HK3.out;omega
        case rel=>exact ⟨(wrap64 (x4_3+1)),(by first|rfl|(simp;done)|(simp [*];done)),H',⟨by have:=HJ1.out;have:=HK2.out;have:=HK3.out;omega⟩,⟨by exact Kq_ BK375⟩,⟨Kz_ HB GW375⟩⟩
       rw [if_pos c27] at H
       have c27b0:(((rd_T117 l0_5 x4_3).f0).toList == ((rd_T117 l0_5 x3_2).f0).toList)=true:=beq_iff_eq.mpr c27
       have c27b1:(((rd_T117 l0_5 x4_3).f0).toList != ((rd_T117 l0_5 x3_2).f0).toList)=false:=bne_eq_false_iff_eq.mpr c27
       clear c27
       by_cases c28:((rd_T117 l0_5 x4_3).f1).toList=((rd_T117 l0_5 x3_2).f1).toList
       ·rw [if_pos c28] at H
        have c28b0:(((rd_T117 l0_5 x4_3).f1).toList == ((rd_T117 l0_5 x3_2).f1).toList)=true:=beq_iff_eq.mpr c28
        have c28b1:(((rd_T117 l0_5 x4_3).f1).toList != ((rd_T117 l0_5 x3_2).f1).toList)=false:=bne_eq_false_iff_eq.mpr c28
        clear c28
        obtain rfl:=Option.some.inj H
        obtain ⟨_,_,_,_,_,_,_,_,_,_,_,_⟩:=Ke6_ BK375.out
        have p379:0≤(x4_3:Int):=of_decide_eq_true (by first|(with_reducible assumption)|assumption)
        have q379:x4_3<(l0_5.length:Int):=of_decide_eq_true (by first|(with_reducible assumption)|assumption)
        obtain ⟨ad379,e379,hx379_0,hx379_1,hx379_2,hx379_3⟩:=at_T117 HR0_5.out x4_3 p379 q379
        obtain rfl:ad377=ad379:=(by injection e379)
        replace hx379_0:=(HB.out.cell (World.block_lt_of_cell? w _ hx379_0)).trans hx379_0
        replace hx379_1:=(HB.out.cell (World.block_lt_of_cell? w _ hx379_1)).trans hx379_1
        replace hx379_2:=(HB.out.cell (World.block_lt_of_cell? w _ hx379_2)).trans hx379_2
        replace hx379_3:=(HB.out.cell (World.block_lt_of_cell? w _ hx379_3)).trans hx379_3
        replace p379:=eq_true p379
        replace q379:=eq_true q379
        have p380:0≤(x3_2:Int):=of_decide_eq_true (by first|(with_reducible assumption)|assumption)
        have q380:x3_2<(l0_5.length:Int):=of_decide_eq_true (by first|(with_reducible assumption)|assumption)
        obtain ⟨ad380,e380,hx380_0,hx380_1,hx380_2,hx380_3⟩:=at_T117 HR0_5.out x3_2 p380 q380
        obtain rfl:ad377=ad380:=(by injection e380)
        replace hx380_0:=(HB.out.cell (World.block_lt_of_cell? w _ hx380_0)).trans hx380_0
        replace hx380_1:=(HB.out.cell (World.block_lt_of_cell? w _ hx380_1)).trans hx380_1
        replace hx380_2:=(HB.out.cell (World.block_lt_of_cell? w _ hx380_2)).trans hx380_2
        replace hx380_3:=(HB.out.cell (World.block_lt_of_cell? w _ hx380_3)).trans hx380_3
        replace p380:=eq_true p380
        replace q380:=eq_true q380
        have p381:0≤(x4_3:Int):=of_decide_eq_true (by first|(with_reducible assumption)|assumption)
        have q381:x4_3<(l0_5.length:Int):=of_decide_eq_true (by first|(with_reducible assumption)|assumption)
        obtain ⟨ad381,e381,hx381_0,hx381_1,hx381_2,hx381_3⟩:=at_T117 HR0_5.out x4_3 p381 q381
        obtain rfl:ad377=ad381:=(by injection e381)
        replace hx381_0:=(HB.out.cell (World.block_lt_of_cell? w _ hx381_0)).trans hx381_0
        replace hx381_1:=(HB.out.cell (World.block_lt_of_cell? w _ hx381_1)).trans hx381_1
        replace hx381_2:=(HB.out.cell (World.block_lt_of_cell? w _ hx381_2)).trans hx381_2
        replace hx381_3:=(HB.out.cell (World.block_lt_of_cell? w _ hx381_3)).trans hx381_3
        replace p381:=eq_true p381
        replace q381:=eq_true q381
        have p382:0≤(x3_2:Int):=of_decide_eq_true (by first|(with_reducible assumption)|assumption)
        have q382:x3_2<(l0_5.length:Int):=of_decide_eq_true (by first|(with_reducible assumption)|assumption)
        obtain ⟨ad382,e382,hx382_0,hx382_1,hx382_2,hx382_3⟩:=at_T117 HR0_5.out x3_2 p382 q382
        obtain rfl:ad377=ad382:=(by injection e382)
        replace hx382_0:=(HB.out.cell (World.block_lt_of_cell? w _ hx382_0)).trans hx382_0
        replace hx382_1:=(HB.out.cell (World.block_lt_of_cell? w _ hx382_1)).trans hx382_1
        replace hx382_2:=(HB.out.cell (World.block_lt_of_cell? w _ hx382_2)).trans hx382_2
        replace hx382_3:=(HB.out.cell (World.block_lt_of_cell? w _ hx382_3)).trans hx382_3
        replace p382:=eq_true p382
        replace q382:=eq_true q382
        go_wp2
        repeat (go_quiet (fail);try go_wp2)
        go_ret
        exact ⟨Kh_,Kz_ HB GW375⟩
       rw [if_neg c28] at H
       have c28b0:=beq_eq_false_iff_ne.mpr c28
       have c28b1:(((rd_T117 l0_5 x4_3).f1).toList != ((rd_T117 l0_5 x3_2).f1).toList)=true:=bne_iff_ne.mpr c28
       have H':=As_ H
       clear H
       obtain ⟨_,_,_,_,_,_,_,_,_,_,_,_⟩:=Ke6_ BK375.out
       have p379:0≤(x4_3:Int):=of_decide_eq_true (by first|(with_reducible assumption)|assumption)
       have q379:x4_3<(l0_5.length:Int):=of_decide_eq_true (by first|(with_reducible assumption)|assumption)
       obtain ⟨ad379,e379,hx379_0,hx379_1,hx379_2,hx379_3⟩:=at_T117 HR0_5.out x4_3 p379 q379
       obtain rfl:ad377=ad379:=(by injection e379)
       replace hx379_0:=(HB.out.cell (World.block_lt_of_cell? w _ hx379_0)).trans hx379_0
       replace hx379_1:=(HB.out.cell (World.block_lt_of_cell? w _ hx379_1)).trans hx379_1
       replace hx379_2:=(HB.out.cell (World.block_lt_of_cell? w _ hx379_2)).trans hx379_2
       replace hx379_3:=(HB.out.cell (World.block_lt_of_cell? w _ hx379_3)).trans hx379_3
       replace p379:=eq_true p379
       replace q379:=eq_true q379
       have p380:0≤(x3_2:Int):=of_decide_eq_true (by first|(with_reducible assumption)|assumption)
       have q380:x3_2<(l0_5.length:Int):=of_decide_eq_true (by first|(with_reducible assumption)|assumption)
       obtain ⟨ad380,e380,hx380_0,hx380_1,hx380_2,hx380_3⟩:=at_T117 HR0_5.out x3_2 p380 q380
       obtain rfl:ad377=ad380:=(by injection e380)
       replace hx380_0:=(HB.out.cell (World.block_lt_of_cell? w _ hx380_0)).trans hx380_0
       replace hx380_1:=(HB.out.cell (World.block_lt_of_cell? w _ hx380_1)).trans hx380_1
       replace hx380_2:=(HB.out.cell (World.block_lt_of_cell? w _ hx380_2)).trans hx380_2
       replace hx380_3:=(HB.out.cell (World.block_lt_of_cell? w _ hx380_3)).trans hx380_3
       replace p380:=eq_true p380
       replace q380:=eq_true q380
       have p381:0≤(x4_3:Int):=of_decide_eq_true (by first|(with_reducible assumption)|assumption)
       have q381:x4_3<(l0_5.length:Int):=of_decide_eq_true (by first|(with_reducible assumption)|assumption)
       obtain ⟨ad381,e381,hx381_0,hx381_1,hx381_2,hx381_3⟩:=at_T117 HR0_5.out x4_3 p381 q381
       obtain rfl:ad377=ad381:=(by injection e381)
       replace hx381_0:=(HB.out.cell (World.block_lt_of_cell? w _ hx381_0)).trans hx381_0
       replace hx381_1:=(HB.out.cell (World.block_lt_of_cell? w _ hx381_1)).trans hx381_1
       replace hx381_2:=(HB.out.cell (World.block_lt_of_cell? w _ hx381_2)).trans hx381_2
       replace hx381_3:=(HB.out.cell (World.block_lt_of_cell? w _ hx381_3)).trans hx381_3
       replace p381:=eq_true p381
       replace q381:=eq_true q381
       have p382:0≤(x3_2:Int):=of_decide_eq_true (by first|(with_reducible assumption)|assumption)
       have q382:x3_2<(l0_5.length:Int):=of_decide_eq_true (by first|(with_reducible assumption)|assumption)
       obtain ⟨ad382,e382,hx382_0,hx382_1,hx382_2,hx382_3⟩:=at_T117 HR0_5.out x3_2 p382 q382
       obtain rfl:ad377=ad382:=(by injection e382)
       replace hx382_0:=(HB.out.cell (World.block_lt_of_cell? w _ hx382_0)).trans hx382_0
       replace hx382_1:=(HB.out.cell (World.block_lt_of_cell? w _ hx382_1)).trans hx382_1
       replace hx382_2:=(HB.out.cell (World.block_lt_of_cell? w _ hx382_2)).trans hx382_2
       replace hx382_3:=(HB.out.cell (World.block_lt_of_cell? w _ hx382_3)).trans hx382_3
       replace p382:=eq_true p382
       replace q382:=eq_true q382
       go_wp2
       repeat (go_quiet (fail);try go_wp2)
       go_roundg k3
       case measure=>have:=HJ1.out;have:=HK2.out;have:=HK3.out;omega
       case rel=>exact ⟨(wrap64 (x4_3+1)),(by first|rfl|(simp;done)|(simp [*];done)),H',⟨by have:=HJ1.out;have:=HK2.out;have:=HK3.out;omega⟩,⟨by exact Kq_ BK375⟩,⟨Kz_ HB GW375⟩⟩
end Go.Proofs.Ytoagfdpgnfinhaa.Q

namespace Go.Proofs.Ytoagfdpgnfinhaa.Q
open Go.RowKit Go.Proofs.YtoagfdpgnfinhaaW.PrintWords Go.Proofs.YtoagfdpgnfinhaaW.PrintLast Go.Proofs.YtoagfdpgnfinhaaW.PrintMore
attribute [local go_sem] max2_int min2_int max_two min_two max_three min_three max_four min_four   -- for this text's walks alone
set_option linter.unusedVariables false
set_option linter.unusedSimpArgs false
attribute [local go_sem] ixA50_0 ixA50_1 ixA50_2 ixA50_3   -- for this text's walks alone
attribute [local go_sem high] eqA52
def R15_Right.j0:Nat→Bool→Int→Int→Int→Int→Int→Int→Int→Int→List (S117)→Option (Bool)
 | 0,_,_,_,_,_,_,_,_,_,_=>none
 | k+1,x10,x116,x120,x118,x111,x112,x113,x114,x115,x119=>if x10=true then (some false) else (if x116=1 then ((R08_Whole.f k x111 x112 x113 x114 x115 x119).bind fun t384=>(if t384=true then ((R07_Stamp_N.f x111 x112 x113 x114 x115).bind fun t385=>(some (x118 == t385))) else (some false))) else (if x116=2 then (if x118≤1152921504606846976 then (if ((x111 == 0 && (x112 == 0 && (x113 == 0 && (x114 == 0)))) && (x115 == 0))=true then (some ((x119.length:Int) == 0)) else (some false)) else (some false)) else (some false)))
def R15_Right.f (k:Nat) (a0_0:Int) (a0_1:Int) (a0_2:Int) (a0_3:Int) (a0_4:Int) (a0_5:Int) (a0_6:Int) (a0_7:Int) (l0_8:List (S117)):Option (Bool):=if a0_1<1 then (R15_Right.j0 k true a0_0 a0_1 a0_2 a0_3 a0_4 a0_5 a0_6 a0_7 l0_8) else (R15_Right.j0 k (decide (a0_1 > 4)) a0_0 a0_1 a0_2 a0_3 a0_4 a0_5 a0_6 a0_7 l0_8)
def R15_Right.T4:Bool × List (List Nat × List Nat):=(true,[([],[]),([0],[0]),([1],[1]),([2,2],[2]),([3],[3]),([4,3],[3,4]),([3],[3]),([6,3],[3,6]),([7,3],[3,7]),([8,3,3],[3,8]),([5,9,3],[3,5,9]),([3,10],[3,10]),([11,9,0,1,2,3,4,5,6,7,8,9,10,11],[11])])
def R15_Right.B4:List Nat:=[0,1,3,7,15,31,15,79,207,463,1023,2047,4095]
theorem R15_Right.tab4:rtab .any (opsOf Try.f34 4)=R15_Right.T4:=by kernel_rfl
theorem R15_Right.bits4:waitsOk R15_Right.T4.2 R15_Right.B4=true:=by kernel_rfl
set_option maxHeartbeats 8000000 in
set_option maxRecDepth 100000 in
theorem R15_Right.calls (k:Nat) (a0_0:Int) (a0_1:Int) (a0_2:Int) (a0_3:Int) (a0_4:Int) (a0_5:Int) (a0_6:Int) (a0_7:Int) (A0_8:Option Addr) (c0_8:Nat) (l0_8:List (S117)) (r:Bool) (w:World) (hr0_8:Kd.C k117 w A0_8 l0_8.length l0_8) (hc0_8:l0_8.length≤c0_8) (h:R15_Right.f k a0_0 a0_1 a0_2 a0_3 a0_4 a0_5 a0_6 a0_7 l0_8=some r) :
  Calls Try.prog 34 #[.agg #[.int .i64 a0_0,.int .i64 a0_1,.int .u64 a0_2,.int .u64 a0_3,.int .u64 a0_4,.int .u64 a0_5,.int .u64 a0_6,.int .i64 a0_7,.slice A0_8 l0_8.length c0_8]] w fun e w'=>e = .returned (.bool r)∧Below w.heap.size w w':=by
 have hu75:=Try.underlying75
 have hu55:=Try.underlying55
 have hu52:=Try.underlying52
 have HR0_8:=As_ hr0_8
 have HC0_8:=As_ hc0_8
 clear hr0_8 hc0_8
 have HB:=As_ (Below.refl w.heap.size w)
 unfold R15_Right.f at h
 have H:=h
 clear h
 have HC2:=As_ H
 clear H
 go_enter Try.func34,Try.ntmps34
 go_upto_region 1 with (first|((with_reducible refine gate_dst (N:=1) rfl ?_);refine Ka_ 1 #[.int .i64 a0_0,.int .i64 a0_1,.int .u64 a0_2,.int .u64 a0_3,.int .u64 a0_4,.int .u64 a0_5,.int .u64 a0_6,.int .i64 a0_7,.slice A0_8 l0_8.length c0_8] 75 ?_;intro gb383 hg w3 hbox hb;have BK383:=As_ (hbox);have GW383:=Kw_ HB hg;replace HB:=Ks_ HB hb;clear hb hbox hg))
 (try simp only [Act.put,List.setIfInBounds_toArray,List.set_cons_zero,List.set_cons_succ])
 go_cut [10] (fun v10 wc=>∃ (kq:Nat) (x10_1:Bool),v10 = .bool x10_1∧Aside0 (R15_Right.j0 kq x10_1 a0_0 a0_1 a0_2 a0_3 a0_4 a0_5 a0_6 a0_7 l0_8=some r)∧Aside0 (kq≤k)∧Aside0 (wc.heap[gb383]?=some (.cells #[.int .i64 a0_0,.int .i64 a0_1,.int .u64 a0_2,.int .u64 a0_3,.int .u64 a0_4,.int .u64 a0_5,.int .u64 a0_6,.int .i64 a0_7,(.slice A0_8 l0_8.length c0_8)] 75 (0,0)))∧Aside0 (Below w.heap.size w wc))
 case first =>
  have H:=HC2.out
  clear HC2
  by_cases c4:a0_1<1
  ·rw [if_pos c4] at H
   have c4b0:decide (a0_1<1)=true:=decide_eq_true c4
   clear c4
   (first|rw [c4b0]|(simp only [i64_w,i32_w];rw [c4b0])|skip)
   have H':=As_ H
   clear H
   obtain ⟨hcz5_0,hcz5_1,hcz5_2,hcz5_3,hcz5_4,hcz5_5,hcz5_6,hcz5_7,hcz5_8,hfz5_0,hfz5_1,hfz5_2,hfz5_3,hfz5_4,hfz5_5,hfz5_6,hfz5_7,hfz5_8⟩:=Ke9_ BK383.out
   go_wp2
   go_meet
   case rel=>exact ⟨_,(true),(by first|rfl|(simp;done)|(simp [*];done)),H',⟨by first|omega|exact Nat.le_refl _⟩,⟨by exact Kq_ BK383⟩,⟨Kz_ HB GW383⟩⟩
  rw [if_neg c4] at H
  have c4b0:decide (a0_1<1)=false:=decide_eq_false c4
  clear c4
  (first|rw [c4b0]|(simp only [i64_w,i32_w];rw [c4b0])|skip)
  have H':=As_ H
  clear H
  obtain ⟨hcz6_0,hcz6_1,hcz6_2,hcz6_3,hcz6_4,hcz6_5,hcz6_6,hcz6_7,hcz6_8,hfz6_0,hfz6_1,hfz6_2,hfz6_3,hfz6_4,hfz6_5,hfz6_6,hfz6_7,hfz6_8⟩:=Ke9_ BK383.out
  go_wp2
  go_meet
  case rel=>exact ⟨_,(decide (a0_1 > 4)),(by first|rfl|(simp;done)|(simp [*];done)),H',⟨by first|omega|exact Nat.le_refl _⟩,⟨by exact Kq_ BK383⟩,⟨Kz_ HB GW383⟩⟩
 case rest =>
  clear HC2
  try clear p2
  try clear c3
  try clear c4
  try clear c4b0
  try clear hcz5_0
  try clear hcz5_1
  try clear hcz5_2
  try clear hcz5_3
  try clear hcz5_4
  try clear hcz5_5
  try clear hcz5_6
  try clear hcz5_7
  try clear hcz5_8
  try clear hcz6_0
  try clear hcz6_1
  try clear hcz6_2
  try clear hcz6_3
  try clear hcz6_4
  try clear hcz6_5
  try clear hcz6_6
  try clear hcz6_7
  try clear hcz6_8
  try clear hfz5_0
  try clear hfz5_1
  try clear hfz5_2
  try clear hfz5_3
  try clear hfz5_4
  try clear hfz5_5
  try clear hfz5_6
  try clear hfz5_7
  try clear hfz5_8
  try clear hfz6_0
  try clear hfz6_1
  try clear hfz6_2
  try clear hfz6_3
  try clear hfz6_4
  try clear hfz6_5
  try clear hfz6_6
  try clear hfz6_7
  try clear hfz6_8
  obtain ⟨kq,x10_1,rfl,HA,HJ1,BK383,HB⟩:=hcut
  cases kq with
  | zero=>exact absurd HA.out (by simp [R15_Right.j0])
  | succ kj1 =>
   have H:=HA.out
   clear HA
   simp only [R15_Right.j0] at H
   by_cases c7:x10_1=true
   ·subst c7
    rw [if_pos rfl] at H
    obtain rfl:=Option.some.inj H
    go_wp2
    go_ret
    exact ⟨Kh_,Kz_ HB GW383⟩
   replace c7:=Bool.eq_false_iff.mpr c7
   subst c7
   rw [if_neg Bool.false_ne_true] at H
   by_cases c8:a0_0=1
   rotate_left
   ·rw [if_neg c8] at H
    have c8b0:=beq_eq_false_iff_ne.mpr c8
    have c8b1:(a0_0 != 1)=true:=bne_iff_ne.mpr c8
    by_cases c19:a0_0=2
    rotate_left
    ·rw [if_neg c19] at H
     have c19b0:=beq_eq_false_iff_ne.mpr c19
     have c19b1:(a0_0 != 2)=true:=bne_iff_ne.mpr c19
     obtain rfl:=Option.some.inj H
     obtain ⟨_,_,_,_,_,_,_,_,_,_,_,_,_,_,_,_,_,_⟩:=Ke9_ BK383.out
     go_wp2
     go_ret
     exact ⟨Kh_,Kz_ HB GW383⟩
    rw [if_pos c19] at H
    have c19b0:(a0_0 == 2)=true:=beq_iff_eq.mpr c19
    have c19b1:(a0_0 != 2)=false:=bne_eq_false_iff_eq.mpr c19
    clear c19
    by_cases c20:a0_2≤1152921504606846976
    rotate_left
    ·rw [if_neg c20] at H
     have c20b0:decide (a0_2≤1152921504606846976)=false:=decide_eq_false c20
     clear c20
     obtain rfl:=Option.some.inj H
     obtain ⟨_,_,_,_,_,_,_,_,_,_,_,_,_,_,_,_,_,_⟩:=Ke9_ BK383.out
     go_wp2
     go_ret
     exact ⟨Kh_,Kz_ HB GW383⟩
    rw [if_pos c20] at H
    have c20b0:decide (a0_2≤1152921504606846976)=true:=decide_eq_true c20
    clear c20
    by_cases c21:((a0_3 == 0 && (a0_4 == 0 && (a0_5 == 0 && (a0_6 == 0)))) && (a0_7 == 0))=true
    ·rw [if_pos c21] at H
     have c21b0:((a0_3 == 0 && (a0_4 == 0 && (a0_5 == 0 && (a0_6 == 0)))) && (a0_7 == 0))=true:=c21
     clear c21
     obtain rfl:=Option.some.inj H
     obtain ⟨_,_,_,_,_,_,_,_,_,_,_,_,_,_,_,_,_,_⟩:=Ke9_ BK383.out
     go_wp2
     go_ret
     exact ⟨Kh_,Kz_ HB GW383⟩
    rw [if_neg c21] at H
    have c21b0:((a0_3 == 0 && (a0_4 == 0 && (a0_5 == 0 && (a0_6 == 0)))) && (a0_7 == 0))=false:=by simpa using c21
    clear c21
    obtain rfl:=Option.some.inj H
    obtain ⟨_,_,_,_,_,_,_,_,_,_,_,_,_,_,_,_,_,_⟩:=Ke9_ BK383.out
    go_wp2
    go_ret
    exact ⟨Kh_,Kz_ HB GW383⟩
   rw [if_pos c8] at H
   have c8b0:(a0_0 == 1)=true:=beq_iff_eq.mpr c8
   have c8b1:(a0_0 != 1)=false:=bne_eq_false_iff_eq.mpr c8
   clear c8
   obtain ⟨t384,A9,H⟩:=Kbind_ H
   (try dsimp only at H)
   by_cases c10:t384=true
   rotate_left
   ·replace c10:=Bool.eq_false_iff.mpr c10
    subst c10
    rw [if_neg Bool.false_ne_true] at H
    obtain rfl:=Option.some.inj H
    obtain ⟨_,_,_,_,_,_,_,_,_,_,_,_,_,_,_,_,_,_⟩:=Ke9_ BK383.out
    try go_wp2
    replace BK383:=Kd_ BK383
    replace HB:=As_ (below_drew1 HB.out)
    refine start_ (n:=13) (S:=fun w'=>w'.cell? ⟨gb383,0,none⟩=some (.int .i64 a0_0)∧w'.cell? ⟨gb383,1,none⟩=some (.int .i64 a0_1)∧w'.cell? ⟨gb383,2,none⟩=some (.int .u64 a0_2)∧w'.cell? ⟨gb383,3,none⟩=some (.int .u64 a0_3)∧w'.cell? ⟨gb383,4,none⟩=some (.int .u64 a0_4)∧w'.cell? ⟨gb383,5,none⟩=some (.int .u64 a0_5)∧w'.cell? ⟨gb383,6,none⟩=some (.int .u64 a0_6)∧w'.cell? ⟨gb383,7,none⟩=some (.int .i64 a0_7)∧w'.cell? ⟨gb383,8,none⟩=some (.slice A0_8 l0_8.length c0_8)) (ds:=[]) (mB_ 13 0) (by kernel_rfl) rfl rfl (Kc9_ BK383.out) (fun hHeld=>?_);refine with_tabW R15_Right.tab4 R15_Right.bits4 (fun HT_ HW_=>?_)
    generalize wc.drew=w17 at BK383 HB hHeld ⊢
    refine Kp_ 0 14 (mB_ 13 1) (any_of HT_.out (by kernel_rfl)) ?_
    refine Ko_ 1 15 (mB_ 13 3) (take_ofW HT_.out HW_.out (by kernel_rfl)) hHeld ?_
    refine one_ (i:=2) (N:=some 16) (mB_ 13 7) rfl rfl (one_of HT_.out (by kernel_rfl)) (by decide) (fun K hK=>?_)
    refine goes_ Try.func74 (by kernel_rfl) rfl #[.agg #[.int .u64 a0_3,.int .u64 a0_4,.int .u64 a0_5,.int .u64 a0_6,.int .i64 a0_7,.slice A0_8 l0_8.length c0_8]] (by rfl) rfl rfl (by (try simp only [List.map_toArray,List.map_cons,List.map_nil]);first|done|rfl|(simp only [List.length_drop,List.length_take];rfl)) ?_
    with_reducible refine (R08_Whole.calls kj1 a0_3 a0_4 a0_5 a0_6 a0_7 _ _ l0_8 false _ ?side1 ?side2 A9.out).mono ?_
    (case side1=>repeat (first|exact (Kd.C_below HR0_8.out HB.out)|(with_reducible refine Kd.C_alloc ?_ _)|(with_reducible refine Kd.C_drewN ?_ _)|(with_reducible refine Kd.C_drew ?_)))
    (case side2=>exact HC0_8.out)
    rintro e w18 ⟨rfl,hb⟩
    refine ⟨_,rfl,?_⟩
    replace BK383:=Kb_ BK383 hb
    replace HB:=Ks_ HB hb
    (try clear hb)
    (try clear hb2)
    (try clear hk)
    (try clear hi)
    refine hK.out _ _ (Kc9_ BK383.out) (fun hHeld=>?_)
    clear hK K
    refine Kn_ 16 ?_
    refine Kp_ 3 17 (mB_ 13 15) (any_of HT_.out (by kernel_rfl)) ?_
    refine pure_ (i:=4) (N:=some 18) (v:=undef) (a':=?_) (mB_ 13 31) rfl rfl (any_of HT_.out (by kernel_rfl)) (fun _ _ _ h=>h) (Or.inr ⟨by rfl,rfl⟩) ?_ ?_
    rotate_left
    ·simp only [Act.put,List.setIfInBounds_toArray,List.set_cons_zero,List.set_cons_succ,i64_w,i32_w]
     rfl
    refine pure_ (i:=5) (N:=some 19) (v:=undef) (a':=?_) (mB_ 13 63) rfl rfl (any_of HT_.out (by kernel_rfl)) (fun _ _ _ h=>h) (Or.inr ⟨by rfl,rfl⟩) ?_ ?_
    rotate_left
    ·simp only [Act.put,List.setIfInBounds_toArray,List.set_cons_zero,List.set_cons_succ,i64_w,i32_w]
     rfl
    refine pure_ (i:=6) (N:=some 20) (v:=undef) (a':=?_) (mB_ 13 127) rfl rfl (any_of HT_.out (by kernel_rfl)) (fun _ _ _ h=>h) (Or.inr ⟨by rfl,rfl⟩) ?_ ?_
    rotate_left
    ·simp only [Act.put,List.setIfInBounds_toArray,List.set_cons_zero,List.set_cons_succ,i64_w,i32_w]
     rfl
    refine pure_ (i:=7) (N:=some 21) (v:=undef) (a':=?_) (mB_ 13 255) rfl rfl (any_of HT_.out (by kernel_rfl)) (fun _ _ _ h=>h) (Or.inr ⟨by rfl,rfl⟩) ?_ ?_
    rotate_left
    ·simp only [Act.put,List.setIfInBounds_toArray,List.set_cons_zero,List.set_cons_succ,i64_w,i32_w]
     rfl
    refine pure_ (i:=8) (N:=some 22) (v:=undef) (a':=?_) (mB_ 13 511) rfl rfl (any_of HT_.out (by kernel_rfl)) (fun _ _ _ h=>h) (Or.inr ⟨by rfl,rfl⟩) ?_ ?_
    rotate_left
    ·simp only [Act.put,List.setIfInBounds_toArray,List.set_cons_zero,List.set_cons_succ,i64_w,i32_w]
     rfl
    refine pure_ (i:=9) (N:=some 23) (v:=undef) (a':=?_) (mB_ 13 1023) rfl rfl (any_of HT_.out (by kernel_rfl)) (fun _ _ _ h=>h) (Or.inr ⟨by rfl,rfl⟩) ?_ ?_
    rotate_left
    ·simp only [Act.put,List.setIfInBounds_toArray,List.set_cons_zero,List.set_cons_succ,i64_w,i32_w]
     rfl
    refine pure_ (i:=10) (N:=some 24) (v:=undef) (a':=?_) (mB_ 13 2047) rfl rfl (any_of HT_.out (by kernel_rfl)) (fun _ _ _ h=>h) (Or.inr ⟨by rfl,rfl⟩) ?_ ?_
    rotate_left
    ·simp only [Act.put,List.setIfInBounds_toArray,List.set_cons_zero,List.set_cons_succ,i64_w,i32_w]
     rfl
    refine Kp_ 11 25 (mB_ 13 4095) (any_of HT_.out (by kernel_rfl)) ?_
    refine Kp_ 12 2 (mB_ 13 8191) (any_of HT_.out (by kernel_rfl)) ?_
    refine done_ (done_of HT_.out (by kernel_rfl)) ?_
    try go_wp2
    go_ret
    exact ⟨Kh_,Kz_ HB GW383⟩
   subst c10
   rw [if_pos rfl] at H
   obtain ⟨t385,A11,H⟩:=Kbind_ H
   (try dsimp only at H)
   obtain rfl:=Option.some.inj H
   obtain ⟨_,_,_,_,_,_,_,_,_,_,_,_,_,_,_,_,_,_⟩:=Ke9_ BK383.out
   try go_wp2
   replace BK383:=Kd_ BK383
   replace HB:=As_ (below_drew1 HB.out)
   refine start_ (n:=13) (S:=fun w'=>w'.cell? ⟨gb383,0,none⟩=some (.int .i64 a0_0)∧w'.cell? ⟨gb383,1,none⟩=some (.int .i64 a0_1)∧w'.cell? ⟨gb383,2,none⟩=some (.int .u64 a0_2)∧w'.cell? ⟨gb383,3,none⟩=some (.int .u64 a0_3)∧w'.cell? ⟨gb383,4,none⟩=some (.int .u64 a0_4)∧w'.cell? ⟨gb383,5,none⟩=some (.int .u64 a0_5)∧w'.cell? ⟨gb383,6,none⟩=some (.int .u64 a0_6)∧w'.cell? ⟨gb383,7,none⟩=some (.int .i64 a0_7)∧w'.cell? ⟨gb383,8,none⟩=some (.slice A0_8 l0_8.length c0_8)) (ds:=[]) (mB_ 13 0) (by kernel_rfl) rfl rfl (Kc9_ BK383.out) (fun hHeld=>?_);refine with_tabW R15_Right.tab4 R15_Right.bits4 (fun HT_ HW_=>?_)
   generalize wc.drew=w13 at BK383 HB hHeld ⊢
   refine Kp_ 0 14 (mB_ 13 1) (any_of HT_.out (by kernel_rfl)) ?_
   refine Ko_ 1 15 (mB_ 13 3) (take_ofW HT_.out HW_.out (by kernel_rfl)) hHeld ?_
   refine one_ (i:=2) (N:=some 16) (mB_ 13 7) rfl rfl (one_of HT_.out (by kernel_rfl)) (by decide) (fun K hK=>?_)
   refine goes_ Try.func74 (by kernel_rfl) rfl #[.agg #[.int .u64 a0_3,.int .u64 a0_4,.int .u64 a0_5,.int .u64 a0_6,.int .i64 a0_7,.slice A0_8 l0_8.length c0_8]] (by rfl) rfl rfl (by (try simp only [List.map_toArray,List.map_cons,List.map_nil]);first|done|rfl|(simp only [List.length_drop,List.length_take];rfl)) ?_
   with_reducible refine (R08_Whole.calls kj1 a0_3 a0_4 a0_5 a0_6 a0_7 _ _ l0_8 true _ ?side1 ?side2 A9.out).mono ?_
   (case side1=>repeat (first|exact (Kd.C_below HR0_8.out HB.out)|(with_reducible refine Kd.C_alloc ?_ _)|(with_reducible refine Kd.C_drewN ?_ _)|(with_reducible refine Kd.C_drew ?_)))
   (case side2=>exact HC0_8.out)
   rintro e w14 ⟨rfl,hb⟩
   refine ⟨_,rfl,?_⟩
   replace BK383:=Kb_ BK383 hb
   replace HB:=Ks_ HB hb
   (try clear hb)
   (try clear hb2)
   (try clear hk)
   (try clear hi)
   refine hK.out _ _ (Kc9_ BK383.out) (fun hHeld=>?_)
   clear hK K
   refine Kn_ 16 ?_
   refine Kp_ 3 17 (mB_ 13 15) (any_of HT_.out (by kernel_rfl)) ?_
   refine Kp_ 4 18 (mB_ 13 31) (any_of HT_.out (by kernel_rfl)) ?_
   refine Kp_ 6 20 (mB_ 13 95) (any_of HT_.out (by kernel_rfl)) ?_
   refine Kp_ 7 21 (mB_ 13 223) (any_of HT_.out (by kernel_rfl)) ?_
   refine Ko_ 5 19 (mB_ 13 255) (take_ofW HT_.out HW_.out (by kernel_rfl)) hHeld ?_
   refine Ko_ 8 22 (mB_ 13 511) (take_ofW HT_.out HW_.out (by kernel_rfl)) hHeld ?_
   refine one_ (i:=9) (N:=some 23) (mB_ 13 1023) rfl rfl (one_of HT_.out (by kernel_rfl)) (by decide) (fun K hK=>?_)
   refine goes_ Try.func72 (by kernel_rfl) rfl #[.agg #[.int .u64 a0_3,.int .u64 a0_4,.int .u64 a0_5,.int .u64 a0_6,.int .i64 a0_7]] (by rfl) rfl rfl (by (try simp only [List.map_toArray,List.map_cons,List.map_nil]);first|done|rfl|(simp only [List.length_drop,List.length_take];rfl)) ?_
   with_reducible refine (R07_Stamp_N.calls a0_3 a0_4 a0_5 a0_6 a0_7 t385 _ A11.out).mono ?_
   rintro e w15 ⟨rfl,hb⟩
   refine ⟨_,rfl,?_⟩
   replace BK383:=Kb_ BK383 hb
   replace HB:=Ks_ HB hb
   (try clear hb)
   (try clear hb2)
   (try clear hk)
   (try clear hi)
   refine hK.out _ _ (Kc9_ BK383.out) (fun hHeld=>?_)
   clear hK K
   refine Kn_ 23 ?_
   refine Kp_ 10 24 (mB_ 13 2047) (any_of HT_.out (by kernel_rfl)) ?_
   refine Kp_ 11 25 (mB_ 13 4095) (any_of HT_.out (by kernel_rfl)) ?_
   refine Kp_ 12 2 (mB_ 13 8191) (any_of HT_.out (by kernel_rfl)) ?_
   refine done_ (done_of HT_.out (by kernel_rfl)) ?_
   try go_wp2
   go_ret
   exact ⟨Kh_,Kz_ HB GW383⟩
end Go.Proofs.Ytoagfdpgnfinhaa.Q
