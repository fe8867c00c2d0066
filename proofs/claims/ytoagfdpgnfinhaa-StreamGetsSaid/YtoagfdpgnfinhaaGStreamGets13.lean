import Derived.Test.YtoagfdpgnfinhaaGStreamGets2
import Derived.Test.YtoagfdpgnfinhaaGStreamGets8
import Derived.Test.YtoagfdpgnfinhaaGStreamGets9
import Derived.Test.YtoagfdpgnfinhaaGStreamGets10
namespace Go.Proofs.Ytoagfdpgnfinhaa.Q
open Go.RowKit Go.Proofs.YtoagfdpgnfinhaaW.PrintWords Go.Proofs.YtoagfdpgnfinhaaW.PrintLast Go.Proofs.YtoagfdpgnfinhaaW.PrintMore
attribute [local go_sem] max2_int min2_int max_two min_two max_three min_three max_four min_four   -- for this text's walks alone
set_option linter.unusedVariables false
set_option linter.unusedSimpArgs false
mutual
def R08_Read.l0:Nat→ByteArray→Int→Int→ByteArray→Bool→Int→Int→Int→Int→Int→List (S117)→Option (Int × Int × Int × Int × Int × (List (S117)) × Bool)
 | 0,_,_,_,_,_,_,_,_,_,_,_=>none
 | k+1,x0,x6,x9,x111,x108,x115,x120,x126,x131,x137,x100=>if x9<x6 then (if x9<9 then (R08_Read.j1 k x0 x6 x9 (!x108) x111 x108 x115 x120 x126 x131 x137 x100) else (R08_Read.j1 k x0 x6 x9 false x111 x108 x115 x120 x126 x131 x137 x100)) else (R08_Read.j1 k x0 x6 x9 false x111 x108 x115 x120 x126 x131 x137 x100)
def R08_Read.j1:Nat→ByteArray→Int→Int→Bool→ByteArray→Bool→Int→Int→Int→Int→Int→List (S117)→Option (Int × Int × Int × Int × Int × (List (S117)) × Bool)
 | 0,_,_,_,_,_,_,_,_,_,_,_,_=>none
 | k+1,x0,x6,x9,x38,x111,x108,x115,x120,x126,x131,x137,x100=>if x38=true then ((R02_Reader_Text.f k x111 x108 16).bind fun bt575=>((R02_Reader_Text.f k bt575.2.1 bt575.2.2 16).bind fun bt578=>((R02_Reader_Number.f k bt578.2.1 bt578.2.2 1).bind fun bt581=>(if bt581.1=1 then (if x100.length<2513169434916 then (R08_Read.l0 k x0 x6 (IntKind.u64.wrap (x9+1)) bt581.2.1 bt581.2.2 x115 x120 x126 x131 x137 (x100++[(⟨bt575.1,bt578.1,(⟨#[]⟩:ByteArray),(bt581.1 == 1)⟩:S117)])) else (none)) else ((R02_Reader_Text.f k bt581.2.1 bt581.2.2 32).bind fun bt587=>(if x100.length<2513169434916 then (R08_Read.l0 k x0 x6 (IntKind.u64.wrap (x9+1)) bt587.2.1 bt587.2.2 x115 x120 x126 x131 x137 (x100++[(⟨bt575.1,bt578.1,bt587.1,(bt581.1 == 1)⟩:S117)])) else (none))))))) else ((R08_Bytes.f k x115 x120 x126 x131 x137 x100).bind fun bt572=>(if bt572.2=true then (if bt572.1.toList=x0.toList then (some (x115,x120,x126,x131,x137,x100,true)) else (some (0,0,0,0,0,([]:List (S117)),false))) else (some (0,0,0,0,0,([]:List (S117)),false))))
end
def R08_Read.f (k:Nat) (a0:ByteArray):Option (Int × Int × Int × Int × Int × (List (S117)) × Bool):=(R07_Get.f k a0 false).bind fun bt558=>((R02_Reader_Number.f k bt558.2.2.2.2.2.1 bt558.2.2.2.2.2.2 1).bind fun bt567=>(R08_Read.l0 k a0 bt567.1 0 bt567.2.1 bt567.2.2 bt558.1 bt558.2.1 bt558.2.2.1 bt558.2.2.2.1 bt558.2.2.2.2.1 ([]:List (S117))))
set_option maxHeartbeats 8000000 in
set_option maxRecDepth 100000 in
theorem R08_Read.calls (k:Nat) (a0:ByteArray) (r1:Int) (r2:Int) (r3:Int) (r4:Int) (r5:Int) (r6:List (S117)) (r7:Bool) (w:World) (h:R08_Read.f k a0=some (r1,r2,r3,r4,r5,r6,r7)) :
  Calls Try.prog 82 #[.string a0] w fun e w'=>∃ v5_:Value,e = .returned (.tuple #[.agg #[.int .u64 r1,.int .u64 r2,.int .u64 r3,.int .u64 r4,.int .i64 r5,v5_],.bool r7])∧Kd.R k117 117 w' w.heap.size (fun _=>True) v5_ r6∧Below w.heap.size w w':=by
 have hu55:=Try.underlying55
 have hu142:=Try.underlying142
 have hu52:=Try.underlying52
 have hu117:=Try.underlying117
 have HB:=As_ (Below.refl w.heap.size w)
 unfold R08_Read.f at h
 have H:=h
 clear h
 obtain ⟨⟨t558,t559,t560,t561,t562,t563,t564⟩,A2,H⟩:=Kbind_ H
 (try dsimp only at H)
 obtain ⟨⟨t567,t568,t569⟩,A3,H⟩:=Kbind_ H
 (try dsimp only at H)
 have H':=As_ H
 clear H
 go_enter Try.func82,Try.ntmps82
 go_wp2_with (first|((with_reducible refine gate_dst (N:=2) rfl ?_);refine Ka_ 2 #[.int .u64 0,.int .u64 0,.int .u64 0,.int .u64 0,.int .i64 0,.slice none 0 0] 55 ?_;intro gb557 hg w4 hbox hb;have BK557:=As_ (hbox);have GW557:=Kw_ HB hg;replace HB:=Ks_ HB hb;clear hb hbox hg)|((with_reducible refine gate_callee (f:=101) rfl ?_);refine Kg_ (some 17) rfl rfl Try.func101 (by kernel_rfl) rfl #[.agg #[.string a0,.bool false]] rfl ?_;(with_reducible refine (R07_Get.calls k a0 false t558 t559 t560 t561 t562 t563 t564 _ A2.out).mono ?_);rintro e w5 ⟨rfl,hb⟩;refine ⟨_,rfl,?_⟩;replace BK557:=Kb_ BK557 hb;replace HB:=Ks_ HB hb;(try clear hb);(try clear hk))|((with_reducible refine gate_dst (N:=4) rfl ?_);refine Ka_ 4 #[.int .u64 0,.int .u64 0,.int .u64 0,.int .u64 0,.int .i64 0] 52 ?_;intro gb565 hg w6 hbox hb;have BK565:=As_ (hbox);have GW565:=Kw_ HB hg;have NB557_565:=Kl_ BK557 hg;have NB565_557:=Kr_ BK557 hg;replace BK557:=Kb_ BK557 hb;replace HB:=Ks_ HB hb;clear hb hbox hg)|((with_reducible refine gate_dst (N:=5) rfl ?_);refine Ka_ 5 #[.string (⟨#[]⟩:ByteArray),.bool false] 142 ?_;intro gb566 hg w7 hbox hb;have BK566:=As_ (hbox);have GW566:=Kw_ HB hg;have NB557_566:=Kl_ BK557 hg;have NB566_557:=Kr_ BK557 hg;have NB565_566:=Kl_ BK565 hg;have NB566_565:=Kr_ BK565 hg;replace BK557:=Kb_ BK557 hb;replace BK565:=Kb_ BK565 hb;replace HB:=Ks_ HB hb;clear hb hbox hg;have hnb8:=NB565_557.out;have hnc8:=NB557_565.out;have hnb9:=NB565_566.out;have hnc9:=NB566_565.out;obtain ⟨hcz10_0,hcz10_1,hcz10_2,hcz10_3,hcz10_4,hfz10_0,hfz10_1,hfz10_2,hfz10_3,hfz10_4⟩:=Ke5_ BK565.out;have hnb11:=NB566_557.out;have hnc11:=NB557_566.out;obtain ⟨hcz12_0,hcz12_1,hfz12_0,hfz12_1⟩:=Ke2_ BK566.out)|((with_reducible refine gate_callee (f:=79) rfl ?_);refine Kg_ (some 22) rfl rfl Try.func79 (by kernel_rfl) rfl #[.agg #[.string t563,.bool t564],.int .i64 1] rfl ?_;(with_reducible refine (R02_Reader_Number.calls k t563 t564 1 t567 t568 t569 _ A3.out).mono ?_);rintro e w13 ⟨rfl,hb⟩;refine ⟨_,rfl,?_⟩;replace BK557:=As_ (blk_below (g:=gb557) (o:=.cells #[.int .u64 0,.int .u64 0,.int .u64 0,.int .u64 0,.int .i64 0,.slice none 0 0] 55 (0,0)) (K2b_ BK557 NB557_566 NB557_565) hb);replace BK565:=As_ (blk_below (g:=gb565) (o:=.cells #[.int .u64 t558,.int .u64 t559,.int .u64 t560,.int .u64 t561,.int .i64 t562] 52 (0,0)) (by (repeat (first|(with_reducible first|refine blk_drewN ?_ _|refine blk_drew ?_|refine blk_alloc ?_ _)|refine blk_far ?_ NB565_566.out _));refine blk_put (cs:=#[.int .u64 t558,.int .u64 t559,.int .u64 t560,.int .u64 t561,.int .i64 0]) ?_ 4 _ rfl;refine Kv_ ?_;exact Kput5_abcd_ (Kq_ BK565)) hb);replace BK566:=As_ (blk_below (g:=gb566) (o:=.cells #[.string t563,.bool t564] 142 (0,0)) (by refine Kv_ ?_;refine blk_put (cs:=#[.string t563,.bool false]) ?_ 1 _ rfl;refine Kv_ ?_;refine blk_put (cs:=#[.string (⟨#[]⟩:ByteArray),.bool false]) ?_ 0 _ rfl;exact K1b_ BK566 NB566_565) hb);replace HB:=As_ (below_step (K3a_ HB GW557 GW565 GW566) hb);(try clear hb);(try clear hk))|((with_reducible refine gate_dst (N:=7) rfl ?_);refine Ka_ 7 #[.string (⟨#[]⟩:ByteArray),.bool false] 142 ?_;intro gb570 hg w14 hbox hb;have BK570:=As_ (hbox);have GW570:=Kw_ HB hg;have NB557_570:=Kl_ BK557 hg;have NB570_557:=Kr_ BK557 hg;have NB565_570:=Kl_ BK565 hg;have NB570_565:=Kr_ BK565 hg;have NB566_570:=Kl_ BK566 hg;have NB570_566:=Kr_ BK566 hg;replace BK557:=Kb_ BK557 hb;replace BK565:=Kb_ BK565 hb;replace BK566:=Kb_ BK566 hb;replace HB:=Ks_ HB hb;clear hb hbox hg;have hnb15:=NB570_557.out;have hnc15:=NB557_570.out;have hnb16:=NB570_565.out;have hnc16:=NB565_570.out;have hnb17:=NB570_566.out;have hnc17:=NB566_570.out;obtain ⟨hcz18_0,hcz18_1,hfz18_0,hfz18_1⟩:=Ke2_ BK570.out;obtain ⟨hcz19_0,hcz19_1,hcz19_2,hcz19_3,hcz19_4,hfz19_0,hfz19_1,hfz19_2,hfz19_3,hfz19_4⟩:=Ke5_ BK565.out)|((with_reducible refine gate_dst (N:=8) rfl ?_);refine Ka_ 8 #[.int .u64 0,.int .u64 0,.int .u64 0,.int .u64 0,.int .i64 0,.slice none 0 0] 55 ?_;intro gb571 hg w20 hbox hb;have BK571:=As_ (hbox);have GW571:=Kx_ HB GW570 hg;have NB557_571:=As_ ((by rw [hg];exact Nat.ne_of_lt (blk_lt (g:=gb557) (o:=.cells #[.int .u64 0,.int .u64 0,.int .u64 0,.int .u64 0,.int .i64 0,.slice none 0 0] 55 (0,0)) (K1b_ BK557 NB557_570)):gb557 ≠ gb571));have NB571_557:=As_ ((by rw [hg];exact Nat.ne_of_gt (blk_lt (g:=gb557) (o:=.cells #[.int .u64 0,.int .u64 0,.int .u64 0,.int .u64 0,.int .i64 0,.slice none 0 0] 55 (0,0)) (K1b_ BK557 NB557_570)):gb571 ≠ gb557));have NB565_571:=As_ ((by rw [hg];exact Nat.ne_of_lt (blk_lt (g:=gb565) (o:=.cells #[.int .u64 t558,.int .u64 t559,.int .u64 t560,.int .u64 t561,.int .i64 t562] 52 (0,0)) (K1b_ BK565 NB565_570)):gb565 ≠ gb571));have NB571_565:=As_ ((by rw [hg];exact Nat.ne_of_gt (blk_lt (g:=gb565) (o:=.cells #[.int .u64 t558,.int .u64 t559,.int .u64 t560,.int .u64 t561,.int .i64 t562] 52 (0,0)) (K1b_ BK565 NB565_570)):gb571 ≠ gb565));have NB566_571:=As_ ((by rw [hg];exact Nat.ne_of_lt (blk_lt (g:=gb566) (o:=.cells #[.string t563,.bool t564] 142 (0,0)) (K1b_ BK566 NB566_570)):gb566 ≠ gb571));have NB571_566:=As_ ((by rw [hg];exact Nat.ne_of_gt (blk_lt (g:=gb566) (o:=.cells #[.string t563,.bool t564] 142 (0,0)) (K1b_ BK566 NB566_570)):gb571 ≠ gb566));have NB570_571:=As_ ((by rw [hg];exact Nat.ne_of_lt (blk_lt (g:=gb570) (o:=.cells #[.string t568,.bool t569] 142 (0,0)) (by refine Kv_ ?_;exact Kput2_ (Kq_ BK570))):gb570 ≠ gb571));have NB571_570:=As_ ((by rw [hg];exact Nat.ne_of_gt (blk_lt (g:=gb570) (o:=.cells #[.string t568,.bool t569] 142 (0,0)) (by refine Kv_ ?_;exact Kput2_ (Kq_ BK570))):gb571 ≠ gb570));replace BK557:=Kf_ BK557 NB557_570 hb;replace BK565:=Kf_ BK565 NB565_570 hb;replace BK566:=Kf_ BK566 NB566_570 hb;replace BK570:=As_ (blk_below (Kput2_ (Kq_ BK570)) hb);replace HB:=Kt_ HB GW570 hb;clear hb hbox hg;have hnb21:=NB571_557.out;have hnc21:=NB557_571.out;have hnb22:=NB571_565.out;have hnc22:=NB565_571.out;have hnb23:=NB571_566.out;have hnc23:=NB566_571.out;have hnb24:=NB571_570.out;have hnc24:=NB570_571.out;obtain ⟨hcz25_0,hcz25_1,hcz25_2,hcz25_3,hcz25_4,hcz25_5,hfz25_0,hfz25_1,hfz25_2,hfz25_3,hfz25_4,hfz25_5⟩:=Ke6_ BK571.out))
 go_loopg [9] k (fun kq v9 w'=>∃ (x9_1:Int) (x111_1:ByteArray) (x108_1:Bool) (x100_1:List (S117)) (u572005:Value),v9 = .int .u64 x9_1∧Aside0 (R08_Read.l0 kq a0 t567 x9_1 x111_1 x108_1 t558 t559 t560 t561 t562 x100_1=some (r1,r2,r3,r4,r5,r6,r7))∧Aside0 (kq≤k)∧Aside0 (Kd.R k117 117 w' w.heap.size (fun _=>True) u572005 x100_1)∧Aside0 (w'.heap[gb557]?=some (.cells #[.int .u64 0,.int .u64 0,.int .u64 0,.int .u64 0,.int .i64 0,(.slice none 0 0)] 55 (0,0)))∧Aside0 (w'.heap[gb565]?=some (.cells #[.int .u64 t558,.int .u64 t559,.int .u64 t560,.int .u64 t561,.int .i64 t562] 52 (0,0)))∧Aside0 (w'.heap[gb566]?=some (.cells #[.string t563,.bool t564] 142 (0,0)))∧Aside0 (w'.heap[gb570]?=some (.cells #[.string x111_1,.bool x108_1] 142 (0,0)))∧Aside0 (w'.heap[gb571]?=some (.cells #[.int .u64 t558,.int .u64 t559,.int .u64 t560,.int .u64 t561,.int .i64 t562,u572005] 55 (0,0)))∧Aside0 (Below w.heap.size w w'))
 case atStart=>exact ⟨(0),(t568),(t569),(([]:List (S117))),(.slice none 0 0),(by first|rfl|(simp;done)|(simp [*];done)),H',⟨Nat.le_refl _⟩,⟨by first|exact Kd.R_nil _ _ _ _ _|exact Kd.N_nil _ _ _ _ _|exact Kd.V_nil _ _ _ _ _|exact Kd.Q_nil _ _ _ _ _|exact Kd.S_nil _ _ _ _ _⟩,⟨by exact K1b_ BK557 NB557_571⟩,⟨by exact K1b_ BK565 NB565_571⟩,⟨by exact K1b_ BK566 NB566_571⟩,⟨by exact K1b_ BK570 NB570_571⟩,⟨by refine Kv_ ?_;exact Kput6_ (Kq_ BK571)⟩,⟨by repeat (first|(with_reducible first|exact HB.out|apply below_alloc|apply pw_below_drewN|apply below_drew1|refine below_set ?_ GW557.out|refine below_set ?_ GW565.out|refine below_set ?_ GW566.out|refine below_set ?_ GW570.out|refine below_set ?_ GW571.out)|exact HB.out)⟩⟩
 case round =>
  clear H'
  try clear c1
  try clear c2
  try clear p2
  try clear c7
  try clear c8
  try clear c9
  try clear c10
  try clear c11
  try clear c15
  try clear c16
  try clear c17
  try clear c21
  try clear c22
  try clear c23
  try clear c24
  try clear hcz10_0
  try clear hcz10_1
  try clear hcz10_2
  try clear hcz10_3
  try clear hcz10_4
  try clear hcz12_0
  try clear hcz12_1
  try clear hcz18_0
  try clear hcz18_1
  try clear hcz19_0
  try clear hcz19_1
  try clear hcz19_2
  try clear hcz19_3
  try clear hcz19_4
  try clear hcz25_0
  try clear hcz25_1
  try clear hcz25_2
  try clear hcz25_3
  try clear hcz25_4
  try clear hcz25_5
  try clear hfz10_0
  try clear hfz10_1
  try clear hfz10_2
  try clear hfz10_3
  try clear hfz10_4
  try clear hfz12_0
  try clear hfz12_1
  try clear hfz18_0
  try clear hfz18_1
  try clear hfz19_0
  try clear hfz19_1
  try clear hfz19_2
  try clear hfz19_3
  try clear hfz19_4
  try clear hfz25_0
  try clear hfz25_1
  try clear hfz25_2
  try clear hfz25_3
  try clear hfz25_4
  try clear hfz25_5
  obtain ⟨x9_1,x111_1,x108_1,x100_1,u572005,rfl,HA,HK1,HO_100,BK557,BK565,BK566,BK570,BK571,HB⟩:=hrel
  cases gk with
  | zero=>exact absurd HA.out (by simp [R08_Read.l0])
  | succ k1 =>
   have H:=HA.out
   clear HA
   simp only [R08_Read.l0] at H
   have HC26:=As_ H
   clear H
   go_upto_region 5 with (fail)
   go_cut [38] (fun v38 wc=>∃ (kq:Nat) (x38_25:Bool),v38 = .bool x38_25∧Aside0 (R08_Read.j1 kq a0 t567 x9_1 x38_25 x111_1 x108_1 t558 t559 t560 t561 t562 x100_1=some (r1,r2,r3,r4,r5,r6,r7))∧Aside0 (kq≤k1)∧Aside0 (Kd.R k117 117 wc w.heap.size (fun _=>True) u572005 x100_1)∧Aside0 (wc.heap[gb557]?=some (.cells #[.int .u64 0,.int .u64 0,.int .u64 0,.int .u64 0,.int .i64 0,(.slice none 0 0)] 55 (0,0)))∧Aside0 (wc.heap[gb565]?=some (.cells #[.int .u64 t558,.int .u64 t559,.int .u64 t560,.int .u64 t561,.int .i64 t562] 52 (0,0)))∧Aside0 (wc.heap[gb566]?=some (.cells #[.string t563,.bool t564] 142 (0,0)))∧Aside0 (wc.heap[gb570]?=some (.cells #[.string x111_1,.bool x108_1] 142 (0,0)))∧Aside0 (wc.heap[gb571]?=some (.cells #[.int .u64 t558,.int .u64 t559,.int .u64 t560,.int .u64 t561,.int .i64 t562,u572005] 55 (0,0)))∧Aside0 (Below w.heap.size w wc))
   case first =>
    have H:=HC26.out
    clear HC26
    by_cases c27:x9_1<t567
    rotate_left
    ·rw [if_neg c27] at H
     have c27b0:decide (x9_1<t567)=false:=decide_eq_false c27
     clear c27
     (first|rw [c27b0]|(simp only [i64_w,i32_w];rw [c27b0])|skip)
     have H':=As_ H
     clear H
     go_wp2
     go_meet
     case rel=>exact ⟨_,(false),(by first|rfl|(simp;done)|(simp [*];done)),H',⟨by have:=HK1.out;first|omega|exact Nat.le_refl _⟩,⟨by (with_reducible repeat (first|apply Kd.R_alloc|apply Kd.R_drewN|apply Kd.R_drew));exact HO_100.out⟩,⟨by exact Kq_ BK557⟩,⟨by exact Kq_ BK565⟩,⟨by exact Kq_ BK566⟩,⟨by exact Kq_ BK570⟩,⟨by exact Kq_ BK571⟩,⟨by repeat (first|(with_reducible first|exact HB.out|apply below_alloc|apply pw_below_drewN|apply below_drew1|refine below_set ?_ GW557.out|refine below_set ?_ GW565.out|refine below_set ?_ GW566.out|refine below_set ?_ GW570.out|refine below_set ?_ GW571.out)|exact HB.out)⟩⟩
    rw [if_pos c27] at H
    have c27b0:decide (x9_1<t567)=true:=decide_eq_true c27
    clear c27
    (first|rw [c27b0]|(simp only [i64_w,i32_w];rw [c27b0])|skip)
    by_cases c28:x9_1<9
    rotate_left
    ·rw [if_neg c28] at H
     have c28b0:decide (x9_1<9)=false:=decide_eq_false c28
     clear c28
     have H':=As_ H
     clear H
     go_wp2
     go_meet
     case rel=>exact ⟨_,(false),(by first|rfl|(simp;done)|(simp [*];done)),H',⟨by have:=HK1.out;first|omega|exact Nat.le_refl _⟩,⟨by (with_reducible repeat (first|apply Kd.R_alloc|apply Kd.R_drewN|apply Kd.R_drew));exact HO_100.out⟩,⟨by exact Kq_ BK557⟩,⟨by exact Kq_ BK565⟩,⟨by exact Kq_ BK566⟩,⟨by exact Kq_ BK570⟩,⟨by exact Kq_ BK571⟩,⟨by repeat (first|(with_reducible first|exact HB.out|apply below_alloc|apply pw_below_drewN|apply below_drew1|refine below_set ?_ GW557.out|refine below_set ?_ GW565.out|refine below_set ?_ GW566.out|refine below_set ?_ GW570.out|refine below_set ?_ GW571.out)|exact HB.out)⟩⟩
    rw [if_pos c28] at H
    have c28b0:decide (x9_1<9)=true:=decide_eq_true c28
    clear c28
    have H':=As_ H
    clear H
    have hnb29:=NB570_557.out
    have hnc29:=NB557_570.out
    have hnb30:=NB570_565.out
    have hnc30:=NB565_570.out
    have hnb31:=NB570_566.out
    have hnc31:=NB566_570.out
    have hnb32:=NB570_571.out
    have hnc32:=NB571_570.out
    obtain ⟨hcz33_0,hcz33_1,hfz33_0,hfz33_1⟩:=Ke2_ BK570.out
    go_wp2
    go_meet
    case rel=>exact ⟨_,(!x108_1),(by first|rfl|(simp;done)|(simp [*];done)),H',⟨by have:=HK1.out;first|omega|exact Nat.le_refl _⟩,⟨by (with_reducible repeat (first|apply Kd.R_alloc|apply Kd.R_drewN|apply Kd.R_drew));exact HO_100.out⟩,⟨by exact Kq_ BK557⟩,⟨by exact Kq_ BK565⟩,⟨by exact Kq_ BK566⟩,⟨by exact Kq_ BK570⟩,⟨by exact Kq_ BK571⟩,⟨by repeat (first|(with_reducible first|exact HB.out|apply below_alloc|apply pw_below_drewN|apply below_drew1|refine below_set ?_ GW557.out|refine below_set ?_ GW565.out|refine below_set ?_ GW566.out|refine below_set ?_ GW570.out|refine below_set ?_ GW571.out)|exact HB.out)⟩⟩
   case rest =>
    clear HC26
    try clear c1
    try clear c2
    try clear p2
    try clear c3
    try clear c7
    try clear c8
    try clear c9
    try clear c10
    try clear c11
    try clear c15
    try clear c16
    try clear c17
    try clear c21
    try clear c22
    try clear c23
    try clear c24
    try clear c27
    try clear c27b0
    try clear c28
    try clear c28b0
    try clear c29
    try clear c30
    try clear c31
    try clear c32
    try clear hcz10_0
    try clear hcz10_1
    try clear hcz10_2
    try clear hcz10_3
    try clear hcz10_4
    try clear hcz12_0
    try clear hcz12_1
    try clear hcz18_0
    try clear hcz18_1
    try clear hcz19_0
    try clear hcz19_1
    try clear hcz19_2
    try clear hcz19_3
    try clear hcz19_4
    try clear hcz25_0
    try clear hcz25_1
    try clear hcz25_2
    try clear hcz25_3
    try clear hcz25_4
    try clear hcz25_5
    try clear hcz33_0
    try clear hcz33_1
    try clear hfz10_0
    try clear hfz10_1
    try clear hfz10_2
    try clear hfz10_3
    try clear hfz10_4
    try clear hfz12_0
    try clear hfz12_1
    try clear hfz18_0
    try clear hfz18_1
    try clear hfz19_0
    try clear hfz19_1
    try clear hfz19_2
    try clear hfz19_3
    try clear hfz19_4
    try clear hfz25_0
    try clear hfz25_1
    try clear hfz25_2
    try clear hfz25_3
    try clear hfz25_4
    try clear hfz25_5
    try clear hfz33_0
    try clear hfz33_1
    try clear p2
    obtain ⟨kq,x38_25,rfl,HA,HJ25,HO_100,BK557,BK565,BK566,BK570,BK571,HB⟩:=hcut
    cases kq with
    | zero=>exact absurd HA.out (by simp [R08_Read.j1])
    | succ kj25 =>
     have H:=HA.out
     clear HA
     simp only [R08_Read.j1] at H
     by_cases c34:x38_25=true
     rotate_left
     ·replace c34:=Bool.eq_false_iff.mpr c34
      subst c34
      rw [if_neg Bool.false_ne_true] at H
      obtain ⟨⟨t572,t573⟩,A101,H⟩:=Kbind_ H
      (try dsimp only at H)
      by_cases c102:t573=true
      rotate_left
      ·replace c102:=Bool.eq_false_iff.mpr c102
       subst c102
       rw [if_neg Bool.false_ne_true] at H
       simp only [Option.some.injEq,Prod.mk.injEq] at H
       obtain ⟨rfl,rfl,rfl,rfl,rfl,rfl,rfl⟩:=H
       have hnb127:=NB571_557.out
       have hnc127:=NB557_571.out
       have hnb128:=NB571_565.out
       have hnc128:=NB565_571.out
       have hnb129:=NB571_566.out
       have hnc129:=NB566_571.out
       have hnb130:=NB571_570.out
       have hnc130:=NB570_571.out
       obtain ⟨_,_,_,_,_,_,_,_,_,_,_,_⟩:=Ke6_ BK571.out
       obtain ⟨Ao132,co132,eo132⟩:=Kd.R_slice HO_100.out
       subst eo132
       go_wp2_with (first|((with_reducible refine gate_callee (f:=66) rfl ?_);refine Kg_ (some 79) rfl rfl Try.func66 (by kernel_rfl) rfl #[.agg #[.int .u64 t558,.int .u64 t559,.int .u64 t560,.int .u64 t561,.int .i64 t562,.slice Ao132 x100_1.length co132]] rfl ?_;(with_reducible refine (R08_Bytes.calls kj25 t558 t559 t560 t561 t562 _ _ x100_1 t572 false _ ?side1 ?side2 A101.out).mono ?_);(case side1=>repeat (first|exact (Kd.R_reads' HO_100.out).2.2|(with_reducible refine Kd.C_alloc ?_ _)|(with_reducible refine Kd.C_drewN ?_ _)|(with_reducible refine Kd.C_drew ?_)));(case side2=>exact (Kd.R_reads' HO_100.out).2.1);rintro e w133 ⟨rfl,hb⟩;refine ⟨_,rfl,?_⟩;replace HO_100:=As_ (Kd.R_below (Ku_ HO_100) hb);replace BK557:=Kb_ BK557 hb;replace BK565:=Kb_ BK565 hb;replace BK566:=Kb_ BK566 hb;replace BK570:=Kb_ BK570 hb;replace BK571:=Kb_ BK571 hb;replace HB:=Ks_ HB hb;(try clear hb);(try clear hk);have hnb134:=NB557_565.out;have hnc134:=NB565_557.out;have hnb135:=NB557_566.out;have hnc135:=NB566_557.out;have hnb136:=NB557_570.out;have hnc136:=NB570_557.out;obtain ⟨_,_,_,_,_,_,_,_,_,_,_,_⟩:=Ke6_ BK557.out))
       refine bodyPost_ret (results_ct rfl _ _ gb557 55 #[.int .u64 0,.int .u64 0,.int .u64 0,.int .u64 0,.int .i64 0,.slice none 0 0] (0,0) _ rfl (by refine Kv_ ?_;exact Kput6_ (Kq_ BK557)) Try.underlying55 rfl (by kernel_rfl)) rfl ?_
       exact ⟨_,by first|rfl|(simp [errW_none,errW_some] <;> rfl)|(simp [*,errW_none,errW_some] <;> rfl),by first|exact Kd.R_nil _ _ _ _ _|exact Kd.N_nil _ _ _ _ _|exact Kd.V_nil _ _ _ _ _|exact Kd.Q_nil _ _ _ _ _|exact Kd.S_nil _ _ _ _ _,by repeat (first|(with_reducible first|exact HB.out|apply below_alloc|apply pw_below_drewN|apply below_drew1|refine below_set ?_ GW557.out|refine below_set ?_ GW565.out|refine below_set ?_ GW566.out|refine below_set ?_ GW570.out|refine below_set ?_ GW571.out)|exact HB.out)⟩
      subst c102
      rw [if_pos rfl] at H
      by_cases c103:t572.toList=a0.toList
      rotate_left
      ·rw [if_neg c103] at H
       have c103b0:=beq_eq_false_iff_ne.mpr c103
       have c103b1:(t572.toList != a0.toList)=true:=bne_iff_ne.mpr c103
       simp only [Option.some.injEq,Prod.mk.injEq] at H
       obtain ⟨rfl,rfl,rfl,rfl,rfl,rfl,rfl⟩:=H
       have hnb116:=NB571_557.out
       have hnc116:=NB557_571.out
       have hnb117:=NB571_565.out
       have hnc117:=NB565_571.out
       have hnb118:=NB571_566.out
       have hnc118:=NB566_571.out
       have hnb119:=NB571_570.out
       have hnc119:=NB570_571.out
       obtain ⟨_,_,_,_,_,_,_,_,_,_,_,_⟩:=Ke6_ BK571.out
       obtain ⟨Ao121,co121,eo121⟩:=Kd.R_slice HO_100.out
       subst eo121
       go_wp2_with (first|((with_reducible refine gate_callee (f:=66) rfl ?_);refine Kg_ (some 79) rfl rfl Try.func66 (by kernel_rfl) rfl #[.agg #[.int .u64 t558,.int .u64 t559,.int .u64 t560,.int .u64 t561,.int .i64 t562,.slice Ao121 x100_1.length co121]] rfl ?_;(with_reducible refine (R08_Bytes.calls kj25 t558 t559 t560 t561 t562 _ _ x100_1 t572 true _ ?side1 ?side2 A101.out).mono ?_);(case side1=>repeat (first|exact (Kd.R_reads' HO_100.out).2.2|(with_reducible refine Kd.C_alloc ?_ _)|(with_reducible refine Kd.C_drewN ?_ _)|(with_reducible refine Kd.C_drew ?_)));(case side2=>exact (Kd.R_reads' HO_100.out).2.1);rintro e w122 ⟨rfl,hb⟩;refine ⟨_,rfl,?_⟩;replace HO_100:=As_ (Kd.R_below (Ku_ HO_100) hb);replace BK557:=Kb_ BK557 hb;replace BK565:=Kb_ BK565 hb;replace BK566:=Kb_ BK566 hb;replace BK570:=Kb_ BK570 hb;replace BK571:=Kb_ BK571 hb;replace HB:=Ks_ HB hb;(try clear hb);(try clear hk);have hnb123:=NB557_565.out;have hnc123:=NB565_557.out;have hnb124:=NB557_566.out;have hnc124:=NB566_557.out;have hnb125:=NB557_570.out;have hnc125:=NB570_557.out;obtain ⟨_,_,_,_,_,_,_,_,_,_,_,_⟩:=Ke6_ BK557.out))
       refine bodyPost_ret (results_ct rfl _ _ gb557 55 #[.int .u64 0,.int .u64 0,.int .u64 0,.int .u64 0,.int .i64 0,.slice none 0 0] (0,0) _ rfl (by refine Kv_ ?_;exact Kput6_ (Kq_ BK557)) Try.underlying55 rfl (by kernel_rfl)) rfl ?_
       exact ⟨_,by first|rfl|(simp [errW_none,errW_some] <;> rfl)|(simp [*,errW_none,errW_some] <;> rfl),by first|exact Kd.R_nil _ _ _ _ _|exact Kd.N_nil _ _ _ _ _|exact Kd.V_nil _ _ _ _ _|exact Kd.Q_nil _ _ _ _ _|exact Kd.S_nil _ _ _ _ _,by repeat (first|(with_reducible first|exact HB.out|apply below_alloc|apply pw_below_drewN|apply below_drew1|refine below_set ?_ GW557.out|refine below_set ?_ GW565.out|refine below_set ?_ GW566.out|refine below_set ?_ GW570.out|refine below_set ?_ GW571.out)|exact HB.out)⟩
      rw [if_pos c103] at H
      have c103b0:(t572.toList == a0.toList)=true:=beq_iff_eq.mpr c103
      have c103b1:(t572.toList != a0.toList)=false:=bne_eq_false_iff_eq.mpr c103
      clear c103
      simp only [Option.some.injEq,Prod.mk.injEq] at H
      obtain ⟨rfl,rfl,rfl,rfl,rfl,rfl,rfl⟩:=H
      have hnb104:=NB571_557.out
      have hnc104:=NB557_571.out
      have hnb105:=NB571_565.out
      have hnc105:=NB565_571.out
      have hnb106:=NB571_566.out
      have hnc106:=NB566_571.out
      have hnb107:=NB571_570.out
      have hnc107:=NB570_571.out
      obtain ⟨_,_,_,_,_,_,_,_,_,_,_,_⟩:=Ke6_ BK571.out
      obtain ⟨Ao109,co109,eo109⟩:=Kd.R_slice HO_100.out
      subst eo109
      go_wp2_with (first|((with_reducible refine gate_callee (f:=66) rfl ?_);refine Kg_ (some 79) rfl rfl Try.func66 (by kernel_rfl) rfl #[.agg #[.int .u64 t558,.int .u64 t559,.int .u64 t560,.int .u64 t561,.int .i64 t562,.slice Ao109 x100_1.length co109]] rfl ?_;(with_reducible refine (R08_Bytes.calls kj25 t558 t559 t560 t561 t562 _ _ x100_1 t572 true _ ?side1 ?side2 A101.out).mono ?_);(case side1=>repeat (first|exact (Kd.R_reads' HO_100.out).2.2|(with_reducible refine Kd.C_alloc ?_ _)|(with_reducible refine Kd.C_drewN ?_ _)|(with_reducible refine Kd.C_drew ?_)));(case side2=>exact (Kd.R_reads' HO_100.out).2.1);rintro e w110 ⟨rfl,hb⟩;refine ⟨_,rfl,?_⟩;replace HO_100:=As_ (Kd.R_below (Ku_ HO_100) hb);replace BK557:=Kb_ BK557 hb;replace BK565:=Kb_ BK565 hb;replace BK566:=Kb_ BK566 hb;replace BK570:=Kb_ BK570 hb;replace BK571:=Kb_ BK571 hb;replace HB:=Ks_ HB hb;(try clear hb);(try clear hk);obtain ⟨_,_,_,_,_,_,_,_,_,_,_,_⟩:=Ke6_ BK571.out;have hnb112:=NB557_565.out;have hnc112:=NB565_557.out;have hnb113:=NB557_566.out;have hnc113:=NB566_557.out;have hnb114:=NB557_570.out;have hnc114:=NB570_557.out;obtain ⟨_,_,_,_,_,_,_,_,_,_,_,_⟩:=Ke6_ BK557.out))
      refine bodyPost_ret (results_ct rfl _ _ gb557 55 #[.int .u64 t558,.int .u64 t559,.int .u64 t560,.int .u64 t561,.int .i64 t562,.slice Ao109 x100_1.length co109] (0,0) _ rfl (by refine Kv_ ?_;exact Kput6_ (Kq_ BK557)) Try.underlying55 rfl (by kernel_rfl)) rfl ?_
      exact ⟨_,by first|rfl|(simp [errW_none,errW_some] <;> rfl)|(simp [*,errW_none,errW_some] <;> rfl),by (with_reducible repeat (first|apply Kd.R_alloc|apply Kd.R_drewN|apply Kd.R_drew));exact Kd.R_mono (Kd.R_far (p:=⟨gb557,5,none⟩) (Kd.R_far (p:=⟨gb557,4,none⟩) (Kd.R_far (p:=⟨gb557,3,none⟩) (Kd.R_far (p:=⟨gb557,2,none⟩) (Kd.R_far (p:=⟨gb557,1,none⟩) (Kd.R_far (p:=⟨gb557,0,none⟩) (Kd.R_types HO_100.out BK557.out (by decide)) (fun _ hk=>hk.2) (.int .u64 t558)) (fun _ hk=>hk.2) (.int .u64 t559)) (fun _ hk=>hk.2) (.int .u64 t560)) (fun _ hk=>hk.2) (.int .u64 t561)) (fun _ hk=>hk.2) (.int .i64 t562)) (fun _ hk=>hk.2) (.slice Ao109 x100_1.length co109)) (fun _ hk=>trivial),by repeat (first|(with_reducible first|exact HB.out|apply below_alloc|apply pw_below_drewN|apply below_drew1|refine below_set ?_ GW557.out|refine below_set ?_ GW565.out|refine below_set ?_ GW566.out|refine below_set ?_ GW570.out|refine below_set ?_ GW571.out)|exact HB.out)⟩
     subst c34
     rw [if_pos rfl] at H
     obtain ⟨⟨t575,t576,t577⟩,A35,H⟩:=Kbind_ H
     (try dsimp only at H)
     obtain ⟨⟨t578,t579,t580⟩,A36,H⟩:=Kbind_ H
     (try dsimp only at H)
     obtain ⟨⟨t581,t582,t583⟩,A37,H⟩:=Kbind_ H
     (try dsimp only at H)
     by_cases c38:t581=1
     ·rw [if_pos c38] at H
      have c38b0:(t581 == 1)=true:=beq_iff_eq.mpr c38
      (try simp only [c38b0] at H)
      have c38b1:(t581 != 1)=false:=bne_eq_false_iff_eq.mpr c38
      clear c38
      by_cases c39:x100_1.length<2513169434916
      rotate_left
      ·rw [if_neg c39] at H
       exact absurd H (by simp)
      rw [if_pos c39] at H
      have LMc39:=As_ c39
      clear c39
      obtain ⟨y584,hy584⟩:∃ y_:List (S117),y_=(x100_1++[(⟨t575,t578,(⟨#[]⟩:ByteArray),true⟩:S117)]):=⟨_,rfl⟩
      replace H:(R08_Read.l0 kj25 a0 t567 (IntKind.u64.wrap (x9_1+1)) t582 t583 t558 t559 t560 t561 t562 y584)=some (r1,r2,r3,r4,r5,r6,r7):=by first|(rw [hy584];with_reducible exact H)|(have H2_:=(Option.bind_some _ _).symm.trans H;rw [hy584];with_reducible exact H2_)|(have H2_:=(Option.bind_some _ _).symm.trans H;with_reducible exact H2_)|with_reducible exact H|(rw [hy584];exact H)|exact H
      have Ny584:=As_ hy584
      clear hy584
      have H':=As_ H
      clear H
      go_wp2_with (first|((with_reducible refine gate_dst (N:=10) rfl ?_);refine Ka_ 10 #[.string (⟨#[]⟩:ByteArray),.string (⟨#[]⟩:ByteArray),.string (⟨#[]⟩:ByteArray),.bool false] 117 ?_;intro gb574 hg w40 hbox hb;have BK574:=As_ (hbox);have GW574:=Kw_ HB hg;have NB557_574:=Kl_ BK557 hg;have NB574_557:=Kr_ BK557 hg;have NB565_574:=Kl_ BK565 hg;have NB574_565:=Kr_ BK565 hg;have NB566_574:=Kl_ BK566 hg;have NB574_566:=Kr_ BK566 hg;have NB570_574:=Kl_ BK570 hg;have NB574_570:=Kr_ BK570 hg;have NB571_574:=Kl_ BK571 hg;have NB574_571:=Kr_ BK571 hg;replace HO_100:=As_ (Kd.R_below (Kd.R_elderB (Ku_ HO_100) gb574 (Nat.le_of_eq hg.symm)) hb);replace BK557:=Kb_ BK557 hb;replace BK565:=Kb_ BK565 hb;replace BK566:=Kb_ BK566 hb;replace BK570:=Kb_ BK570 hb;replace BK571:=Kb_ BK571 hb;replace HB:=Ks_ HB hb;clear hb hbox hg;have hnb41:=NB574_557.out;have hnc41:=NB557_574.out;have hnb42:=NB574_565.out;have hnc42:=NB565_574.out;have hnb43:=NB574_566.out;have hnc43:=NB566_574.out;have hnb44:=NB574_570.out;have hnc44:=NB570_574.out;have hnb45:=NB574_571.out;have hnc45:=NB571_574.out;obtain ⟨_,_,_,_,_,_,_,_⟩:=Ke4_ BK574.out;have hnb47:=NB570_557.out;have hnc47:=NB557_570.out;have hnb48:=NB570_565.out;have hnc48:=NB565_570.out;have hnb49:=NB570_566.out;have hnc49:=NB566_570.out;have hnb50:=NB570_571.out;have hnc50:=NB571_570.out;obtain ⟨_,_,_,_⟩:=Ke2_ BK570.out)|((with_reducible refine gate_callee (f:=81) rfl ?_);refine Kg_ (some 44) rfl rfl Try.func81 (by kernel_rfl) rfl #[.agg #[.string x111_1,.bool x108_1],.int .i64 16] rfl ?_;(with_reducible refine (R02_Reader_Text.calls kj25 x111_1 x108_1 16 t575 t576 t577 _ A35.out).mono ?_);rintro e w52 ⟨rfl,hb⟩;refine ⟨_,rfl,?_⟩;replace HO_100:=As_ (Kd.R_below (by (with_reducible repeat (first|apply Kd.R_alloc|apply Kd.R_drewN|apply Kd.R_drew));exact (Kd.R_mono (Kd.R_far (p:=⟨gb574,3,none⟩) (Kd.R_far (p:=⟨gb574,2,none⟩) (Kd.R_far (p:=⟨gb574,1,none⟩) (Kd.R_far (p:=⟨gb574,0,none⟩) (Kd.R_mono HO_100.out (fun k_ hk=>(⟨hk,hk.2⟩:_∧k_ ≠ gb574))) (fun _ hk=>hk.2) (.string (⟨#[]⟩:ByteArray))) (fun _ hk=>hk.2) (.string (⟨#[]⟩:ByteArray))) (fun _ hk=>hk.2) (.string (⟨#[]⟩:ByteArray))) (fun _ hk=>hk.2) (.bool false)) (fun _ h_=>h_.1))) hb);replace BK557:=Kf_ BK557 NB557_574 hb;replace BK565:=Kf_ BK565 NB565_574 hb;replace BK566:=Kf_ BK566 NB566_574 hb;replace BK570:=Kf_ BK570 NB570_574 hb;replace BK571:=Kf_ BK571 NB571_574 hb;replace BK574:=As_ (blk_below (Kput4_ (Kq_ BK574)) hb);replace HB:=Kt_ HB GW574 hb;(try clear hb);(try clear hk);obtain ⟨_,_,_,_,_,_,_,_⟩:=Ke4_ BK574.out;obtain ⟨_,_,_,_⟩:=Ke2_ BK570.out)|((with_reducible refine gate_callee (f:=81) rfl ?_);refine Kg_ (some 50) rfl rfl Try.func81 (by kernel_rfl) rfl #[.agg #[.string t576,.bool t577],.int .i64 16] rfl ?_;(with_reducible refine (R02_Reader_Text.calls kj25 t576 t577 16 t578 t579 t580 _ A36.out).mono ?_);rintro e w55 ⟨rfl,hb⟩;refine ⟨_,rfl,?_⟩;replace HO_100:=As_ (Kd.R_below (by (with_reducible repeat (first|apply Kd.R_alloc|apply Kd.R_drewN|apply Kd.R_drew));exact (Kd.R_mono (Kd.R_mono (Kd.R_far (p:=⟨gb570,1,none⟩) (Kd.R_far (p:=⟨gb570,0,none⟩) (Kd.R_far (p:=⟨gb574,0,none⟩) (Kd.R_types (Kd.R_mono HO_100.out (fun k_ hk=>(⟨hk,hk.2⟩:_∧k_ ≠ gb574))) BK570.out (by decide)) (fun _ hk=>hk.1.2) (.string t575)) (fun _ hk=>hk.2) (.string t576)) (fun _ hk=>hk.2) (.bool t577)) (fun _ h_=>h_.1)) (fun _ h_=>h_.1))) hb);replace BK557:=As_ (blk_below (g:=gb557) (o:=.cells #[.int .u64 0,.int .u64 0,.int .u64 0,.int .u64 0,.int .i64 0,.slice none 0 0] 55 (0,0)) (K2b_ BK557 NB557_570 NB557_574) hb);replace BK565:=As_ (blk_below (g:=gb565) (o:=.cells #[.int .u64 t558,.int .u64 t559,.int .u64 t560,.int .u64 t561,.int .i64 t562] 52 (0,0)) (K2b_ BK565 NB565_570 NB565_574) hb);replace BK566:=As_ (blk_below (g:=gb566) (o:=.cells #[.string t563,.bool t564] 142 (0,0)) (K2b_ BK566 NB566_570 NB566_574) hb);replace BK570:=As_ (blk_below (g:=gb570) (o:=.cells #[.string t576,.bool t577] 142 (0,0)) (by refine Kv_ ?_;refine blk_put (cs:=#[.string t576,.bool x108_1]) ?_ 1 _ rfl;refine Kv_ ?_;refine blk_put (cs:=#[.string x111_1,.bool x108_1]) ?_ 0 _ rfl;exact K1b_ BK570 NB570_574) hb);replace BK571:=As_ (blk_below (g:=gb571) (o:=.cells #[.int .u64 t558,.int .u64 t559,.int .u64 t560,.int .u64 t561,.int .i64 t562,u572005] 55 (0,0)) (K2b_ BK571 NB571_570 NB571_574) hb);replace BK574:=As_ (blk_below (g:=gb574) (o:=.cells #[.string t575,.string (⟨#[]⟩:ByteArray),.string (⟨#[]⟩:ByteArray),.bool false] 117 (0,0)) (by (repeat (first|(with_reducible first|refine blk_drewN ?_ _|refine blk_drew ?_|refine blk_alloc ?_ _)|refine blk_far ?_ NB574_570.out _));refine blk_put (cs:=#[.string (⟨#[]⟩:ByteArray),.string (⟨#[]⟩:ByteArray),.string (⟨#[]⟩:ByteArray),.bool false]) ?_ 0 _ rfl;exact Kq_ BK574) hb);replace HB:=As_ (below_step (by repeat (first|(with_reducible first|exact HB.out|apply below_alloc|apply pw_below_drewN|apply below_drew1|refine below_set ?_ GW557.out|refine below_set ?_ GW565.out|refine below_set ?_ GW566.out|refine below_set ?_ GW570.out|refine below_set ?_ GW571.out|refine below_set ?_ GW574.out)|exact HB.out)) hb);(try clear hb);(try clear hk);obtain ⟨_,_,_,_,_,_,_,_⟩:=Ke4_ BK574.out;obtain ⟨_,_,_,_⟩:=Ke2_ BK570.out)|((with_reducible refine gate_callee (f:=79) rfl ?_);refine Kg_ (some 56) rfl rfl Try.func79 (by kernel_rfl) rfl #[.agg #[.string t579,.bool t580],.int .i64 1] rfl ?_;(with_reducible refine (R02_Reader_Number.calls kj25 t579 t580 1 t581 t582 t583 _ A37.out).mono ?_);rintro e w58 ⟨rfl,hb⟩;refine ⟨_,rfl,?_⟩;replace HO_100:=As_ (Kd.R_below (by (with_reducible repeat (first|apply Kd.R_alloc|apply Kd.R_drewN|apply Kd.R_drew));exact (Kd.R_mono (Kd.R_mono (Kd.R_far (p:=⟨gb570,1,none⟩) (Kd.R_far (p:=⟨gb570,0,none⟩) (Kd.R_far (p:=⟨gb574,1,none⟩) (Kd.R_types (Kd.R_mono HO_100.out (fun k_ hk=>(⟨hk,hk.2⟩:_∧k_ ≠ gb574))) BK570.out (by decide)) (fun _ hk=>hk.1.2) (.string t578)) (fun _ hk=>hk.2) (.string t579)) (fun _ hk=>hk.2) (.bool t580)) (fun _ h_=>h_.1)) (fun _ h_=>h_.1))) hb);replace BK557:=As_ (blk_below (g:=gb557) (o:=.cells #[.int .u64 0,.int .u64 0,.int .u64 0,.int .u64 0,.int .i64 0,.slice none 0 0] 55 (0,0)) (K2b_ BK557 NB557_570 NB557_574) hb);replace BK565:=As_ (blk_below (g:=gb565) (o:=.cells #[.int .u64 t558,.int .u64 t559,.int .u64 t560,.int .u64 t561,.int .i64 t562] 52 (0,0)) (K2b_ BK565 NB565_570 NB565_574) hb);replace BK566:=As_ (blk_below (g:=gb566) (o:=.cells #[.string t563,.bool t564] 142 (0,0)) (K2b_ BK566 NB566_570 NB566_574) hb);replace BK570:=As_ (blk_below (g:=gb570) (o:=.cells #[.string t579,.bool t580] 142 (0,0)) (by refine Kv_ ?_;refine blk_put (cs:=#[.string t579,.bool t577]) ?_ 1 _ rfl;refine Kv_ ?_;refine blk_put (cs:=#[.string t576,.bool t577]) ?_ 0 _ rfl;exact K1b_ BK570 NB570_574) hb);replace BK571:=As_ (blk_below (g:=gb571) (o:=.cells #[.int .u64 t558,.int .u64 t559,.int .u64 t560,.int .u64 t561,.int .i64 t562,u572005] 55 (0,0)) (K2b_ BK571 NB571_570 NB571_574) hb);replace BK574:=As_ (blk_below (g:=gb574) (o:=.cells #[.string t575,.string t578,.string (⟨#[]⟩:ByteArray),.bool false] 117 (0,0)) (by (repeat (first|(with_reducible first|refine blk_drewN ?_ _|refine blk_drew ?_|refine blk_alloc ?_ _)|refine blk_far ?_ NB574_570.out _));refine blk_put (cs:=#[.string t575,.string (⟨#[]⟩:ByteArray),.string (⟨#[]⟩:ByteArray),.bool false]) ?_ 1 _ rfl;exact Kq_ BK574) hb);replace HB:=As_ (below_step (by repeat (first|(with_reducible first|exact HB.out|apply below_alloc|apply pw_below_drewN|apply below_drew1|refine below_set ?_ GW557.out|refine below_set ?_ GW565.out|refine below_set ?_ GW566.out|refine below_set ?_ GW570.out|refine below_set ?_ GW571.out|refine below_set ?_ GW574.out)|exact HB.out)) hb);(try clear hb);(try clear hk);obtain ⟨_,_,_,_⟩:=Ke2_ BK570.out;obtain ⟨_,_,_,_,_,_,_,_⟩:=Ke4_ BK574.out;have hnb61:=NB571_557.out;have hnc61:=NB557_571.out;have hnb62:=NB571_565.out;have hnc62:=NB565_571.out;have hnb63:=NB571_566.out;have hnc63:=NB566_571.out;obtain ⟨_,_,_,_,_,_,_,_,_,_,_,_⟩:=Ke6_ BK571.out)|((with_reducible refine gate_builtin (b:=.append) (xs:=#[.tmp 72,.tmp 74]) rfl ?_);at_builtin;refine Kd.R_append k117 (w0:=w) w.heap.size rfl (.tmp 72) (.tmp 74) 53 117 (.agg #[(.string ⟨#[]⟩),(.string ⟨#[]⟩),(.string ⟨#[]⟩),(.bool false)]) 56 rfl Try.underlying53 info117 rfl (by decide) (by omega) u572005 x100_1 (⟨t575,t578,(⟨#[]⟩:ByteArray),true⟩:S117) [.string t575,.string t578,.string (⟨#[]⟩:ByteArray),.bool true] (fun k_=>k_ ≠ gb574) (fun _=>False) rfl (by first|(go_simp;done)|(go_simp;rfl)) ?aP (fun _ hk=>hk.elim) ?aF ?aO ?aB ?aS ?aL ?_;(case aP=>exact k117_mkM _ _ _ (⟨t575,t578,(⟨#[]⟩:ByteArray),true⟩:S117));(case aB=>exact (by repeat (first|(with_reducible first|exact HB.out|apply below_alloc|apply pw_below_drewN|apply below_drew1|refine below_set ?_ GW557.out|refine below_set ?_ GW565.out|refine below_set ?_ GW566.out|refine below_set ?_ GW570.out|refine below_set ?_ GW571.out|refine below_set ?_ GW574.out)|exact HB.out)));(case aF=>exact (fun k_ hk=>Kd.freshB (g:=gb574) (o:=.cells #[.string t575,.string t578,.string (⟨#[]⟩:ByteArray),.bool true] 117 (0,0)) (by refine Kv_ ?_;refine blk_put (cs:=#[.string t575,.string t578,.string (⟨#[]⟩:ByteArray),.bool false]) ?_ 3 _ rfl;exact K1b_ BK574 NB574_570) k_ hk));(case aO=>exact (by (with_reducible repeat (first|apply Kd.R_alloc|apply Kd.R_drewN|apply Kd.R_drew));exact Kd.R_mono (Kd.R_far (p:=⟨gb574,3,none⟩) (Kd.R_far (p:=⟨gb570,1,none⟩) (Kd.R_far (p:=⟨gb570,0,none⟩) (Kd.R_mono (Kd.R_types HO_100.out BK570.out (by decide)) (fun k_ hk=>(⟨hk,hk.1.2⟩:_∧k_ ≠ gb574))) (fun _ hk=>hk.1.2) (.string t582)) (fun _ hk=>hk.1.2) (.bool t583)) (fun _ hk=>hk.2) (.bool true)) (fun _ hk=>hk.1.1.2)));(case aS=>exact (below_size (by repeat (first|(with_reducible first|exact HB.out|apply below_alloc|apply pw_below_drewN|apply below_drew1|refine below_set ?_ GW557.out|refine below_set ?_ GW565.out|refine below_set ?_ GW566.out|refine below_set ?_ GW570.out|refine below_set ?_ GW571.out|refine below_set ?_ GW574.out)|exact HB.out))));(case aL=>have:=LMc39.out;omega);intro v585 w65 ho hb hg hat;rw [← Ny584.out] at ho;have HO586:=As_ (ho);replace BK557:=As_ (blk_grown (g:=gb557) (o:=.cells #[.int .u64 0,.int .u64 0,.int .u64 0,.int .u64 0,.int .i64 0,.slice none 0 0] 55 (0,0)) (K2b_ BK557 NB557_574 NB557_570) hg (Kd.R_ne HO_100.out BK557.out (by decide)));replace BK565:=As_ (blk_grown (g:=gb565) (o:=.cells #[.int .u64 t558,.int .u64 t559,.int .u64 t560,.int .u64 t561,.int .i64 t562] 52 (0,0)) (K2b_ BK565 NB565_574 NB565_570) hg (Kd.R_ne HO_100.out BK565.out (by decide)));replace BK566:=As_ (blk_grown (g:=gb566) (o:=.cells #[.string t563,.bool t564] 142 (0,0)) (K2b_ BK566 NB566_574 NB566_570) hg (Kd.R_ne HO_100.out BK566.out (by decide)));replace BK570:=As_ (blk_grown (g:=gb570) (o:=.cells #[.string t582,.bool t583] 142 (0,0)) (by (repeat (first|(with_reducible first|refine blk_drewN ?_ _|refine blk_drew ?_|refine blk_alloc ?_ _)|refine blk_far ?_ NB570_574.out _));refine blk_put (cs:=#[.string t582,.bool t580]) ?_ 1 _ rfl;refine Kv_ ?_;refine blk_put (cs:=#[.string t579,.bool t580]) ?_ 0 _ rfl;exact Kq_ BK570) hg (Kd.R_ne HO_100.out BK570.out (by decide)));replace BK571:=As_ (blk_grown (g:=gb571) (o:=.cells #[.int .u64 t558,.int .u64 t559,.int .u64 t560,.int .u64 t561,.int .i64 t562,u572005] 55 (0,0)) (K2b_ BK571 NB571_574 NB571_570) hg (Kd.R_ne HO_100.out BK571.out (by decide)));replace BK574:=As_ (blk_grown (g:=gb574) (o:=.cells #[.string t575,.string t578,.string (⟨#[]⟩:ByteArray),.bool true] 117 (0,0)) (by refine Kv_ ?_;refine blk_put (cs:=#[.string t575,.string t578,.string (⟨#[]⟩:ByteArray),.bool false]) ?_ 3 _ rfl;exact K1b_ BK574 NB574_570) hg (Kd.R_away HO_100.out (fun _ hk=>hk.2)));replace HB:=As_ (hb);clear HO_100;clear ho hb hg hat;obtain ⟨Ao66,co66,eo66⟩:=Kd.R_slice HO586.out;subst eo66;obtain ⟨_,_,_,_,_,_,_,_,_,_,_,_⟩:=Ke6_ BK571.out))
      go_roundg kj25
      case measure=>have:=HK1.out;have:=HJ25.out;omega
      case rel=>exact ⟨(IntKind.u64.wrap (x9_1+1)),(t582),(t583),(y584),(.slice Ao66 y584.length co66),(by first|rfl|(simp;done)|(simp [*];done)),H',⟨by have:=HK1.out;have:=HJ25.out;omega⟩,⟨by (with_reducible repeat (first|apply Kd.R_alloc|apply Kd.R_drewN|apply Kd.R_drew));exact Kd.R_mono (Kd.R_far (p:=⟨gb571,5,none⟩) (Kd.R_types HO586.out BK571.out (by decide)) (fun _ hk=>hk.2) (.slice Ao66 y584.length co66)) (fun _ hk=>trivial)⟩,⟨by exact K1b_ BK557 NB557_571⟩,⟨by exact K1b_ BK565 NB565_571⟩,⟨by exact K1b_ BK566 NB566_571⟩,⟨by exact K1b_ BK570 NB570_571⟩,⟨by refine Kv_ ?_;refine blk_put (cs:=#[.int .u64 t558,.int .u64 t559,.int .u64 t560,.int .u64 t561,.int .i64 t562,u572005]) ?_ 5 _ rfl;exact Kq_ BK571⟩,⟨by repeat (first|(with_reducible first|exact HB.out|apply below_alloc|apply pw_below_drewN|apply below_drew1|refine below_set ?_ GW557.out|refine below_set ?_ GW565.out|refine below_set ?_ GW566.out|refine below_set ?_ GW570.out|refine below_set ?_ GW571.out|refine below_set ?_ GW574.out)|exact HB.out)⟩⟩
     rw [if_neg c38] at H
     have c38b0:=beq_eq_false_iff_ne.mpr c38
     (try simp only [c38b0] at H)
     have c38b1:(t581 != 1)=true:=bne_iff_ne.mpr c38
     obtain ⟨⟨t587,t588,t589⟩,A68,H⟩:=Kbind_ H
     (try dsimp only at H)
     by_cases c69:x100_1.length<2513169434916
     rotate_left
     ·rw [if_neg c69] at H
      exact absurd H (by simp)
     rw [if_pos c69] at H
     have LMc69:=As_ c69
     clear c69
     obtain ⟨y590,hy590⟩:∃ y_:List (S117),y_=(x100_1++[(⟨t575,t578,t587,false⟩:S117)]):=⟨_,rfl⟩
     replace H:(R08_Read.l0 kj25 a0 t567 (IntKind.u64.wrap (x9_1+1)) t588 t589 t558 t559 t560 t561 t562 y590)=some (r1,r2,r3,r4,r5,r6,r7):=by first|(rw [hy590];with_reducible exact H)|(have H2_:=(Option.bind_some _ _).symm.trans H;rw [hy590];with_reducible exact H2_)|(have H2_:=(Option.bind_some _ _).symm.trans H;with_reducible exact H2_)|with_reducible exact H|(rw [hy590];exact H)|exact H
     have Ny590:=As_ hy590
     clear hy590
     have H':=As_ H
     clear H
     go_wp2_with (first|((with_reducible refine gate_dst (N:=10) rfl ?_);refine Ka_ 10 #[.string (⟨#[]⟩:ByteArray),.string (⟨#[]⟩:ByteArray),.string (⟨#[]⟩:ByteArray),.bool false] 117 ?_;intro gb574 hg w70 hbox hb;have BK574:=As_ (hbox);have GW574:=Kw_ HB hg;have NB557_574:=Kl_ BK557 hg;have NB574_557:=Kr_ BK557 hg;have NB565_574:=Kl_ BK565 hg;have NB574_565:=Kr_ BK565 hg;have NB566_574:=Kl_ BK566 hg;have NB574_566:=Kr_ BK566 hg;have NB570_574:=Kl_ BK570 hg;have NB574_570:=Kr_ BK570 hg;have NB571_574:=Kl_ BK571 hg;have NB574_571:=Kr_ BK571 hg;replace HO_100:=As_ (Kd.R_below (Kd.R_elderB (Ku_ HO_100) gb574 (Nat.le_of_eq hg.symm)) hb);replace BK557:=Kb_ BK557 hb;replace BK565:=Kb_ BK565 hb;replace BK566:=Kb_ BK566 hb;replace BK570:=Kb_ BK570 hb;replace BK571:=Kb_ BK571 hb;replace HB:=Ks_ HB hb;clear hb hbox hg;have hnb71:=NB574_557.out;have hnc71:=NB557_574.out;have hnb72:=NB574_565.out;have hnc72:=NB565_574.out;have hnb73:=NB574_566.out;have hnc73:=NB566_574.out;have hnb74:=NB574_570.out;have hnc74:=NB570_574.out;have hnb75:=NB574_571.out;have hnc75:=NB571_574.out;obtain ⟨_,_,_,_,_,_,_,_⟩:=Ke4_ BK574.out;have hnb77:=NB570_557.out;have hnc77:=NB557_570.out;have hnb78:=NB570_565.out;have hnc78:=NB565_570.out;have hnb79:=NB570_566.out;have hnc79:=NB566_570.out;have hnb80:=NB570_571.out;have hnc80:=NB571_570.out;obtain ⟨_,_,_,_⟩:=Ke2_ BK570.out)|((with_reducible refine gate_callee (f:=81) rfl ?_);refine Kg_ (some 44) rfl rfl Try.func81 (by kernel_rfl) rfl #[.agg #[.string x111_1,.bool x108_1],.int .i64 16] rfl ?_;(with_reducible refine (R02_Reader_Text.calls kj25 x111_1 x108_1 16 t575 t576 t577 _ A35.out).mono ?_);rintro e w82 ⟨rfl,hb⟩;refine ⟨_,rfl,?_⟩;replace HO_100:=As_ (Kd.R_below (by (with_reducible repeat (first|apply Kd.R_alloc|apply Kd.R_drewN|apply Kd.R_drew));exact (Kd.R_mono (Kd.R_far (p:=⟨gb574,3,none⟩) (Kd.R_far (p:=⟨gb574,2,none⟩) (Kd.R_far (p:=⟨gb574,1,none⟩) (Kd.R_far (p:=⟨gb574,0,none⟩) (Kd.R_mono HO_100.out (fun k_ hk=>(⟨hk,hk.2⟩:_∧k_ ≠ gb574))) (fun _ hk=>hk.2) (.string (⟨#[]⟩:ByteArray))) (fun _ hk=>hk.2) (.string (⟨#[]⟩:ByteArray))) (fun _ hk=>hk.2) (.string (⟨#[]⟩:ByteArray))) (fun _ hk=>hk.2) (.bool false)) (fun _ h_=>h_.1))) hb);replace BK557:=Kf_ BK557 NB557_574 hb;replace BK565:=Kf_ BK565 NB565_574 hb;replace BK566:=Kf_ BK566 NB566_574 hb;replace BK570:=Kf_ BK570 NB570_574 hb;replace BK571:=Kf_ BK571 NB571_574 hb;replace BK574:=As_ (blk_below (Kput4_ (Kq_ BK574)) hb);replace HB:=Kt_ HB GW574 hb;(try clear hb);(try clear hk);obtain ⟨_,_,_,_,_,_,_,_⟩:=Ke4_ BK574.out;obtain ⟨_,_,_,_⟩:=Ke2_ BK570.out)|((with_reducible refine gate_callee (f:=81) rfl ?_);refine Kg_ (some 50) rfl rfl Try.func81 (by kernel_rfl) rfl #[.agg #[.string t576,.bool t577],.int .i64 16] rfl ?_;(with_reducible refine (R02_Reader_Text.calls kj25 t576 t577 16 t578 t579 t580 _ A36.out).mono ?_);rintro e w85 ⟨rfl,hb⟩;refine ⟨_,rfl,?_⟩;replace HO_100:=As_ (Kd.R_below (by (with_reducible repeat (first|apply Kd.R_alloc|apply Kd.R_drewN|apply Kd.R_drew));exact (Kd.R_mono (Kd.R_mono (Kd.R_far (p:=⟨gb570,1,none⟩) (Kd.R_far (p:=⟨gb570,0,none⟩) (Kd.R_far (p:=⟨gb574,0,none⟩) (Kd.R_types (Kd.R_mono HO_100.out (fun k_ hk=>(⟨hk,hk.2⟩:_∧k_ ≠ gb574))) BK570.out (by decide)) (fun _ hk=>hk.1.2) (.string t575)) (fun _ hk=>hk.2) (.string t576)) (fun _ hk=>hk.2) (.bool t577)) (fun _ h_=>h_.1)) (fun _ h_=>h_.1))) hb);replace BK557:=As_ (blk_below (g:=gb557) (o:=.cells #[.int .u64 0,.int .u64 0,.int .u64 0,.int .u64 0,.int .i64 0,.slice none 0 0] 55 (0,0)) (K2b_ BK557 NB557_570 NB557_574) hb);replace BK565:=As_ (blk_below (g:=gb565) (o:=.cells #[.int .u64 t558,.int .u64 t559,.int .u64 t560,.int .u64 t561,.int .i64 t562] 52 (0,0)) (K2b_ BK565 NB565_570 NB565_574) hb);replace BK566:=As_ (blk_below (g:=gb566) (o:=.cells #[.string t563,.bool t564] 142 (0,0)) (K2b_ BK566 NB566_570 NB566_574) hb);replace BK570:=As_ (blk_below (g:=gb570) (o:=.cells #[.string t576,.bool t577] 142 (0,0)) (by refine Kv_ ?_;refine blk_put (cs:=#[.string t576,.bool x108_1]) ?_ 1 _ rfl;refine Kv_ ?_;refine blk_put (cs:=#[.string x111_1,.bool x108_1]) ?_ 0 _ rfl;exact K1b_ BK570 NB570_574) hb);replace BK571:=As_ (blk_below (g:=gb571) (o:=.cells #[.int .u64 t558,.int .u64 t559,.int .u64 t560,.int .u64 t561,.int .i64 t562,u572005] 55 (0,0)) (K2b_ BK571 NB571_570 NB571_574) hb);replace BK574:=As_ (blk_below (g:=gb574) (o:=.cells #[.string t575,.string (⟨#[]⟩:ByteArray),.string (⟨#[]⟩:ByteArray),.bool false] 117 (0,0)) (by (repeat (first|(with_reducible first|refine blk_drewN ?_ _|refine blk_drew ?_|refine blk_alloc ?_ _)|refine blk_far ?_ NB574_570.out _));refine blk_put (cs:=#[.string (⟨#[]⟩:ByteArray),.string (⟨#[]⟩:ByteArray),.string (⟨#[]⟩:ByteArray),.bool false]) ?_ 0 _ rfl;exact Kq_ BK574) hb);replace HB:=As_ (below_step (by repeat (first|(with_reducible first|exact HB.out|apply below_alloc|apply pw_below_drewN|apply below_drew1|refine below_set ?_ GW557.out|refine below_set ?_ GW565.out|refine below_set ?_ GW566.out|refine below_set ?_ GW570.out|refine below_set ?_ GW571.out|refine below_set ?_ GW574.out)|exact HB.out)) hb);(try clear hb);(try clear hk);obtain ⟨_,_,_,_,_,_,_,_⟩:=Ke4_ BK574.out;obtain ⟨_,_,_,_⟩:=Ke2_ BK570.out)|((with_reducible refine gate_callee (f:=79) rfl ?_);refine Kg_ (some 56) rfl rfl Try.func79 (by kernel_rfl) rfl #[.agg #[.string t579,.bool t580],.int .i64 1] rfl ?_;(with_reducible refine (R02_Reader_Number.calls kj25 t579 t580 1 t581 t582 t583 _ A37.out).mono ?_);rintro e w88 ⟨rfl,hb⟩;refine ⟨_,rfl,?_⟩;replace HO_100:=As_ (Kd.R_below (by (with_reducible repeat (first|apply Kd.R_alloc|apply Kd.R_drewN|apply Kd.R_drew));exact (Kd.R_mono (Kd.R_mono (Kd.R_far (p:=⟨gb570,1,none⟩) (Kd.R_far (p:=⟨gb570,0,none⟩) (Kd.R_far (p:=⟨gb574,1,none⟩) (Kd.R_types (Kd.R_mono HO_100.out (fun k_ hk=>(⟨hk,hk.2⟩:_∧k_ ≠ gb574))) BK570.out (by decide)) (fun _ hk=>hk.1.2) (.string t578)) (fun _ hk=>hk.2) (.string t579)) (fun _ hk=>hk.2) (.bool t580)) (fun _ h_=>h_.1)) (fun _ h_=>h_.1))) hb);replace BK557:=As_ (blk_below (g:=gb557) (o:=.cells #[.int .u64 0,.int .u64 0,.int .u64 0,.int .u64 0,.int .i64 0,.slice none 0 0] 55 (0,0)) (K2b_ BK557 NB557_570 NB557_574) hb);replace BK565:=As_ (blk_below (g:=gb565) (o:=.cells #[.int .u64 t558,.int .u64 t559,.int .u64 t560,.int .u64 t561,.int .i64 t562] 52 (0,0)) (K2b_ BK565 NB565_570 NB565_574) hb);replace BK566:=As_ (blk_below (g:=gb566) (o:=.cells #[.string t563,.bool t564] 142 (0,0)) (K2b_ BK566 NB566_570 NB566_574) hb);replace BK570:=As_ (blk_below (g:=gb570) (o:=.cells #[.string t579,.bool t580] 142 (0,0)) (by refine Kv_ ?_;refine blk_put (cs:=#[.string t579,.bool t577]) ?_ 1 _ rfl;refine Kv_ ?_;refine blk_put (cs:=#[.string t576,.bool t577]) ?_ 0 _ rfl;exact K1b_ BK570 NB570_574) hb);replace BK571:=As_ (blk_below (g:=gb571) (o:=.cells #[.int .u64 t558,.int .u64 t559,.int .u64 t560,.int .u64 t561,.int .i64 t562,u572005] 55 (0,0)) (K2b_ BK571 NB571_570 NB571_574) hb);replace BK574:=As_ (blk_below (g:=gb574) (o:=.cells #[.string t575,.string t578,.string (⟨#[]⟩:ByteArray),.bool false] 117 (0,0)) (by (repeat (first|(with_reducible first|refine blk_drewN ?_ _|refine blk_drew ?_|refine blk_alloc ?_ _)|refine blk_far ?_ NB574_570.out _));refine blk_put (cs:=#[.string t575,.string (⟨#[]⟩:ByteArray),.string (⟨#[]⟩:ByteArray),.bool false]) ?_ 1 _ rfl;exact Kq_ BK574) hb);replace HB:=As_ (below_step (by repeat (first|(with_reducible first|exact HB.out|apply below_alloc|apply pw_below_drewN|apply below_drew1|refine below_set ?_ GW557.out|refine below_set ?_ GW565.out|refine below_set ?_ GW566.out|refine below_set ?_ GW570.out|refine below_set ?_ GW571.out|refine below_set ?_ GW574.out)|exact HB.out)) hb);(try clear hb);(try clear hk);obtain ⟨_,_,_,_⟩:=Ke2_ BK570.out;obtain ⟨_,_,_,_,_,_,_,_⟩:=Ke4_ BK574.out)|((with_reducible refine gate_callee (f:=81) rfl ?_);refine Kg_ (some 67) rfl rfl Try.func81 (by kernel_rfl) rfl #[.agg #[.string t582,.bool t583],.int .i64 32] rfl ?_;(with_reducible refine (R02_Reader_Text.calls kj25 t582 t583 32 t587 t588 t589 _ A68.out).mono ?_);rintro e w91 ⟨rfl,hb⟩;refine ⟨_,rfl,?_⟩;replace HO_100:=As_ (Kd.R_below (by (with_reducible repeat (first|apply Kd.R_alloc|apply Kd.R_drewN|apply Kd.R_drew));exact (Kd.R_mono (Kd.R_mono (Kd.R_far (p:=⟨gb574,3,none⟩) (Kd.R_far (p:=⟨gb570,1,none⟩) (Kd.R_far (p:=⟨gb570,0,none⟩) (Kd.R_mono (Kd.R_types HO_100.out BK570.out (by decide)) (fun k_ hk=>(⟨hk,hk.1.2⟩:_∧k_ ≠ gb574))) (fun _ hk=>hk.1.2) (.string t582)) (fun _ hk=>hk.1.2) (.bool t583)) (fun _ hk=>hk.2) (.bool false)) (fun _ h_=>h_.1)) (fun _ h_=>h_.1))) hb);replace BK557:=As_ (blk_below (g:=gb557) (o:=.cells #[.int .u64 0,.int .u64 0,.int .u64 0,.int .u64 0,.int .i64 0,.slice none 0 0] 55 (0,0)) (K2b_ BK557 NB557_574 NB557_570) hb);replace BK565:=As_ (blk_below (g:=gb565) (o:=.cells #[.int .u64 t558,.int .u64 t559,.int .u64 t560,.int .u64 t561,.int .i64 t562] 52 (0,0)) (K2b_ BK565 NB565_574 NB565_570) hb);replace BK566:=As_ (blk_below (g:=gb566) (o:=.cells #[.string t563,.bool t564] 142 (0,0)) (K2b_ BK566 NB566_574 NB566_570) hb);replace BK570:=As_ (blk_below (g:=gb570) (o:=.cells #[.string t582,.bool t583] 142 (0,0)) (by (repeat (first|(with_reducible first|refine blk_drewN ?_ _|refine blk_drew ?_|refine blk_alloc ?_ _)|refine blk_far ?_ NB570_574.out _));refine blk_put (cs:=#[.string t582,.bool t580]) ?_ 1 _ rfl;refine Kv_ ?_;refine blk_put (cs:=#[.string t579,.bool t580]) ?_ 0 _ rfl;exact Kq_ BK570) hb);replace BK571:=As_ (blk_below (g:=gb571) (o:=.cells #[.int .u64 t558,.int .u64 t559,.int .u64 t560,.int .u64 t561,.int .i64 t562,u572005] 55 (0,0)) (K2b_ BK571 NB571_574 NB571_570) hb);replace BK574:=As_ (blk_below (g:=gb574) (o:=.cells #[.string t575,.string t578,.string (⟨#[]⟩:ByteArray),.bool false] 117 (0,0)) (by refine Kv_ ?_;refine blk_put (cs:=#[.string t575,.string t578,.string (⟨#[]⟩:ByteArray),.bool false]) ?_ 3 _ rfl;exact K1b_ BK574 NB574_570) hb);replace HB:=As_ (below_step (by repeat (first|(with_reducible first|exact HB.out|apply below_alloc|apply pw_below_drewN|apply below_drew1|refine below_set ?_ GW557.out|refine below_set ?_ GW565.out|refine below_set ?_ GW566.out|refine below_set ?_ GW570.out|refine below_set ?_ GW571.out|refine below_set ?_ GW574.out)|exact HB.out)) hb);(try clear hb);(try clear hk);obtain ⟨_,_,_,_,_,_,_,_⟩:=Ke4_ BK574.out;obtain ⟨_,_,_,_⟩:=Ke2_ BK570.out;have hnb94:=NB571_557.out;have hnc94:=NB557_571.out;have hnb95:=NB571_565.out;have hnc95:=NB565_571.out;have hnb96:=NB571_566.out;have hnc96:=NB566_571.out;obtain ⟨_,_,_,_,_,_,_,_,_,_,_,_⟩:=Ke6_ BK571.out)|((with_reducible refine gate_builtin (b:=.append) (xs:=#[.tmp 72,.tmp 74]) rfl ?_);at_builtin;refine Kd.R_append k117 (w0:=w) w.heap.size rfl (.tmp 72) (.tmp 74) 53 117 (.agg #[(.string ⟨#[]⟩),(.string ⟨#[]⟩),(.string ⟨#[]⟩),(.bool false)]) 56 rfl Try.underlying53 info117 rfl (by decide) (by omega) u572005 x100_1 (⟨t575,t578,t587,false⟩:S117) [.string t575,.string t578,.string t587,.bool false] (fun k_=>k_ ≠ gb574) (fun _=>False) rfl (by first|(go_simp;done)|(go_simp;rfl)) ?aP (fun _ hk=>hk.elim) ?aF ?aO ?aB ?aS ?aL ?_;(case aP=>exact k117_mkM _ _ _ (⟨t575,t578,t587,false⟩:S117));(case aB=>exact (by repeat (first|(with_reducible first|exact HB.out|apply below_alloc|apply pw_below_drewN|apply below_drew1|refine below_set ?_ GW557.out|refine below_set ?_ GW565.out|refine below_set ?_ GW566.out|refine below_set ?_ GW570.out|refine below_set ?_ GW571.out|refine below_set ?_ GW574.out)|exact HB.out)));(case aF=>exact (fun k_ hk=>Kd.freshB (g:=gb574) (o:=.cells #[.string t575,.string t578,.string t587,.bool false] 117 (0,0)) (by (repeat (first|(with_reducible first|refine blk_drewN ?_ _|refine blk_drew ?_|refine blk_alloc ?_ _)|refine blk_far ?_ NB574_570.out _));refine blk_put (cs:=#[.string t575,.string t578,.string (⟨#[]⟩:ByteArray),.bool false]) ?_ 2 _ rfl;exact Kq_ BK574) k_ hk));(case aO=>exact (by (with_reducible repeat (first|apply Kd.R_alloc|apply Kd.R_drewN|apply Kd.R_drew));exact Kd.R_mono (Kd.R_far (p:=⟨gb570,1,none⟩) (Kd.R_far (p:=⟨gb570,0,none⟩) (Kd.R_far (p:=⟨gb574,2,none⟩) (Kd.R_types (Kd.R_mono HO_100.out (fun k_ hk=>(⟨hk,hk.2⟩:_∧k_ ≠ gb574))) BK570.out (by decide)) (fun _ hk=>hk.1.2) (.string t587)) (fun _ hk=>hk.2) (.string t588)) (fun _ hk=>hk.2) (.bool t589)) (fun _ hk=>hk.1.1.2)));(case aS=>exact (below_size (by repeat (first|(with_reducible first|exact HB.out|apply below_alloc|apply pw_below_drewN|apply below_drew1|refine below_set ?_ GW557.out|refine below_set ?_ GW565.out|refine below_set ?_ GW566.out|refine below_set ?_ GW570.out|refine below_set ?_ GW571.out|refine below_set ?_ GW574.out)|exact HB.out))));(case aL=>have:=LMc69.out;omega);intro v591 w98 ho hb hg hat;rw [← Ny590.out] at ho;have HO592:=As_ (ho);replace BK557:=As_ (blk_grown (g:=gb557) (o:=.cells #[.int .u64 0,.int .u64 0,.int .u64 0,.int .u64 0,.int .i64 0,.slice none 0 0] 55 (0,0)) (K2b_ BK557 NB557_570 NB557_574) hg (Kd.R_ne HO_100.out BK557.out (by decide)));replace BK565:=As_ (blk_grown (g:=gb565) (o:=.cells #[.int .u64 t558,.int .u64 t559,.int .u64 t560,.int .u64 t561,.int .i64 t562] 52 (0,0)) (K2b_ BK565 NB565_570 NB565_574) hg (Kd.R_ne HO_100.out BK565.out (by decide)));replace BK566:=As_ (blk_grown (g:=gb566) (o:=.cells #[.string t563,.bool t564] 142 (0,0)) (K2b_ BK566 NB566_570 NB566_574) hg (Kd.R_ne HO_100.out BK566.out (by decide)));replace BK570:=As_ (blk_grown (g:=gb570) (o:=.cells #[.string t588,.bool t589] 142 (0,0)) (by refine Kv_ ?_;refine blk_put (cs:=#[.string t588,.bool t583]) ?_ 1 _ rfl;refine Kv_ ?_;refine blk_put (cs:=#[.string t582,.bool t583]) ?_ 0 _ rfl;exact K1b_ BK570 NB570_574) hg (Kd.R_ne HO_100.out BK570.out (by decide)));replace BK571:=As_ (blk_grown (g:=gb571) (o:=.cells #[.int .u64 t558,.int .u64 t559,.int .u64 t560,.int .u64 t561,.int .i64 t562,u572005] 55 (0,0)) (K2b_ BK571 NB571_570 NB571_574) hg (Kd.R_ne HO_100.out BK571.out (by decide)));replace HB:=As_ (hb);clear HO_100;clear ho hb hg hat;obtain ⟨Ao99,co99,eo99⟩:=Kd.R_slice HO592.out;subst eo99;obtain ⟨_,_,_,_,_,_,_,_,_,_,_,_⟩:=Ke6_ BK571.out))
     go_roundg kj25
     case measure=>have:=HK1.out;have:=HJ25.out;omega
     case rel=>exact ⟨(IntKind.u64.wrap (x9_1+1)),(t588),(t589),(y590),(.slice Ao99 y590.length co99),(by first|rfl|(simp;done)|(simp [*];done)),H',⟨by have:=HK1.out;have:=HJ25.out;omega⟩,⟨by (with_reducible repeat (first|apply Kd.R_alloc|apply Kd.R_drewN|apply Kd.R_drew));exact Kd.R_mono (Kd.R_far (p:=⟨gb571,5,none⟩) (Kd.R_types HO592.out BK571.out (by decide)) (fun _ hk=>hk.2) (.slice Ao99 y590.length co99)) (fun _ hk=>trivial)⟩,⟨by exact K1b_ BK557 NB557_571⟩,⟨by exact K1b_ BK565 NB565_571⟩,⟨by exact K1b_ BK566 NB566_571⟩,⟨by exact K1b_ BK570 NB570_571⟩,⟨by refine Kv_ ?_;refine blk_put (cs:=#[.int .u64 t558,.int .u64 t559,.int .u64 t560,.int .u64 t561,.int .i64 t562,u572005]) ?_ 5 _ rfl;exact Kq_ BK571⟩,⟨by repeat (first|(with_reducible first|exact HB.out|apply below_alloc|apply pw_below_drewN|apply below_drew1|refine below_set ?_ GW557.out|refine below_set ?_ GW565.out|refine below_set ?_ GW566.out|refine below_set ?_ GW570.out|refine below_set ?_ GW571.out|refine below_set ?_ GW574.out)|exact HB.out)⟩⟩
end Go.Proofs.Ytoagfdpgnfinhaa.Q
