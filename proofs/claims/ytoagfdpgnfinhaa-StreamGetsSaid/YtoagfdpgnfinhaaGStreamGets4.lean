import Derived.Test.YtoagfdpgnfinhaaGStreamGets2
import Derived.Test.YtoagfdpgnfinhaaGStreamGets3
namespace Go.Proofs.Ytoagfdpgnfinhaa.Q
open Go.RowKit Go.Proofs.YtoagfdpgnfinhaaW.PrintWords Go.Proofs.YtoagfdpgnfinhaaW.PrintLast Go.Proofs.YtoagfdpgnfinhaaW.PrintMore
attribute [local go_sem] max2_int min2_int max_two min_two max_three min_three max_four min_four   -- for this text's walks alone
set_option linter.unusedVariables false
set_option linter.unusedSimpArgs false
def pack_bad.f :Option (ByteArray × Bool):=some ((⟨#[]⟩:ByteArray),true)
set_option maxHeartbeats 8000000 in
set_option maxRecDepth 100000 in
theorem pack_bad.calls  (r1:ByteArray) (r2:Bool) (w:World) (h:pack_bad.f =some (r1,r2)) :
  Calls Try.prog 98 #[] w fun e w'=>e = .returned (.agg #[.string r1,.bool r2])∧Below w.heap.size w w':=by
 have hu134:=Try.underlying134
 have HB:=As_ (Below.refl w.heap.size w)
 unfold pack_bad.f at h
 have H:=h
 clear h
 simp only [Option.some.injEq,Prod.mk.injEq] at H
 obtain ⟨rfl,rfl⟩:=H
 go_enter Try.func98,Try.ntmps98
 go_wp2_with (first|((with_reducible refine gate_dst (N:=0) rfl ?_);refine Ka_ 0 #[.string (⟨#[]⟩:ByteArray),.bool false] 134 ?_;intro gb171 hg w1 hbox hb;have BK171:=As_ (hbox);have GW171:=Kw_ HB hg;replace HB:=Ks_ HB hb;clear hb hbox hg;obtain ⟨_,_,_,_⟩:=Ke2_ BK171.out))
 refine bodyPost_ret (results_cell_row rfl _ _ gb171 134 #[.string (⟨#[]⟩:ByteArray),.bool true] (0,0) _ rfl (by refine Kv_ ?_;exact Kput2_ (Kq_ BK171)) Try.underlying134 rfl (by kernel_rfl)) rfl ?_
 exact ⟨Kh_,Kz_ HB GW171⟩
def pack_Reader_Vary.l0:Nat→Int→Int→Int→ByteArray→Bool→Option (Int × ByteArray × Bool)
 | 0,_,_,_,_,_=>none
 | k+1,x4,x13,x14,x111,x114=>if x14<x13 then (if 0≤x14 then (if x14<(x111.size:Int) then (if 0≤(wrap64 (7 * x14)) then (if (bt x111 x14) ≥ 128 then (pack_Reader_Vary.l0 k (Go.bits .or .u64 x4 (shl .u64 (IntKind.u64.wrap (Go.bits .and .u8 (bt x111 x14) 127)) (wrap64 (7 * x14)))) x13 (wrap64 (x14+1)) x111 x114) else (if 0≤(wrap64 (x14+1)) then (if (wrap64 (x14+1))≤(x111.size:Int) then ((pack_Vary.f k (Go.bits .or .u64 x4 (shl .u64 (IntKind.u64.wrap (Go.bits .and .u8 (bt x111 x14) 127)) (wrap64 (7 * x14))))).bind fun t178=>(if (x111.extract 0 ((wrap64 (x14+1)):Int).toNat).toList=t178.toList then (some (Go.bits .or .u64 x4 (shl .u64 (IntKind.u64.wrap (Go.bits .and .u8 (bt x111 x14) 127)) (wrap64 (7 * x14))),x111.extract ((wrap64 (x14+1)):Int).toNat x111.size,false)) else ((pack_bad.f).bind fun bt179=>(some (0,bt179.1,bt179.2))))) else (none)) else (none))) else (none)) else (none)) else (none)) else ((pack_bad.f).bind fun bt176=>(some (0,bt176.1,bt176.2)))
def pack_Reader_Vary.f (k:Nat) (a0_0:ByteArray) (a0_1:Bool):Option (Int × ByteArray × Bool):=if a0_1=true then ((pack_bad.f).bind fun bt174=>(some (0,bt174.1,bt174.2))) else (pack_Reader_Vary.l0 k 0 (mn (a0_0.size:Int) 10) 0 a0_0 a0_1)
def pack_Reader_Vary.T10:Bool × List (List Nat × List Nat):=(true,[([],[]),([0],[0]),([],[]),([2],[2]),([1,3],[1,3]),([],[]),([5],[5]),([4,6],[4,6])])
def pack_Reader_Vary.B10:List Nat:=[0,1,0,4,15,0,32,127]
theorem pack_Reader_Vary.tab10:rtab .any (opsOf Try.f76 10)=pack_Reader_Vary.T10:=by kernel_rfl
theorem pack_Reader_Vary.bits10:waitsOk pack_Reader_Vary.T10.2 pack_Reader_Vary.B10=true:=by kernel_rfl
def pack_Reader_Vary.T11:Bool × List (List Nat × List Nat):=(true,[([],[]),([],[]),([1],[1]),([],[]),([3],[3]),([2,4],[2,4]),([5],[5]),([0,0],[0]),([6,7,0,1,2,3,4,5,6,7],[6])])
def pack_Reader_Vary.B11:List Nat:=[0,0,2,0,8,30,62,1,255]
theorem pack_Reader_Vary.tab11:rtab .any (opsOf Try.f76 11)=pack_Reader_Vary.T11:=by kernel_rfl
theorem pack_Reader_Vary.bits11:waitsOk pack_Reader_Vary.T11.2 pack_Reader_Vary.B11=true:=by kernel_rfl
set_option maxHeartbeats 8000000 in
set_option maxRecDepth 100000 in
theorem pack_Reader_Vary.calls (k:Nat) (a0_0:ByteArray) (a0_1:Bool) (r1:Int) (r2:ByteArray) (r3:Bool) (w:World) (h:pack_Reader_Vary.f k a0_0 a0_1=some (r1,r2,r3)) :
  Calls Try.prog 76 #[.agg #[.string a0_0,.bool a0_1]] w fun e w'=>e = .returned (.tuple #[.int .u64 r1,.agg #[.string r2,.bool r3]])∧Below w.heap.size w w':=by
 have hu134:=Try.underlying134
 have HB:=As_ (Below.refl w.heap.size w)
 unfold pack_Reader_Vary.f at h
 have H:=h
 clear h
 by_cases c2:a0_1=true
 ·subst c2
  rw [if_pos rfl] at H
  obtain ⟨⟨t174,t175⟩,A3,H⟩:=Kbind_ H
  (try dsimp only at H)
  simp only [Option.some.injEq,Prod.mk.injEq] at H
  obtain ⟨rfl,rfl,rfl⟩:=H
  go_enter Try.func76,Try.ntmps76
  go_wp2_with (first|((with_reducible refine gate_dst (N:=1) rfl ?_);refine Ka_ 1 #[.string a0_0,.bool true] 134 ?_;intro gb172 hg w4 hbox hb;have BK172:=As_ (hbox);have GW172:=Kw_ HB hg;replace HB:=Ks_ HB hb;clear hb hbox hg)|((with_reducible refine gate_dst (N:=3) rfl ?_);refine Ka_ 3 #[.string (⟨#[]⟩:ByteArray),.bool false] 134 ?_;intro gb173 hg w5 hbox hb;have BK173:=As_ (hbox);have GW173:=Kw_ HB hg;have NB172_173:=Kl_ BK172 hg;have NB173_172:=Kr_ BK172 hg;replace BK172:=Kb_ BK172 hb;replace HB:=Ks_ HB hb;clear hb hbox hg;have hnb6:=NB172_173.out;have hnc6:=NB173_172.out;obtain ⟨hcz7_0,hcz7_1,hfz7_0,hfz7_1⟩:=Ke2_ BK172.out)|((with_reducible refine gate_callee (f:=98) rfl ?_);refine Kg_ (some 9) rfl rfl Try.func98 (by kernel_rfl) rfl #[] rfl ?_;(with_reducible refine (pack_bad.calls  t174 t175 _ A3.out).mono ?_);rintro e w8 ⟨rfl,hb⟩;refine ⟨_,rfl,?_⟩;replace BK173:=Kb_ BK173 hb;replace HB:=Ks_ HB hb;(try clear hb);obtain ⟨hcz9_0,hcz9_1,hfz9_0,hfz9_1⟩:=Ke2_ BK173.out))
  refine bodyPost_ret (results_tc rfl _ _ gb173 134 #[.string t174,.bool t175] (0,0) _ rfl (by refine Kv_ ?_;exact Kput2_ (Kq_ BK173)) Try.underlying134 rfl (by kernel_rfl)) rfl ?_
  exact ⟨Kh_,K2a_ HB GW172 GW173⟩
 replace c2:=Bool.eq_false_iff.mpr c2
 subst c2
 rw [if_neg Bool.false_ne_true] at H
 obtain ⟨ji10,hji10⟩:∃ j_:Int,(mn (a0_0.size:Int) 10)=j_:=⟨_,rfl⟩
 replace H:(pack_Reader_Vary.l0 k 0 ji10 0 a0_0 false)=some (r1,r2,r3):=by first|(rw [hji10] at H;exact H)|(simp only [hji10] at H ⊢;exact H)
 (try (have hji10h:ji10≤10:=by (rw [← hji10];unfold mn;(repeat' split) <;> omega)))
 (try (have hji10g:ji10≤64:=by omega))
 (try (have hji10l:0≤ji10:=by (rw [← hji10];unfold mn;(repeat' split) <;> omega)))
 (try (have hji10m:0≤ji10:=by omega))
 have hji10_:(if 10<(a0_0.size:Int) then 10 else (a0_0.size:Int))=ji10:=hji10
 have H':=As_ H
 clear H
 go_enter Try.func76,Try.ntmps76
 go_wp2_with (first|((with_reducible refine gate_dst (N:=1) rfl ?_);refine Ka_ 1 #[.string a0_0,.bool false] 134 ?_;intro gb172 hg w11 hbox hb;have BK172:=As_ (hbox);have GW172:=Kw_ HB hg;replace HB:=Ks_ HB hb;clear hb hbox hg)|((with_reducible refine gate_dst (N:=3) rfl ?_);refine Ka_ 3 #[.string (⟨#[]⟩:ByteArray),.bool false] 134 ?_;intro gb173 hg w12 hbox hb;have BK173:=As_ (hbox);have GW173:=Kw_ HB hg;have NB172_173:=Kl_ BK172 hg;have NB173_172:=Kr_ BK172 hg;replace BK172:=Kb_ BK172 hb;replace HB:=Ks_ HB hb;clear hb hbox hg;have hnb13:=NB172_173.out;have hnc13:=NB173_172.out;obtain ⟨hcz14_0,hcz14_1,hfz14_0,hfz14_1⟩:=Ke2_ BK172.out))
 go_loopg [4,14] k (fun kq v4 v14 w'=>∃ (x4_1:Int) (x14_1:Int) (x112_1:ByteArray) (x113_1:Bool),v4 = .int .u64 x4_1∧v14 = .int .i64 x14_1∧Aside0 (pack_Reader_Vary.l0 kq x4_1 ji10 x14_1 a0_0 false=some (r1,r2,r3))∧Aside0 (kq≤k)∧Aside0 (w'.heap[gb172]?=some (.cells #[.string a0_0,.bool false] 134 (0,0)))∧Aside0 (w'.heap[gb173]?=some (.cells #[.string x112_1,.bool x113_1] 134 (0,0)))∧Aside0 (Below w.heap.size w w'))
 case atStart=>exact ⟨(0),(0),((⟨#[]⟩:ByteArray)),(false),(by first|rfl|(simp;done)|(simp [*];done)),(by first|rfl|(simp;done)|(simp [*];done)),H',⟨Nat.le_refl _⟩,⟨by exact Kq_ BK172⟩,⟨by exact Kq_ BK173⟩,⟨K2a_ HB GW172 GW173⟩⟩
 case round =>
  clear H'
  try clear c1
  try clear c2
  try clear p2
  try clear c6
  try clear c7
  try clear c9
  try clear c13
  try clear hcz14_0
  try clear hcz14_1
  try clear hcz7_0
  try clear hcz7_1
  try clear hcz9_0
  try clear hcz9_1
  try clear hfz14_0
  try clear hfz14_1
  try clear hfz7_0
  try clear hfz7_1
  try clear hfz9_0
  try clear hfz9_1
  obtain ⟨x4_1,x14_1,x112_1,x113_1,rfl,rfl,HA,HK1,BK172,BK173,HB⟩:=hrel
  cases gk with
  | zero=>exact absurd HA.out (by simp [pack_Reader_Vary.l0])
  | succ k1 =>
   have H:=HA.out
   clear HA
   simp only [pack_Reader_Vary.l0] at H
   by_cases c15:x14_1<ji10
   rotate_left
   ·rw [if_neg c15] at H
    have c15b0:decide (x14_1<ji10)=false:=decide_eq_false c15
    clear c15
    obtain ⟨⟨t176,t177⟩,A46,H⟩:=Kbind_ H
    (try dsimp only at H)
    simp only [Option.some.injEq,Prod.mk.injEq] at H
    obtain ⟨rfl,rfl,rfl⟩:=H
    go_wp2_with (first|((with_reducible refine gate_callee (f:=98) rfl ?_);refine Kg_ (some 47) rfl rfl Try.func98 (by kernel_rfl) rfl #[] rfl ?_;(with_reducible refine (pack_bad.calls  t176 t177 _ A46.out).mono ?_);rintro e w47 ⟨rfl,hb⟩;refine ⟨_,rfl,?_⟩;replace BK172:=Kb_ BK172 hb;replace BK173:=Kb_ BK173 hb;replace HB:=Ks_ HB hb;(try clear hb);have hnb48:=NB173_172.out;have hnc48:=NB172_173.out;obtain ⟨_,_,_,_⟩:=Ke2_ BK173.out))
    refine bodyPost_ret (results_tc rfl _ _ gb173 134 #[.string t176,.bool t177] (0,0) _ rfl (by refine Kv_ ?_;exact Kput2_ (Kq_ BK173)) Try.underlying134 rfl (by kernel_rfl)) rfl ?_
    exact ⟨by first|rfl|(simp [errW_none,errW_some] <;> rfl)|(simp only [← hji10];first|rfl|(simp [errW_none,errW_some] <;> rfl))|(simp [*,errW_none,errW_some] <;> rfl),K2a_ HB GW172 GW173⟩
   rw [if_pos c15] at H
   have c15b0:decide (x14_1<ji10)=true:=decide_eq_true c15
   clear c15
   by_cases c16:0≤x14_1
   rotate_left
   ·rw [if_neg c16] at H
    exact absurd H (by simp)
   rw [if_pos c16] at H
   have c16b0:decide (0≤x14_1)=true:=decide_eq_true c16
   clear c16
   by_cases c17:x14_1<(a0_0.size:Int)
   rotate_left
   ·rw [if_neg c17] at H
    exact absurd H (by simp)
   rw [if_pos c17] at H
   have c17b0:decide (x14_1<(a0_0.size:Int))=true:=decide_eq_true c17
   clear c17
   obtain ⟨ji19,hji19⟩:∃ j_:Int,(wrap64 (7 * x14_1))=j_:=⟨_,rfl⟩
   replace H:(if 0≤(ji19) then (if (bt a0_0 x14_1) ≥ 128 then (pack_Reader_Vary.l0 k1 (Go.bits .or .u64 x4_1 (shl .u64 (IntKind.u64.wrap (Go.bits .and .u8 (bt a0_0 x14_1) 127)) (ji19))) ji10 (wrap64 (x14_1+1)) a0_0 false) else (if 0≤(wrap64 (x14_1+1)) then (if (wrap64 (x14_1+1))≤(a0_0.size:Int) then ((pack_Vary.f k1 (Go.bits .or .u64 x4_1 (shl .u64 (IntKind.u64.wrap (Go.bits .and .u8 (bt a0_0 x14_1) 127)) (ji19)))).bind fun t178=>(if (a0_0.extract 0 ((wrap64 (x14_1+1)):Int).toNat).toList=t178.toList then (some (Go.bits .or .u64 x4_1 (shl .u64 (IntKind.u64.wrap (Go.bits .and .u8 (bt a0_0 x14_1) 127)) (ji19)),a0_0.extract ((wrap64 (x14_1+1)):Int).toNat a0_0.size,false)) else ((pack_bad.f).bind fun bt179=>(some (0,bt179.1,bt179.2))))) else (none)) else (none))) else (none))=some (r1,r2,r3):=by first|(rw [hji19] at H;exact H)|(simp only [hji19] at H ⊢;exact H)
   have hji19w:(IntKind.i64.wrap (7 * x14_1))=ji19:=(i64_w _).trans hji19
   by_cases c20:0≤(ji19)
   rotate_left
   ·rw [if_neg c20] at H
    exact absurd H (by simp)
   rw [if_pos c20] at H
   have c20b0:=eq_true c20
   have c20b1:decide (0≤(ji19))=true:=decide_eq_true c20
   clear c20
   obtain ⟨ji21,hji21⟩:∃ j_:Int,(shl .u64 (IntKind.u64.wrap (Go.bits .and .u8 (bt a0_0 x14_1) 127)) (ji19))=j_:=⟨_,rfl⟩
   replace H:(if (bt a0_0 x14_1) ≥ 128 then (pack_Reader_Vary.l0 k1 (Go.bits .or .u64 x4_1 (ji21)) ji10 (wrap64 (x14_1+1)) a0_0 false) else (if 0≤(wrap64 (x14_1+1)) then (if (wrap64 (x14_1+1))≤(a0_0.size:Int) then ((pack_Vary.f k1 (Go.bits .or .u64 x4_1 (ji21))).bind fun t178=>(if (a0_0.extract 0 ((wrap64 (x14_1+1)):Int).toNat).toList=t178.toList then (some (Go.bits .or .u64 x4_1 (ji21),a0_0.extract ((wrap64 (x14_1+1)):Int).toNat a0_0.size,false)) else ((pack_bad.f).bind fun bt179=>(some (0,bt179.1,bt179.2))))) else (none)) else (none)))=some (r1,r2,r3):=by first|(rw [hji21] at H;exact H)|(simp only [hji21] at H ⊢;exact H)
   have hji21_:(IntKind.u64.wrap ((IntKind.u64.wrap (Go.bits .and .u8 (bt a0_0 x14_1) 127)) * 2 ^ min (ji19).toNat 64))=ji21:=hji21
   have hji21z:(ji19)≤64→(IntKind.u64.wrap ((IntKind.u64.wrap (Go.bits .and .u8 (bt a0_0 x14_1) 127)) * 2 ^ (ji19).toNat))=ji21:=shl_small hji21
   by_cases c22:(bt a0_0 x14_1) ≥ 128
   ·rw [if_pos c22] at H
    have c22b0:decide (128≤(bt a0_0 x14_1))=true:=decide_eq_true c22
    clear c22
    have H':=As_ H
    clear H
    have hnb23:=NB172_173.out
    have hnc23:=NB173_172.out
    obtain ⟨_,_,_,_⟩:=Ke2_ BK172.out
    have p18:0≤(x14_1:Int):=of_decide_eq_true (by first|(with_reducible assumption)|assumption)
    have q18:x14_1<(a0_0.size:Int):=of_decide_eq_true (by first|(with_reducible assumption)|assumption)
    have hx18:=bt_at a0_0 x14_1
    replace p18:=eq_true p18
    replace q18:=eq_true q18
    go_wp2
    go_roundg k1
    case measure=>have:=HK1.out;omega
    case rel=>exact ⟨(Go.bits .or .u64 x4_1 (ji21)),(wrap64 (x14_1+1)),(x112_1),(x113_1),(by first|rfl|(simp;done)|(simp only [← hji21] <;> (first|rfl|simp))|(simp [*];done)),(by first|rfl|(simp;done)|(simp [*];done)),H',⟨by have:=HK1.out;omega⟩,⟨by exact Kq_ BK172⟩,⟨by exact Kq_ BK173⟩,⟨K2a_ HB GW172 GW173⟩⟩
   rw [if_neg c22] at H
   have c22b0:decide (128≤(bt a0_0 x14_1))=false:=decide_eq_false c22
   clear c22
   obtain ⟨ji25,hji25⟩:∃ j_:Int,(wrap64 (x14_1+1))=j_:=⟨_,rfl⟩
   replace H:(if 0≤(ji25) then (if (ji25)≤(a0_0.size:Int) then ((pack_Vary.f k1 (Go.bits .or .u64 x4_1 (ji21))).bind fun t178=>(if (a0_0.extract 0 ((ji25):Int).toNat).toList=t178.toList then (some (Go.bits .or .u64 x4_1 (ji21),a0_0.extract ((ji25):Int).toNat a0_0.size,false)) else ((pack_bad.f).bind fun bt179=>(some (0,bt179.1,bt179.2))))) else (none)) else (none))=some (r1,r2,r3):=by first|(rw [hji25] at H;exact H)|(simp only [hji25] at H ⊢;exact H)
   have hji25w:(IntKind.i64.wrap (x14_1+1))=ji25:=(i64_w _).trans hji25
   by_cases c26:0≤(ji25)
   rotate_left
   ·rw [if_neg c26] at H
    exact absurd H (by simp)
   rw [if_pos c26] at H
   have c26b0:=eq_true c26
   have c26b1:decide (0≤(ji25))=true:=decide_eq_true c26
   clear c26
   by_cases c27:(ji25)≤(a0_0.size:Int)
   rotate_left
   ·rw [if_neg c27] at H
    exact absurd H (by simp)
   rw [if_pos c27] at H
   have c27b0:=eq_true c27
   have c27b1:decide ((ji25)≤(a0_0.size:Int))=true:=decide_eq_true c27
   clear c27
   obtain ⟨t178,A28,H⟩:=Kbind_ H
   (try dsimp only at H)
   by_cases c29:(a0_0.extract 0 ((ji25):Int).toNat).toList=t178.toList
   rotate_left
   ·rw [if_neg c29] at H
    have c29b0:=beq_eq_false_iff_ne.mpr c29
    have c29b1:((a0_0.extract 0 ((ji25):Int).toNat).toList != t178.toList)=true:=bne_iff_ne.mpr c29
    obtain ⟨⟨t179,t180⟩,A39,H⟩:=Kbind_ H
    (try dsimp only at H)
    simp only [Option.some.injEq,Prod.mk.injEq] at H
    obtain ⟨rfl,rfl,rfl⟩:=H
    have hnb40:=NB172_173.out
    have hnc40:=NB173_172.out
    obtain ⟨_,_,_,_⟩:=Ke2_ BK172.out
    have p18:0≤(x14_1:Int):=of_decide_eq_true (by first|(with_reducible assumption)|assumption)
    have q18:x14_1<(a0_0.size:Int):=of_decide_eq_true (by first|(with_reducible assumption)|assumption)
    have hx18:=bt_at a0_0 x14_1
    replace p18:=eq_true p18
    replace q18:=eq_true q18
    try go_wp2
    replace BK172:=Kd_ BK172
    replace BK173:=Kd_ BK173
    replace HB:=As_ (below_drew1 HB.out)
    refine start_ (n:=8) (S:=fun w'=>w'.cell? ⟨gb172,0,none⟩=some (.string a0_0)∧w'.cell? ⟨gb172,1,none⟩=some (.bool false)) (ds:=[]) (mB_ 8 0) (by kernel_rfl) rfl rfl (Kc2_ BK172.out) (fun hHeld=>?_);refine with_tabW pack_Reader_Vary.tab10 pack_Reader_Vary.bits10 (fun HT_ HW_=>?_)
    generalize wr.drew=w42 at BK172 BK173 HB hHeld ⊢
    refine Kp_ 0 31 (mB_ 8 1) (any_of HT_.out (by kernel_rfl)) ?_
    refine Kp_ 2 33 (mB_ 8 5) (any_of HT_.out (by kernel_rfl)) ?_
    refine Kp_ 3 34 (mB_ 8 13) (any_of HT_.out (by kernel_rfl)) ?_
    refine Kp_ 5 36 (mB_ 8 45) (any_of HT_.out (by kernel_rfl)) ?_
    refine Ko_ 1 32 (mB_ 8 47) (take_ofW HT_.out HW_.out (by kernel_rfl)) hHeld ?_
    refine Kp_ 4 35 (mB_ 8 63) (any_of HT_.out (by kernel_rfl)) ?_
    refine one_ (i:=6) (N:=some 37) (mB_ 8 127) rfl rfl (one_of HT_.out (by kernel_rfl)) (by decide) (fun K hK=>?_)
    refine goes_ Try.func60 (by kernel_rfl) rfl #[.int .u64 (Go.bits .or .u64 x4_1 (ji21))] (by rfl) rfl rfl (by (try simp only [List.map_toArray,List.map_cons,List.map_nil]);first|done|(simp only [hji21];rfl)|rfl|(simp only [List.length_drop,List.length_take];rfl)) ?_
    with_reducible refine (pack_Vary.calls k1 (Go.bits .or .u64 x4_1 (ji21)) t178 _ A28.out).mono ?_
    rintro e w43 ⟨rfl,hb⟩
    refine ⟨_,rfl,?_⟩
    replace BK172:=Kb_ BK172 hb
    replace BK173:=Kb_ BK173 hb
    replace HB:=Ks_ HB hb
    (try clear hb)
    (try clear hb2)
    (try clear hk)
    (try clear hi)
    refine hK.out _ _ (Kc2_ BK172.out) (fun hHeld=>?_)
    clear hK K
    refine Kn_ 37 ?_
    refine Kp_ 7 38 (mB_ 8 255) (any_of HT_.out (by kernel_rfl)) ?_
    refine done_ (done_of HT_.out (by kernel_rfl)) ?_
    try go_wp2_with (first|((with_reducible refine gate_callee (f:=98) rfl ?_);refine Kg_ (some 47) rfl rfl Try.func98 (by kernel_rfl) rfl #[] rfl ?_;(with_reducible refine (pack_bad.calls  t179 t180 _ A39.out).mono ?_);rintro e w44 ⟨rfl,hb⟩;refine ⟨_,rfl,?_⟩;replace BK172:=Kb_ BK172 hb;replace BK173:=Kb_ BK173 hb;replace HB:=Ks_ HB hb;(try clear hb);obtain ⟨_,_,_,_⟩:=Ke2_ BK173.out))
    refine bodyPost_ret (results_tc rfl _ _ gb173 134 #[.string t179,.bool t180] (0,0) _ rfl (by refine Kv_ ?_;exact Kput2_ (Kq_ BK173)) Try.underlying134 rfl (by kernel_rfl)) rfl ?_
    exact ⟨by first|rfl|(simp [errW_none,errW_some] <;> rfl)|(simp only [← hji10,← hji19,← hji21,← hji25];first|rfl|(simp [errW_none,errW_some] <;> rfl))|(simp [*,errW_none,errW_some] <;> rfl),K2a_ HB GW172 GW173⟩
   rw [if_pos c29] at H
   have c29b0:((a0_0.extract 0 ((ji25):Int).toNat).toList == t178.toList)=true:=beq_iff_eq.mpr c29
   have c29b1:((a0_0.extract 0 ((ji25):Int).toNat).toList != t178.toList)=false:=bne_eq_false_iff_eq.mpr c29
   clear c29
   have c30b0:=eq_true (of_decide_eq_true (by first|(with_reducible assumption)|assumption):0≤(ji25))
   have c31b0:=eq_true (of_decide_eq_true (by first|(with_reducible assumption)|assumption):(ji25)≤(a0_0.size:Int))
   simp only [Option.some.injEq,Prod.mk.injEq] at H
   obtain ⟨rfl,rfl,rfl⟩:=H
   have hnb32:=NB172_173.out
   have hnc32:=NB173_172.out
   obtain ⟨_,_,_,_⟩:=Ke2_ BK172.out
   have p18:0≤(x14_1:Int):=of_decide_eq_true (by first|(with_reducible assumption)|assumption)
   have q18:x14_1<(a0_0.size:Int):=of_decide_eq_true (by first|(with_reducible assumption)|assumption)
   have hx18:=bt_at a0_0 x14_1
   replace p18:=eq_true p18
   replace q18:=eq_true q18
   try go_wp2
   replace BK172:=Kd_ BK172
   replace BK173:=Kd_ BK173
   replace HB:=As_ (below_drew1 HB.out)
   refine start_ (n:=8) (S:=fun w'=>w'.cell? ⟨gb172,0,none⟩=some (.string a0_0)∧w'.cell? ⟨gb172,1,none⟩=some (.bool false)) (ds:=[]) (mB_ 8 0) (by kernel_rfl) rfl rfl (Kc2_ BK172.out) (fun hHeld=>?_);refine with_tabW pack_Reader_Vary.tab10 pack_Reader_Vary.bits10 (fun HT_ HW_=>?_)
   generalize wr.drew=w34 at BK172 BK173 HB hHeld ⊢
   refine Kp_ 0 31 (mB_ 8 1) (any_of HT_.out (by kernel_rfl)) ?_
   refine Kp_ 2 33 (mB_ 8 5) (any_of HT_.out (by kernel_rfl)) ?_
   refine Kp_ 3 34 (mB_ 8 13) (any_of HT_.out (by kernel_rfl)) ?_
   refine Kp_ 5 36 (mB_ 8 45) (any_of HT_.out (by kernel_rfl)) ?_
   refine Ko_ 1 32 (mB_ 8 47) (take_ofW HT_.out HW_.out (by kernel_rfl)) hHeld ?_
   refine Kp_ 4 35 (mB_ 8 63) (any_of HT_.out (by kernel_rfl)) ?_
   refine one_ (i:=6) (N:=some 37) (mB_ 8 127) rfl rfl (one_of HT_.out (by kernel_rfl)) (by decide) (fun K hK=>?_)
   refine goes_ Try.func60 (by kernel_rfl) rfl #[.int .u64 (Go.bits .or .u64 x4_1 (ji21))] (by rfl) rfl rfl (by (try simp only [List.map_toArray,List.map_cons,List.map_nil]);first|done|(simp only [hji21];rfl)|rfl|(simp only [List.length_drop,List.length_take];rfl)) ?_
   with_reducible refine (pack_Vary.calls k1 (Go.bits .or .u64 x4_1 (ji21)) t178 _ A28.out).mono ?_
   rintro e w35 ⟨rfl,hb⟩
   refine ⟨_,rfl,?_⟩
   replace BK172:=Kb_ BK172 hb
   replace BK173:=Kb_ BK173 hb
   replace HB:=Ks_ HB hb
   (try clear hb)
   (try clear hb2)
   (try clear hk)
   (try clear hi)
   refine hK.out _ _ (Kc2_ BK172.out) (fun hHeld=>?_)
   clear hK K
   refine Kn_ 37 ?_
   refine Kp_ 7 38 (mB_ 8 255) (any_of HT_.out (by kernel_rfl)) ?_
   refine done_ (done_of HT_.out (by kernel_rfl)) ?_
   try go_wp2
   replace BK172:=Kd_ BK172
   replace BK173:=Kd_ BK173
   replace HB:=As_ (below_drew1 HB.out)
   refine start_ (n:=9) (S:=fun w'=>w'.cell? ⟨gb172,0,none⟩=some (.string a0_0)∧w'.cell? ⟨gb172,1,none⟩=some (.bool false)) (ds:=[]) (mB_ 9 0) (by kernel_rfl) rfl rfl (Kc2_ BK172.out) (fun hHeld=>?_);refine with_tabW pack_Reader_Vary.tab11 pack_Reader_Vary.bits11 (fun HT_ HW_=>?_)
   generalize w35.drew=w36 at BK172 BK173 HB hHeld ⊢
   refine Kp_ 0 39 (mB_ 9 1) (any_of HT_.out (by kernel_rfl)) ?_
   refine Kp_ 1 40 (mB_ 9 3) (any_of HT_.out (by kernel_rfl)) ?_
   refine Kp_ 3 42 (mB_ 9 11) (any_of HT_.out (by kernel_rfl)) ?_
   refine Kp_ 4 43 (mB_ 9 27) (any_of HT_.out (by kernel_rfl)) ?_
   refine Kp_ 7 2 (mB_ 9 155) (any_of HT_.out (by kernel_rfl)) ?_
   refine Ko_ 2 41 (mB_ 9 159) (take_ofW HT_.out HW_.out (by kernel_rfl)) hHeld ?_
   refine Kp_ 5 44 (mB_ 9 191) (any_of HT_.out (by kernel_rfl)) ?_
   refine Kp_ 6 45 (mB_ 9 255) (any_of HT_.out (by kernel_rfl)) ?_
   refine one_ (i:=8) (N:=none) (mB_ 9 511) rfl rfl (one_of HT_.out (by kernel_rfl)) (by decide) (fun K hK=>?_)
   have hs37:w36.cell? ⟨gb173,0,none⟩=some (.string x112_1):=(blk_cell BK173.out 0).trans rfl
   have hfs37:=blk_frozen BK173.out 0
   have:=NB172_173.out
   have:=NB173_172.out
   have hs38:w36.cell? ⟨gb173,1,none⟩=some (.bool x113_1):=(blk_cell BK173.out 1).trans rfl
   have hfs38:=blk_frozen BK173.out 1
   have:=NB172_173.out
   have:=NB173_172.out
   refine skip_ (w1:=?_) (by rfl) rfl ?_ ?_
   rotate_left
   ·go_simp
    rfl
   refine hK.out _ _ ⟨(Kj_ NB172_173 ((Kj_ NB172_173 (hHeld.1)))),(Kj_ NB172_173 ((Kj_ NB172_173 (hHeld.2))))⟩ (fun hHeld=>?_)
   clear hK K
   refine done_ (done_of HT_.out (by kernel_rfl)) ?_
   try go_wp2
   refine bodyPost_ret (results_tc rfl _ _ gb173 134 #[.string (a0_0.extract ((ji25):Int).toNat a0_0.size),.bool false] (0,0) _ rfl (by refine Kv_ ?_;exact Kput2_ (Kq_ BK173)) Try.underlying134 rfl (by kernel_rfl)) rfl ?_
   exact ⟨by first|rfl|(simp [errW_none,errW_some] <;> rfl)|(simp only [← hji10,← hji19,← hji21,← hji25];first|rfl|(simp [errW_none,errW_some] <;> rfl))|(simp [*,errW_none,errW_some] <;> rfl),K2a_ HB GW172 GW173⟩
def pack_Reader_Text.f (k:Nat) (a0_0:ByteArray) (a0_1:Bool) (a1:Int):Option (ByteArray × ByteArray × Bool):=(pack_Reader_Vary.f k a0_0 a0_1).bind fun bt183=>(if bt183.2.2=true then ((pack_bad.f).bind fun bt186=>(some ((⟨#[]⟩:ByteArray),bt186.1,bt186.2))) else (if a1<0 then ((pack_bad.f).bind fun bt188=>(some ((⟨#[]⟩:ByteArray),bt188.1,bt188.2))) else (if bt183.1 > (IntKind.u64.wrap (mn a1 (bt183.2.1.size:Int))) then ((pack_bad.f).bind fun bt190=>(some ((⟨#[]⟩:ByteArray),bt190.1,bt190.2))) else (if 0≤bt183.1 then (if bt183.1≤(bt183.2.1.size:Int) then (some (bt183.2.1.extract 0 (bt183.1:Int).toNat,bt183.2.1.extract (bt183.1:Int).toNat bt183.2.1.size,false)) else (none)) else (none)))))
def pack_Reader_Text.T4:Bool × List (List Nat × List Nat):=(true,[([],[]),([0],[0]),([],[]),([1,2],[1,2]),([],[]),([4],[4]),([],[]),([5,6],[5,6]),([7],[7]),([3,0,1,2,3],[3]),([8,9,0,1,2,3,4,5,6,7,8,9],[8])])
def pack_Reader_Text.B4:List Nat:=[0,1,0,7,0,16,0,112,240,15,1023]
theorem pack_Reader_Text.tab4:rtab .any (opsOf Try.f77 4)=pack_Reader_Text.T4:=by kernel_rfl
theorem pack_Reader_Text.bits4:waitsOk pack_Reader_Text.T4.2 pack_Reader_Text.B4=true:=by kernel_rfl
set_option maxHeartbeats 8000000 in
set_option maxRecDepth 100000 in
theorem pack_Reader_Text.calls (k:Nat) (a0_0:ByteArray) (a0_1:Bool) (a1:Int) (r1:ByteArray) (r2:ByteArray) (r3:Bool) (w:World) (h:pack_Reader_Text.f k a0_0 a0_1 a1=some (r1,r2,r3)) :
  Calls Try.prog 77 #[.agg #[.string a0_0,.bool a0_1],.int .i64 a1] w fun e w'=>e = .returned (.tuple #[.string r1,.agg #[.string r2,.bool r3]])∧Below w.heap.size w w':=by
 have hu134:=Try.underlying134
 have HB:=As_ (Below.refl w.heap.size w)
 unfold pack_Reader_Text.f at h
 have H:=h
 clear h
 obtain ⟨⟨t183,t184,t185⟩,A3,H⟩:=Kbind_ H
 (try dsimp only at H)
 by_cases c4:t185=true
 ·subst c4
  rw [if_pos rfl] at H
  obtain ⟨⟨t186,t187⟩,A5,H⟩:=Kbind_ H
  (try dsimp only at H)
  simp only [Option.some.injEq,Prod.mk.injEq] at H
  obtain ⟨rfl,rfl,rfl⟩:=H
  go_enter Try.func77,Try.ntmps77
  go_wp2_with (first|((with_reducible refine gate_dst (N:=2) rfl ?_);refine Ka_ 2 #[.string a0_0,.bool a0_1] 134 ?_;intro gb181 hg w6 hbox hb;have BK181:=As_ (hbox);have GW181:=Kw_ HB hg;replace HB:=Ks_ HB hb;clear hb hbox hg)|((with_reducible refine gate_dst (N:=5) rfl ?_);refine Ka_ 5 #[.string (⟨#[]⟩:ByteArray),.bool false] 134 ?_;intro gb182 hg w7 hbox hb;have BK182:=As_ (hbox);have GW182:=Kw_ HB hg;have NB181_182:=Kl_ BK181 hg;have NB182_181:=Kr_ BK181 hg;replace BK181:=Kb_ BK181 hb;replace HB:=Ks_ HB hb;clear hb hbox hg;have hnb8:=NB181_182.out;have hnc8:=NB182_181.out;obtain ⟨_,_,_,_⟩:=Ke2_ BK181.out)|((with_reducible refine gate_callee (f:=76) rfl ?_);refine Kg_ (some 9) rfl rfl Try.func76 (by kernel_rfl) rfl #[.agg #[.string a0_0,.bool a0_1]] rfl ?_;(with_reducible refine (pack_Reader_Vary.calls k a0_0 a0_1 t183 t184 true _ A3.out).mono ?_);rintro e w10 ⟨rfl,hb⟩;refine ⟨_,rfl,?_⟩;replace BK181:=Kb_ BK181 hb;replace BK182:=Kb_ BK182 hb;replace HB:=Ks_ HB hb;(try clear hb);obtain ⟨_,_,_,_⟩:=Ke2_ BK181.out)|((with_reducible refine gate_callee (f:=98) rfl ?_);refine Kg_ (some 28) rfl rfl Try.func98 (by kernel_rfl) rfl #[] rfl ?_;(with_reducible refine (pack_bad.calls  t186 t187 _ A5.out).mono ?_);rintro e w12 ⟨rfl,hb⟩;refine ⟨_,rfl,?_⟩;replace BK182:=Kf_ BK182 NB182_181 hb;replace HB:=Kt_ HB GW181 hb;(try clear hb);obtain ⟨_,_,_,_⟩:=Ke2_ BK182.out))
  refine bodyPost_ret (results_tc rfl _ _ gb182 134 #[.string t186,.bool t187] (0,0) _ rfl (by refine Kv_ ?_;exact Kput2_ (Kq_ BK182)) Try.underlying134 rfl (by kernel_rfl)) rfl ?_
  exact ⟨Kh_,K2a_ HB GW181 GW182⟩
 replace c4:=Bool.eq_false_iff.mpr c4
 subst c4
 rw [if_neg Bool.false_ne_true] at H
 by_cases c14:a1<0
 ·rw [if_pos c14] at H
  have c14b0:decide (a1<0)=true:=decide_eq_true c14
  clear c14
  obtain ⟨⟨t188,t189⟩,A15,H⟩:=Kbind_ H
  (try dsimp only at H)
  simp only [Option.some.injEq,Prod.mk.injEq] at H
  obtain ⟨rfl,rfl,rfl⟩:=H
  go_enter Try.func77,Try.ntmps77
  go_wp2_with (first|((with_reducible refine gate_dst (N:=2) rfl ?_);refine Ka_ 2 #[.string a0_0,.bool a0_1] 134 ?_;intro gb181 hg w16 hbox hb;have BK181:=As_ (hbox);have GW181:=Kw_ HB hg;replace HB:=Ks_ HB hb;clear hb hbox hg)|((with_reducible refine gate_dst (N:=5) rfl ?_);refine Ka_ 5 #[.string (⟨#[]⟩:ByteArray),.bool false] 134 ?_;intro gb182 hg w17 hbox hb;have BK182:=As_ (hbox);have GW182:=Kw_ HB hg;have NB181_182:=Kl_ BK181 hg;have NB182_181:=Kr_ BK181 hg;replace BK181:=Kb_ BK181 hb;replace HB:=Ks_ HB hb;clear hb hbox hg;have hnb18:=NB181_182.out;have hnc18:=NB182_181.out;obtain ⟨_,_,_,_⟩:=Ke2_ BK181.out)|((with_reducible refine gate_callee (f:=76) rfl ?_);refine Kg_ (some 9) rfl rfl Try.func76 (by kernel_rfl) rfl #[.agg #[.string a0_0,.bool a0_1]] rfl ?_;(with_reducible refine (pack_Reader_Vary.calls k a0_0 a0_1 t183 t184 false _ A3.out).mono ?_);rintro e w20 ⟨rfl,hb⟩;refine ⟨_,rfl,?_⟩;replace BK181:=Kb_ BK181 hb;replace BK182:=Kb_ BK182 hb;replace HB:=Ks_ HB hb;(try clear hb);obtain ⟨_,_,_,_⟩:=Ke2_ BK181.out)|((with_reducible refine gate_callee (f:=98) rfl ?_);refine Kg_ (some 28) rfl rfl Try.func98 (by kernel_rfl) rfl #[] rfl ?_;(with_reducible refine (pack_bad.calls  t188 t189 _ A15.out).mono ?_);rintro e w22 ⟨rfl,hb⟩;refine ⟨_,rfl,?_⟩;replace BK182:=Kf_ BK182 NB182_181 hb;replace HB:=Kt_ HB GW181 hb;(try clear hb);obtain ⟨_,_,_,_⟩:=Ke2_ BK182.out))
  refine bodyPost_ret (results_tc rfl _ _ gb182 134 #[.string t188,.bool t189] (0,0) _ rfl (by refine Kv_ ?_;exact Kput2_ (Kq_ BK182)) Try.underlying134 rfl (by kernel_rfl)) rfl ?_
  exact ⟨Kh_,K2a_ HB GW181 GW182⟩
 rw [if_neg c14] at H
 have c14b0:decide (a1<0)=false:=decide_eq_false c14
 clear c14
 obtain ⟨ji24,hji24⟩:∃ j_:Int,(mn a1 (t184.size:Int))=j_:=⟨_,rfl⟩
 replace H:(if t183 > (IntKind.u64.wrap (ji24)) then ((pack_bad.f).bind fun bt190=>(some ((⟨#[]⟩:ByteArray),bt190.1,bt190.2))) else (if 0≤t183 then (if t183≤(t184.size:Int) then (some (t184.extract 0 (t183:Int).toNat,t184.extract (t183:Int).toNat t184.size,false)) else (none)) else (none)))=some (r1,r2,r3):=by first|(rw [hji24] at H;exact H)|(simp only [hji24] at H ⊢;exact H)
 (try rw [hji24] at A3)
 have hji24_:(if (t184.size:Int)<a1 then (t184.size:Int) else a1)=ji24:=hji24
 by_cases c25:t183 > (IntKind.u64.wrap (ji24))
 ·rw [if_pos c25] at H
  have c25b0:decide ((IntKind.u64.wrap (ji24))<t183)=true:=decide_eq_true c25
  clear c25
  obtain ⟨⟨t190,t191⟩,A26,H⟩:=Kbind_ H
  (try dsimp only at H)
  simp only [Option.some.injEq,Prod.mk.injEq] at H
  obtain ⟨rfl,rfl,rfl⟩:=H
  go_enter Try.func77,Try.ntmps77
  go_wp2_with (first|((with_reducible refine gate_dst (N:=2) rfl ?_);refine Ka_ 2 #[.string a0_0,.bool a0_1] 134 ?_;intro gb181 hg w27 hbox hb;have BK181:=As_ (hbox);have GW181:=Kw_ HB hg;replace HB:=Ks_ HB hb;clear hb hbox hg)|((with_reducible refine gate_dst (N:=5) rfl ?_);refine Ka_ 5 #[.string (⟨#[]⟩:ByteArray),.bool false] 134 ?_;intro gb182 hg w28 hbox hb;have BK182:=As_ (hbox);have GW182:=Kw_ HB hg;have NB181_182:=Kl_ BK181 hg;have NB182_181:=Kr_ BK181 hg;replace BK181:=Kb_ BK181 hb;replace HB:=Ks_ HB hb;clear hb hbox hg;have hnb29:=NB181_182.out;have hnc29:=NB182_181.out;obtain ⟨_,_,_,_⟩:=Ke2_ BK181.out)|((with_reducible refine gate_callee (f:=76) rfl ?_);refine Kg_ (some 9) rfl rfl Try.func76 (by kernel_rfl) rfl #[.agg #[.string a0_0,.bool a0_1]] rfl ?_;(with_reducible refine (pack_Reader_Vary.calls k a0_0 a0_1 t183 t184 false _ A3.out).mono ?_);rintro e w31 ⟨rfl,hb⟩;refine ⟨_,rfl,?_⟩;replace BK181:=Kb_ BK181 hb;replace BK182:=Kb_ BK182 hb;replace HB:=Ks_ HB hb;(try clear hb);obtain ⟨_,_,_,_⟩:=Ke2_ BK181.out)|((with_reducible refine gate_callee (f:=98) rfl ?_);refine Kg_ (some 28) rfl rfl Try.func98 (by kernel_rfl) rfl #[] rfl ?_;(with_reducible refine (pack_bad.calls  t190 t191 _ A26.out).mono ?_);rintro e w33 ⟨rfl,hb⟩;refine ⟨_,rfl,?_⟩;replace BK182:=Kf_ BK182 NB182_181 hb;replace HB:=Kt_ HB GW181 hb;(try clear hb);obtain ⟨_,_,_,_⟩:=Ke2_ BK182.out))
  refine bodyPost_ret (results_tc rfl _ _ gb182 134 #[.string t190,.bool t191] (0,0) _ rfl (by refine Kv_ ?_;exact Kput2_ (Kq_ BK182)) Try.underlying134 rfl (by kernel_rfl)) rfl ?_
  exact ⟨by first|rfl|(simp [errW_none,errW_some] <;> rfl)|(simp only [← hji24];first|rfl|(simp [errW_none,errW_some] <;> rfl))|(simp [*,errW_none,errW_some] <;> rfl),K2a_ HB GW181 GW182⟩
 rw [if_neg c25] at H
 have c25b0:decide ((IntKind.u64.wrap (ji24))<t183)=false:=decide_eq_false c25
 clear c25
 by_cases c35:0≤t183
 rotate_left
 ·rw [if_neg c35] at H
  exact absurd H (by simp)
 rw [if_pos c35] at H
 have c35b0:=eq_true c35
 have c35b1:decide (0≤t183)=true:=decide_eq_true c35
 clear c35
 by_cases c36:t183≤(t184.size:Int)
 rotate_left
 ·rw [if_neg c36] at H
  exact absurd H (by simp)
 rw [if_pos c36] at H
 have c36b0:=eq_true c36
 have c36b1:decide (t183≤(t184.size:Int))=true:=decide_eq_true c36
 clear c36
 have c37b0:=eq_true (of_decide_eq_true (by first|(with_reducible assumption)|assumption):0≤t183)
 have c38b0:=eq_true (of_decide_eq_true (by first|(with_reducible assumption)|assumption):t183≤(t184.size:Int))
 simp only [Option.some.injEq,Prod.mk.injEq] at H
 obtain ⟨rfl,rfl,rfl⟩:=H
 go_enter Try.func77,Try.ntmps77
 try go_wp2_with (first|((with_reducible refine gate_dst (N:=2) rfl ?_);refine Ka_ 2 #[.string a0_0,.bool a0_1] 134 ?_;intro gb181 hg w39 hbox hb;have BK181:=As_ (hbox);have GW181:=Kw_ HB hg;replace HB:=Ks_ HB hb;clear hb hbox hg)|((with_reducible refine gate_dst (N:=5) rfl ?_);refine Ka_ 5 #[.string (⟨#[]⟩:ByteArray),.bool false] 134 ?_;intro gb182 hg w40 hbox hb;have BK182:=As_ (hbox);have GW182:=Kw_ HB hg;have NB181_182:=Kl_ BK181 hg;have NB182_181:=Kr_ BK181 hg;replace BK181:=Kb_ BK181 hb;replace HB:=Ks_ HB hb;clear hb hbox hg;have hnb41:=NB181_182.out;have hnc41:=NB182_181.out;obtain ⟨_,_,_,_⟩:=Ke2_ BK181.out)|((with_reducible refine gate_callee (f:=76) rfl ?_);refine Kg_ (some 9) rfl rfl Try.func76 (by kernel_rfl) rfl #[.agg #[.string a0_0,.bool a0_1]] rfl ?_;(with_reducible refine (pack_Reader_Vary.calls k a0_0 a0_1 t183 t184 false _ A3.out).mono ?_);rintro e w43 ⟨rfl,hb⟩;refine ⟨_,rfl,?_⟩;replace BK181:=Kb_ BK181 hb;replace BK182:=Kb_ BK182 hb;replace HB:=Ks_ HB hb;(try clear hb);obtain ⟨_,_,_,_⟩:=Ke2_ BK181.out))
 have n0_:Aside0 (((w43.setCell ⟨gb181,0,none⟩ (.string t184)).setCell ⟨gb181,1,none⟩ (.bool false)).heap[gb181]?=some (.cells #[.string t184,.bool false] 134 (0,0))):=⟨by refine Kv_ ?_;exact Kput2_ (Kq_ BK181)⟩
 have n1_:Aside0 (((w43.setCell ⟨gb181,0,none⟩ (.string t184)).setCell ⟨gb181,1,none⟩ (.bool false)).heap[gb182]?=some (.cells #[.string (⟨#[]⟩:ByteArray),.bool false] 134 (0,0))):=⟨by exact K1b_ BK182 NB182_181⟩
 have n2_:Aside0 (Below w.heap.size w ((w43.setCell ⟨gb181,0,none⟩ (.string t184)).setCell ⟨gb181,1,none⟩ (.bool false))):=⟨K2a_ HB GW181 GW182⟩
 (try clear BK181)
 (try clear BK182)
 (try clear HB)
 generalize ((w43.setCell ⟨gb181,0,none⟩ (.string t184)).setCell ⟨gb181,1,none⟩ (.bool false))=w45 at n0_ n1_ n2_ ⊢
 have BK181:=n0_
 have BK182:=n1_
 have HB:=n2_
 clear n0_ n1_ n2_
 replace BK181:=Kd_ BK181
 replace BK182:=Kd_ BK182
 replace HB:=As_ (below_drew1 HB.out)
 refine start_ (n:=11) (S:=fun w'=>w'.cell? ⟨gb181,0,none⟩=some (.string t184)∧w'.cell? ⟨gb181,1,none⟩=some (.bool false)) (ds:=[]) (mB_ 11 0) (by kernel_rfl) rfl rfl (Kc2_ BK181.out) (fun hHeld=>?_);refine with_tabW pack_Reader_Text.tab4 pack_Reader_Text.bits4 (fun HT_ HW_=>?_)
 generalize w45.drew=w46 at BK181 BK182 HB hHeld ⊢
 refine Kp_ 0 29 (mB_ 11 1) (any_of HT_.out (by kernel_rfl)) ?_
 refine Kp_ 2 31 (mB_ 11 5) (any_of HT_.out (by kernel_rfl)) ?_
 refine Kp_ 4 33 (mB_ 11 21) (any_of HT_.out (by kernel_rfl)) ?_
 refine Kp_ 6 35 (mB_ 11 85) (any_of HT_.out (by kernel_rfl)) ?_
 refine Ko_ 1 30 (mB_ 11 87) (take_ofW HT_.out HW_.out (by kernel_rfl)) hHeld ?_
 refine Kp_ 3 32 (mB_ 11 95) (any_of HT_.out (by kernel_rfl)) ?_
 refine Kp_ 9 4 (mB_ 11 607) (any_of HT_.out (by kernel_rfl)) ?_
 refine Ko_ 5 34 (mB_ 11 639) (take_ofW HT_.out HW_.out (by kernel_rfl)) hHeld ?_
 refine Kp_ 7 36 (mB_ 11 767) (any_of HT_.out (by kernel_rfl)) ?_
 refine Kp_ 8 37 (mB_ 11 1023) (any_of HT_.out (by kernel_rfl)) ?_
 refine one_ (i:=10) (N:=none) (mB_ 11 2047) rfl rfl (one_of HT_.out (by kernel_rfl)) (by decide) (fun K hK=>?_)
 have hs47:w46.cell? ⟨gb182,0,none⟩=some (.string (⟨#[]⟩:ByteArray)):=(blk_cell BK182.out 0).trans rfl
 have hfs47:=blk_frozen BK182.out 0
 have:=NB181_182.out
 have:=NB182_181.out
 have hs48:w46.cell? ⟨gb182,1,none⟩=some (.bool false):=(blk_cell BK182.out 1).trans rfl
 have hfs48:=blk_frozen BK182.out 1
 have:=NB181_182.out
 have:=NB182_181.out
 refine skip_ (w1:=?_) (by rfl) rfl ?_ ?_
 rotate_left
 ·go_simp
  rfl
 refine hK.out _ _ ⟨(Kj_ NB181_182 ((Kj_ NB181_182 (hHeld.1)))),(Kj_ NB181_182 ((Kj_ NB181_182 (hHeld.2))))⟩ (fun hHeld=>?_)
 clear hK K
 refine done_ (done_of HT_.out (by kernel_rfl)) ?_
 try go_wp2
 refine bodyPost_ret (results_tc rfl _ _ gb182 134 #[.string (t184.extract (t183:Int).toNat t184.size),.bool false] (0,0) _ rfl (by refine Kv_ ?_;exact Kput2_ (Kq_ BK182)) Try.underlying134 rfl (by kernel_rfl)) rfl ?_
 exact ⟨by first|rfl|(simp [errW_none,errW_some] <;> rfl)|(simp only [← hji24];first|rfl|(simp [errW_none,errW_some] <;> rfl))|(simp [*,errW_none,errW_some] <;> rfl),K2a_ HB GW181 GW182⟩
def vec_Get.f (k:Nat) (a0_0:ByteArray) (a0_1:Bool):Option (Int × Int × Int × Int × ByteArray × Bool) :=
 (pack_Reader_Vary.f k a0_0 a0_1).bind fun r0=>(pack_Reader_Vary.f k r0.2.1 r0.2.2).bind fun r1=>(pack_Reader_Vary.f k r1.2.1 r1.2.2).bind fun r2=>(pack_Reader_Vary.f k r2.2.1 r2.2.2).bind fun r3 =>
  if r3.2.2=true then some (0,0,0,0,(⟨#[]⟩:ByteArray),true) else (vec_Right.f r0.1 r1.1 r2.1 r3.1).bind fun t=>if t=true then some (r0.1,r1.1,r2.1,r3.1,r3.2.1,false) else some (0,0,0,0,(⟨#[]⟩:ByteArray),true)
theorem vec_Get.boxes3 (w:World) (xs ys zs:Array Value) (t1 t2 t3:TypeId) (W:World) (h:((w.alloc (.cells xs t1)).alloc (.cells ys t2)).alloc (.cells zs t3)=W) :
  W.heap[w.heap.size]?=some (.cells xs t1 (0,0))∧W.heap[w.heap.size+1]?=some (.cells ys t2 (0,0))∧W.heap[w.heap.size+1+1]?=some (.cells zs t3 (0,0))∧Below w.heap.size w W:=by
 subst h
 have s1:(w.alloc (.cells xs t1)).heap.size=w.heap.size+1:=by simp [World.alloc,-World.alloc_eq]
 have s2:((w.alloc (.cells xs t1)).alloc (.cells ys t2)).heap.size=w.heap.size+1+1:=by simp [World.alloc,-World.alloc_eq]
 refine ⟨blk_alloc (blk_alloc (blk_new _ _) _) _,?_,?_,below_alloc (below_alloc (below_alloc (Below.refl _ _) _) _) _⟩
 ·rw [← s1];exact blk_alloc (blk_new _ _) _
 ·rw [← s2];exact blk_new _ _
set_option maxHeartbeats 8000000 in
set_option maxRecDepth 100000 in
theorem vec_Get.calls (k:Nat) (a0_0:ByteArray) (a0_1:Bool) (r1 r2 r3 r4:Int) (r5:ByteArray) (r6:Bool) (w:World) (h:vec_Get.f k a0_0 a0_1=some (r1,r2,r3,r4,r5,r6)) :
  Calls Try.prog 106 #[.agg #[.string a0_0,.bool a0_1]] w fun e w'=>e = .returned (.tuple #[.agg #[.int .u64 r1,.int .u64 r2,.int .u64 r3,.int .u64 r4],.agg #[.string r5,.bool r6]])∧Below w.heap.size w w':=by
 unfold vec_Get.f at h
 obtain ⟨⟨n0,s1,b1⟩,A0,h⟩:=Option.bind_eq_some_iff.1 h
 obtain ⟨⟨n1,s2,b2⟩,A1,h⟩:=Option.bind_eq_some_iff.1 h
 obtain ⟨⟨n2,s3,b3⟩,A2,h⟩:=Option.bind_eq_some_iff.1 h
 obtain ⟨⟨n3,s4,b4⟩,A3,h⟩:=Option.bind_eq_some_iff.1 h
 replace A0:=As_ A0
 replace A1:=As_ A1
 replace A2:=As_ A2
 replace A3:=As_ A3
 simp only at h
 have HH:=As_ h
 clear h
 have hu:=Try.underlying28
 have hu2:=Try.underlying26
 have hu3:=Try.underlying134
 go_enter Try.func106,Try.ntmps106
 go_wp2
 generalize hW:(((w.alloc (Obj.cells #[.string a0_0,.bool a0_1] 134)).alloc (Obj.cells _ 28)).alloc (Obj.cells _ 134))=W0
 obtain ⟨hA,hB,hC,HB⟩:=vec_Get.boxes3 _ _ _ _ _ _ _ _ hW
 replace HB:=As_ HB
 clear hW
 obtain ⟨B0,hB0⟩:∃ B0,B0=w.heap.size:=⟨_,rfl⟩
 obtain ⟨B1,hB1⟩:∃ B1,B1=w.heap.size+1:=⟨_,rfl⟩
 obtain ⟨B2,hB2⟩:∃ B2,B2=w.heap.size+1+1:=⟨_,rfl⟩
 rw [← hB2,← hB1,← hB0]
 rw [← hB0] at hA
 rw [← hB1] at hB
 rw [← hB2] at hC
 have g01:B0 ≠ B1:=by omega
 have g02:B0 ≠ B2:=by omega
 have g12:B1 ≠ B2:=by omega
 have GA:=As_ (show w.heap.size≤B0 by omega)
 have GB:=As_ (show w.heap.size≤B1 by omega)
 have GC:=As_ (show w.heap.size≤B2 by omega)
 clear hB0 hB1 hB2
 replace hA:=As_ hA
 replace hB:=As_ hB
 replace hC:=As_ hC
 refine wp_loop_rounds 5 ?_
 rw [rounds_succ]
 have ca0:=(blk_cell hA.out 0).trans rfl
 have ca1:=(blk_cell hA.out 1).trans rfl
 go_wp2_with (go_at_call 76;refine (pack_Reader_Vary.calls k a0_0 a0_1 n0 s1 b1 _ A0.out).mono ?_;rintro e w1 ⟨rfl,hb⟩;clear ca0 ca1;have hA1:=As_ (blk_below hA.out hb);have hB1:=As_ (blk_below hB.out hb);have hC1:=As_ (blk_below hC.out hb);have HB1:=As_ (below_step HB.out hb);clear hA hB hC HB;clear hb;have fa0:=blk_frozen hA1.out 0;have fa1:=blk_frozen hA1.out 1;have ca0:=(blk_cell hA1.out 0).trans rfl;have ca1:=(blk_cell hA1.out 1).trans rfl;have fb:=blk_frozen hB1.out 0;have cb:=(blk_cell hB1.out 0).trans rfl)
 clear ca0 ca1 cb fa0 fa1 fb
 have hA:=As_ (blk_put (blk_put (blk_far hA1.out (p:=⟨B1,0,none⟩) g01 (.int .u64 n0)) 0 (.string s1) rfl) 1 (.bool b1) (cs':=#[.string s1,.bool b1]) rfl)
 have hB:=As_ (blk_far (blk_far (blk_put hB1.out 0 (.int .u64 n0) (cs':=#[.int .u64 n0,.int .u64 0,.int .u64 0,.int .u64 0]) rfl) (p:=⟨B0,0,none⟩) (Ne.symm g01) (.string s1)) (p:=⟨B0,1,none⟩) (Ne.symm g01) (.bool b1))
 have hC:=As_ (blk_far (blk_far (blk_far hC1.out (p:=⟨B1,0,none⟩) (Ne.symm g12) (.int .u64 n0)) (p:=⟨B0,0,none⟩) (Ne.symm g02) (.string s1)) (p:=⟨B0,1,none⟩) (Ne.symm g02) (.bool b1))
 have HB:=As_ (below_set (j:=1) (v:=.bool b1) (below_set (j:=0) (v:=.string s1) (below_set (j:=0) (v:=.int .u64 n0) HB1.out GB.out) GA.out) GA.out)
 clear hA1 hB1 hC1 HB1
 generalize ((w1.setCell ⟨B1,0,none⟩ (.int .u64 n0)).setCell ⟨B0,0,none⟩ (.string s1)).setCell ⟨B0,1,none⟩ (.bool b1)=W1 at *
 clear w1 W0
 rw [rounds_succ]
 have ca0:=(blk_cell hA.out 0).trans rfl
 have ca1:=(blk_cell hA.out 1).trans rfl
 go_wp2_with (go_at_call 76;refine (pack_Reader_Vary.calls k s1 b1 n1 s2 b2 _ A1.out).mono ?_;rintro e w1 ⟨rfl,hb⟩;clear ca0 ca1;have hA1:=As_ (blk_below hA.out hb);have hB1:=As_ (blk_below hB.out hb);have hC1:=As_ (blk_below hC.out hb);have HB1:=As_ (below_step HB.out hb);clear hA hB hC HB;clear hb;have fa0:=blk_frozen hA1.out 0;have fa1:=blk_frozen hA1.out 1;have ca0:=(blk_cell hA1.out 0).trans rfl;have ca1:=(blk_cell hA1.out 1).trans rfl;have fb:=blk_frozen hB1.out 1;have cb:=(blk_cell hB1.out 1).trans rfl)
 clear ca0 ca1 cb fa0 fa1 fb
 have hA:=As_ (blk_put (blk_put (blk_far hA1.out (p:=⟨B1,1,none⟩) g01 (.int .u64 n1)) 0 (.string s2) rfl) 1 (.bool b2) (cs':=#[.string s2,.bool b2]) rfl)
 have hB:=As_ (blk_far (blk_far (blk_put hB1.out 1 (.int .u64 n1) (cs':=#[.int .u64 n0,.int .u64 n1,.int .u64 0,.int .u64 0]) rfl) (p:=⟨B0,0,none⟩) (Ne.symm g01) (.string s2)) (p:=⟨B0,1,none⟩) (Ne.symm g01) (.bool b2))
 have hC:=As_ (blk_far (blk_far (blk_far hC1.out (p:=⟨B1,1,none⟩) (Ne.symm g12) (.int .u64 n1)) (p:=⟨B0,0,none⟩) (Ne.symm g02) (.string s2)) (p:=⟨B0,1,none⟩) (Ne.symm g02) (.bool b2))
 have HB:=As_ (below_set (j:=1) (v:=.bool b2) (below_set (j:=0) (v:=.string s2) (below_set (j:=1) (v:=.int .u64 n1) HB1.out GB.out) GA.out) GA.out)
 clear hA1 hB1 hC1 HB1
 generalize ((w1.setCell ⟨B1,1,none⟩ (.int .u64 n1)).setCell ⟨B0,0,none⟩ (.string s2)).setCell ⟨B0,1,none⟩ (.bool b2)=W2 at *
 clear w1 W1
 rw [rounds_succ]
 have ca0:=(blk_cell hA.out 0).trans rfl
 have ca1:=(blk_cell hA.out 1).trans rfl
 go_wp2_with (go_at_call 76;refine (pack_Reader_Vary.calls k s2 b2 n2 s3 b3 _ A2.out).mono ?_;rintro e w1 ⟨rfl,hb⟩;clear ca0 ca1;have hA1:=As_ (blk_below hA.out hb);have hB1:=As_ (blk_below hB.out hb);have hC1:=As_ (blk_below hC.out hb);have HB1:=As_ (below_step HB.out hb);clear hA hB hC HB;clear hb;have fa0:=blk_frozen hA1.out 0;have fa1:=blk_frozen hA1.out 1;have ca0:=(blk_cell hA1.out 0).trans rfl;have ca1:=(blk_cell hA1.out 1).trans rfl;have fb:=blk_frozen hB1.out 2;have cb:=(blk_cell hB1.out 2).trans rfl)
 clear ca0 ca1 cb fa0 fa1 fb
 have hA:=As_ (blk_put (blk_put (blk_far hA1.out (p:=⟨B1,2,none⟩) g01 (.int .u64 n2)) 0 (.string s3) rfl) 1 (.bool b3) (cs':=#[.string s3,.bool b3]) rfl)
 have hB:=As_ (blk_far (blk_far (blk_put hB1.out 2 (.int .u64 n2) (cs':=#[.int .u64 n0,.int .u64 n1,.int .u64 n2,.int .u64 0]) rfl) (p:=⟨B0,0,none⟩) (Ne.symm g01) (.string s3)) (p:=⟨B0,1,none⟩) (Ne.symm g01) (.bool b3))
 have hC:=As_ (blk_far (blk_far (blk_far hC1.out (p:=⟨B1,2,none⟩) (Ne.symm g12) (.int .u64 n2)) (p:=⟨B0,0,none⟩) (Ne.symm g02) (.string s3)) (p:=⟨B0,1,none⟩) (Ne.symm g02) (.bool b3))
 have HB:=As_ (below_set (j:=1) (v:=.bool b3) (below_set (j:=0) (v:=.string s3) (below_set (j:=2) (v:=.int .u64 n2) HB1.out GB.out) GA.out) GA.out)
 clear hA1 hB1 hC1 HB1
 generalize ((w1.setCell ⟨B1,2,none⟩ (.int .u64 n2)).setCell ⟨B0,0,none⟩ (.string s3)).setCell ⟨B0,1,none⟩ (.bool b3)=W3 at *
 clear w1 W2
 rw [rounds_succ]
 have ca0:=(blk_cell hA.out 0).trans rfl
 have ca1:=(blk_cell hA.out 1).trans rfl
 go_wp2_with (go_at_call 76;refine (pack_Reader_Vary.calls k s3 b3 n3 s4 b4 _ A3.out).mono ?_;rintro e w1 ⟨rfl,hb⟩;clear ca0 ca1;have hA1:=As_ (blk_below hA.out hb);have hB1:=As_ (blk_below hB.out hb);have hC1:=As_ (blk_below hC.out hb);have HB1:=As_ (below_step HB.out hb);clear hA hB hC HB;clear hb;have fa0:=blk_frozen hA1.out 0;have fa1:=blk_frozen hA1.out 1;have ca0:=(blk_cell hA1.out 0).trans rfl;have ca1:=(blk_cell hA1.out 1).trans rfl;have fb:=blk_frozen hB1.out 3;have cb:=(blk_cell hB1.out 3).trans rfl)
 clear ca0 ca1 cb fa0 fa1 fb
 have hA:=As_ (blk_put (blk_put (blk_far hA1.out (p:=⟨B1,3,none⟩) g01 (.int .u64 n3)) 0 (.string s4) rfl) 1 (.bool b4) (cs':=#[.string s4,.bool b4]) rfl)
 have hB:=As_ (blk_far (blk_far (blk_put hB1.out 3 (.int .u64 n3) (cs':=#[.int .u64 n0,.int .u64 n1,.int .u64 n2,.int .u64 n3]) rfl) (p:=⟨B0,0,none⟩) (Ne.symm g01) (.string s4)) (p:=⟨B0,1,none⟩) (Ne.symm g01) (.bool b4))
 have hC:=As_ (blk_far (blk_far (blk_far hC1.out (p:=⟨B1,3,none⟩) (Ne.symm g12) (.int .u64 n3)) (p:=⟨B0,0,none⟩) (Ne.symm g02) (.string s4)) (p:=⟨B0,1,none⟩) (Ne.symm g02) (.bool b4))
 have HB:=As_ (below_set (j:=1) (v:=.bool b4) (below_set (j:=0) (v:=.string s4) (below_set (j:=3) (v:=.int .u64 n3) HB1.out GB.out) GA.out) GA.out)
 clear hA1 hB1 hC1 HB1
 generalize ((w1.setCell ⟨B1,3,none⟩ (.int .u64 n3)).setCell ⟨B0,0,none⟩ (.string s4)).setCell ⟨B0,1,none⟩ (.bool b4)=W4 at *
 clear w1 W3
 rw [rounds_succ]
 have fb0:=blk_frozen hB.out 0
 have fb1:=blk_frozen hB.out 1
 have fb2:=blk_frozen hB.out 2
 have fb3:=blk_frozen hB.out 3
 have cb0:=(blk_cell hB.out 0).trans rfl
 have cb1:=(blk_cell hB.out 1).trans rfl
 have cb2:=(blk_cell hB.out 2).trans rfl
 have cb3:=(blk_cell hB.out 3).trans rfl
 have fc0:=blk_frozen hC.out 0
 have fc1:=blk_frozen hC.out 1
 have cc0:=(blk_cell hC.out 0).trans rfl
 have cc1:=(blk_cell hC.out 1).trans rfl
 have ca0:=(blk_cell hA.out 0).trans rfl
 have ca1:=(blk_cell hA.out 1).trans rfl
 cases b4 with
 | true =>
  have h:=HH.out
  rw [if_pos rfl] at h
  simp only [Option.some.injEq,Prod.mk.injEq] at h
  obtain ⟨rfl,rfl,rfl,rfl,rfl,rfl⟩:=h
  clear HH
  go_wp2
  clear fb0 fb1 fb2 fb3 cb0 cb1 cb2 cb3 fc0 fc1 cc0 cc1 ca0 ca1
  have hB1:=As_ (blk_far (blk_far (blk_put (blk_put (blk_put (blk_put hB.out 0 (.int .u64 0) rfl) 1 (.int .u64 0) rfl) 2 (.int .u64 0) rfl) 3 (.int .u64 0) (cs':=#[.int .u64 0,.int .u64 0,.int .u64 0,.int .u64 0]) rfl) (p:=⟨B2,0,none⟩) g12 (.string (⟨#[]⟩:ByteArray))) (p:=⟨B2,1,none⟩) g12 (.bool true))
  have hC1:=As_ (blk_put (blk_put (blk_far (blk_far (blk_far (blk_far hC.out (p:=⟨B1,0,none⟩) (Ne.symm g12) (.int .u64 0)) (p:=⟨B1,1,none⟩) (Ne.symm g12) (.int .u64 0)) (p:=⟨B1,2,none⟩) (Ne.symm g12) (.int .u64 0)) (p:=⟨B1,3,none⟩) (Ne.symm g12) (.int .u64 0)) 0 (.string (⟨#[]⟩:ByteArray)) rfl) 1 (.bool true) (cs':=#[.string (⟨#[]⟩:ByteArray),.bool true]) rfl)
  have HB1:=As_ (below_set (j:=1) (v:=.bool true) (below_set (j:=0) (v:=.string (⟨#[]⟩:ByteArray)) (below_set (j:=3) (v:=.int .u64 0) (below_set (j:=2) (v:=.int .u64 0) (below_set (j:=1) (v:=.int .u64 0) (below_set (j:=0) (v:=.int .u64 0) HB.out GB.out) GB.out) GB.out) GB.out) GC.out) GC.out)
  clear hA hB hC HB
  generalize ((((((W4.setCell ⟨B1,0,none⟩ (.int .u64 0)).setCell ⟨B1,1,none⟩ (.int .u64 0)).setCell ⟨B1,2,none⟩ (.int .u64 0)).setCell ⟨B1,3,none⟩ (.int .u64 0)).setCell ⟨B2,0,none⟩ (.string (⟨#[]⟩:ByteArray))).setCell ⟨B2,1,none⟩ (.bool true))=W9 at *
  have d0:=(blk_cell hB1.out 0).trans rfl
  have d1:=(blk_cell hB1.out 1).trans rfl
  have d2:=(blk_cell hB1.out 2).trans rfl
  have d3:=(blk_cell hB1.out 3).trans rfl
  have d4:=(blk_cell hC1.out 0).trans rfl
  have d5:=(blk_cell hC1.out 1).trans rfl
  refine bodyPost_ret (v:=.tuple #[.agg #[.int .u64 0,.int .u64 0,.int .u64 0,.int .u64 0],.agg #[.string (⟨#[]⟩:ByteArray),.bool true]]) (by simp [results,Try.results106,go_sem,hu,hu2,hu3,d0,d1,d2,d3,d4,d5]) rfl ⟨rfl,HB1.out⟩
 | false =>
  have h:=HH.out
  rw [if_neg (by simp)] at h
  obtain ⟨t,A4,h⟩:=Option.bind_eq_some_iff.1 h
  replace A4:=As_ A4
  clear HH
  cases t with
  | false =>
   rw [if_neg (by simp)] at h
   simp only [Option.some.injEq,Prod.mk.injEq] at h
   obtain ⟨rfl,rfl,rfl,rfl,rfl,rfl⟩:=h
   go_wp2_with (go_at_call 92;refine (vec_Right.calls n0 n1 n2 n3 false _ A4.out).mono ?_;rintro e w1 ⟨rfl,hb⟩;clear fb0 fb1 fb2 fb3 cb0 cb1 cb2 cb3 fc0 fc1 cc0 cc1 ca0 ca1;have hA1:=As_ (blk_below hA.out hb);have hB1:=As_ (blk_below hB.out hb);have hC1:=As_ (blk_below hC.out hb);have HB1:=As_ (below_step HB.out hb);clear hA hB hC HB;clear hb;have hA:=hA1;have hB:=hB1;have hC:=hC1;have HB:=HB1;clear hA1 hB1 hC1 HB1;have fb0:=blk_frozen hB.out 0;have fb1:=blk_frozen hB.out 1;have fb2:=blk_frozen hB.out 2;have fb3:=blk_frozen hB.out 3;have cb0:=(blk_cell hB.out 0).trans rfl;have cb1:=(blk_cell hB.out 1).trans rfl;have cb2:=(blk_cell hB.out 2).trans rfl;have cb3:=(blk_cell hB.out 3).trans rfl;have fc0:=blk_frozen hC.out 0;have fc1:=blk_frozen hC.out 1;have cc0:=(blk_cell hC.out 0).trans rfl;have cc1:=(blk_cell hC.out 1).trans rfl;have ca0:=(blk_cell hA.out 0).trans rfl;have ca1:=(blk_cell hA.out 1).trans rfl)
   clear fb0 fb1 fb2 fb3 cb0 cb1 cb2 cb3 fc0 fc1 cc0 cc1 ca0 ca1
   have hB1:=As_ (blk_far (blk_far (blk_put (blk_put (blk_put (blk_put hB.out 0 (.int .u64 0) rfl) 1 (.int .u64 0) rfl) 2 (.int .u64 0) rfl) 3 (.int .u64 0) (cs':=#[.int .u64 0,.int .u64 0,.int .u64 0,.int .u64 0]) rfl) (p:=⟨B2,0,none⟩) g12 (.string (⟨#[]⟩:ByteArray))) (p:=⟨B2,1,none⟩) g12 (.bool true))
   have hC1:=As_ (blk_put (blk_put (blk_far (blk_far (blk_far (blk_far hC.out (p:=⟨B1,0,none⟩) (Ne.symm g12) (.int .u64 0)) (p:=⟨B1,1,none⟩) (Ne.symm g12) (.int .u64 0)) (p:=⟨B1,2,none⟩) (Ne.symm g12) (.int .u64 0)) (p:=⟨B1,3,none⟩) (Ne.symm g12) (.int .u64 0)) 0 (.string (⟨#[]⟩:ByteArray)) rfl) 1 (.bool true) (cs':=#[.string (⟨#[]⟩:ByteArray),.bool true]) rfl)
   have HB1:=As_ (below_set (j:=1) (v:=.bool true) (below_set (j:=0) (v:=.string (⟨#[]⟩:ByteArray)) (below_set (j:=3) (v:=.int .u64 0) (below_set (j:=2) (v:=.int .u64 0) (below_set (j:=1) (v:=.int .u64 0) (below_set (j:=0) (v:=.int .u64 0) HB.out GB.out) GB.out) GB.out) GB.out) GC.out) GC.out)
   clear hA hB hC HB
   generalize ((((((w1.setCell ⟨B1,0,none⟩ (.int .u64 0)).setCell ⟨B1,1,none⟩ (.int .u64 0)).setCell ⟨B1,2,none⟩ (.int .u64 0)).setCell ⟨B1,3,none⟩ (.int .u64 0)).setCell ⟨B2,0,none⟩ (.string (⟨#[]⟩:ByteArray))).setCell ⟨B2,1,none⟩ (.bool true))=W9 at *
   have d0:=(blk_cell hB1.out 0).trans rfl
   have d1:=(blk_cell hB1.out 1).trans rfl
   have d2:=(blk_cell hB1.out 2).trans rfl
   have d3:=(blk_cell hB1.out 3).trans rfl
   have d4:=(blk_cell hC1.out 0).trans rfl
   have d5:=(blk_cell hC1.out 1).trans rfl
   refine bodyPost_ret (v:=.tuple #[.agg #[.int .u64 0,.int .u64 0,.int .u64 0,.int .u64 0],.agg #[.string (⟨#[]⟩:ByteArray),.bool true]]) (by simp [results,Try.results106,go_sem,hu,hu2,hu3,d0,d1,d2,d3,d4,d5]) rfl ⟨rfl,HB1.out⟩
  | true =>
   rw [if_pos rfl] at h
   simp only [Option.some.injEq,Prod.mk.injEq] at h
   obtain ⟨rfl,rfl,rfl,rfl,rfl,rfl⟩:=h
   go_wp2_with (go_at_call 92;refine (vec_Right.calls n0 n1 n2 n3 true _ A4.out).mono ?_;rintro e w1 ⟨rfl,hb⟩;clear fb0 fb1 fb2 fb3 cb0 cb1 cb2 cb3 fc0 fc1 cc0 cc1 ca0 ca1;have hA1:=As_ (blk_below hA.out hb);have hB1:=As_ (blk_below hB.out hb);have hC1:=As_ (blk_below hC.out hb);have HB1:=As_ (below_step HB.out hb);clear hA hB hC HB;clear hb;have hA:=hA1;have hB:=hB1;have hC:=hC1;have HB:=HB1;clear hA1 hB1 hC1 HB1;have fb0:=blk_frozen hB.out 0;have fb1:=blk_frozen hB.out 1;have fb2:=blk_frozen hB.out 2;have fb3:=blk_frozen hB.out 3;have cb0:=(blk_cell hB.out 0).trans rfl;have cb1:=(blk_cell hB.out 1).trans rfl;have cb2:=(blk_cell hB.out 2).trans rfl;have cb3:=(blk_cell hB.out 3).trans rfl;have fc0:=blk_frozen hC.out 0;have fc1:=blk_frozen hC.out 1;have cc0:=(blk_cell hC.out 0).trans rfl;have cc1:=(blk_cell hC.out 1).trans rfl;have ca0:=(blk_cell hA.out 0).trans rfl;have ca1:=(blk_cell hA.out 1).trans rfl)
   go_region
   go_wp2
   clear fb0 fb1 fb2 fb3 cb0 cb1 cb2 cb3 fc0 fc1 cc0 cc1 ca0 ca1
   have hB1:=As_ (blk_drew (blk_far (blk_far (blk_put (blk_put (blk_put (blk_put hB.out 0 (.int .u64 n0) rfl) 1 (.int .u64 n1) rfl) 2 (.int .u64 n2) rfl) 3 (.int .u64 n3) (cs':=#[.int .u64 n0,.int .u64 n1,.int .u64 n2,.int .u64 n3]) rfl) (p:=⟨B2,0,none⟩) g12 (.string s4)) (p:=⟨B2,1,none⟩) g12 (.bool false)))
   have hC1:=As_ (blk_drew (blk_put (blk_put (blk_far (blk_far (blk_far (blk_far hC.out (p:=⟨B1,0,none⟩) (Ne.symm g12) (.int .u64 n0)) (p:=⟨B1,1,none⟩) (Ne.symm g12) (.int .u64 n1)) (p:=⟨B1,2,none⟩) (Ne.symm g12) (.int .u64 n2)) (p:=⟨B1,3,none⟩) (Ne.symm g12) (.int .u64 n3)) 0 (.string s4) rfl) 1 (.bool false) (cs':=#[.string s4,.bool false]) rfl))
   have HB1:=As_ (below_drew1 (below_set (j:=1) (v:=.bool false) (below_set (j:=0) (v:=.string s4) (below_set (j:=3) (v:=.int .u64 n3) (below_set (j:=2) (v:=.int .u64 n2) (below_set (j:=1) (v:=.int .u64 n1) (below_set (j:=0) (v:=.int .u64 n0) HB.out GB.out) GB.out) GB.out) GB.out) GC.out) GC.out))
   clear hA hB hC HB
   generalize ((((((w1.setCell ⟨B1,0,none⟩ (.int .u64 n0)).setCell ⟨B1,1,none⟩ (.int .u64 n1)).setCell ⟨B1,2,none⟩ (.int .u64 n2)).setCell ⟨B1,3,none⟩ (.int .u64 n3)).setCell ⟨B2,0,none⟩ (.string s4)).setCell ⟨B2,1,none⟩ (.bool false)).drew=W9 at *
   have d0:=(blk_cell hB1.out 0).trans rfl
   have d1:=(blk_cell hB1.out 1).trans rfl
   have d2:=(blk_cell hB1.out 2).trans rfl
   have d3:=(blk_cell hB1.out 3).trans rfl
   have d4:=(blk_cell hC1.out 0).trans rfl
   have d5:=(blk_cell hC1.out 1).trans rfl
   refine bodyPost_ret (v:=.tuple #[.agg #[.int .u64 n0,.int .u64 n1,.int .u64 n2,.int .u64 n3],.agg #[.string s4,.bool false]]) (by simp [results,Try.results106,go_sem,hu,hu2,hu3,d0,d1,d2,d3,d4,d5]) rfl ⟨rfl,HB1.out⟩
def stamp_Get.f (k:Nat) (a0_0:ByteArray) (a0_1:Bool):Option (Int × Int × Int × Int × Int × ByteArray × Bool):=(pack_Reader_Number.f a0_0 a0_1 1).bind fun bt195=>((vec_Get.f k bt195.2.1 bt195.2.2).bind fun bt198=>(if bt198.2.2.2.2.2=true then (some (0,0,0,0,0,(⟨#[]⟩:ByteArray),true)) else ((stamp_Right.f bt198.1 bt198.2.1 bt198.2.2.1 bt198.2.2.2.1 (wrap64 (bt195.1))).bind fun t206=>(if t206=true then (some (bt198.1,bt198.2.1,bt198.2.2.1,bt198.2.2.2.1,wrap64 (bt195.1),bt198.2.2.2.2.1,bt198.2.2.2.2.2)) else (some (0,0,0,0,0,(⟨#[]⟩:ByteArray),true))))))
set_option maxHeartbeats 8000000 in
set_option maxRecDepth 100000 in
theorem stamp_Get.calls (k:Nat) (a0_0:ByteArray) (a0_1:Bool) (r1:Int) (r2:Int) (r3:Int) (r4:Int) (r5:Int) (r6:ByteArray) (r7:Bool) (w:World) (h:stamp_Get.f k a0_0 a0_1=some (r1,r2,r3,r4,r5,r6,r7)) :
  Calls Try.prog 99 #[.agg #[.string a0_0,.bool a0_1]] w fun e w'=>e = .returned (.tuple #[.agg #[.int .u64 r1,.int .u64 r2,.int .u64 r3,.int .u64 r4,.int .i64 r5],.agg #[.string r6,.bool r7]])∧Below w.heap.size w w':=by
 have hu134:=Try.underlying134
 have hu30:=Try.underlying30
 have hu28:=Try.underlying28
 have HB:=As_ (Below.refl w.heap.size w)
 unfold stamp_Get.f at h
 have H:=h
 clear h
 obtain ⟨⟨t195,t196,t197⟩,A2,H⟩:=Kbind_ H
 (try dsimp only at H)
 obtain ⟨⟨t198,t199,t200,t201,t202,t203⟩,A3,H⟩:=Kbind_ H
 (try dsimp only at H)
 by_cases c4:t203=true
 ·subst c4
  rw [if_pos rfl] at H
  simp only [Option.some.injEq,Prod.mk.injEq] at H
  obtain ⟨rfl,rfl,rfl,rfl,rfl,rfl,rfl⟩:=H
  go_enter Try.func99,Try.ntmps99
  go_wp2_with (first|((with_reducible refine gate_dst (N:=1) rfl ?_);refine Ka_ 1 #[.string a0_0,.bool a0_1] 134 ?_;intro gb192 hg w5 hbox hb;have BK192:=As_ (hbox);have GW192:=Kw_ HB hg;replace HB:=Ks_ HB hb;clear hb hbox hg)|((with_reducible refine gate_dst (N:=2) rfl ?_);refine Ka_ 2 #[.int .u64 0,.int .u64 0,.int .u64 0,.int .u64 0,.int .i64 0] 30 ?_;intro gb193 hg w6 hbox hb;have BK193:=As_ (hbox);have GW193:=Kw_ HB hg;have NB192_193:=Kl_ BK192 hg;have NB193_192:=Kr_ BK192 hg;replace BK192:=Kb_ BK192 hb;replace HB:=Ks_ HB hb;clear hb hbox hg)|((with_reducible refine gate_dst (N:=3) rfl ?_);refine Ka_ 3 #[.string (⟨#[]⟩:ByteArray),.bool false] 134 ?_;intro gb194 hg w7 hbox hb;have BK194:=As_ (hbox);have GW194:=Kw_ HB hg;have NB192_194:=Kl_ BK192 hg;have NB194_192:=Kr_ BK192 hg;have NB193_194:=Kl_ BK193 hg;have NB194_193:=Kr_ BK193 hg;replace BK192:=Kb_ BK192 hb;replace BK193:=Kb_ BK193 hb;replace HB:=Ks_ HB hb;clear hb hbox hg;have hnb8:=NB192_193.out;have hnc8:=NB193_192.out;have hnb9:=NB192_194.out;have hnc9:=NB194_192.out;obtain ⟨_,_,_,_⟩:=Ke2_ BK192.out)|((with_reducible refine gate_callee (f:=75) rfl ?_);refine Kg_ (some 9) rfl rfl Try.func75 (by kernel_rfl) rfl #[.agg #[.string a0_0,.bool a0_1],.int .i64 1] rfl ?_;(with_reducible refine (pack_Reader_Number.calls a0_0 a0_1 1 t195 t196 t197 _ A2.out).mono ?_);rintro e w11 ⟨rfl,hb⟩;refine ⟨_,rfl,?_⟩;replace BK192:=Kb_ BK192 hb;replace BK193:=Kb_ BK193 hb;replace BK194:=Kb_ BK194 hb;replace HB:=Ks_ HB hb;(try clear hb);obtain ⟨_,_,_,_⟩:=Ke2_ BK192.out)|((with_reducible refine gate_callee (f:=106) rfl ?_);refine Kg_ (some 14) rfl rfl Try.func106 (by kernel_rfl) rfl #[.agg #[.string t196,.bool t197]] rfl ?_;(with_reducible refine (vec_Get.calls k t196 t197 t198 t199 t200 t201 t202 true _ A3.out).mono ?_);rintro e w13 ⟨rfl,hb⟩;refine ⟨_,rfl,?_⟩;replace BK192:=As_ (blk_below (Kput2_ (Kq_ BK192)) hb);replace BK193:=Kf_ BK193 NB193_192 hb;replace BK194:=Kf_ BK194 NB194_192 hb;replace HB:=Kt_ HB GW192 hb;(try clear hb))|((with_reducible refine gate_dst (N:=5) rfl ?_);refine Ka_ 5 #[.int .u64 0,.int .u64 0,.int .u64 0,.int .u64 0] 28 ?_;intro gb204 hg w14 hbox hb;have BK204:=As_ (hbox);have GW204:=Kw_ HB hg;have NB192_204:=Kl_ BK192 hg;have NB204_192:=Kr_ BK192 hg;have NB193_204:=Kl_ BK193 hg;have NB204_193:=Kr_ BK193 hg;have NB194_204:=Kl_ BK194 hg;have NB204_194:=Kr_ BK194 hg;replace BK192:=Kb_ BK192 hb;replace BK193:=Kb_ BK193 hb;replace BK194:=Kb_ BK194 hb;replace HB:=Ks_ HB hb;clear hb hbox hg;have hnb15:=NB204_192.out;have hnc15:=NB192_204.out;have hnb16:=NB204_193.out;have hnc16:=NB193_204.out;have hnb17:=NB204_194.out;have hnc17:=NB194_204.out;obtain ⟨_,_,_,_,_,_,_,_⟩:=Ke4_ BK204.out;obtain ⟨_,_,_,_⟩:=Ke2_ BK192.out)|((with_reducible refine gate_dst (N:=6) rfl ?_);refine Ka_ 6 #[.int .u64 0,.int .u64 0,.int .u64 0,.int .u64 0,.int .i64 0] 30 ?_;intro gb205 hg w20 hbox hb;have BK205:=As_ (hbox);have GW205:=As_ ((by rw [hg];exact (below_size (K4a_ HB GW192 GW193 GW194 GW204)):w.heap.size≤gb205));have NB192_205:=As_ ((by rw [hg];exact Nat.ne_of_lt (blk_lt (g:=gb192) (o:=.cells #[.string t202,.bool true] 134 (0,0)) (by refine Kv_ ?_;refine blk_put (cs:=#[.string t202,.bool t197]) ?_ 1 _ rfl;refine Kv_ ?_;refine blk_put (cs:=#[.string t196,.bool t197]) ?_ 0 _ rfl;exact K1b_ BK192 NB192_204)):gb192 ≠ gb205));have NB205_192:=As_ ((by rw [hg];exact Nat.ne_of_gt (blk_lt (g:=gb192) (o:=.cells #[.string t202,.bool true] 134 (0,0)) (by refine Kv_ ?_;refine blk_put (cs:=#[.string t202,.bool t197]) ?_ 1 _ rfl;refine Kv_ ?_;refine blk_put (cs:=#[.string t196,.bool t197]) ?_ 0 _ rfl;exact K1b_ BK192 NB192_204)):gb205 ≠ gb192));have NB193_205:=As_ ((by rw [hg];exact Nat.ne_of_lt (blk_lt (g:=gb193) (o:=.cells #[.int .u64 0,.int .u64 0,.int .u64 0,.int .u64 0,.int .i64 0] 30 (0,0)) (K2b_ BK193 NB193_192 NB193_204)):gb193 ≠ gb205));have NB205_193:=As_ ((by rw [hg];exact Nat.ne_of_gt (blk_lt (g:=gb193) (o:=.cells #[.int .u64 0,.int .u64 0,.int .u64 0,.int .u64 0,.int .i64 0] 30 (0,0)) (K2b_ BK193 NB193_192 NB193_204)):gb205 ≠ gb193));have NB194_205:=As_ ((by rw [hg];exact Nat.ne_of_lt (blk_lt (g:=gb194) (o:=.cells #[.string (⟨#[]⟩:ByteArray),.bool false] 134 (0,0)) (K2b_ BK194 NB194_192 NB194_204)):gb194 ≠ gb205));have NB205_194:=As_ ((by rw [hg];exact Nat.ne_of_gt (blk_lt (g:=gb194) (o:=.cells #[.string (⟨#[]⟩:ByteArray),.bool false] 134 (0,0)) (K2b_ BK194 NB194_192 NB194_204)):gb205 ≠ gb194));have NB204_205:=As_ ((by rw [hg];exact Nat.ne_of_lt (blk_lt (g:=gb204) (o:=.cells #[.int .u64 t198,.int .u64 t199,.int .u64 t200,.int .u64 t201] 28 (0,0)) (by (repeat (first|(with_reducible first|refine blk_drewN ?_ _|refine blk_drew ?_|refine blk_alloc ?_ _)|refine blk_far ?_ NB204_192.out _));refine blk_put (cs:=#[.int .u64 t198,.int .u64 t199,.int .u64 t200,.int .u64 0]) ?_ 3 _ rfl;refine Kv_ ?_;exact Kput4_abc_ (Kq_ BK204))):gb204 ≠ gb205));have NB205_204:=As_ ((by rw [hg];exact Nat.ne_of_gt (blk_lt (g:=gb204) (o:=.cells #[.int .u64 t198,.int .u64 t199,.int .u64 t200,.int .u64 t201] 28 (0,0)) (by (repeat (first|(with_reducible first|refine blk_drewN ?_ _|refine blk_drew ?_|refine blk_alloc ?_ _)|refine blk_far ?_ NB204_192.out _));refine blk_put (cs:=#[.int .u64 t198,.int .u64 t199,.int .u64 t200,.int .u64 0]) ?_ 3 _ rfl;refine Kv_ ?_;exact Kput4_abc_ (Kq_ BK204))):gb205 ≠ gb204));replace BK192:=As_ (blk_below (g:=gb192) (o:=.cells #[.string t202,.bool true] 134 (0,0)) (by refine Kv_ ?_;refine blk_put (cs:=#[.string t202,.bool t197]) ?_ 1 _ rfl;refine Kv_ ?_;refine blk_put (cs:=#[.string t196,.bool t197]) ?_ 0 _ rfl;exact K1b_ BK192 NB192_204) hb);replace BK193:=As_ (blk_below (g:=gb193) (o:=.cells #[.int .u64 0,.int .u64 0,.int .u64 0,.int .u64 0,.int .i64 0] 30 (0,0)) (K2b_ BK193 NB193_192 NB193_204) hb);replace BK194:=As_ (blk_below (g:=gb194) (o:=.cells #[.string (⟨#[]⟩:ByteArray),.bool false] 134 (0,0)) (K2b_ BK194 NB194_192 NB194_204) hb);replace HB:=As_ (below_step (K4a_ HB GW192 GW193 GW194 GW204) hb);clear hb hbox hg;have hnb21:=NB205_192.out;have hnc21:=NB192_205.out;have hnb22:=NB205_193.out;have hnc22:=NB193_205.out;have hnb23:=NB205_194.out;have hnc23:=NB194_205.out;have hnb24:=NB205_204.out;have hnc24:=NB204_205.out;obtain ⟨_,_,_,_,_,_,_,_,_,_⟩:=Ke5_ BK205.out;obtain ⟨_,_,_,_⟩:=Ke2_ BK192.out;have hnb27:=NB193_194.out;have hnc27:=NB194_193.out;obtain ⟨_,_,_,_,_,_,_,_,_,_⟩:=Ke5_ BK193.out;obtain ⟨_,_,_,_⟩:=Ke2_ BK194.out))
  refine bodyPost_ret (results_cc rfl _ _ gb193 gb194 30 134 #[.int .u64 0,.int .u64 0,.int .u64 0,.int .u64 0,.int .i64 0] #[.string (⟨#[]⟩:ByteArray),.bool true] (0,0) (0,0) _ _ rfl (by (repeat (first|(with_reducible first|refine blk_drewN ?_ _|refine blk_drew ?_|refine blk_alloc ?_ _)|refine blk_far ?_ NB193_194.out _));refine blk_put (cs:=#[.int .u64 0,.int .u64 0,.int .u64 0,.int .u64 0,.int .i64 0]) ?_ 4 _ rfl;refine Kv_ ?_;refine blk_put (cs:=#[.int .u64 0,.int .u64 0,.int .u64 0,.int .u64 0,.int .i64 0]) ?_ 3 _ rfl;refine Kv_ ?_;refine blk_put (cs:=#[.int .u64 0,.int .u64 0,.int .u64 0,.int .u64 0,.int .i64 0]) ?_ 2 _ rfl;refine Kv_ ?_;refine blk_put (cs:=#[.int .u64 0,.int .u64 0,.int .u64 0,.int .u64 0,.int .i64 0]) ?_ 1 _ rfl;refine Kv_ ?_;refine blk_put (cs:=#[.int .u64 0,.int .u64 0,.int .u64 0,.int .u64 0,.int .i64 0]) ?_ 0 _ rfl;exact K1b_ BK193 NB193_205) Try.underlying30 rfl (by kernel_rfl) rfl (by refine Kv_ ?_;refine blk_put (cs:=#[.string (⟨#[]⟩:ByteArray),.bool false]) ?_ 1 _ rfl;refine Kv_ ?_;refine blk_put (cs:=#[.string (⟨#[]⟩:ByteArray),.bool false]) ?_ 0 _ rfl;exact K2b_ BK194 NB194_193 NB194_205) Try.underlying134 rfl (by kernel_rfl)) rfl ?_
  exact ⟨Kh_,by repeat (first|(with_reducible first|exact HB.out|apply below_alloc|apply pw_below_drewN|apply below_drew1|refine below_set ?_ GW192.out|refine below_set ?_ GW193.out|refine below_set ?_ GW194.out|refine below_set ?_ GW204.out|refine below_set ?_ GW205.out)|exact HB.out)⟩
 replace c4:=Bool.eq_false_iff.mpr c4
 subst c4
 rw [if_neg Bool.false_ne_true] at H
 obtain ⟨t206,A30,H⟩:=Kbind_ H
 (try dsimp only at H)
 by_cases c31:t206=true
 rotate_left
 ·replace c31:=Bool.eq_false_iff.mpr c31
  subst c31
  rw [if_neg Bool.false_ne_true] at H
  simp only [Option.some.injEq,Prod.mk.injEq] at H
  obtain ⟨rfl,rfl,rfl,rfl,rfl,rfl,rfl⟩:=H
  go_enter Try.func99,Try.ntmps99
  go_wp2_with (first|((with_reducible refine gate_dst (N:=1) rfl ?_);refine Ka_ 1 #[.string a0_0,.bool a0_1] 134 ?_;intro gb192 hg w63 hbox hb;have BK192:=As_ (hbox);have GW192:=Kw_ HB hg;replace HB:=Ks_ HB hb;clear hb hbox hg)|((with_reducible refine gate_dst (N:=2) rfl ?_);refine Ka_ 2 #[.int .u64 0,.int .u64 0,.int .u64 0,.int .u64 0,.int .i64 0] 30 ?_;intro gb193 hg w64 hbox hb;have BK193:=As_ (hbox);have GW193:=Kw_ HB hg;have NB192_193:=Kl_ BK192 hg;have NB193_192:=Kr_ BK192 hg;replace BK192:=Kb_ BK192 hb;replace HB:=Ks_ HB hb;clear hb hbox hg)|((with_reducible refine gate_dst (N:=3) rfl ?_);refine Ka_ 3 #[.string (⟨#[]⟩:ByteArray),.bool false] 134 ?_;intro gb194 hg w65 hbox hb;have BK194:=As_ (hbox);have GW194:=Kw_ HB hg;have NB192_194:=Kl_ BK192 hg;have NB194_192:=Kr_ BK192 hg;have NB193_194:=Kl_ BK193 hg;have NB194_193:=Kr_ BK193 hg;replace BK192:=Kb_ BK192 hb;replace BK193:=Kb_ BK193 hb;replace HB:=Ks_ HB hb;clear hb hbox hg;have hnb66:=NB192_193.out;have hnc66:=NB193_192.out;have hnb67:=NB192_194.out;have hnc67:=NB194_192.out;obtain ⟨_,_,_,_⟩:=Ke2_ BK192.out)|((with_reducible refine gate_callee (f:=75) rfl ?_);refine Kg_ (some 9) rfl rfl Try.func75 (by kernel_rfl) rfl #[.agg #[.string a0_0,.bool a0_1],.int .i64 1] rfl ?_;(with_reducible refine (pack_Reader_Number.calls a0_0 a0_1 1 t195 t196 t197 _ A2.out).mono ?_);rintro e w69 ⟨rfl,hb⟩;refine ⟨_,rfl,?_⟩;replace BK192:=Kb_ BK192 hb;replace BK193:=Kb_ BK193 hb;replace BK194:=Kb_ BK194 hb;replace HB:=Ks_ HB hb;(try clear hb);obtain ⟨_,_,_,_⟩:=Ke2_ BK192.out)|((with_reducible refine gate_callee (f:=106) rfl ?_);refine Kg_ (some 14) rfl rfl Try.func106 (by kernel_rfl) rfl #[.agg #[.string t196,.bool t197]] rfl ?_;(with_reducible refine (vec_Get.calls k t196 t197 t198 t199 t200 t201 t202 false _ A3.out).mono ?_);rintro e w71 ⟨rfl,hb⟩;refine ⟨_,rfl,?_⟩;replace BK192:=As_ (blk_below (Kput2_ (Kq_ BK192)) hb);replace BK193:=Kf_ BK193 NB193_192 hb;replace BK194:=Kf_ BK194 NB194_192 hb;replace HB:=Kt_ HB GW192 hb;(try clear hb))|((with_reducible refine gate_dst (N:=5) rfl ?_);refine Ka_ 5 #[.int .u64 0,.int .u64 0,.int .u64 0,.int .u64 0] 28 ?_;intro gb204 hg w72 hbox hb;have BK204:=As_ (hbox);have GW204:=Kw_ HB hg;have NB192_204:=Kl_ BK192 hg;have NB204_192:=Kr_ BK192 hg;have NB193_204:=Kl_ BK193 hg;have NB204_193:=Kr_ BK193 hg;have NB194_204:=Kl_ BK194 hg;have NB204_194:=Kr_ BK194 hg;replace BK192:=Kb_ BK192 hb;replace BK193:=Kb_ BK193 hb;replace BK194:=Kb_ BK194 hb;replace HB:=Ks_ HB hb;clear hb hbox hg;have hnb73:=NB204_192.out;have hnc73:=NB192_204.out;have hnb74:=NB204_193.out;have hnc74:=NB193_204.out;have hnb75:=NB204_194.out;have hnc75:=NB194_204.out;obtain ⟨_,_,_,_,_,_,_,_⟩:=Ke4_ BK204.out;obtain ⟨_,_,_,_⟩:=Ke2_ BK192.out)|((with_reducible refine gate_dst (N:=6) rfl ?_);refine Ka_ 6 #[.int .u64 0,.int .u64 0,.int .u64 0,.int .u64 0,.int .i64 0] 30 ?_;intro gb205 hg w78 hbox hb;have BK205:=As_ (hbox);have GW205:=As_ ((by rw [hg];exact (below_size (K4a_ HB GW192 GW193 GW194 GW204)):w.heap.size≤gb205));have NB192_205:=As_ ((by rw [hg];exact Nat.ne_of_lt (blk_lt (g:=gb192) (o:=.cells #[.string t202,.bool false] 134 (0,0)) (by refine Kv_ ?_;refine blk_put (cs:=#[.string t202,.bool t197]) ?_ 1 _ rfl;refine Kv_ ?_;refine blk_put (cs:=#[.string t196,.bool t197]) ?_ 0 _ rfl;exact K1b_ BK192 NB192_204)):gb192 ≠ gb205));have NB205_192:=As_ ((by rw [hg];exact Nat.ne_of_gt (blk_lt (g:=gb192) (o:=.cells #[.string t202,.bool false] 134 (0,0)) (by refine Kv_ ?_;refine blk_put (cs:=#[.string t202,.bool t197]) ?_ 1 _ rfl;refine Kv_ ?_;refine blk_put (cs:=#[.string t196,.bool t197]) ?_ 0 _ rfl;exact K1b_ BK192 NB192_204)):gb205 ≠ gb192));have NB193_205:=As_ ((by rw [hg];exact Nat.ne_of_lt (blk_lt (g:=gb193) (o:=.cells #[.int .u64 0,.int .u64 0,.int .u64 0,.int .u64 0,.int .i64 0] 30 (0,0)) (K2b_ BK193 NB193_192 NB193_204)):gb193 ≠ gb205));have NB205_193:=As_ ((by rw [hg];exact Nat.ne_of_gt (blk_lt (g:=gb193) (o:=.cells #[.int .u64 0,.int .u64 0,.int .u64 0,.int .u64 0,.int .i64 0] 30 (0,0)) (K2b_ BK193 NB193_192 NB193_204)):gb205 ≠ gb193));have NB194_205:=As_ ((by rw [hg];exact Nat.ne_of_lt (blk_lt (g:=gb194) (o:=.cells #[.string (⟨#[]⟩:ByteArray),.bool false] 134 (0,0)) (K2b_ BK194 NB194_192 NB194_204)):gb194 ≠ gb205));have NB205_194:=As_ ((by rw [hg];exact Nat.ne_of_gt (blk_lt (g:=gb194) (o:=.cells #[.string (⟨#[]⟩:ByteArray),.bool false] 134 (0,0)) (K2b_ BK194 NB194_192 NB194_204)):gb205 ≠ gb194));have NB204_205:=As_ ((by rw [hg];exact Nat.ne_of_lt (blk_lt (g:=gb204) (o:=.cells #[.int .u64 t198,.int .u64 t199,.int .u64 t200,.int .u64 t201] 28 (0,0)) (by (repeat (first|(with_reducible first|refine blk_drewN ?_ _|refine blk_drew ?_|refine blk_alloc ?_ _)|refine blk_far ?_ NB204_192.out _));refine blk_put (cs:=#[.int .u64 t198,.int .u64 t199,.int .u64 t200,.int .u64 0]) ?_ 3 _ rfl;refine Kv_ ?_;exact Kput4_abc_ (Kq_ BK204))):gb204 ≠ gb205));have NB205_204:=As_ ((by rw [hg];exact Nat.ne_of_gt (blk_lt (g:=gb204) (o:=.cells #[.int .u64 t198,.int .u64 t199,.int .u64 t200,.int .u64 t201] 28 (0,0)) (by (repeat (first|(with_reducible first|refine blk_drewN ?_ _|refine blk_drew ?_|refine blk_alloc ?_ _)|refine blk_far ?_ NB204_192.out _));refine blk_put (cs:=#[.int .u64 t198,.int .u64 t199,.int .u64 t200,.int .u64 0]) ?_ 3 _ rfl;refine Kv_ ?_;exact Kput4_abc_ (Kq_ BK204))):gb205 ≠ gb204));replace BK192:=As_ (blk_below (g:=gb192) (o:=.cells #[.string t202,.bool false] 134 (0,0)) (by refine Kv_ ?_;refine blk_put (cs:=#[.string t202,.bool t197]) ?_ 1 _ rfl;refine Kv_ ?_;refine blk_put (cs:=#[.string t196,.bool t197]) ?_ 0 _ rfl;exact K1b_ BK192 NB192_204) hb);replace BK193:=As_ (blk_below (g:=gb193) (o:=.cells #[.int .u64 0,.int .u64 0,.int .u64 0,.int .u64 0,.int .i64 0] 30 (0,0)) (K2b_ BK193 NB193_192 NB193_204) hb);replace BK194:=As_ (blk_below (g:=gb194) (o:=.cells #[.string (⟨#[]⟩:ByteArray),.bool false] 134 (0,0)) (K2b_ BK194 NB194_192 NB194_204) hb);replace HB:=As_ (below_step (K4a_ HB GW192 GW193 GW194 GW204) hb);clear hb hbox hg;have hnb79:=NB205_192.out;have hnc79:=NB192_205.out;have hnb80:=NB205_193.out;have hnc80:=NB193_205.out;have hnb81:=NB205_194.out;have hnc81:=NB194_205.out;have hnb82:=NB205_204.out;have hnc82:=NB204_205.out;obtain ⟨_,_,_,_,_,_,_,_,_,_⟩:=Ke5_ BK205.out;obtain ⟨_,_,_,_⟩:=Ke2_ BK192.out)|(go_at_call 69;(with_reducible refine (stamp_Right.calls t198 t199 t200 t201 (wrap64 (t195)) false _ A30.out).mono ?_);rintro e w85 ⟨rfl,hb⟩;replace BK193:=Kf_ BK193 NB193_205 hb;replace BK194:=Kf_ BK194 NB194_205 hb;replace HB:=Kt_ HB GW205 hb;(try clear hb);have hnb86:=NB193_194.out;have hnc86:=NB194_193.out;obtain ⟨_,_,_,_,_,_,_,_,_,_⟩:=Ke5_ BK193.out;obtain ⟨_,_,_,_⟩:=Ke2_ BK194.out))
  refine bodyPost_ret (results_cc rfl _ _ gb193 gb194 30 134 #[.int .u64 0,.int .u64 0,.int .u64 0,.int .u64 0,.int .i64 0] #[.string (⟨#[]⟩:ByteArray),.bool true] (0,0) (0,0) _ _ rfl (by (repeat (first|(with_reducible first|refine blk_drewN ?_ _|refine blk_drew ?_|refine blk_alloc ?_ _)|refine blk_far ?_ NB193_194.out _));refine blk_put (cs:=#[.int .u64 0,.int .u64 0,.int .u64 0,.int .u64 0,.int .i64 0]) ?_ 4 _ rfl;refine Kv_ ?_;exact Kput5_abcd_ (Kq_ BK193)) Try.underlying30 rfl (by kernel_rfl) rfl (by refine Kv_ ?_;refine blk_put (cs:=#[.string (⟨#[]⟩:ByteArray),.bool false]) ?_ 1 _ rfl;refine Kv_ ?_;refine blk_put (cs:=#[.string (⟨#[]⟩:ByteArray),.bool false]) ?_ 0 _ rfl;exact K1b_ BK194 NB194_193) Try.underlying134 rfl (by kernel_rfl)) rfl ?_
  exact ⟨Kh_,by repeat (first|(with_reducible first|exact HB.out|apply below_alloc|apply pw_below_drewN|apply below_drew1|refine below_set ?_ GW192.out|refine below_set ?_ GW193.out|refine below_set ?_ GW194.out|refine below_set ?_ GW204.out|refine below_set ?_ GW205.out)|exact HB.out)⟩
 subst c31
 rw [if_pos rfl] at H
 simp only [Option.some.injEq,Prod.mk.injEq] at H
 obtain ⟨rfl,rfl,rfl,rfl,rfl,rfl,rfl⟩:=H
 go_enter Try.func99,Try.ntmps99
 try go_wp2_with (first|((with_reducible refine gate_dst (N:=1) rfl ?_);refine Ka_ 1 #[.string a0_0,.bool a0_1] 134 ?_;intro gb192 hg w32 hbox hb;have BK192:=As_ (hbox);have GW192:=Kw_ HB hg;replace HB:=Ks_ HB hb;clear hb hbox hg)|((with_reducible refine gate_dst (N:=2) rfl ?_);refine Ka_ 2 #[.int .u64 0,.int .u64 0,.int .u64 0,.int .u64 0,.int .i64 0] 30 ?_;intro gb193 hg w33 hbox hb;have BK193:=As_ (hbox);have GW193:=Kw_ HB hg;have NB192_193:=Kl_ BK192 hg;have NB193_192:=Kr_ BK192 hg;replace BK192:=Kb_ BK192 hb;replace HB:=Ks_ HB hb;clear hb hbox hg)|((with_reducible refine gate_dst (N:=3) rfl ?_);refine Ka_ 3 #[.string (⟨#[]⟩:ByteArray),.bool false] 134 ?_;intro gb194 hg w34 hbox hb;have BK194:=As_ (hbox);have GW194:=Kw_ HB hg;have NB192_194:=Kl_ BK192 hg;have NB194_192:=Kr_ BK192 hg;have NB193_194:=Kl_ BK193 hg;have NB194_193:=Kr_ BK193 hg;replace BK192:=Kb_ BK192 hb;replace BK193:=Kb_ BK193 hb;replace HB:=Ks_ HB hb;clear hb hbox hg;have hnb35:=NB192_193.out;have hnc35:=NB193_192.out;have hnb36:=NB192_194.out;have hnc36:=NB194_192.out;obtain ⟨_,_,_,_⟩:=Ke2_ BK192.out)|((with_reducible refine gate_callee (f:=75) rfl ?_);refine Kg_ (some 9) rfl rfl Try.func75 (by kernel_rfl) rfl #[.agg #[.string a0_0,.bool a0_1],.int .i64 1] rfl ?_;(with_reducible refine (pack_Reader_Number.calls a0_0 a0_1 1 t195 t196 t197 _ A2.out).mono ?_);rintro e w38 ⟨rfl,hb⟩;refine ⟨_,rfl,?_⟩;replace BK192:=Kb_ BK192 hb;replace BK193:=Kb_ BK193 hb;replace BK194:=Kb_ BK194 hb;replace HB:=Ks_ HB hb;(try clear hb);obtain ⟨_,_,_,_⟩:=Ke2_ BK192.out)|((with_reducible refine gate_callee (f:=106) rfl ?_);refine Kg_ (some 14) rfl rfl Try.func106 (by kernel_rfl) rfl #[.agg #[.string t196,.bool t197]] rfl ?_;(with_reducible refine (vec_Get.calls k t196 t197 t198 t199 t200 t201 t202 false _ A3.out).mono ?_);rintro e w40 ⟨rfl,hb⟩;refine ⟨_,rfl,?_⟩;replace BK192:=As_ (blk_below (Kput2_ (Kq_ BK192)) hb);replace BK193:=Kf_ BK193 NB193_192 hb;replace BK194:=Kf_ BK194 NB194_192 hb;replace HB:=Kt_ HB GW192 hb;(try clear hb))|((with_reducible refine gate_dst (N:=5) rfl ?_);refine Ka_ 5 #[.int .u64 0,.int .u64 0,.int .u64 0,.int .u64 0] 28 ?_;intro gb204 hg w41 hbox hb;have BK204:=As_ (hbox);have GW204:=Kw_ HB hg;have NB192_204:=Kl_ BK192 hg;have NB204_192:=Kr_ BK192 hg;have NB193_204:=Kl_ BK193 hg;have NB204_193:=Kr_ BK193 hg;have NB194_204:=Kl_ BK194 hg;have NB204_194:=Kr_ BK194 hg;replace BK192:=Kb_ BK192 hb;replace BK193:=Kb_ BK193 hb;replace BK194:=Kb_ BK194 hb;replace HB:=Ks_ HB hb;clear hb hbox hg;have hnb42:=NB204_192.out;have hnc42:=NB192_204.out;have hnb43:=NB204_193.out;have hnc43:=NB193_204.out;have hnb44:=NB204_194.out;have hnc44:=NB194_204.out;obtain ⟨_,_,_,_,_,_,_,_⟩:=Ke4_ BK204.out;obtain ⟨_,_,_,_⟩:=Ke2_ BK192.out)|((with_reducible refine gate_dst (N:=6) rfl ?_);refine Ka_ 6 #[.int .u64 0,.int .u64 0,.int .u64 0,.int .u64 0,.int .i64 0] 30 ?_;intro gb205 hg w47 hbox hb;have BK205:=As_ (hbox);have GW205:=As_ ((by rw [hg];exact (below_size (K4a_ HB GW192 GW193 GW194 GW204)):w.heap.size≤gb205));have NB192_205:=As_ ((by rw [hg];exact Nat.ne_of_lt (blk_lt (g:=gb192) (o:=.cells #[.string t202,.bool false] 134 (0,0)) (by refine Kv_ ?_;refine blk_put (cs:=#[.string t202,.bool t197]) ?_ 1 _ rfl;refine Kv_ ?_;refine blk_put (cs:=#[.string t196,.bool t197]) ?_ 0 _ rfl;exact K1b_ BK192 NB192_204)):gb192 ≠ gb205));have NB205_192:=As_ ((by rw [hg];exact Nat.ne_of_gt (blk_lt (g:=gb192) (o:=.cells #[.string t202,.bool false] 134 (0,0)) (by refine Kv_ ?_;refine blk_put (cs:=#[.string t202,.bool t197]) ?_ 1 _ rfl;refine Kv_ ?_;refine blk_put (cs:=#[.string t196,.bool t197]) ?_ 0 _ rfl;exact K1b_ BK192 NB192_204)):gb205 ≠ gb192));have NB193_205:=As_ ((by rw [hg];exact Nat.ne_of_lt (blk_lt (g:=gb193) (o:=.cells #[.int .u64 0,.int .u64 0,.int .u64 0,.int .u64 0,.int .i64 0] 30 (0,0)) (K2b_ BK193 NB193_192 NB193_204)):gb193 ≠ gb205));have NB205_193:=As_ ((by rw [hg];exact Nat.ne_of_gt (blk_lt (g:=gb193) (o:=.cells #[.int .u64 0,.int .u64 0,.int .u64 0,.int .u64 0,.int .i64 0] 30 (0,0)) (K2b_ BK193 NB193_192 NB193_204)):gb205 ≠ gb193));have NB194_205:=As_ ((by rw [hg];exact Nat.ne_of_lt (blk_lt (g:=gb194) (o:=.cells #[.string (⟨#[]⟩:ByteArray),.bool false] 134 (0,0)) (K2b_ BK194 NB194_192 NB194_204)):gb194 ≠ gb205));have NB205_194:=As_ ((by rw [hg];exact Nat.ne_of_gt (blk_lt (g:=gb194) (o:=.cells #[.string (⟨#[]⟩:ByteArray),.bool false] 134 (0,0)) (K2b_ BK194 NB194_192 NB194_204)):gb205 ≠ gb194));have NB204_205:=As_ ((by rw [hg];exact Nat.ne_of_lt (blk_lt (g:=gb204) (o:=.cells #[.int .u64 t198,.int .u64 t199,.int .u64 t200,.int .u64 t201] 28 (0,0)) (by (repeat (first|(with_reducible first|refine blk_drewN ?_ _|refine blk_drew ?_|refine blk_alloc ?_ _)|refine blk_far ?_ NB204_192.out _));refine blk_put (cs:=#[.int .u64 t198,.int .u64 t199,.int .u64 t200,.int .u64 0]) ?_ 3 _ rfl;refine Kv_ ?_;exact Kput4_abc_ (Kq_ BK204))):gb204 ≠ gb205));have NB205_204:=As_ ((by rw [hg];exact Nat.ne_of_gt (blk_lt (g:=gb204) (o:=.cells #[.int .u64 t198,.int .u64 t199,.int .u64 t200,.int .u64 t201] 28 (0,0)) (by (repeat (first|(with_reducible first|refine blk_drewN ?_ _|refine blk_drew ?_|refine blk_alloc ?_ _)|refine blk_far ?_ NB204_192.out _));refine blk_put (cs:=#[.int .u64 t198,.int .u64 t199,.int .u64 t200,.int .u64 0]) ?_ 3 _ rfl;refine Kv_ ?_;exact Kput4_abc_ (Kq_ BK204))):gb205 ≠ gb204));replace BK192:=As_ (blk_below (g:=gb192) (o:=.cells #[.string t202,.bool false] 134 (0,0)) (by refine Kv_ ?_;refine blk_put (cs:=#[.string t202,.bool t197]) ?_ 1 _ rfl;refine Kv_ ?_;refine blk_put (cs:=#[.string t196,.bool t197]) ?_ 0 _ rfl;exact K1b_ BK192 NB192_204) hb);replace BK193:=As_ (blk_below (g:=gb193) (o:=.cells #[.int .u64 0,.int .u64 0,.int .u64 0,.int .u64 0,.int .i64 0] 30 (0,0)) (K2b_ BK193 NB193_192 NB193_204) hb);replace BK194:=As_ (blk_below (g:=gb194) (o:=.cells #[.string (⟨#[]⟩:ByteArray),.bool false] 134 (0,0)) (K2b_ BK194 NB194_192 NB194_204) hb);replace BK204:=As_ (blk_below (g:=gb204) (o:=.cells #[.int .u64 t198,.int .u64 t199,.int .u64 t200,.int .u64 t201] 28 (0,0)) (by (repeat (first|(with_reducible first|refine blk_drewN ?_ _|refine blk_drew ?_|refine blk_alloc ?_ _)|refine blk_far ?_ NB204_192.out _));refine blk_put (cs:=#[.int .u64 t198,.int .u64 t199,.int .u64 t200,.int .u64 0]) ?_ 3 _ rfl;refine Kv_ ?_;exact Kput4_abc_ (Kq_ BK204)) hb);replace HB:=As_ (below_step (K4a_ HB GW192 GW193 GW194 GW204) hb);clear hb hbox hg;have hnb48:=NB205_192.out;have hnc48:=NB192_205.out;have hnb49:=NB205_193.out;have hnc49:=NB193_205.out;have hnb50:=NB205_194.out;have hnc50:=NB194_205.out;have hnb51:=NB205_204.out;have hnc51:=NB204_205.out;obtain ⟨_,_,_,_,_,_,_,_,_,_⟩:=Ke5_ BK205.out;obtain ⟨_,_,_,_⟩:=Ke2_ BK192.out)|(go_at_call 69;(with_reducible refine (stamp_Right.calls t198 t199 t200 t201 (wrap64 (t195)) true _ A30.out).mono ?_);rintro e w54 ⟨rfl,hb⟩;replace BK192:=Kf_ BK192 NB192_205 hb;replace BK193:=Kf_ BK193 NB193_205 hb;replace BK194:=Kf_ BK194 NB194_205 hb;replace BK204:=Kf_ BK204 NB204_205 hb;replace BK205:=As_ (blk_below (Kput5_ (Kq_ BK205)) hb);replace HB:=Kt_ HB GW205 hb;(try clear hb)))
 replace BK192:=Kd_ BK192
 replace BK193:=Kd_ BK193
 replace BK194:=Kd_ BK194
 replace BK204:=Kd_ BK204
 replace BK205:=Kd_ BK205
 replace HB:=As_ (below_drew1 HB.out)
 refine start_ (n:=4) (S:=fun w'=>w'.cell? ⟨gb205,0,none⟩=some (.int .u64 t198)∧w'.cell? ⟨gb205,1,none⟩=some (.int .u64 t199)∧w'.cell? ⟨gb205,2,none⟩=some (.int .u64 t200)∧w'.cell? ⟨gb205,3,none⟩=some (.int .u64 t201)∧w'.cell? ⟨gb205,4,none⟩=some (.int .i64 (wrap64 (t195)))∧w'.cell? ⟨gb192,0,none⟩=some (.string t202)∧w'.cell? ⟨gb192,1,none⟩=some (.bool false)) (ds:=[]) (mB_ 4 0) (by kernel_rfl) rfl rfl ⟨Km_ BK205 0,Km_ BK205 1,Km_ BK205 2,Km_ BK205 3,Km_ BK205 4,Km_ BK192 0,Km_ BK192 1⟩ (fun hHeld=>?_)
 generalize w54.drew=w55 at BK192 BK193 BK194 BK204 BK205 HB hHeld ⊢
 refine Ko_ 0 28 (mB_ 4 1) (by kernel_rfl) hHeld ?_
 refine Ko_ 1 29 (mB_ 4 3) (by kernel_rfl) hHeld ?_
 refine one_ (i:=2) (N:=none) (mB_ 4 7) rfl rfl (by kernel_rfl) (by decide) (fun K hK=>?_)
 have hs56:w55.cell? ⟨gb193,0,none⟩=some (.int .u64 0):=(blk_cell BK193.out 0).trans rfl
 have hfs56:=blk_frozen BK193.out 0
 have:=NB192_193.out
 have:=NB194_193.out
 have:=NB204_193.out
 have:=NB205_193.out
 have:=NB193_192.out
 have:=NB193_194.out
 have:=NB193_204.out
 have:=NB193_205.out
 have hs57:w55.cell? ⟨gb193,1,none⟩=some (.int .u64 0):=(blk_cell BK193.out 1).trans rfl
 have hfs57:=blk_frozen BK193.out 1
 have:=NB192_193.out
 have:=NB194_193.out
 have:=NB204_193.out
 have:=NB205_193.out
 have:=NB193_192.out
 have:=NB193_194.out
 have:=NB193_204.out
 have:=NB193_205.out
 have hs58:w55.cell? ⟨gb193,2,none⟩=some (.int .u64 0):=(blk_cell BK193.out 2).trans rfl
 have hfs58:=blk_frozen BK193.out 2
 have:=NB192_193.out
 have:=NB194_193.out
 have:=NB204_193.out
 have:=NB205_193.out
 have:=NB193_192.out
 have:=NB193_194.out
 have:=NB193_204.out
 have:=NB193_205.out
 have hs59:w55.cell? ⟨gb193,3,none⟩=some (.int .u64 0):=(blk_cell BK193.out 3).trans rfl
 have hfs59:=blk_frozen BK193.out 3
 have:=NB192_193.out
 have:=NB194_193.out
 have:=NB204_193.out
 have:=NB205_193.out
 have:=NB193_192.out
 have:=NB193_194.out
 have:=NB193_204.out
 have:=NB193_205.out
 have hs60:w55.cell? ⟨gb193,4,none⟩=some (.int .i64 0):=(blk_cell BK193.out 4).trans rfl
 have hfs60:=blk_frozen BK193.out 4
 have:=NB192_193.out
 have:=NB194_193.out
 have:=NB204_193.out
 have:=NB205_193.out
 have:=NB193_192.out
 have:=NB193_194.out
 have:=NB193_204.out
 have:=NB193_205.out
 refine skip_ (w1:=?_) (by rfl) rfl ?_ ?_
 rotate_left
 ·go_simp
  rfl
 refine hK.out _ _ ⟨(Kj_ NB205_193 ((Kj_ NB205_193 ((Kj_ NB205_193 ((Kj_ NB205_193 ((Kj_ NB205_193 (hHeld.1)))))))))),(Kj_ NB205_193 ((Kj_ NB205_193 ((Kj_ NB205_193 ((Kj_ NB205_193 ((Kj_ NB205_193 (hHeld.2.1)))))))))),(Kj_ NB205_193 ((Kj_ NB205_193 ((Kj_ NB205_193 ((Kj_ NB205_193 ((Kj_ NB205_193 (hHeld.2.2.1)))))))))),(Kj_ NB205_193 ((Kj_ NB205_193 ((Kj_ NB205_193 ((Kj_ NB205_193 ((Kj_ NB205_193 (hHeld.2.2.2.1)))))))))),(Kj_ NB205_193 ((Kj_ NB205_193 ((Kj_ NB205_193 ((Kj_ NB205_193 ((Kj_ NB205_193 (hHeld.2.2.2.2.1)))))))))),(Kj_ NB192_193 ((Kj_ NB192_193 ((Kj_ NB192_193 ((Kj_ NB192_193 ((Kj_ NB192_193 (hHeld.2.2.2.2.2.1)))))))))),(Kj_ NB192_193 ((Kj_ NB192_193 ((Kj_ NB192_193 ((Kj_ NB192_193 ((Kj_ NB192_193 (hHeld.2.2.2.2.2.2))))))))))⟩ (fun hHeld=>?_)
 clear hK K
 refine one_ (i:=3) (N:=none) (mB_ 4 15) rfl rfl (by kernel_rfl) (by decide) (fun K hK=>?_)
 have hs61:w55.cell? ⟨gb194,0,none⟩=some (.string (⟨#[]⟩:ByteArray)):=(blk_cell BK194.out 0).trans rfl
 have hfs61:=blk_frozen BK194.out 0
 have:=NB192_194.out
 have:=NB193_194.out
 have:=NB204_194.out
 have:=NB205_194.out
 have:=NB194_192.out
 have:=NB194_193.out
 have:=NB194_204.out
 have:=NB194_205.out
 have hs62:w55.cell? ⟨gb194,1,none⟩=some (.bool false):=(blk_cell BK194.out 1).trans rfl
 have hfs62:=blk_frozen BK194.out 1
 have:=NB192_194.out
 have:=NB193_194.out
 have:=NB204_194.out
 have:=NB205_194.out
 have:=NB194_192.out
 have:=NB194_193.out
 have:=NB194_204.out
 have:=NB194_205.out
 refine skip_ (w1:=?_) (by rfl) rfl ?_ ?_
 rotate_left
 ·go_simp
  rfl
 refine hK.out _ _ ⟨(Kj_ NB205_194 ((Kj_ NB205_194 (hHeld.1)))),(Kj_ NB205_194 ((Kj_ NB205_194 (hHeld.2.1)))),(Kj_ NB205_194 ((Kj_ NB205_194 (hHeld.2.2.1)))),(Kj_ NB205_194 ((Kj_ NB205_194 (hHeld.2.2.2.1)))),(Kj_ NB205_194 ((Kj_ NB205_194 (hHeld.2.2.2.2.1)))),(Kj_ NB192_194 ((Kj_ NB192_194 (hHeld.2.2.2.2.2.1)))),(Kj_ NB192_194 ((Kj_ NB192_194 (hHeld.2.2.2.2.2.2))))⟩ (fun hHeld=>?_)
 clear hK K
 refine done_ (by kernel_rfl) ?_
 try go_wp2
 refine bodyPost_ret (results_cc rfl _ _ gb193 gb194 30 134 #[.int .u64 t198,.int .u64 t199,.int .u64 t200,.int .u64 t201,.int .i64 (wrap64 (t195))] #[.string t202,.bool false] (0,0) (0,0) _ _ rfl (by (repeat (first|(with_reducible first|refine blk_drewN ?_ _|refine blk_drew ?_|refine blk_alloc ?_ _)|refine blk_far ?_ NB193_194.out _));refine blk_put (cs:=#[.int .u64 t198,.int .u64 t199,.int .u64 t200,.int .u64 t201,.int .i64 0]) ?_ 4 _ rfl;refine Kv_ ?_;exact Kput5_abcd_ (Kq_ BK193)) Try.underlying30 rfl (by kernel_rfl) rfl (by refine Kv_ ?_;refine blk_put (cs:=#[.string t202,.bool false]) ?_ 1 _ rfl;refine Kv_ ?_;refine blk_put (cs:=#[.string (⟨#[]⟩:ByteArray),.bool false]) ?_ 0 _ rfl;exact K1b_ BK194 NB194_193) Try.underlying134 rfl (by kernel_rfl)) rfl ?_
 exact ⟨Kh_,by repeat (first|(with_reducible first|exact HB.out|apply below_alloc|apply pw_below_drewN|apply below_drew1|refine below_set ?_ GW192.out|refine below_set ?_ GW193.out|refine below_set ?_ GW194.out|refine below_set ?_ GW204.out|refine below_set ?_ GW205.out)|exact HB.out)⟩
def pack_Reader_Done.f (a0_0:ByteArray) (a0_1:Bool):Option (Bool):=if a0_1=true then (some false) else (some (a0_0.toList == ([]:List UInt8)))
set_option maxHeartbeats 8000000 in
set_option maxRecDepth 100000 in
theorem pack_Reader_Done.calls (a0_0:ByteArray) (a0_1:Bool) (r:Bool) (w:World) (h:pack_Reader_Done.f a0_0 a0_1=some r) :
  Calls Try.prog 100 #[.agg #[.string a0_0,.bool a0_1]] w fun e w'=>e = .returned (.bool r)∧Below w.heap.size w w':=by
 have hu134:=Try.underlying134
 have HB:=As_ (Below.refl w.heap.size w)
 unfold pack_Reader_Done.f at h
 have H:=h
 clear h
 by_cases c2:a0_1=true
 ·subst c2
  rw [if_pos rfl] at H
  obtain rfl:=Option.some.inj H
  go_enter Try.func100,Try.ntmps100
  go_wp2_with (first|((with_reducible refine gate_dst (N:=1) rfl ?_);refine Ka_ 1 #[.string a0_0,.bool true] 134 ?_;intro gb207 hg w3 hbox hb;have BK207:=As_ (hbox);have GW207:=Kw_ HB hg;replace HB:=Ks_ HB hb;clear hb hbox hg;obtain ⟨_,_,_,_⟩:=Ke2_ BK207.out))
  go_ret
  exact ⟨Kh_,Kz_ HB GW207⟩
 replace c2:=Bool.eq_false_iff.mpr c2
 subst c2
 rw [if_neg Bool.false_ne_true] at H
 obtain rfl:=Option.some.inj H
 go_enter Try.func100,Try.ntmps100
 go_wp2_with (first|((with_reducible refine gate_dst (N:=1) rfl ?_);refine Ka_ 1 #[.string a0_0,.bool false] 134 ?_;intro gb207 hg w5 hbox hb;have BK207:=As_ (hbox);have GW207:=Kw_ HB hg;replace HB:=Ks_ HB hb;clear hb hbox hg;obtain ⟨_,_,_,_⟩:=Ke2_ BK207.out))
 go_ret
 exact ⟨Kh_,Kz_ HB GW207⟩
mutual
def item_Read.l0:Nat→Int→Int→Int→Int→Int→Int→List (S107)→ByteArray→Bool→Option (Int × Int × Int × Int × Int × (List (S107)) × Bool)
 | 0,_,_,_,_,_,_,_,_,_=>none
 | k+1,x4,x108,x105,x104,x103,x102,x101,x110,x109=>if x4 > 0 then (item_Read.j1 k x4 (!x109) x108 x105 x104 x103 x102 x101 x110 x109) else (item_Read.j1 k x4 false x108 x105 x104 x103 x102 x101 x110 x109)
def item_Read.j1:Nat→Int→Bool→Int→Int→Int→Int→Int→List (S107)→ByteArray→Bool→Option (Int × Int × Int × Int × Int × (List (S107)) × Bool)
 | 0,_,_,_,_,_,_,_,_,_,_=>none
 | k+1,x4,x26,x108,x105,x104,x103,x102,x101,x110,x109=>if x26=true then ((pack_Reader_Text.f k x110 x109 16).bind fun bt221=>((pack_Reader_Text.f k bt221.2.1 bt221.2.2 16).bind fun bt224=>((pack_Reader_Number.f bt224.2.1 bt224.2.2 1).bind fun bt227=>(if bt227.1 > 1 then (some (0,0,0,0,0,([]:List (S107)),false)) else (if bt227.1=1 then (if x101.length<2513169434916 then (item_Read.l0 k (IntKind.u64.wrap (x4 - 1)) x108 x105 x104 x103 x102 (x101++[(⟨bt221.1,bt224.1,(⟨#[]⟩:ByteArray),(bt227.1 == 1)⟩:S107)]) bt227.2.1 bt227.2.2) else (none)) else ((pack_Reader_Text.f k bt227.2.1 bt227.2.2 32).bind fun bt233=>(if x101.length<2513169434916 then (item_Read.l0 k (IntKind.u64.wrap (x4 - 1)) x108 x105 x104 x103 x102 (x101++[(⟨bt221.1,bt224.1,bt233.1,(bt227.1 == 1)⟩:S107)]) bt233.2.1 bt233.2.2) else (none)))))))) else ((pack_Reader_Done.f x110 x109).bind fun t239=>(if t239=true then ((item_Whole.f x108 x105 x104 x103 x102 x101).bind fun t240=>(if t240=true then (some (x108,x105,x104,x103,x102,x101,true)) else (some (0,0,0,0,0,([]:List (S107)),false)))) else (some (0,0,0,0,0,([]:List (S107)),false))))
end
def item_Read.f (k:Nat) (a0:ByteArray):Option (Int × Int × Int × Int × Int × (List (S107)) × Bool):=(stamp_Get.f k a0 false).bind fun bt210=>((pack_Reader_Number.f bt210.2.2.2.2.2.1 bt210.2.2.2.2.2.2 1).bind fun bt217=>(item_Read.l0 k bt217.1 bt210.1 bt210.2.1 bt210.2.2.1 bt210.2.2.2.1 bt210.2.2.2.2.1 ([]:List (S107)) bt217.2.1 bt217.2.2))
set_option maxHeartbeats 8000000 in
set_option maxRecDepth 100000 in
theorem item_Read.calls (k:Nat) (a0:ByteArray) (r1:Int) (r2:Int) (r3:Int) (r4:Int) (r5:Int) (r6:List (S107)) (r7:Bool) (w:World) (h:item_Read.f k a0=some (r1,r2,r3,r4,r5,r6,r7)) :
  Calls Try.prog 78 #[.string a0] w fun e w'=>∃ v5_:Value,e = .returned (.tuple #[.agg #[.int .u64 r1,.int .u64 r2,.int .u64 r3,.int .u64 r4,.int .i64 r5,v5_],.bool r7])∧Kd.R k107 107 w' w.heap.size (fun _=>True) v5_ r6∧Below w.heap.size w w':=by
 have hu33:=Try.underlying33
 have hu134:=Try.underlying134
 have hu30:=Try.underlying30
 have hu107:=Try.underlying107
 have HB:=As_ (Below.refl w.heap.size w)
 unfold item_Read.f at h
 have H:=h
 clear h
 obtain ⟨⟨t210,t211,t212,t213,t214,t215,t216⟩,A2,H⟩:=Kbind_ H
 (try dsimp only at H)
 obtain ⟨⟨t217,t218,t219⟩,A3,H⟩:=Kbind_ H
 (try dsimp only at H)
 have H':=As_ H
 clear H
 go_enter Try.func78,Try.ntmps78
 go_wp2_with (first|((with_reducible refine gate_dst (N:=2) rfl ?_);refine Ka_ 2 #[.int .u64 0,.int .u64 0,.int .u64 0,.int .u64 0,.int .i64 0,.slice none 0 0] 33 ?_;intro gb208 hg w4 hbox hb;have BK208:=As_ (hbox);have GW208:=Kw_ HB hg;replace HB:=Ks_ HB hb;clear hb hbox hg)|((with_reducible refine gate_dst (N:=6) rfl ?_);refine Ka_ 6 #[.string (⟨#[]⟩:ByteArray),.bool false] 134 ?_;intro gb209 hg w5 hbox hb;have BK209:=As_ (hbox);have GW209:=Kw_ HB hg;have NB208_209:=Kl_ BK208 hg;have NB209_208:=Kr_ BK208 hg;replace BK208:=Kb_ BK208 hb;replace HB:=Ks_ HB hb;clear hb hbox hg)|((with_reducible refine gate_callee (f:=99) rfl ?_);refine Kg_ (some 11) rfl rfl Try.func99 (by kernel_rfl) rfl #[.agg #[.string a0,.bool false]] rfl ?_;(with_reducible refine (stamp_Get.calls k a0 false t210 t211 t212 t213 t214 t215 t216 _ A2.out).mono ?_);rintro e w6 ⟨rfl,hb⟩;refine ⟨_,rfl,?_⟩;replace BK208:=Kb_ BK208 hb;replace BK209:=Kb_ BK209 hb;replace HB:=Ks_ HB hb;(try clear hb);(try clear hk);have hnb7:=NB208_209.out;have hnc7:=NB209_208.out;obtain ⟨hcz8_0,hcz8_1,hcz8_2,hcz8_3,hcz8_4,hcz8_5,hfz8_0,hfz8_1,hfz8_2,hfz8_3,hfz8_4,hfz8_5⟩:=Ke6_ BK208.out;obtain ⟨hcz9_0,hcz9_1,hfz9_0,hfz9_1⟩:=Ke2_ BK209.out)|((with_reducible refine gate_callee (f:=75) rfl ?_);refine Kg_ (some 17) rfl rfl Try.func75 (by kernel_rfl) rfl #[.agg #[.string t215,.bool t216],.int .i64 1] rfl ?_;(with_reducible refine (pack_Reader_Number.calls t215 t216 1 t217 t218 t219 _ A3.out).mono ?_);rintro e w10 ⟨rfl,hb⟩;refine ⟨_,rfl,?_⟩;replace BK208:=As_ (blk_below (g:=gb208) (o:=.cells #[.int .u64 t210,.int .u64 t211,.int .u64 t212,.int .u64 t213,.int .i64 t214,.slice none 0 0] 33 (0,0)) (by (repeat (first|(with_reducible first|refine blk_drewN ?_ _|refine blk_drew ?_|refine blk_alloc ?_ _)|refine blk_far ?_ NB208_209.out _));refine blk_put (cs:=#[.int .u64 t210,.int .u64 t211,.int .u64 t212,.int .u64 t213,.int .i64 0,.slice none 0 0]) ?_ 4 _ rfl;refine Kv_ ?_;exact Kput6_abcd_ (Kq_ BK208)) hb);replace BK209:=As_ (blk_below (g:=gb209) (o:=.cells #[.string t215,.bool t216] 134 (0,0)) (by refine Kv_ ?_;refine blk_put (cs:=#[.string t215,.bool false]) ?_ 1 _ rfl;refine Kv_ ?_;refine blk_put (cs:=#[.string (⟨#[]⟩:ByteArray),.bool false]) ?_ 0 _ rfl;exact K1b_ BK209 NB209_208) hb);replace HB:=As_ (below_step (K2a_ HB GW208 GW209) hb);(try clear hb);(try clear hk);obtain ⟨hcz11_0,hcz11_1,hfz11_0,hfz11_1⟩:=Ke2_ BK209.out))
 go_loopg [4] k (fun kq v4 w'=>∃ (x4_1:Int) (x108_1:Int) (x105_1:Int) (x104_1:Int) (x103_1:Int) (x102_1:Int) (x101_1:List (S107)) (x110_1:ByteArray) (x109_1:Bool) (u209005:Value),v4 = .int .u64 x4_1∧Aside0 (item_Read.l0 kq x4_1 x108_1 x105_1 x104_1 x103_1 x102_1 x101_1 x110_1 x109_1=some (r1,r2,r3,r4,r5,r6,r7))∧Aside0 (kq≤k)∧Aside0 (Kd.R k107 107 w' w.heap.size (fun _=>True) u209005 x101_1)∧Aside0 (w'.heap[gb208]?=some (.cells #[.int .u64 x108_1,.int .u64 x105_1,.int .u64 x104_1,.int .u64 x103_1,.int .i64 x102_1,u209005] 33 (0,0)))∧Aside0 (w'.heap[gb209]?=some (.cells #[.string x110_1,.bool x109_1] 134 (0,0)))∧Aside0 (Below w.heap.size w w'))
 case atStart=>exact ⟨(t217),(t210),(t211),(t212),(t213),(t214),(([]:List (S107))),(t218),(t219),(.slice none 0 0),(by first|rfl|(simp;done)|(simp [*];done)),H',⟨Nat.le_refl _⟩,⟨by first|exact Kd.R_nil _ _ _ _ _|exact Kd.N_nil _ _ _ _ _|exact Kd.V_nil _ _ _ _ _|exact Kd.Q_nil _ _ _ _ _|exact Kd.S_nil _ _ _ _ _⟩,⟨by exact K1b_ BK208 NB208_209⟩,⟨by refine Kv_ ?_;exact Kput2_ (Kq_ BK209)⟩,⟨K2a_ HB GW208 GW209⟩⟩
 case round =>
  clear H'
  try clear p2
  try clear c7
  try clear c9
  try clear hcz11_0
  try clear hcz11_1
  try clear hcz8_0
  try clear hcz8_1
  try clear hcz8_2
  try clear hcz8_3
  try clear hcz8_4
  try clear hcz8_5
  try clear hcz9_0
  try clear hcz9_1
  try clear hfz11_0
  try clear hfz11_1
  try clear hfz8_0
  try clear hfz8_1
  try clear hfz8_2
  try clear hfz8_3
  try clear hfz8_4
  try clear hfz8_5
  try clear hfz9_0
  try clear hfz9_1
  obtain ⟨x4_1,x108_1,x105_1,x104_1,x103_1,x102_1,x101_1,x110_1,x109_1,u209005,rfl,HA,HK1,HO_101,BK208,BK209,HB⟩:=hrel
  cases gk with
  | zero=>exact absurd HA.out (by simp [item_Read.l0])
  | succ k1 =>
   have H:=HA.out
   clear HA
   simp only [item_Read.l0] at H
   have HC12:=As_ H
   clear H
   go_upto_region 5 with (fail)
   go_cut [26] (fun v26 wc=>∃ (kq:Nat) (x26_11:Bool),v26 = .bool x26_11∧Aside0 (item_Read.j1 kq x4_1 x26_11 x108_1 x105_1 x104_1 x103_1 x102_1 x101_1 x110_1 x109_1=some (r1,r2,r3,r4,r5,r6,r7))∧Aside0 (kq≤k1)∧Aside0 (Kd.R k107 107 wc w.heap.size (fun _=>True) u209005 x101_1)∧Aside0 (wc.heap[gb208]?=some (.cells #[.int .u64 x108_1,.int .u64 x105_1,.int .u64 x104_1,.int .u64 x103_1,.int .i64 x102_1,u209005] 33 (0,0)))∧Aside0 (wc.heap[gb209]?=some (.cells #[.string x110_1,.bool x109_1] 134 (0,0)))∧Aside0 (Below w.heap.size w wc))
   case first =>
    have H:=HC12.out
    clear HC12
    by_cases c13:x4_1 > 0
    rotate_left
    ·rw [if_neg c13] at H
     have c13b0:decide (0<x4_1)=false:=decide_eq_false c13
     clear c13
     (first|rw [c13b0]|(simp only [i64_w,i32_w];rw [c13b0])|skip)
     have H':=As_ H
     clear H
     go_wp2
     go_meet
     case rel=>exact ⟨_,(false),(by first|rfl|(simp;done)|(simp [*];done)),H',⟨by have:=HK1.out;first|omega|exact Nat.le_refl _⟩,⟨by (with_reducible repeat (first|apply Kd.R_alloc|apply Kd.R_drewN|apply Kd.R_drew));exact HO_101.out⟩,⟨by exact Kq_ BK208⟩,⟨by exact Kq_ BK209⟩,⟨K2a_ HB GW208 GW209⟩⟩
    rw [if_pos c13] at H
    have c13b0:decide (0<x4_1)=true:=decide_eq_true c13
    clear c13
    (first|rw [c13b0]|(simp only [i64_w,i32_w];rw [c13b0])|skip)
    have H':=As_ H
    clear H
    have hnb14:=NB209_208.out
    have hnc14:=NB208_209.out
    obtain ⟨hcz15_0,hcz15_1,hfz15_0,hfz15_1⟩:=Ke2_ BK209.out
    go_wp2
    go_meet
    case rel=>exact ⟨_,(!x109_1),(by first|rfl|(simp;done)|(simp [*];done)),H',⟨by have:=HK1.out;first|omega|exact Nat.le_refl _⟩,⟨by (with_reducible repeat (first|apply Kd.R_alloc|apply Kd.R_drewN|apply Kd.R_drew));exact HO_101.out⟩,⟨by exact Kq_ BK208⟩,⟨by exact Kq_ BK209⟩,⟨K2a_ HB GW208 GW209⟩⟩
   case rest =>
    clear HC12
    try clear c1
    try clear p2
    try clear c7
    try clear c9
    try clear c13
    try clear c13b0
    try clear c14
    try clear hcz11_0
    try clear hcz11_1
    try clear hcz15_0
    try clear hcz15_1
    try clear hcz8_0
    try clear hcz8_1
    try clear hcz8_2
    try clear hcz8_3
    try clear hcz8_4
    try clear hcz8_5
    try clear hcz9_0
    try clear hcz9_1
    try clear hfz11_0
    try clear hfz11_1
    try clear hfz15_0
    try clear hfz15_1
    try clear hfz8_0
    try clear hfz8_1
    try clear hfz8_2
    try clear hfz8_3
    try clear hfz8_4
    try clear hfz8_5
    try clear hfz9_0
    try clear hfz9_1
    try clear p2
    obtain ⟨kq,x26_11,rfl,HA,HJ11,HO_101,BK208,BK209,HB⟩:=hcut
    cases kq with
    | zero=>exact absurd HA.out (by simp [item_Read.j1])
    | succ kj11 =>
     have H:=HA.out
     clear HA
     simp only [item_Read.j1] at H
     by_cases c16:x26_11=true
     rotate_left
     ·replace c16:=Bool.eq_false_iff.mpr c16
      subst c16
      rw [if_neg Bool.false_ne_true] at H
      obtain ⟨t239,A78,H⟩:=Kbind_ H
      (try dsimp only at H)
      by_cases c79:t239=true
      rotate_left
      ·replace c79:=Bool.eq_false_iff.mpr c79
       subst c79
       rw [if_neg Bool.false_ne_true] at H
       simp only [Option.some.injEq,Prod.mk.injEq] at H
       obtain ⟨rfl,rfl,rfl,rfl,rfl,rfl,rfl⟩:=H
       have hnb96:=NB209_208.out
       have hnc96:=NB208_209.out
       obtain ⟨_,_,_,_⟩:=Ke2_ BK209.out
       go_wp2_with (first|((with_reducible refine gate_callee (f:=100) rfl ?_);refine Kg_ (some 68) rfl rfl Try.func100 (by kernel_rfl) rfl #[.agg #[.string x110_1,.bool x109_1]] rfl ?_;(with_reducible refine (pack_Reader_Done.calls x110_1 x109_1 false _ A78.out).mono ?_);rintro e w98 ⟨rfl,hb⟩;refine ⟨_,rfl,?_⟩;replace HO_101:=As_ (Kd.R_below (Ku_ HO_101) hb);replace BK208:=Kb_ BK208 hb;replace BK209:=Kb_ BK209 hb;replace HB:=Ks_ HB hb;(try clear hb);(try clear hk);obtain ⟨_,_,_,_,_,_,_,_,_,_,_,_⟩:=Ke6_ BK208.out))
       refine bodyPost_ret (results_ct rfl _ _ gb208 33 #[.int .u64 0,.int .u64 0,.int .u64 0,.int .u64 0,.int .i64 0,.slice none 0 0] (0,0) _ rfl (by refine Kv_ ?_;exact Kput6_ (Kq_ BK208)) Try.underlying33 rfl (by kernel_rfl)) rfl ?_
       exact ⟨_,by first|rfl|(simp [errW_none,errW_some] <;> rfl)|(simp [*,errW_none,errW_some] <;> rfl),by first|exact Kd.R_nil _ _ _ _ _|exact Kd.N_nil _ _ _ _ _|exact Kd.V_nil _ _ _ _ _|exact Kd.Q_nil _ _ _ _ _|exact Kd.S_nil _ _ _ _ _,K2a_ HB GW208 GW209⟩
      subst c79
      rw [if_pos rfl] at H
      obtain ⟨t240,A80,H⟩:=Kbind_ H
      (try dsimp only at H)
      by_cases c81:t240=true
      rotate_left
      ·replace c81:=Bool.eq_false_iff.mpr c81
       subst c81
       rw [if_neg Bool.false_ne_true] at H
       simp only [Option.some.injEq,Prod.mk.injEq] at H
       obtain ⟨rfl,rfl,rfl,rfl,rfl,rfl,rfl⟩:=H
       have hnb89:=NB209_208.out
       have hnc89:=NB208_209.out
       obtain ⟨_,_,_,_⟩:=Ke2_ BK209.out
       go_wp2_with (first|((with_reducible refine gate_callee (f:=100) rfl ?_);refine Kg_ (some 68) rfl rfl Try.func100 (by kernel_rfl) rfl #[.agg #[.string x110_1,.bool x109_1]] rfl ?_;(with_reducible refine (pack_Reader_Done.calls x110_1 x109_1 true _ A78.out).mono ?_);rintro e w91 ⟨rfl,hb⟩;refine ⟨_,rfl,?_⟩;replace HO_101:=As_ (Kd.R_below (Ku_ HO_101) hb);replace BK208:=Kb_ BK208 hb;replace BK209:=Kb_ BK209 hb;replace HB:=Ks_ HB hb;(try clear hb);(try clear hk);obtain ⟨_,_,_,_,_,_,_,_,_,_,_,_⟩:=Ke6_ BK208.out;obtain ⟨Ao93,co93,eo93⟩:=Kd.R_slice HO_101.out;subst eo93)|(go_at_call 73;(with_reducible refine (item_Whole.calls x108_1 x105_1 x104_1 x103_1 x102_1 _ _ x101_1 false _ ?side1 ?side2 A80.out).mono ?_);(case side1=>repeat (first|exact (Kd.R_reads' HO_101.out).2.2|(with_reducible refine Kd.C_alloc ?_ _)|(with_reducible refine Kd.C_drewN ?_ _)|(with_reducible refine Kd.C_drew ?_)));(case side2=>exact (Kd.R_reads' HO_101.out).2.1);rintro e w94 ⟨rfl,hb⟩;replace HO_101:=As_ (Kd.R_below (Ku_ HO_101) hb);replace BK208:=Kb_ BK208 hb;replace BK209:=Kb_ BK209 hb;replace HB:=Ks_ HB hb;(try clear hb);(try clear hk);obtain ⟨_,_,_,_,_,_,_,_,_,_,_,_⟩:=Ke6_ BK208.out))
       refine bodyPost_ret (results_ct rfl _ _ gb208 33 #[.int .u64 0,.int .u64 0,.int .u64 0,.int .u64 0,.int .i64 0,.slice none 0 0] (0,0) _ rfl (by refine Kv_ ?_;exact Kput6_ (Kq_ BK208)) Try.underlying33 rfl (by kernel_rfl)) rfl ?_
       exact ⟨_,by first|rfl|(simp [errW_none,errW_some] <;> rfl)|(simp [*,errW_none,errW_some] <;> rfl),by first|exact Kd.R_nil _ _ _ _ _|exact Kd.N_nil _ _ _ _ _|exact Kd.V_nil _ _ _ _ _|exact Kd.Q_nil _ _ _ _ _|exact Kd.S_nil _ _ _ _ _,K2a_ HB GW208 GW209⟩
      subst c81
      rw [if_pos rfl] at H
      simp only [Option.some.injEq,Prod.mk.injEq] at H
      obtain ⟨rfl,rfl,rfl,rfl,rfl,rfl,rfl⟩:=H
      have hnb82:=NB209_208.out
      have hnc82:=NB208_209.out
      obtain ⟨_,_,_,_⟩:=Ke2_ BK209.out
      go_wp2_with (first|((with_reducible refine gate_callee (f:=100) rfl ?_);refine Kg_ (some 68) rfl rfl Try.func100 (by kernel_rfl) rfl #[.agg #[.string x110_1,.bool x109_1]] rfl ?_;(with_reducible refine (pack_Reader_Done.calls x110_1 x109_1 true _ A78.out).mono ?_);rintro e w84 ⟨rfl,hb⟩;refine ⟨_,rfl,?_⟩;replace HO_101:=As_ (Kd.R_below (Ku_ HO_101) hb);replace BK208:=Kb_ BK208 hb;replace BK209:=Kb_ BK209 hb;replace HB:=Ks_ HB hb;(try clear hb);(try clear hk);obtain ⟨_,_,_,_,_,_,_,_,_,_,_,_⟩:=Ke6_ BK208.out;obtain ⟨Ao86,co86,eo86⟩:=Kd.R_slice HO_101.out;subst eo86)|(go_at_call 73;(with_reducible refine (item_Whole.calls x108_1 x105_1 x104_1 x103_1 x102_1 _ _ x101_1 true _ ?side1 ?side2 A80.out).mono ?_);(case side1=>repeat (first|exact (Kd.R_reads' HO_101.out).2.2|(with_reducible refine Kd.C_alloc ?_ _)|(with_reducible refine Kd.C_drewN ?_ _)|(with_reducible refine Kd.C_drew ?_)));(case side2=>exact (Kd.R_reads' HO_101.out).2.1);rintro e w87 ⟨rfl,hb⟩;replace HO_101:=As_ (Kd.R_below (Ku_ HO_101) hb);replace BK208:=Kb_ BK208 hb;replace BK209:=Kb_ BK209 hb;replace HB:=Ks_ HB hb;(try clear hb);(try clear hk);obtain ⟨_,_,_,_,_,_,_,_,_,_,_,_⟩:=Ke6_ BK208.out))
      refine bodyPost_ret (results_ct rfl _ _ gb208 33 #[.int .u64 x108_1,.int .u64 x105_1,.int .u64 x104_1,.int .u64 x103_1,.int .i64 x102_1,.slice Ao86 x101_1.length co86] (0,0) _ rfl (by refine Kv_ ?_;exact Kput6_ (Kq_ BK208)) Try.underlying33 rfl (by kernel_rfl)) rfl ?_
      exact ⟨_,by first|rfl|(simp [errW_none,errW_some] <;> rfl)|(simp [*,errW_none,errW_some] <;> rfl),by (with_reducible repeat (first|apply Kd.R_alloc|apply Kd.R_drewN|apply Kd.R_drew));exact Kd.R_mono (Kd.R_far (p:=⟨gb208,5,none⟩) (Kd.R_far (p:=⟨gb208,4,none⟩) (Kd.R_far (p:=⟨gb208,3,none⟩) (Kd.R_far (p:=⟨gb208,2,none⟩) (Kd.R_far (p:=⟨gb208,1,none⟩) (Kd.R_far (p:=⟨gb208,0,none⟩) (Kd.R_types HO_101.out BK208.out (by decide)) (fun _ hk=>hk.2) (.int .u64 x108_1)) (fun _ hk=>hk.2) (.int .u64 x105_1)) (fun _ hk=>hk.2) (.int .u64 x104_1)) (fun _ hk=>hk.2) (.int .u64 x103_1)) (fun _ hk=>hk.2) (.int .i64 x102_1)) (fun _ hk=>hk.2) (.slice Ao86 x101_1.length co86)) (fun _ hk=>trivial),K2a_ HB GW208 GW209⟩
     subst c16
     rw [if_pos rfl] at H
     obtain ⟨⟨t221,t222,t223⟩,A17,H⟩:=Kbind_ H
     (try dsimp only at H)
     obtain ⟨⟨t224,t225,t226⟩,A18,H⟩:=Kbind_ H
     (try dsimp only at H)
     obtain ⟨⟨t227,t228,t229⟩,A19,H⟩:=Kbind_ H
     (try dsimp only at H)
     by_cases c20:t227 > 1
     ·rw [if_pos c20] at H
      have c20b0:decide (1<t227)=true:=decide_eq_true c20
      clear c20
      simp only [Option.some.injEq,Prod.mk.injEq] at H
      obtain ⟨rfl,rfl,rfl,rfl,rfl,rfl,rfl⟩:=H
      go_wp2_with (first|((with_reducible refine gate_dst (N:=7) rfl ?_);refine Ka_ 7 #[.string (⟨#[]⟩:ByteArray),.string (⟨#[]⟩:ByteArray),.string (⟨#[]⟩:ByteArray),.bool false] 107 ?_;intro gb220 hg w21 hbox hb;have BK220:=As_ (hbox);have GW220:=Kw_ HB hg;have NB208_220:=Kl_ BK208 hg;have NB220_208:=Kr_ BK208 hg;have NB209_220:=Kl_ BK209 hg;have NB220_209:=Kr_ BK209 hg;replace HO_101:=As_ (Kd.R_below (Kd.R_elderB (Ku_ HO_101) gb220 (Nat.le_of_eq hg.symm)) hb);replace BK208:=Kb_ BK208 hb;replace BK209:=Kb_ BK209 hb;replace HB:=Ks_ HB hb;clear hb hbox hg;have hnb22:=NB209_208.out;have hnc22:=NB208_209.out;have hnb23:=NB209_220.out;have hnc23:=NB220_209.out;obtain ⟨_,_,_,_⟩:=Ke2_ BK209.out)|((with_reducible refine gate_callee (f:=77) rfl ?_);refine Kg_ (some 31) rfl rfl Try.func77 (by kernel_rfl) rfl #[.agg #[.string x110_1,.bool x109_1],.int .i64 16] rfl ?_;(with_reducible refine (pack_Reader_Text.calls kj11 x110_1 x109_1 16 t221 t222 t223 _ A17.out).mono ?_);rintro e w25 ⟨rfl,hb⟩;refine ⟨_,rfl,?_⟩;replace HO_101:=As_ (Kd.R_below (Ku_ HO_101) hb);replace BK208:=Kb_ BK208 hb;replace BK209:=Kb_ BK209 hb;replace BK220:=Kb_ BK220 hb;replace HB:=Ks_ HB hb;(try clear hb);(try clear hk);have hnb26:=NB220_208.out;have hnc26:=NB208_220.out;obtain ⟨_,_,_,_,_,_,_,_⟩:=Ke4_ BK220.out;obtain ⟨_,_,_,_⟩:=Ke2_ BK209.out)|((with_reducible refine gate_callee (f:=77) rfl ?_);refine Kg_ (some 37) rfl rfl Try.func77 (by kernel_rfl) rfl #[.agg #[.string t222,.bool t223],.int .i64 16] rfl ?_;(with_reducible refine (pack_Reader_Text.calls kj11 t222 t223 16 t224 t225 t226 _ A18.out).mono ?_);rintro e w29 ⟨rfl,hb⟩;refine ⟨_,rfl,?_⟩;replace HO_101:=As_ (Kd.R_below (by (with_reducible repeat (first|apply Kd.R_alloc|apply Kd.R_drewN|apply Kd.R_drew));exact (Kd.R_mono (Kd.R_mono (Kd.R_far (p:=⟨gb209,1,none⟩) (Kd.R_far (p:=⟨gb209,0,none⟩) (Kd.R_far (p:=⟨gb220,0,none⟩) (Kd.R_types (Kd.R_mono HO_101.out (fun k_ hk=>(⟨hk,hk.2⟩:_∧k_ ≠ gb220))) BK209.out (by decide)) (fun _ hk=>hk.1.2) (.string t221)) (fun _ hk=>hk.2) (.string t222)) (fun _ hk=>hk.2) (.bool t223)) (fun _ h_=>h_.1)) (fun _ h_=>h_.1))) hb);replace BK208:=As_ (blk_below (g:=gb208) (o:=.cells #[.int .u64 x108_1,.int .u64 x105_1,.int .u64 x104_1,.int .u64 x103_1,.int .i64 x102_1,u209005] 33 (0,0)) (K2b_ BK208 NB208_209 NB208_220) hb);replace BK209:=As_ (blk_below (g:=gb209) (o:=.cells #[.string t222,.bool t223] 134 (0,0)) (by refine Kv_ ?_;refine blk_put (cs:=#[.string t222,.bool x109_1]) ?_ 1 _ rfl;refine Kv_ ?_;refine blk_put (cs:=#[.string x110_1,.bool x109_1]) ?_ 0 _ rfl;exact K1b_ BK209 NB209_220) hb);replace BK220:=As_ (blk_below (g:=gb220) (o:=.cells #[.string t221,.string (⟨#[]⟩:ByteArray),.string (⟨#[]⟩:ByteArray),.bool false] 107 (0,0)) (by (repeat (first|(with_reducible first|refine blk_drewN ?_ _|refine blk_drew ?_|refine blk_alloc ?_ _)|refine blk_far ?_ NB220_209.out _));refine blk_put (cs:=#[.string (⟨#[]⟩:ByteArray),.string (⟨#[]⟩:ByteArray),.string (⟨#[]⟩:ByteArray),.bool false]) ?_ 0 _ rfl;exact Kq_ BK220) hb);replace HB:=As_ (below_step (K3a_ HB GW208 GW209 GW220) hb);(try clear hb);(try clear hk);obtain ⟨_,_,_,_,_,_,_,_⟩:=Ke4_ BK220.out;obtain ⟨_,_,_,_⟩:=Ke2_ BK209.out)|((with_reducible refine gate_callee (f:=75) rfl ?_);refine Kg_ (some 43) rfl rfl Try.func75 (by kernel_rfl) rfl #[.agg #[.string t225,.bool t226],.int .i64 1] rfl ?_;(with_reducible refine (pack_Reader_Number.calls t225 t226 1 t227 t228 t229 _ A19.out).mono ?_);rintro e w32 ⟨rfl,hb⟩;refine ⟨_,rfl,?_⟩;replace HO_101:=As_ (Kd.R_below (by (with_reducible repeat (first|apply Kd.R_alloc|apply Kd.R_drewN|apply Kd.R_drew));exact (Kd.R_mono (Kd.R_mono (Kd.R_far (p:=⟨gb209,1,none⟩) (Kd.R_far (p:=⟨gb209,0,none⟩) (Kd.R_far (p:=⟨gb220,1,none⟩) (Kd.R_types (Kd.R_mono HO_101.out (fun k_ hk=>(⟨hk,hk.2⟩:_∧k_ ≠ gb220))) BK209.out (by decide)) (fun _ hk=>hk.1.2) (.string t224)) (fun _ hk=>hk.2) (.string t225)) (fun _ hk=>hk.2) (.bool t226)) (fun _ h_=>h_.1)) (fun _ h_=>h_.1))) hb);replace BK208:=As_ (blk_below (g:=gb208) (o:=.cells #[.int .u64 x108_1,.int .u64 x105_1,.int .u64 x104_1,.int .u64 x103_1,.int .i64 x102_1,u209005] 33 (0,0)) (K2b_ BK208 NB208_209 NB208_220) hb);replace BK209:=As_ (blk_below (g:=gb209) (o:=.cells #[.string t225,.bool t226] 134 (0,0)) (by refine Kv_ ?_;refine blk_put (cs:=#[.string t225,.bool t223]) ?_ 1 _ rfl;refine Kv_ ?_;refine blk_put (cs:=#[.string t222,.bool t223]) ?_ 0 _ rfl;exact K1b_ BK209 NB209_220) hb);replace BK220:=As_ (blk_below (g:=gb220) (o:=.cells #[.string t221,.string t224,.string (⟨#[]⟩:ByteArray),.bool false] 107 (0,0)) (by (repeat (first|(with_reducible first|refine blk_drewN ?_ _|refine blk_drew ?_|refine blk_alloc ?_ _)|refine blk_far ?_ NB220_209.out _));refine blk_put (cs:=#[.string t221,.string (⟨#[]⟩:ByteArray),.string (⟨#[]⟩:ByteArray),.bool false]) ?_ 1 _ rfl;exact Kq_ BK220) hb);replace HB:=As_ (below_step (K3a_ HB GW208 GW209 GW220) hb);(try clear hb);(try clear hk);obtain ⟨_,_,_,_⟩:=Ke2_ BK209.out;obtain ⟨_,_,_,_,_,_,_,_,_,_,_,_⟩:=Ke6_ BK208.out))
      refine bodyPost_ret (results_ct rfl _ _ gb208 33 #[.int .u64 0,.int .u64 0,.int .u64 0,.int .u64 0,.int .i64 0,.slice none 0 0] (0,0) _ rfl (by refine Kv_ ?_;refine blk_put (cs:=#[.int .u64 0,.int .u64 0,.int .u64 0,.int .u64 0,.int .i64 0,u209005]) ?_ 5 _ rfl;refine Kv_ ?_;refine blk_put (cs:=#[.int .u64 0,.int .u64 0,.int .u64 0,.int .u64 0,.int .i64 x102_1,u209005]) ?_ 4 _ rfl;refine Kv_ ?_;refine blk_put (cs:=#[.int .u64 0,.int .u64 0,.int .u64 0,.int .u64 x103_1,.int .i64 x102_1,u209005]) ?_ 3 _ rfl;refine Kv_ ?_;refine blk_put (cs:=#[.int .u64 0,.int .u64 0,.int .u64 x104_1,.int .u64 x103_1,.int .i64 x102_1,u209005]) ?_ 2 _ rfl;refine Kv_ ?_;refine blk_put (cs:=#[.int .u64 0,.int .u64 x105_1,.int .u64 x104_1,.int .u64 x103_1,.int .i64 x102_1,u209005]) ?_ 1 _ rfl;refine Kv_ ?_;refine blk_put (cs:=#[.int .u64 x108_1,.int .u64 x105_1,.int .u64 x104_1,.int .u64 x103_1,.int .i64 x102_1,u209005]) ?_ 0 _ rfl;exact K1b_ BK208 NB208_209) Try.underlying33 rfl (by kernel_rfl)) rfl ?_
      exact ⟨_,by first|rfl|(simp [errW_none,errW_some] <;> rfl)|(simp [*,errW_none,errW_some] <;> rfl),by first|exact Kd.R_nil _ _ _ _ _|exact Kd.N_nil _ _ _ _ _|exact Kd.V_nil _ _ _ _ _|exact Kd.Q_nil _ _ _ _ _|exact Kd.S_nil _ _ _ _ _,K3a_ HB GW208 GW209 GW220⟩
     rw [if_neg c20] at H
     have c20b0:decide (1<t227)=false:=decide_eq_false c20
     clear c20
     by_cases c35:t227=1
     ·rw [if_pos c35] at H
      have c35b0:(t227 == 1)=true:=beq_iff_eq.mpr c35
      (try simp only [c35b0] at H)
      have c35b1:(t227 != 1)=false:=bne_eq_false_iff_eq.mpr c35
      clear c35
      by_cases c36:x101_1.length<2513169434916
      rotate_left
      ·rw [if_neg c36] at H
       exact absurd H (by simp)
      rw [if_pos c36] at H
      have LMc36:=As_ c36
      clear c36
      obtain ⟨y230,hy230⟩:∃ y_:List (S107),y_=(x101_1++[(⟨t221,t224,(⟨#[]⟩:ByteArray),true⟩:S107)]):=⟨_,rfl⟩
      replace H:(item_Read.l0 kj11 (IntKind.u64.wrap (x4_1 - 1)) x108_1 x105_1 x104_1 x103_1 x102_1 y230 t228 t229)=some (r1,r2,r3,r4,r5,r6,r7):=by first|(rw [hy230];with_reducible exact H)|(have H2_:=(Option.bind_some _ _).symm.trans H;rw [hy230];with_reducible exact H2_)|(have H2_:=(Option.bind_some _ _).symm.trans H;with_reducible exact H2_)|with_reducible exact H|(rw [hy230];exact H)|exact H
      have Ny230:=As_ hy230
      clear hy230
      have H':=As_ H
      clear H
      go_wp2_with (first|((with_reducible refine gate_dst (N:=7) rfl ?_);refine Ka_ 7 #[.string (⟨#[]⟩:ByteArray),.string (⟨#[]⟩:ByteArray),.string (⟨#[]⟩:ByteArray),.bool false] 107 ?_;intro gb220 hg w37 hbox hb;have BK220:=As_ (hbox);have GW220:=Kw_ HB hg;have NB208_220:=Kl_ BK208 hg;have NB220_208:=Kr_ BK208 hg;have NB209_220:=Kl_ BK209 hg;have NB220_209:=Kr_ BK209 hg;replace HO_101:=As_ (Kd.R_below (Kd.R_elderB (Ku_ HO_101) gb220 (Nat.le_of_eq hg.symm)) hb);replace BK208:=Kb_ BK208 hb;replace BK209:=Kb_ BK209 hb;replace HB:=Ks_ HB hb;clear hb hbox hg;have hnb38:=NB209_208.out;have hnc38:=NB208_209.out;have hnb39:=NB209_220.out;have hnc39:=NB220_209.out;obtain ⟨_,_,_,_⟩:=Ke2_ BK209.out)|((with_reducible refine gate_callee (f:=77) rfl ?_);refine Kg_ (some 31) rfl rfl Try.func77 (by kernel_rfl) rfl #[.agg #[.string x110_1,.bool x109_1],.int .i64 16] rfl ?_;(with_reducible refine (pack_Reader_Text.calls kj11 x110_1 x109_1 16 t221 t222 t223 _ A17.out).mono ?_);rintro e w41 ⟨rfl,hb⟩;refine ⟨_,rfl,?_⟩;replace HO_101:=As_ (Kd.R_below (Ku_ HO_101) hb);replace BK208:=Kb_ BK208 hb;replace BK209:=Kb_ BK209 hb;replace BK220:=Kb_ BK220 hb;replace HB:=Ks_ HB hb;(try clear hb);(try clear hk);have hnb42:=NB220_208.out;have hnc42:=NB208_220.out;obtain ⟨_,_,_,_,_,_,_,_⟩:=Ke4_ BK220.out;obtain ⟨_,_,_,_⟩:=Ke2_ BK209.out)|((with_reducible refine gate_callee (f:=77) rfl ?_);refine Kg_ (some 37) rfl rfl Try.func77 (by kernel_rfl) rfl #[.agg #[.string t222,.bool t223],.int .i64 16] rfl ?_;(with_reducible refine (pack_Reader_Text.calls kj11 t222 t223 16 t224 t225 t226 _ A18.out).mono ?_);rintro e w45 ⟨rfl,hb⟩;refine ⟨_,rfl,?_⟩;replace HO_101:=As_ (Kd.R_below (by (with_reducible repeat (first|apply Kd.R_alloc|apply Kd.R_drewN|apply Kd.R_drew));exact (Kd.R_mono (Kd.R_mono (Kd.R_far (p:=⟨gb209,1,none⟩) (Kd.R_far (p:=⟨gb209,0,none⟩) (Kd.R_far (p:=⟨gb220,0,none⟩) (Kd.R_types (Kd.R_mono HO_101.out (fun k_ hk=>(⟨hk,hk.2⟩:_∧k_ ≠ gb220))) BK209.out (by decide)) (fun _ hk=>hk.1.2) (.string t221)) (fun _ hk=>hk.2) (.string t222)) (fun _ hk=>hk.2) (.bool t223)) (fun _ h_=>h_.1)) (fun _ h_=>h_.1))) hb);replace BK208:=As_ (blk_below (g:=gb208) (o:=.cells #[.int .u64 x108_1,.int .u64 x105_1,.int .u64 x104_1,.int .u64 x103_1,.int .i64 x102_1,u209005] 33 (0,0)) (K2b_ BK208 NB208_209 NB208_220) hb);replace BK209:=As_ (blk_below (g:=gb209) (o:=.cells #[.string t222,.bool t223] 134 (0,0)) (by refine Kv_ ?_;refine blk_put (cs:=#[.string t222,.bool x109_1]) ?_ 1 _ rfl;refine Kv_ ?_;refine blk_put (cs:=#[.string x110_1,.bool x109_1]) ?_ 0 _ rfl;exact K1b_ BK209 NB209_220) hb);replace BK220:=As_ (blk_below (g:=gb220) (o:=.cells #[.string t221,.string (⟨#[]⟩:ByteArray),.string (⟨#[]⟩:ByteArray),.bool false] 107 (0,0)) (by (repeat (first|(with_reducible first|refine blk_drewN ?_ _|refine blk_drew ?_|refine blk_alloc ?_ _)|refine blk_far ?_ NB220_209.out _));refine blk_put (cs:=#[.string (⟨#[]⟩:ByteArray),.string (⟨#[]⟩:ByteArray),.string (⟨#[]⟩:ByteArray),.bool false]) ?_ 0 _ rfl;exact Kq_ BK220) hb);replace HB:=As_ (below_step (K3a_ HB GW208 GW209 GW220) hb);(try clear hb);(try clear hk);obtain ⟨_,_,_,_,_,_,_,_⟩:=Ke4_ BK220.out;obtain ⟨_,_,_,_⟩:=Ke2_ BK209.out)|((with_reducible refine gate_callee (f:=75) rfl ?_);refine Kg_ (some 43) rfl rfl Try.func75 (by kernel_rfl) rfl #[.agg #[.string t225,.bool t226],.int .i64 1] rfl ?_;(with_reducible refine (pack_Reader_Number.calls t225 t226 1 t227 t228 t229 _ A19.out).mono ?_);rintro e w48 ⟨rfl,hb⟩;refine ⟨_,rfl,?_⟩;replace HO_101:=As_ (Kd.R_below (by (with_reducible repeat (first|apply Kd.R_alloc|apply Kd.R_drewN|apply Kd.R_drew));exact (Kd.R_mono (Kd.R_mono (Kd.R_far (p:=⟨gb209,1,none⟩) (Kd.R_far (p:=⟨gb209,0,none⟩) (Kd.R_far (p:=⟨gb220,1,none⟩) (Kd.R_types (Kd.R_mono HO_101.out (fun k_ hk=>(⟨hk,hk.2⟩:_∧k_ ≠ gb220))) BK209.out (by decide)) (fun _ hk=>hk.1.2) (.string t224)) (fun _ hk=>hk.2) (.string t225)) (fun _ hk=>hk.2) (.bool t226)) (fun _ h_=>h_.1)) (fun _ h_=>h_.1))) hb);replace BK208:=As_ (blk_below (g:=gb208) (o:=.cells #[.int .u64 x108_1,.int .u64 x105_1,.int .u64 x104_1,.int .u64 x103_1,.int .i64 x102_1,u209005] 33 (0,0)) (K2b_ BK208 NB208_209 NB208_220) hb);replace BK209:=As_ (blk_below (g:=gb209) (o:=.cells #[.string t225,.bool t226] 134 (0,0)) (by refine Kv_ ?_;refine blk_put (cs:=#[.string t225,.bool t223]) ?_ 1 _ rfl;refine Kv_ ?_;refine blk_put (cs:=#[.string t222,.bool t223]) ?_ 0 _ rfl;exact K1b_ BK209 NB209_220) hb);replace BK220:=As_ (blk_below (g:=gb220) (o:=.cells #[.string t221,.string t224,.string (⟨#[]⟩:ByteArray),.bool false] 107 (0,0)) (by (repeat (first|(with_reducible first|refine blk_drewN ?_ _|refine blk_drew ?_|refine blk_alloc ?_ _)|refine blk_far ?_ NB220_209.out _));refine blk_put (cs:=#[.string t221,.string (⟨#[]⟩:ByteArray),.string (⟨#[]⟩:ByteArray),.bool false]) ?_ 1 _ rfl;exact Kq_ BK220) hb);replace HB:=As_ (below_step (K3a_ HB GW208 GW209 GW220) hb);(try clear hb);(try clear hk);obtain ⟨_,_,_,_⟩:=Ke2_ BK209.out;obtain ⟨_,_,_,_,_,_,_,_⟩:=Ke4_ BK220.out;obtain ⟨_,_,_,_,_,_,_,_,_,_,_,_⟩:=Ke6_ BK208.out)|((with_reducible refine gate_builtin (b:=.append) (xs:=#[.tmp 62,.tmp 64]) rfl ?_);at_builtin;refine Kd.R_append k107 (w0:=w) w.heap.size rfl (.tmp 62) (.tmp 64) 31 107 (.agg #[(.string ⟨#[]⟩),(.string ⟨#[]⟩),(.string ⟨#[]⟩),(.bool false)]) 56 rfl Try.underlying31 info107 rfl (by decide) (by omega) u209005 x101_1 (⟨t221,t224,(⟨#[]⟩:ByteArray),true⟩:S107) [.string t221,.string t224,.string (⟨#[]⟩:ByteArray),.bool true] (fun k_=>k_ ≠ gb220) (fun _=>False) rfl (by first|(go_simp;done)|(go_simp;rfl)) ?aP (fun _ hk=>hk.elim) ?aF ?aO ?aB ?aS ?aL ?_;(case aP=>exact k107_mkM _ _ _ (⟨t221,t224,(⟨#[]⟩:ByteArray),true⟩:S107));(case aB=>exact (K3a_ HB GW208 GW209 GW220));(case aF=>exact (fun k_ hk=>Kd.freshB (g:=gb220) (o:=.cells #[.string t221,.string t224,.string (⟨#[]⟩:ByteArray),.bool true] 107 (0,0)) (by refine Kv_ ?_;refine blk_put (cs:=#[.string t221,.string t224,.string (⟨#[]⟩:ByteArray),.bool false]) ?_ 3 _ rfl;exact K1b_ BK220 NB220_209) k_ hk));(case aO=>exact (by (with_reducible repeat (first|apply Kd.R_alloc|apply Kd.R_drewN|apply Kd.R_drew));exact Kd.R_mono (Kd.R_far (p:=⟨gb220,3,none⟩) (Kd.R_far (p:=⟨gb209,1,none⟩) (Kd.R_far (p:=⟨gb209,0,none⟩) (Kd.R_mono (Kd.R_types HO_101.out BK209.out (by decide)) (fun k_ hk=>(⟨hk,hk.1.2⟩:_∧k_ ≠ gb220))) (fun _ hk=>hk.1.2) (.string t228)) (fun _ hk=>hk.1.2) (.bool t229)) (fun _ hk=>hk.2) (.bool true)) (fun _ hk=>hk.1.1.2)));(case aS=>exact (below_size (K3a_ HB GW208 GW209 GW220)));(case aL=>have:=LMc36.out;omega);intro v231 w52 ho hb hg hat;rw [← Ny230.out] at ho;have HO232:=As_ (ho);replace BK208:=As_ (blk_grown (g:=gb208) (o:=.cells #[.int .u64 x108_1,.int .u64 x105_1,.int .u64 x104_1,.int .u64 x103_1,.int .i64 x102_1,u209005] 33 (0,0)) (K2b_ BK208 NB208_220 NB208_209) hg (Kd.R_ne HO_101.out BK208.out (by decide)));replace BK209:=As_ (blk_grown (g:=gb209) (o:=.cells #[.string t228,.bool t229] 134 (0,0)) (by (repeat (first|(with_reducible first|refine blk_drewN ?_ _|refine blk_drew ?_|refine blk_alloc ?_ _)|refine blk_far ?_ NB209_220.out _));refine blk_put (cs:=#[.string t228,.bool t226]) ?_ 1 _ rfl;refine Kv_ ?_;refine blk_put (cs:=#[.string t225,.bool t226]) ?_ 0 _ rfl;exact Kq_ BK209) hg (Kd.R_ne HO_101.out BK209.out (by decide)));replace BK220:=As_ (blk_grown (g:=gb220) (o:=.cells #[.string t221,.string t224,.string (⟨#[]⟩:ByteArray),.bool true] 107 (0,0)) (by refine Kv_ ?_;refine blk_put (cs:=#[.string t221,.string t224,.string (⟨#[]⟩:ByteArray),.bool false]) ?_ 3 _ rfl;exact K1b_ BK220 NB220_209) hg (Kd.R_away HO_101.out (fun _ hk=>hk.2)));replace HB:=As_ (hb);clear HO_101;clear ho hb hg hat;obtain ⟨Ao53,co53,eo53⟩:=Kd.R_slice HO232.out;subst eo53;obtain ⟨_,_,_,_,_,_,_,_,_,_,_,_⟩:=Ke6_ BK208.out))
      go_roundg kj11
      case measure=>have:=HK1.out;have:=HJ11.out;omega
      case rel=>exact ⟨(IntKind.u64.wrap (x4_1 - 1)),(x108_1),(x105_1),(x104_1),(x103_1),(x102_1),(y230),(t228),(t229),(.slice Ao53 y230.length co53),(by first|rfl|(simp;done)|(simp [*];done)),H',⟨by have:=HK1.out;have:=HJ11.out;omega⟩,⟨by (with_reducible repeat (first|apply Kd.R_alloc|apply Kd.R_drewN|apply Kd.R_drew));exact Kd.R_mono (Kd.R_far (p:=⟨gb208,5,none⟩) (Kd.R_types HO232.out BK208.out (by decide)) (fun _ hk=>hk.2) (.slice Ao53 y230.length co53)) (fun _ hk=>trivial)⟩,⟨by refine Kv_ ?_;refine blk_put (cs:=#[.int .u64 x108_1,.int .u64 x105_1,.int .u64 x104_1,.int .u64 x103_1,.int .i64 x102_1,u209005]) ?_ 5 _ rfl;exact Kq_ BK208⟩,⟨by exact K1b_ BK209 NB209_208⟩,⟨K3a_ HB GW208 GW209 GW220⟩⟩
     rw [if_neg c35] at H
     have c35b0:=beq_eq_false_iff_ne.mpr c35
     (try simp only [c35b0] at H)
     have c35b1:(t227 != 1)=true:=bne_iff_ne.mpr c35
     obtain ⟨⟨t233,t234,t235⟩,A55,H⟩:=Kbind_ H
     (try dsimp only at H)
     by_cases c56:x101_1.length<2513169434916
     rotate_left
     ·rw [if_neg c56] at H
      exact absurd H (by simp)
     rw [if_pos c56] at H
     have LMc56:=As_ c56
     clear c56
     obtain ⟨y236,hy236⟩:∃ y_:List (S107),y_=(x101_1++[(⟨t221,t224,t233,false⟩:S107)]):=⟨_,rfl⟩
     replace H:(item_Read.l0 kj11 (IntKind.u64.wrap (x4_1 - 1)) x108_1 x105_1 x104_1 x103_1 x102_1 y236 t234 t235)=some (r1,r2,r3,r4,r5,r6,r7):=by first|(rw [hy236];with_reducible exact H)|(have H2_:=(Option.bind_some _ _).symm.trans H;rw [hy236];with_reducible exact H2_)|(have H2_:=(Option.bind_some _ _).symm.trans H;with_reducible exact H2_)|with_reducible exact H|(rw [hy236];exact H)|exact H
     have Ny236:=As_ hy236
     clear hy236
     have H':=As_ H
     clear H
     go_wp2_with (first|((with_reducible refine gate_dst (N:=7) rfl ?_);refine Ka_ 7 #[.string (⟨#[]⟩:ByteArray),.string (⟨#[]⟩:ByteArray),.string (⟨#[]⟩:ByteArray),.bool false] 107 ?_;intro gb220 hg w57 hbox hb;have BK220:=As_ (hbox);have GW220:=Kw_ HB hg;have NB208_220:=Kl_ BK208 hg;have NB220_208:=Kr_ BK208 hg;have NB209_220:=Kl_ BK209 hg;have NB220_209:=Kr_ BK209 hg;replace HO_101:=As_ (Kd.R_below (Kd.R_elderB (Ku_ HO_101) gb220 (Nat.le_of_eq hg.symm)) hb);replace BK208:=Kb_ BK208 hb;replace BK209:=Kb_ BK209 hb;replace HB:=Ks_ HB hb;clear hb hbox hg;have hnb58:=NB209_208.out;have hnc58:=NB208_209.out;have hnb59:=NB209_220.out;have hnc59:=NB220_209.out;obtain ⟨_,_,_,_⟩:=Ke2_ BK209.out)|((with_reducible refine gate_callee (f:=77) rfl ?_);refine Kg_ (some 31) rfl rfl Try.func77 (by kernel_rfl) rfl #[.agg #[.string x110_1,.bool x109_1],.int .i64 16] rfl ?_;(with_reducible refine (pack_Reader_Text.calls kj11 x110_1 x109_1 16 t221 t222 t223 _ A17.out).mono ?_);rintro e w61 ⟨rfl,hb⟩;refine ⟨_,rfl,?_⟩;replace HO_101:=As_ (Kd.R_below (Ku_ HO_101) hb);replace BK208:=Kb_ BK208 hb;replace BK209:=Kb_ BK209 hb;replace BK220:=Kb_ BK220 hb;replace HB:=Ks_ HB hb;(try clear hb);(try clear hk);have hnb62:=NB220_208.out;have hnc62:=NB208_220.out;obtain ⟨_,_,_,_,_,_,_,_⟩:=Ke4_ BK220.out;obtain ⟨_,_,_,_⟩:=Ke2_ BK209.out)|((with_reducible refine gate_callee (f:=77) rfl ?_);refine Kg_ (some 37) rfl rfl Try.func77 (by kernel_rfl) rfl #[.agg #[.string t222,.bool t223],.int .i64 16] rfl ?_;(with_reducible refine (pack_Reader_Text.calls kj11 t222 t223 16 t224 t225 t226 _ A18.out).mono ?_);rintro e w65 ⟨rfl,hb⟩;refine ⟨_,rfl,?_⟩;replace HO_101:=As_ (Kd.R_below (by (with_reducible repeat (first|apply Kd.R_alloc|apply Kd.R_drewN|apply Kd.R_drew));exact (Kd.R_mono (Kd.R_mono (Kd.R_far (p:=⟨gb209,1,none⟩) (Kd.R_far (p:=⟨gb209,0,none⟩) (Kd.R_far (p:=⟨gb220,0,none⟩) (Kd.R_types (Kd.R_mono HO_101.out (fun k_ hk=>(⟨hk,hk.2⟩:_∧k_ ≠ gb220))) BK209.out (by decide)) (fun _ hk=>hk.1.2) (.string t221)) (fun _ hk=>hk.2) (.string t222)) (fun _ hk=>hk.2) (.bool t223)) (fun _ h_=>h_.1)) (fun _ h_=>h_.1))) hb);replace BK208:=As_ (blk_below (g:=gb208) (o:=.cells #[.int .u64 x108_1,.int .u64 x105_1,.int .u64 x104_1,.int .u64 x103_1,.int .i64 x102_1,u209005] 33 (0,0)) (K2b_ BK208 NB208_209 NB208_220) hb);replace BK209:=As_ (blk_below (g:=gb209) (o:=.cells #[.string t222,.bool t223] 134 (0,0)) (by refine Kv_ ?_;refine blk_put (cs:=#[.string t222,.bool x109_1]) ?_ 1 _ rfl;refine Kv_ ?_;refine blk_put (cs:=#[.string x110_1,.bool x109_1]) ?_ 0 _ rfl;exact K1b_ BK209 NB209_220) hb);replace BK220:=As_ (blk_below (g:=gb220) (o:=.cells #[.string t221,.string (⟨#[]⟩:ByteArray),.string (⟨#[]⟩:ByteArray),.bool false] 107 (0,0)) (by (repeat (first|(with_reducible first|refine blk_drewN ?_ _|refine blk_drew ?_|refine blk_alloc ?_ _)|refine blk_far ?_ NB220_209.out _));refine blk_put (cs:=#[.string (⟨#[]⟩:ByteArray),.string (⟨#[]⟩:ByteArray),.string (⟨#[]⟩:ByteArray),.bool false]) ?_ 0 _ rfl;exact Kq_ BK220) hb);replace HB:=As_ (below_step (K3a_ HB GW208 GW209 GW220) hb);(try clear hb);(try clear hk);obtain ⟨_,_,_,_,_,_,_,_⟩:=Ke4_ BK220.out;obtain ⟨_,_,_,_⟩:=Ke2_ BK209.out)|((with_reducible refine gate_callee (f:=75) rfl ?_);refine Kg_ (some 43) rfl rfl Try.func75 (by kernel_rfl) rfl #[.agg #[.string t225,.bool t226],.int .i64 1] rfl ?_;(with_reducible refine (pack_Reader_Number.calls t225 t226 1 t227 t228 t229 _ A19.out).mono ?_);rintro e w68 ⟨rfl,hb⟩;refine ⟨_,rfl,?_⟩;replace HO_101:=As_ (Kd.R_below (by (with_reducible repeat (first|apply Kd.R_alloc|apply Kd.R_drewN|apply Kd.R_drew));exact (Kd.R_mono (Kd.R_mono (Kd.R_far (p:=⟨gb209,1,none⟩) (Kd.R_far (p:=⟨gb209,0,none⟩) (Kd.R_far (p:=⟨gb220,1,none⟩) (Kd.R_types (Kd.R_mono HO_101.out (fun k_ hk=>(⟨hk,hk.2⟩:_∧k_ ≠ gb220))) BK209.out (by decide)) (fun _ hk=>hk.1.2) (.string t224)) (fun _ hk=>hk.2) (.string t225)) (fun _ hk=>hk.2) (.bool t226)) (fun _ h_=>h_.1)) (fun _ h_=>h_.1))) hb);replace BK208:=As_ (blk_below (g:=gb208) (o:=.cells #[.int .u64 x108_1,.int .u64 x105_1,.int .u64 x104_1,.int .u64 x103_1,.int .i64 x102_1,u209005] 33 (0,0)) (K2b_ BK208 NB208_209 NB208_220) hb);replace BK209:=As_ (blk_below (g:=gb209) (o:=.cells #[.string t225,.bool t226] 134 (0,0)) (by refine Kv_ ?_;refine blk_put (cs:=#[.string t225,.bool t223]) ?_ 1 _ rfl;refine Kv_ ?_;refine blk_put (cs:=#[.string t222,.bool t223]) ?_ 0 _ rfl;exact K1b_ BK209 NB209_220) hb);replace BK220:=As_ (blk_below (g:=gb220) (o:=.cells #[.string t221,.string t224,.string (⟨#[]⟩:ByteArray),.bool false] 107 (0,0)) (by (repeat (first|(with_reducible first|refine blk_drewN ?_ _|refine blk_drew ?_|refine blk_alloc ?_ _)|refine blk_far ?_ NB220_209.out _));refine blk_put (cs:=#[.string t221,.string (⟨#[]⟩:ByteArray),.string (⟨#[]⟩:ByteArray),.bool false]) ?_ 1 _ rfl;exact Kq_ BK220) hb);replace HB:=As_ (below_step (K3a_ HB GW208 GW209 GW220) hb);(try clear hb);(try clear hk);obtain ⟨_,_,_,_⟩:=Ke2_ BK209.out;obtain ⟨_,_,_,_,_,_,_,_⟩:=Ke4_ BK220.out)|((with_reducible refine gate_callee (f:=77) rfl ?_);refine Kg_ (some 57) rfl rfl Try.func77 (by kernel_rfl) rfl #[.agg #[.string t228,.bool t229],.int .i64 32] rfl ?_;(with_reducible refine (pack_Reader_Text.calls kj11 t228 t229 32 t233 t234 t235 _ A55.out).mono ?_);rintro e w71 ⟨rfl,hb⟩;refine ⟨_,rfl,?_⟩;replace HO_101:=As_ (Kd.R_below (by (with_reducible repeat (first|apply Kd.R_alloc|apply Kd.R_drewN|apply Kd.R_drew));exact (Kd.R_mono (Kd.R_mono (Kd.R_far (p:=⟨gb220,3,none⟩) (Kd.R_far (p:=⟨gb209,1,none⟩) (Kd.R_far (p:=⟨gb209,0,none⟩) (Kd.R_mono (Kd.R_types HO_101.out BK209.out (by decide)) (fun k_ hk=>(⟨hk,hk.1.2⟩:_∧k_ ≠ gb220))) (fun _ hk=>hk.1.2) (.string t228)) (fun _ hk=>hk.1.2) (.bool t229)) (fun _ hk=>hk.2) (.bool false)) (fun _ h_=>h_.1)) (fun _ h_=>h_.1))) hb);replace BK208:=As_ (blk_below (g:=gb208) (o:=.cells #[.int .u64 x108_1,.int .u64 x105_1,.int .u64 x104_1,.int .u64 x103_1,.int .i64 x102_1,u209005] 33 (0,0)) (K2b_ BK208 NB208_220 NB208_209) hb);replace BK209:=As_ (blk_below (g:=gb209) (o:=.cells #[.string t228,.bool t229] 134 (0,0)) (by (repeat (first|(with_reducible first|refine blk_drewN ?_ _|refine blk_drew ?_|refine blk_alloc ?_ _)|refine blk_far ?_ NB209_220.out _));refine blk_put (cs:=#[.string t228,.bool t226]) ?_ 1 _ rfl;refine Kv_ ?_;refine blk_put (cs:=#[.string t225,.bool t226]) ?_ 0 _ rfl;exact Kq_ BK209) hb);replace BK220:=As_ (blk_below (g:=gb220) (o:=.cells #[.string t221,.string t224,.string (⟨#[]⟩:ByteArray),.bool false] 107 (0,0)) (by refine Kv_ ?_;refine blk_put (cs:=#[.string t221,.string t224,.string (⟨#[]⟩:ByteArray),.bool false]) ?_ 3 _ rfl;exact K1b_ BK220 NB220_209) hb);replace HB:=As_ (below_step (K3a_ HB GW208 GW209 GW220) hb);(try clear hb);(try clear hk);obtain ⟨_,_,_,_,_,_,_,_⟩:=Ke4_ BK220.out;obtain ⟨_,_,_,_⟩:=Ke2_ BK209.out;obtain ⟨_,_,_,_,_,_,_,_,_,_,_,_⟩:=Ke6_ BK208.out)|((with_reducible refine gate_builtin (b:=.append) (xs:=#[.tmp 62,.tmp 64]) rfl ?_);at_builtin;refine Kd.R_append k107 (w0:=w) w.heap.size rfl (.tmp 62) (.tmp 64) 31 107 (.agg #[(.string ⟨#[]⟩),(.string ⟨#[]⟩),(.string ⟨#[]⟩),(.bool false)]) 56 rfl Try.underlying31 info107 rfl (by decide) (by omega) u209005 x101_1 (⟨t221,t224,t233,false⟩:S107) [.string t221,.string t224,.string t233,.bool false] (fun k_=>k_ ≠ gb220) (fun _=>False) rfl (by first|(go_simp;done)|(go_simp;rfl)) ?aP (fun _ hk=>hk.elim) ?aF ?aO ?aB ?aS ?aL ?_;(case aP=>exact k107_mkM _ _ _ (⟨t221,t224,t233,false⟩:S107));(case aB=>exact (K3a_ HB GW208 GW209 GW220));(case aF=>exact (fun k_ hk=>Kd.freshB (g:=gb220) (o:=.cells #[.string t221,.string t224,.string t233,.bool false] 107 (0,0)) (by (repeat (first|(with_reducible first|refine blk_drewN ?_ _|refine blk_drew ?_|refine blk_alloc ?_ _)|refine blk_far ?_ NB220_209.out _));refine blk_put (cs:=#[.string t221,.string t224,.string (⟨#[]⟩:ByteArray),.bool false]) ?_ 2 _ rfl;exact Kq_ BK220) k_ hk));(case aO=>exact (by (with_reducible repeat (first|apply Kd.R_alloc|apply Kd.R_drewN|apply Kd.R_drew));exact Kd.R_mono (Kd.R_far (p:=⟨gb209,1,none⟩) (Kd.R_far (p:=⟨gb209,0,none⟩) (Kd.R_far (p:=⟨gb220,2,none⟩) (Kd.R_types (Kd.R_mono HO_101.out (fun k_ hk=>(⟨hk,hk.2⟩:_∧k_ ≠ gb220))) BK209.out (by decide)) (fun _ hk=>hk.1.2) (.string t233)) (fun _ hk=>hk.2) (.string t234)) (fun _ hk=>hk.2) (.bool t235)) (fun _ hk=>hk.1.1.2)));(case aS=>exact (below_size (K3a_ HB GW208 GW209 GW220)));(case aL=>have:=LMc56.out;omega);intro v237 w75 ho hb hg hat;rw [← Ny236.out] at ho;have HO238:=As_ (ho);replace BK208:=As_ (blk_grown (g:=gb208) (o:=.cells #[.int .u64 x108_1,.int .u64 x105_1,.int .u64 x104_1,.int .u64 x103_1,.int .i64 x102_1,u209005] 33 (0,0)) (K2b_ BK208 NB208_209 NB208_220) hg (Kd.R_ne HO_101.out BK208.out (by decide)));replace BK209:=As_ (blk_grown (g:=gb209) (o:=.cells #[.string t234,.bool t235] 134 (0,0)) (by refine Kv_ ?_;refine blk_put (cs:=#[.string t234,.bool t229]) ?_ 1 _ rfl;refine Kv_ ?_;refine blk_put (cs:=#[.string t228,.bool t229]) ?_ 0 _ rfl;exact K1b_ BK209 NB209_220) hg (Kd.R_ne HO_101.out BK209.out (by decide)));replace HB:=As_ (hb);clear HO_101;clear ho hb hg hat;obtain ⟨Ao76,co76,eo76⟩:=Kd.R_slice HO238.out;subst eo76;obtain ⟨_,_,_,_,_,_,_,_,_,_,_,_⟩:=Ke6_ BK208.out))
     go_roundg kj11
     case measure=>have:=HK1.out;have:=HJ11.out;omega
     case rel=>exact ⟨(IntKind.u64.wrap (x4_1 - 1)),(x108_1),(x105_1),(x104_1),(x103_1),(x102_1),(y236),(t234),(t235),(.slice Ao76 y236.length co76),(by first|rfl|(simp;done)|(simp [*];done)),H',⟨by have:=HK1.out;have:=HJ11.out;omega⟩,⟨by (with_reducible repeat (first|apply Kd.R_alloc|apply Kd.R_drewN|apply Kd.R_drew));exact Kd.R_mono (Kd.R_far (p:=⟨gb208,5,none⟩) (Kd.R_types HO238.out BK208.out (by decide)) (fun _ hk=>hk.2) (.slice Ao76 y236.length co76)) (fun _ hk=>trivial)⟩,⟨by refine Kv_ ?_;refine blk_put (cs:=#[.int .u64 x108_1,.int .u64 x105_1,.int .u64 x104_1,.int .u64 x103_1,.int .i64 x102_1,u209005]) ?_ 5 _ rfl;exact Kq_ BK208⟩,⟨by exact K1b_ BK209 NB209_208⟩,⟨K3a_ HB GW208 GW209 GW220⟩⟩
end Go.Proofs.Ytoagfdpgnfinhaa.Q
