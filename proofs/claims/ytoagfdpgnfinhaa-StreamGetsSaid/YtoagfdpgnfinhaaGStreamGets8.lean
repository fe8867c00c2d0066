import Derived.Test.YtoagfdpgnfinhaaGStreamGets2
import Derived.Test.YtoagfdpgnfinhaaGStreamGets7
namespace Go.Proofs.Ytoagfdpgnfinhaa.Q
open Go.RowKit Go.Proofs.YtoagfdpgnfinhaaW.PrintWords Go.Proofs.YtoagfdpgnfinhaaW.PrintLast Go.Proofs.YtoagfdpgnfinhaaW.PrintMore
attribute [local go_sem] max2_int min2_int max_two min_two max_three min_three max_four min_four   -- for this text's walks alone
set_option linter.unusedVariables false
set_option linter.unusedSimpArgs false
mutual
def R02_Number.j0:Nat→Int→Int→Bool→Option (ByteArray)
 | 0,_,_,_=>none
 | k+1,x0,x1,x12=>if x12=true then (some (⟨#[]⟩:ByteArray)) else (R02_Number.l0 k x0 ([]:List Int) (wrap64 (x1 - 1)))
def R02_Number.l0:Nat→Int→List Int→Int→Option (ByteArray)
 | 0,_,_,_=>none
 | k+1,x0,x5,x6=>if x6 ≥ 0 then (if 0≤(wrap64 (8 * x6)) then (if x5.length<140737488355328 then (R02_Number.l0 k x0 (x5++[(shr .u64 x0 (wrap64 (8 * x6))) % 256]) (wrap64 (x6 - 1))) else (none)) else (none)) else (some (strOfNums x5))
end
def R02_Number.f (k:Nat) (a0:Int) (a1:Int):Option (ByteArray):=if a1<1 then (R02_Number.j0 k a0 a1 true) else (R02_Number.j0 k a0 a1 (decide (a1 > 8)))
set_option maxHeartbeats 8000000 in
set_option maxRecDepth 100000 in
theorem R02_Number.calls (k:Nat) (a0:Int) (a1:Int) (r:ByteArray) (w:World) (h:R02_Number.f k a0 a1=some r) :
  Calls Try.prog 64 #[.int .u64 a0,.int .i64 a1] w fun e w'=>e = .returned (.string r)∧Below w.heap.size w w':=by
 have HB:=As_ (Below.refl w.heap.size w)
 unfold R02_Number.f at h
 have H:=h
 clear h
 have HC3:=As_ H
 clear H
 go_enter Try.func64,Try.ntmps64
 go_upto_region 1 with (fail)
 go_cut [12] (fun v12 wc=>∃ (kq:Nat) (x12_2:Bool),v12 = .bool x12_2∧Aside0 (R02_Number.j0 kq a0 a1 x12_2=some r)∧Aside0 (kq≤k)∧Aside0 (Below w.heap.size w wc))
 case first =>
  have H:=HC3.out
  clear HC3
  by_cases c4:a1<1
  ·rw [if_pos c4] at H
   have c4b0:decide (a1<1)=true:=decide_eq_true c4
   clear c4
   (first|rw [c4b0]|(simp only [i64_w,i32_w];rw [c4b0])|skip)
   have H':=As_ H
   clear H
   go_wp2
   go_meet
   case rel=>exact ⟨_,(true),(by first|rfl|(simp;done)|(simp [*];done)),H',⟨by first|omega|exact Nat.le_refl _⟩,⟨Ky_ HB⟩⟩
  rw [if_neg c4] at H
  have c4b0:decide (a1<1)=false:=decide_eq_false c4
  clear c4
  (first|rw [c4b0]|(simp only [i64_w,i32_w];rw [c4b0])|skip)
  have H':=As_ H
  clear H
  go_wp2
  go_meet
  case rel=>exact ⟨_,(decide (a1 > 8)),(by first|rfl|(simp;done)|(simp [*];done)),H',⟨by first|omega|exact Nat.le_refl _⟩,⟨Ky_ HB⟩⟩
 case rest =>
  clear HC3
  try clear p2
  try clear c4
  try clear c4b0
  obtain ⟨kq,x12_2,rfl,HA,HJ2,HB⟩:=hcut
  cases kq with
  | zero=>exact absurd HA.out (by simp [R02_Number.j0])
  | succ kj2 =>
   have H:=HA.out
   clear HA
   simp only [R02_Number.j0] at H
   by_cases c5:x12_2=true
   ·subst c5
    rw [if_pos rfl] at H
    obtain rfl:=Option.some.inj H
    go_wp2
    go_ret
    exact ⟨Kh_,Ky_ HB⟩
   replace c5:=Bool.eq_false_iff.mpr c5
   subst c5
   rw [if_neg Bool.false_ne_true] at H
   have H':=As_ H
   clear H
   go_wp2
   go_loopg [5,6] kj2 (fun kq v5 v6 w'=>∃ (x5_2:List Int) (x6_2:Int),v6 = .int .i64 x6_2∧Aside0 (R02_Number.l0 kq a0 x5_2 x6_2=some r)∧Aside0 (kq≤kj2)∧Aside0 (Kd.R (Kd.int .u8) 5 w' w.heap.size (fun _=>True) v5 x5_2)∧Aside0 (Below w.heap.size w w'))
   case atStart=>exact ⟨(([]:List Int)),(wrap64 (a1 - 1)),(by first|rfl|(simp;done)|(simp [*];done)),H',⟨Nat.le_refl _⟩,⟨by first|exact Kd.R_nil _ _ _ _ _|exact Kd.N_nil _ _ _ _ _|exact Kd.V_nil _ _ _ _ _|exact Kd.Q_nil _ _ _ _ _|exact Kd.S_nil _ _ _ _ _⟩,⟨Ky_ HB⟩⟩
   case round =>
    clear H'
    try clear p2
    try clear c4
    try clear c4b0
    try clear c5
    try clear p2
    obtain ⟨x5_2,x6_2,rfl,HA,HK2,HO_5,HB⟩:=hrel
    cases gk with
    | zero=>exact absurd HA.out (by simp [R02_Number.l0])
    | succ k2 =>
     have H:=HA.out
     clear HA
     simp only [R02_Number.l0] at H
     by_cases c6:x6_2 ≥ 0
     rotate_left
     ·rw [if_neg c6] at H
      have c6b0:decide (0≤x6_2)=false:=decide_eq_false c6
      clear c6
      obtain rfl:=Option.some.inj H
      have hcv12:=own_string (P:=Try.prog) Try.underlying91 Try.underlying5 Try.underlying9 (Kd.own_of_R HO_5.out)
      go_wp2
      go_ret
      exact ⟨Kh_,Ky_ HB⟩
     rw [if_pos c6] at H
     have c6b0:decide (0≤x6_2)=true:=decide_eq_true c6
     clear c6
     obtain ⟨ji7,hji7⟩:∃ j_:Int,(wrap64 (8 * x6_2))=j_:=⟨_,rfl⟩
     replace H:(if 0≤(ji7) then (if x5_2.length<140737488355328 then (R02_Number.l0 k2 a0 (x5_2++[(shr .u64 a0 (ji7)) % 256]) (wrap64 (x6_2 - 1))) else (none)) else (none))=some r:=by first|(rw [hji7] at H;exact H)|(simp only [hji7] at H ⊢;exact H)
     have hji7w:(IntKind.i64.wrap (8 * x6_2))=ji7:=(i64_w _).trans hji7
     by_cases c8:0≤(ji7)
     rotate_left
     ·rw [if_neg c8] at H
      exact absurd H (by simp)
     rw [if_pos c8] at H
     have c8b0:=eq_true c8
     have c8b1:decide (0≤(ji7))=true:=decide_eq_true c8
     clear c8
     obtain ⟨ji9,hji9⟩:∃ j_:Int,(shr .u64 a0 (ji7))=j_:=⟨_,rfl⟩
     replace H:(if x5_2.length<140737488355328 then (R02_Number.l0 k2 a0 (x5_2++[(ji9) % 256]) (wrap64 (x6_2 - 1))) else (none))=some r:=by first|(rw [hji9] at H;exact H)|(simp only [hji9] at H ⊢;exact H)
     have hji9_:(a0 / 2 ^ min (ji7).toNat 64)=ji9:=hji9
     have hji9z:(ji7)≤64→(a0 / 2 ^ (ji7).toNat)=ji9:=shr_small hji9
     by_cases c10:x5_2.length<140737488355328
     rotate_left
     ·rw [if_neg c10] at H
      exact absurd H (by simp)
     rw [if_pos c10] at H
     have LMc10:=As_ c10
     clear c10
     obtain ⟨y386,hy386⟩:∃ y_:List Int,y_=(x5_2++[(ji9) % 256]):=⟨_,rfl⟩
     replace H:(R02_Number.l0 k2 a0 y386 (wrap64 (x6_2 - 1)))=some r:=by first|(rw [hy386];with_reducible exact H)|(have H2_:=(Option.bind_some _ _).symm.trans H;rw [hy386];with_reducible exact H2_)|(have H2_:=(Option.bind_some _ _).symm.trans H;with_reducible exact H2_)|with_reducible exact H|(rw [hy386];exact H)|exact H
     have Ny386:=As_ hy386
     clear hy386
     have H':=As_ H
     clear H
     go_wp2_with (first|((with_reducible refine gate_builtin (b:=.append) (xs:=#[.tmp 19,.tmp 25]) rfl ?_);at_builtin;refine Kd.R_append (Kd.int .u8) (w0:=w) w.heap.size rfl (.tmp 19) (.tmp 25) 91 5 (.int .u8 0) 1 rfl Try.underlying91 info5 rfl (by decide) (by omega) u5 x5_2 ((ji9) % 256) [.int .u8 ((ji9) % 256)] (fun _=>True) (fun _=>False) rfl rfl ?aP (fun _ hk=>hk.elim) ?aF ?aO ?aB ?aS ?aL ?_;(case aP=>exact rfl);(case aB=>exact (Ky_ HB));(case aF=>exact (fun _ _=>trivial));(case aO=>exact (Ku_ HO_5));(case aS=>exact (below_size (Ky_ HB)));(case aL=>have:=LMc10.out;omega);intro v387 w11 ho hb hg hat;rw [← Ny386.out] at ho;have HO388:=As_ (ho);replace HB:=As_ (hb);clear HO_5;clear ho hb hg hat))
     go_roundg k2
     case measure=>have:=HJ2.out;have:=HK2.out;omega
     case rel=>exact ⟨(y386),(wrap64 (x6_2 - 1)),(by first|rfl|(simp;done)|(simp [*];done)),H',⟨by have:=HJ2.out;have:=HK2.out;omega⟩,⟨by (with_reducible repeat (first|apply Kd.R_alloc|apply Kd.R_drewN|apply Kd.R_drew));exact HO388.out⟩,⟨Ky_ HB⟩⟩
def R02_Vary.l0:Nat→Int→List Int→Option (ByteArray)
 | 0,_,_=>none
 | k+1,x0,x3=>if x0 ≥ 128 then (if x3.length<140737488355328 then (R02_Vary.l0 k (IntKind.u64.wrap (Int.tdiv x0 128)) (x3++[(IntKind.u64.wrap ((Int.tmod x0 128)+128)) % 256])) else (none)) else (if x3.length<140737488355328 then (some (strOfNums (x3++[(x0) % 256]))) else (none))
def R02_Vary.f (k:Nat) (a0:Int):Option (ByteArray):=R02_Vary.l0 k a0 ([]:List Int)
set_option maxHeartbeats 8000000 in
set_option maxRecDepth 100000 in
theorem R02_Vary.calls (k:Nat) (a0:Int) (r:ByteArray) (w:World) (h:R02_Vary.f k a0=some r) :
  Calls Try.prog 65 #[.int .u64 a0] w fun e w'=>e = .returned (.string r)∧Below w.heap.size w w':=by
 have HB:=As_ (Below.refl w.heap.size w)
 unfold R02_Vary.f at h
 have H:=h
 clear h
 have H':=As_ H
 clear H
 go_enter Try.func65,Try.ntmps65
 go_wp2
 go_loopg [0,3] k (fun kq v0 v3 w'=>∃ (x0_1:Int) (x3_1:List Int),v0 = .int .u64 x0_1∧Aside0 (R02_Vary.l0 kq x0_1 x3_1=some r)∧Aside0 (kq≤k)∧Aside0 (Kd.R (Kd.int .u8) 5 w' w.heap.size (fun _=>True) v3 x3_1)∧Aside0 (Below w.heap.size w w'))
 case atStart=>exact ⟨(a0),(([]:List Int)),(by first|rfl|(simp;done)|(simp [*];done)),H',⟨Nat.le_refl _⟩,⟨by first|exact Kd.R_nil _ _ _ _ _|exact Kd.N_nil _ _ _ _ _|exact Kd.V_nil _ _ _ _ _|exact Kd.Q_nil _ _ _ _ _|exact Kd.S_nil _ _ _ _ _⟩,⟨Ky_ HB⟩⟩
 case round =>
  clear H'
  obtain ⟨x0_1,x3_1,rfl,HA,HK1,HO_3,HB⟩:=hrel
  cases gk with
  | zero=>exact absurd HA.out (by simp [R02_Vary.l0])
  | succ k1 =>
   have H:=HA.out
   clear HA
   simp only [R02_Vary.l0] at H
   by_cases c2:x0_1 ≥ 128
   rotate_left
   ·rw [if_neg c2] at H
    have c2b0:decide (128≤x0_1)=false:=decide_eq_false c2
    clear c2
    by_cases c5:x3_1.length<140737488355328
    rotate_left
    ·rw [if_neg c5] at H
     exact absurd H (by simp)
    rw [if_pos c5] at H
    have LMc5:=As_ c5
    clear c5
    obtain ⟨y392,hy392⟩:∃ y_:List Int,y_=(x3_1++[(x0_1) % 256]):=⟨_,rfl⟩
    replace H:(some (strOfNums y392))=some r:=by first|(rw [hy392];with_reducible exact H)|(have H2_:=(Option.bind_some _ _).symm.trans H;rw [hy392];with_reducible exact H2_)|(have H2_:=(Option.bind_some _ _).symm.trans H;with_reducible exact H2_)|with_reducible exact H|(rw [hy392];exact H)|exact H
    have Ny392:=As_ hy392
    clear hy392
    obtain rfl:=Option.some.inj H
    go_wp2_with (first|((with_reducible refine gate_builtin (b:=.append) (xs:=#[.tmp 15,.tmp 18]) rfl ?_);at_builtin;refine Kd.R_append (Kd.int .u8) (w0:=w) w.heap.size rfl (.tmp 15) (.tmp 18) 91 5 (.int .u8 0) 1 rfl Try.underlying91 info5 rfl (by decide) (by omega) u3 x3_1 ((x0_1) % 256) [.int .u8 ((x0_1) % 256)] (fun _=>True) (fun _=>False) rfl rfl ?aP (fun _ hk=>hk.elim) ?aF ?aO ?aB ?aS ?aL ?_;(case aP=>exact rfl);(case aB=>exact (Ky_ HB));(case aF=>exact (fun _ _=>trivial));(case aO=>exact (Ku_ HO_3));(case aS=>exact (below_size (Ky_ HB)));(case aL=>have:=LMc5.out;omega);intro v393 w6 ho hb hg hat;rw [← Ny392.out] at ho;have HO394:=As_ (ho);replace HB:=As_ (hb);clear HO_3;clear ho hb hg hat;have hcv7:=own_string (P:=Try.prog) Try.underlying91 Try.underlying5 Try.underlying9 (Kd.own_of_R HO394.out)))
    go_ret
    exact ⟨Kh_,Ky_ HB⟩
   rw [if_pos c2] at H
   have c2b0:decide (128≤x0_1)=true:=decide_eq_true c2
   clear c2
   by_cases c3:x3_1.length<140737488355328
   rotate_left
   ·rw [if_neg c3] at H
    exact absurd H (by simp)
   rw [if_pos c3] at H
   have LMc3:=As_ c3
   clear c3
   obtain ⟨y389,hy389⟩:∃ y_:List Int,y_=(x3_1++[(IntKind.u64.wrap ((Int.tmod x0_1 128)+128)) % 256]):=⟨_,rfl⟩
   replace H:(R02_Vary.l0 k1 (IntKind.u64.wrap (Int.tdiv x0_1 128)) y389)=some r:=by first|(rw [hy389];with_reducible exact H)|(have H2_:=(Option.bind_some _ _).symm.trans H;rw [hy389];with_reducible exact H2_)|(have H2_:=(Option.bind_some _ _).symm.trans H;with_reducible exact H2_)|with_reducible exact H|(rw [hy389];exact H)|exact H
   have Ny389:=As_ hy389
   clear hy389
   have H':=As_ H
   clear H
   go_wp2_with (first|((with_reducible refine gate_builtin (b:=.append) (xs:=#[.tmp 6,.tmp 11]) rfl ?_);at_builtin;refine Kd.R_append (Kd.int .u8) (w0:=w) w.heap.size rfl (.tmp 6) (.tmp 11) 91 5 (.int .u8 0) 1 rfl Try.underlying91 info5 rfl (by decide) (by omega) u3 x3_1 ((IntKind.u64.wrap ((Int.tmod x0_1 128)+128)) % 256) [.int .u8 ((IntKind.u64.wrap ((Int.tmod x0_1 128)+128)) % 256)] (fun _=>True) (fun _=>False) rfl rfl ?aP (fun _ hk=>hk.elim) ?aF ?aO ?aB ?aS ?aL ?_;(case aP=>exact rfl);(case aB=>exact (Ky_ HB));(case aF=>exact (fun _ _=>trivial));(case aO=>exact (Ku_ HO_3));(case aS=>exact (below_size (Ky_ HB)));(case aL=>have:=LMc3.out;omega);intro v390 w4 ho hb hg hat;rw [← Ny389.out] at ho;have HO391:=As_ (ho);replace HB:=As_ (hb);clear HO_3;clear ho hb hg hat))
   go_roundg k1
   case measure=>have:=HK1.out;omega
   case rel=>exact ⟨(IntKind.u64.wrap (Int.tdiv x0_1 128)),(y389),(by first|rfl|(simp;done)|(simp [*];done)),H',⟨by have:=HK1.out;omega⟩,⟨by (with_reducible repeat (first|apply Kd.R_alloc|apply Kd.R_drewN|apply Kd.R_drew));exact HO391.out⟩,⟨Ky_ HB⟩⟩
def R02_Text.f (k:Nat) (a0:ByteArray):Option (ByteArray):=if a0.size≤9223372036854775807 then ((R02_Vary.f k (a0.size:Int)).bind fun t395=>(if t395.size+a0.size≤9223372036854775807 then (some (t395++a0)) else (none))) else (none)
set_option maxHeartbeats 8000000 in
set_option maxRecDepth 100000 in
theorem R02_Text.calls (k:Nat) (a0:ByteArray) (r:ByteArray) (w:World) (h:R02_Text.f k a0=some r) :
  Calls Try.prog 67 #[.string a0] w fun e w'=>e = .returned (.string r)∧Below w.heap.size w w':=by
 have HB:=As_ (Below.refl w.heap.size w)
 unfold R02_Text.f at h
 have H:=h
 (try (have Hs_:=H;simp only [ByteArray.size_append,Int.natCast_add] at Hs_))
 clear h
 by_cases c2:a0.size≤9223372036854775807
 rotate_left
 ·rw [if_neg c2] at H
  exact absurd H (by simp)
 rw [if_pos c2] at H
 have c2b0:=eq_true c2
 have c2b1:decide (a0.size≤9223372036854775807)=true:=decide_eq_true c2
 try have c2b2:(9223372036854775807<a0.size)=False:=eq_false (Nat.not_lt.2 c2)
 obtain ⟨t395,A3,H⟩:=Kbind_ H
 (try dsimp only at H)
 by_cases c4:t395.size+a0.size≤9223372036854775807
 rotate_left
 ·rw [if_neg c4] at H
  exact absurd H (by simp)
 rw [if_pos c4] at H
 have c4b0:=eq_true c4
 have c4b1:decide (t395.size+a0.size≤9223372036854775807)=true:=decide_eq_true c4
 try have c4b2:(9223372036854775807<t395.size+a0.size)=False:=eq_false (Nat.not_lt.2 c4)
 obtain rfl:=Option.some.inj H
 go_enter Try.func67,Try.ntmps67
 go_wp2_with (first|((with_reducible refine gate_callee (f:=65) rfl ?_);refine Kg_ (some 6) rfl rfl Try.func65 (by kernel_rfl) rfl #[.int .u64 (a0.size:Int)] rfl ?_;(with_reducible refine (R02_Vary.calls k (a0.size:Int) t395 _ A3.out).mono ?_);rintro e w5 ⟨rfl,hb⟩;refine ⟨_,rfl,?_⟩;replace HB:=Ks_ HB hb;(try clear hb)))
 go_ret
 exact ⟨Kh_,Ky_ HB⟩
def R06_Put.f (k:Nat) (a0_0:Int) (a0_1:Int) (a0_2:Int) (a0_3:Int):Option (ByteArray):=(R02_Vary.f k a0_0).bind fun t397=>((R02_Vary.f k a0_1).bind fun t398=>(if t397.size+t398.size≤9223372036854775807 then ((R02_Vary.f k a0_2).bind fun t399=>(if (t397++t398).size+t399.size≤9223372036854775807 then ((R02_Vary.f k a0_3).bind fun t400=>(if ((t397++t398)++t399).size+t400.size≤9223372036854775807 then (some (((t397++t398)++t399)++t400)) else (none))) else (none))) else (none)))
def R06_Put.T1:Bool × List (List Nat × List Nat):=(true,[([],[]),([0],[0]),([1],[1]),([],[]),([3],[3]),([4,2],[4]),([2,5],[2,5]),([],[]),([7],[7]),([8,5],[8]),([6,9],[6,9]),([],[]),([11],[11]),([12,9],[12]),([10,13],[10,13]),([14,13,0,1,2,3,4,5,6,7,8,9,10,11,12,13,14],[14])])
def R06_Put.B1:List Nat:=[0,1,3,0,8,31,63,0,128,447,1023,0,2048,7103,16383,32767]
theorem R06_Put.tab1:rtab .any (opsOf Try.f103 1)=R06_Put.T1:=by kernel_rfl
theorem R06_Put.bits1:waitsOk R06_Put.T1.2 R06_Put.B1=true:=by kernel_rfl
set_option maxHeartbeats 8000000 in
set_option maxRecDepth 100000 in
theorem R06_Put.calls (k:Nat) (a0_0:Int) (a0_1:Int) (a0_2:Int) (a0_3:Int) (r:ByteArray) (w:World) (h:R06_Put.f k a0_0 a0_1 a0_2 a0_3=some r) :
  Calls Try.prog 103 #[.agg #[.int .u64 a0_0,.int .u64 a0_1,.int .u64 a0_2,.int .u64 a0_3]] w fun e w'=>e = .returned (.string r)∧Below w.heap.size w w':=by
 have hu50:=Try.underlying50
 have HB:=As_ (Below.refl w.heap.size w)
 unfold R06_Put.f at h
 have H:=h
 (try (have Hs_:=H;simp only [ByteArray.size_append,Int.natCast_add] at Hs_))
 clear h
 obtain ⟨t397,A2,H⟩:=Kbind_ H
 (try dsimp only at H)
 obtain ⟨t398,A3,H⟩:=Kbind_ H
 (try dsimp only at H)
 by_cases c4:t397.size+t398.size≤9223372036854775807
 rotate_left
 ·rw [if_neg c4] at H
  exact absurd H (by simp)
 rw [if_pos c4] at H
 have c4b0:=eq_true c4
 have c4b1:decide (t397.size+t398.size≤9223372036854775807)=true:=decide_eq_true c4
 try have c4b2:(9223372036854775807<t397.size+t398.size)=False:=eq_false (Nat.not_lt.2 c4)
 obtain ⟨t399,A5,H⟩:=Kbind_ H
 (try dsimp only at H)
 by_cases c6:(t397++t398).size+t399.size≤9223372036854775807
 rotate_left
 ·rw [if_neg c6] at H
  exact absurd H (by simp)
 rw [if_pos c6] at H
 have c6b0:=eq_true c6
 (try (have c6b0s_:=c6b0;simp only [ByteArray.size_append,Int.natCast_add] at c6b0s_))
 have c6b1:decide ((t397++t398).size+t399.size≤9223372036854775807)=true:=decide_eq_true c6
 (try (have c6b1s_:=c6b1;simp only [ByteArray.size_append,Int.natCast_add] at c6b1s_))
 try have c6b2:(9223372036854775807<(t397++t398).size+t399.size)=False:=eq_false (Nat.not_lt.2 c6)
 (try (have c6b2s_:=c6b2;simp only [ByteArray.size_append,Int.natCast_add] at c6b2s_))
 obtain ⟨t400,A7,H⟩:=Kbind_ H
 (try dsimp only at H)
 by_cases c8:((t397++t398)++t399).size+t400.size≤9223372036854775807
 rotate_left
 ·rw [if_neg c8] at H
  exact absurd H (by simp)
 rw [if_pos c8] at H
 have c8b0:=eq_true c8
 (try (have c8b0s_:=c8b0;simp only [ByteArray.size_append,Int.natCast_add] at c8b0s_))
 have c8b1:decide (((t397++t398)++t399).size+t400.size≤9223372036854775807)=true:=decide_eq_true c8
 (try (have c8b1s_:=c8b1;simp only [ByteArray.size_append,Int.natCast_add] at c8b1s_))
 try have c8b2:(9223372036854775807<((t397++t398)++t399).size+t400.size)=False:=eq_false (Nat.not_lt.2 c8)
 (try (have c8b2s_:=c8b2;simp only [ByteArray.size_append,Int.natCast_add] at c8b2s_))
 obtain rfl:=Option.some.inj H
 go_enter Try.func103,Try.ntmps103
 try go_wp2_with (first|((with_reducible refine gate_dst (N:=1) rfl ?_);refine Ka_ 1 #[.int .u64 a0_0,.int .u64 a0_1,.int .u64 a0_2,.int .u64 a0_3] 50 ?_;intro gb396 hg w9 hbox hb;have BK396:=As_ (hbox);have GW396:=Kw_ HB hg;replace HB:=Ks_ HB hb;clear hb hbox hg))
 replace BK396:=Kd_ BK396
 replace HB:=As_ (below_drew1 HB.out)
 refine start_ (n:=16) (S:=fun w'=>w'.cell? ⟨gb396,0,none⟩=some (.int .u64 a0_0)∧w'.cell? ⟨gb396,1,none⟩=some (.int .u64 a0_1)∧w'.cell? ⟨gb396,2,none⟩=some (.int .u64 a0_2)∧w'.cell? ⟨gb396,3,none⟩=some (.int .u64 a0_3)) (ds:=[]) (mB_ 16 0) (by kernel_rfl) rfl rfl (Kc4_ BK396.out) (fun hHeld=>?_);refine with_tabW R06_Put.tab1 R06_Put.bits1 (fun HT_ HW_=>?_)
 generalize w9.drew=w10 at BK396 HB hHeld ⊢
 refine Kp_ 0 3 (mB_ 16 1) (any_of HT_.out (by kernel_rfl)) ?_
 refine Kp_ 3 6 (mB_ 16 9) (any_of HT_.out (by kernel_rfl)) ?_
 refine Kp_ 7 10 (mB_ 16 137) (any_of HT_.out (by kernel_rfl)) ?_
 refine Kp_ 11 14 (mB_ 16 2185) (any_of HT_.out (by kernel_rfl)) ?_
 refine Ko_ 1 4 (mB_ 16 2187) (take_ofW HT_.out HW_.out (by kernel_rfl)) hHeld ?_
 refine Ko_ 4 7 (mB_ 16 2203) (take_ofW HT_.out HW_.out (by kernel_rfl)) hHeld ?_
 refine Ko_ 8 11 (mB_ 16 2459) (take_ofW HT_.out HW_.out (by kernel_rfl)) hHeld ?_
 refine Ko_ 12 15 (mB_ 16 6555) (take_ofW HT_.out HW_.out (by kernel_rfl)) hHeld ?_
 refine one_ (i:=2) (N:=some 5) (mB_ 16 6559) rfl rfl (one_of HT_.out (by kernel_rfl)) (by decide) (fun K hK=>?_)
 refine goes_ Try.func65 (by kernel_rfl) rfl #[.int .u64 a0_0] (by rfl) rfl rfl (by (try simp only [List.map_toArray,List.map_cons,List.map_nil]);first|done|rfl|(simp only [List.length_drop,List.length_take];rfl)) ?_
 with_reducible refine (R02_Vary.calls k a0_0 t397 _ A2.out).mono ?_
 rintro e w11 ⟨rfl,hb⟩
 refine ⟨_,rfl,?_⟩
 replace BK396:=Kb_ BK396 hb
 replace HB:=Ks_ HB hb
 (try clear hb)
 (try clear hb2)
 (try clear hk)
 (try clear hi)
 refine hK.out _ _ (Kc4_ BK396.out) (fun hHeld=>?_)
 clear hK K
 refine Kn_ 5 ?_
 refine one_ (i:=5) (N:=some 8) (mB_ 16 6591) rfl rfl (one_of HT_.out (by kernel_rfl)) (by decide) (fun K hK=>?_)
 refine goes_ Try.func65 (by kernel_rfl) rfl #[.int .u64 a0_1] (by rfl) rfl rfl (by (try simp only [List.map_toArray,List.map_cons,List.map_nil]);first|done|rfl|(simp only [List.length_drop,List.length_take];rfl)) ?_
 with_reducible refine (R02_Vary.calls k a0_1 t398 _ A3.out).mono ?_
 rintro e w12 ⟨rfl,hb⟩
 refine ⟨_,rfl,?_⟩
 replace BK396:=Kb_ BK396 hb
 replace HB:=Ks_ HB hb
 (try clear hb)
 (try clear hb2)
 (try clear hk)
 (try clear hi)
 refine hK.out _ _ (Kc4_ BK396.out) (fun hHeld=>?_)
 clear hK K
 refine Kn_ 8 ?_
 refine Kp_ 6 9 (mB_ 16 6655) (any_of HT_.out (by kernel_rfl)) ?_
 refine one_ (i:=9) (N:=some 12) (mB_ 16 7167) rfl rfl (one_of HT_.out (by kernel_rfl)) (by decide) (fun K hK=>?_)
 refine goes_ Try.func65 (by kernel_rfl) rfl #[.int .u64 a0_2] (by rfl) rfl rfl (by (try simp only [List.map_toArray,List.map_cons,List.map_nil]);first|done|rfl|(simp only [List.length_drop,List.length_take];rfl)) ?_
 with_reducible refine (R02_Vary.calls k a0_2 t399 _ A5.out).mono ?_
 rintro e w13 ⟨rfl,hb⟩
 refine ⟨_,rfl,?_⟩
 replace BK396:=Kb_ BK396 hb
 replace HB:=Ks_ HB hb
 (try clear hb)
 (try clear hb2)
 (try clear hk)
 (try clear hi)
 refine hK.out _ _ (Kc4_ BK396.out) (fun hHeld=>?_)
 clear hK K
 refine Kn_ 12 ?_
 refine Kp_ 10 13 (mB_ 16 8191) (any_of HT_.out (by kernel_rfl)) ?_
 refine one_ (i:=13) (N:=some 16) (mB_ 16 16383) rfl rfl (one_of HT_.out (by kernel_rfl)) (by decide) (fun K hK=>?_)
 refine goes_ Try.func65 (by kernel_rfl) rfl #[.int .u64 a0_3] (by rfl) rfl rfl (by (try simp only [List.map_toArray,List.map_cons,List.map_nil]);first|done|rfl|(simp only [List.length_drop,List.length_take];rfl)) ?_
 with_reducible refine (R02_Vary.calls k a0_3 t400 _ A7.out).mono ?_
 rintro e w14 ⟨rfl,hb⟩
 refine ⟨_,rfl,?_⟩
 replace BK396:=Kb_ BK396 hb
 replace HB:=Ks_ HB hb
 (try clear hb)
 (try clear hb2)
 (try clear hk)
 (try clear hi)
 refine hK.out _ _ (Kc4_ BK396.out) (fun hHeld=>?_)
 clear hK K
 refine Kn_ 16 ?_
 refine Kp_ 14 17 (mB_ 16 32767) (any_of HT_.out (by kernel_rfl)) ?_
 refine Kp_ 15 2 (mB_ 16 65535) (any_of HT_.out (by kernel_rfl)) ?_
 refine done_ (done_of HT_.out (by kernel_rfl)) ?_
 try go_wp2
 go_ret
 exact ⟨Kh_,Kz_ HB GW396⟩
def R07_Put.f (k:Nat) (a0_0:Int) (a0_1:Int) (a0_2:Int) (a0_3:Int) (a0_4:Int):Option (ByteArray × Bool):=(R07_Right.f k a0_0 a0_1 a0_2 a0_3 a0_4).bind fun t402=>(if t402=true then ((R02_Number.f k (IntKind.u64.wrap (a0_4)) 1).bind fun t403=>((R06_Put.f k a0_0 a0_1 a0_2 a0_3).bind fun t404=>(if t403.size+t404.size≤9223372036854775807 then (some (t403++t404,true)) else (none)))) else (some ((⟨#[]⟩:ByteArray),false)))
def R07_Put.T3:Bool × List (List Nat × List Nat):=(true,[([],[]),([0],[0]),([1],[1]),([2],[2]),([],[]),([4],[4]),([5,3],[5]),([3,6],[3,6]),([7,6,0,1,2,3,4,5,6,7],[7]),([8,0,1,2,3,4,5,6,7,8],[])])
def R07_Put.B3:List Nat:=[0,1,3,7,0,16,63,127,255,511]
theorem R07_Put.tab3:rtab .any (opsOf Try.f90 3)=R07_Put.T3:=by kernel_rfl
theorem R07_Put.bits3:waitsOk R07_Put.T3.2 R07_Put.B3=true:=by kernel_rfl
set_option maxHeartbeats 8000000 in
set_option maxRecDepth 100000 in
theorem R07_Put.calls (k:Nat) (a0_0:Int) (a0_1:Int) (a0_2:Int) (a0_3:Int) (a0_4:Int) (r1:ByteArray) (r2:Bool) (w:World) (h:R07_Put.f k a0_0 a0_1 a0_2 a0_3 a0_4=some (r1,r2)) :
  Calls Try.prog 90 #[.agg #[.int .u64 a0_0,.int .u64 a0_1,.int .u64 a0_2,.int .u64 a0_3,.int .i64 a0_4]] w fun e w'=>e = .returned (.tuple #[.string r1,.bool r2])∧Below w.heap.size w w':=by
 have hu52:=Try.underlying52
 have hu50:=Try.underlying50
 have HB:=As_ (Below.refl w.heap.size w)
 unfold R07_Put.f at h
 have H:=h
 (try (have Hs_:=H;simp only [ByteArray.size_append,Int.natCast_add] at Hs_))
 clear h
 obtain ⟨t402,A2,H⟩:=Kbind_ H
 (try dsimp only at H)
 by_cases c3:t402=true
 rotate_left
 ·replace c3:=Bool.eq_false_iff.mpr c3
  subst c3
  rw [if_neg Bool.false_ne_true] at H
  simp only [Option.some.injEq,Prod.mk.injEq] at H
  obtain ⟨rfl,rfl⟩:=H
  go_enter Try.func90,Try.ntmps90
  go_wp2_with (first|((with_reducible refine gate_dst (N:=1) rfl ?_);refine Ka_ 1 #[.int .u64 a0_0,.int .u64 a0_1,.int .u64 a0_2,.int .u64 a0_3,.int .i64 a0_4] 52 ?_;intro gb401 hg w13 hbox hb;have BK401:=As_ (hbox);have GW401:=Kw_ HB hg;replace HB:=Ks_ HB hb;clear hb hbox hg;obtain ⟨_,_,_,_,_,_,_,_,_,_⟩:=Ke5_ BK401.out)|((with_reducible refine gate_callee (f:=70) rfl ?_);refine Kg_ (some 5) rfl rfl Try.func70 (by kernel_rfl) rfl #[.agg #[.int .u64 a0_0,.int .u64 a0_1,.int .u64 a0_2,.int .u64 a0_3,.int .i64 a0_4]] rfl ?_;(with_reducible refine (R07_Right.calls k a0_0 a0_1 a0_2 a0_3 a0_4 false _ A2.out).mono ?_);rintro e w15 ⟨rfl,hb⟩;refine ⟨_,rfl,?_⟩;replace HB:=Ks_ HB hb;(try clear hb)))
  go_ret2
  exact ⟨Kh_,Kz_ HB GW401⟩
 subst c3
 rw [if_pos rfl] at H
 obtain ⟨t403,A4,H⟩:=Kbind_ H
 (try dsimp only at H)
 obtain ⟨t404,A5,H⟩:=Kbind_ H
 (try dsimp only at H)
 by_cases c6:t403.size+t404.size≤9223372036854775807
 rotate_left
 ·rw [if_neg c6] at H
  exact absurd H (by simp)
 rw [if_pos c6] at H
 have c6b0:=eq_true c6
 have c6b1:decide (t403.size+t404.size≤9223372036854775807)=true:=decide_eq_true c6
 try have c6b2:(9223372036854775807<t403.size+t404.size)=False:=eq_false (Nat.not_lt.2 c6)
 simp only [Option.some.injEq,Prod.mk.injEq] at H
 obtain ⟨rfl,rfl⟩:=H
 go_enter Try.func90,Try.ntmps90
 try go_wp2_with (first|((with_reducible refine gate_dst (N:=1) rfl ?_);refine Ka_ 1 #[.int .u64 a0_0,.int .u64 a0_1,.int .u64 a0_2,.int .u64 a0_3,.int .i64 a0_4] 52 ?_;intro gb401 hg w7 hbox hb;have BK401:=As_ (hbox);have GW401:=Kw_ HB hg;replace HB:=Ks_ HB hb;clear hb hbox hg;obtain ⟨_,_,_,_,_,_,_,_,_,_⟩:=Ke5_ BK401.out)|((with_reducible refine gate_callee (f:=70) rfl ?_);refine Kg_ (some 5) rfl rfl Try.func70 (by kernel_rfl) rfl #[.agg #[.int .u64 a0_0,.int .u64 a0_1,.int .u64 a0_2,.int .u64 a0_3,.int .i64 a0_4]] rfl ?_;(with_reducible refine (R07_Right.calls k a0_0 a0_1 a0_2 a0_3 a0_4 true _ A2.out).mono ?_);rintro e w9 ⟨rfl,hb⟩;refine ⟨_,rfl,?_⟩;replace BK401:=Kb_ BK401 hb;replace HB:=Ks_ HB hb;(try clear hb)))
 replace BK401:=Kd_ BK401
 replace HB:=As_ (below_drew1 HB.out)
 refine start_ (n:=10) (S:=fun w'=>w'.cell? ⟨gb401,0,none⟩=some (.int .u64 a0_0)∧w'.cell? ⟨gb401,1,none⟩=some (.int .u64 a0_1)∧w'.cell? ⟨gb401,2,none⟩=some (.int .u64 a0_2)∧w'.cell? ⟨gb401,3,none⟩=some (.int .u64 a0_3)∧w'.cell? ⟨gb401,4,none⟩=some (.int .i64 a0_4)) (ds:=[]) (mB_ 10 0) (by kernel_rfl) rfl rfl (Kc5_ BK401.out) (fun hHeld=>?_);refine with_tabW R07_Put.tab3 R07_Put.bits3 (fun HT_ HW_=>?_)
 generalize w9.drew=w10 at BK401 HB hHeld ⊢
 refine Kp_ 0 7 (mB_ 10 1) (any_of HT_.out (by kernel_rfl)) ?_
 refine Kp_ 4 11 (mB_ 10 17) (any_of HT_.out (by kernel_rfl)) ?_
 refine Ko_ 1 8 (mB_ 10 19) (take_ofW HT_.out HW_.out (by kernel_rfl)) hHeld ?_
 refine Kp_ 2 9 (mB_ 10 23) (any_of HT_.out (by kernel_rfl)) ?_
 refine Ko_ 5 12 (mB_ 10 55) (take_ofW HT_.out HW_.out (by kernel_rfl)) hHeld ?_
 refine one_ (i:=3) (N:=some 10) (mB_ 10 63) rfl rfl (one_of HT_.out (by kernel_rfl)) (by decide) (fun K hK=>?_)
 refine goes_ Try.func64 (by kernel_rfl) rfl #[.int .u64 (IntKind.u64.wrap (a0_4)),.int .i64 1] (by rfl) rfl rfl (by (try simp only [List.map_toArray,List.map_cons,List.map_nil]);first|done|rfl|(simp only [List.length_drop,List.length_take];rfl)) ?_
 with_reducible refine (R02_Number.calls k (IntKind.u64.wrap (a0_4)) 1 t403 _ A4.out).mono ?_
 rintro e w11 ⟨rfl,hb⟩
 refine ⟨_,rfl,?_⟩
 replace BK401:=Kb_ BK401 hb
 replace HB:=Ks_ HB hb
 (try clear hb)
 (try clear hb2)
 (try clear hk)
 (try clear hi)
 refine hK.out _ _ (Kc5_ BK401.out) (fun hHeld=>?_)
 clear hK K
 refine Kn_ 10 ?_
 refine one_ (i:=6) (N:=some 13) (mB_ 10 127) rfl rfl (one_of HT_.out (by kernel_rfl)) (by decide) (fun K hK=>?_)
 refine goes_ Try.func103 (by kernel_rfl) rfl #[.agg #[.int .u64 a0_0,.int .u64 a0_1,.int .u64 a0_2,.int .u64 a0_3]] (by rfl) rfl rfl (by (try simp only [List.map_toArray,List.map_cons,List.map_nil]);first|done|rfl|(simp only [List.length_drop,List.length_take];rfl)) ?_
 with_reducible refine (R06_Put.calls k a0_0 a0_1 a0_2 a0_3 t404 _ A5.out).mono ?_
 rintro e w12 ⟨rfl,hb⟩
 refine ⟨_,rfl,?_⟩
 replace BK401:=Kb_ BK401 hb
 replace HB:=Ks_ HB hb
 (try clear hb)
 (try clear hb2)
 (try clear hk)
 (try clear hi)
 refine hK.out _ _ (Kc5_ BK401.out) (fun hHeld=>?_)
 clear hK K
 refine Kn_ 13 ?_
 refine Kp_ 7 14 (mB_ 10 255) (any_of HT_.out (by kernel_rfl)) ?_
 refine Kp_ 8 2 (mB_ 10 511) (any_of HT_.out (by kernel_rfl)) ?_
 refine Kp_ 9 3 (mB_ 10 1023) (any_of HT_.out (by kernel_rfl)) ?_
 refine done_ (done_of HT_.out (by kernel_rfl)) ?_
 try go_wp2
 go_ret2
 exact ⟨Kh_,Kz_ HB GW401⟩
def R08_Bytes.l0:Nat→ByteArray→Int→Int→Int→Int→Int→Int→List (S117)→Option (ByteArray × Bool)
 | 0,_,_,_,_,_,_,_,_=>none
 | k+1,x4,x6,x101,x102,x104,x105,x106,x100=>if x6<(x100.length:Int) then (if 0≤x6 then ((R02_Text.f k ((rd_T117 x100 x6).f0)).bind fun t412=>(if x4.size+t412.size≤9223372036854775807 then ((R02_Text.f k ((rd_T117 x100 x6).f1)).bind fun t413=>(if (x4++t412).size+t413.size≤9223372036854775807 then (if (rd_T117 x100 x6).f3=true then (if ((x4++t412)++t413).size+1≤9223372036854775807 then (R08_Bytes.l0 k (((x4++t412)++t413)++(⟨#[1]⟩:ByteArray)) (wrap64 (x6+1)) x101 x102 x104 x105 x106 x100) else (none)) else (if ((x4++t412)++t413).size+1≤9223372036854775807 then ((R02_Text.f k ((rd_T117 x100 x6).f2)).bind fun t414=>(if (((x4++t412)++t413)++(⟨#[0]⟩:ByteArray)).size+t414.size≤9223372036854775807 then (R08_Bytes.l0 k ((((x4++t412)++t413)++(⟨#[0]⟩:ByteArray))++t414) (wrap64 (x6+1)) x101 x102 x104 x105 x106 x100) else (none))) else (none))) else (none))) else (none))) else (none)) else (some (x4,true))
def R08_Bytes.f (k:Nat) (a0_0:Int) (a0_1:Int) (a0_2:Int) (a0_3:Int) (a0_4:Int) (l0_5:List (S117)):Option (ByteArray × Bool):=(R08_Whole.f k a0_0 a0_1 a0_2 a0_3 a0_4 l0_5).bind fun t406=>(if t406=true then ((R07_Put.f k a0_0 a0_1 a0_2 a0_3 a0_4).bind fun bt407=>((R02_Number.f k (IntKind.u64.wrap ((l0_5.length:Int))) 1).bind fun t409=>(if bt407.1.size+t409.size≤9223372036854775807 then (R08_Bytes.l0 k (bt407.1++t409) 0 a0_0 a0_1 a0_2 a0_3 a0_4 l0_5) else (none)))) else (some ((⟨#[]⟩:ByteArray),false)))
def R08_Bytes.T9:Bool × List (List Nat × List Nat):=(true,[([],[]),([],[]),([1],[1]),([2],[2]),([0,3],[0,3]),([],[]),([5],[5]),([6,3],[6]),([4,7],[4,7]),([8,7,0,1,2,3,4,5,6,7,8],[0,8])])
def R08_Bytes.B9:List Nat:=[0,0,2,6,15,0,32,110,255,511]
theorem R08_Bytes.tab9:rtab .any (opsOf Try.f66 9)=R08_Bytes.T9:=by kernel_rfl
theorem R08_Bytes.bits9:waitsOk R08_Bytes.T9.2 R08_Bytes.B9=true:=by kernel_rfl
set_option maxHeartbeats 8000000 in
set_option maxRecDepth 100000 in
theorem R08_Bytes.calls (k:Nat) (a0_0:Int) (a0_1:Int) (a0_2:Int) (a0_3:Int) (a0_4:Int) (A0_5:Option Addr) (c0_5:Nat) (l0_5:List (S117)) (r1:ByteArray) (r2:Bool) (w:World) (hr0_5:Kd.C k117 w A0_5 l0_5.length l0_5) (hc0_5:l0_5.length≤c0_5) (h:R08_Bytes.f k a0_0 a0_1 a0_2 a0_3 a0_4 l0_5=some (r1,r2)) :
  Calls Try.prog 66 #[.agg #[.int .u64 a0_0,.int .u64 a0_1,.int .u64 a0_2,.int .u64 a0_3,.int .i64 a0_4,.slice A0_5 l0_5.length c0_5]] w fun e w'=>e = .returned (.tuple #[.string r1,.bool r2])∧Below w.heap.size w w':=by
 have hu55:=Try.underlying55
 have hu52:=Try.underlying52
 have hu117:=Try.underlying117
 have HR0_5:=As_ hr0_5
 have HC0_5:=As_ hc0_5
 clear hr0_5 hc0_5
 have HB:=As_ (Below.refl w.heap.size w)
 unfold R08_Bytes.f at h
 have H:=h
 (try (have Hs_:=H;simp only [ByteArray.size_append,Int.natCast_add] at Hs_))
 clear h
 obtain ⟨t406,A2,H⟩:=Kbind_ H
 (try dsimp only at H)
 by_cases c3:t406=true
 rotate_left
 ·replace c3:=Bool.eq_false_iff.mpr c3
  subst c3
  rw [if_neg Bool.false_ne_true] at H
  simp only [Option.some.injEq,Prod.mk.injEq] at H
  obtain ⟨rfl,rfl⟩:=H
  go_enter Try.func66,Try.ntmps66
  go_wp2_with (first|((with_reducible refine gate_dst (N:=1) rfl ?_);refine Ka_ 1 #[.int .u64 a0_0,.int .u64 a0_1,.int .u64 a0_2,.int .u64 a0_3,.int .i64 a0_4,.slice A0_5 l0_5.length c0_5] 55 ?_;intro gb405 hg w46 hbox hb;have BK405:=As_ (hbox);have GW405:=Kw_ HB hg;replace HB:=Ks_ HB hb;clear hb hbox hg;obtain ⟨_,_,_,_,_,_,_,_,_,_,_,_⟩:=Ke6_ BK405.out)|((with_reducible refine gate_callee (f:=74) rfl ?_);refine Kg_ (some 9) rfl rfl Try.func74 (by kernel_rfl) rfl #[.agg #[.int .u64 a0_0,.int .u64 a0_1,.int .u64 a0_2,.int .u64 a0_3,.int .i64 a0_4,.slice A0_5 l0_5.length c0_5]] rfl ?_;(with_reducible refine (R08_Whole.calls k a0_0 a0_1 a0_2 a0_3 a0_4 _ _ l0_5 false _ ?side1 ?side2 A2.out).mono ?_);(case side1=>repeat (first|exact (Kd.C_below HR0_5.out HB.out)|(with_reducible refine Kd.C_alloc ?_ _)|(with_reducible refine Kd.C_drewN ?_ _)|(with_reducible refine Kd.C_drew ?_)));(case side2=>exact HC0_5.out);rintro e w48 ⟨rfl,hb⟩;refine ⟨_,rfl,?_⟩;replace HB:=Ks_ HB hb;(try clear hb)))
  go_ret2
  exact ⟨Kh_,Kz_ HB GW405⟩
 subst c3
 rw [if_pos rfl] at H
 obtain ⟨⟨t407,t408⟩,A4,H⟩:=Kbind_ H
 (try dsimp only at H)
 obtain ⟨t409,A5,H⟩:=Kbind_ H
 (try dsimp only at H)
 by_cases c6:t407.size+t409.size≤9223372036854775807
 rotate_left
 ·rw [if_neg c6] at H
  exact absurd H (by simp)
 rw [if_pos c6] at H
 have c6b0:=eq_true c6
 have c6b1:decide (t407.size+t409.size≤9223372036854775807)=true:=decide_eq_true c6
 try have c6b2:(9223372036854775807<t407.size+t409.size)=False:=eq_false (Nat.not_lt.2 c6)
 have H':=As_ H
 clear H
 go_enter Try.func66,Try.ntmps66
 go_wp2_with (first|((with_reducible refine gate_dst (N:=1) rfl ?_);refine Ka_ 1 #[.int .u64 a0_0,.int .u64 a0_1,.int .u64 a0_2,.int .u64 a0_3,.int .i64 a0_4,.slice A0_5 l0_5.length c0_5] 55 ?_;intro gb405 hg w7 hbox hb;have BK405:=As_ (hbox);have GW405:=Kw_ HB hg;replace HB:=Ks_ HB hb;clear hb hbox hg;obtain ⟨hcz8_0,hcz8_1,hcz8_2,hcz8_3,hcz8_4,hcz8_5,hfz8_0,hfz8_1,hfz8_2,hfz8_3,hfz8_4,hfz8_5⟩:=Ke6_ BK405.out)|((with_reducible refine gate_callee (f:=74) rfl ?_);refine Kg_ (some 9) rfl rfl Try.func74 (by kernel_rfl) rfl #[.agg #[.int .u64 a0_0,.int .u64 a0_1,.int .u64 a0_2,.int .u64 a0_3,.int .i64 a0_4,.slice A0_5 l0_5.length c0_5]] rfl ?_;(with_reducible refine (R08_Whole.calls k a0_0 a0_1 a0_2 a0_3 a0_4 _ _ l0_5 true _ ?side1 ?side2 A2.out).mono ?_);(case side1=>repeat (first|exact (Kd.C_below HR0_5.out HB.out)|(with_reducible refine Kd.C_alloc ?_ _)|(with_reducible refine Kd.C_drewN ?_ _)|(with_reducible refine Kd.C_drew ?_)));(case side2=>exact HC0_5.out);rintro e w9 ⟨rfl,hb⟩;refine ⟨_,rfl,?_⟩;replace BK405:=Kb_ BK405 hb;replace HB:=Ks_ HB hb;(try clear hb);obtain ⟨hcz10_0,hcz10_1,hcz10_2,hcz10_3,hcz10_4,hcz10_5,hfz10_0,hfz10_1,hfz10_2,hfz10_3,hfz10_4,hfz10_5⟩:=Ke6_ BK405.out)|((with_reducible refine gate_callee (f:=90) rfl ?_);refine Kg_ (some 14) rfl rfl Try.func90 (by kernel_rfl) rfl #[.agg #[.int .u64 a0_0,.int .u64 a0_1,.int .u64 a0_2,.int .u64 a0_3,.int .i64 a0_4]] rfl ?_;(with_reducible refine (R07_Put.calls k a0_0 a0_1 a0_2 a0_3 a0_4 t407 t408 _ A4.out).mono ?_);rintro e w11 ⟨rfl,hb⟩;refine ⟨_,rfl,?_⟩;replace BK405:=Kb_ BK405 hb;replace HB:=Ks_ HB hb;(try clear hb);obtain ⟨hcz12_0,hcz12_1,hcz12_2,hcz12_3,hcz12_4,hcz12_5,hfz12_0,hfz12_1,hfz12_2,hfz12_3,hfz12_4,hfz12_5⟩:=Ke6_ BK405.out)|((with_reducible refine gate_callee (f:=64) rfl ?_);refine Kg_ (some 22) rfl rfl Try.func64 (by kernel_rfl) rfl #[.int .u64 (IntKind.u64.wrap ((l0_5.length:Int))),.int .i64 1] rfl ?_;(with_reducible refine (R02_Number.calls k (IntKind.u64.wrap ((l0_5.length:Int))) 1 t409 _ A5.out).mono ?_);rintro e w13 ⟨rfl,hb⟩;refine ⟨_,rfl,?_⟩;replace BK405:=Kb_ BK405 hb;replace HB:=Ks_ HB hb;(try clear hb)))
 go_loopg [4,6] k (fun kq v4 v6 w'=>∃ (x4_1:ByteArray) (x6_1:Int),v4 = .string x4_1∧v6 = .int .i64 x6_1∧Aside0 (R08_Bytes.l0 kq x4_1 x6_1 a0_0 a0_1 a0_2 a0_3 a0_4 l0_5=some (r1,r2))∧Aside0 (kq≤k)∧Aside0 (w'.heap[gb405]?=some (.cells #[.int .u64 a0_0,.int .u64 a0_1,.int .u64 a0_2,.int .u64 a0_3,.int .i64 a0_4,(.slice A0_5 l0_5.length c0_5)] 55 (0,0)))∧Aside0 (Below w.heap.size w w'))
 case atStart=>exact ⟨(t407++t409),(0),(by first|rfl|(simp;done)|(simp [*];done)),(by first|rfl|(simp;done)|(simp [*];done)),H',⟨Nat.le_refl _⟩,⟨by exact Kq_ BK405⟩,⟨Kz_ HB GW405⟩⟩
 case round =>
  clear H'
  try clear p2
  try clear c3
  try clear c6
  try clear c6b0
  try clear c6b1
  try clear c6b2
  try clear c7
  try clear c9
  try clear hcz10_0
  try clear hcz10_1
  try clear hcz10_2
  try clear hcz10_3
  try clear hcz10_4
  try clear hcz10_5
  try clear hcz12_0
  try clear hcz12_1
  try clear hcz12_2
  try clear hcz12_3
  try clear hcz12_4
  try clear hcz12_5
  try clear hcz8_0
  try clear hcz8_1
  try clear hcz8_2
  try clear hcz8_3
  try clear hcz8_4
  try clear hcz8_5
  try clear hfz10_0
  try clear hfz10_1
  try clear hfz10_2
  try clear hfz10_3
  try clear hfz10_4
  try clear hfz10_5
  try clear hfz12_0
  try clear hfz12_1
  try clear hfz12_2
  try clear hfz12_3
  try clear hfz12_4
  try clear hfz12_5
  try clear hfz8_0
  try clear hfz8_1
  try clear hfz8_2
  try clear hfz8_3
  try clear hfz8_4
  try clear hfz8_5
  obtain ⟨x4_1,x6_1,rfl,rfl,HA,HK1,BK405,HB⟩:=hrel
  cases gk with
  | zero=>exact absurd HA.out (by simp [R08_Bytes.l0])
  | succ k1 =>
   have H:=HA.out
   clear HA
   simp only [R08_Bytes.l0] at H
   by_cases c14:x6_1<(l0_5.length:Int)
   rotate_left
   ·rw [if_neg c14] at H
    have c14b0:decide (x6_1<(l0_5.length:Int))=false:=decide_eq_false c14
    clear c14
    simp only [Option.some.injEq,Prod.mk.injEq] at H
    obtain ⟨rfl,rfl⟩:=H
    obtain ⟨_,_,_,_,_,_,_,_,_,_,_,_⟩:=Ke6_ BK405.out
    go_wp2
    go_ret2
    exact ⟨Kh_,Kz_ HB GW405⟩
   rw [if_pos c14] at H
   have c14b0:decide (x6_1<(l0_5.length:Int))=true:=decide_eq_true c14
   clear c14
   by_cases c15:0≤x6_1
   rotate_left
   ·rw [if_neg c15] at H
    exact absurd H (by simp)
   rw [if_pos c15] at H
   have c15b0:decide (0≤x6_1)=true:=decide_eq_true c15
   clear c15
   obtain ⟨t412,A16,H⟩:=Kbind_ H
   (try dsimp only at H)
   by_cases c17:x4_1.size+t412.size≤9223372036854775807
   rotate_left
   ·rw [if_neg c17] at H
    exact absurd H (by simp)
   rw [if_pos c17] at H
   have c17b0:=eq_true c17
   have c17b1:decide (x4_1.size+t412.size≤9223372036854775807)=true:=decide_eq_true c17
   try have c17b2:(9223372036854775807<x4_1.size+t412.size)=False:=eq_false (Nat.not_lt.2 c17)
   obtain ⟨t413,A18,H⟩:=Kbind_ H
   (try dsimp only at H)
   by_cases c19:(x4_1++t412).size+t413.size≤9223372036854775807
   rotate_left
   ·rw [if_neg c19] at H
    exact absurd H (by simp)
   rw [if_pos c19] at H
   have c19b0:=eq_true c19
   (try (have c19b0s_:=c19b0;simp only [ByteArray.size_append,Int.natCast_add,show (⟨#[0]⟩:ByteArray).size=1 from rfl,show (⟨#[1]⟩:ByteArray).size=1 from rfl] at c19b0s_))
   have c19b1:decide ((x4_1++t412).size+t413.size≤9223372036854775807)=true:=decide_eq_true c19
   (try (have c19b1s_:=c19b1;simp only [ByteArray.size_append,Int.natCast_add,show (⟨#[0]⟩:ByteArray).size=1 from rfl,show (⟨#[1]⟩:ByteArray).size=1 from rfl] at c19b1s_))
   try have c19b2:(9223372036854775807<(x4_1++t412).size+t413.size)=False:=eq_false (Nat.not_lt.2 c19)
   (try (have c19b2s_:=c19b2;simp only [ByteArray.size_append,Int.natCast_add,show (⟨#[0]⟩:ByteArray).size=1 from rfl,show (⟨#[1]⟩:ByteArray).size=1 from rfl] at c19b2s_))
   obtain ⟨bq20,hbq20⟩:∃ b_:Bool,b_=((rd_T117 l0_5 x6_1).f3):=⟨_,rfl⟩
   replace H:(if bq20=true then (if ((x4_1++t412)++t413).size+1≤9223372036854775807 then (R08_Bytes.l0 k1 (((x4_1++t412)++t413)++(⟨#[1]⟩:ByteArray)) (wrap64 (x6_1+1)) a0_0 a0_1 a0_2 a0_3 a0_4 l0_5) else (none)) else (if ((x4_1++t412)++t413).size+1≤9223372036854775807 then ((R02_Text.f k1 ((rd_T117 l0_5 x6_1).f2)).bind fun t414=>(if (((x4_1++t412)++t413)++(⟨#[0]⟩:ByteArray)).size+t414.size≤9223372036854775807 then (R08_Bytes.l0 k1 ((((x4_1++t412)++t413)++(⟨#[0]⟩:ByteArray))++t414) (wrap64 (x6_1+1)) a0_0 a0_1 a0_2 a0_3 a0_4 l0_5) else (none))) else (none)))=some (r1,r2):=by rw [← hbq20] at H;exact H
   have Nbq20:=As_ hbq20
   clear hbq20
   by_cases c21:bq20=true
   ·subst c21
    rw [if_pos rfl] at H
    by_cases c22:((x4_1++t412)++t413).size+1≤9223372036854775807
    rotate_left
    ·rw [if_neg c22] at H
     exact absurd H (by simp)
    rw [if_pos c22] at H
    have c22b0:=eq_true c22
    (try (have c22b0s_:=c22b0;simp only [ByteArray.size_append,Int.natCast_add,show (⟨#[0]⟩:ByteArray).size=1 from rfl,show (⟨#[1]⟩:ByteArray).size=1 from rfl] at c22b0s_))
    have c22b1:decide (((x4_1++t412)++t413).size+1≤9223372036854775807)=true:=decide_eq_true c22
    (try (have c22b1s_:=c22b1;simp only [ByteArray.size_append,Int.natCast_add,show (⟨#[0]⟩:ByteArray).size=1 from rfl,show (⟨#[1]⟩:ByteArray).size=1 from rfl] at c22b1s_))
    try have c22b2:(9223372036854775807<((x4_1++t412)++t413).size+1)=False:=eq_false (Nat.not_lt.2 c22)
    (try (have c22b2s_:=c22b2;simp only [ByteArray.size_append,Int.natCast_add,show (⟨#[0]⟩:ByteArray).size=1 from rfl,show (⟨#[1]⟩:ByteArray).size=1 from rfl] at c22b2s_))
    have H':=As_ H
    clear H
    obtain ⟨_,_,_,_,_,_,_,_,_,_,_,_⟩:=Ke6_ BK405.out
    have p410:0≤(x6_1:Int):=of_decide_eq_true (by first|(with_reducible assumption)|assumption)
    have q410:x6_1<(l0_5.length:Int):=of_decide_eq_true (by first|(with_reducible assumption)|assumption)
    obtain ⟨ad410,e410,hx410_0,hx410_1,hx410_2,hx410_3⟩:=at_T117 HR0_5.out x6_1 p410 q410
    (try rw [← Nbq20.out] at hx410_3)
    cases e410
    replace hx410_0:=(HB.out.cell (World.block_lt_of_cell? w _ hx410_0)).trans hx410_0
    replace hx410_1:=(HB.out.cell (World.block_lt_of_cell? w _ hx410_1)).trans hx410_1
    replace hx410_2:=(HB.out.cell (World.block_lt_of_cell? w _ hx410_2)).trans hx410_2
    replace hx410_3:=(HB.out.cell (World.block_lt_of_cell? w _ hx410_3)).trans hx410_3
    replace p410:=eq_true p410
    replace q410:=eq_true q410
    try go_wp2_with (first|((with_reducible refine gate_dst (N:=7) rfl ?_);refine Ka_ 7 #[.string (⟨#[]⟩:ByteArray),.string (⟨#[]⟩:ByteArray),.string (⟨#[]⟩:ByteArray),.bool false] 117 ?_;intro gb411 hg w24 hbox hb;have BK411:=As_ (hbox);have GW411:=Kw_ HB hg;have NB405_411:=Kl_ BK405 hg;have NB411_405:=Kr_ BK405 hg;replace BK405:=Kb_ BK405 hb;replace HB:=Ks_ HB hb;clear hb hbox hg;have hnb25:=NB411_405.out;have hnc25:=NB405_411.out;obtain ⟨_,_,_,_,_,_,_,_⟩:=Ke4_ BK411.out))
    have n0_:Aside0 (((((w24.setCell ⟨gb411,0,none⟩ (.string ((rd_T117 l0_5 x6_1).f0))).setCell ⟨gb411,1,none⟩ (.string ((rd_T117 l0_5 x6_1).f1))).setCell ⟨gb411,2,none⟩ (.string ((rd_T117 l0_5 x6_1).f2))).setCell ⟨gb411,3,none⟩ (.bool true)).heap[gb405]?=some (.cells #[.int .u64 a0_0,.int .u64 a0_1,.int .u64 a0_2,.int .u64 a0_3,.int .i64 a0_4,.slice (some ad410) l0_5.length c0_5] 55 (0,0))):=⟨by exact K1b_ BK405 NB405_411⟩
    have n1_:Aside0 (((((w24.setCell ⟨gb411,0,none⟩ (.string ((rd_T117 l0_5 x6_1).f0))).setCell ⟨gb411,1,none⟩ (.string ((rd_T117 l0_5 x6_1).f1))).setCell ⟨gb411,2,none⟩ (.string ((rd_T117 l0_5 x6_1).f2))).setCell ⟨gb411,3,none⟩ (.bool true)).heap[gb411]?=some (.cells #[.string ((rd_T117 l0_5 x6_1).f0),.string ((rd_T117 l0_5 x6_1).f1),.string ((rd_T117 l0_5 x6_1).f2),.bool true] 117 (0,0))):=⟨by refine Kv_ ?_;exact Kput4_ (Kq_ BK411)⟩
    have n2_:Aside0 (Below w.heap.size w ((((w24.setCell ⟨gb411,0,none⟩ (.string ((rd_T117 l0_5 x6_1).f0))).setCell ⟨gb411,1,none⟩ (.string ((rd_T117 l0_5 x6_1).f1))).setCell ⟨gb411,2,none⟩ (.string ((rd_T117 l0_5 x6_1).f2))).setCell ⟨gb411,3,none⟩ (.bool true))):=⟨K2a_ HB GW405 GW411⟩
    (try clear BK405)
    (try clear BK411)
    (try clear HB)
    generalize ((((w24.setCell ⟨gb411,0,none⟩ (.string ((rd_T117 l0_5 x6_1).f0))).setCell ⟨gb411,1,none⟩ (.string ((rd_T117 l0_5 x6_1).f1))).setCell ⟨gb411,2,none⟩ (.string ((rd_T117 l0_5 x6_1).f2))).setCell ⟨gb411,3,none⟩ (.bool true))=w27 at n0_ n1_ n2_ ⊢
    have BK405:=n0_
    have BK411:=n1_
    have HB:=n2_
    clear n0_ n1_ n2_
    replace BK405:=Kd_ BK405
    replace BK411:=Kd_ BK411
    replace HB:=As_ (below_drew1 HB.out)
    refine start_ (n:=10) (S:=fun w'=>w'.cell? ⟨gb411,0,none⟩=some (.string ((rd_T117 l0_5 x6_1).f0))∧w'.cell? ⟨gb411,1,none⟩=some (.string ((rd_T117 l0_5 x6_1).f1))∧w'.cell? ⟨gb411,2,none⟩=some (.string ((rd_T117 l0_5 x6_1).f2))∧w'.cell? ⟨gb411,3,none⟩=some (.bool true)) (ds:=[]) (mB_ 10 0) (by kernel_rfl) rfl rfl (Kc4_ BK411.out) (fun hHeld=>?_);refine with_tabW R08_Bytes.tab9 R08_Bytes.bits9 (fun HT_ HW_=>?_)
    generalize w27.drew=w28 at BK405 BK411 HB hHeld ⊢
    refine Kp_ 0 36 (mB_ 10 1) (any_of HT_.out (by kernel_rfl)) ?_
    refine Kp_ 1 37 (mB_ 10 3) (any_of HT_.out (by kernel_rfl)) ?_
    refine Kp_ 5 41 (mB_ 10 35) (any_of HT_.out (by kernel_rfl)) ?_
    refine Ko_ 2 38 (mB_ 10 39) (take_ofW HT_.out HW_.out (by kernel_rfl)) hHeld ?_
    refine Ko_ 6 42 (mB_ 10 103) (take_ofW HT_.out HW_.out (by kernel_rfl)) hHeld ?_
    refine one_ (i:=3) (N:=some 39) (mB_ 10 111) rfl rfl (one_of HT_.out (by kernel_rfl)) (by decide) (fun K hK=>?_)
    refine goes_ Try.func67 (by kernel_rfl) rfl #[.string ((rd_T117 l0_5 x6_1).f0)] (by rfl) rfl rfl (by (try simp only [List.map_toArray,List.map_cons,List.map_nil]);first|done|rfl|(simp only [List.length_drop,List.length_take];rfl)) ?_
    with_reducible refine (R02_Text.calls k1 ((rd_T117 l0_5 x6_1).f0) t412 _ A16.out).mono ?_
    rintro e w29 ⟨rfl,hb⟩
    refine ⟨_,rfl,?_⟩
    replace BK405:=Kb_ BK405 hb
    replace BK411:=Kb_ BK411 hb
    replace HB:=Ks_ HB hb
    (try clear hb)
    (try clear hb2)
    (try clear hk)
    (try clear hi)
    refine hK.out _ _ (Kc4_ BK411.out) (fun hHeld=>?_)
    clear hK K
    refine Kn_ 39 ?_
    refine Kp_ 4 40 (mB_ 10 127) (any_of HT_.out (by kernel_rfl)) ?_
    refine one_ (i:=7) (N:=some 43) (mB_ 10 255) rfl rfl (one_of HT_.out (by kernel_rfl)) (by decide) (fun K hK=>?_)
    refine goes_ Try.func67 (by kernel_rfl) rfl #[.string ((rd_T117 l0_5 x6_1).f1)] (by rfl) rfl rfl (by (try simp only [List.map_toArray,List.map_cons,List.map_nil]);first|done|rfl|(simp only [List.length_drop,List.length_take];rfl)) ?_
    with_reducible refine (R02_Text.calls k1 ((rd_T117 l0_5 x6_1).f1) t413 _ A18.out).mono ?_
    rintro e w30 ⟨rfl,hb⟩
    refine ⟨_,rfl,?_⟩
    replace BK405:=Kb_ BK405 hb
    replace BK411:=Kb_ BK411 hb
    replace HB:=Ks_ HB hb
    (try clear hb)
    (try clear hb2)
    (try clear hk)
    (try clear hi)
    refine hK.out _ _ (Kc4_ BK411.out) (fun hHeld=>?_)
    clear hK K
    refine Kn_ 43 ?_
    refine Kp_ 8 44 (mB_ 10 511) (any_of HT_.out (by kernel_rfl)) ?_
    refine Kp_ 9 4 (mB_ 10 1023) (any_of HT_.out (by kernel_rfl)) ?_
    refine done_ (done_of HT_.out (by kernel_rfl)) ?_
    obtain ⟨_,_,_,_,_,_,_,_⟩:=Ke4_ BK411.out
    try go_wp2
    go_roundg k1
    case measure=>have:=HK1.out;omega
    case rel=>exact ⟨(((x4_1++t412)++t413)++(⟨#[1]⟩:ByteArray)),(wrap64 (x6_1+1)),(by first|rfl|(simp;done)|(simp [*];done)),(by first|rfl|(simp;done)|(simp [*];done)),H',⟨by have:=HK1.out;omega⟩,⟨by exact Kq_ BK405⟩,⟨K2a_ HB GW405 GW411⟩⟩
   replace c21:=Bool.eq_false_iff.mpr c21
   subst c21
   rw [if_neg Bool.false_ne_true] at H
   by_cases c32:((x4_1++t412)++t413).size+1≤9223372036854775807
   rotate_left
   ·rw [if_neg c32] at H
    exact absurd H (by simp)
   rw [if_pos c32] at H
   have c32b0:=eq_true c32
   (try (have c32b0s_:=c32b0;simp only [ByteArray.size_append,Int.natCast_add,show (⟨#[0]⟩:ByteArray).size=1 from rfl,show (⟨#[1]⟩:ByteArray).size=1 from rfl] at c32b0s_))
   have c32b1:decide (((x4_1++t412)++t413).size+1≤9223372036854775807)=true:=decide_eq_true c32
   (try (have c32b1s_:=c32b1;simp only [ByteArray.size_append,Int.natCast_add,show (⟨#[0]⟩:ByteArray).size=1 from rfl,show (⟨#[1]⟩:ByteArray).size=1 from rfl] at c32b1s_))
   try have c32b2:(9223372036854775807<((x4_1++t412)++t413).size+1)=False:=eq_false (Nat.not_lt.2 c32)
   (try (have c32b2s_:=c32b2;simp only [ByteArray.size_append,Int.natCast_add,show (⟨#[0]⟩:ByteArray).size=1 from rfl,show (⟨#[1]⟩:ByteArray).size=1 from rfl] at c32b2s_))
   obtain ⟨t414,A33,H⟩:=Kbind_ H
   (try dsimp only at H)
   by_cases c34:(((x4_1++t412)++t413)++(⟨#[0]⟩:ByteArray)).size+t414.size≤9223372036854775807
   rotate_left
   ·rw [if_neg c34] at H
    exact absurd H (by simp)
   rw [if_pos c34] at H
   have c34b0:=eq_true c34
   (try (have c34b0s_:=c34b0;simp only [ByteArray.size_append,Int.natCast_add,show (⟨#[0]⟩:ByteArray).size=1 from rfl,show (⟨#[1]⟩:ByteArray).size=1 from rfl] at c34b0s_))
   have c34b1:decide ((((x4_1++t412)++t413)++(⟨#[0]⟩:ByteArray)).size+t414.size≤9223372036854775807)=true:=decide_eq_true c34
   (try (have c34b1s_:=c34b1;simp only [ByteArray.size_append,Int.natCast_add,show (⟨#[0]⟩:ByteArray).size=1 from rfl,show (⟨#[1]⟩:ByteArray).size=1 from rfl] at c34b1s_))
   try have c34b2:(9223372036854775807<(((x4_1++t412)++t413)++(⟨#[0]⟩:ByteArray)).size+t414.size)=False:=eq_false (Nat.not_lt.2 c34)
   (try (have c34b2s_:=c34b2;simp only [ByteArray.size_append,Int.natCast_add,show (⟨#[0]⟩:ByteArray).size=1 from rfl,show (⟨#[1]⟩:ByteArray).size=1 from rfl] at c34b2s_))
   have H':=As_ H
   clear H
   obtain ⟨_,_,_,_,_,_,_,_,_,_,_,_⟩:=Ke6_ BK405.out
   have p410:0≤(x6_1:Int):=of_decide_eq_true (by first|(with_reducible assumption)|assumption)
   have q410:x6_1<(l0_5.length:Int):=of_decide_eq_true (by first|(with_reducible assumption)|assumption)
   obtain ⟨ad410,e410,hx410_0,hx410_1,hx410_2,hx410_3⟩:=at_T117 HR0_5.out x6_1 p410 q410
   (try rw [← Nbq20.out] at hx410_3)
   cases e410
   replace hx410_0:=(HB.out.cell (World.block_lt_of_cell? w _ hx410_0)).trans hx410_0
   replace hx410_1:=(HB.out.cell (World.block_lt_of_cell? w _ hx410_1)).trans hx410_1
   replace hx410_2:=(HB.out.cell (World.block_lt_of_cell? w _ hx410_2)).trans hx410_2
   replace hx410_3:=(HB.out.cell (World.block_lt_of_cell? w _ hx410_3)).trans hx410_3
   replace p410:=eq_true p410
   replace q410:=eq_true q410
   try go_wp2_with (first|((with_reducible refine gate_dst (N:=7) rfl ?_);refine Ka_ 7 #[.string (⟨#[]⟩:ByteArray),.string (⟨#[]⟩:ByteArray),.string (⟨#[]⟩:ByteArray),.bool false] 117 ?_;intro gb411 hg w36 hbox hb;have BK411:=As_ (hbox);have GW411:=Kw_ HB hg;have NB405_411:=Kl_ BK405 hg;have NB411_405:=Kr_ BK405 hg;replace BK405:=Kb_ BK405 hb;replace HB:=Ks_ HB hb;clear hb hbox hg;have hnb37:=NB411_405.out;have hnc37:=NB405_411.out;obtain ⟨_,_,_,_,_,_,_,_⟩:=Ke4_ BK411.out))
   have n0_:Aside0 (((((w36.setCell ⟨gb411,0,none⟩ (.string ((rd_T117 l0_5 x6_1).f0))).setCell ⟨gb411,1,none⟩ (.string ((rd_T117 l0_5 x6_1).f1))).setCell ⟨gb411,2,none⟩ (.string ((rd_T117 l0_5 x6_1).f2))).setCell ⟨gb411,3,none⟩ (.bool false)).heap[gb405]?=some (.cells #[.int .u64 a0_0,.int .u64 a0_1,.int .u64 a0_2,.int .u64 a0_3,.int .i64 a0_4,.slice (some ad410) l0_5.length c0_5] 55 (0,0))):=⟨by exact K1b_ BK405 NB405_411⟩
   have n1_:Aside0 (((((w36.setCell ⟨gb411,0,none⟩ (.string ((rd_T117 l0_5 x6_1).f0))).setCell ⟨gb411,1,none⟩ (.string ((rd_T117 l0_5 x6_1).f1))).setCell ⟨gb411,2,none⟩ (.string ((rd_T117 l0_5 x6_1).f2))).setCell ⟨gb411,3,none⟩ (.bool false)).heap[gb411]?=some (.cells #[.string ((rd_T117 l0_5 x6_1).f0),.string ((rd_T117 l0_5 x6_1).f1),.string ((rd_T117 l0_5 x6_1).f2),.bool false] 117 (0,0))):=⟨by refine Kv_ ?_;exact Kput4_ (Kq_ BK411)⟩
   have n2_:Aside0 (Below w.heap.size w ((((w36.setCell ⟨gb411,0,none⟩ (.string ((rd_T117 l0_5 x6_1).f0))).setCell ⟨gb411,1,none⟩ (.string ((rd_T117 l0_5 x6_1).f1))).setCell ⟨gb411,2,none⟩ (.string ((rd_T117 l0_5 x6_1).f2))).setCell ⟨gb411,3,none⟩ (.bool false))):=⟨K2a_ HB GW405 GW411⟩
   (try clear BK405)
   (try clear BK411)
   (try clear HB)
   generalize ((((w36.setCell ⟨gb411,0,none⟩ (.string ((rd_T117 l0_5 x6_1).f0))).setCell ⟨gb411,1,none⟩ (.string ((rd_T117 l0_5 x6_1).f1))).setCell ⟨gb411,2,none⟩ (.string ((rd_T117 l0_5 x6_1).f2))).setCell ⟨gb411,3,none⟩ (.bool false))=w39 at n0_ n1_ n2_ ⊢
   have BK405:=n0_
   have BK411:=n1_
   have HB:=n2_
   clear n0_ n1_ n2_
   replace BK405:=Kd_ BK405
   replace BK411:=Kd_ BK411
   replace HB:=As_ (below_drew1 HB.out)
   refine start_ (n:=10) (S:=fun w'=>w'.cell? ⟨gb411,0,none⟩=some (.string ((rd_T117 l0_5 x6_1).f0))∧w'.cell? ⟨gb411,1,none⟩=some (.string ((rd_T117 l0_5 x6_1).f1))∧w'.cell? ⟨gb411,2,none⟩=some (.string ((rd_T117 l0_5 x6_1).f2))∧w'.cell? ⟨gb411,3,none⟩=some (.bool false)) (ds:=[]) (mB_ 10 0) (by kernel_rfl) rfl rfl (Kc4_ BK411.out) (fun hHeld=>?_);refine with_tabW R08_Bytes.tab9 R08_Bytes.bits9 (fun HT_ HW_=>?_)
   generalize w39.drew=w40 at BK405 BK411 HB hHeld ⊢
   refine Kp_ 0 36 (mB_ 10 1) (any_of HT_.out (by kernel_rfl)) ?_
   refine Kp_ 1 37 (mB_ 10 3) (any_of HT_.out (by kernel_rfl)) ?_
   refine Kp_ 5 41 (mB_ 10 35) (any_of HT_.out (by kernel_rfl)) ?_
   refine Ko_ 2 38 (mB_ 10 39) (take_ofW HT_.out HW_.out (by kernel_rfl)) hHeld ?_
   refine Ko_ 6 42 (mB_ 10 103) (take_ofW HT_.out HW_.out (by kernel_rfl)) hHeld ?_
   refine one_ (i:=3) (N:=some 39) (mB_ 10 111) rfl rfl (one_of HT_.out (by kernel_rfl)) (by decide) (fun K hK=>?_)
   refine goes_ Try.func67 (by kernel_rfl) rfl #[.string ((rd_T117 l0_5 x6_1).f0)] (by rfl) rfl rfl (by (try simp only [List.map_toArray,List.map_cons,List.map_nil]);first|done|rfl|(simp only [List.length_drop,List.length_take];rfl)) ?_
   with_reducible refine (R02_Text.calls k1 ((rd_T117 l0_5 x6_1).f0) t412 _ A16.out).mono ?_
   rintro e w41 ⟨rfl,hb⟩
   refine ⟨_,rfl,?_⟩
   replace BK405:=Kb_ BK405 hb
   replace BK411:=Kb_ BK411 hb
   replace HB:=Ks_ HB hb
   (try clear hb)
   (try clear hb2)
   (try clear hk)
   (try clear hi)
   refine hK.out _ _ (Kc4_ BK411.out) (fun hHeld=>?_)
   clear hK K
   refine Kn_ 39 ?_
   refine Kp_ 4 40 (mB_ 10 127) (any_of HT_.out (by kernel_rfl)) ?_
   refine one_ (i:=7) (N:=some 43) (mB_ 10 255) rfl rfl (one_of HT_.out (by kernel_rfl)) (by decide) (fun K hK=>?_)
   refine goes_ Try.func67 (by kernel_rfl) rfl #[.string ((rd_T117 l0_5 x6_1).f1)] (by rfl) rfl rfl (by (try simp only [List.map_toArray,List.map_cons,List.map_nil]);first|done|rfl|(simp only [List.length_drop,List.length_take];rfl)) ?_
   with_reducible refine (R02_Text.calls k1 ((rd_T117 l0_5 x6_1).f1) t413 _ A18.out).mono ?_
   rintro e w42 ⟨rfl,hb⟩
   refine ⟨_,rfl,?_⟩
   replace BK405:=Kb_ BK405 hb
   replace BK411:=Kb_ BK411 hb
   replace HB:=Ks_ HB hb
   (try clear hb)
   (try clear hb2)
   (try clear hk)
   (try clear hi)
   refine hK.out _ _ (Kc4_ BK411.out) (fun hHeld=>?_)
   clear hK K
   refine Kn_ 43 ?_
   refine Kp_ 8 44 (mB_ 10 511) (any_of HT_.out (by kernel_rfl)) ?_
   refine Kp_ 9 4 (mB_ 10 1023) (any_of HT_.out (by kernel_rfl)) ?_
   refine done_ (done_of HT_.out (by kernel_rfl)) ?_
   obtain ⟨_,_,_,_,_,_,_,_⟩:=Ke4_ BK411.out
   try go_wp2_with (first|((with_reducible refine gate_callee (f:=67) rfl ?_);refine Kg_ (some 53) rfl rfl Try.func67 (by kernel_rfl) rfl #[.string ((rd_T117 l0_5 x6_1).f2)] rfl ?_;(with_reducible refine (R02_Text.calls k1 ((rd_T117 l0_5 x6_1).f2) t414 _ A33.out).mono ?_);rintro e w44 ⟨rfl,hb⟩;refine ⟨_,rfl,?_⟩;replace BK405:=Kb_ BK405 hb;replace HB:=Ks_ HB hb;(try clear hb)))
   go_roundg k1
   case measure=>have:=HK1.out;omega
   case rel=>exact ⟨((((x4_1++t412)++t413)++(⟨#[0]⟩:ByteArray))++t414),(wrap64 (x6_1+1)),(by first|rfl|(simp;done)|(simp [*];done)),(by first|rfl|(simp;done)|(simp [*];done)),H',⟨by have:=HK1.out;omega⟩,⟨by exact Kq_ BK405⟩,⟨K2a_ HB GW405 GW411⟩⟩
def R01_step.l0:Nat→Int→Int→Option (Int)
 | 0,_,_=>none
 | k+1,x0,x5=>if x5<8 then (if (Int.tmod x0 2)=1 then (R01_step.l0 k (Go.bits .xor .u32 (x0 / 2) 3988292384) (wrap64 (x5+1))) else (R01_step.l0 k (x0 / 2) (wrap64 (x5+1)))) else (some x0)
def R01_step.f (k:Nat) (a0:Int) (a1:Int):Option (Int):=R01_step.l0 k (Go.bits .xor .u32 a0 ((a1) % 4294967296)) 0
set_option maxHeartbeats 8000000 in
set_option maxRecDepth 100000 in
theorem R01_step.calls (k:Nat) (a0:Int) (a1:Int) (r:Int) (w:World) (h:R01_step.f k a0 a1=some r) :
  Calls Try.prog 91 #[.int .u32 a0,.int .u8 a1] w fun e w'=>e = .returned (.int .u32 r)∧Drawn0 w w':=by
 unfold R01_step.f at h
 have H:=h
 clear h
 have H':=As_ H
 clear H
 go_enter Try.func91,Try.ntmps91
 go_wp2
 go_loopg [0,5] k (fun kq v0 v5 w'=>∃ (x0_1:Int) (x5_1:Int),v0 = .int .u32 x0_1∧v5 = .int .i64 x5_1∧Aside0 (R01_step.l0 kq x0_1 x5_1=some r)∧Aside0 (kq≤k)∧Drawn0 w w')
 case atStart=>exact ⟨(Go.bits .xor .u32 a0 ((a1) % 4294967296)),(0),(by first|rfl|(simp;done)|(simp [*];done)),(by first|rfl|(simp;done)|(simp [*];done)),H',⟨Nat.le_refl _⟩,by repeat (first|exact Drawn0.refl _|apply Drawn0.step)⟩
 case round =>
  clear H'
  try clear p2
  obtain ⟨x0_1,x5_1,rfl,rfl,HA,HK1,⟨m1,rfl⟩⟩:=hrel
  cases gk with
  | zero=>exact absurd HA.out (by simp [R01_step.l0])
  | succ k1 =>
   have H:=HA.out
   clear HA
   simp only [R01_step.l0] at H
   by_cases c3:x5_1<8
   rotate_left
   ·rw [if_neg c3] at H
    have c3b0:decide (x5_1<8)=false:=decide_eq_false c3
    clear c3
    obtain rfl:=Option.some.inj H
    go_wp2
    go_ret
    exact ⟨by first|rfl|(simp;done)|(simp [*];done),by repeat (first|exact Drawn0.refl _|apply Drawn0.step)⟩
   rw [if_pos c3] at H
   have c3b0:decide (x5_1<8)=true:=decide_eq_true c3
   clear c3
   by_cases c4:(Int.tmod x0_1 2)=1
   rotate_left
   ·rw [if_neg c4] at H
    have c4b0:=beq_eq_false_iff_ne.mpr c4
    have c4b1:((Int.tmod x0_1 2) != 1)=true:=bne_iff_ne.mpr c4
    have H':=As_ H
    clear H
    go_wp2
    go_roundg k1
    case measure=>have:=HK1.out;omega
    case rel=>exact ⟨(x0_1 / 2),(wrap64 (x5_1+1)),(by first|rfl|(simp;done)|(simp [*];done)),(by first|rfl|(simp;done)|(simp [*];done)),H',⟨by have:=HK1.out;omega⟩,by repeat (first|exact Drawn0.refl _|apply Drawn0.step)⟩
   rw [if_pos c4] at H
   have c4b0:((Int.tmod x0_1 2) == 1)=true:=beq_iff_eq.mpr c4
   have c4b1:((Int.tmod x0_1 2) != 1)=false:=bne_eq_false_iff_eq.mpr c4
   clear c4
   have H':=As_ H
   clear H
   go_wp2
   go_roundg k1
   case measure=>have:=HK1.out;omega
   case rel=>exact ⟨(Go.bits .xor .u32 (x0_1 / 2) 3988292384),(wrap64 (x5_1+1)),(by first|rfl|(simp;done)|(simp [*];done)),(by first|rfl|(simp;done)|(simp [*];done)),H',⟨by have:=HK1.out;omega⟩,by repeat (first|exact Drawn0.refl _|apply Drawn0.step)⟩
def R01_Sum.l0:Nat→ByteArray→Int→Int→Option (Int)
 | 0,_,_,_=>none
 | k+1,x0,x3,x4=>if x4<(x0.size:Int) then (if 0≤x4 then ((R01_step.f k x3 (bt x0 x4)).bind fun t415=>(R01_Sum.l0 k x0 t415 (wrap64 (x4+1)))) else (none)) else (some (Go.bits .xor .u32 4294967295 x3))
def R01_Sum.f (k:Nat) (a0:ByteArray):Option (Int):=R01_Sum.l0 k a0 4294967295 0
set_option maxHeartbeats 8000000 in
set_option maxRecDepth 100000 in
theorem R01_Sum.calls (k:Nat) (a0:ByteArray) (r:Int) (w:World) (h:R01_Sum.f k a0=some r) :
  Calls Try.prog 68 #[.string a0] w fun e w'=>e = .returned (.int .u32 r)∧Drawn0 w w':=by
 unfold R01_Sum.f at h
 have H:=h
 clear h
 have H':=As_ H
 clear H
 go_enter Try.func68,Try.ntmps68
 go_wp2
 go_loopg [3,4] k (fun kq v3 v4 w'=>∃ (x3_1:Int) (x4_1:Int),v3 = .int .u32 x3_1∧v4 = .int .i64 x4_1∧Aside0 (R01_Sum.l0 kq a0 x3_1 x4_1=some r)∧Aside0 (kq≤k)∧Drawn0 w w')
 case atStart=>exact ⟨(4294967295),(0),(by first|rfl|(simp;done)|(simp [*];done)),(by first|rfl|(simp;done)|(simp [*];done)),H',⟨Nat.le_refl _⟩,by repeat (first|exact Drawn0.refl _|apply Drawn0.step)⟩
 case round =>
  clear H'
  obtain ⟨x3_1,x4_1,rfl,rfl,HA,HK1,⟨m1,rfl⟩⟩:=hrel
  cases gk with
  | zero=>exact absurd HA.out (by simp [R01_Sum.l0])
  | succ k1 =>
   have H:=HA.out
   clear HA
   simp only [R01_Sum.l0] at H
   by_cases c2:x4_1<(a0.size:Int)
   rotate_left
   ·rw [if_neg c2] at H
    have c2b0:decide (x4_1<(a0.size:Int))=false:=decide_eq_false c2
    clear c2
    obtain rfl:=Option.some.inj H
    go_wp2
    go_ret
    exact ⟨by first|rfl|(simp;done)|(simp [*];done),by repeat (first|exact Drawn0.refl _|apply Drawn0.step)⟩
   rw [if_pos c2] at H
   have c2b0:decide (x4_1<(a0.size:Int))=true:=decide_eq_true c2
   clear c2
   by_cases c3:0≤x4_1
   rotate_left
   ·rw [if_neg c3] at H
    exact absurd H (by simp)
   rw [if_pos c3] at H
   have c3b0:decide (0≤x4_1)=true:=decide_eq_true c3
   clear c3
   obtain ⟨t415,A5,H⟩:=Kbind_ H
   (try dsimp only at H)
   have H':=As_ H
   clear H
   have p4:0≤(x4_1:Int):=of_decide_eq_true (by first|(with_reducible assumption)|assumption)
   have q4:x4_1<(a0.size:Int):=of_decide_eq_true (by first|(with_reducible assumption)|assumption)
   have hx4:=bt_at a0 x4_1
   replace p4:=eq_true p4
   replace q4:=eq_true q4
   go_wp2_with (first|((with_reducible refine gate_callee (f:=91) rfl ?_);refine Kg_ (some 15) rfl rfl Try.func91 (by kernel_rfl) rfl #[.int .u32 x3_1,.int .u8 (bt a0 x4_1)] rfl ?_;(with_reducible refine (R01_step.calls k1 x3_1 (bt a0 x4_1) t415 _ A5.out).mono ?_);rintro e w' ⟨rfl,⟨nd,rfl⟩⟩;refine ⟨_,rfl,?_⟩))
   go_roundg k1
   case measure=>have:=HK1.out;omega
   case rel=>exact ⟨(t415),(wrap64 (x4_1+1)),(by first|rfl|(simp;done)|(simp [*];done)),(by first|rfl|(simp;done)|(simp [*];done)),H',⟨by have:=HK1.out;omega⟩,by repeat (first|exact Drawn0.refl _|apply Drawn0.step)⟩
def R15_Put.f (k:Nat) (a0_0:Int) (a0_1:Int) (a0_2:Int) (a0_3:Int) (a0_4:Int) (a0_5:Int) (a0_6:Int) (a0_7:Int) (l0_8:List (S117)):Option (ByteArray × Bool):=(R15_Right.f k a0_0 a0_1 a0_2 a0_3 a0_4 a0_5 a0_6 a0_7 l0_8).bind fun t417=>(if t417=true then ((R02_Number.f k (IntKind.u64.wrap (a0_0)) 1).bind fun t418=>((R02_Number.f k (IntKind.u64.wrap (a0_1)) 1).bind fun t419=>(if t418.size+t419.size≤9223372036854775807 then ((R02_Vary.f k a0_2).bind fun t420=>(if (t418++t419).size+t420.size≤9223372036854775807 then (if a0_0=1 then ((R08_Bytes.f k a0_3 a0_4 a0_5 a0_6 a0_7 l0_8).bind fun bt421=>((R02_Text.f k bt421.1).bind fun t423=>(if ((t418++t419)++t420).size+t423.size≤9223372036854775807 then ((R01_Sum.f k (((t418++t419)++t420)++t423)).bind fun t424=>((R02_Number.f k (IntKind.u64.wrap (t424)) 4).bind fun t425=>(if (((t418++t419)++t420)++t423).size+t425.size≤9223372036854775807 then (some ((((t418++t419)++t420)++t423)++t425,true)) else (none)))) else (none)))) else ((R01_Sum.f k ((t418++t419)++t420)).bind fun t426=>((R02_Number.f k (IntKind.u64.wrap (t426)) 4).bind fun t427=>(if ((t418++t419)++t420).size+t427.size≤9223372036854775807 then (some (((t418++t419)++t420)++t427,true)) else (none))))) else (none))) else (none)))) else (some ((⟨#[]⟩:ByteArray),false)))
def R15_Put.T3:Bool × List (List Nat × List Nat):=(true,[([],[]),([0],[0]),([1],[1]),([2],[2]),([],[]),([4],[4]),([5],[5]),([6,3],[6]),([3,7],[3,7]),([],[]),([9],[9]),([10,7],[10]),([8,11],[8,11]),([12,11,0,1,2,3,4,5,6,7,8,9,10,11,12],[12])])
def R15_Put.B3:List Nat:=[0,1,3,7,0,16,48,127,255,0,512,1791,4095,8191]
theorem R15_Put.tab3:rtab .any (opsOf Try.f28 3)=R15_Put.T3:=by kernel_rfl
theorem R15_Put.bits3:waitsOk R15_Put.T3.2 R15_Put.B3=true:=by kernel_rfl
set_option maxHeartbeats 8000000 in
set_option maxRecDepth 100000 in
theorem R15_Put.calls (k:Nat) (a0_0:Int) (a0_1:Int) (a0_2:Int) (a0_3:Int) (a0_4:Int) (a0_5:Int) (a0_6:Int) (a0_7:Int) (A0_8:Option Addr) (c0_8:Nat) (l0_8:List (S117)) (r1:ByteArray) (r2:Bool) (w:World) (hr0_8:Kd.C k117 w A0_8 l0_8.length l0_8) (hc0_8:l0_8.length≤c0_8) (h:R15_Put.f k a0_0 a0_1 a0_2 a0_3 a0_4 a0_5 a0_6 a0_7 l0_8=some (r1,r2)) :
  Calls Try.prog 28 #[.agg #[.int .i64 a0_0,.int .i64 a0_1,.int .u64 a0_2,.int .u64 a0_3,.int .u64 a0_4,.int .u64 a0_5,.int .u64 a0_6,.int .i64 a0_7,.slice A0_8 l0_8.length c0_8]] w fun e w'=>e = .returned (.tuple #[.string r1,.bool r2])∧Below w.heap.size w w':=by
 have hu75:=Try.underlying75
 have hu55:=Try.underlying55
 have HR0_8:=As_ hr0_8
 have HC0_8:=As_ hc0_8
 clear hr0_8 hc0_8
 have HB:=As_ (Below.refl w.heap.size w)
 unfold R15_Put.f at h
 have H:=h
 (try (have Hs_:=H;simp only [ByteArray.size_append,Int.natCast_add] at Hs_))
 clear h
 obtain ⟨t417,A2,H⟩:=Kbind_ H
 (try dsimp only at H)
 by_cases c3:t417=true
 rotate_left
 ·replace c3:=Bool.eq_false_iff.mpr c3
  subst c3
  rw [if_neg Bool.false_ne_true] at H
  simp only [Option.some.injEq,Prod.mk.injEq] at H
  obtain ⟨rfl,rfl⟩:=H
  go_enter Try.func28,Try.ntmps28
  go_wp2_with (first|((with_reducible refine gate_dst (N:=1) rfl ?_);refine Ka_ 1 #[.int .i64 a0_0,.int .i64 a0_1,.int .u64 a0_2,.int .u64 a0_3,.int .u64 a0_4,.int .u64 a0_5,.int .u64 a0_6,.int .i64 a0_7,.slice A0_8 l0_8.length c0_8] 75 ?_;intro gb416 hg w39 hbox hb;have BK416:=As_ (hbox);have GW416:=Kw_ HB hg;replace HB:=Ks_ HB hb;clear hb hbox hg;obtain ⟨_,_,_,_,_,_,_,_,_,_,_,_,_,_,_,_,_,_⟩:=Ke9_ BK416.out)|((with_reducible refine gate_callee (f:=34) rfl ?_);refine Kg_ (some 8) rfl rfl Try.func34 (by kernel_rfl) rfl #[.agg #[.int .i64 a0_0,.int .i64 a0_1,.int .u64 a0_2,.int .u64 a0_3,.int .u64 a0_4,.int .u64 a0_5,.int .u64 a0_6,.int .i64 a0_7,.slice A0_8 l0_8.length c0_8]] rfl ?_;(with_reducible refine (R15_Right.calls k a0_0 a0_1 a0_2 a0_3 a0_4 a0_5 a0_6 a0_7 _ _ l0_8 false _ ?side1 ?side2 A2.out).mono ?_);(case side1=>repeat (first|exact (Kd.C_below HR0_8.out HB.out)|(with_reducible refine Kd.C_alloc ?_ _)|(with_reducible refine Kd.C_drewN ?_ _)|(with_reducible refine Kd.C_drew ?_)));(case side2=>exact HC0_8.out);rintro e w41 ⟨rfl,hb⟩;refine ⟨_,rfl,?_⟩;replace HB:=Ks_ HB hb;(try clear hb)))
  go_ret2
  exact ⟨Kh_,Kz_ HB GW416⟩
 subst c3
 rw [if_pos rfl] at H
 obtain ⟨t418,A4,H⟩:=Kbind_ H
 (try dsimp only at H)
 obtain ⟨t419,A5,H⟩:=Kbind_ H
 (try dsimp only at H)
 by_cases c6:t418.size+t419.size≤9223372036854775807
 rotate_left
 ·rw [if_neg c6] at H
  exact absurd H (by simp)
 rw [if_pos c6] at H
 have c6b0:=eq_true c6
 have c6b1:decide (t418.size+t419.size≤9223372036854775807)=true:=decide_eq_true c6
 try have c6b2:(9223372036854775807<t418.size+t419.size)=False:=eq_false (Nat.not_lt.2 c6)
 obtain ⟨t420,A7,H⟩:=Kbind_ H
 (try dsimp only at H)
 by_cases c8:(t418++t419).size+t420.size≤9223372036854775807
 rotate_left
 ·rw [if_neg c8] at H
  exact absurd H (by simp)
 rw [if_pos c8] at H
 have c8b0:=eq_true c8
 (try (have c8b0s_:=c8b0;simp only [ByteArray.size_append,Int.natCast_add] at c8b0s_))
 have c8b1:decide ((t418++t419).size+t420.size≤9223372036854775807)=true:=decide_eq_true c8
 (try (have c8b1s_:=c8b1;simp only [ByteArray.size_append,Int.natCast_add] at c8b1s_))
 try have c8b2:(9223372036854775807<(t418++t419).size+t420.size)=False:=eq_false (Nat.not_lt.2 c8)
 (try (have c8b2s_:=c8b2;simp only [ByteArray.size_append,Int.natCast_add] at c8b2s_))
 by_cases c9:a0_0=1
 rotate_left
 ·rw [if_neg c9] at H
  have c9b0:=beq_eq_false_iff_ne.mpr c9
  have c9b1:(a0_0 != 1)=true:=bne_iff_ne.mpr c9
  obtain ⟨t426,A27,H⟩:=Kbind_ H
  (try dsimp only at H)
  obtain ⟨t427,A28,H⟩:=Kbind_ H
  (try dsimp only at H)
  by_cases c29:((t418++t419)++t420).size+t427.size≤9223372036854775807
  rotate_left
  ·rw [if_neg c29] at H
   exact absurd H (by simp)
  rw [if_pos c29] at H
  have c29b0:=eq_true c29
  (try (have c29b0s_:=c29b0;simp only [ByteArray.size_append,Int.natCast_add] at c29b0s_))
  have c29b1:decide (((t418++t419)++t420).size+t427.size≤9223372036854775807)=true:=decide_eq_true c29
  (try (have c29b1s_:=c29b1;simp only [ByteArray.size_append,Int.natCast_add] at c29b1s_))
  try have c29b2:(9223372036854775807<((t418++t419)++t420).size+t427.size)=False:=eq_false (Nat.not_lt.2 c29)
  (try (have c29b2s_:=c29b2;simp only [ByteArray.size_append,Int.natCast_add] at c29b2s_))
  simp only [Option.some.injEq,Prod.mk.injEq] at H
  obtain ⟨rfl,rfl⟩:=H
  go_enter Try.func28,Try.ntmps28
  try go_wp2_with (first|((with_reducible refine gate_dst (N:=1) rfl ?_);refine Ka_ 1 #[.int .i64 a0_0,.int .i64 a0_1,.int .u64 a0_2,.int .u64 a0_3,.int .u64 a0_4,.int .u64 a0_5,.int .u64 a0_6,.int .i64 a0_7,.slice A0_8 l0_8.length c0_8] 75 ?_;intro gb416 hg w30 hbox hb;have BK416:=As_ (hbox);have GW416:=Kw_ HB hg;replace HB:=Ks_ HB hb;clear hb hbox hg;obtain ⟨_,_,_,_,_,_,_,_,_,_,_,_,_,_,_,_,_,_⟩:=Ke9_ BK416.out)|((with_reducible refine gate_callee (f:=34) rfl ?_);refine Kg_ (some 8) rfl rfl Try.func34 (by kernel_rfl) rfl #[.agg #[.int .i64 a0_0,.int .i64 a0_1,.int .u64 a0_2,.int .u64 a0_3,.int .u64 a0_4,.int .u64 a0_5,.int .u64 a0_6,.int .i64 a0_7,.slice A0_8 l0_8.length c0_8]] rfl ?_;(with_reducible refine (R15_Right.calls k a0_0 a0_1 a0_2 a0_3 a0_4 a0_5 a0_6 a0_7 _ _ l0_8 true _ ?side1 ?side2 A2.out).mono ?_);(case side1=>repeat (first|exact (Kd.C_below HR0_8.out HB.out)|(with_reducible refine Kd.C_alloc ?_ _)|(with_reducible refine Kd.C_drewN ?_ _)|(with_reducible refine Kd.C_drew ?_)));(case side2=>exact HC0_8.out);rintro e w32 ⟨rfl,hb⟩;refine ⟨_,rfl,?_⟩;replace BK416:=Kb_ BK416 hb;replace HB:=Ks_ HB hb;(try clear hb)))
  replace BK416:=Kd_ BK416
  replace HB:=As_ (below_drew1 HB.out)
  refine start_ (n:=14) (S:=fun w'=>w'.cell? ⟨gb416,0,none⟩=some (.int .i64 a0_0)∧w'.cell? ⟨gb416,1,none⟩=some (.int .i64 a0_1)∧w'.cell? ⟨gb416,2,none⟩=some (.int .u64 a0_2)∧w'.cell? ⟨gb416,3,none⟩=some (.int .u64 a0_3)∧w'.cell? ⟨gb416,4,none⟩=some (.int .u64 a0_4)∧w'.cell? ⟨gb416,5,none⟩=some (.int .u64 a0_5)∧w'.cell? ⟨gb416,6,none⟩=some (.int .u64 a0_6)∧w'.cell? ⟨gb416,7,none⟩=some (.int .i64 a0_7)∧w'.cell? ⟨gb416,8,none⟩=some (.slice A0_8 l0_8.length c0_8)) (ds:=[]) (mB_ 14 0) (by kernel_rfl) rfl rfl (Kc9_ BK416.out) (fun hHeld=>?_);refine with_tabW R15_Put.tab3 R15_Put.bits3 (fun HT_ HW_=>?_)
  generalize w32.drew=w33 at BK416 HB hHeld ⊢
  refine Kp_ 0 10 (mB_ 14 1) (any_of HT_.out (by kernel_rfl)) ?_
  refine Kp_ 4 14 (mB_ 14 17) (any_of HT_.out (by kernel_rfl)) ?_
  refine Kp_ 9 19 (mB_ 14 529) (any_of HT_.out (by kernel_rfl)) ?_
  refine Ko_ 1 11 (mB_ 14 531) (take_ofW HT_.out HW_.out (by kernel_rfl)) hHeld ?_
  refine Kp_ 2 12 (mB_ 14 535) (any_of HT_.out (by kernel_rfl)) ?_
  refine Ko_ 5 15 (mB_ 14 567) (take_ofW HT_.out HW_.out (by kernel_rfl)) hHeld ?_
  refine Kp_ 6 16 (mB_ 14 631) (any_of HT_.out (by kernel_rfl)) ?_
  refine Ko_ 10 20 (mB_ 14 1655) (take_ofW HT_.out HW_.out (by kernel_rfl)) hHeld ?_
  refine one_ (i:=3) (N:=some 13) (mB_ 14 1663) rfl rfl (one_of HT_.out (by kernel_rfl)) (by decide) (fun K hK=>?_)
  refine goes_ Try.func64 (by kernel_rfl) rfl #[.int .u64 (IntKind.u64.wrap (a0_0)),.int .i64 1] (by rfl) rfl rfl (by (try simp only [List.map_toArray,List.map_cons,List.map_nil]);first|done|rfl|(simp only [List.length_drop,List.length_take];rfl)) ?_
  with_reducible refine (R02_Number.calls k (IntKind.u64.wrap (a0_0)) 1 t418 _ A4.out).mono ?_
  rintro e w34 ⟨rfl,hb⟩
  refine ⟨_,rfl,?_⟩
  replace BK416:=Kb_ BK416 hb
  replace HB:=Ks_ HB hb
  (try clear hb)
  (try clear hb2)
  (try clear hk)
  (try clear hi)
  refine hK.out _ _ (Kc9_ BK416.out) (fun hHeld=>?_)
  clear hK K
  refine Kn_ 13 ?_
  refine one_ (i:=7) (N:=some 17) (mB_ 14 1791) rfl rfl (one_of HT_.out (by kernel_rfl)) (by decide) (fun K hK=>?_)
  refine goes_ Try.func64 (by kernel_rfl) rfl #[.int .u64 (IntKind.u64.wrap (a0_1)),.int .i64 1] (by rfl) rfl rfl (by (try simp only [List.map_toArray,List.map_cons,List.map_nil]);first|done|rfl|(simp only [List.length_drop,List.length_take];rfl)) ?_
  with_reducible refine (R02_Number.calls k (IntKind.u64.wrap (a0_1)) 1 t419 _ A5.out).mono ?_
  rintro e w35 ⟨rfl,hb⟩
  refine ⟨_,rfl,?_⟩
  replace BK416:=Kb_ BK416 hb
  replace HB:=Ks_ HB hb
  (try clear hb)
  (try clear hb2)
  (try clear hk)
  (try clear hi)
  refine hK.out _ _ (Kc9_ BK416.out) (fun hHeld=>?_)
  clear hK K
  refine Kn_ 17 ?_
  refine Kp_ 8 18 (mB_ 14 2047) (any_of HT_.out (by kernel_rfl)) ?_
  refine one_ (i:=11) (N:=some 21) (mB_ 14 4095) rfl rfl (one_of HT_.out (by kernel_rfl)) (by decide) (fun K hK=>?_)
  refine goes_ Try.func65 (by kernel_rfl) rfl #[.int .u64 a0_2] (by rfl) rfl rfl (by (try simp only [List.map_toArray,List.map_cons,List.map_nil]);first|done|rfl|(simp only [List.length_drop,List.length_take];rfl)) ?_
  with_reducible refine (R02_Vary.calls k a0_2 t420 _ A7.out).mono ?_
  rintro e w36 ⟨rfl,hb⟩
  refine ⟨_,rfl,?_⟩
  replace BK416:=Kb_ BK416 hb
  replace HB:=Ks_ HB hb
  (try clear hb)
  (try clear hb2)
  (try clear hk)
  (try clear hi)
  refine hK.out _ _ (Kc9_ BK416.out) (fun hHeld=>?_)
  clear hK K
  refine Kn_ 21 ?_
  refine Kp_ 12 22 (mB_ 14 8191) (any_of HT_.out (by kernel_rfl)) ?_
  refine Kp_ 13 4 (mB_ 14 16383) (any_of HT_.out (by kernel_rfl)) ?_
  refine done_ (done_of HT_.out (by kernel_rfl)) ?_
  obtain ⟨_,_,_,_,_,_,_,_,_,_,_,_,_,_,_,_,_,_⟩:=Ke9_ BK416.out
  try go_wp2_with (first|((with_reducible refine gate_callee (f:=68) rfl ?_);refine Kg_ (some 38) rfl rfl Try.func68 (by kernel_rfl) rfl #[.string ((t418++t419)++t420)] rfl ?_;(with_reducible refine (R01_Sum.calls k ((t418++t419)++t420) t426 _ A27.out).mono ?_);rintro e w' ⟨rfl,⟨nd,rfl⟩⟩;refine ⟨_,rfl,?_⟩)|((with_reducible refine gate_callee (f:=64) rfl ?_);refine Kg_ (some 40) rfl rfl Try.func64 (by kernel_rfl) rfl #[.int .u64 (IntKind.u64.wrap (t426)),.int .i64 4] rfl ?_;(with_reducible refine (R02_Number.calls k (IntKind.u64.wrap (t426)) 4 t427 _ A28.out).mono ?_);rintro e w38 ⟨rfl,hb⟩;refine ⟨_,rfl,?_⟩;replace HB:=Ks_ HB hb;(try clear hb)))
  go_ret2
  exact ⟨Kh_,Kz_ HB GW416⟩
 rw [if_pos c9] at H
 have c9b0:(a0_0 == 1)=true:=beq_iff_eq.mpr c9
 have c9b1:(a0_0 != 1)=false:=bne_eq_false_iff_eq.mpr c9
 clear c9
 obtain ⟨⟨t421,t422⟩,A10,H⟩:=Kbind_ H
 (try dsimp only at H)
 obtain ⟨t423,A11,H⟩:=Kbind_ H
 (try dsimp only at H)
 by_cases c12:((t418++t419)++t420).size+t423.size≤9223372036854775807
 rotate_left
 ·rw [if_neg c12] at H
  exact absurd H (by simp)
 rw [if_pos c12] at H
 have c12b0:=eq_true c12
 (try (have c12b0s_:=c12b0;simp only [ByteArray.size_append,Int.natCast_add] at c12b0s_))
 have c12b1:decide (((t418++t419)++t420).size+t423.size≤9223372036854775807)=true:=decide_eq_true c12
 (try (have c12b1s_:=c12b1;simp only [ByteArray.size_append,Int.natCast_add] at c12b1s_))
 try have c12b2:(9223372036854775807<((t418++t419)++t420).size+t423.size)=False:=eq_false (Nat.not_lt.2 c12)
 (try (have c12b2s_:=c12b2;simp only [ByteArray.size_append,Int.natCast_add] at c12b2s_))
 obtain ⟨t424,A13,H⟩:=Kbind_ H
 (try dsimp only at H)
 obtain ⟨t425,A14,H⟩:=Kbind_ H
 (try dsimp only at H)
 by_cases c15:(((t418++t419)++t420)++t423).size+t425.size≤9223372036854775807
 rotate_left
 ·rw [if_neg c15] at H
  exact absurd H (by simp)
 rw [if_pos c15] at H
 have c15b0:=eq_true c15
 (try (have c15b0s_:=c15b0;simp only [ByteArray.size_append,Int.natCast_add] at c15b0s_))
 have c15b1:decide ((((t418++t419)++t420)++t423).size+t425.size≤9223372036854775807)=true:=decide_eq_true c15
 (try (have c15b1s_:=c15b1;simp only [ByteArray.size_append,Int.natCast_add] at c15b1s_))
 try have c15b2:(9223372036854775807<(((t418++t419)++t420)++t423).size+t425.size)=False:=eq_false (Nat.not_lt.2 c15)
 (try (have c15b2s_:=c15b2;simp only [ByteArray.size_append,Int.natCast_add] at c15b2s_))
 simp only [Option.some.injEq,Prod.mk.injEq] at H
 obtain ⟨rfl,rfl⟩:=H
 go_enter Try.func28,Try.ntmps28
 try go_wp2_with (first|((with_reducible refine gate_dst (N:=1) rfl ?_);refine Ka_ 1 #[.int .i64 a0_0,.int .i64 a0_1,.int .u64 a0_2,.int .u64 a0_3,.int .u64 a0_4,.int .u64 a0_5,.int .u64 a0_6,.int .i64 a0_7,.slice A0_8 l0_8.length c0_8] 75 ?_;intro gb416 hg w16 hbox hb;have BK416:=As_ (hbox);have GW416:=Kw_ HB hg;replace HB:=Ks_ HB hb;clear hb hbox hg;obtain ⟨_,_,_,_,_,_,_,_,_,_,_,_,_,_,_,_,_,_⟩:=Ke9_ BK416.out)|((with_reducible refine gate_callee (f:=34) rfl ?_);refine Kg_ (some 8) rfl rfl Try.func34 (by kernel_rfl) rfl #[.agg #[.int .i64 a0_0,.int .i64 a0_1,.int .u64 a0_2,.int .u64 a0_3,.int .u64 a0_4,.int .u64 a0_5,.int .u64 a0_6,.int .i64 a0_7,.slice A0_8 l0_8.length c0_8]] rfl ?_;(with_reducible refine (R15_Right.calls k a0_0 a0_1 a0_2 a0_3 a0_4 a0_5 a0_6 a0_7 _ _ l0_8 true _ ?side1 ?side2 A2.out).mono ?_);(case side1=>repeat (first|exact (Kd.C_below HR0_8.out HB.out)|(with_reducible refine Kd.C_alloc ?_ _)|(with_reducible refine Kd.C_drewN ?_ _)|(with_reducible refine Kd.C_drew ?_)));(case side2=>exact HC0_8.out);rintro e w18 ⟨rfl,hb⟩;refine ⟨_,rfl,?_⟩;replace BK416:=Kb_ BK416 hb;replace HB:=Ks_ HB hb;(try clear hb)))
 replace BK416:=Kd_ BK416
 replace HB:=As_ (below_drew1 HB.out)
 refine start_ (n:=14) (S:=fun w'=>w'.cell? ⟨gb416,0,none⟩=some (.int .i64 a0_0)∧w'.cell? ⟨gb416,1,none⟩=some (.int .i64 a0_1)∧w'.cell? ⟨gb416,2,none⟩=some (.int .u64 a0_2)∧w'.cell? ⟨gb416,3,none⟩=some (.int .u64 a0_3)∧w'.cell? ⟨gb416,4,none⟩=some (.int .u64 a0_4)∧w'.cell? ⟨gb416,5,none⟩=some (.int .u64 a0_5)∧w'.cell? ⟨gb416,6,none⟩=some (.int .u64 a0_6)∧w'.cell? ⟨gb416,7,none⟩=some (.int .i64 a0_7)∧w'.cell? ⟨gb416,8,none⟩=some (.slice A0_8 l0_8.length c0_8)) (ds:=[]) (mB_ 14 0) (by kernel_rfl) rfl rfl (Kc9_ BK416.out) (fun hHeld=>?_);refine with_tabW R15_Put.tab3 R15_Put.bits3 (fun HT_ HW_=>?_)
 generalize w18.drew=w19 at BK416 HB hHeld ⊢
 refine Kp_ 0 10 (mB_ 14 1) (any_of HT_.out (by kernel_rfl)) ?_
 refine Kp_ 4 14 (mB_ 14 17) (any_of HT_.out (by kernel_rfl)) ?_
 refine Kp_ 9 19 (mB_ 14 529) (any_of HT_.out (by kernel_rfl)) ?_
 refine Ko_ 1 11 (mB_ 14 531) (take_ofW HT_.out HW_.out (by kernel_rfl)) hHeld ?_
 refine Kp_ 2 12 (mB_ 14 535) (any_of HT_.out (by kernel_rfl)) ?_
 refine Ko_ 5 15 (mB_ 14 567) (take_ofW HT_.out HW_.out (by kernel_rfl)) hHeld ?_
 refine Kp_ 6 16 (mB_ 14 631) (any_of HT_.out (by kernel_rfl)) ?_
 refine Ko_ 10 20 (mB_ 14 1655) (take_ofW HT_.out HW_.out (by kernel_rfl)) hHeld ?_
 refine one_ (i:=3) (N:=some 13) (mB_ 14 1663) rfl rfl (one_of HT_.out (by kernel_rfl)) (by decide) (fun K hK=>?_)
 refine goes_ Try.func64 (by kernel_rfl) rfl #[.int .u64 (IntKind.u64.wrap (a0_0)),.int .i64 1] (by rfl) rfl rfl (by (try simp only [List.map_toArray,List.map_cons,List.map_nil]);first|done|rfl|(simp only [List.length_drop,List.length_take];rfl)) ?_
 with_reducible refine (R02_Number.calls k (IntKind.u64.wrap (a0_0)) 1 t418 _ A4.out).mono ?_
 rintro e w20 ⟨rfl,hb⟩
 refine ⟨_,rfl,?_⟩
 replace BK416:=Kb_ BK416 hb
 replace HB:=Ks_ HB hb
 (try clear hb)
 (try clear hb2)
 (try clear hk)
 (try clear hi)
 refine hK.out _ _ (Kc9_ BK416.out) (fun hHeld=>?_)
 clear hK K
 refine Kn_ 13 ?_
 refine one_ (i:=7) (N:=some 17) (mB_ 14 1791) rfl rfl (one_of HT_.out (by kernel_rfl)) (by decide) (fun K hK=>?_)
 refine goes_ Try.func64 (by kernel_rfl) rfl #[.int .u64 (IntKind.u64.wrap (a0_1)),.int .i64 1] (by rfl) rfl rfl (by (try simp only [List.map_toArray,List.map_cons,List.map_nil]);first|done|rfl|(simp only [List.length_drop,List.length_take];rfl)) ?_
 with_reducible refine (R02_Number.calls k (IntKind.u64.wrap (a0_1)) 1 t419 _ A5.out).mono ?_
 rintro e w21 ⟨rfl,hb⟩
 refine ⟨_,rfl,?_⟩
 replace BK416:=Kb_ BK416 hb
 replace HB:=Ks_ HB hb
 (try clear hb)
 (try clear hb2)
 (try clear hk)
 (try clear hi)
 refine hK.out _ _ (Kc9_ BK416.out) (fun hHeld=>?_)
 clear hK K
 refine Kn_ 17 ?_
 refine Kp_ 8 18 (mB_ 14 2047) (any_of HT_.out (by kernel_rfl)) ?_
 refine one_ (i:=11) (N:=some 21) (mB_ 14 4095) rfl rfl (one_of HT_.out (by kernel_rfl)) (by decide) (fun K hK=>?_)
 refine goes_ Try.func65 (by kernel_rfl) rfl #[.int .u64 a0_2] (by rfl) rfl rfl (by (try simp only [List.map_toArray,List.map_cons,List.map_nil]);first|done|rfl|(simp only [List.length_drop,List.length_take];rfl)) ?_
 with_reducible refine (R02_Vary.calls k a0_2 t420 _ A7.out).mono ?_
 rintro e w22 ⟨rfl,hb⟩
 refine ⟨_,rfl,?_⟩
 replace BK416:=Kb_ BK416 hb
 replace HB:=Ks_ HB hb
 (try clear hb)
 (try clear hb2)
 (try clear hk)
 (try clear hi)
 refine hK.out _ _ (Kc9_ BK416.out) (fun hHeld=>?_)
 clear hK K
 refine Kn_ 21 ?_
 refine Kp_ 12 22 (mB_ 14 8191) (any_of HT_.out (by kernel_rfl)) ?_
 refine Kp_ 13 4 (mB_ 14 16383) (any_of HT_.out (by kernel_rfl)) ?_
 refine done_ (done_of HT_.out (by kernel_rfl)) ?_
 obtain ⟨_,_,_,_,_,_,_,_,_,_,_,_,_,_,_,_,_,_⟩:=Ke9_ BK416.out
 try go_wp2_with (first|((with_reducible refine gate_callee (f:=66) rfl ?_);refine Kg_ (some 29) rfl rfl Try.func66 (by kernel_rfl) rfl #[.agg #[.int .u64 a0_3,.int .u64 a0_4,.int .u64 a0_5,.int .u64 a0_6,.int .i64 a0_7,.slice A0_8 l0_8.length c0_8]] rfl ?_;(with_reducible refine (R08_Bytes.calls k a0_3 a0_4 a0_5 a0_6 a0_7 _ _ l0_8 t421 t422 _ ?side1 ?side2 A10.out).mono ?_);(case side1=>repeat (first|exact (Kd.C_below HR0_8.out HB.out)|(with_reducible refine Kd.C_alloc ?_ _)|(with_reducible refine Kd.C_drewN ?_ _)|(with_reducible refine Kd.C_drew ?_)));(case side2=>exact HC0_8.out);rintro e w24 ⟨rfl,hb⟩;refine ⟨_,rfl,?_⟩;replace HB:=Ks_ HB hb;(try clear hb))|((with_reducible refine gate_callee (f:=67) rfl ?_);refine Kg_ (some 34) rfl rfl Try.func67 (by kernel_rfl) rfl #[.string t421] rfl ?_;(with_reducible refine (R02_Text.calls k t421 t423 _ A11.out).mono ?_);rintro e w25 ⟨rfl,hb⟩;refine ⟨_,rfl,?_⟩;replace HB:=Ks_ HB hb;(try clear hb))|((with_reducible refine gate_callee (f:=68) rfl ?_);refine Kg_ (some 38) rfl rfl Try.func68 (by kernel_rfl) rfl #[.string (((t418++t419)++t420)++t423)] rfl ?_;(with_reducible refine (R01_Sum.calls k (((t418++t419)++t420)++t423) t424 _ A13.out).mono ?_);rintro e w' ⟨rfl,⟨nd,rfl⟩⟩;refine ⟨_,rfl,?_⟩)|((with_reducible refine gate_callee (f:=64) rfl ?_);refine Kg_ (some 40) rfl rfl Try.func64 (by kernel_rfl) rfl #[.int .u64 (IntKind.u64.wrap (t424)),.int .i64 4] rfl ?_;(with_reducible refine (R02_Number.calls k (IntKind.u64.wrap (t424)) 4 t425 _ A14.out).mono ?_);rintro e w26 ⟨rfl,hb⟩;refine ⟨_,rfl,?_⟩;replace HB:=Ks_ HB hb;(try clear hb)))
 go_ret2
 exact ⟨Kh_,Kz_ HB GW416⟩
def L15_refStamp.f (a0_0:Int) (a0_1:Int) (a0_2:Int) (a0_3:Int) (a0_4:Int):Option (Int × Int × Int × Int × Int):=some (a0_0,a0_1,a0_2,a0_3,a0_4)
set_option maxHeartbeats 8000000 in
set_option maxRecDepth 100000 in
theorem L15_refStamp.calls (a0_0:Int) (a0_1:Int) (a0_2:Int) (a0_3:Int) (a0_4:Int) (r1:Int) (r2:Int) (r3:Int) (r4:Int) (r5:Int) (w:World) (h:L15_refStamp.f a0_0 a0_1 a0_2 a0_3 a0_4=some (r1,r2,r3,r4,r5)) :
  Calls Try.prog 32 #[.agg #[.int .u64 a0_0,.int .u64 a0_1,.int .u64 a0_2,.int .u64 a0_3,.int .i64 a0_4]] w fun e w'=>e = .returned (.agg #[.int .u64 r1,.int .u64 r2,.int .u64 r3,.int .u64 r4,.int .i64 r5])∧Below w.heap.size w w':=by
 have hu30:=Try.underlying30
 have hu52:=Try.underlying52
 have hu28:=Try.underlying28
 have HB:=As_ (Below.refl w.heap.size w)
 unfold L15_refStamp.f at h
 have H:=h
 clear h
 simp only [Option.some.injEq,Prod.mk.injEq] at H
 obtain ⟨rfl,rfl,rfl,rfl,rfl⟩:=H
 go_enter Try.func32,Try.ntmps32
 go_wp2_with (first|((with_reducible refine gate_dst (N:=1) rfl ?_);refine Ka_ 1 #[.int .u64 a0_0,.int .u64 a0_1,.int .u64 a0_2,.int .u64 a0_3,.int .i64 a0_4] 30 ?_;intro gb280 hg w2 hbox hb;have BK280:=As_ (hbox);have GW280:=Kw_ HB hg;replace HB:=Ks_ HB hb;clear hb hbox hg)|((with_reducible refine gate_dst (N:=2) rfl ?_);refine Ka_ 2 #[.int .u64 0,.int .u64 0,.int .u64 0,.int .u64 0,.int .i64 0] 52 ?_;intro gb281 hg w3 hbox hb;have BK281:=As_ (hbox);have GW281:=Kw_ HB hg;have NB280_281:=Kl_ BK280 hg;have NB281_280:=Kr_ BK280 hg;replace BK280:=Kb_ BK280 hb;replace HB:=Ks_ HB hb;clear hb hbox hg;have hnb4:=NB280_281.out;have hnc4:=NB281_280.out;obtain ⟨_,_,_,_,_,_,_,_,_,_⟩:=Ke5_ BK280.out;obtain ⟨_,_,_,_,_,_,_,_,_,_⟩:=Ke5_ BK281.out))
 refine bodyPost_ret (results_cell_row rfl _ _ gb281 52 #[.int .u64 a0_0,.int .u64 a0_1,.int .u64 a0_2,.int .u64 a0_3,.int .i64 a0_4] (0,0) _ rfl (by refine Kv_ ?_;exact Kput5_ (Kq_ BK281)) Try.underlying52 rfl (by kernel_rfl)) rfl ?_
 exact ⟨Kh_,K2a_ HB GW280 GW281⟩
def L15_refWrites.l0:Nat→List (S107)→List (S117)→Int→Option ((List (S117)))
 | 0,_,_,_=>none
 | k+1,x0,x3,x4=>if x4<(x0.length:Int) then (if 0≤x4 then (if x3.length<2513169434916 then (L15_refWrites.l0 k x0 (x3++[(⟨(rd_T107 x0 x4).f0,(rd_T107 x0 x4).f1,(rd_T107 x0 x4).f2,(rd_T107 x0 x4).f3⟩:S117)]) (wrap64 (x4+1))) else (none)) else (none)) else (some x3)
def L15_refWrites.f (k:Nat) (l0:List (S107)):Option ((List (S117))):=L15_refWrites.l0 k l0 ([]:List (S117)) 0
def L15_refWrites.T5:Bool × List (List Nat × List Nat):=(true,[([],[]),([],[]),([],[]),([1,2],[1,2]),([3],[3]),([4],[4]),([],[]),([],[]),([6,7],[6,7]),([8],[8]),([9],[9]),([],[]),([],[]),([11,12],[11,12]),([13],[13]),([14],[14]),([],[]),([],[]),([16,17],[16,17]),([18],[18]),([19],[19]),([5,10,15,20],[5,10,15,20]),([21],[21]),([0,22],[0,22]),([23,23,0,1,2,3,4,5,6,7,8,9,10,11,12,13,14,15,16,17,18,19,20,21,22,23],[0,23])])
def L15_refWrites.B5:List Nat:=[0,0,0,6,14,30,0,0,192,448,960,0,0,6144,14336,30720,0,0,196608,458752,983040,2097150,4194302,8388607,16777215]
theorem L15_refWrites.tab5:rtab .any (opsOf Try.f57 5)=L15_refWrites.T5:=by kernel_rfl
theorem L15_refWrites.bits5:waitsOk L15_refWrites.T5.2 L15_refWrites.B5=true:=by kernel_rfl
set_option maxHeartbeats 8000000 in
set_option maxRecDepth 100000 in
theorem L15_refWrites.calls (k:Nat) (A0:Option Addr) (c0:Nat) (l0:List (S107)) (r:List (S117)) (w:World) (hr0:Kd.C k107 w A0 l0.length l0) (hc0:l0.length≤c0) (h:L15_refWrites.f k l0=some r) :
  Calls Try.prog 57 #[.slice A0 l0.length c0] w fun e w'=>∃ v0_:Value,e = .returned (v0_)∧Kd.R k117 117 w' w.heap.size (fun _=>True) v0_ r∧Below w.heap.size w w':=by
 have hu117:=Try.underlying117
 have HR0:=As_ hr0
 have HC0:=As_ hc0
 clear hr0 hc0
 have HB:=As_ (Below.refl w.heap.size w)
 unfold L15_refWrites.f at h
 have H:=h
 clear h
 have H':=As_ H
 clear H
 go_enter Try.func57,Try.ntmps57
 go_wp2
 go_loopg [3,4] k (fun kq v3 v4 w'=>∃ (x3_1:List (S117)) (x4_1:Int),v4 = .int .i64 x4_1∧Aside0 (L15_refWrites.l0 kq l0 x3_1 x4_1=some r)∧Aside0 (kq≤k)∧Aside0 (Kd.R k117 117 w' w.heap.size (fun _=>True) v3 x3_1)∧Aside0 (Below w.heap.size w w'))
 case atStart=>exact ⟨(([]:List (S117))),(0),(by first|rfl|(simp;done)|(simp [*];done)),H',⟨Nat.le_refl _⟩,⟨by first|exact Kd.R_nil _ _ _ _ _|exact Kd.N_nil _ _ _ _ _|exact Kd.V_nil _ _ _ _ _|exact Kd.Q_nil _ _ _ _ _|exact Kd.S_nil _ _ _ _ _⟩,⟨Ky_ HB⟩⟩
 case round =>
  clear H'
  obtain ⟨x3_1,x4_1,rfl,HA,HK1,HO_3,HB⟩:=hrel
  cases gk with
  | zero=>exact absurd HA.out (by simp [L15_refWrites.l0])
  | succ k1 =>
   have H:=HA.out
   clear HA
   simp only [L15_refWrites.l0] at H
   by_cases c2:x4_1<(l0.length:Int)
   rotate_left
   ·rw [if_neg c2] at H
    have c2b0:decide (x4_1<(l0.length:Int))=false:=decide_eq_false c2
    clear c2
    obtain rfl:=Option.some.inj H
    go_wp2
    go_ret
    exact ⟨_,by first|rfl|(simp [errW_none,errW_some] <;> rfl)|(simp [*,errW_none,errW_some] <;> rfl),by (with_reducible repeat (first|apply Kd.R_alloc|apply Kd.R_drewN|apply Kd.R_drew));exact HO_3.out,Ky_ HB⟩
   rw [if_pos c2] at H
   have c2b0:decide (x4_1<(l0.length:Int))=true:=decide_eq_true c2
   clear c2
   by_cases c3:0≤x4_1
   rotate_left
   ·rw [if_neg c3] at H
    exact absurd H (by simp)
   rw [if_pos c3] at H
   have c3b0:decide (0≤x4_1)=true:=decide_eq_true c3
   clear c3
   by_cases c4:x3_1.length<2513169434916
   rotate_left
   ·rw [if_neg c4] at H
    exact absurd H (by simp)
   rw [if_pos c4] at H
   have LMc4:=As_ c4
   clear c4
   obtain ⟨y286,hy286⟩:∃ y_:List (S117),y_=(x3_1++[(⟨(rd_T107 l0 x4_1).f0,(rd_T107 l0 x4_1).f1,(rd_T107 l0 x4_1).f2,(rd_T107 l0 x4_1).f3⟩:S117)]):=⟨_,rfl⟩
   replace H:(L15_refWrites.l0 k1 l0 y286 (wrap64 (x4_1+1)))=some r:=by first|(rw [hy286];with_reducible exact H)|(have H2_:=(Option.bind_some _ _).symm.trans H;rw [hy286];with_reducible exact H2_)|(have H2_:=(Option.bind_some _ _).symm.trans H;with_reducible exact H2_)|with_reducible exact H|(rw [hy286];exact H)|exact H
   have Ny286:=As_ hy286
   clear hy286
   have H':=As_ H
   clear H
   try go_wp2
   replace HO_3:=As_ (Kd.R_drew HO_3.out)
   replace HB:=As_ (below_drew1 HB.out)
   have p282:0≤(x4_1:Int):=of_decide_eq_true (by first|(with_reducible assumption)|assumption)
   have q282:x4_1<(l0.length:Int):=of_decide_eq_true (by first|(with_reducible assumption)|assumption)
   obtain ⟨ad282,e282,hx282_0,hx282_1,hx282_2,hx282_3⟩:=at_T107 HR0.out x4_1 p282 q282
   have hw282_3:=hx282_3
   have hw282_2:=hx282_2
   have hw282_1:=hx282_1
   have hw282_0:=hx282_0
   cases e282
   replace hx282_0:=(HB.out.cell (World.block_lt_of_cell? w _ hx282_0)).trans hx282_0
   replace hx282_1:=(HB.out.cell (World.block_lt_of_cell? w _ hx282_1)).trans hx282_1
   replace hx282_2:=(HB.out.cell (World.block_lt_of_cell? w _ hx282_2)).trans hx282_2
   replace hx282_3:=(HB.out.cell (World.block_lt_of_cell? w _ hx282_3)).trans hx282_3
   replace p282:=eq_true p282
   replace q282:=eq_true q282
   have p283:0≤(x4_1:Int):=of_decide_eq_true (by first|(with_reducible assumption)|assumption)
   have q283:x4_1<(l0.length:Int):=of_decide_eq_true (by first|(with_reducible assumption)|assumption)
   obtain ⟨ad283,e283,hx283_0,hx283_1,hx283_2,hx283_3⟩:=at_T107 HR0.out x4_1 p283 q283
   have hw283_3:=hx283_3
   have hw283_2:=hx283_2
   have hw283_1:=hx283_1
   have hw283_0:=hx283_0
   obtain rfl:ad282=ad283:=(by injection e283)
   replace hx283_0:=(HB.out.cell (World.block_lt_of_cell? w _ hx283_0)).trans hx283_0
   replace hx283_1:=(HB.out.cell (World.block_lt_of_cell? w _ hx283_1)).trans hx283_1
   replace hx283_2:=(HB.out.cell (World.block_lt_of_cell? w _ hx283_2)).trans hx283_2
   replace hx283_3:=(HB.out.cell (World.block_lt_of_cell? w _ hx283_3)).trans hx283_3
   replace p283:=eq_true p283
   replace q283:=eq_true q283
   have p284:0≤(x4_1:Int):=of_decide_eq_true (by first|(with_reducible assumption)|assumption)
   have q284:x4_1<(l0.length:Int):=of_decide_eq_true (by first|(with_reducible assumption)|assumption)
   obtain ⟨ad284,e284,hx284_0,hx284_1,hx284_2,hx284_3⟩:=at_T107 HR0.out x4_1 p284 q284
   have hw284_3:=hx284_3
   have hw284_2:=hx284_2
   have hw284_1:=hx284_1
   have hw284_0:=hx284_0
   obtain rfl:ad282=ad284:=(by injection e284)
   replace hx284_0:=(HB.out.cell (World.block_lt_of_cell? w _ hx284_0)).trans hx284_0
   replace hx284_1:=(HB.out.cell (World.block_lt_of_cell? w _ hx284_1)).trans hx284_1
   replace hx284_2:=(HB.out.cell (World.block_lt_of_cell? w _ hx284_2)).trans hx284_2
   replace hx284_3:=(HB.out.cell (World.block_lt_of_cell? w _ hx284_3)).trans hx284_3
   replace p284:=eq_true p284
   replace q284:=eq_true q284
   have p285:0≤(x4_1:Int):=of_decide_eq_true (by first|(with_reducible assumption)|assumption)
   have q285:x4_1<(l0.length:Int):=of_decide_eq_true (by first|(with_reducible assumption)|assumption)
   obtain ⟨ad285,e285,hx285_0,hx285_1,hx285_2,hx285_3⟩:=at_T107 HR0.out x4_1 p285 q285
   have hw285_3:=hx285_3
   have hw285_2:=hx285_2
   have hw285_1:=hx285_1
   have hw285_0:=hx285_0
   obtain rfl:ad282=ad285:=(by injection e285)
   replace hx285_0:=(HB.out.cell (World.block_lt_of_cell? w _ hx285_0)).trans hx285_0
   replace hx285_1:=(HB.out.cell (World.block_lt_of_cell? w _ hx285_1)).trans hx285_1
   replace hx285_2:=(HB.out.cell (World.block_lt_of_cell? w _ hx285_2)).trans hx285_2
   replace hx285_3:=(HB.out.cell (World.block_lt_of_cell? w _ hx285_3)).trans hx285_3
   replace p285:=eq_true p285
   replace q285:=eq_true q285
   refine start_ (n:=25) (S:=fun w'=>w'.cell? (ad282.add ((x4_1).toNat * 4))=some (.string ((rd_T107 l0 x4_1).f0))∧w'.cell? ⟨(ad282.add ((x4_1).toNat * 4)).block,(ad282.add ((x4_1).toNat * 4)).off+1,none⟩=some (.string ((rd_T107 l0 x4_1).f1))∧w'.cell? ⟨(ad282.add ((x4_1).toNat * 4)).block,(ad282.add ((x4_1).toNat * 4)).off+2,none⟩=some (.string ((rd_T107 l0 x4_1).f2))∧w'.cell? ⟨(ad282.add ((x4_1).toNat * 4)).block,(ad282.add ((x4_1).toNat * 4)).off+3,none⟩=some (.bool ((rd_T107 l0 x4_1).f3))∧w'.cell? (ad282.add ((x4_1).toNat * 4))=some (.string ((rd_T107 l0 x4_1).f0))∧w'.cell? ⟨(ad282.add ((x4_1).toNat * 4)).block,(ad282.add ((x4_1).toNat * 4)).off+1,none⟩=some (.string ((rd_T107 l0 x4_1).f1))∧w'.cell? ⟨(ad282.add ((x4_1).toNat * 4)).block,(ad282.add ((x4_1).toNat * 4)).off+2,none⟩=some (.string ((rd_T107 l0 x4_1).f2))∧w'.cell? ⟨(ad282.add ((x4_1).toNat * 4)).block,(ad282.add ((x4_1).toNat * 4)).off+3,none⟩=some (.bool ((rd_T107 l0 x4_1).f3))∧w'.cell? (ad282.add ((x4_1).toNat * 4))=some (.string ((rd_T107 l0 x4_1).f0))∧w'.cell? ⟨(ad282.add ((x4_1).toNat * 4)).block,(ad282.add ((x4_1).toNat * 4)).off+1,none⟩=some (.string ((rd_T107 l0 x4_1).f1))∧w'.cell? ⟨(ad282.add ((x4_1).toNat * 4)).block,(ad282.add ((x4_1).toNat * 4)).off+2,none⟩=some (.string ((rd_T107 l0 x4_1).f2))∧w'.cell? ⟨(ad282.add ((x4_1).toNat * 4)).block,(ad282.add ((x4_1).toNat * 4)).off+3,none⟩=some (.bool ((rd_T107 l0 x4_1).f3))∧w'.cell? (ad282.add ((x4_1).toNat * 4))=some (.string ((rd_T107 l0 x4_1).f0))∧w'.cell? ⟨(ad282.add ((x4_1).toNat * 4)).block,(ad282.add ((x4_1).toNat * 4)).off+1,none⟩=some (.string ((rd_T107 l0 x4_1).f1))∧w'.cell? ⟨(ad282.add ((x4_1).toNat * 4)).block,(ad282.add ((x4_1).toNat * 4)).off+2,none⟩=some (.string ((rd_T107 l0 x4_1).f2))∧w'.cell? ⟨(ad282.add ((x4_1).toNat * 4)).block,(ad282.add ((x4_1).toNat * 4)).off+3,none⟩=some (.bool ((rd_T107 l0 x4_1).f3))) (ds:=[]) (mB_ 25 0) (by kernel_rfl) rfl rfl ⟨((HB.out.cell (World.block_lt_of_cell? w _ hw282_0)).trans hw282_0),((HB.out.cell (World.block_lt_of_cell? w _ hw282_1)).trans hw282_1),((HB.out.cell (World.block_lt_of_cell? w _ hw282_2)).trans hw282_2),((HB.out.cell (World.block_lt_of_cell? w _ hw282_3)).trans hw282_3),((HB.out.cell (World.block_lt_of_cell? w _ hw283_0)).trans hw283_0),((HB.out.cell (World.block_lt_of_cell? w _ hw283_1)).trans hw283_1),((HB.out.cell (World.block_lt_of_cell? w _ hw283_2)).trans hw283_2),((HB.out.cell (World.block_lt_of_cell? w _ hw283_3)).trans hw283_3),((HB.out.cell (World.block_lt_of_cell? w _ hw284_0)).trans hw284_0),((HB.out.cell (World.block_lt_of_cell? w _ hw284_1)).trans hw284_1),((HB.out.cell (World.block_lt_of_cell? w _ hw284_2)).trans hw284_2),((HB.out.cell (World.block_lt_of_cell? w _ hw284_3)).trans hw284_3),((HB.out.cell (World.block_lt_of_cell? w _ hw285_0)).trans hw285_0),((HB.out.cell (World.block_lt_of_cell? w _ hw285_1)).trans hw285_1),((HB.out.cell (World.block_lt_of_cell? w _ hw285_2)).trans hw285_2),((HB.out.cell (World.block_lt_of_cell? w _ hw285_3)).trans hw285_3)⟩ (fun hHeld=>?_);refine with_tabW L15_refWrites.tab5 L15_refWrites.bits5 (fun HT_ HW_=>?_)
   generalize wr.drew=w5 at HO_3 HB hx282_0 hx282_1 hx282_2 hx282_3 hx283_0 hx283_1 hx283_2 hx283_3 hx284_0 hx284_1 hx284_2 hx284_3 hx285_0 hx285_1 hx285_2 hx285_3 hHeld ⊢
   refine Kp_ 0 11 (Bz 25 1) (any_of HT_.out (by kernel_rfl)) ?_
   refine Kp_ 1 12 (Bz 25 3) (any_of HT_.out (by kernel_rfl)) ?_
   refine Kp_ 2 13 (Bz 25 7) (any_of HT_.out (by kernel_rfl)) ?_
   refine Kp_ 3 14 (Bz 25 15) (any_of HT_.out (by kernel_rfl)) ?_
   refine Kp_ 4 15 (Bz 25 31) (any_of HT_.out (by kernel_rfl)) ?_
   refine Kp_ 6 17 (Bz 25 95) (any_of HT_.out (by kernel_rfl)) ?_
   refine Kp_ 7 18 (Bz 25 223) (any_of HT_.out (by kernel_rfl)) ?_
   refine Kp_ 8 19 (Bz 25 479) (any_of HT_.out (by kernel_rfl)) ?_
   refine Kp_ 9 20 (Bz 25 991) (any_of HT_.out (by kernel_rfl)) ?_
   refine Kp_ 11 22 (Bz 25 3039) (any_of HT_.out (by kernel_rfl)) ?_
   refine Kp_ 12 23 (Bz 25 7135) (any_of HT_.out (by kernel_rfl)) ?_
   refine Kp_ 13 24 (Bz 25 15327) (any_of HT_.out (by kernel_rfl)) ?_
   refine Kp_ 14 25 (Bz 25 31711) (any_of HT_.out (by kernel_rfl)) ?_
   refine Kp_ 16 27 (Bz 25 97247) (any_of HT_.out (by kernel_rfl)) ?_
   refine Kp_ 17 28 (Bz 25 228319) (any_of HT_.out (by kernel_rfl)) ?_
   refine Kp_ 18 29 (Bz 25 490463) (any_of HT_.out (by kernel_rfl)) ?_
   refine Kp_ 19 30 (Bz 25 1014751) (any_of HT_.out (by kernel_rfl)) ?_
   refine Ko_ 5 16 (Bz 25 1014783) (take_ofW HT_.out HW_.out (by kernel_rfl)) hHeld ?_
   refine Ko_ 10 21 (Bz 25 1015807) (take_ofW HT_.out HW_.out (by kernel_rfl)) hHeld ?_
   refine Ko_ 15 26 (Bz 25 1048575) (take_ofW HT_.out HW_.out (by kernel_rfl)) hHeld ?_
   refine Ko_ 20 31 (Bz 25 2097151) (take_ofW HT_.out HW_.out (by kernel_rfl)) hHeld ?_
   refine Kp_ 21 32 (Bz 25 4194303) (any_of HT_.out (by kernel_rfl)) ?_
   refine one_ (i:=22) (N:=some 33) (Bz 25 8388607) rfl rfl (one_of HT_.out (by kernel_rfl)) (by decide) (fun K hK=>?_)
   refine value_ (w1:=?_) (v:=?_) (by rfl) rfl ?_ ?_
   rotate_left 2
   ·go_simp
    constructor
    ·rfl
    ·rfl
   refine hK.out _ _ ⟨(World.cell?_alloc_lt _ _ _ (World.block_lt_of_cell? _ _ (((HB.out.cell (World.block_lt_of_cell? w _ hw282_0)).trans hw282_0)))).trans (((HB.out.cell (World.block_lt_of_cell? w _ hw282_0)).trans hw282_0)),(World.cell?_alloc_lt _ _ _ (World.block_lt_of_cell? _ _ (((HB.out.cell (World.block_lt_of_cell? w _ hw282_1)).trans hw282_1)))).trans (((HB.out.cell (World.block_lt_of_cell? w _ hw282_1)).trans hw282_1)),(World.cell?_alloc_lt _ _ _ (World.block_lt_of_cell? _ _ (((HB.out.cell (World.block_lt_of_cell? w _ hw282_2)).trans hw282_2)))).trans (((HB.out.cell (World.block_lt_of_cell? w _ hw282_2)).trans hw282_2)),(World.cell?_alloc_lt _ _ _ (World.block_lt_of_cell? _ _ (((HB.out.cell (World.block_lt_of_cell? w _ hw282_3)).trans hw282_3)))).trans (((HB.out.cell (World.block_lt_of_cell? w _ hw282_3)).trans hw282_3)),(World.cell?_alloc_lt _ _ _ (World.block_lt_of_cell? _ _ (((HB.out.cell (World.block_lt_of_cell? w _ hw283_0)).trans hw283_0)))).trans (((HB.out.cell (World.block_lt_of_cell? w _ hw283_0)).trans hw283_0)),(World.cell?_alloc_lt _ _ _ (World.block_lt_of_cell? _ _ (((HB.out.cell (World.block_lt_of_cell? w _ hw283_1)).trans hw283_1)))).trans (((HB.out.cell (World.block_lt_of_cell? w _ hw283_1)).trans hw283_1)),(World.cell?_alloc_lt _ _ _ (World.block_lt_of_cell? _ _ (((HB.out.cell (World.block_lt_of_cell? w _ hw283_2)).trans hw283_2)))).trans (((HB.out.cell (World.block_lt_of_cell? w _ hw283_2)).trans hw283_2)),(World.cell?_alloc_lt _ _ _ (World.block_lt_of_cell? _ _ (((HB.out.cell (World.block_lt_of_cell? w _ hw283_3)).trans hw283_3)))).trans (((HB.out.cell (World.block_lt_of_cell? w _ hw283_3)).trans hw283_3)),(World.cell?_alloc_lt _ _ _ (World.block_lt_of_cell? _ _ (((HB.out.cell (World.block_lt_of_cell? w _ hw284_0)).trans hw284_0)))).trans (((HB.out.cell (World.block_lt_of_cell? w _ hw284_0)).trans hw284_0)),(World.cell?_alloc_lt _ _ _ (World.block_lt_of_cell? _ _ (((HB.out.cell (World.block_lt_of_cell? w _ hw284_1)).trans hw284_1)))).trans (((HB.out.cell (World.block_lt_of_cell? w _ hw284_1)).trans hw284_1)),(World.cell?_alloc_lt _ _ _ (World.block_lt_of_cell? _ _ (((HB.out.cell (World.block_lt_of_cell? w _ hw284_2)).trans hw284_2)))).trans (((HB.out.cell (World.block_lt_of_cell? w _ hw284_2)).trans hw284_2)),(World.cell?_alloc_lt _ _ _ (World.block_lt_of_cell? _ _ (((HB.out.cell (World.block_lt_of_cell? w _ hw284_3)).trans hw284_3)))).trans (((HB.out.cell (World.block_lt_of_cell? w _ hw284_3)).trans hw284_3)),(World.cell?_alloc_lt _ _ _ (World.block_lt_of_cell? _ _ (((HB.out.cell (World.block_lt_of_cell? w _ hw285_0)).trans hw285_0)))).trans (((HB.out.cell (World.block_lt_of_cell? w _ hw285_0)).trans hw285_0)),(World.cell?_alloc_lt _ _ _ (World.block_lt_of_cell? _ _ (((HB.out.cell (World.block_lt_of_cell? w _ hw285_1)).trans hw285_1)))).trans (((HB.out.cell (World.block_lt_of_cell? w _ hw285_1)).trans hw285_1)),(World.cell?_alloc_lt _ _ _ (World.block_lt_of_cell? _ _ (((HB.out.cell (World.block_lt_of_cell? w _ hw285_2)).trans hw285_2)))).trans (((HB.out.cell (World.block_lt_of_cell? w _ hw285_2)).trans hw285_2)),(World.cell?_alloc_lt _ _ _ (World.block_lt_of_cell? _ _ (((HB.out.cell (World.block_lt_of_cell? w _ hw285_3)).trans hw285_3)))).trans (((HB.out.cell (World.block_lt_of_cell? w _ hw285_3)).trans hw285_3))⟩ (fun hHeld=>?_)
   clear hK K
   refine Kn_ 33 ?_
   refine one_ (i:=23) (N:=some 34) (Bz 25 16777215) rfl rfl (one_of HT_.out (by kernel_rfl)) (by decide) (fun K hK=>?_)
   refine Kd.R_append_step k117 (w0:=w) w.heap.size (by rfl) (.tmp 11) (.tmp 33) 53 117 (.agg #[(.string ⟨#[]⟩),(.string ⟨#[]⟩),(.string ⟨#[]⟩),(.bool false)]) 56 rfl Try.underlying53 info117 rfl (by decide) (by omega) u3 x3_1 (⟨(rd_T107 l0 x4_1).f0,(rd_T107 l0 x4_1).f1,(rd_T107 l0 x4_1).f2,(rd_T107 l0 x4_1).f3⟩:S117) [.string ((rd_T107 l0 x4_1).f0),.string ((rd_T107 l0 x4_1).f1),.string ((rd_T107 l0 x4_1).f2),.bool ((rd_T107 l0 x4_1).f3)] (fun _=>True) (fun _=>False) rfl rfl ?aP (fun _ hk=>hk.elim) ?aF ?aO ?aB ?aS ?aL ?_
   (case aP=>exact k117_mkM _ _ _ (⟨(rd_T107 l0 x4_1).f0,(rd_T107 l0 x4_1).f1,(rd_T107 l0 x4_1).f2,(rd_T107 l0 x4_1).f3⟩:S117))
   (case aB=>exact (Ky_ HB))
   (case aF=>exact (fun _ _=>trivial))
   (case aO=>exact (Ku_ HO_3))
   (case aS=>exact (below_size (Ky_ HB)))
   (case aL=>have:=LMc4.out;omega)
   intro v287 w6 ho hb hg hat
   rw [← Ny286.out] at ho
   have HO288:=As_ (ho)
   replace HB:=As_ (hb)
   clear HO_3
   clear ho hb hg hat
   refine hK.out _ _ ⟨((HB.out.cell (World.block_lt_of_cell? w _ hw282_0)).trans hw282_0),((HB.out.cell (World.block_lt_of_cell? w _ hw282_1)).trans hw282_1),((HB.out.cell (World.block_lt_of_cell? w _ hw282_2)).trans hw282_2),((HB.out.cell (World.block_lt_of_cell? w _ hw282_3)).trans hw282_3),((HB.out.cell (World.block_lt_of_cell? w _ hw283_0)).trans hw283_0),((HB.out.cell (World.block_lt_of_cell? w _ hw283_1)).trans hw283_1),((HB.out.cell (World.block_lt_of_cell? w _ hw283_2)).trans hw283_2),((HB.out.cell (World.block_lt_of_cell? w _ hw283_3)).trans hw283_3),((HB.out.cell (World.block_lt_of_cell? w _ hw284_0)).trans hw284_0),((HB.out.cell (World.block_lt_of_cell? w _ hw284_1)).trans hw284_1),((HB.out.cell (World.block_lt_of_cell? w _ hw284_2)).trans hw284_2),((HB.out.cell (World.block_lt_of_cell? w _ hw284_3)).trans hw284_3),((HB.out.cell (World.block_lt_of_cell? w _ hw285_0)).trans hw285_0),((HB.out.cell (World.block_lt_of_cell? w _ hw285_1)).trans hw285_1),((HB.out.cell (World.block_lt_of_cell? w _ hw285_2)).trans hw285_2),((HB.out.cell (World.block_lt_of_cell? w _ hw285_3)).trans hw285_3)⟩ (fun hHeld=>?_)
   clear hK K
   refine Kn_ 34 ?_
   refine Kp_ 24 3 (Bz 25 33554431) (any_of HT_.out (by kernel_rfl)) ?_
   refine done_ (done_of HT_.out (by kernel_rfl)) ?_
   try go_wp2
   go_roundg k1
   case measure=>have:=HK1.out;omega
   case rel=>exact ⟨(y286),(wrap64 (x4_1+1)),(by first|rfl|(simp;done)|(simp [*];done)),H',⟨by have:=HK1.out;omega⟩,⟨by (with_reducible repeat (first|apply Kd.R_alloc|apply Kd.R_drewN|apply Kd.R_drew));exact HO288.out⟩,⟨Ky_ HB⟩⟩
end Go.Proofs.Ytoagfdpgnfinhaa.Q
