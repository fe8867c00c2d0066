import Derived.Test.YtoagfdpgnfinhaaGStreamGets0
import Derived.Test.YtoagfdpgnfinhaaGStreamGets10
import Derived.Test.YtoagfdpgnfinhaaGStreamGets3
import Derived.Test.YtoagfdpgnfinhaaGStreamGets4
import Derived.Laws.BitsAllLaws
import Derived.Test.YtoagfdpgnfinhaaGStreamGets2
import Derived.Test.YtoagfdpgnfinhaaGStreamGets7
import Derived.Test.YtoagfdpgnfinhaaGStreamGets8
import Derived.Test.YtoagfdpgnfinhaaGStreamGets9
set_option linter.unusedVariables false
set_option linter.unusedSimpArgs false
namespace Go.Proofs.Ytoagfdpgnfinhaa.Pure
open Go.RowKit Go.Proofs.Ytoagfdpgnfinhaa.Q Go.Proofs.YtoagfdpgnfinhaaW.PrintWords Go.Proofs.YtoagfdpgnfinhaaW.PrintLast Go.Proofs.YtoagfdpgnfinhaaW.PrintMore Go.Proofs.Ytoagfdpgnfinhaa.Plain
theorem u8_or_128:∀ m:Nat,m<256→Go.bits .or .u8 (m:Int) 128=((m % 128+128:Nat):Int):=by
 intro m hm
 have h:∀ m:Fin 256,(m.val ||| 128)=m.val % 128+128:=by decide +kernel
 have h2:=u8_or_nat m 128 hm (by omega)
 rw [show ((128:Nat):Int)=128 from rfl] at h2
 rw [h2,h ⟨m,hm⟩]
theorem u8_and_127:∀ m:Nat,m<256→Go.bits .and .u8 (m:Int) 127=((m % 128:Nat):Int):=by
 intro m hm
 have h:∀ m:Fin 256,(m.val &&& 127)=m.val % 128:=by decide +kernel
 have h2:=u8_and_nat m 127 hm (by omega)
 rw [show ((127:Nat):Int)=127 from rfl] at h2
 rw [h2,h ⟨m,hm⟩]
theorem vary_tells (n:Nat):∀ (k:Nat) (acc:List Nat),(vary n).length<k→acc.length+(vary n).length≤140737488355328 →
  pack_Vary.l0 k (n:Int) (NL acc)=some (strOfNums (NL (acc++vary n))):=by
 induction n using Nat.strongRecOn with
 | _ n ih =>
  intro k acc hk hl
  obtain ⟨k,rfl⟩:∃ m,k=m+1:=⟨k - 1,by omega⟩
  simp only [pack_Vary.l0]
  have hlen:(NL acc).length=acc.length:=by simp [NL]
  by_cases h:n<128
  ·rw [vary_small h] at hl ⊢
   rw [if_neg (by omega),if_pos (by rw [hlen];simp at hl;omega)]
   rw [show (n:Int) % 256=(n:Int) by omega]
   simp [NL]
  ·rw [vary_big h] at hl hk ⊢
   simp only [List.length_cons] at hl hk
   rw [if_pos (by omega),if_pos (by rw [hlen];omega)]
   have e1:(n:Int) / 128=((n / 128:Nat):Int):=by omega
   have e2:(n:Int) % 256=((n % 256:Nat):Int):=by omega
   rw [e1,e2,u8_or_128 _ (by omega)]
   have e3:NL acc++[((n % 256 % 128+128:Nat):Int)]=NL (acc++[n % 128+128]):=by
    rw [show n % 256 % 128=n % 128 by omega];simp [NL]
   rw [e3,ih (n / 128) (by omega) k _ (by omega) (by simp;omega)]
   simp
def vs (n:Nat):ByteArray:=strOfNums (NL (vary n))
theorem bl_vs (n:Nat):bl (vs n)=vary n:=bl_str _ (vary_lt n)
theorem vs_size (n:Nat):(vs n).size=(vary n).length:=by rw [← bl_length,bl_vs]
theorem Vary_f {n k:Nat} (h:n<18446744073709551616) (hk:11≤k):pack_Vary.f k (n:Int)=some (vs n):=by
 have h1:=vary_len_ten h
 have:=vary_tells n k [] (by omega) (by simp;omega)
 exact this
inductive VaryRes (s:ByteArray):Int × ByteArray × Bool→Prop
 | good (n:Nat) (rest:ByteArray) (hn:n<18446744073709551616) (hs:bl s=vary n++bl rest):VaryRes s ((n:Int),rest,false)
 | bad (h:∀ n,n<18446744073709551616→∀ r,bl s ≠ vary n++r):VaryRes s (0,⟨#[]⟩,true)
theorem VaryRes.unique {s:ByteArray} {a b:Int × ByteArray × Bool} (ha:VaryRes s a) (hb:VaryRes s b):a=b:=by
 cases ha with
 | good n r hn hs =>
  cases hb with
  | good m q hm ht =>
   obtain ⟨rfl,e⟩:=vary_prefix _ _ _ _ (hs.symm.trans ht)
   rw [bl_inj e]
  | bad h=>exact absurd hs (h n hn _)
 | bad h =>
  cases hb with
  | good m q hm ht=>exact absurd ht (h m hm _)
  | bad h=>rfl
theorem acc_or (n i:Nat) (hn:n<18446744073709551616) (hi:i<(vary n).length) :
  Go.bits .or .u64 ((n % 128 ^ i:Nat):Int) (shl .u64 (IntKind.u64.wrap ((n / 128 ^ i % 128:Nat):Int)) (7 * (i:Int)))=((n % 128 ^ (i+1):Nat):Int):=by
 have h10:=vary_len_ten hn
 have hle:n % 128 ^ (i+1)=n % 128 ^ i+128 ^ i * (n / 128 ^ i % 128):=by rw [Nat.pow_succ,Nat.mod_mul]
 have hlt:n % 128 ^ (i+1)≤n:=Nat.mod_le _ _
 have hp:0<128 ^ i:=Nat.pow_pos (by omega)
 have hm:n % 128 ^ i<128 ^ i:=Nat.mod_lt _ hp
 have h7:(128:Nat) ^ i=2 ^ (7 * i):=by rw [Nat.pow_mul]
 generalize hg:n / 128 ^ i % 128=g at *
 have hg':g<128:=by omega
 generalize hc:n % 128 ^ i=c at *
 have hprod:128 ^ i * g<18446744073709551616:=by omega
 have hw:IntKind.u64.wrap (g:Int)=(g:Int):=wrap_u64 (by omega) (by omega)
 have hs:shl .u64 (g:Int) (7 * (i:Int))=((128 ^ i * g:Nat):Int):=by
  unfold shl
  rw [show (7 * (i:Int)).toNat=7 * i by omega,Nat.min_eq_left (by show 7 * i≤64;omega)]
  have e:(g:Int) * 2 ^ (7 * i)=((128 ^ i * g:Nat):Int):=by rw [h7,Int.natCast_mul,Int.mul_comm];simp
  rw [e,wrap_u64 (by omega) (by omega)]
 have hcn:c<18446744073709551616:=by omega
 rw [hw,hs,u64_or_nat _ _ hcn hprod,hle]
 congr 1
 rw [h7] at hm ⊢
 rw [Nat.add_comm,Nat.two_pow_add_eq_or_of_lt hm,Nat.or_comm]
theorem u64_or_range (a b:Int) (h1:0≤a) (h2:a<18446744073709551616) (h3:0≤b) (h4:b<18446744073709551616):0≤Go.bits .or .u64 a b∧Go.bits .or .u64 a b<18446744073709551616:=by
 rw [u64_or a b h1 h2 h3 h4]
 have:a.toNat ||| b.toNat<2 ^ 64:=Nat.or_lt_two_pow (by omega) (by omega)
 omega
theorem shl_range (x y:Int):0≤shl .u64 x y∧shl .u64 x y<18446744073709551616:=by
 unfold shl;simp only [IntKind.wrap_u64];omega
theorem mn_lt {i n:Nat} (h:i<min n 10):(i:Int)<mn (n:Int) 10:=by unfold mn;split <;> omega
theorem mn_ge {i n:Nat} (h:¬ i<min n 10):¬ (i:Int)<mn (n:Int) 10:=by unfold mn;split <;> omega
theorem wrap_seven {i:Nat} (h:i<10):wrap64 (7 * (i:Int))=7 * (i:Int):=wrap64_id (by omega) (by omega)
theorem wrap_succ {i:Nat} (h:i<10):wrap64 ((i:Int)+1)=((i+1:Nat):Int):=by rw [wrap64_id (by omega) (by omega)];omega
theorem varyR_loop (s:ByteArray) (b:Bool) (hz:s.size≤9223372036854775807) (d:Nat):∀ (k i:Nat) (x:Int),i+d=min s.size 10→0≤x→x<18446744073709551616→d+12≤k →
  (∀ j,j<i→∃ c,(bl s)[j]?=some c∧128≤c) →
  (∀ n,n<18446744073709551616→∀ r,bl s=vary n++r→i<(vary n).length∧x=((n % 128 ^ i:Nat):Int)) →
  ∃ r,pack_Reader_Vary.l0 k x (mn (s.size:Int) 10) (i:Int) s b=some r∧VaryRes s r:=by
 induction d with
 | zero =>
  intro k i x hi h0 h1 hk hall hn
  obtain ⟨k,rfl⟩:∃ m,k=m+1:=⟨k - 1,by omega⟩
  refine ⟨(0,⟨#[]⟩,true),?_,.bad fun n hn' r hs=>?_⟩
  ·simp only [pack_Reader_Vary.l0]
   rw [if_neg (mn_ge (by omega))]
   rfl
  ·have h2:=(hn n hn' r hs).1
   have h3:=vary_len_ten hn'
   have h4:(vary n).length≤s.size:=by rw [← bl_length,hs];simp
   omega
 | succ d ih =>
  intro k i x hi h0 h1 hk hall hn
  obtain ⟨k,rfl⟩:∃ m,k=m+1:=⟨k - 1,by omega⟩
  have hlt:i<s.size:=by omega
  have hi10:i<10:=by omega
  obtain ⟨c,hc,hbt,hc256⟩:=bt_bl s i hlt
  simp only [pack_Reader_Vary.l0]
  rw [if_pos (mn_lt (by omega)),if_pos (Int.natCast_nonneg i),if_pos (Int.ofNat_lt.2 hlt),hbt,wrap_seven hi10,if_pos (Int.mul_nonneg (by decide) (Int.natCast_nonneg i)),wrap_succ hi10,u8_and_127 _ hc256]
  clear hbt
  obtain ⟨G,hG⟩:∃ G,G=Go.bits .or .u64 x (shl .u64 (IntKind.u64.wrap ((c % 128:Nat):Int)) (7 * (i:Int))):=⟨_,rfl⟩
  have hGr:0≤G∧G<18446744073709551616:=by
   rw [hG]
   exact u64_or_range x _ h0 h1 (shl_range _ _).1 (shl_range _ _).2
  have hnext:∀ n,n<18446744073709551616→∀ r,bl s=vary n++r→c % 128=n / 128 ^ i % 128∧(128≤c ↔ i+1<(vary n).length)∧G=((n % 128 ^ (i+1):Nat):Int):=by
   intro n hn' r hs
   obtain ⟨g1,g2⟩:=hn n hn' r hs
   have e:(bl s)[i]?=(vary n)[i]?:=by rw [hs,List.getElem?_append_left g1]
   rw [hc,vary_get i n g1] at e
   have e:=Option.some.inj e
   have e2:c % 128=n / 128 ^ i % 128:=by clear hG;rw [e];split <;> omega
   refine ⟨e2,?_,?_⟩
   ·clear hG;rw [e];split <;> omega
   ·rw [hG,e2,g2];exact acc_or n i hn' g1
  rw [← hG]
  clear hG
  by_cases h128:128≤c
  ·rw [if_pos (show ((c:Nat):Int) ≥ 128 by omega)]
   refine ih k (i+1) _ (by omega) hGr.1 hGr.2 (by omega) ?_ ?_
   ·intro j hj
    by_cases hji:j<i
    ·exact hall j hji
    ·obtain rfl:j=i:=by omega
     exact ⟨c,hc,h128⟩
   ·intro n hn' r hs
    obtain ⟨_,g2,g3⟩:=hnext n hn' r hs
    exact ⟨g2.1 h128,g3⟩
  ·rw [if_neg (show ¬ ((c:Nat):Int) ≥ 128 by omega),if_pos (show (0:Int)≤((i+1:Nat):Int) by omega),if_pos (show ((i+1:Nat):Int)≤(s.size:Int) by omega)]
   obtain ⟨m,rfl⟩:=Int.eq_ofNat_of_zero_le hGr.1
   rw [Vary_f (by omega) (by omega)]
   simp only [Option.bind_some]
   rw [show (((i+1:Nat):Int)).toNat=i+1 by omega]
   by_cases he:(s.extract 0 (i+1)).toList=(vs m).toList
   ·rw [if_pos he]
    refine ⟨_,rfl,.good m _ (by omega) ?_⟩
    have e1:bl (s.extract 0 (i+1))=vary m:=by rw [toList_iff.1 he,bl_vs]
    rw [bl_extract,List.drop_zero] at e1
    rw [← e1,bl_drop,List.take_append_drop]
   ·rw [if_neg he]
    refine ⟨_,rfl,.bad fun n hn' r hs=>he ?_⟩
    obtain ⟨g1,g2,g3⟩:=hnext n hn' r hs
    have g4:=(hn n hn' r hs).1
    have hl:(vary n).length=i+1:=by omega
    have hnm:n % 128 ^ (i+1)=n:=Nat.mod_eq_of_lt (by
     rcases Nat.lt_or_ge n (128 ^ (i+1)) with h|h
     ·exact h
     ·have:=vary_len_gt (i+1) n h;omega)
    rw [hnm] at g3
    have:m=n:=by omega
    subst this
    rw [toList_iff]
    apply bl_inj
    rw [bl_vs,bl_extract,List.drop_zero,hs,← hl,List.take_left]
theorem ReaderVary_f (s:ByteArray) (b:Bool) (hz:s.size≤9223372036854775807) {k:Nat} (hk:22≤k) :
  ∃ r,pack_Reader_Vary.f k s b=some r∧(b=false→VaryRes s r)∧(b=true→r=(0,⟨#[]⟩,true)):=by
 unfold pack_Reader_Vary.f
 cases b with
 | true=>exact ⟨_,rfl,(fun h=>by cases h),(fun _=>rfl)⟩
 | false =>
  obtain ⟨r,h1,h2⟩:=varyR_loop s false hz (min s.size 10) k 0 0 (by omega) (by omega) (by omega) (by omega) (fun j hj=>by omega) (fun n _ r _=>⟨vary_pos n,by simp [Nat.mod_one]⟩)
  exact ⟨r,by rw [if_neg (by simp)];exact h1,(fun _=>h2),(fun h=>by cases h)⟩
theorem ReaderVary_good {s:ByteArray} {n:Nat} {rest:ByteArray} (hz:s.size≤9223372036854775807) (hn:n<18446744073709551616) (hs:bl s=vary n++bl rest) {k:Nat} (hk:22≤k) :
  pack_Reader_Vary.f k s false=some ((n:Int),rest,false):=by
 obtain ⟨r,h1,h2,_⟩:=ReaderVary_f s false hz hk
 rw [h1,VaryRes.unique (h2 rfl) (.good n rest hn hs)]
theorem ReaderVary_true {s:ByteArray} (hz:s.size≤9223372036854775807) {k:Nat} (hk:22≤k):pack_Reader_Vary.f k s true=some (0,⟨#[]⟩,true):=by
 obtain ⟨r,h1,_,h2⟩:=ReaderVary_f s true hz hk
 rw [h1,h2 rfl]
theorem vary_step {s:ByteArray} {b:Bool} (hz:s.size≤9223372036854775807) {k:Nat} (hk:22≤k) :
  ∃ v t c,pack_Reader_Vary.f k s b=some (v,t,c)∧t.size≤s.size∧(c=false→b=false∧∃ n,n<18446744073709551616∧v=(n:Nat)∧bl s=vary n++bl t):=by
 cases b with
 | true=>exact ⟨_,_,_,ReaderVary_true hz hk,Nat.zero_le _,fun h=>absurd h (by simp)⟩
 | false =>
  obtain ⟨r,h1,h2,_⟩:=ReaderVary_f s false hz hk
  cases h2 rfl with
  | good n rest hn hs =>
   refine ⟨_,_,_,h1,?_,fun _=>⟨rfl,n,hn,rfl,hs⟩⟩
   rw [← bl_length,← bl_length,hs];simp
  | bad h=>exact ⟨_,_,_,h1,Nat.zero_le _,fun h=>absurd h (by simp)⟩
theorem vright_f (a b c d:Int):vec_Right.f a b c d=some (decide (a≤1152921504606846976∧b≤1152921504606846976∧c≤1152921504606846976∧d≤1152921504606846976)):=by
 have h:∀ x:Int,(mx x 1152921504606846976 == (1152921504606846976:Int))=decide (x≤1152921504606846976):=by
  intro x
  rw [Bool.eq_iff_iff,beq_iff_eq,decide_eq_true_eq]
  unfold mx
  split <;> omega
 unfold vec_Right.f vec_Leq.f vec_Join.f
 simp only [Option.bind_some,h]
 simp only [Bool.decide_and]
theorem vput_f {a b c d:Nat} (ha:a<18446744073709551616) (hb:b<18446744073709551616) (hc:c<18446744073709551616) (hd:d<18446744073709551616) {k:Nat} (hk:11≤k) :
  vec_Put.f k a b c d=some (vs a++vs b++vs c++vs d):=by
 have h1:=vary_len_ten ha
 have h2:=vary_len_ten hb
 have h3:=vary_len_ten hc
 have h4:=vary_len_ten hd
 unfold vec_Put.f
 rw [Vary_f ha hk,Vary_f hb hk,Vary_f hc hk,Vary_f hd hk]
 simp only [Option.bind_some]
 rw [if_pos (by rw [vs_size,vs_size,vs_size,vs_size];omega)]
theorem vget_step {s:ByteArray} {b:Bool} (hz:s.size≤9223372036854775807) {k:Nat} (hk:22≤k) :
  ∃ v0 v1 v2 v3 t c,vec_Get.f k s b=some (v0,v1,v2,v3,t,c)∧t.size≤s.size∧(c=false→b=false∧∃ n0 n1 n2 n3:Nat,(n0≤1152921504606846976∧n1≤1152921504606846976∧n2≤1152921504606846976∧n3≤1152921504606846976) ∧
   v0=(n0:Int)∧v1=(n1:Int)∧v2=(n2:Int)∧v3=(n3:Int)∧bl s=vary n0++(vary n1++(vary n2++(vary n3++bl t)))):=by
 obtain ⟨v0,t0,c0,e0,z0,h0⟩:=vary_step (s:=s) (b:=b) hz hk
 obtain ⟨v1,t1,c1,e1,z1,h1⟩:=vary_step (s:=t0) (b:=c0) (by omega) hk
 obtain ⟨v2,t2,c2,e2,z2,h2⟩:=vary_step (s:=t1) (b:=c1) (by omega) hk
 obtain ⟨v3,t3,c3,e3,z3,h3⟩:=vary_step (s:=t2) (b:=c2) (by omega) hk
 unfold vec_Get.f
 simp only [e0,e1,e2,e3,Option.bind_some,vright_f]
 cases c3 with
 | true=>rw [if_pos rfl];exact ⟨_,_,_,_,_,_,rfl,Nat.zero_le _,fun h=>absurd h (by simp)⟩
 | false =>
  rw [if_neg (by simp)]
  obtain ⟨rfl,n3,l3,rfl,g3⟩:=h3 rfl
  obtain ⟨rfl,n2,l2,rfl,g2⟩:=h2 rfl
  obtain ⟨rfl,n1,l1,rfl,g1⟩:=h1 rfl
  obtain ⟨rfl,n0,l0,rfl,g0⟩:=h0 rfl
  by_cases hr:((n0:Int)≤1152921504606846976∧(n1:Int)≤1152921504606846976∧(n2:Int)≤1152921504606846976∧(n3:Int)≤1152921504606846976)
  ·rw [if_pos (decide_eq_true hr)]
   refine ⟨_,_,_,_,_,_,rfl,by omega,fun _=>⟨rfl,n0,n1,n2,n3,by omega,rfl,rfl,rfl,rfl,?_⟩⟩
   rw [g0,g1,g2,g3]
  ·rw [if_neg (by simpa using hr)]
   exact ⟨_,_,_,_,_,_,rfl,Nat.zero_le _,fun h=>absurd h (by simp)⟩
def rv (n0 n1 n2 n3:Nat):List Nat:=vary n0++(vary n1++(vary n2++vary n3))
def vv (a b c d:Nat):ByteArray:=vs a++vs b++vs c++vs d
theorem bl_vv (a b c d:Nat):bl (vv a b c d)=rv a b c d:=by
 unfold vv rv
 simp only [bl_append,bl_vs,List.append_assoc]
theorem vv_size {a b c d:Nat} (ha:a<18446744073709551616) (hb:b<18446744073709551616) (hc:c<18446744073709551616) (hd:d<18446744073709551616):(vv a b c d).size≤40∧(vv a b c d).size ≠ 0:=by
 have h1:=vary_len_ten ha
 have h2:=vary_len_ten hb
 have h3:=vary_len_ten hc
 have h4:=vary_len_ten hd
 have p:=vary_pos a
 rw [← bl_length,bl_vv]
 unfold rv
 simp only [List.length_append]
 omega
theorem vget_good {s rest:ByteArray} {n0 n1 n2 n3:Nat} (hz:s.size≤9223372036854775807) (hs:bl s=rv n0 n1 n2 n3++bl rest)
  (hn:n0≤1152921504606846976∧n1≤1152921504606846976∧n2≤1152921504606846976∧n3≤1152921504606846976) {k:Nat} (hk:22≤k) :
  vec_Get.f k s false=some ((n0:Int),(n1:Int),(n2:Int),(n3:Int),rest,false):=by
 have sub:∀ l:List Nat,(∀ b ∈ l,b<256)→∃ t:ByteArray,bl t=l∧t.size=l.length:=fun l hl=>⟨strOfNums (NL l),bl_str l hl,by rw [← bl_length,bl_str l hl]⟩
 have lv:=fun n=>vary_lt n
 have lr:=bl_lt rest
 have mem:∀ {p q:List Nat},(∀ b ∈ p,b<256)→(∀ b ∈ q,b<256)→∀ b ∈ p++q,b<256:=fun hp hq b hb=>(List.mem_append.1 hb).elim (hp b) (hq b)
 obtain ⟨t3,b3,z3⟩:=sub (vary n3++bl rest) (mem (lv n3) lr)
 obtain ⟨t2,b2,z2⟩:=sub (vary n2++(vary n3++bl rest)) (mem (lv n2) (mem (lv n3) lr))
 obtain ⟨t1,b1,z1⟩:=sub (vary n1++(vary n2++(vary n3++bl rest))) (mem (lv n1) (mem (lv n2) (mem (lv n3) lr)))
 have hl:s.size=(vary n0).length+((vary n1).length+((vary n2).length+((vary n3).length+(bl rest).length))):=by
  rw [← bl_length,hs];unfold rv
  simp only [List.length_append];omega
 simp only [List.length_append] at z1 z2 z3
 have e3:pack_Reader_Vary.f k s false=some ((n0:Int),t1,false):=ReaderVary_good (by omega) (by omega) (by rw [hs,b1];unfold rv;simp) hk
 have e4:pack_Reader_Vary.f k t1 false=some ((n1:Int),t2,false):=ReaderVary_good (by omega) (by omega) (by rw [b1,b2]) hk
 have e5:pack_Reader_Vary.f k t2 false=some ((n2:Int),t3,false):=ReaderVary_good (by omega) (by omega) (by rw [b2,b3]) hk
 have e6:pack_Reader_Vary.f k t3 false=some ((n3:Int),rest,false):=ReaderVary_good (by omega) (by omega) (by rw [b3]) hk
 unfold vec_Get.f
 simp only [e3,e4,e5,e6,Option.bind_some,vright_f]
 rw [if_neg (by simp),if_pos (decide_eq_true (by omega))]
theorem pow_small {n:Nat} (h:n≤9223372036854775807):n<18446744073709551616:=by omega
theorem Text_f {s:ByteArray} (h:s.size+10≤9223372036854775807) {k:Nat} (hk:11≤k):pack_Text.f k s=some (vs s.size++s):=by
 unfold pack_Text.f
 have h10:=vary_len_ten (pow_small (show s.size≤9223372036854775807 by omega))
 rw [if_pos (by omega),Vary_f (by omega) hk]
 simp only [Option.bind_some]
 rw [if_pos (by rw [vs_size];omega)]
inductive TextRes (s:ByteArray) (most:Int):ByteArray × ByteArray × Bool→Prop
 | good (t rest:ByteArray) (hs:bl s=vary t.size++bl t++bl rest) (hm:(t.size:Int)≤most):TextRes s most (t,rest,false)
 | bad (h:∀ t rest:ByteArray,(t.size:Int)≤most→bl s ≠ vary t.size++bl t++bl rest):TextRes s most (⟨#[]⟩,⟨#[]⟩,true)
theorem vary_text_inj {t u r q:ByteArray} (hz:t.size≤9223372036854775807) (h:vary t.size++bl t++bl r=vary u.size++bl u++bl q):t=u∧r=q:=by
 rw [List.append_assoc,List.append_assoc] at h
 obtain ⟨e,h⟩:=vary_prefix _ _ _ _ h
 have hl:(bl t).length=(bl u).length:=by rw [bl_length,bl_length,e]
 obtain ⟨e1,e2⟩:=List.append_inj h hl
 exact ⟨bl_inj e1,bl_inj e2⟩
theorem TextRes.unique {s:ByteArray} {most:Int} {a b:ByteArray × ByteArray × Bool} (hz:s.size≤9223372036854775807) (ha:TextRes s most a) (hb:TextRes s most b):a=b:=by
 cases ha with
 | good t r hs hm =>
  have hl:t.size≤9223372036854775807:=by
   have:=congrArg List.length hs
   rw [bl_length,List.length_append,List.length_append,bl_length] at this
   omega
  cases hb with
  | good u q ht hm' =>
   obtain ⟨rfl,rfl⟩:=vary_text_inj hl (hs.symm.trans ht)
   rfl
  | bad h=>exact absurd hs (h t r hm)
 | bad h =>
  cases hb with
  | good u q ht hm'=>exact absurd ht (h u q hm')
  | bad h=>rfl
theorem mn_cases (a b:Int):mn a b≤a∧mn a b≤b∧(mn a b=a∨mn a b=b):=by unfold mn;split <;> omega
theorem ReaderText_f (s:ByteArray) (most:Int) (hz:s.size≤9223372036854775807) {k:Nat} (hk:22≤k):∃ r,pack_Reader_Text.f k s false most=some r∧TextRes s most r:=by
 unfold pack_Reader_Text.f
 obtain ⟨r,h1,h2,_⟩:=ReaderVary_f s false hz hk
 rw [h1]
 simp only [Option.bind_some]
 cases h2 rfl with
 | bad h =>
  refine ⟨(⟨#[]⟩,⟨#[]⟩,true),rfl,.bad fun t rest hm hs=>?_⟩
  have hl:t.size≤9223372036854775807:=by
   have:=congrArg List.length hs
   rw [bl_length,List.length_append,List.length_append,bl_length] at this
   omega
  rw [List.append_assoc] at hs
  exact h t.size (by omega) _ hs
 | good n rest hn hs =>
  have hrs:rest.size≤s.size:=by rw [← bl_length,← bl_length,hs];simp
  rw [if_neg (by simp)]
  dsimp only
  have none:(∀ u q:ByteArray,(u.size:Int)≤most→bl s=vary u.size++bl u++bl q→(n:Int)≤most∧n≤rest.size):=by
   intro u q hm ht
   rw [List.append_assoc] at ht
   obtain ⟨e,e2⟩:=vary_prefix _ _ _ _ (hs.symm.trans ht)
   have:=congrArg List.length e2
   rw [List.length_append,bl_length,bl_length] at this
   omega
  by_cases c1:most<0
  ·rw [if_pos c1]
   exact ⟨_,rfl,.bad fun u q hm ht=>by omega⟩
  ·rw [if_neg c1]
   obtain ⟨m1,m2,m3⟩:=mn_cases most (rest.size:Int)
   have hw:IntKind.u64.wrap (mn most (rest.size:Int))=mn most (rest.size:Int):=wrap_u64 (by omega) (by omega)
   rw [hw]
   clear hw
   generalize mn most (rest.size:Int)=M at *
   by_cases c2:(n:Int) > M
   ·rw [if_pos c2]
    refine ⟨_,rfl,.bad fun u q hm ht=>?_⟩
    have:=none u q hm ht
    omega
   ·rw [if_neg c2,if_pos (by omega),if_pos (by omega)]
    refine ⟨_,rfl,.good _ _ ?_ ?_⟩
    ·rw [show ((n:Int)).toNat=n by omega]
     have e:(rest.extract 0 n).size=n:=by simp;omega
     rw [e,hs,bl_take,bl_drop,List.append_assoc,List.take_append_drop]
    ·rw [show ((n:Int)).toNat=n by omega]
     have e:(rest.extract 0 n).size=n:=by simp;omega
     rw [e];omega
theorem ReaderText_true {s:ByteArray} {most:Int} (hz:s.size≤9223372036854775807) {k:Nat} (hk:22≤k):pack_Reader_Text.f k s true most=some (⟨#[]⟩,⟨#[]⟩,true):=by
 unfold pack_Reader_Text.f
 rw [ReaderVary_true hz hk]
 rfl
theorem ReaderText_good {s t rest:ByteArray} {most:Int} (hz:s.size≤9223372036854775807) (hs:bl s=vary t.size++bl t++bl rest) (hm:(t.size:Int)≤most) {k:Nat} (hk:22≤k) :
  pack_Reader_Text.f k s false most=some (t,rest,false):=by
 obtain ⟨r,h1,h2⟩:=ReaderText_f s most hz hk
 rw [h1,TextRes.unique hz h2 (.good t rest hs hm)]
def nb (n k:Nat):ByteArray:=strOfNums (NL (be k n))
theorem bl_nb (n k:Nat):bl (nb n k)=be k n:=bl_str _ (be_lt k n)
theorem nb_size (n k:Nat):(nb n k).size=k:=by rw [← bl_length,bl_nb,be_len]
theorem numL_be (n k:Nat):numL (n:Int) k=NL (be k n):=by
 unfold numL NL
 have h:be k n=(List.range k).map fun j=>n / 256 ^ (k - 1 - j) % 256:=by
  induction k with
  | zero=>rfl
  | succ k ih =>
   rw [List.range_succ_eq_map,List.map_cons,List.map_map]
   simp only [be]
   congr 1
   rw [ih]
   apply List.map_congr_left
   intro j hj
   have:=List.mem_range.1 hj
   simp only [Function.comp]
   rw [show k - 1 - j=k+1 - 1 - (j+1) by omega]
 rw [h,List.map_map]
 apply List.map_congr_left
 intro j hj
 simp only [Function.comp,Nat.pow_mul,Int.natCast_emod,Int.natCast_ediv]
 rfl
theorem Number_f (n:Nat) (k:Int) (h1:1≤k) (h8:k≤8):pack_Number.f (n:Int) k=some (nb n k.toNat):=by
 unfold pack_Number.f
 rw [if_neg (by omega),if_neg (by omega),numL_be];rfl
theorem Number_none (x:Int) (k:Int) (h:k<1∨8<k):pack_Number.f x k=some ⟨#[]⟩:=by
 unfold pack_Number.f
 by_cases h1:k<1
 ·rw [if_pos h1]
 ·rw [if_neg h1,if_pos (by omega)]
theorem rnum_bev (s:ByteArray) (k:Nat) (hk:k≤8) (hs:k≤s.size):rnum s k=((bev ((bl s).take k):Nat):Int):=by
 induction k with
 | zero=>rfl
 | succ k ih =>
  have ih:=ih (by omega) (by omega)
  obtain ⟨c,hc,hbt,hc256⟩:=bt_bl s k (by omega)
  have hlt:=bev_lt ((bl s).take k) (fun b hb=>bl_lt s b (List.mem_of_mem_take hb))
  have hll:((bl s).take k).length=k:=by rw [List.length_take,bl_length];omega
  rw [hll] at hlt
  have hp:256 ^ k≤256 ^ 7:=Nat.pow_le_pow_right (by omega) (by omega)
  simp only [rnum]
  rw [ih,hbt,List.take_add_one,hc]
  simp only [Option.toList]
  rw [bev_snoc]
  generalize bev ((bl s).take k)=v at *
  rw [wrap_u64 (by omega) (by omega),wrap_u64 (by omega) (by omega)]
  have e:(v:Int) * 256=((2 ^ 8 * v:Nat):Int):=by omega
  rw [e,u64_or_nat _ _ (by omega) (by omega)]
  rw [Nat.mul_comm v 256]
  congr 1
  exact (Nat.two_pow_add_eq_or_of_lt (i:=8) (by omega) v).symm
theorem ReaderNumber_good {s:ByteArray} {k:Int} (h1:1≤k) (h8:k≤8) (hs:k≤(s.size:Int)) (hz:s.size≤9223372036854775807) :
  pack_Reader_Number.f s false k=some (((bev ((bl s).take k.toNat):Nat):Int),s.extract k.toNat s.size,false):=by
 unfold pack_Reader_Number.f
 rw [if_pos hz,if_neg (by simp),if_neg (show ¬ k<1 by omega),if_neg (show ¬ 8<k by omega),if_neg (show ¬ (s.size:Int)<k by omega),rnum_bev s k.toNat (by omega) (by omega)]
theorem ReaderNumber_bad {s:ByteArray} {b:Bool} {k:Int} (h:b=true∨k<1∨8<k∨(s.size:Int)<k) (hz:s.size≤9223372036854775807) :
  pack_Reader_Number.f s b k=some (0,⟨#[]⟩,true):=by
 unfold pack_Reader_Number.f
 rw [if_pos hz]
 cases b with
 | true=>rw [if_pos rfl]
 | false =>
  rw [if_neg (by simp)]
  by_cases c1:k<1
  ·rw [if_pos c1]
  ·rw [if_neg c1]
   by_cases c2:8<k
   ·rw [if_pos c2]
   ·rw [if_neg c2,if_pos (show (s.size:Int)<k by simp at h;omega)]
theorem Done_f (s:ByteArray) (b:Bool):pack_Reader_Done.f s b=some (!b && decide (s=⟨#[]⟩)):=by
 unfold pack_Reader_Done.f
 cases b with
 | true=>rfl
 | false =>
  rw [if_neg (by simp)]
  congr 1
  rw [Bool.eq_iff_iff,beq_iff_eq]
  simp only [Bool.not_false,Bool.true_and,decide_eq_true_eq]
  exact ⟨fun h=>toList_iff.1 (by rw [h,toList_data]),fun h=>by rw [h,toList_data]⟩
theorem sN_f (a b c d e:Int):stamp_Stamp_N.f a b c d e=some (own a b c d e):=rfl
theorem sright_true {a b c d e:Int} (h:okS a b c d e):stamp_Right.f a b c d e=some true:=by
 unfold stamp_Right.f
 rw [vright_f,Option.bind_some,if_pos (decide_eq_true h.1),sN_f,Option.bind_some,decide_eq_true h.2]
theorem sright_false {a b c d e:Int} (h:¬ okS a b c d e):stamp_Right.f a b c d e=some false:=by
 unfold stamp_Right.f
 rw [vright_f,Option.bind_some]
 by_cases c1:(a≤1152921504606846976∧b≤1152921504606846976∧c≤1152921504606846976∧d≤1152921504606846976)
 ·rw [if_pos (decide_eq_true c1),sN_f,Option.bind_some,decide_eq_false (fun c2=>h ⟨c1,c2⟩)]
 ·rw [if_neg (by simpa using c1)]
def sp (dc n0 n1 n2 n3:Nat):ByteArray:=nb dc 1++vv n0 n1 n2 n3
theorem bl_sp (dc n0 n1 n2 n3:Nat):bl (sp dc n0 n1 n2 n3)=be 1 dc++rv n0 n1 n2 n3:=by
 unfold sp
 rw [bl_append,bl_nb,bl_vv]
theorem sp_size {n0 n1 n2 n3:Nat} (dc:Nat) (h0:n0<18446744073709551616) (h1:n1<18446744073709551616) (h2:n2<18446744073709551616) (h3:n3<18446744073709551616):(sp dc n0 n1 n2 n3).size≤41∧(sp dc n0 n1 n2 n3).size ≠ 0:=by
 have:=vv_size h0 h1 h2 h3
 unfold sp
 rw [ByteArray.size_append,nb_size]
 omega
theorem sput_true {n0 n1 n2 n3 dc:Nat} (h:okS n0 n1 n2 n3 dc) {k:Nat} (hk:11≤k):stamp_Put.f k n0 n1 n2 n3 dc=some (sp dc n0 n1 n2 n3,true):=by
 have hd:=okS_dc h
 have hb:=h.1
 have z:=vv_size (a:=n0) (b:=n1) (c:=n2) (d:=n3) (by omega) (by omega) (by omega) (by omega)
 unfold stamp_Put.f
 rw [sright_true h,Option.bind_some,if_pos rfl,wrap_u64 (by omega) (by omega),Number_f dc 1 (by omega) (by omega),Option.bind_some,vput_f (by omega) (by omega) (by omega) (by omega) hk,Option.bind_some]
 show (if (nb dc 1).size+(vv n0 n1 n2 n3).size≤9223372036854775807 then _ else _)=_
 rw [if_pos (by rw [nb_size];omega)]
 rfl
theorem toList_nil {s:ByteArray}:s.toList=([]:List UInt8) ↔ s.size=0:=by
 rw [toList_data,← bl_length,List.length_eq_zero_iff]
 unfold bl
 rw [List.map_eq_nil_iff]
def okW (b k v:ByteArray) (g:Bool):Prop:=(1≤b.size∧b.size≤16)∧(1≤k.size∧k.size≤16)∧v.size≤32∧(g=true→v.size=0)
instance (b k v:ByteArray) (g:Bool):Decidable (okW b k v g):=by unfold okW;infer_instance
instance (a b c d e:Int):Decidable (okS a b c d e):=by unfold okS;infer_instance
theorem named_f (s:ByteArray):item_named.f s=some (decide (1≤s.size∧s.size≤16)):=by
 unfold item_named.f
 by_cases c:s.toList=([]:List UInt8)
 ·rw [if_pos c,decide_eq_false (by have:=toList_nil.1 c;omega)]
 ·rw [if_neg c]
  have h:s.size ≠ 0:=fun h=>c (toList_nil.2 h)
  congr 1
  rw [decide_eq_decide]
  omega
theorem iright_f (b k v:ByteArray) (g:Bool):item_Right.f b k v g=some (decide (okW b k v g)):=by
 unfold item_Right.f
 rw [named_f,Option.bind_some]
 by_cases c1:1≤b.size∧b.size≤16
 ·rw [if_pos (decide_eq_true c1),named_f,Option.bind_some]
  by_cases c2:1≤k.size∧k.size≤16
  ·rw [if_pos (decide_eq_true c2)]
   by_cases c3:v.size≤32
   ·rw [if_pos (by omega)]
    by_cases c4:v.toList=([]:List UInt8)
    ·rw [if_pos c4,decide_eq_true (p:=okW b k v g) ⟨c1,c2,c3,fun _=>toList_nil.1 c4⟩]
    ·rw [if_neg c4]
     cases g with
     | true=>rw [decide_eq_false (fun h:okW b k v true=>c4 (toList_nil.2 (h.2.2.2 rfl)))];rfl
     | false=>rw [decide_eq_true (p:=okW b k v false) ⟨c1,c2,c3,fun h=>by cases h⟩];rfl
   ·rw [if_neg (by omega),decide_eq_false (fun h:okW b k v g=>c3 h.2.2.1)]
  ·rw [if_neg (by simpa using c2),decide_eq_false (fun h:okW b k v g=>c2 h.2.1)]
 ·rw [if_neg (by simpa using c1),decide_eq_false (fun h:okW b k v g=>c1 h.1)]
def okw (x:Wr):Bool:=decide (okW x.f0 x.f1 x.f2 x.f3)
def at1 (x y:Wr):Bool:=decide (x.f0.data.toList=y.f0.data.toList∧x.f1.data.toList=y.f1.data.toList)
def wh (a b c d e:Int) (xs:List Wr):Bool:=decide (okS a b c d e) && decide (0<xs.length) && decide (xs.length≤8) && item_Whole.apart xs && xs.all okw
theorem sright_f (a b c d e:Int):stamp_Right.f a b c d e=some (decide (okS a b c d e)):=by
 by_cases h:okS a b c d e
 ·rw [sright_true h,decide_eq_true h]
 ·rw [sright_false h,decide_eq_false h]
theorem whole_f (a b c d e:Int) (xs:List Wr) (hx:∀ x ∈ xs,fits x) (hz:xs.length≤9223372036854775806):item_Whole.f a b c d e xs=some (wh a b c d e xs):=by
 unfold item_Whole.f wh
 rw [if_pos ⟨fun x h=>by have:=hx x h;exact ⟨by have:=this.1;omega,by have:=this.2.1;omega⟩,hz⟩,sright_f,Option.bind_some]
 congr 2
 have hr:∀ x:Wr,item_Whole.right x=okw x:=fun x=>by
  unfold item_Whole.right okw
  rw [iright_f]
  rfl
 rw [Bool.eq_iff_iff]
 simp [hr]
theorem ba_assoc (a b c:ByteArray):a++b++c=a++(b++c):=bl_inj (by simp only [bl_append,List.append_assoc])
def wb (x:Wr):ByteArray:=vs x.f0.size++x.f0++(vs x.f1.size++x.f1)++(if x.f3=true then (⟨#[1]⟩:ByteArray) else (⟨#[0]⟩:ByteArray)++(vs x.f2.size++x.f2))
def enc (o:ByteArray) (xs:List Wr):ByteArray:=xs.foldl (fun o x=>o++wb x) o
theorem n1:pack_Number.f 1 1=some (⟨#[1]⟩:ByteArray):=Number_f 1 1 (by omega) (by omega)
theorem n0:pack_Number.f 0 1=some (⟨#[0]⟩:ByteArray):=Number_f 0 1 (by omega) (by omega)
theorem z1:(⟨#[1]⟩:ByteArray).size=1:=rfl
theorem z0:(⟨#[0]⟩:ByteArray).size=1:=rfl
theorem okw_size {x:Wr} (h:okw x=true):x.f0.size≤16∧x.f1.size≤16∧x.f2.size≤32:=by
 have h:okW x.f0 x.f1 x.f2 x.f3:=of_decide_eq_true h
 exact ⟨h.1.2,h.2.1.2,h.2.2.1⟩
theorem wb_size {x:Wr} (h:okw x=true):(wb x).size≤100:=by
 have hs:=okw_size h
 have v0:=vary_len_ten (n:=x.f0.size) (by omega)
 have v1:=vary_len_ten (n:=x.f1.size) (by omega)
 have v2:=vary_len_ten (n:=x.f2.size) (by omega)
 unfold wb
 by_cases c:x.f3=true
 ·rw [if_pos c]
  simp only [ByteArray.size_append,vs_size,z1]
  omega
 ·rw [if_neg c]
  simp only [ByteArray.size_append,vs_size,z0]
  omega
theorem ibytes_l0 (xs:List Wr) (hok:∀ x ∈ xs,okw x=true) (hz:xs.length≤1000):∀ m i K (o:ByteArray),i+m=xs.length→o.size≤1000+100 * i→m+12≤K →
  item_Bytes.l0 K o xs (xs.length:Int) (i:Int)=some (enc o (xs.drop i),true):=by
 intro m
 induction m with
 | zero =>
  intro i K o hi ho hK
  obtain ⟨K,rfl⟩:∃ q,K=q+1:=⟨K - 1,by omega⟩
  rw [item_Bytes.l0,if_neg (by omega),List.drop_eq_nil_of_le (by omega)]
  rfl
 | succ m ih =>
  intro i K o hi ho hK
  obtain ⟨K,rfl⟩:∃ q,K=q+1:=⟨K - 1,by omega⟩
  have hlt:i<xs.length:=by omega
  have hx:=hok _ (List.getElem_mem hlt)
  have hs:=okw_size hx
  have hw:=wb_size hx
  have v0:=vary_len_ten (n:=xs[i].f0.size) (by omega)
  have v1:=vary_len_ten (n:=xs[i].f1.size) (by omega)
  have v2:=vary_len_ten (n:=xs[i].f2.size) (by omega)
  have e0:xs.drop i=xs[i] :: xs.drop (i+1):=List.drop_eq_getElem_cons hlt
  have t0:=Text_f (s:=xs[i].f0) (k:=K) (by omega) (by omega)
  have t1:=Text_f (s:=xs[i].f1) (k:=K) (by omega) (by omega)
  have t2:=Text_f (s:=xs[i].f2) (k:=K) (by omega) (by omega)
  have s0:(vs xs[i].f0.size++xs[i].f0).size≤26:=by rw [ByteArray.size_append,vs_size];omega
  have s1:(vs xs[i].f1.size++xs[i].f1).size≤26:=by rw [ByteArray.size_append,vs_size];omega
  have s2:(vs xs[i].f2.size++xs[i].f2).size≤42:=by rw [ByteArray.size_append,vs_size];omega
  have hnext:item_Bytes.l0 K (o++wb xs[i]) xs (xs.length:Int) (wrap64 ((i:Int)+1))=some (enc o (xs.drop i),true):=by
   rw [idx i (by omega),ih (i+1) K _ (by omega) (by rw [ByteArray.size_append];omega) (by omega),e0]
   rfl
  rw [item_Bytes.l0,if_pos (by omega),if_pos (by omega),if_pos (by omega),rdW xs i hlt,t0,Option.bind_some,t1,Option.bind_some,if_pos (by omega),if_pos (by rw [ByteArray.size_append];omega)]
  unfold wb at hnext
  by_cases c:xs[i].f3=true
  ·rw [if_pos c,n1,Option.bind_some,if_pos (by simp only [ByteArray.size_append,vs_size,z1];omega)]
   rw [if_pos c] at hnext
   rw [ba_assoc]
   exact hnext
  ·rw [if_neg c,n0,Option.bind_some,t2,Option.bind_some,if_pos (by rw [z0];omega),if_pos (by simp only [ByteArray.size_append,vs_size,z0];omega)]
   rw [if_neg c] at hnext
   rw [ba_assoc]
   exact hnext
theorem wh_true {a b c d e:Int} {xs:List Wr} (h:wh a b c d e xs=true):okS a b c d e∧0<xs.length∧xs.length≤8∧item_Whole.apart xs=true∧∀ x ∈ xs,okw x=true:=by
 unfold wh at h
 simp only [Bool.and_eq_true,decide_eq_true_eq,List.all_eq_true] at h
 exact ⟨h.1.1.1.1,h.1.1.1.2,h.1.1.2,h.1.2,h.2⟩
theorem ibytes_true {a b c g e:Nat} {xs:List Wr} (h:wh a b c g e xs=true) (hx:∀ x ∈ xs,fits x) {k:Nat} (hk:300≤k) :
  item_Bytes.f k a b c g e xs=some (enc (sp e a b c g++nb xs.length 1) xs,true):=by
 obtain ⟨hS,h0,h8,_,hok⟩:=wh_true h
 have hb:=hS.1
 have hsz:=(sp_size (n0:=a) (n1:=b) (n2:=c) (n3:=g) e (by omega) (by omega) (by omega) (by omega)).1
 have hn:=nb_size xs.length 1
 unfold item_Bytes.f
 rw [whole_f _ _ _ _ _ xs hx (by omega),Option.bind_some,if_pos h,sput_true hS (by omega),Option.bind_some,wrap_u64 (by omega) (by omega),Number_f xs.length 1 (by omega) (by omega),Option.bind_some]
 show (if (sp e a b c g).size+(nb xs.length 1).size≤9223372036854775807 then _ else _)=_
 rw [if_pos (by omega)]
 have:=ibytes_l0 xs hok (by omega) xs.length 0 k (sp e a b c g++nb xs.length 1) (by omega) (by rw [ByteArray.size_append];omega) (by omega)
 rw [List.drop_zero] at this
 exact this
def weq (x y:Wr):Bool:=(x.f0.toList == y.f0.toList) && ((x.f1.toList == y.f1.toList) && ((x.f2.toList == y.f2.toList) && (x.f3 == y.f3)))
def eqb:List Wr→List Wr→Bool
 | x :: xs,y :: ys=>weq x y && eqb xs ys
 | _,_=>true
theorem neq_eq (p q r s:Bool):((!p) || ((!q) || ((!r) || (!s))))=!(p && (q && (r && s))):=by cases p <;> cases q <;> cases r <;> cases s <;> rfl
theorem same_l0 (xs ys:List Wr) (hl:xs.length=ys.length) (hz:xs.length≤1000) (K:Nat):∀ m i,i+m=xs.length→item_Write_86.l0 (K+m+1) xs ys (xs.length:Int) (i:Int)=some (eqb (xs.drop i) (ys.drop i)):=by
 intro m
 induction m with
 | zero =>
  intro i hi
  rw [Nat.add_zero,item_Write_86.l0,if_neg (by omega),List.drop_eq_nil_of_le (by omega)]
  rfl
 | succ m ih =>
  intro i hi
  have h1:i<xs.length:=by omega
  have h2:i<ys.length:=by omega
  have e1:xs.drop i=xs[i] :: xs.drop (i+1):=List.drop_eq_getElem_cons h1
  have e2:ys.drop i=ys[i] :: ys.drop (i+1):=List.drop_eq_getElem_cons h2
  rw [show K+(m+1)+1=(K+m+1)+1 by omega,item_Write_86.l0,if_pos (by omega),if_pos (by omega),if_pos (by omega),if_pos (by omega),rdW xs i h1,rdW ys i h2,neq_eq,e1,e2]
  show (if (!weq xs[i] ys[i])=true then _ else _)=some (weq xs[i] ys[i] && _)
  cases weq xs[i] ys[i] with
  | true=>rw [if_neg (by simp),idx i (by omega),ih (i+1) (by omega)];rfl
  | false=>rw [if_pos (show (!false)=true from rfl)];rfl
def sameT (a b c d e:Int) (xs:List Wr) (a' b' c' d' e':Int) (ys:List Wr):Bool:=((a == a' && (b == b' && (c == c' && (d == d')))) && (e == e')) && decide (xs.length=ys.length) && eqb xs ys
theorem neq5 (p q r s t:Bool):(((!p) || ((!q) || ((!r) || (!s)))) || (!t))=!((p && (q && (r && s))) && t):=by cases p <;> cases q <;> cases r <;> cases s <;> cases t <;> rfl
theorem same_f (a b c d e:Int) (xs:List Wr) (a' b' c' d' e':Int) (ys:List Wr) (hz:xs.length≤1000) {k:Nat} (hk:xs.length+1≤k):item_Same.f k a b c d e xs a' b' c' d' e' ys=some (sameT a b c d e xs a' b' c' d' e' ys):=by
 unfold item_Same.f sameT
 cases ((a == a' && (b == b' && (c == c' && (d == d')))) && (e == e')) with
 | false=>rw [if_neg (by simp)];rfl
 | true =>
  rw [if_pos rfl,Bool.true_and]
  unfold item_Write_86.f
  by_cases hl:xs.length=ys.length
  ·obtain ⟨K,rfl⟩:∃ m,k=m+xs.length+1:=⟨k - xs.length - 1,by omega⟩
   have h:=same_l0 xs ys hl hz K xs.length 0 (by omega)
   rw [show ((0:Nat):Int)=0 from rfl,List.drop_zero,List.drop_zero] at h
   rw [if_pos (by omega),h,Option.bind_some,decide_eq_true hl,Bool.true_and]
  ·rw [if_neg (by omega),Option.bind_some,decide_eq_false hl];rfl
theorem apart_cons (x:Wr) (xs:List Wr):item_Whole.apart (x :: xs)=(xs.all (fun y=>!at1 x y) && item_Whole.apart xs):=rfl
theorem apart_snoc (w:Wr):∀ xs:List Wr,item_Whole.apart (xs++[w])=(item_Whole.apart xs && xs.all (fun y=>!at1 y w))
 | []=>rfl
 | x :: xs=>by
  rw [List.cons_append,apart_cons,apart_snoc w xs,apart_cons,List.all_append,List.all_cons,List.all_cons,List.all_nil,Bool.and_true]
  generalize (xs.all fun y=>!at1 x y)=A
  generalize (xs.all fun y=>!at1 y w)=B
  generalize item_Whole.apart xs=C
  generalize (!at1 x w)=D
  cases A <;> cases B <;> cases C <;> cases D <;> rfl
theorem same_at1 (w y:Wr) (h:at1 y w=true):same w y=true:=by
 unfold at1 at h
 unfold same
 have h:=of_decide_eq_true h
 have e0:y.f0=w.f0:=bl_inj (by unfold bl;rw [h.1])
 have e1:y.f1=w.f1:=bl_inj (by unfold bl;rw [h.2])
 rw [decide_eq_true e0,decide_eq_true e1]
 rfl
theorem apart_wrs:∀ l out,item_Whole.apart out=true→item_Whole.apart (wrs 8 true l out)=true
 | [],out,h=>h
 | p :: ps,out,h=>by
  unfold wrs
  split
  ·split
   ·exact apart_wrs ps out h
   ·rename_i c
    refine apart_wrs ps _ ?_
    rw [apart_snoc,h,Bool.true_and,List.all_eq_true]
    intro y hy
    cases e:at1 y (wrt p (true || p.f1)) with
    | false=>rfl
    | true =>
     exfalso
     apply c
     rw [Bool.true_and,List.any_eq_true]
     exact ⟨y,hy,same_at1 _ _ e⟩
  ·exact h
theorem wrt_okw (p:Pt):okw (wrt p true)=true:=by
 unfold wrt
 rw [if_pos rfl]
 have z:(⟨#[]⟩:ByteArray).size=0:=rfl
 by_cases c:224≤p.f2
 ·rw [if_pos c]
  refine decide_eq_true ⟨⟨?_,?_⟩,⟨?_,?_⟩,?_,fun _=>rfl⟩
  ·show 1≤(strOfNums _).size;rw [str_size];simp
  ·show (strOfNums _).size≤_;rw [str_size];simp
  ·show 1≤(strOfNums _).size;rw [str_size];simp
  ·show (strOfNums _).size≤_;rw [str_size];simp
  ·show (⟨#[]⟩:ByteArray).size≤_;omega
 ·rw [if_neg c]
  refine decide_eq_true ⟨⟨?_,?_⟩,⟨?_,?_⟩,?_,fun h=>absurd h (by simp)⟩
  ·show 1≤(strOfNums _).size;rw [str_size];simp
  ·show (strOfNums _).size≤_;rw [str_size];simp
  ·show 1≤(strOfNums _).size;rw [str_size];simp
  ·show (strOfNums _).size≤_;rw [str_size];simp
  ·show (ByteArray.extract _ _ _).size≤_;rw [ByteArray.size_extract];omega
theorem deal_own4 (v0 v1 v2 v3 d:Int) (h0:(Lit.int .u64 v0).wf=true) (h1:(Lit.int .u64 v1).wf=true) (h2:(Lit.int .u64 v2).wf=true) (o:Bool) (l:List Pt) (hl:∀ p ∈ l,fits p.f0) (hz:l.length≤4611686018427387904) {K:Nat} (hK:(l.length+1) * 15+10≤K) :
  ∃ (a b c g e:Nat) (xs:List Wr),L15_Deal_deal.f K v0 v1 v2 v3 d o l true=some ((a:Int),(b:Int),(c:Int),(g:Int),(e:Int),xs)∧wh a b c g e xs=true∧(∀ x ∈ xs,fits x)∧xs.length≤8∧a≤4∧b≤4∧c≤4∧g≤4:=by
 unfold L15_Deal_deal.f
 obtain ⟨n0,n1,n2,n3,dc,em,hn4,_,_,hS⟩:=mark_own (v3:=v3) (d:=d) h0 h1 h2 (k:=K) (by omega)
 have ew:=writes_f l 8 (by omega) true hl hz (K:=K) (by omega)
 have hln:=wrs_len 8 true l [] (by simp)
 have hap:=apart_wrs l [] rfl
 have hok:=wrs_all 8 true (fun x=>okw x=true) l [] (fun p _=>wrt_okw p) (by simp)
 rw [show ((8:Nat):Int)=8 from rfl] at ew
 rw [if_pos rfl,em,Option.bind_some,ew,Option.bind_some]
 by_cases c:((wrs 8 true l []).length:Int)=0
 ·rw [if_pos c]
  have z2:(⟨#[98,48]⟩:ByteArray).size=2:=rfl
  have z1:(⟨#[97]⟩:ByteArray).size=1:=rfl
  have z3:(⟨#[118]⟩:ByteArray).size=1:=rfl
  refine ⟨n0,n1,n2,n3,dc,_,rfl,?_,?_,by simp,hn4⟩
  ·unfold wh
   rw [decide_eq_true hS]
   have:okw (⟨(⟨#[98,48]⟩:ByteArray),(⟨#[97]⟩:ByteArray),(⟨#[118]⟩:ByteArray),false⟩:Wr)=true:=by
    refine decide_eq_true ⟨⟨?_,?_⟩,⟨?_,?_⟩,?_,fun h=>absurd h (by simp)⟩
    ·show 1≤(⟨#[98,48]⟩:ByteArray).size;omega
    ·show (⟨#[98,48]⟩:ByteArray).size≤_;omega
    ·show 1≤(⟨#[97]⟩:ByteArray).size;omega
    ·show (⟨#[97]⟩:ByteArray).size≤_;omega
    ·show (⟨#[118]⟩:ByteArray).size≤_;omega
   rw [List.all_cons,this,List.all_nil]
   rfl
  ·intro x hx1
   rw [List.mem_singleton.1 hx1]
   exact ⟨show (⟨#[98,48]⟩:ByteArray).size≤_ by omega,show (⟨#[97]⟩:ByteArray).size≤_ by omega,show (⟨#[118]⟩:ByteArray).size≤_ by omega⟩
 ·rw [if_neg c]
  refine ⟨n0,n1,n2,n3,dc,_,rfl,?_,wrs_all 8 true fits l [] (fun p hp=>wrt_fits p _ (hl p hp)) (by simp),hln,hn4⟩
  unfold wh
  rw [decide_eq_true hS,decide_eq_true (by omega),decide_eq_true hln,hap,List.all_eq_true.2 hok]
  rfl
def WL (x:Wr):List Nat:=vary x.f0.size++(bl x.f0++(vary x.f1.size++(bl x.f1++(if x.f3=true then [1] else 0 :: (vary x.f2.size++bl x.f2)))))
theorem bl_wb (x:Wr):bl (wb x)=WL x:=by
 unfold wb WL
 by_cases c:x.f3=true
 ·rw [if_pos c,if_pos c]
  simp only [bl_append,bl_vs,List.append_assoc]
  rfl
 ·rw [if_neg c,if_neg c]
  simp only [bl_append,bl_vs,List.append_assoc]
  rfl
theorem bl_enc:∀ (xs:List Wr) (o:ByteArray),bl (enc o xs)=bl o++xs.flatMap WL
 | [],o=>by simp [enc]
 | x :: xs,o=>by
  show bl (enc (o++wb x) xs)=_
  rw [bl_enc xs,bl_append,bl_wb,List.flatMap_cons,List.append_assoc]
theorem gone_nil {x:Wr} (h:okw x=true) (c:x.f3=true):x.f2=⟨#[]⟩:=by
 have h:okW x.f0 x.f1 x.f2 x.f3:=of_decide_eq_true h
 have:=h.2.2.2 c
 exact bl_nil.1 (List.eq_nil_of_length_eq_zero (by rw [bl_length,this]))
def TL (a b c g e:Nat) (xs:List Wr):List Nat:=e :: (rv a b c g++(xs.length :: xs.flatMap WL))
theorem be_small {n:Nat} (h:n<256):be 1 n=[n]:=by simp [be];omega
theorem bl_txn {a b c g e:Nat} {xs:List Wr} (h:wh a b c g e xs=true):bl (enc (sp e a b c g++nb xs.length 1) xs)=TL a b c g e xs:=by
 obtain ⟨hS,h0,h8,_,hok⟩:=wh_true h
 have hd:=okS_dc hS
 unfold TL
 rw [bl_enc,bl_append,bl_sp,bl_nb,be_small (by omega),be_small (by omega)]
 simp only [List.append_assoc,List.singleton_append,List.cons_append,List.nil_append]
theorem WL_size {x:Wr} (h:okw x=true):(WL x).length≤100:=by
 rw [← bl_wb,bl_length]
 exact wb_size h
theorem WLs_size:∀ xs:List Wr,(∀ x ∈ xs,okw x=true)→(xs.flatMap WL).length≤100 * xs.length
 | [],_=>by simp
 | x :: xs,h=>by
  have:=WLs_size xs (fun y hy=>h y (by simp [hy]))
  have:=WL_size (h x (by simp))
  rw [List.flatMap_cons,List.length_append,List.length_cons]
  omega
theorem txn_size {a b c g e:Nat} {xs:List Wr} {s:ByteArray} (h:wh a b c g e xs=true) (hs:bl s=TL a b c g e xs):s.size≤100000∧1≤s.size:=by
 obtain ⟨hS,h0,h8,_,hok⟩:=wh_true h
 have hb:=hS.1
 have hv:=WLs_size xs hok
 have:=(vv_size (a:=a) (b:=b) (c:=c) (d:=g) (by omega) (by omega) (by omega) (by omega)).1
 rw [← bl_length,bl_vv] at this
 rw [← bl_length,hs]
 unfold TL
 simp only [List.length_cons,List.length_append]
 omega
end Go.Proofs.Ytoagfdpgnfinhaa.Pure

set_option linter.unusedVariables false
set_option linter.unusedSimpArgs false
namespace Go.Proofs.Ytoagfdpgnfinhaa.Pure
open Go.RowKit Go.Proofs.Ytoagfdpgnfinhaa.Q Go.Proofs.YtoagfdpgnfinhaaW.PrintWords Go.Proofs.YtoagfdpgnfinhaaW.PrintLast Go.Proofs.YtoagfdpgnfinhaaW.PrintMore Go.Proofs.Ytoagfdpgnfinhaa.CrcN
theorem half_step (x:Nat) (hx:x<4294967296):Go.bits .xor .u32 ((x:Int) / 2) (Go.bits .and .u32 3988292384 ((-(Go.bits .and .u32 (x:Int) 1)) % 4294967296))=((half x:Nat):Int):=by
 have e1:Go.bits .and .u32 (x:Int) 1=((x % 2:Nat):Int):=by
  have:=u32_and_nat x 1 hx (by omega)
  rw [show ((1:Nat):Int)=1 from rfl] at this
  rw [this,Nat.and_one_is_mod]
 have e2:(x:Int) / 2=((x / 2:Nat):Int):=by omega
 rw [e1,e2]
 unfold half
 rcases Nat.mod_two_eq_zero_or_one x with h|h
 ·rw [h,if_neg (by omega)]
  have e3:Go.bits .and .u32 3988292384 ((-((0:Nat):Int)) % 4294967296)=((0:Nat):Int):=by
   have:=u32_and_nat 3988292384 0 (by omega) (by omega)
   simpa using this
  rw [e3,u32_xor_nat _ _ (by omega) (by omega),Nat.xor_zero]
 ·rw [h,if_pos rfl]
  have e3:Go.bits .and .u32 3988292384 ((-((1:Nat):Int)) % 4294967296)=((poly:Nat):Int):=by
   have:=u32_and_nat 3988292384 4294967295 (by omega) (by omega)
   have e4:(-((1:Nat):Int)) % 4294967296=((4294967295:Nat):Int):=by decide
   rw [e4]
   rw [show (3988292384:Int)=((3988292384:Nat):Int) from rfl,this]
   decide
  rw [e3,u32_xor_nat _ _ (by omega) (by decide)]
theorem next_loop (d:Nat):∀ (k x i:Nat),i+d=8→d<k→x<4294967296→crc_next.l0 k (x:Int) (i:Int)=some ((hn d x:Nat):Int):=by
 induction d with
 | zero =>
  intro k x i hi hk hx
  obtain ⟨k,rfl⟩:∃ m,k=m+1:=⟨k - 1,by omega⟩
  simp only [crc_next.l0]
  rw [if_neg (by omega)];rfl
 | succ d ih =>
  intro k x i hi hk hx
  obtain ⟨k,rfl⟩:∃ m,k=m+1:=⟨k - 1,by omega⟩
  simp only [crc_next.l0]
  rw [if_pos (by omega),half_step x hx]
  have e:wrap64 ((i:Int)+1)=((i+1:Nat):Int):=by rw [wrap64_id (by omega) (by omega)];omega
  rw [e,ih k (half x) (i+1) (by omega) (by omega) (half_lt hx)]
  rfl
theorem next_f {c b k:Nat} (hc:c<4294967296) (hb:b<256) (hk:9≤k):crc_next.f k (c:Int) (b:Int)=some ((next c b:Nat):Int):=by
 unfold crc_next.f
 rw [show ((b:Int) % 4294967296)=(b:Int) by omega,u32_xor_nat _ _ hc (by omega)]
 exact next_loop 8 k _ 0 (by omega) (by omega) (Nat.xor_lt_two_pow (n:=32) hc (by omega))
theorem byt_take {l:List Nat} (h:Byt l) (n:Nat):Byt (l.take n):=fun b hb=>h b (List.mem_of_mem_take hb)
theorem byt_bl (s:ByteArray):Byt (bl s):=bl_lt s
theorem fold_f (s:ByteArray) {k:Nat} (hk:9≤k):∀ n,n≤s.size→crc_Sum.fold k s n=some ((CrcN.fold F ((bl s).take n):Nat):Int)
 | 0,_=>by simp [crc_Sum.fold,CrcN.fold,F]
 | n+1,h=>by
  simp only [crc_Sum.fold]
  rw [fold_f s hk n (by omega)]
  obtain ⟨c,hc,hbt,hc256⟩:=bt_bl s n (by omega)
  rw [Option.bind_some,hbt,next_f (fold_lt _ (by decide) (byt_take (byt_bl s) n)) hc256 hk,List.take_add_one,hc]
  simp only [Option.toList]
  rw [CrcN.fold_append]
  rfl
theorem Sum_f {s:ByteArray} (h:s.size≤9223372036854775807) {k:Nat} (hk:9≤k):crc_Sum.f k s=some ((sum (bl s):Nat):Int):=by
 unfold crc_Sum.f
 rw [if_pos h,fold_f s hk _ (Nat.le_refl _),Option.bind_some]
 have e:(bl s).take s.size=bl s:=List.take_of_length_le (by rw [bl_length];omega)
 rw [e]
 have hl:=fold_lt (bl s) (show F<2 ^ 32 by decide) (byt_bl s)
 have:=u32_xor_nat 4294967295 _ (by omega) hl
 rw [show ((4294967295:Nat):Int)=4294967295 from rfl] at this
 rw [this]
 unfold sum
 rw [Nat.xor_comm];rfl
end Go.Proofs.Ytoagfdpgnfinhaa.Pure

set_option linter.unusedVariables false
set_option linter.unusedSimpArgs false
namespace Go.Proofs.Ytoagfdpgnfinhaa.Pure
open Go.RowKit Go.Proofs.Ytoagfdpgnfinhaa.Q Go.Proofs.YtoagfdpgnfinhaaW.PrintWords Go.Proofs.YtoagfdpgnfinhaaW.PrintLast Go.Proofs.YtoagfdpgnfinhaaW.PrintMore Go.Proofs.Ytoagfdpgnfinhaa.Plain Go.Proofs.Ytoagfdpgnfinhaa.CrcN
def okM (kind frm n a b c d e:Int) (xs:List Wr):Bool :=
 decide (1≤frm∧frm≤4) && (if kind=1 then (wh a b c d e xs && decide (n=own a b c d e)) else if kind=2 then (decide (n≤1152921504606846976) && sameT a b c d e xs 0 0 0 0 0 []) else false)
theorem stampN (a b c d e:Int):stamp_Stamp_N.f a b c d e=some (own a b c d e):=rfl
theorem mright_f (kind frm n a b c d e:Int) (xs:List Wr) (hx:∀ x ∈ xs,fits x) (hz:xs.length≤1000) {k:Nat} (hk:xs.length+2≤k):stream_Right.f k kind frm n a b c d e xs=some (okM kind frm n a b c d e xs):=by
 obtain ⟨k,rfl⟩:∃ m,k=m+1:=⟨k - 1,by omega⟩
 have J:∀ x:Bool,stream_Right.j0 (k+1) x kind frm n a b c d e xs=some (if x=true then false else (if kind=1 then (wh a b c d e xs && decide (n=own a b c d e)) else if kind=2 then (decide (n≤1152921504606846976) && sameT a b c d e xs 0 0 0 0 0 []) else false)):=by
  intro x
  rw [stream_Right.j0]
  by_cases h0:x=true
  ·rw [if_pos h0,if_pos h0]
  rw [if_neg h0,if_neg h0]
  by_cases h1:kind=1
  ·rw [if_pos h1,if_pos h1,whole_f _ _ _ _ _ xs hx (by omega),Option.bind_some]
   cases hw:wh a b c d e xs with
   | false=>rw [if_neg (by simp)];rfl
   | true =>
    rw [if_pos rfl,stampN,Option.bind_some,Bool.true_and]
    congr 1
  rw [if_neg h1,if_neg h1]
  by_cases h2:kind=2
  ·rw [if_pos h2,if_pos h2]
   by_cases h3:n≤1152921504606846976
   ·rw [if_pos h3,same_f a b c d e xs 0 0 0 0 0 [] hz (by omega),Option.bind_some,decide_eq_true h3,Bool.true_and]
   ·rw [if_neg h3,decide_eq_false h3,Bool.false_and]
  ·rw [if_neg h2,if_neg h2]
 unfold stream_Right.f okM
 by_cases f1:frm<1
 ·rw [if_pos f1,J,if_pos rfl,decide_eq_false (show ¬ (1≤frm∧frm≤4) by omega),Bool.false_and]
 rw [if_neg f1,J]
 by_cases f4:frm > 4
 ·rw [decide_eq_true f4,if_pos rfl,decide_eq_false (show ¬ (1≤frm∧frm≤4) by omega),Bool.false_and]
 ·rw [decide_eq_false f4,if_neg (by simp),decide_eq_true (show 1≤frm∧frm≤4 by omega),Bool.true_and]
theorem mput_no {kind frm n a b c d e:Int} {xs:List Wr} (hx:∀ x ∈ xs,fits x) (hz:xs.length≤1000) (h:okM kind frm n a b c d e xs=false) {k:Nat} (hk:xs.length+2≤k):stream_Put.f k kind frm n a b c d e xs=some (⟨#[]⟩,false):=by
 unfold stream_Put.f
 rw [mright_f kind frm n a b c d e xs hx hz hk,h,Option.bind_some,if_neg (by simp)]
def mq (kind frm n a b c d e:Nat) (xs:List Wr):ByteArray:=if kind=1 then ((nb kind 1++nb frm 1)++vs n)++(vs (enc (sp e a b c d++nb xs.length 1) xs).size++enc (sp e a b c d++nb xs.length 1) xs) else (nb kind 1++nb frm 1)++vs n
def sealq (q:ByteArray):ByteArray:=q++nb (sum (bl q)) 4
theorem okM_kind {kind frm n a b c d e:Nat} {xs:List Wr} (h:okM kind frm n a b c d e xs=true):(1≤frm∧frm≤4)∧((kind=1∧wh a b c d e xs=true∧(n:Int)=own a b c d e)∨(kind=2∧n≤1152921504606846976∧a=0∧b=0∧c=0∧d=0∧e=0∧xs=[])):=by
 unfold okM at h
 rw [Bool.and_eq_true,decide_eq_true_eq] at h
 obtain ⟨hf,hkind⟩:=h
 refine ⟨by omega,?_⟩
 by_cases c1:(kind:Int)=1
 ·rw [if_pos c1,Bool.and_eq_true,decide_eq_true_eq] at hkind
  exact Or.inl ⟨by omega,hkind.1,hkind.2⟩
 ·rw [if_neg c1] at hkind
  by_cases c2:(kind:Int)=2
  ·rw [if_pos c2,Bool.and_eq_true,decide_eq_true_eq] at hkind
   have hs:=hkind.2
   unfold sameT at hs
   simp only [Bool.and_eq_true,decide_eq_true_eq,List.length_nil,beq_iff_eq] at hs
   obtain ⟨⟨⟨⟨h0,h1,h2,h3⟩,h4⟩,hl⟩,_⟩:=hs
   exact Or.inr ⟨by omega,by omega,by omega,by omega,by omega,by omega,by omega,List.eq_nil_of_length_eq_zero hl⟩
  ·rw [if_neg c2] at hkind;simp at hkind
theorem pre_size {kind frm n:Nat} (hn:n<18446744073709551616):((nb kind 1++nb frm 1)++vs n).size≤12∧2≤((nb kind 1++nb frm 1)++vs n).size:=by
 have s1:=nb_size kind 1
 have s2:=nb_size frm 1
 have hv:(vs n).size≤10:=by rw [vs_size];exact vary_len_ten hn
 rw [ByteArray.size_append,ByteArray.size_append]
 omega
theorem own_u64 {n a b c d e:Nat} {xs:List Wr} (h:wh a b c d e xs=true) (hn:(n:Int)=own a b c d e):n≤1152921504606846976:=by
 have hS:=(wh_true h).1
 have hb:=hS.1
 unfold own at hn
 split at hn
 ·omega
 split at hn
 ·omega
 split at hn
 ·omega
 split at hn <;> omega
theorem mput_ok {kind frm n a b c d e:Nat} {xs:List Wr} (hx:∀ x ∈ xs,fits x) (hz:xs.length≤1000) (h:okM kind frm n a b c d e xs=true) {k:Nat} (hk:1300≤k) :
  stream_Put.f k kind frm n a b c d e xs=some (sealq (mq kind frm n a b c d e xs),true)∧2≤(mq kind frm n a b c d e xs).size∧(mq kind frm n a b c d e xs).size≤100100:=by
 have hr:=mright_f kind frm n a b c d e xs hx hz (k:=k) (by omega)
 obtain ⟨hf,hk2⟩:=okM_kind h
 have hn:n<18446744073709551616:=by
  rcases hk2 with ⟨_,hw,e1⟩|⟨_,h2,_⟩
  ·have:=own_u64 hw e1;omega
  ·omega
 have e1:IntKind.u64.wrap (kind:Int)=(kind:Int):=by simp only [IntKind.wrap_u64];omega
 have e2:IntKind.u64.wrap (frm:Int)=(frm:Int):=by simp only [IntKind.wrap_u64];omega
 have s1:=nb_size kind 1
 have s2:=nb_size frm 1
 have hv:(vs n).size≤10:=by rw [vs_size];exact vary_len_ten hn
 have hp:=pre_size (kind:=kind) (frm:=frm) hn
 unfold stream_Put.f mq
 rw [hr,h,Option.bind_some,if_pos rfl,e1,Number_f kind 1 (by omega) (by omega),Option.bind_some,e2,Number_f frm 1 (by omega) (by omega),Option.bind_some]
 simp only [show (1:Int).toNat=1 from rfl]
 have s3:(nb kind 1++nb frm 1).size=2:=by rw [ByteArray.size_append];omega
 rw [if_pos (by omega),Vary_f hn (by omega),Option.bind_some,if_pos (by omega)]
 generalize (nb kind 1++nb frm 1)++vs n=p at *
 have fin:∀ q:ByteArray,q.size≤1000000→((crc_Sum.f k q).bind fun t157=>((pack_Number.f (IntKind.u64.wrap t157) 4).bind fun t158=>(if q.size+t158.size≤9223372036854775807 then (some (q++t158,true)) else none)))=some (sealq q,true):=by
  intro q hq
  have hs:sum (bl q)<2 ^ 32:=sum_lt (bl_lt q)
  have ew:IntKind.u64.wrap ((sum (bl q):Nat):Int)=((sum (bl q):Nat):Int):=by simp only [IntKind.wrap_u64];omega
  rw [Sum_f (by omega) (by omega),Option.bind_some,ew,Number_f _ 4 (by omega) (by omega),Option.bind_some]
  have:=nb_size (sum (bl q)) 4
  show (if q.size+(nb (sum (bl q)) 4).size≤9223372036854775807 then _ else _)=some (q++nb (sum (bl q)) 4,true)
  rw [if_pos (by omega)]
  rfl
 rcases hk2 with ⟨rfl,hw,_⟩|⟨rfl,_,rfl,rfl,rfl,rfl,rfl,rfl⟩
 ·have ht:=txn_size hw (bl_txn hw)
  rw [ibytes_true hw hx (by omega),Option.bind_some,if_pos rfl,if_pos rfl]
  generalize enc (sp e a b c d++nb xs.length 1) xs=u at *
  have hv2:(vs u.size).size≤10:=by rw [vs_size];exact vary_len_ten (by omega)
  have s6:(vs u.size++u).size≤100010:=by rw [ByteArray.size_append];omega
  have s7:(p++(vs u.size++u)).size≤100100∧2≤(p++(vs u.size++u)).size:=by rw [ByteArray.size_append];omega
  refine ⟨?_,s7.2,s7.1⟩
  show (pack_Text.f k u).bind _=some (_,true)
  rw [Text_f (by omega) (by omega),Option.bind_some,if_pos (by omega)]
  exact fin _ (by omega)
 ·have hw:wh ((0:Nat):Int) ((0:Nat):Int) ((0:Nat):Int) ((0:Nat):Int) ((0:Nat):Int) ([]:List Wr)=false:=by
   unfold wh
   rw [decide_eq_false (show ¬ 0<([]:List Wr).length by simp)]
   simp
  have hb:item_Bytes.f k ((0:Nat):Int) ((0:Nat):Int) ((0:Nat):Int) ((0:Nat):Int) ((0:Nat):Int) ([]:List Wr)=some (⟨#[]⟩,false):=by
   unfold item_Bytes.f
   rw [whole_f _ _ _ _ _ [] hx (by simp),hw,Option.bind_some,if_neg (by simp)]
  rw [hb,Option.bind_some,if_neg (by simp),if_neg (by decide)]
  exact ⟨fin _ (by omega),by omega,by omega⟩
def mine (kind frm n a b c g e:Nat) (xs:List Wr):Prop :=
 1≤frm∧frm≤4∧n≤8∧(∀ x ∈ xs,fits x)∧xs.length≤8∧((kind=1∧wh a b c g e xs=true∧(n:Int)=own a b c g e)∨(kind=2∧a=0∧b=0∧c=0∧g=0∧e=0∧xs=[]))
theorem same_zero:sameT 0 0 0 0 0 [] 0 0 0 0 0 []=true:=by decide
theorem mine_ok {kind frm n a b c g e:Nat} {xs:List Wr} (hM:mine kind frm n a b c g e xs):okM kind frm n a b c g e xs=true:=by
 obtain ⟨f1,f4,hn,hf,h8,hcase⟩:=hM
 unfold okM
 rw [decide_eq_true (show 1≤(frm:Int)∧(frm:Int)≤4 by omega),Bool.true_and]
 rcases hcase with ⟨rfl,hw,hn⟩|⟨rfl,rfl,rfl,rfl,rfl,rfl,rfl⟩
 ·rw [if_pos (show ((1:Nat):Int)=1 from rfl),hw,decide_eq_true hn];rfl
 ·rw [if_neg (show ¬ ((2:Nat):Int)=1 by decide),if_pos (show ((2:Nat):Int)=2 from rfl),decide_eq_true (by omega)]
  exact same_zero
theorem own4 {a b c g:Nat} (e:Int) (h:a≤4∧b≤4∧c≤4∧g≤4):∃ n:Nat,own a b c g e=(n:Int)∧n≤4:=by
 unfold own
 split
 ·exact ⟨a,rfl,h.1⟩
 split
 ·exact ⟨b,rfl,h.2.1⟩
 split
 ·exact ⟨c,rfl,h.2.2.1⟩
 split
 ·exact ⟨g,rfl,h.2.2.2⟩
 ·exact ⟨0,rfl,by omega⟩
theorem letter_own (kd fr n0 v0 v1 v2 v3 d:Int) (hn:(Lit.int .u64 n0).wf=true) (h0:(Lit.int .u64 v0).wf=true) (h1:(Lit.int .u64 v1).wf=true) (h2:(Lit.int .u64 v2).wf=true) (o q:Bool) (l:List Pt) (hl:∀ p ∈ l,fits p.f0) (hz:l.length≤4611686018427387904) {K:Nat} (hK:(l.length+1) * 15+10≤K) :
  ∃ (kind frm n a b c g e:Nat) (xs:List Wr),L15_Letter_letter.f K kd fr n0 v0 v1 v2 v3 d o l q true=some ((kind:Int),(frm:Int),(n:Int),(a:Int),(b:Int),(c:Int),(g:Int),(e:Int),xs)∧mine kind frm n a b c g e xs:=by
 obtain ⟨a,b,c,g,e,xs,ed,hw,hf,h8,h4⟩:=deal_own4 v0 v1 v2 v3 d h0 h1 h2 o l hl hz hK
 obtain ⟨m,em,hm⟩:=own4 (e:Int) h4
 have hn:=u64_of hn
 unfold L15_Letter_letter.f
 have hk:0≤IntKind.u64.wrap kd:=by rw [IntKind.wrap_u64];omega
 have hg:0≤IntKind.u64.wrap fr:=by rw [IntKind.wrap_u64];omega
 rw [if_pos rfl,Int.tmod_eq_emod_of_nonneg hk,Int.tmod_eq_emod_of_nonneg hg,Int.tmod_eq_emod_of_nonneg hn.1]
 generalize IntKind.u64.wrap kd=u at hk ⊢
 generalize IntKind.u64.wrap fr=w at hg ⊢
 rw [wrap64_id (x:=u % 2) (by omega) (by omega),wrap64_id (x:=w % 4) (by omega) (by omega),wrap64_id (x:=1+u % 2) (by omega) (by omega),wrap64_id (x:=1+w % 4) (by omega) (by omega)]
 obtain ⟨f,ef,hf1,hf4⟩:∃ f:Nat,1+w % 4=(f:Int)∧1≤f∧f≤4:=⟨(1+w % 4).toNat,by omega,by omega,by omega⟩
 rw [ef]
 by_cases c1:1+u % 2=1
 ·rw [if_pos c1,ed,Option.bind_some,stampN,Option.bind_some,c1,em]
  exact ⟨1,f,m,a,b,c,g,e,xs,rfl,hf1,hf4,by omega,hf,h8,Or.inl ⟨rfl,hw,em.symm⟩⟩
 ·rw [if_neg c1,show 1+u % 2=2 by omega]
  obtain ⟨m9,e9,h9⟩:∃ m9:Nat,n0 % 9=(m9:Int)∧m9≤8:=⟨(n0 % 9).toNat,by omega,by omega⟩
  rw [e9]
  exact ⟨2,f,m9,0,0,0,0,0,[],rfl,hf1,hf4,h9,by simp,by simp,Or.inr ⟨rfl,rfl,rfl,rfl,rfl,rfl,rfl⟩⟩
end Go.Proofs.Ytoagfdpgnfinhaa.Pure

set_option linter.unusedVariables false
set_option linter.unusedSimpArgs false
namespace Go.Proofs.Ytoagfdpgnfinhaa.Pure
open Go.RowKit Go.Proofs.Ytoagfdpgnfinhaa.Q Go.Proofs.YtoagfdpgnfinhaaW.PrintWords Go.Proofs.YtoagfdpgnfinhaaW.PrintLast Go.Proofs.YtoagfdpgnfinhaaW.PrintMore Go.Proofs.Ytoagfdpgnfinhaa.Plain
abbrev Rw:=S117
def rw_ (x:Wr):Rw:=⟨x.f0,x.f1,x.f2,x.f3⟩
theorem rdR (l:List Rw) (j:Nat) (h:j<l.length):rd_T117 l (j:Int)=l[j]:=by
 unfold rd_T117
 rw [Int.toNat_natCast,List.getD_eq_getElem?_getD,List.getElem?_eq_getElem h]
 rfl
theorem refWrites_loop (l:List Wr) (hz:l.length<2513169434916) (K:Nat):∀ d i (out:List Rw),i+d=l.length→out.length=i→L15_refWrites.l0 (K+d+1) l out (i:Int)=some (out++(l.drop i).map rw_):=by
 intro d
 induction d with
 | zero =>
  intro i out hi ho
  have e:l.drop i=[]:=List.drop_eq_nil_of_le (by omega)
  rw [Nat.add_zero,L15_refWrites.l0,if_neg (by omega),e,List.map_nil,List.append_nil]
 | succ d ih =>
  intro i out hi ho
  have hlt:i<l.length:=by omega
  have e:l.drop i=l[i] :: l.drop (i+1):=List.drop_eq_getElem_cons hlt
  rw [show K+(d+1)+1=(K+d+1)+1 by omega,L15_refWrites.l0,if_pos (by omega),if_pos (by omega),if_pos (by omega),rdW l i hlt,idx i (by omega),ih (i+1) _ (by omega) (by simp;omega),e,List.map_cons,List.append_assoc]
  rfl
theorem refWrites_f (l:List Wr) (hz:l.length<2513169434916) {k:Nat} (hk:l.length+1≤k):L15_refWrites.f k l=some (l.map rw_):=by
 obtain ⟨K,rfl⟩:∃ m,k=m+l.length+1:=⟨k - l.length - 1,by omega⟩
 unfold L15_refWrites.f
 have:=refWrites_loop l hz K l.length 0 [] (by omega) rfl
 rw [show ((0:Nat):Int)=0 from rfl,List.drop_zero,List.nil_append] at this
 exact this
theorem refTxn_f (a b c d e:Int) (l:List Wr) (hz:l.length<2513169434916) {k:Nat} (hk:l.length+1≤k):L15_refTxn.f k a b c d e l=some (a,b,c,d,e,l.map rw_):=by
 unfold L15_refTxn.f
 rw [show L15_refStamp.f a b c d e=some (a,b,c,d,e) from rfl,Option.bind_some,refWrites_f l hz hk,Option.bind_some]
theorem rvary_tells (n:Nat):n<18446744073709551616→∀ (k:Nat) (acc:List Nat),(vary n).length<k→acc.length+(vary n).length≤140737488355328 →
  R02_Vary.l0 k (n:Int) (NL acc)=some (strOfNums (NL (acc++vary n))):=by
 induction n using Nat.strongRecOn with
 | _ n ih =>
  intro hn k acc hk hl
  obtain ⟨k,rfl⟩:∃ m,k=m+1:=⟨k - 1,by omega⟩
  simp only [R02_Vary.l0]
  have hlen:(NL acc).length=acc.length:=by simp [NL]
  by_cases h:n<128
  ·rw [vary_small h] at hl ⊢
   rw [if_neg (by omega),if_pos (by rw [hlen];simp at hl;omega)]
   rw [show (n:Int) % 256=(n:Int) by omega]
   simp [NL]
  ·rw [vary_big h] at hl hk ⊢
   simp only [List.length_cons] at hl hk
   rw [if_pos (by omega),if_pos (by rw [hlen];omega)]
   have e1:Int.tdiv (n:Int) 128=((n / 128:Nat):Int):=by rw [Int.tdiv_eq_ediv_of_nonneg (by omega)];omega
   have e2:Int.tmod (n:Int) 128=((n % 128:Nat):Int):=by rw [Int.tmod_eq_emod_of_nonneg (by omega)];omega
   rw [e1,e2,wrap_u64 (by omega) (by omega),wrap_u64 (by omega) (by omega)]
   have e3:NL acc++[(((n % 128:Nat):Int)+128) % 256]=NL (acc++[n % 128+128]):=by
    rw [show (((n % 128:Nat):Int)+128) % 256=((n % 128+128:Nat):Int) by omega];simp [NL]
   rw [e3,ih (n / 128) (by omega) (by omega) k _ (by omega) (by simp;omega)]
   simp
theorem RVary_f {n k:Nat} (h:n<18446744073709551616) (hk:11≤k):R02_Vary.f k (n:Int)=some (vs n):=by
 have h1:=vary_len_ten h
 have:=rvary_tells n h k [] (by omega) (by simp;omega)
 exact this
theorem RText_f {s:ByteArray} (h:s.size+10≤9223372036854775807) {k:Nat} (hk:11≤k):R02_Text.f k s=some (vs s.size++s):=by
 unfold R02_Text.f
 have h10:=vary_len_ten (pow_small (show s.size≤9223372036854775807 by omega))
 rw [if_pos (by omega),RVary_f (by omega) hk]
 simp only [Option.bind_some]
 rw [if_pos (by rw [vs_size];omega)]
theorem be_take (K:Nat) (n:Nat):∀ i,i<K→(be K n)[i]?=some (n / 256 ^ (K - 1 - i) % 256):=by
 induction K with
 | zero=>intro i hi;omega
 | succ K ih =>
  intro i hi
  simp only [be]
  cases i with
  | zero=>simp
  | succ i =>
   rw [List.getElem?_cons_succ,ih i (by omega),show K+1 - 1 - (i+1)=K - 1 - i by omega]
theorem rput_loop (n:Nat) (hn:n<18446744073709551616) (K:Nat) (h8:K≤8) (d:Nat):∀ (k i:Nat),i+d=K→d<k →
  R02_Number.l0 k (n:Int) (NL ((be K n).take i)) ((d:Int) - 1)=some (strOfNums (NL (be K n))):=by
 induction d with
 | zero =>
  intro k i hi hk
  obtain ⟨k,rfl⟩:∃ m,k=m+1:=⟨k - 1,by omega⟩
  simp only [R02_Number.l0]
  rw [if_neg (by omega),show i=K by omega,List.take_of_length_le (by rw [be_len];exact Nat.le_refl _)]
 | succ d ih =>
  intro k i hi hk
  obtain ⟨k,rfl⟩:∃ m,k=m+1:=⟨k - 1,by omega⟩
  simp only [R02_Number.l0]
  have e1:((d+1:Nat):Int) - 1=(d:Int):=by omega
  have hl:(NL ((be K n).take i)).length=i:=by unfold NL;rw [List.length_map,List.length_take,be_len];omega
  have e2:wrap64 (8 * (d:Int))=((8 * d:Nat):Int):=by rw [wrap64_id (by omega) (by omega)];omega
  have e3:wrap64 ((d:Int) - 1)=(d:Int) - 1:=wrap64_id (by omega) (by omega)
  have e4:shr .u64 (n:Int) ((8 * d:Nat):Int) % 256=((n / 256 ^ d % 256:Nat):Int):=by
   unfold shr
   rw [show (((8 * d:Nat):Int)).toNat=8 * d by omega,Nat.min_eq_left (by show 8 * d≤64;omega)]
   rw [Int.pow_mul]
   simp only [Int.natCast_emod,Int.natCast_ediv,Int.natCast_pow]
   rfl
  have e5:NL ((be K n).take i)++[((n / 256 ^ d % 256:Nat):Int)]=NL ((be K n).take (i+1)):=by
   rw [List.take_add_one,be_take K n i (by omega),show K - 1 - i=d by omega]
   simp [NL]
  rw [e1,if_pos (by omega),e2,if_pos (by omega),if_pos (by rw [hl];omega),e4,e5,e3]
  exact ih k (i+1) (by omega) (by omega)
theorem put_same {n:Nat} (hn:n<18446744073709551616) {K:Int} (hK:(Lit.int .i64 K).wf=true) {k:Nat} (hk:34≤k) :
  ∃ r,pack_Number.f (n:Int) K=some r∧R02_Number.f k (n:Int) K=some r:=by
 obtain ⟨k,rfl⟩:∃ m,k=m+1:=⟨k - 1,by omega⟩
 unfold R02_Number.f
 simp only [R02_Number.j0]
 by_cases c1:K<1
 ·rw [if_pos c1,if_pos trivial];exact ⟨_,Number_none _ _ (Or.inl c1),rfl⟩
 ·rw [if_neg c1]
  by_cases c2:K > 8
  ·rw [if_pos (decide_eq_true c2)];exact ⟨_,Number_none _ _ (Or.inr c2),rfl⟩
  ·rw [if_neg (by simp;omega)]
   refine ⟨_,Number_f n K (by omega) (by omega),?_⟩
   have:=rput_loop n hn K.toNat (by omega) K.toNat k 0 (by omega) (by omega)
   rw [show ((K.toNat:Nat):Int)=K by omega] at this
   rw [wrap64_id (by omega) (by omega)]
   exact this
theorem rput06_f {a b c d:Nat} (ha:a<18446744073709551616) (hb:b<18446744073709551616) (hc:c<18446744073709551616) (hd:d<18446744073709551616) {k:Nat} (hk:11≤k) :
  R06_Put.f k a b c d=some (vs a++vs b++vs c++vs d):=by
 have h1:=vary_len_ten ha
 have h2:=vary_len_ten hb
 have h3:=vary_len_ten hc
 have h4:=vary_len_ten hd
 unfold R06_Put.f
 rw [RVary_f ha hk,RVary_f hb hk,RVary_f hc hk,RVary_f hd hk]
 simp only [Option.bind_some]
 rw [if_pos (by rw [vs_size,vs_size];omega),if_pos (by rw [ByteArray.size_append,vs_size,vs_size,vs_size];omega),if_pos (by rw [ByteArray.size_append,ByteArray.size_append,vs_size,vs_size,vs_size,vs_size];omega)]
theorem rright06_f {a b c d:Int} {k:Nat} (hk:5≤k):R06_Right.f k a b c d=some (decide (a≤1152921504606846976∧b≤1152921504606846976∧c≤1152921504606846976∧d≤1152921504606846976)):=by
 obtain ⟨k,rfl⟩:∃ m,k=m+5:=⟨k - 5,by omega⟩
 unfold R06_Right.f
 have no:∀ {P:Prop} [Decidable P],¬ P→(some false:Option Bool)=some (decide P):=fun h=>by rw [decide_eq_false h]
 rw [R06_Right.l0,if_pos (by omega),if_pos rfl,show wrap64 (0+1)=1 from wrap64_id (by omega) (by omega)]
 by_cases ha:a > 1152921504606846976
 ·rw [if_pos ha];exact no (by omega)
 rw [if_neg ha,R06_Right.l0,if_pos (by omega),if_neg (by omega),if_pos rfl,show wrap64 (1+1)=2 from wrap64_id (by omega) (by omega)]
 by_cases hb:b > 1152921504606846976
 ·rw [if_pos hb];exact no (by omega)
 rw [if_neg hb,R06_Right.l0,if_pos (by omega),if_neg (by omega),if_neg (by omega),if_pos rfl,show wrap64 (2+1)=3 from wrap64_id (by omega) (by omega)]
 by_cases hc:c > 1152921504606846976
 ·rw [if_pos hc];exact no (by omega)
 rw [if_neg hc,R06_Right.l0,if_pos (by omega),if_neg (by omega),if_neg (by omega),if_neg (by omega),if_pos rfl,show wrap64 (3+1)=4 from wrap64_id (by omega) (by omega)]
 by_cases hd:d > 1152921504606846976
 ·rw [if_pos hd];exact no (by omega)
 rw [if_neg hd,R06_Right.l0,if_neg (by omega),decide_eq_true (by omega)]
theorem rN_f (a b c d e:Int):R07_Stamp_N.f a b c d e=some (own a b c d e):=rfl
theorem rsright_true {a b c d e:Int} (h:okS a b c d e) {k:Nat} (hk:5≤k):R07_Right.f k a b c d e=some true:=by
 unfold R07_Right.f
 rw [rright06_f hk,Option.bind_some,if_pos (decide_eq_true h.1),rN_f,Option.bind_some,decide_eq_true (show own a b c d e ≥ 1 from h.2)]
theorem rsright_false {a b c d e:Int} (h:¬ okS a b c d e) {k:Nat} (hk:5≤k):R07_Right.f k a b c d e=some false:=by
 unfold R07_Right.f
 rw [rright06_f hk,Option.bind_some]
 by_cases c1:(a≤1152921504606846976∧b≤1152921504606846976∧c≤1152921504606846976∧d≤1152921504606846976)
 ·rw [if_pos (decide_eq_true c1),rN_f,Option.bind_some,decide_eq_false (show ¬ own a b c d e ≥ 1 from fun c2=>h ⟨c1,c2⟩)]
 ·rw [if_neg (by simpa using c1)]
theorem sright_same (a b c d e:Int) {k:Nat} (hk:5≤k):∃ r,stamp_Right.f a b c d e=some r∧R07_Right.f k a b c d e=some r:=by
 by_cases h:okS a b c d e
 ·exact ⟨_,sright_true h,rsright_true h hk⟩
 ·exact ⟨_,sright_false h,rsright_false h hk⟩
theorem rsput_true {n0 n1 n2 n3 dc:Nat} (h:okS n0 n1 n2 n3 dc) {k:Nat} (hk:34≤k):R07_Put.f k n0 n1 n2 n3 dc=some (sp dc n0 n1 n2 n3,true):=by
 have hd:=okS_dc h
 have hb:=h.1
 have z:=vv_size (a:=n0) (b:=n1) (c:=n2) (d:=n3) (by omega) (by omega) (by omega) (by omega)
 obtain ⟨r,q1,q2⟩:=put_same (n:=dc) (K:=1) (by omega) (by decide) hk
 rw [Number_f dc 1 (by omega) (by omega)] at q1
 obtain rfl:=Option.some.inj q1
 unfold R07_Put.f
 rw [rsright_true h (by omega),Option.bind_some,if_pos rfl,wrap_u64 (by omega) (by omega),q2,Option.bind_some,rput06_f (by omega) (by omega) (by omega) (by omega) (by omega),Option.bind_some]
 show (if (nb dc 1).size+(vv n0 n1 n2 n3).size≤9223372036854775807 then _ else _)=_
 rw [if_pos (by rw [nb_size];omega)]
 rfl
theorem rright_f (b k v:ByteArray) (g:Bool):R08_Right.f b k v g=some (decide (okW b k v g)):=by
 unfold R08_Right.f
 by_cases c1:1≤b.size
 ·rw [if_pos (by omega)]
  by_cases c2:b.size≤16
  ·rw [if_pos (by omega)]
   by_cases c3:1≤k.size
   ·rw [if_pos (by omega)]
    by_cases c4:k.size≤16
    ·rw [if_pos (by omega)]
     by_cases c5:v.size≤32
     ·rw [if_pos (by omega)]
      cases g with
      | true =>
       rw [if_pos rfl]
       by_cases c6:v.toList=([]:List UInt8)
       ·rw [decide_eq_true (p:=okW b k v true) ⟨⟨c1,c2⟩,⟨c3,c4⟩,c5,fun _=>toList_nil.1 c6⟩,c6];rfl
       ·rw [decide_eq_false (fun h:okW b k v true=>c6 (toList_nil.2 (h.2.2.2 rfl)))]
        congr 1
        exact beq_eq_false_iff_ne.2 c6
      | false=>rw [if_neg (by simp),decide_eq_true (p:=okW b k v false) ⟨⟨c1,c2⟩,⟨c3,c4⟩,c5,fun h=>by cases h⟩]
     ·rw [if_neg (by omega),decide_eq_false (fun h:okW b k v g=>c5 h.2.2.1)]
    ·rw [if_neg (by omega),decide_eq_false (fun h:okW b k v g=>c4 h.2.1.2)]
   ·rw [if_neg (by omega),decide_eq_false (fun h:okW b k v g=>c3 h.2.1.1)]
  ·rw [if_neg (by omega),decide_eq_false (fun h:okW b k v g=>c2 h.1.2)]
 ·rw [if_neg (by omega),decide_eq_false (fun h:okW b k v g=>c1 h.1.1)]
theorem rsright_f (a b c d e:Int) {k:Nat} (hk:5≤k):R07_Right.f k a b c d e=some (decide (okS a b c d e)):=by
 by_cases h:okS a b c d e
 ·rw [rsright_true h hk,decide_eq_true h]
 ·rw [rsright_false h hk,decide_eq_false h]
def chk:List Wr→List Wr→Bool
 | _,[]=>true
 | pre,x :: xs=>okw x && (!pre.any fun y=>at1 y x) && chk (pre++[x]) xs
theorem chk_es (pre:List Wr) (x:Wr):∀ xs:List Wr,(xs.all fun z=>!(pre++[x]).any fun y=>at1 y z)=((xs.all fun z=>!pre.any fun y=>at1 y z) && xs.all fun z=>!at1 x z)
 | []=>rfl
 | z :: zs=>by
  have ih:=chk_es pre x zs
  have e1:(!(pre++[x]).any fun y=>at1 y z)=((!pre.any fun y=>at1 y z) && !at1 x z):=by rw [List.any_append,List.any_cons,List.any_nil,Bool.or_false,Bool.not_or]
  rw [List.all_cons,List.all_cons,List.all_cons,ih,e1]
  generalize (!pre.any fun y=>at1 y z)=A
  generalize (!at1 x z)=B
  generalize (zs.all fun z=>!pre.any fun y=>at1 y z)=C
  generalize (zs.all fun z=>!at1 x z)=D
  cases A <;> cases B <;> cases C <;> cases D <;> rfl
theorem chk_apart:∀ xs pre,chk pre xs=(xs.all okw && xs.all (fun x=>!pre.any fun y=>at1 y x) && item_Whole.apart xs)
 | [],pre=>rfl
 | x :: xs,pre=>by
  unfold chk
  rw [chk_apart xs (pre++[x])]
  have ea:item_Whole.apart (x :: xs)=(xs.all (fun y=>!at1 x y) && item_Whole.apart xs):=rfl
  rw [ea,List.all_cons,List.all_cons]
  rw [chk_es]
  cases okw x <;> cases (!pre.any fun y=>at1 y x) <;> cases xs.all okw <;> cases (xs.all fun z=>!pre.any fun y=>at1 y z) <;> cases (xs.all fun z=>!at1 x z) <;> simp
theorem at1_iff (x y:Wr):at1 x y=true ↔ (x.f0.toList=y.f0.toList∧x.f1.toList=y.f1.toList):=by
 unfold at1
 rw [decide_eq_true_eq,toList_data,toList_data,toList_data,toList_data]
theorem rdM (xs:List Wr) (j:Nat) (h:j<xs.length):rd_T117 (xs.map rw_) (j:Int)=rw_ xs[j]:=by
 rw [rdR _ j (by rw [List.length_map];exact h),List.getElem_map]
theorem rwhole_l1 (a b c d e:Int) (xs:List Wr) (hz:xs.length≤1000) (i:Nat) (hi:i<xs.length) (K:Nat):∀ m j,j+m=i →
  R08_Whole.l1 (K+m+1) (i:Int) (j:Int) a b c d e (xs.map rw_)=if ((xs.take i).drop j).any (fun y=>at1 y xs[i])=true then some false else R08_Whole.l0 K (wrap64 ((i:Int)+1)) a b c d e (xs.map rw_):=by
 have hlm:((xs.map rw_).length:Int)=(xs.length:Int):=by rw [List.length_map]
 intro m
 induction m with
 | zero =>
  intro j hj
  have e0:(xs.take i).drop j=[]:=List.drop_eq_nil_of_le (by rw [List.length_take];omega)
  rw [Nat.add_zero,R08_Whole.l1,if_neg (by omega),e0,List.any_nil,if_neg (by simp)]
 | succ m ih =>
  intro j hj
  have hjt:j<(xs.take i).length:=by rw [List.length_take];omega
  have e0:(xs.take i).drop j=xs[j] :: (xs.take i).drop (j+1):=by
   rw [List.drop_eq_getElem_cons hjt,List.getElem_take]
  rw [show K+(m+1)+1=(K+m+1)+1 by omega,R08_Whole.l1,if_pos (by omega),if_pos (by omega),if_pos (by omega),if_pos (by omega),if_pos (by omega),rdM xs j (by omega),rdM xs i hi,e0,List.any_cons,idx j (by omega)]
  by_cases c0:(rw_ xs[j]).f0.toList=(rw_ xs[i]).f0.toList
  ·rw [if_pos c0]
   by_cases c1:(rw_ xs[j]).f1.toList=(rw_ xs[i]).f1.toList
   ·rw [if_pos c1,(at1_iff _ _).2 ⟨c0,c1⟩,Bool.true_or,if_pos rfl]
   ·rw [if_neg c1,ih (j+1) (by omega)]
    have:at1 xs[j] xs[i]=false:=by
     rw [← Bool.not_eq_true,at1_iff]
     exact fun h=>c1 h.2
    rw [this,Bool.false_or]
  ·rw [if_neg c0,ih (j+1) (by omega)]
   have:at1 xs[j] xs[i]=false:=by
    rw [← Bool.not_eq_true,at1_iff]
    exact fun h=>c0 h.1
   rw [this,Bool.false_or]
theorem rwhole_l0 (a b c d e:Int) (xs:List Wr) (hz:xs.length≤8):∀ m i K,i+m=xs.length→(m+1) * 20≤K→R08_Whole.l0 K (i:Int) a b c d e (xs.map rw_)=some (chk (xs.take i) (xs.drop i)):=by
 have hlm:((xs.map rw_).length:Int)=(xs.length:Int):=by rw [List.length_map]
 intro m
 induction m with
 | zero =>
  intro i K hi hK
  obtain ⟨K,rfl⟩:∃ q,K=q+1:=⟨K - 1,by omega⟩
  have e0:xs.drop i=[]:=List.drop_eq_nil_of_le (by omega)
  rw [R08_Whole.l0,if_neg (by omega),e0]
  rfl
 | succ m ih =>
  intro i K hi hK
  have hlt:i<xs.length:=by omega
  have hK2:(m+1) * 20+20≤K:=Nat.le_trans (Nat.le_of_eq (by rw [Nat.add_mul (m+1) 1 20,Nat.one_mul])) hK
  obtain ⟨q,hq,hq2⟩:∃ q,K=(q+i+1)+1∧(m+1) * 20≤q:=by
   clear ih hlm hK
   generalize (m+1) * 20=M at *
   exact ⟨K - i - 2,by omega,by omega⟩
  have e0:xs.drop i=xs[i] :: xs.drop (i+1):=List.drop_eq_getElem_cons hlt
  rw [hq,R08_Whole.l0,if_pos (by omega),if_pos (by omega),rdM xs i hlt,e0]
  show (R08_Right.f xs[i].f0 xs[i].f1 xs[i].f2 xs[i].f3).bind _=_
  rw [rright_f,Option.bind_some]
  unfold chk
  have h1:=rwhole_l1 a b c d e xs (by omega) i hlt q i 0 (by omega)
  rw [show ((0:Nat):Int)=0 from rfl,List.drop_zero,idx i (by omega)] at h1
  have et:xs.take i++[xs[i]]=xs.take (i+1):=by
   rw [List.take_add_one,List.getElem?_eq_getElem hlt]
   rfl
  by_cases c1:okw xs[i]=true
  ·have c1':decide (okW xs[i].f0 xs[i].f1 xs[i].f2 xs[i].f3)=true:=c1
   rw [if_pos c1',h1,c1,Bool.true_and,et]
   by_cases c2:(xs.take i).any (fun y=>at1 y xs[i])=true
   ·rw [if_pos c2,c2];rfl
   ·rw [if_neg c2,ih (i+1) q (by omega) hq2]
    rw [Bool.not_eq_true] at c2
    rw [c2]
    rfl
  ·have c1':¬ decide (okW xs[i].f0 xs[i].f1 xs[i].f2 xs[i].f3)=true:=c1
   rw [if_neg c1']
   rw [Bool.not_eq_true] at c1
   rw [c1]
   rfl
theorem rwhole_f (a b c d e:Int) (xs:List Wr) {k:Nat} (hk:250≤k):R08_Whole.f k a b c d e (xs.map rw_)=some (wh a b c d e xs):=by
 have hlm:((xs.map rw_).length:Int)=(xs.length:Int):=by rw [List.length_map]
 obtain ⟨k,rfl⟩:∃ q,k=q+1:=⟨k - 1,by omega⟩
 unfold R08_Whole.f wh
 rw [rsright_f _ _ _ _ _ (by omega),Option.bind_some]
 by_cases c0:okS a b c d e
 ·rw [if_pos (decide_eq_true c0),decide_eq_true c0,Bool.true_and]
  by_cases c1:0<xs.length
  ·rw [if_neg (by omega),decide_eq_true c1,Bool.true_and,R08_Whole.j0]
   by_cases c2:xs.length≤8
   ·rw [if_neg (by simp;omega),decide_eq_true c2,Bool.true_and]
    have h:=rwhole_l0 a b c d e xs c2 xs.length 0 k (by omega) (by omega)
    rw [show ((0:Nat):Int)=0 from rfl,List.drop_zero,List.take_zero,chk_apart] at h
    rw [h]
    congr 1
    have:(xs.all fun x=>!([]:List Wr).any fun y=>at1 y x)=true:=by simp
    rw [this,Bool.and_true,Bool.and_comm]
   ·rw [if_pos (decide_eq_true (by omega)),decide_eq_false c2];rfl
  ·rw [if_pos (by omega),decide_eq_false c1,R08_Whole.j0,if_pos rfl];rfl
 ·rw [if_neg (by simpa using c0),decide_eq_false c0,R08_Whole.j0,if_pos rfl];rfl
theorem rbytes_l0 (a b c d e:Int) (xs:List Wr) (hok:∀ x ∈ xs,okw x=true) (hz:xs.length≤1000):∀ m i K (o:ByteArray),i+m=xs.length→o.size≤1000+100 * i→m+12≤K →
  R08_Bytes.l0 K o (i:Int) a b c d e (xs.map rw_)=some (enc o (xs.drop i),true):=by
 have hlm:((xs.map rw_).length:Int)=(xs.length:Int):=by rw [List.length_map]
 intro m
 induction m with
 | zero =>
  intro i K o hi ho hK
  obtain ⟨K,rfl⟩:∃ q,K=q+1:=⟨K - 1,by omega⟩
  rw [R08_Bytes.l0,if_neg (by omega),List.drop_eq_nil_of_le (by omega)]
  rfl
 | succ m ih =>
  intro i K o hi ho hK
  obtain ⟨K,rfl⟩:∃ q,K=q+1:=⟨K - 1,by omega⟩
  have hlt:i<xs.length:=by omega
  have hx:=hok _ (List.getElem_mem hlt)
  have hs:=okw_size hx
  have hw:=wb_size hx
  have v0:=vary_len_ten (n:=xs[i].f0.size) (by omega)
  have v1:=vary_len_ten (n:=xs[i].f1.size) (by omega)
  have v2:=vary_len_ten (n:=xs[i].f2.size) (by omega)
  have e0:xs.drop i=xs[i] :: xs.drop (i+1):=List.drop_eq_getElem_cons hlt
  have t0:R02_Text.f K (rw_ xs[i]).f0=some (vs xs[i].f0.size++xs[i].f0):=RText_f (s:=xs[i].f0) (k:=K) (by omega) (by omega)
  have t1:R02_Text.f K (rw_ xs[i]).f1=some (vs xs[i].f1.size++xs[i].f1):=RText_f (s:=xs[i].f1) (k:=K) (by omega) (by omega)
  have t2:R02_Text.f K (rw_ xs[i]).f2=some (vs xs[i].f2.size++xs[i].f2):=RText_f (s:=xs[i].f2) (k:=K) (by omega) (by omega)
  have s0:(vs xs[i].f0.size++xs[i].f0).size≤26:=by rw [ByteArray.size_append,vs_size];omega
  have s1:(vs xs[i].f1.size++xs[i].f1).size≤26:=by rw [ByteArray.size_append,vs_size];omega
  have s2:(vs xs[i].f2.size++xs[i].f2).size≤42:=by rw [ByteArray.size_append,vs_size];omega
  have hnext:R08_Bytes.l0 K (o++wb xs[i]) (wrap64 ((i:Int)+1)) a b c d e (xs.map rw_)=some (enc o (xs.drop i),true):=by
   rw [idx i (by omega),ih (i+1) K _ (by omega) (by rw [ByteArray.size_append];omega) (by omega),e0]
   rfl
  rw [R08_Bytes.l0,if_pos (by omega),if_pos (by omega),rdM xs i hlt,t0,Option.bind_some,if_pos (by omega),t1,Option.bind_some,if_pos (by rw [ByteArray.size_append];omega)]
  unfold wb at hnext
  by_cases c:xs[i].f3=true
  ·have c':(rw_ xs[i]).f3=true:=c
   rw [if_pos c',if_pos (by rw [ByteArray.size_append,ByteArray.size_append];omega)]
   rw [if_pos c] at hnext
   rw [ba_assoc o,ba_assoc o]
   exact hnext
  ·have c':¬ (rw_ xs[i]).f3=true:=c
   rw [if_neg c',if_pos (by rw [ByteArray.size_append,ByteArray.size_append];omega),t2,Option.bind_some,if_pos (by rw [ByteArray.size_append,ByteArray.size_append,ByteArray.size_append,z0];omega)]
   rw [if_neg c] at hnext
   rw [ba_assoc o,ba_assoc o,ba_assoc o,ba_assoc (vs xs[i].f0.size++xs[i].f0++(vs xs[i].f1.size++xs[i].f1))]
   exact hnext
theorem bytes_true {a b c g e:Nat} {xs:List Wr} (h:wh a b c g e xs=true) (hx:∀ x ∈ xs,fits x) {k:Nat} (hk:300≤k) :
  item_Bytes.f k a b c g e xs=some (enc (sp e a b c g++nb xs.length 1) xs,true)∧R08_Bytes.f k a b c g e (xs.map rw_)=some (enc (sp e a b c g++nb xs.length 1) xs,true):=by
 obtain ⟨hS,h0,h8,_,hok⟩:=wh_true h
 have hb:=hS.1
 have hsz:=(sp_size (n0:=a) (n1:=b) (n2:=c) (n3:=g) e (by omega) (by omega) (by omega) (by omega)).1
 have hn:=nb_size xs.length 1
 obtain ⟨r,q1,q2⟩:=put_same (n:=xs.length) (K:=1) (by omega) (by decide) (k:=k) (by omega)
 rw [Number_f xs.length 1 (by omega) (by omega)] at q1
 obtain rfl:=Option.some.inj q1
 constructor
 ·unfold item_Bytes.f
  rw [whole_f _ _ _ _ _ xs hx (by omega),Option.bind_some,if_pos h,sput_true hS (by omega),Option.bind_some,wrap_u64 (by omega) (by omega),Number_f xs.length 1 (by omega) (by omega),Option.bind_some]
  show (if (sp e a b c g).size+(nb xs.length 1).size≤9223372036854775807 then _ else _)=_
  rw [if_pos (by omega)]
  have:=ibytes_l0 xs hok (by omega) xs.length 0 k (sp e a b c g++nb xs.length 1) (by omega) (by rw [ByteArray.size_append];omega) (by omega)
  rw [List.drop_zero] at this
  exact this
 ·have hlm:((xs.map rw_).length:Int)=(xs.length:Int):=by rw [List.length_map]
  unfold R08_Bytes.f
  rw [rwhole_f _ _ _ _ _ xs (by omega),Option.bind_some,if_pos h,rsput_true hS (by omega),Option.bind_some,hlm,wrap_u64 (by omega) (by omega),q2,Option.bind_some]
  show (if (sp e a b c g).size+(nb xs.length 1).size≤9223372036854775807 then _ else _)=_
  rw [if_pos (by omega)]
  have:=rbytes_l0 a b c g e xs hok (by omega) xs.length 0 k (sp e a b c g++nb xs.length 1) (by omega) (by rw [ByteArray.size_append];omega) (by omega)
  rw [List.drop_zero] at this
  exact this
theorem bytes_false {a b c g e:Int} {xs:List Wr} (h:wh a b c g e xs=false) (hx:∀ x ∈ xs,fits x) (hz:xs.length≤1000) {k:Nat} (hk:300≤k) :
  item_Bytes.f k a b c g e xs=some (⟨#[]⟩,false)∧R08_Bytes.f k a b c g e (xs.map rw_)=some (⟨#[]⟩,false):=by
 constructor
 ·unfold item_Bytes.f
  rw [whole_f _ _ _ _ _ xs hx (by omega),Option.bind_some,h,if_neg (by simp)]
 ·unfold R08_Bytes.f
  rw [rwhole_f _ _ _ _ _ xs (by omega),Option.bind_some,h,if_neg (by simp)]
theorem rsame_l0 (a b c d e a' b' c' d' e':Int) (xs ys:List Wr) (hl:xs.length=ys.length) (hz:xs.length≤1000) (K:Nat):∀ m i,i+m=xs.length →
  R08_Same.l0 (K+m+1) (i:Int) a b c d e (xs.map rw_) a' b' c' d' e' (ys.map rw_)=some (eqb (xs.drop i) (ys.drop i)):=by
 have hm1:((xs.map rw_).length:Int)=(xs.length:Int):=by rw [List.length_map]
 have hm2:((ys.map rw_).length:Int)=(ys.length:Int):=by rw [List.length_map]
 intro m
 induction m with
 | zero =>
  intro i hi
  rw [Nat.add_zero,R08_Same.l0,if_neg (by omega),List.drop_eq_nil_of_le (by omega)]
  rfl
 | succ m ih =>
  intro i hi
  have h1:i<xs.length:=by omega
  have h2:i<ys.length:=by omega
  have e1:xs.drop i=xs[i] :: xs.drop (i+1):=List.drop_eq_getElem_cons h1
  have e2:ys.drop i=ys[i] :: ys.drop (i+1):=List.drop_eq_getElem_cons h2
  rw [show K+(m+1)+1=(K+m+1)+1 by omega,R08_Same.l0,if_pos (by omega),if_pos (by omega),if_pos (by omega),rdM xs i h1,rdM ys i h2,neq_eq,e1,e2]
  show (if (!weq xs[i] ys[i])=true then _ else _)=some (weq xs[i] ys[i] && _)
  cases weq xs[i] ys[i] with
  | true=>rw [if_neg (by simp),idx i (by omega),ih (i+1) (by omega)];rfl
  | false=>rw [if_pos (show (!false)=true from rfl)];rfl
theorem rsame_f (a b c d e:Int) (xs:List Wr) (a' b' c' d' e':Int) (ys:List Wr) (hz:xs.length≤1000) {k:Nat} (hk:xs.length+2≤k):R08_Same.f k a b c d e (xs.map rw_) a' b' c' d' e' (ys.map rw_)=some (sameT a b c d e xs a' b' c' d' e' ys):=by
 have hm1:((xs.map rw_).length:Int)=(xs.length:Int):=by rw [List.length_map]
 have hm2:((ys.map rw_).length:Int)=(ys.length:Int):=by rw [List.length_map]
 obtain ⟨K,rfl⟩:∃ m,k=(m+xs.length+1)+1:=⟨k - xs.length - 2,by omega⟩
 unfold R08_Same.f sameT
 rw [neq5]
 cases ((a == a' && (b == b' && (c == c' && (d == d')))) && (e == e')) with
 | false=>rw [if_pos (show (!false)=true from rfl),R08_Same.j0,if_pos rfl];rfl
 | true =>
  rw [if_neg (by simp),Bool.true_and,R08_Same.j0,hm1,hm2]
  by_cases hl:xs.length=ys.length
  ·have h:=rsame_l0 a b c d e a' b' c' d' e' xs ys hl hz K xs.length 0 (by omega)
   rw [show ((0:Nat):Int)=0 from rfl,List.drop_zero,List.drop_zero] at h
   have hb:((xs.length:Int) != (ys.length:Int))=false:=by rw [hl];exact bne_self_eq_false _
   rw [hb,if_neg (by simp),h,decide_eq_true hl,Bool.true_and]
  ·have hb:((xs.length:Int) != (ys.length:Int))=true:=bne_iff_ne.2 (by omega)
   rw [hb,if_pos rfl,decide_eq_false hl];rfl
end Go.Proofs.Ytoagfdpgnfinhaa.Pure

set_option linter.unusedVariables false
set_option linter.unusedSimpArgs false
namespace Go.Proofs.Ytoagfdpgnfinhaa.Pure
open Go.RowKit Go.Proofs.Ytoagfdpgnfinhaa.Q Go.Proofs.YtoagfdpgnfinhaaW.PrintWords Go.Proofs.YtoagfdpgnfinhaaW.PrintLast Go.Proofs.YtoagfdpgnfinhaaW.PrintMore Go.Proofs.Ytoagfdpgnfinhaa.CrcN
theorem step_loop (d:Nat):∀ (k x i:Nat),i+d=8→d<k→x<4294967296→R01_step.l0 k (x:Int) (i:Int)=some ((hn d x:Nat):Int):=by
 induction d with
 | zero =>
  intro k x i hi hk hx
  obtain ⟨k,rfl⟩:∃ m,k=m+1:=⟨k - 1,by omega⟩
  simp only [R01_step.l0]
  rw [if_neg (by omega)];rfl
 | succ d ih =>
  intro k x i hi hk hx
  obtain ⟨k,rfl⟩:∃ m,k=m+1:=⟨k - 1,by omega⟩
  simp only [R01_step.l0]
  have e:wrap64 ((i:Int)+1)=((i+1:Nat):Int):=by rw [wrap64_id (by omega) (by omega)];omega
  have e2:(x:Int) / 2=((x / 2:Nat):Int):=by omega
  have hm:Int.tmod (x:Int) 2=((x % 2:Nat):Int):=(Int.ofNat_tmod x 2).symm
  have e3:Go.bits .xor .u32 ((x / 2:Nat):Int) 3988292384=((x / 2 ^^^ poly:Nat):Int):=u32_xor_nat (x / 2) poly (by omega) (by decide)
  have hh:=ih k (half x) (i+1) (by omega) (by omega) (half_lt hx)
  rw [if_pos (by omega),e,e2,hm,e3]
  simp only [hn]
  unfold half at hh ⊢
  by_cases c:x % 2=1
  ·rw [if_pos (by omega)]
   rw [if_pos c] at hh ⊢
   exact hh
  ·rw [if_neg (by omega)]
   rw [if_neg c] at hh ⊢
   exact hh
theorem step_f {c b k:Nat} (hc:c<4294967296) (hb:b<256) (hk:9≤k):R01_step.f k (c:Int) (b:Int)=some ((next c b:Nat):Int):=by
 unfold R01_step.f
 rw [show ((b:Int) % 4294967296)=(b:Int) by omega,u32_xor_nat _ _ hc (by omega)]
 exact step_loop 8 k _ 0 (by omega) (by omega) (Nat.xor_lt_two_pow (n:=32) hc (by omega))
theorem refSum_loop (s:ByteArray) (hz:s.size≤4611686018427387904) (d:Nat):∀ (k i:Nat),i+d=s.size→d+10<k →
  R01_Sum.l0 k s ((CrcN.fold F ((bl s).take i):Nat):Int) (i:Int)=some ((sum (bl s):Nat):Int):=by
 induction d with
 | zero =>
  intro k i hi hk
  obtain ⟨k,rfl⟩:∃ m,k=m+1:=⟨k - 1,by omega⟩
  simp only [R01_Sum.l0]
  have e:(bl s).take i=bl s:=List.take_of_length_le (by rw [bl_length];omega)
  rw [if_neg (by omega),e]
  have hl:=fold_lt (bl s) (show F<2 ^ 32 by decide) (byt_bl s)
  have:=u32_xor_nat 4294967295 _ (by omega) hl
  rw [show ((4294967295:Nat):Int)=4294967295 from rfl] at this
  rw [this]
  unfold sum
  rw [Nat.xor_comm];rfl
 | succ d ih =>
  intro k i hi hk
  obtain ⟨k,rfl⟩:∃ m,k=m+1:=⟨k - 1,by omega⟩
  simp only [R01_Sum.l0]
  obtain ⟨c,hc,hbt,hc256⟩:=bt_bl s i (by omega)
  have e:wrap64 ((i:Int)+1)=((i+1:Nat):Int):=by rw [wrap64_id (by omega) (by omega)];omega
  rw [if_pos (by omega),if_pos (by omega),hbt,step_f (fold_lt _ (by decide) (byt_take (byt_bl s) i)) hc256 (by omega),Option.bind_some,e]
  have h2:=ih k (i+1) (by omega) (by omega)
  rw [List.take_add_one,hc] at h2
  simp only [Option.toList] at h2
  rw [CrcN.fold_append] at h2
  exact h2
theorem refSum_f {s:ByteArray} (h:s.size≤4611686018427387904) {k:Nat} (hk:s.size+10<k):R01_Sum.f k s=some ((sum (bl s):Nat):Int):=by
 unfold R01_Sum.f
 exact refSum_loop s h s.size k 0 (by omega) hk
end Go.Proofs.Ytoagfdpgnfinhaa.Pure

set_option linter.unusedVariables false
set_option linter.unusedSimpArgs false
namespace Go.Proofs.Ytoagfdpgnfinhaa.Pure
open Go.RowKit Go.Proofs.Ytoagfdpgnfinhaa.Q Go.Proofs.YtoagfdpgnfinhaaW.PrintWords Go.Proofs.YtoagfdpgnfinhaaW.PrintLast Go.Proofs.YtoagfdpgnfinhaaW.PrintMore Go.Proofs.Ytoagfdpgnfinhaa.Plain Go.Proofs.Ytoagfdpgnfinhaa.CrcN
theorem refMsg_f (kind frm n a b c d e:Int) (l:List Wr) (hz:l.length<2513169434916) {k:Nat} (hk:l.length+1≤k):L15_refMsg.f k kind frm n a b c d e l=some (kind,frm,n,a,b,c,d,e,l.map rw_):=by
 unfold L15_refMsg.f
 rw [refTxn_f a b c d e l hz hk,Option.bind_some]
theorem rmright_f (kind frm n a b c d e:Int) (xs:List Wr) {k:Nat} (hk:260≤k):R15_Right.f k kind frm n a b c d e (xs.map rw_)=some (okM kind frm n a b c d e xs):=by
 obtain ⟨k,rfl⟩:∃ m,k=m+1:=⟨k - 1,by omega⟩
 have J:∀ x:Bool,R15_Right.j0 (k+1) x kind frm n a b c d e (xs.map rw_)=some (if x=true then false else (if kind=1 then (wh a b c d e xs && decide (n=own a b c d e)) else if kind=2 then (decide (n≤1152921504606846976) && sameT a b c d e xs 0 0 0 0 0 []) else false)):=by
  intro x
  rw [R15_Right.j0]
  by_cases h0:x=true
  ·rw [if_pos h0,if_pos h0]
  rw [if_neg h0,if_neg h0]
  by_cases h1:kind=1
  ·rw [if_pos h1,if_pos h1,rwhole_f _ _ _ _ _ xs (by omega),Option.bind_some]
   cases hw:wh a b c d e xs with
   | false=>rw [if_neg (by simp)];rfl
   | true =>
    rw [if_pos rfl,rN_f,Option.bind_some,Bool.true_and]
    congr 1
  rw [if_neg h1,if_neg h1]
  by_cases h2:kind=2
  ·rw [if_pos h2,if_pos h2]
   by_cases h3:n≤1152921504606846976
   ·rw [if_pos h3,decide_eq_true h3,Bool.true_and]
    unfold sameT
    cases ((a == 0 && (b == 0 && (c == 0 && (d == 0)))) && (e == 0)) with
    | false=>rw [if_neg (by simp)];rfl
    | true =>
     rw [if_pos rfl,Bool.true_and,List.length_map]
     cases xs with
     | nil=>rfl
     | cons y ys=>simp;omega
   ·rw [if_neg h3,decide_eq_false h3,Bool.false_and]
  ·rw [if_neg h2,if_neg h2]
 unfold R15_Right.f okM
 by_cases f1:frm<1
 ·rw [if_pos f1,J,if_pos rfl,decide_eq_false (show ¬ (1≤frm∧frm≤4) by omega),Bool.false_and]
 rw [if_neg f1,J]
 by_cases f4:frm > 4
 ·rw [decide_eq_true f4,if_pos rfl,decide_eq_false (show ¬ (1≤frm∧frm≤4) by omega),Bool.false_and]
 ·rw [decide_eq_false f4,if_neg (by simp),decide_eq_true (show 1≤frm∧frm≤4 by omega),Bool.true_and]
theorem rnumb {n:Nat} {m:Nat} (hn:n<18446744073709551616) (h1:1≤m) (h8:m≤8) {k:Nat} (hk:34≤k):R02_Number.f k (n:Int) (m:Int)=some (nb n m):=by
 have hw:(Lit.int .i64 (m:Int)).wf=true:=by
  have:IntKind.i64.min≤(m:Int)∧(m:Int)≤IntKind.i64.max:=by
   have e1:IntKind.i64.min = -9223372036854775808:=rfl
   have e2:IntKind.i64.max=9223372036854775807:=rfl
   omega
  simpa only [Lit.wf,Bool.and_eq_true,decide_eq_true_eq] using this
 obtain ⟨r,q1,q2⟩:=put_same (n:=n) (K:=(m:Int)) hn hw (k:=k) hk
 rw [Number_f n (m:Int) (by omega) (by omega)] at q1
 rw [q2,← q1]
 rfl
theorem rmput_no {kind frm n a b c d e:Int} {xs:List Wr} (h:okM kind frm n a b c d e xs=false) {k:Nat} (hk:260≤k):R15_Put.f k kind frm n a b c d e (xs.map rw_)=some (⟨#[]⟩,false):=by
 unfold R15_Put.f
 rw [rmright_f kind frm n a b c d e xs hk,h,Option.bind_some,if_neg (by simp)]
theorem rmput_ok {kind frm n a b c d e:Nat} {xs:List Wr} (hx:∀ x ∈ xs,fits x) (hz:xs.length≤1000) (h:okM kind frm n a b c d e xs=true) {k:Nat} (hk:200000≤k) :
  R15_Put.f k kind frm n a b c d e (xs.map rw_)=some (sealq (mq kind frm n a b c d e xs),true):=by
 have hr:=rmright_f kind frm n a b c d e xs (k:=k) (by omega)
 obtain ⟨hf,hk2⟩:=okM_kind h
 have hn:n<18446744073709551616:=by
  rcases hk2 with ⟨_,hw,e1⟩|⟨_,h2,_⟩
  ·have:=own_u64 hw e1;omega
  ·omega
 have e1:IntKind.u64.wrap (kind:Int)=(kind:Int):=by simp only [IntKind.wrap_u64];omega
 have e2:IntKind.u64.wrap (frm:Int)=(frm:Int):=by simp only [IntKind.wrap_u64];omega
 have s1:=nb_size kind 1
 have s2:=nb_size frm 1
 have hv:(vs n).size≤10:=by rw [vs_size];exact vary_len_ten hn
 have hp:=pre_size (kind:=kind) (frm:=frm) hn
 have n1:=rnumb (n:=kind) (m:=1) (by omega) (by omega) (by omega) (k:=k) (by omega)
 have n2:=rnumb (n:=frm) (m:=1) (by omega) (by omega) (by omega) (k:=k) (by omega)
 rw [show ((1:Nat):Int)=1 from rfl] at n1 n2
 unfold R15_Put.f mq
 rw [hr,h,Option.bind_some,if_pos rfl,e1,n1,Option.bind_some,e2,n2,Option.bind_some]
 have s3:(nb kind 1++nb frm 1).size=2:=by rw [ByteArray.size_append];omega
 rw [if_pos (by omega),RVary_f hn (by omega),Option.bind_some,if_pos (by omega)]
 generalize (nb kind 1++nb frm 1)++vs n=p at *
 have fin:∀ q:ByteArray,q.size≤101000→((R01_Sum.f k q).bind fun t157=>((R02_Number.f k (IntKind.u64.wrap t157) 4).bind fun t158=>(if q.size+t158.size≤9223372036854775807 then (some (q++t158,true)) else none)))=some (sealq q,true):=by
  intro q hq
  have hs:sum (bl q)<2 ^ 32:=sum_lt (bl_lt q)
  have ew:IntKind.u64.wrap ((sum (bl q):Nat):Int)=((sum (bl q):Nat):Int):=by simp only [IntKind.wrap_u64];omega
  have n4:=rnumb (n:=sum (bl q)) (m:=4) (by omega) (by omega) (by omega) (k:=k) (by omega)
  rw [show ((4:Nat):Int)=4 from rfl] at n4
  rw [refSum_f (by omega) (by omega),Option.bind_some,ew,n4,Option.bind_some]
  have:=nb_size (sum (bl q)) 4
  rw [if_pos (by omega)]
  rfl
 rcases hk2 with ⟨rfl,hw,_⟩|⟨rfl,_,rfl,rfl,rfl,rfl,rfl,rfl⟩
 ·have ht:=txn_size hw (bl_txn hw)
  have hb:=(bytes_true hw hx (k:=k) (by omega)).2
  rw [if_pos (show ((1:Nat):Int)=1 from rfl),hb,Option.bind_some,if_pos rfl]
  generalize enc (sp e a b c d++nb xs.length 1) xs=u at *
  have hv2:(vs u.size).size≤10:=by rw [vs_size];exact vary_len_ten (by omega)
  have s6:(vs u.size++u).size≤100010:=by rw [ByteArray.size_append];omega
  have s7:(p++(vs u.size++u)).size≤100100:=by rw [ByteArray.size_append];omega
  show (R02_Text.f k u).bind _=some (_,true)
  rw [RText_f (by omega) (by omega),Option.bind_some,if_pos (by omega)]
  exact fin _ (by omega)
 ·rw [if_neg (show ¬ ((2:Nat):Int)=1 by decide),if_neg (by decide)]
  exact fin _ (by omega)
theorem mput_same {kind frm:Int} {n a b c d:Nat} {e:Int} {xs:List Wr} (hx:∀ x ∈ xs,fits x) (hz:xs.length≤1000) {k:Nat} (hk:200000≤k) :
  ∃ t o,stream_Put.f k kind frm n a b c d e xs=some (t,o)∧R15_Put.f k kind frm n a b c d e (xs.map rw_)=some (t,o):=by
 cases h:okM kind frm n a b c d e xs with
 | false=>exact ⟨_,_,mput_no hx hz h (by omega),rmput_no h (by omega)⟩
 | true =>
  have h':=h
  unfold okM at h'
  rw [Bool.and_eq_true,decide_eq_true_eq] at h'
  obtain ⟨f,ef⟩:∃ f:Nat,frm=(f:Int):=⟨frm.toNat,by omega⟩
  obtain ⟨⟨q,eq⟩,⟨g,eg⟩⟩:(∃ q:Nat,kind=(q:Int))∧(∃ g:Nat,e=(g:Int)):=by
   by_cases c1:kind=1
   ·rw [if_pos c1,Bool.and_eq_true] at h'
    have:=okS_dc (wh_true h'.2.1).1
    exact ⟨⟨1,c1⟩,⟨e.toNat,by omega⟩⟩
   ·by_cases c2:kind=2
    ·rw [if_neg c1,if_pos c2,Bool.and_eq_true] at h'
     have hs:=h'.2.2
     unfold sameT at hs
     simp only [Bool.and_eq_true,beq_iff_eq] at hs
     exact ⟨⟨2,c2⟩,⟨0,hs.1.1.2⟩⟩
    ·rw [if_neg c1,if_neg c2] at h';simp at h'
  subst ef
  subst eq
  subst eg
  exact ⟨_,_,(mput_ok hx hz h (by omega)).1,rmput_ok hx hz h hk⟩
end Go.Proofs.Ytoagfdpgnfinhaa.Pure
