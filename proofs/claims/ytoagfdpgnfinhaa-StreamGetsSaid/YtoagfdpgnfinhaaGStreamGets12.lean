import Derived.Test.YtoagfdpgnfinhaaGStreamGets11
import Derived.Test.YtoagfdpgnfinhaaGStreamGets4
import Derived.Test.YtoagfdpgnfinhaaGStreamGets9
import Derived.Test.YtoagfdpgnfinhaaGStreamGets10
import Derived.Test.YtoagfdpgnfinhaaGStreamGets0
set_option linter.unusedVariables false
set_option linter.unusedSimpArgs false
namespace Go.Proofs.Ytoagfdpgnfinhaa.Pure
open Go.RowKit Go.Proofs.Ytoagfdpgnfinhaa.Q Go.Proofs.YtoagfdpgnfinhaaW.PrintWords Go.Proofs.YtoagfdpgnfinhaaW.PrintLast Go.Proofs.YtoagfdpgnfinhaaW.PrintMore Go.Proofs.Ytoagfdpgnfinhaa.Plain
theorem one_byte (x:Nat):be 1 x=[x % 256]:=by simp [be]
theorem bev_one (x:Nat):bev [x]=x:=by simp [bev]
theorem sget_step {s:ByteArray} {b:Bool} (hz:s.size≤9223372036854775807) {k:Nat} (hk:22≤k) :
  ∃ v0 v1 v2 v3 v4 t c,stamp_Get.f k s b=some (v0,v1,v2,v3,v4,t,c)∧t.size≤s.size ∧
   (c=false→b=false∧∃ n0 n1 n2 n3 dc:Nat,dc<256∧bl s=dc :: (rv n0 n1 n2 n3++bl t)∧v0=n0∧v1=n1∧v2=n2∧v3=n3∧v4=dc) ∧
   (c=true→v0=0∧v1=0∧v2=0∧v3=0∧v4=0):=by
 by_cases h:b=true∨(s.size:Int)<1
 ·have e1:=ReaderNumber_bad (s:=s) (b:=b) (k:=1) (h.elim Or.inl (fun h=>Or.inr (Or.inr (Or.inr h)))) hz
  obtain ⟨v0,v1,v2,v3,t,c,e2,z2,h2⟩:=vget_step (s:=(⟨#[]⟩:ByteArray)) (b:=true) (by simp [ByteArray.size]) hk
  have hc:c=true:=by cases c with|true=>rfl|false=>exact absurd (h2 rfl).1 (by simp)
  subst hc
  unfold stamp_Get.f
  rw [e1,Option.bind_some]
  simp only [e2,Option.bind_some]
  rw [if_pos trivial]
  exact ⟨_,_,_,_,_,_,_,rfl,Nat.zero_le _,fun h=>absurd h (by simp),fun _=>⟨rfl,rfl,rfl,rfl,rfl⟩⟩
 ·have hb:b=false:=by cases b with|true=>exact absurd (Or.inl rfl) h|false=>rfl
  subst hb
  have hs:¬ (s.size:Int)<1:=fun c=>h (Or.inr c)
  clear h
  have e1:=ReaderNumber_good (s:=s) (k:=1) (by omega) (by omega) (by omega) hz
  have hd:bl (s.extract (1:Int).toNat s.size)=(bl s).drop 1:=bl_drop s 1
  have hzd:(s.extract (1:Int).toNat s.size).size≤s.size:=by simp
  obtain ⟨x,l,hl⟩:∃ x l,bl s=x :: l:=by
   cases hx:bl s with
   | nil=>exact absurd (by rw [← bl_length,hx];decide) hs
   | cons x l=>exact ⟨x,l,rfl⟩
  have lx:x<256:=bl_lt s x (by rw [hl];simp)
  have ex:((bev ((bl s).take (1:Int).toNat):Nat):Int)=(x:Int):=by
   rw [hl]
   show ((bev [x]:Nat):Int)=_
   rw [bev_one]
  rw [hl] at hd
  rw [ex] at e1
  generalize s.extract (1:Int).toNat s.size=u at *
  obtain ⟨v0,v1,v2,v3,t,c,e2,z2,h2⟩:=vget_step (s:=u) (b:=false) (by omega) hk
  unfold stamp_Get.f
  rw [e1,Option.bind_some]
  simp only [e2,Option.bind_some]
  cases c with
  | true=>rw [if_pos rfl];exact ⟨_,_,_,_,_,_,_,rfl,Nat.zero_le _,fun h=>absurd h (by simp),fun _=>⟨rfl,rfl,rfl,rfl,rfl⟩⟩
  | false =>
   obtain ⟨_,n0,n1,n2,n3,ln,rfl,rfl,rfl,rfl,hq⟩:=h2 rfl
   rw [if_neg (by simp)]
   by_cases r:okS n0 n1 n2 n3 (wrap64 (x:Int))
   ·rw [sright_true r,Option.bind_some,if_pos rfl]
    refine ⟨_,_,_,_,_,_,_,rfl,by omega,fun _=>⟨by first|rfl|trivial,n0,n1,n2,n3,x,lx,?_,rfl,rfl,rfl,rfl,wrap64_id (by omega) (by omega)⟩,fun h=>absurd h (by simp)⟩
    rw [hl]
    have hd:bl u=l:=hd
    rw [← hd,hq]
    unfold rv
    simp
   ·rw [sright_false r,Option.bind_some,if_neg (by simp)]
    exact ⟨_,_,_,_,_,_,_,rfl,Nat.zero_le _,fun h=>absurd h (by simp),fun _=>⟨rfl,rfl,rfl,rfl,rfl⟩⟩
theorem sget_good {s rest:ByteArray} {n0 n1 n2 n3 dc:Nat} (hz:s.size≤9223372036854775807) (hs:bl s=be 1 dc++rv n0 n1 n2 n3++bl rest) (r:okS n0 n1 n2 n3 dc) {k:Nat} (hk:22≤k) :
  stamp_Get.f k s false=some ((n0:Int),(n1:Int),(n2:Int),(n3:Int),(dc:Int),rest,false):=by
 have hdc:=okS_dc r
 have hb:=r.1
 rw [one_byte,List.append_assoc,List.singleton_append,Nat.mod_eq_of_lt (by omega)] at hs
 obtain ⟨l,hl'⟩:∃ l,l=rv n0 n1 n2 n3++bl rest:=⟨_,rfl⟩
 rw [← hl'] at hs
 have hl:s.size ≠ 0:=by rw [← bl_length,hs];simp
 have e1:=ReaderNumber_good (s:=s) (k:=1) (by omega) (by omega) (by omega) hz
 have hd:bl (s.extract (1:Int).toNat s.size)=l:=by
  rw [show (1:Int).toNat=1 from rfl,bl_drop,hs,List.drop_succ_cons,List.drop_zero]
 have hzd:(s.extract (1:Int).toNat s.size).size≤s.size:=by simp
 have ex:((bev ((bl s).take (1:Int).toNat):Nat):Int)=(dc:Int):=by
  rw [hs,show (1:Int).toNat=0+1 from rfl,List.take_succ_cons,List.take_zero,bev_one]
 rw [ex] at e1
 generalize s.extract (1:Int).toNat s.size=u at *
 have e2:=vget_good (s:=u) (rest:=rest) (by omega) (hd.trans hl') (by omega) hk
 unfold stamp_Get.f
 rw [e1,Option.bind_some]
 show (vec_Get.f k u false).bind _=_
 rw [e2,Option.bind_some]
 show (if false=true then _ else (stamp_Right.f (n0:Int) n1 n2 n3 (wrap64 (dc:Int))).bind _)=_
 rw [if_neg (by simp),wrap64_id (by omega) (by omega),sright_true r,Option.bind_some,if_pos rfl]
theorem text_step {s:ByteArray} {b:Bool} (hz:s.size≤9223372036854775807) (most:Int) (hm:0≤most) {k:Nat} (hk:22≤k) :
  ∃ t u c,pack_Reader_Text.f k s b most=some (t,u,c)∧u.size≤s.size∧(t.size:Int)≤most∧(c=false→b=false∧bl s=vary t.size++(bl t++bl u)):=by
 have z:(⟨#[]⟩:ByteArray).size=0:=rfl
 cases b with
 | true=>exact ⟨_,_,_,ReaderText_true hz hk,by omega,by omega,fun h=>absurd h (by simp)⟩
 | false =>
  obtain ⟨r,h1,h2⟩:=ReaderText_f s most hz hk
  cases h2 with
  | good t u hs ht =>
   refine ⟨_,_,_,h1,?_,ht,fun _=>⟨rfl,by rw [hs,List.append_assoc]⟩⟩
   have:=congrArg List.length hs
   simp only [List.length_append,bl_length] at this
   omega
  | bad h=>exact ⟨_,_,_,h1,by omega,by omega,fun h=>absurd h (by simp)⟩
theorem num_step {s:ByteArray} {b:Bool} (hz:s.size≤9223372036854775807) :
  ∃ (n:Nat) (u:ByteArray) (c:Bool),pack_Reader_Number.f s b 1=some ((n:Int),u,c)∧u.size≤s.size∧n<256∧((c=true∧n=0)∨(c=false∧b=false∧bl s=n :: bl u)):=by
 have z:(⟨#[]⟩:ByteArray).size=0:=rfl
 by_cases h:b=true∨(s.size:Int)<1
 ·exact ⟨0,_,_,ReaderNumber_bad (h.elim Or.inl (fun h=>Or.inr (Or.inr (Or.inr h)))) hz,by omega,by omega,Or.inl ⟨rfl,rfl⟩⟩
 ·have hb:b=false:=by cases b with|true=>exact absurd (Or.inl rfl) h|false=>rfl
  subst hb
  have hs:¬ (s.size:Int)<1:=fun c=>h (Or.inr c)
  have e1:=ReaderNumber_good (s:=s) (k:=1) (by omega) (by omega) (by omega) hz
  have hd:bl (s.extract (1:Int).toNat s.size)=(bl s).drop 1:=bl_drop s 1
  have hzd:(s.extract (1:Int).toNat s.size).size≤s.size:=by simp
  obtain ⟨x,l,hl⟩:∃ x l,bl s=x :: l:=by
   cases hx:bl s with
   | nil=>exact absurd (by rw [← bl_length,hx];decide) hs
   | cons x l=>exact ⟨x,l,rfl⟩
  have lx:x<256:=bl_lt s x (by rw [hl];simp)
  have ex:((bev ((bl s).take (1:Int).toNat):Nat):Int)=(x:Int):=by
   rw [hl]
   show ((bev [x]:Nat):Int)=_
   rw [bev_one]
  rw [hl] at hd
  rw [ex] at e1
  exact ⟨x,_,_,e1,hzd,lx,Or.inr ⟨rfl,rfl,by rw [hl,hd];rfl⟩⟩
theorem num_good {s u:ByteArray} {n:Nat} (hz:s.size≤9223372036854775807) (hs:bl s=n :: bl u):pack_Reader_Number.f s false 1=some ((n:Int),u,false):=by
 obtain ⟨m,t,c,e,_,_,h⟩:=num_step (s:=s) (b:=false) hz
 rcases h with ⟨rfl,_⟩|⟨rfl,_,h⟩
 ·exfalso
  have hl:=congrArg List.length hs
  rw [bl_length,List.length_cons] at hl
  rw [ReaderNumber_good (s:=s) (k:=1) (by omega) (by omega) (by omega) hz] at e
  simp at e
 ·rw [hs,List.cons.injEq] at h
  rw [e,← h.1,bl_inj h.2]
abbrev Got:=Int × Int × Int × Int × Int × List Wr × Bool
theorem iread_end (a b c g e:Int) (m:Int) (acc:List Wr) (hx:∀ x ∈ acc,fits x) (hl:acc.length≤1000) (t:ByteArray) (bad:Bool) {K:Nat} (hK:1≤K) :
  ∃ r:Got,item_Read.j1 K m false a b c g e acc t bad=some r∧(r.2.2.2.2.2.2=false→r=(0,0,0,0,0,[],false))∧(r.2.2.2.2.2.2=true→bad=false∧t=⟨#[]⟩∧r=(a,b,c,g,e,acc,true)∧wh a b c g e acc=true):=by
 obtain ⟨K,rfl⟩:∃ q,K=q+1:=⟨K - 1,by omega⟩
 rw [item_Read.j1,if_neg (by simp),Done_f,Option.bind_some]
 by_cases h:(!bad && decide (t=⟨#[]⟩))=true
 ·rw [if_pos h,whole_f a b c g e acc hx (by omega),Option.bind_some]
  simp only [Bool.and_eq_true,Bool.not_eq_true',decide_eq_true_eq] at h
  by_cases w:wh a b c g e acc=true
  ·rw [if_pos w]
   exact ⟨_,rfl,fun h=>absurd h (by simp),fun _=>⟨h.1,h.2,rfl,w⟩⟩
  ·rw [if_neg w]
   exact ⟨_,rfl,fun _=>rfl,fun h=>absurd h (by simp)⟩
 ·rw [if_neg h]
  exact ⟨_,rfl,fun _=>rfl,fun h=>absurd h (by simp)⟩
theorem iread_loop (a b c g e:Int):∀ (m:Nat) (K:Nat) (acc:List Wr) (t:ByteArray) (bad:Bool),t.size≤9223372036854775807→m+acc.length≤300→(∀ x ∈ acc,fits x)→2 * m+30≤K →
  ∃ r:Got,item_Read.l0 K (m:Int) a b c g e acc t bad=some r∧(r.2.2.2.2.2.2=false→r=(0,0,0,0,0,[],false))∧(r.2.2.2.2.2.2=true→bad=false∧∃ ys:List Wr,ys.length=m∧bl t=ys.flatMap WL∧r=(a,b,c,g,e,acc++ys,true)∧wh a b c g e (acc++ys)=true):=by
 intro m
 induction m with
 | zero =>
  intro K acc t bad hz hl hx hK
  obtain ⟨K,rfl⟩:∃ q,K=q+1:=⟨K - 1,by omega⟩
  obtain ⟨r,e1,k1,h1⟩:=iread_end a b c g e 0 acc hx (by omega) t bad (K:=K) (by omega)
  rw [item_Read.l0,if_neg (by omega)]
  refine ⟨r,e1,k1,fun h=>?_⟩
  obtain ⟨q1,q2,q3,q4⟩:=h1 h
  exact ⟨q1,[],rfl,by rw [q2];rfl,by rw [q3,List.append_nil],by rw [List.append_nil];exact q4⟩
 | succ m ih =>
  intro K acc t bad hz hl hx hK
  obtain ⟨K,rfl⟩:∃ q,K=q+1+1:=⟨K - 2,by omega⟩
  rw [item_Read.l0,if_pos (by omega)]
  cases bad with
  | true =>
   obtain ⟨r,e1,k1,h1⟩:=iread_end a b c g e ((m+1:Nat):Int) acc hx (by omega) t true (K:=K+1) (by omega)
   exact ⟨r,e1,k1,fun h=>absurd (h1 h).1 (by simp)⟩
  | false =>
   obtain ⟨t0,u0,c0,e0,z0,m0,h0⟩:=text_step (s:=t) (b:=false) hz 16 (by omega) (k:=K) (by omega)
   obtain ⟨t1,u1,c1,e1,z1,m1,h1⟩:=text_step (s:=u0) (b:=c0) (by omega) 16 (by omega) (k:=K) (by omega)
   obtain ⟨n,u2,c2,e2,z2,n2,h2⟩:=num_step (s:=u1) (b:=c1) (by omega)
   have z:(⟨#[]⟩:ByteArray).size=0:=rfl
   have hw:IntKind.u64.wrap (((m+1:Nat):Int) - 1)=(m:Int):=by rw [wrap_u64 (by omega) (by omega)];omega
   rw [show (!false)=true from rfl,item_Read.j1,if_pos rfl,e0,Option.bind_some]
   show ∃ r:Got,((pack_Reader_Text.f K u0 c0 16).bind _)=some r∧_
   rw [e1,Option.bind_some]
   show ∃ r:Got,((pack_Reader_Number.f u1 c1 1).bind _)=some r∧_
   rw [e2,Option.bind_some]
   show ∃ r:Got,(if (n:Int) > 1 then _ else _)=some r∧_
   by_cases n1:(n:Int) > 1
   ·rw [if_pos n1]
    exact ⟨_,rfl,fun _=>rfl,fun h=>absurd h (by simp)⟩
   ·rw [if_neg n1]
    show ∃ r:Got,(if (n:Int)=1 then _ else _)=some r∧_
    by_cases n0:(n:Int)=1
    ·obtain rfl:n=1:=by omega
     rw [if_pos n0,if_pos (by omega),hw]
     obtain ⟨r,e3,k3,h3⟩:=ih K (acc++[(⟨t0,t1,⟨#[]⟩,(((1:Nat):Int) == 1)⟩:Wr)]) u2 c2 (by omega) (by simp;omega) (by
      intro x hx1
      rcases List.mem_append.1 hx1 with hx1|hx1
      ·exact hx x hx1
      ·rw [List.mem_singleton.1 hx1]
       exact ⟨show t0.size≤_ by omega,show t1.size≤_ by omega,show (⟨#[]⟩:ByteArray).size≤_ by omega⟩) (by omega)
     refine ⟨r,e3,k3,fun h=>⟨rfl,?_⟩⟩
     obtain ⟨q1,ys,q2,q3,q4,q5⟩:=h3 h
     subst q1
     rcases h2 with ⟨h2,_⟩|⟨_,h2,h4⟩
     ·exact absurd h2 (by simp)
     obtain ⟨h1,h5⟩:=h1 h2
     obtain ⟨_,h6⟩:=h0 h1
     refine ⟨(⟨t0,t1,⟨#[]⟩,true⟩:Wr) :: ys,by simp [q2],?_,by rw [q4,List.append_assoc];rfl,by rw [List.append_assoc] at q5;exact q5⟩
     rw [h6,h5,h4,q3,List.flatMap_cons]
     unfold WL
     simp
    ·obtain rfl:n=0:=by omega
     obtain ⟨t2,u3,c3,e3,z3,m3,h3⟩:=text_step (s:=u2) (b:=c2) (by omega) 32 (by omega) (k:=K) (by omega)
     rw [if_neg n0]
     show ∃ r:Got,((pack_Reader_Text.f K u2 c2 32).bind _)=some r∧_
     rw [e3,Option.bind_some,if_pos (by omega),hw]
     obtain ⟨r,e4,k4,h4⟩:=ih K (acc++[(⟨t0,t1,t2,(((0:Nat):Int) == 1)⟩:Wr)]) u3 c3 (by omega) (by simp;omega) (by
      intro x hx1
      rcases List.mem_append.1 hx1 with hx1|hx1
      ·exact hx x hx1
      ·rw [List.mem_singleton.1 hx1]
       exact ⟨show t0.size≤_ by omega,show t1.size≤_ by omega,show t2.size≤_ by omega⟩) (by omega)
     refine ⟨r,e4,k4,fun h=>⟨rfl,?_⟩⟩
     obtain ⟨q1,ys,q2,q3,q4,q5⟩:=h4 h
     obtain ⟨h3,h7⟩:=h3 q1
     subst h3
     rcases h2 with ⟨h2,_⟩|⟨_,h2,h4⟩
     ·exact absurd h2 (by simp)
     obtain ⟨h1,h5⟩:=h1 h2
     obtain ⟨_,h6⟩:=h0 h1
     refine ⟨(⟨t0,t1,t2,false⟩:Wr) :: ys,by simp [q2],?_,by rw [q4,List.append_assoc];rfl,by rw [List.append_assoc] at q5;exact q5⟩
     rw [h6,h5,h4,h7,q3,List.flatMap_cons]
     unfold WL
     simp
theorem iread_good (a b c g e:Int):∀ (ys:List Wr) (K:Nat) (acc:List Wr) (t:ByteArray),t.size≤9223372036854775807→ys.length+acc.length≤300→(∀ x ∈ acc,fits x)→(∀ y ∈ ys,fits y)→(∀ y ∈ ys,okw y=true)→2 * ys.length+30≤K→bl t=ys.flatMap WL →
  wh a b c g e (acc++ys)=true→item_Read.l0 K (ys.length:Int) a b c g e acc t false=some (a,b,c,g,e,acc++ys,true):=by
 intro ys
 induction ys with
 | nil =>
  intro K acc t hz hl hx _ _ hK ht hw
  obtain ⟨K,rfl⟩:∃ q,K=q+1+1:=⟨K - 2,by omega⟩
  rw [item_Read.l0,if_neg (by simp),item_Read.j1,if_neg (by simp),Done_f,Option.bind_some]
  obtain rfl:t=⟨#[]⟩:=bl_nil.1 ht
  rw [List.append_nil] at hw ⊢
  rw [if_pos (by simp),whole_f a b c g e acc hx (by simp at hl;omega),Option.bind_some,if_pos hw]
 | cons y ys ih =>
  intro K acc t hz hl hx hy hok hK ht hw
  obtain ⟨K,rfl⟩:∃ q,K=q+1+1:=⟨K - 2,by omega⟩
  rw [List.length_cons] at hl hK ⊢
  have hw':IntKind.u64.wrap (((ys.length+1:Nat):Int) - 1)=(ys.length:Int):=by rw [wrap_u64 (by omega) (by omega)];omega
  have hs:=okw_size (hok y (by simp))
  have hg:=gone_nil (hok y (by simp))
  have hya:=hy y (by simp)
  obtain ⟨w,hwz⟩:∃ w:ByteArray,bl w=ys.flatMap WL:=⟨enc ⟨#[]⟩ ys,by rw [bl_enc];rfl⟩
  obtain ⟨y0,y1,y2,y3⟩:=y
  have hs:y0.size≤16∧y1.size≤16∧y2.size≤32:=hs
  have eW:WL (⟨y0,y1,y2,y3⟩:Wr)=vary y0.size++(bl y0++(vary y1.size++(bl y1++(if y3=true then [1] else 0 :: (vary y2.size++bl y2))))):=rfl
  rw [List.flatMap_cons,eW] at ht
  simp only [List.append_assoc] at ht
  rw [item_Read.l0,if_pos (by omega),show (!false)=true from rfl,item_Read.j1,if_pos rfl]
  cases y3 with
  | true =>
   obtain rfl:y2=⟨#[]⟩:=hg rfl
   have r0:bl (vs y1.size++y1++((⟨#[1]⟩:ByteArray)++w))=vary y1.size++(bl y1++(1 :: bl w)):=by simp only [bl_append,bl_vs,List.append_assoc];rfl
   have ht':bl t=vary y0.size++bl y0++bl (vs y1.size++y1++((⟨#[1]⟩:ByteArray)++w)):=by
    rw [ht,r0,hwz,List.append_assoc]
    simp
   have hlen:=congrArg List.length ht'
   simp only [List.length_append,bl_length] at hlen
   have e0:=ReaderText_good (most:=16) hz ht' (by omega) (k:=K) (by omega)
   have r1:bl ((⟨#[1]⟩:ByteArray)++w)=1 :: bl w:=by rw [bl_append];rfl
   have e1:=ReaderText_good (s:=vs y1.size++y1++((⟨#[1]⟩:ByteArray)++w)) (t:=y1) (rest:=(⟨#[1]⟩:ByteArray)++w) (most:=16) (by omega) (by rw [r0,r1,List.append_assoc]) (by omega) (k:=K) (by omega)
   have hlen2:=congrArg List.length r0
   simp only [List.length_append,bl_length,List.length_cons] at hlen2
   have hlen3:=congrArg List.length r1
   simp only [bl_length,List.length_cons] at hlen3
   have e2:=num_good (s:=(⟨#[1]⟩:ByteArray)++w) (u:=w) (n:=1) (by omega) r1
   rw [e0,Option.bind_some]
   show (pack_Reader_Text.f K (vs y1.size++y1++((⟨#[1]⟩:ByteArray)++w)) false 16).bind _=_
   rw [e1,Option.bind_some]
   show (pack_Reader_Number.f ((⟨#[1]⟩:ByteArray)++w) false 1).bind _=_
   rw [e2,Option.bind_some,if_neg (by simp),if_pos (show ((1:Nat):Int)=1 from rfl),if_pos (by omega),hw']
   have:=ih K (acc++[(⟨y0,y1,⟨#[]⟩,true⟩:Wr)]) w (by omega) (by simp;omega) (by
    intro x hx1
    rcases List.mem_append.1 hx1 with hx1|hx1
    ·exact hx x hx1
    ·rw [List.mem_singleton.1 hx1];exact hya) (fun z hz=>hy z (by simp [hz])) (fun z hz=>hok z (by simp [hz])) (by omega) hwz (by rw [List.append_assoc];exact hw)
   rw [List.append_assoc] at this
   exact this
  | false =>
   obtain ⟨w2,hw2⟩:∃ w2:ByteArray,w2=vs y2.size++y2++w:=⟨_,rfl⟩
   have hb2:bl w2=vary y2.size++bl y2++bl w:=by rw [hw2];simp only [bl_append,bl_vs]
   have r0:bl (vs y1.size++y1++((⟨#[0]⟩:ByteArray)++w2))=vary y1.size++(bl y1++(0 :: bl w2)):=by simp only [bl_append,bl_vs,List.append_assoc];rfl
   have ht':bl t=vary y0.size++bl y0++bl (vs y1.size++y1++((⟨#[0]⟩:ByteArray)++w2)):=by
    rw [ht,r0,hb2,hwz,List.append_assoc]
    simp
   have hlen:=congrArg List.length ht'
   simp only [List.length_append,bl_length] at hlen
   have e0:=ReaderText_good (most:=16) hz ht' (by omega) (k:=K) (by omega)
   have r1:bl ((⟨#[0]⟩:ByteArray)++w2)=0 :: bl w2:=by rw [bl_append];rfl
   have e1:=ReaderText_good (s:=vs y1.size++y1++((⟨#[0]⟩:ByteArray)++w2)) (t:=y1) (rest:=(⟨#[0]⟩:ByteArray)++w2) (most:=16) (by omega) (by rw [r0,r1,List.append_assoc]) (by omega) (k:=K) (by omega)
   have hlen2:=congrArg List.length r0
   simp only [List.length_append,bl_length,List.length_cons] at hlen2
   have hlen3:=congrArg List.length r1
   simp only [bl_length,List.length_cons] at hlen3
   have hlen4:=congrArg List.length hb2
   simp only [List.length_append,bl_length] at hlen4
   have e2:=num_good (s:=(⟨#[0]⟩:ByteArray)++w2) (u:=w2) (n:=0) (by omega) r1
   have e3:=ReaderText_good (s:=w2) (t:=y2) (rest:=w) (most:=32) (by omega) hb2 (by omega) (k:=K) (by omega)
   rw [e0,Option.bind_some]
   show (pack_Reader_Text.f K (vs y1.size++y1++((⟨#[0]⟩:ByteArray)++w2)) false 16).bind _=_
   rw [e1,Option.bind_some]
   show (pack_Reader_Number.f ((⟨#[0]⟩:ByteArray)++w2) false 1).bind _=_
   rw [e2,Option.bind_some,if_neg (by simp),if_neg (by simp)]
   show (pack_Reader_Text.f K w2 false 32).bind _=_
   rw [e3,Option.bind_some,if_pos (by omega),hw']
   have:=ih K (acc++[(⟨y0,y1,y2,false⟩:Wr)]) w (by omega) (by simp;omega) (by
    intro x hx1
    rcases List.mem_append.1 hx1 with hx1|hx1
    ·exact hx x hx1
    ·rw [List.mem_singleton.1 hx1];exact hya) (fun z hz=>hy z (by simp [hz])) (fun z hz=>hok z (by simp [hz])) (by omega) hwz (by rw [List.append_assoc];exact hw)
   rw [List.append_assoc] at this
   exact this
theorem iread_any {s:ByteArray} (hz:s.size≤9223372036854775807) {k:Nat} (hk:600≤k) :
  ∃ r:Got,item_Read.f k s=some r∧(r.2.2.2.2.2.2=false→r=(0,0,0,0,0,[],false))∧(r.2.2.2.2.2.2=true→∃ (a b c g e:Nat) (xs:List Wr),wh a b c g e xs=true∧bl s=TL a b c g e xs∧r=((a:Int),(b:Int),(c:Int),(g:Int),(e:Int),xs,true)):=by
 obtain ⟨v0,v1,v2,v3,v4,t,c,e1,z1,h1,_⟩:=sget_step (s:=s) (b:=false) hz (k:=k) (by omega)
 obtain ⟨n,u,d,e2,z2,n2,h2⟩:=num_step (s:=t) (b:=c) (by omega)
 obtain ⟨r,e3,k3,h3⟩:=iread_loop v0 v1 v2 v3 v4 n k [] u d (by omega) (by simp;omega) (by simp) (by omega)
 unfold item_Read.f
 rw [e1,Option.bind_some]
 show ∃ r:Got,(pack_Reader_Number.f t c 1).bind _=some r∧_
 rw [e2,Option.bind_some]
 refine ⟨r,e3,k3,fun h=>?_⟩
 obtain ⟨q1,ys,q2,q3,q4,q5⟩:=h3 h
 subst q1
 rcases h2 with ⟨h2,_⟩|⟨_,h2,h4⟩
 ·exact absurd h2 (by simp)
 rw [List.nil_append] at q4 q5
 obtain ⟨_,n0,n1,n3,n4,dc,_,h5,g0,g1,g2,g3,g4⟩:=h1 h2
 subst g0 g1 g2 g3 g4
 refine ⟨n0,n1,n3,n4,dc,ys,q5,?_,q4⟩
 rw [h5,h4,q3,← q2]
 rfl
theorem iread_txn {a b c g e:Nat} {xs:List Wr} {s:ByteArray} (h:wh a b c g e xs=true) (hx:∀ x ∈ xs,fits x) (hs:bl s=TL a b c g e xs) (hz:s.size≤9223372036854775807) {k:Nat} (hk:600≤k) :
  item_Read.f k s=some ((a:Int),(b:Int),(c:Int),(g:Int),(e:Int),xs,true):=by
 obtain ⟨hS,h0,h8,_,hok⟩:=wh_true h
 have hd:=okS_dc hS
 obtain ⟨u,hu⟩:∃ u:ByteArray,bl u=xs.flatMap WL:=⟨enc ⟨#[]⟩ xs,by rw [bl_enc];rfl⟩
 have hnu:bl (nb xs.length 1++u)=xs.length :: bl u:=by rw [bl_append,bl_nb,be_small (by omega)];rfl
 have hs':bl s=be 1 e++rv a b c g++bl (nb xs.length 1++u):=by
  rw [hs,hnu,hu,be_small (by omega)]
  unfold TL
  simp
 have hlen:=congrArg List.length hs'
 simp only [List.length_append,bl_length] at hlen
 have hlen2:=congrArg List.length hnu
 simp only [bl_length,List.length_cons] at hlen2
 have e1:=sget_good (s:=s) (rest:=nb xs.length 1++u) hz hs' hS (k:=k) (by omega)
 have e2:=num_good (s:=nb xs.length 1++u) (u:=u) (n:=xs.length) (by omega) hnu
 have e3:=iread_good a b c g e xs k [] u (by omega) (by simp;omega) (by simp) hx hok (by omega) hu (by rw [List.nil_append];exact h)
 unfold item_Read.f
 rw [e1,Option.bind_some]
 show (pack_Reader_Number.f (nb xs.length 1++u) false 1).bind _=_
 rw [e2,Option.bind_some]
 exact e3
theorem rvaryR_loop (s:ByteArray) (hz:s.size≤9223372036854775807) (d:Nat):∀ (k i:Nat) (x:Int),i+d=min s.size 10→0≤x→x<18446744073709551616→2 * d+14≤k →
  (∀ j,j<i→∃ c,(bl s)[j]?=some c∧128≤c) →
  (∀ n,n<18446744073709551616→∀ r,bl s=vary n++r→i<(vary n).length∧x=((n % 128 ^ i:Nat):Int)) →
  ∃ r,R02_Reader_Vary.l0 k x (i:Int) s false=some r∧VaryRes s r:=by
 induction d with
 | zero =>
  intro k i x hi h0 h1 hk hall hn
  obtain ⟨k,rfl⟩:∃ m,k=m+2:=⟨k - 2,by omega⟩
  refine ⟨(0,⟨#[]⟩,true),?_,.bad fun n hn' r hs=>?_⟩
  ·simp only [R02_Reader_Vary.l0]
   by_cases c:(i:Int)<(s.size:Int)
   ·rw [if_pos c,if_neg (by omega)]
    simp only [R02_Reader_Vary.j1]
    rw [if_neg (by simp)]
   ·rw [if_neg c]
    simp only [R02_Reader_Vary.j1]
    rw [if_neg (by simp)]
  ·have h2:=(hn n hn' r hs).1
   have h3:=vary_len_ten hn'
   have h4:(vary n).length≤s.size:=by rw [← bl_length,hs];simp
   omega
 | succ d ih =>
  intro k i x hi h0 h1 hk hall hn
  obtain ⟨k,rfl⟩:∃ m,k=m+2:=⟨k - 2,by omega⟩
  have hlt:i<s.size:=by omega
  have hi10:i<10:=by omega
  obtain ⟨c,hc,hbt,hc256⟩:=bt_bl s i hlt
  have hm:Int.tmod (c:Int) 128=((c % 128:Nat):Int):=by rw [Int.tmod_eq_emod_of_nonneg (by omega)];omega
  simp only [R02_Reader_Vary.l0]
  rw [if_pos (Int.ofNat_lt.2 hlt),if_pos (show (i:Int)<10 by omega)]
  simp only [R02_Reader_Vary.j1]
  rw [if_pos (show (!false)=true from rfl),if_pos (Int.natCast_nonneg i),if_pos (Int.ofNat_lt.2 hlt),hbt,wrap_seven hi10,if_pos (Int.mul_nonneg (by decide) (Int.natCast_nonneg i)),wrap_succ hi10,hm]
  clear hbt hm
  obtain ⟨G,hG⟩:∃ G,G=Go.bits .or .u64 x (shl .u64 (IntKind.u64.wrap ((c % 128:Nat):Int)) (7 * (i:Int))):=⟨_,rfl⟩
  have hGr:0≤G∧G<18446744073709551616:=by
   rw [hG]
   exact u64_or_range x _ h0 h1 (shl_range _ _).1 (shl_range _ _).2
  have hnext:∀ n,n<18446744073709551616→∀ r,bl s=vary n++r→c % 128=n / 128 ^ i % 128∧(128≤c ↔ i+1<(vary n).length)∧G=((n % 128 ^ (i+1):Nat):Int):=by
   intro n hn' r hs
   obtain ⟨g1,g2⟩:=hn n hn' r hs
   have e:(bl s)[i]?=(vary n)[i]?:=by rw [hs,List.getElem?_append_left g1]
   rw [hc,vary_get i n g1] at e
   have e:=Option.some.inj e
   have e2:c % 128=n / 128 ^ i % 128:=by clear hG;rw [e];split <;> omega
   refine ⟨e2,?_,?_⟩
   ·clear hG;rw [e];split <;> omega
   ·rw [hG,e2,g2];exact acc_or n i hn' g1
  rw [← hG]
  clear hG
  by_cases h128:128≤c
  ·rw [if_neg (show ¬ ((c:Nat):Int)<128 by omega)]
   refine ih k (i+1) _ (by omega) hGr.1 hGr.2 (by omega) ?_ ?_
   ·intro j hj
    by_cases hji:j<i
    ·exact hall j hji
    ·obtain rfl:j=i:=by omega
     exact ⟨c,hc,h128⟩
   ·intro n hn' r hs
    obtain ⟨_,g2,g3⟩:=hnext n hn' r hs
    exact ⟨g2.1 h128,g3⟩
  ·rw [if_pos (show ((c:Nat):Int)<128 by omega)]
   obtain ⟨m,rfl⟩:=Int.eq_ofNat_of_zero_le hGr.1
   rw [RVary_f (by omega) (by omega)]
   simp only [Option.bind_some]
   rw [if_pos (show (0:Int)≤((i+1:Nat):Int) by omega),if_pos (show ((i+1:Nat):Int)≤(s.size:Int) by omega)]
   rw [show (((i+1:Nat):Int)).toNat=i+1 by omega]
   by_cases he:(vs m).toList=(s.extract 0 (i+1)).toList
   ·rw [if_pos he]
    refine ⟨_,rfl,.good m _ (by omega) ?_⟩
    have e1:bl (s.extract 0 (i+1))=vary m:=by rw [← toList_iff.1 he,bl_vs]
    rw [bl_extract,List.drop_zero] at e1
    rw [← e1,bl_drop,List.take_append_drop]
   ·rw [if_neg he]
    refine ⟨_,rfl,.bad fun n hn' r hs=>he ?_⟩
    obtain ⟨g1,g2,g3⟩:=hnext n hn' r hs
    have g4:=(hn n hn' r hs).1
    have hl:(vary n).length=i+1:=by omega
    have hnm:n % 128 ^ (i+1)=n:=Nat.mod_eq_of_lt (by
     rcases Nat.lt_or_ge n (128 ^ (i+1)) with h|h
     ·exact h
     ·have:=vary_len_gt (i+1) n h;omega)
    rw [hnm] at g3
    have:m=n:=by omega
    subst this
    rw [toList_iff]
    apply bl_inj
    rw [bl_vs,bl_extract,List.drop_zero,hs,← hl,List.take_left]
theorem RReaderVary_f (s:ByteArray) (b:Bool) (hz:s.size≤9223372036854775807) {k:Nat} (hk:34≤k) :
  ∃ r,R02_Reader_Vary.f k s b=some r∧(b=false→VaryRes s r)∧(b=true→r=(0,⟨#[]⟩,true)):=by
 unfold R02_Reader_Vary.f
 cases b with
 | true =>
  refine ⟨_,?_,(fun h=>by cases h),(fun _=>rfl)⟩
  obtain ⟨k,rfl⟩:∃ m,k=m+2:=⟨k - 2,by omega⟩
  unfold R02_Reader_Vary.l0
  split
  ·split
   ·unfold R02_Reader_Vary.j1;exact if_neg (by simp)
   ·unfold R02_Reader_Vary.j1;exact if_neg (by simp)
  ·unfold R02_Reader_Vary.j1;exact if_neg (by simp)
 | false =>
  obtain ⟨r,h1,h2⟩:=rvaryR_loop s hz (min s.size 10) k 0 0 (by omega) (by omega) (by omega) (by omega) (fun j hj=>by omega) (fun n _ r _=>⟨vary_pos n,by simp [Nat.mod_one]⟩)
  exact ⟨r,h1,(fun _=>h2),(fun h=>by cases h)⟩
theorem vary_same {s:ByteArray} {b:Bool} (hz:s.size≤9223372036854775807) {k:Nat} (hk:34≤k) :
  ∃ r,pack_Reader_Vary.f k s b=some r∧R02_Reader_Vary.f k s b=some r∧r.2.1.size≤s.size∧(b=true→r=(0,⟨#[]⟩,true))∧(b=false→VaryRes s r):=by
 obtain ⟨r,h1,h2,h3⟩:=ReaderVary_f s b hz (show 22≤k by omega)
 obtain ⟨q,g1,g2,g3⟩:=RReaderVary_f s b hz hk
 have e:q=r:=by
  cases b with
  | true=>rw [h3 rfl,g3 rfl]
  | false=>exact VaryRes.unique (g2 rfl) (h2 rfl)
 subst e
 refine ⟨q,h1,g1,?_,h3,h2⟩
 cases b with
 | true=>rw [h3 rfl];exact Nat.zero_le _
 | false =>
  cases h2 rfl with
  | good n rest hn hs=>show rest.size≤s.size;rw [← bl_length,← bl_length,hs];simp
  | bad h=>exact Nat.zero_le _
theorem text_same {s:ByteArray} {b:Bool} {most:Int} (hz:s.size≤9223372036854775807) (hm:(Lit.int .i64 most).wf=true) {k:Nat} (hk:34≤k) :
  ∃ r,pack_Reader_Text.f k s b most=some r∧R02_Reader_Text.f k s b most=some r∧r.2.1.size≤s.size:=by
 have hm : -9223372036854775808≤most∧most≤9223372036854775807:=by
  have h:IntKind.i64.min≤most∧most≤IntKind.i64.max:=by simpa only [Lit.wf,Bool.and_eq_true,decide_eq_true_eq] using hm
  exact h
 obtain ⟨r,h1,h2,h3,_,hv⟩:=vary_same (s:=s) (b:=b) hz hk
 unfold pack_Reader_Text.f R02_Reader_Text.f
 rw [h1,h2]
 simp only [Option.bind_some]
 have hn:0≤r.1:=by
  cases b with
  | true=>obtain rfl:=‹(true=true→r=(0,⟨#[]⟩,true))› rfl;exact Int.le_refl _
  | false =>
   cases hv rfl with
   | good n rest hn hs=>exact Int.natCast_nonneg n
   | bad h=>exact Int.le_refl _
 clear h1 h2 hv
 obtain ⟨n,t,bd⟩:=r
 simp only at h3 hn ⊢
 by_cases c0:bd=true
 ·rw [if_pos c0,if_pos c0];exact ⟨_,rfl,rfl,Nat.zero_le _⟩
 ·rw [if_neg c0,if_neg c0]
  by_cases c1:most<0
  ·rw [if_pos c1,if_pos c1];exact ⟨_,rfl,rfl,Nat.zero_le _⟩
  ·rw [if_neg c1,if_neg c1]
   obtain ⟨m1,m2,m3⟩:=mn_cases most (t.size:Int)
   have hw:IntKind.u64.wrap (mn most (t.size:Int))=mn most (t.size:Int):=wrap_u64 (by omega) (by omega)
   have hw2:IntKind.u64.wrap most=most:=wrap_u64 (by omega) (by omega)
   rw [hw,hw2]
   clear hw hw2
   generalize mn most (t.size:Int)=M at *
   by_cases c2:n > M
   ·rw [if_pos c2]
    refine ⟨_,rfl,?_,Nat.zero_le _⟩
    by_cases c3:n > most
    ·rw [if_pos c3]
    ·rw [if_neg c3,if_pos (by omega),if_pos (show n > (t.size:Int) by omega)]
   ·rw [if_neg c2,if_pos hn,if_pos (show n≤(t.size:Int) by omega)]
    refine ⟨_,rfl,?_,?_⟩
    ·rw [if_neg (show ¬ n > most by omega),if_pos (by omega),if_neg (show ¬ n > (t.size:Int) by omega)]
    ·simp;omega
theorem rnumR_loop (s:ByteArray) (b:Bool) (K:Int) (h8:K≤8) (hs:K≤(s.size:Int)) (hz:s.size≤9223372036854775807) (d:Nat):∀ (k i:Nat),(i:Int)+d=K→d<k →
  R02_Reader_Number.l0 k K ((bev ((bl s).take i):Nat):Int) (i:Int) s b=some (((bev ((bl s).take K.toNat):Nat):Int),s.extract K.toNat s.size,false):=by
 induction d with
 | zero =>
  intro k i hi hk
  obtain ⟨k,rfl⟩:∃ m,k=m+1:=⟨k - 1,by omega⟩
  simp only [R02_Reader_Number.l0]
  rw [if_neg (by omega),if_pos (by omega),if_pos hs,show K.toNat=i by omega]
 | succ d ih =>
  intro k i hi hk
  obtain ⟨k,rfl⟩:∃ m,k=m+1:=⟨k - 1,by omega⟩
  have hlt:i<s.size:=by omega
  have:=rnum_bev s (i+1) (by omega) (by omega)
  simp only [rnum] at this
  rw [rnum_bev s i (by omega) (by omega)] at this
  simp only [R02_Reader_Number.l0]
  rw [if_pos (by omega),if_pos (Int.natCast_nonneg i),if_pos (Int.ofNat_lt.2 hlt),this,wrap_succ (by omega)]
  exact ih k (i+1) (by omega) (by omega)
theorem number_same {s:ByteArray} {b:Bool} {K:Int} (hz:s.size≤9223372036854775807) {k:Nat} (hk:34≤k) :
  ∃ r,pack_Reader_Number.f s b K=some r∧R02_Reader_Number.f k s b K=some r∧r.2.1.size≤s.size:=by
 have hbad:(b=true∨K<1∨8<K∨(s.size:Int)<K)→R02_Reader_Number.f k s b K=some (0,⟨#[]⟩,true):=by
  intro h
  obtain ⟨k,rfl⟩:∃ m,k=m+1:=⟨k - 1,by omega⟩
  unfold R02_Reader_Number.f
  simp only [R02_Reader_Number.j0]
  by_cases c0:b=true
  ·rw [if_pos c0,if_pos trivial]
  ·rw [if_neg c0]
   by_cases c1:K<1
   ·rw [if_pos c1,if_pos trivial]
   ·rw [if_neg c1]
    by_cases c2:K > 8
    ·rw [if_pos c2,if_pos trivial]
    ·rw [if_neg c2,if_pos (by rcases h with h|h|h|h <;> first|exact absurd h c0|exact absurd h c1|exact absurd h c2|exact decide_eq_true h)]
 by_cases h:b=true∨K<1∨8<K∨(s.size:Int)<K
 ·exact ⟨_,ReaderNumber_bad h hz,hbad h,Nat.zero_le _⟩
 ·have hb:b=false:=by cases b with|true=>exact absurd (Or.inl rfl) h|false=>rfl
  subst hb
  have h1:¬ K<1:=fun c=>h (Or.inr (Or.inl c))
  have h8:¬ 8<K:=fun c=>h (Or.inr (Or.inr (Or.inl c)))
  have hs:¬ (s.size:Int)<K:=fun c=>h (Or.inr (Or.inr (Or.inr c)))
  refine ⟨_,ReaderNumber_good (by omega) (by omega) (by omega) hz,?_,?_⟩
  ·obtain ⟨k,rfl⟩:∃ m,k=m+1:=⟨k - 1,by omega⟩
   unfold R02_Reader_Number.f
   rw [if_neg (by simp),if_neg h1,if_neg h8,decide_eq_false hs]
   simp only [R02_Reader_Number.j0]
   rw [if_neg (by simp)]
   exact rnumR_loop s false K (by omega) (by omega) hz K.toNat k 0 (by omega) (by omega)
  ·show (s.extract K.toNat s.size).size≤s.size
   simp
theorem vget_same {s:ByteArray} {b:Bool} (hz:s.size≤9223372036854775807) {k:Nat} (hk:34≤k):∃ r,vec_Get.f k s b=some r∧R06_Get.f k s b=some r∧r.2.2.2.2.1.size≤s.size:=by
 obtain ⟨r0,a0,b0,c0,_⟩:=vary_same (s:=s) (b:=b) hz hk
 obtain ⟨r1,a1,b1,c1,_⟩:=vary_same (s:=r0.2.1) (b:=r0.2.2) (by omega) hk
 obtain ⟨r2,a2,b2,c2,_⟩:=vary_same (s:=r1.2.1) (b:=r1.2.2) (by omega) hk
 obtain ⟨r3,a3,b3,c3,_⟩:=vary_same (s:=r2.2.1) (b:=r2.2.2) (by omega) hk
 unfold vec_Get.f R06_Get.f
 simp only [a0,b0,a1,b1,a2,b2,a3,b3,Option.bind_some,vright_f,rright06_f (show 5≤k by omega)]
 by_cases h:r3.2.2=true
 ·rw [if_pos h,if_pos h];exact ⟨_,rfl,rfl,Nat.zero_le _⟩
 ·rw [if_neg h,if_neg h]
  split
  ·refine ⟨_,rfl,?_,by show r3.2.1.size≤s.size;omega⟩
   have:r3.2.2=false:=by simpa using h
   rw [this]
  ·exact ⟨_,rfl,rfl,Nat.zero_le _⟩
theorem sget_same {s:ByteArray} {b:Bool} (hz:s.size≤9223372036854775807) {k:Nat} (hk:34≤k):∃ r,stamp_Get.f k s b=some r∧R07_Get.f k s b=some r:=by
 obtain ⟨⟨p,t,c⟩,q1,q2,zt⟩:=number_same (s:=s) (b:=b) (K:=1) hz hk
 obtain ⟨⟨v0,v1,v2,v3,u,o⟩,g1,g2,_⟩:=vget_same (s:=t) (b:=c) (by simp at zt;omega) hk
 obtain ⟨r,r1,r2⟩:=sright_same v0 v1 v2 v3 (wrap64 p) (k:=k) (by omega)
 unfold stamp_Get.f R07_Get.f
 rw [q1,q2,Option.bind_some,Option.bind_some]
 simp only [g1,g2,Option.bind_some,r1,r2]
 cases o with
 | true=>exact ⟨_,rfl,rfl⟩
 | false =>
  cases r with
  | true=>exact ⟨_,rfl,rfl⟩
  | false=>exact ⟨_,rfl,rfl⟩
theorem strOfNums_size (l:List Int):(strOfNums l).size=l.length:=by
 unfold strOfNums
 simp [ByteArray.size]
theorem bend_small {s:ByteArray} (hz:s.size≤1000000) {p b:Int} (hp : -9223372036854775808≤p∧p≤9223372036854775807) :
  ∃ t,L15_bend.f s p b=some t∧t.size≤1000000:=by
 unfold L15_bend.f
 by_cases c:s.toList=[]
 ·rw [if_pos c];exact ⟨s,rfl,hz⟩
 ·rw [if_neg c,if_pos ⟨by omega,hp.1,hp.2⟩]
  refine ⟨_,rfl,?_⟩
  rw [strOfNums_size]
  unfold L15_bend.turn
  rw [List.length_set,bytesOf_length]
  exact hz
end Go.Proofs.Ytoagfdpgnfinhaa.Pure
