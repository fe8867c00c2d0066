import Derived.Test.YtoagfdpgnfinhaaGStreamGets11
import Derived.Test.YtoagfdpgnfinhaaGStreamGets12
import Derived.Test.YtoagfdpgnfinhaaGStreamGets13
set_option linter.unusedVariables false
set_option linter.unusedSimpArgs false
namespace Go.Proofs.Ytoagfdpgnfinhaa.Pure
open Go.RowKit Go.Proofs.Ytoagfdpgnfinhaa.Q Go.Proofs.YtoagfdpgnfinhaaW.PrintWords Go.Proofs.YtoagfdpgnfinhaaW.PrintLast Go.Proofs.YtoagfdpgnfinhaaW.PrintMore Go.Proofs.Ytoagfdpgnfinhaa.Plain
abbrev Rgot:=Int × Int × Int × Int × Int × List Rw × Bool
theorem rtext_of {s:ByteArray} {b:Bool} {most:Int} {r:ByteArray × ByteArray × Bool} (hz:s.size≤9223372036854775807) (hm:(Lit.int .i64 most).wf=true) {k:Nat} (hk:34≤k) (h:pack_Reader_Text.f k s b most=some r):R02_Reader_Text.f k s b most=some r:=by
 obtain ⟨q,e1,e2,_⟩:=text_same (b:=b) hz hm hk
 rw [h] at e1
 rw [e2,e1]
theorem rnum_of {s:ByteArray} {b:Bool} {r:Int × ByteArray × Bool} (hz:s.size≤9223372036854775807) {k:Nat} (hk:34≤k) (h:pack_Reader_Number.f s b 1=some r):R02_Reader_Number.f k s b 1=some r:=by
 obtain ⟨q,e1,e2,_⟩:=number_same (b:=b) (K:=1) hz hk
 rw [h] at e1
 rw [e2,e1]
theorem fits_ok {x:Wr} (h:okw x=true):fits x:=by
 have:=okw_size h
 exact ⟨by omega,by omega,by omega⟩
theorem rread_end {a b c g e:Nat} (s:ByteArray) (x6 x9:Int) (xs:List Wr) (hx:∀ x ∈ xs,fits x) (hl:xs.length≤1000) (t:ByteArray) (bad:Bool) {K:Nat} (hK:301≤K) :
  ∃ r:Rgot,R08_Read.j1 K s x6 x9 false t bad a b c g e (xs.map rw_)=some r∧(wh a b c g e xs=true→bl s=TL a b c g e xs→r=((a:Int),(b:Int),(c:Int),(g:Int),(e:Int),xs.map rw_,true)) ∧
   (r=(0,0,0,0,0,[],false)∨∃ ys:List Wr,wh a b c g e ys=true∧bl s=TL a b c g e ys∧r=((a:Int),(b:Int),(c:Int),(g:Int),(e:Int),ys.map rw_,true)):=by
 obtain ⟨K,rfl⟩:∃ q,K=q+1:=⟨K - 1,by omega⟩
 rw [R08_Read.j1,if_neg (by simp)]
 cases w:wh a b c g e xs with
 | false =>
  rw [(bytes_false w hx hl (k:=K) (by omega)).2,Option.bind_some,if_neg (by simp)]
  exact ⟨_,rfl,fun h=>absurd h (by simp),Or.inl rfl⟩
 | true =>
  have hb:=bl_txn w
  rw [(bytes_true w hx (k:=K) (by omega)).2,Option.bind_some,if_pos rfl]
  generalize enc (sp e a b c g++nb xs.length 1) xs=u at hb ⊢
  show ∃ r:Rgot,(if u.toList=s.toList then _ else _)=some r∧_
  by_cases h:u.toList=s.toList
  ·rw [if_pos h]
   exact ⟨_,rfl,fun _ _=>rfl,Or.inr ⟨xs,w,by rw [← toList_iff.1 h,hb],rfl⟩⟩
  ·rw [if_neg h]
   exact ⟨_,rfl,fun _ hh=>absurd (toList_iff.2 (bl_inj (by rw [hb,hh]))) h,Or.inl rfl⟩
theorem rread_loop {a b c g e:Nat} (s:ByteArray) (many:Int):∀ (d i K:Nat) (xs:List Wr) (t:ByteArray) (bad:Bool),i+d=9→t.size≤9223372036854775807→xs.length≤i→(∀ x ∈ xs,fits x)→2 * d+400≤K →
  ∃ r:Rgot,R08_Read.l0 K s many (i:Int) t bad a b c g e (xs.map rw_)=some r∧(r=(0,0,0,0,0,[],false)∨∃ ys:List Wr,wh a b c g e ys=true∧bl s=TL a b c g e ys∧r=((a:Int),(b:Int),(c:Int),(g:Int),(e:Int),ys.map rw_,true)):=by
 intro d
 induction d with
 | zero =>
  intro i K xs t bad hi hz hl hx hK
  obtain ⟨K,rfl⟩:∃ q,K=q+1:=⟨K - 1,by omega⟩
  obtain ⟨r,e1,_,h1⟩:=rread_end (a:=a) (b:=b) (c:=c) (g:=g) (e:=e) s many (i:Int) xs hx (by omega) t bad (K:=K) (by omega)
  rw [R08_Read.l0]
  refine ⟨r,?_,h1⟩
  split
  ·rw [if_neg (by omega)];exact e1
  ·exact e1
 | succ d ih =>
  intro i K xs t bad hi hz hl hx hK
  obtain ⟨K,rfl⟩:∃ q,K=q+1+1:=⟨K - 2,by omega⟩
  rw [R08_Read.l0]
  obtain ⟨r,e1,_,h1⟩:=rread_end (a:=a) (b:=b) (c:=c) (g:=g) (e:=e) s many (i:Int) xs hx (by omega) t bad (K:=K+1) (by omega)
  by_cases hm:(i:Int)<many
  ·rw [if_pos hm,if_pos (by omega)]
   cases bad with
   | true=>exact ⟨r,e1,h1⟩
   | false =>
    clear e1 h1
    obtain ⟨t0,u0,c0,e0,z0,m0,_⟩:=text_step (s:=t) (b:=false) hz 16 (by omega) (k:=K) (by omega)
    obtain ⟨t1,u1,c1,e1,z1,m1,_⟩:=text_step (s:=u0) (b:=c0) (by omega) 16 (by omega) (k:=K) (by omega)
    obtain ⟨n,u2,c2,e2,z2,n2,_⟩:=num_step (s:=u1) (b:=c1) (by omega)
    have z:(⟨#[]⟩:ByteArray).size=0:=rfl
    have hw:IntKind.u64.wrap ((i:Int)+1)=((i+1:Nat):Int):=by rw [wrap_u64 (by omega) (by omega)];omega
    have hlm:(xs.map rw_).length=xs.length:=List.length_map _
    have f0:=rtext_of hz (by decide) (k:=K) (by omega) e0
    have f1:=rtext_of (by omega) (by decide) (k:=K) (by omega) e1
    have f2:=rnum_of (by omega) (k:=K) (by omega) e2
    rw [show (!false)=true from rfl,R08_Read.j1,if_pos rfl,f0,Option.bind_some]
    show ∃ r:Rgot,((R02_Reader_Text.f K u0 c0 16).bind _)=some r∧_
    rw [f1,Option.bind_some]
    show ∃ r:Rgot,((R02_Reader_Number.f K u1 c1 1).bind _)=some r∧_
    rw [f2,Option.bind_some]
    show ∃ r:Rgot,(if (n:Int)=1 then _ else _)=some r∧_
    by_cases n0:(n:Int)=1
    ·rw [if_pos n0,if_pos (by omega),hw]
     have:=ih (i+1) K (xs++[(⟨t0,t1,⟨#[]⟩,((n:Int) == 1)⟩:Wr)]) u2 c2 (by omega) (by omega) (by simp;omega) (by
      intro x hx1
      rcases List.mem_append.1 hx1 with hx1|hx1
      ·exact hx x hx1
      ·rw [List.mem_singleton.1 hx1]
       exact ⟨show t0.size≤_ by omega,show t1.size≤_ by omega,show (⟨#[]⟩:ByteArray).size≤_ by omega⟩) (by omega)
     rw [List.map_append] at this
     exact this
    ·obtain ⟨t2,u3,c3,e3,z3,m3,_⟩:=text_step (s:=u2) (b:=c2) (by omega) 32 (by omega) (k:=K) (by omega)
     have f3:=rtext_of (by omega) (by decide) (k:=K) (by omega) e3
     rw [if_neg n0]
     show ∃ r:Rgot,((R02_Reader_Text.f K u2 c2 32).bind _)=some r∧_
     rw [f3,Option.bind_some,if_pos (by omega),hw]
     have:=ih (i+1) K (xs++[(⟨t0,t1,t2,((n:Int) == 1)⟩:Wr)]) u3 c3 (by omega) (by omega) (by simp;omega) (by
      intro x hx1
      rcases List.mem_append.1 hx1 with hx1|hx1
      ·exact hx x hx1
      ·rw [List.mem_singleton.1 hx1]
       exact ⟨show t0.size≤_ by omega,show t1.size≤_ by omega,show t2.size≤_ by omega⟩) (by omega)
     rw [List.map_append] at this
     exact this
  ·rw [if_neg hm]
   exact ⟨r,e1,h1⟩
theorem wr_read {y:Wr} (hok:okw y=true) {t w:ByteArray} (hz:t.size≤9223372036854775807) (ht:bl t=WL y++bl w) {K:Nat} (hK:22≤K) :
  ∃ (u0 u1 u2:ByteArray) (n:Nat),pack_Reader_Text.f K t false 16=some (y.f0,u0,false)∧u0.size≤t.size∧pack_Reader_Text.f K u0 false 16=some (y.f1,u1,false)∧u1.size≤t.size∧pack_Reader_Number.f u1 false 1=some ((n:Int),u2,false)∧u2.size≤t.size ∧
   ((y.f3=true∧n=1∧u2=w∧y.f2=⟨#[]⟩)∨(y.f3=false∧n=0∧pack_Reader_Text.f K u2 false 32=some (y.f2,w,false)))∧w.size≤t.size:=by
 have hs:=okw_size hok
 have hg:=gone_nil hok
 obtain ⟨y0,y1,y2,y3⟩:=y
 have hs:y0.size≤16∧y1.size≤16∧y2.size≤32:=hs
 have eW:WL (⟨y0,y1,y2,y3⟩:Wr)=vary y0.size++(bl y0++(vary y1.size++(bl y1++(if y3=true then [1] else 0 :: (vary y2.size++bl y2))))):=rfl
 rw [eW] at ht
 simp only [List.append_assoc] at ht
 cases y3 with
 | true =>
  obtain rfl:y2=⟨#[]⟩:=hg rfl
  have r0:bl (vs y1.size++y1++((⟨#[1]⟩:ByteArray)++w))=vary y1.size++(bl y1++(1 :: bl w)):=by simp only [bl_append,bl_vs,List.append_assoc];rfl
  have ht':bl t=vary y0.size++bl y0++bl (vs y1.size++y1++((⟨#[1]⟩:ByteArray)++w)):=by
   rw [ht,r0,List.append_assoc]
   simp
  have hlen:=congrArg List.length ht'
  simp only [List.length_append,bl_length] at hlen
  have e0:=ReaderText_good (most:=16) hz ht' (by omega) (k:=K) (by omega)
  have r1:bl ((⟨#[1]⟩:ByteArray)++w)=1 :: bl w:=by rw [bl_append];rfl
  have e1:=ReaderText_good (s:=vs y1.size++y1++((⟨#[1]⟩:ByteArray)++w)) (t:=y1) (rest:=(⟨#[1]⟩:ByteArray)++w) (most:=16) (by omega) (by rw [r0,r1,List.append_assoc]) (by omega) (k:=K) (by omega)
  have hlen2:=congrArg List.length r0
  simp only [List.length_append,bl_length,List.length_cons] at hlen2
  have hlen3:=congrArg List.length r1
  simp only [bl_length,List.length_cons] at hlen3
  have e2:=num_good (s:=(⟨#[1]⟩:ByteArray)++w) (u:=w) (n:=1) (by omega) r1
  exact ⟨_,_,_,1,e0,by omega,e1,by omega,e2,by omega,Or.inl ⟨rfl,rfl,rfl,rfl⟩,by omega⟩
 | false =>
  obtain ⟨w2,hw2⟩:∃ w2:ByteArray,w2=vs y2.size++y2++w:=⟨_,rfl⟩
  have hb2:bl w2=vary y2.size++bl y2++bl w:=by rw [hw2];simp only [bl_append,bl_vs]
  have r0:bl (vs y1.size++y1++((⟨#[0]⟩:ByteArray)++w2))=vary y1.size++(bl y1++(0 :: bl w2)):=by simp only [bl_append,bl_vs,List.append_assoc];rfl
  have ht':bl t=vary y0.size++bl y0++bl (vs y1.size++y1++((⟨#[0]⟩:ByteArray)++w2)):=by
   rw [ht,r0,hb2,List.append_assoc]
   simp
  have hlen:=congrArg List.length ht'
  simp only [List.length_append,bl_length] at hlen
  have e0:=ReaderText_good (most:=16) hz ht' (by omega) (k:=K) (by omega)
  have r1:bl ((⟨#[0]⟩:ByteArray)++w2)=0 :: bl w2:=by rw [bl_append];rfl
  have e1:=ReaderText_good (s:=vs y1.size++y1++((⟨#[0]⟩:ByteArray)++w2)) (t:=y1) (rest:=(⟨#[0]⟩:ByteArray)++w2) (most:=16) (by omega) (by rw [r0,r1,List.append_assoc]) (by omega) (k:=K) (by omega)
  have hlen2:=congrArg List.length r0
  simp only [List.length_append,bl_length,List.length_cons] at hlen2
  have hlen3:=congrArg List.length r1
  simp only [bl_length,List.length_cons] at hlen3
  have hlen4:=congrArg List.length hb2
  simp only [List.length_append,bl_length] at hlen4
  have e2:=num_good (s:=(⟨#[0]⟩:ByteArray)++w2) (u:=w2) (n:=0) (by omega) r1
  have e3:=ReaderText_good (s:=w2) (t:=y2) (rest:=w) (most:=32) (by omega) hb2 (by omega) (k:=K) (by omega)
  exact ⟨_,_,_,0,e0,by omega,e1,by omega,e2,by omega,Or.inr ⟨rfl,rfl,e3⟩,by omega⟩
theorem rread_good {a b c g e:Nat} {s:ByteArray} {xs:List Wr} (hw:wh a b c g e xs=true) (hs:bl s=TL a b c g e xs):∀ (ys acc:List Wr) (K:Nat) (t:ByteArray),acc++ys=xs→t.size≤9223372036854775807→bl t=ys.flatMap WL→2 * ys.length+400≤K →
  R08_Read.l0 K s (xs.length:Int) (acc.length:Int) t false a b c g e (acc.map rw_)=some ((a:Int),(b:Int),(c:Int),(g:Int),(e:Int),xs.map rw_,true):=by
 obtain ⟨_,h0,h8,_,hok⟩:=wh_true hw
 intro ys
 induction ys with
 | nil =>
  intro acc K t ha hz ht hK
  rw [List.append_nil] at ha
  subst ha
  obtain ⟨K,rfl⟩:∃ q,K=q+1:=⟨K - 1,by omega⟩
  obtain ⟨r,e1,h1,_⟩:=rread_end (a:=a) (b:=b) (c:=c) (g:=g) (e:=e) s (acc.length:Int) (acc.length:Int) acc (fun x hx=>fits_ok (hok x hx)) (by omega) t false (K:=K) (by simp at hK;omega)
  rw [R08_Read.l0,if_neg (by omega),e1,h1 hw hs]
 | cons y ys ih =>
  intro acc K t ha hz ht hK
  obtain ⟨K,rfl⟩:∃ q,K=q+1+1:=⟨K - 2,by omega⟩
  have hln:acc.length+(ys.length+1)=xs.length:=by rw [← ha];simp
  have hya:okw y=true:=hok y (by rw [← ha];simp)
  obtain ⟨w,hwz⟩:∃ w:ByteArray,bl w=ys.flatMap WL:=⟨enc ⟨#[]⟩ ys,by rw [bl_enc];rfl⟩
  rw [List.flatMap_cons,← hwz] at ht
  rw [List.length_cons] at hK
  obtain ⟨u0,u1,u2,n,e0,z0,e1,z1,e2,z2,h3,z3⟩:=wr_read hya hz ht (K:=K) (by omega)
  have hwr:IntKind.u64.wrap ((acc.length:Int)+1)=(((acc++[y]).length:Nat):Int):=by rw [wrap_u64 (by omega) (by omega),List.length_append];rfl
  have hlm:(acc.map rw_).length=acc.length:=List.length_map _
  have f0:=rtext_of hz (by decide) (k:=K) (by omega) e0
  have f1:=rtext_of (by omega) (by decide) (k:=K) (by omega) e1
  have f2:=rnum_of (by omega) (k:=K) (by omega) e2
  have next:=ih (acc++[y]) K w (by rw [← ha];simp) (by omega) hwz (by omega)
  rw [List.map_append] at next
  rw [R08_Read.l0,if_pos (by omega),if_pos (by omega),show (!false)=true from rfl,R08_Read.j1,if_pos rfl,f0,Option.bind_some]
  show ((R02_Reader_Text.f K u0 false 16).bind _)=_
  rw [f1,Option.bind_some]
  show ((R02_Reader_Number.f K u1 false 1).bind _)=_
  rw [f2,Option.bind_some]
  show (if (n:Int)=1 then _ else _)=_
  obtain ⟨y0,y1,y2,y3⟩:=y
  rcases h3 with ⟨q1,q2,q3,q4⟩|⟨q1,q2,q3⟩
  ·subst q2 q3
   obtain rfl:y3=true:=q1
   obtain rfl:y2=⟨#[]⟩:=q4
   rw [if_pos (show ((1:Nat):Int)=1 from rfl),if_pos (by omega),hwr]
   exact next
  ·subst q2
   obtain rfl:y3=false:=q1
   have f3:=rtext_of (by omega) (by decide) (k:=K) (by omega) q3
   rw [if_neg (by simp)]
   show ((R02_Reader_Text.f K u2 false 32).bind _)=_
   rw [f3,Option.bind_some,if_pos (by omega),hwr]
   exact next
theorem rsget_of {s:ByteArray} {b:Bool} {r:Int × Int × Int × Int × Int × ByteArray × Bool} (hz:s.size≤9223372036854775807) {k:Nat} (hk:34≤k) (h:stamp_Get.f k s b=some r):R07_Get.f k s b=some r:=by
 obtain ⟨q,e1,e2⟩:=sget_same (b:=b) hz hk
 rw [h] at e1
 rw [e2,e1]
theorem rread_any {s:ByteArray} (hz:s.size≤9223372036854775807) {k:Nat} (hk:600≤k) :
  ∃ r:Rgot,R08_Read.f k s=some r∧(r=(0,0,0,0,0,[],false)∨∃ (a b c g e:Nat) (ys:List Wr),wh a b c g e ys=true∧bl s=TL a b c g e ys):=by
 obtain ⟨v0,v1,v2,v3,v4,t,c,e1,z1,h1,h2⟩:=sget_step (s:=s) (b:=false) hz (k:=k) (by omega)
 have f1:=rsget_of hz (k:=k) (by omega) e1
 obtain ⟨n,u,d,e2,z2,n2,_⟩:=num_step (s:=t) (b:=c) (by omega)
 have f2:=rnum_of (by omega) (k:=k) (by omega) e2
 have hv:∃ m0 m1 m2 m3 m4:Nat,v0=m0∧v1=m1∧v2=m2∧v3=m3∧v4=m4:=by
  cases c with
  | true =>
   obtain ⟨g0,g1,g2,g3,g4⟩:=h2 rfl
   exact ⟨0,0,0,0,0,g0,g1,g2,g3,g4⟩
  | false =>
   obtain ⟨_,n0,n1,n2,n3,dc,_,_,g0,g1,g2,g3,g4⟩:=h1 rfl
   exact ⟨n0,n1,n2,n3,dc,g0,g1,g2,g3,g4⟩
 obtain ⟨m0,m1,m2,m3,m4,rfl,rfl,rfl,rfl,rfl⟩:=hv
 obtain ⟨r,e3,h3⟩:=rread_loop (a:=m0) (b:=m1) (c:=m2) (g:=m3) (e:=m4) s (n:Int) 9 0 k [] u d (by omega) (by omega) (by simp) (by simp) (by omega)
 unfold R08_Read.f
 rw [f1,Option.bind_some]
 show ∃ r:Rgot,(R02_Reader_Number.f k t c 1).bind _=some r∧_
 rw [f2,Option.bind_some]
 refine ⟨r,e3,h3.elim Or.inl (fun h=>Or.inr ?_)⟩
 obtain ⟨ys,q1,q2,_⟩:=h
 exact ⟨m0,m1,m2,m3,m4,ys,q1,q2⟩
theorem rread_txn {a b c g e:Nat} {xs:List Wr} {s:ByteArray} (h:wh a b c g e xs=true) (hs:bl s=TL a b c g e xs) (hz:s.size≤9223372036854775807) {k:Nat} (hk:600≤k) :
  R08_Read.f k s=some ((a:Int),(b:Int),(c:Int),(g:Int),(e:Int),xs.map rw_,true):=by
 obtain ⟨hS,h0,h8,_,hok⟩:=wh_true h
 have hd:=okS_dc hS
 obtain ⟨u,hu⟩:∃ u:ByteArray,bl u=xs.flatMap WL:=⟨enc ⟨#[]⟩ xs,by rw [bl_enc];rfl⟩
 have hnu:bl (nb xs.length 1++u)=xs.length :: bl u:=by rw [bl_append,bl_nb,be_small (by omega)];rfl
 have hs':bl s=be 1 e++rv a b c g++bl (nb xs.length 1++u):=by
  rw [hs,hnu,hu,be_small (by omega)]
  unfold TL
  simp
 have hlen:=congrArg List.length hs'
 simp only [List.length_append,bl_length] at hlen
 have hlen2:=congrArg List.length hnu
 simp only [bl_length,List.length_cons] at hlen2
 have e1:=rsget_of hz (k:=k) (by omega) (sget_good (s:=s) (rest:=nb xs.length 1++u) hz hs' hS (k:=k) (by omega))
 have e2:=rnum_of (by omega) (k:=k) (by omega) (num_good (s:=nb xs.length 1++u) (u:=u) (n:=xs.length) (by omega) hnu)
 have e3:=rread_good h hs xs [] k u rfl (by omega) hu (by omega)
 unfold R08_Read.f
 rw [e1,Option.bind_some]
 show (R02_Reader_Number.f k (nb xs.length 1++u) false 1).bind _=_
 rw [e2,Option.bind_some]
 exact e3
end Go.Proofs.Ytoagfdpgnfinhaa.Pure
