import Derived.Test.YtoagfdpgnfinhaaProg
import Derived.Below
import Derived.Deep.Draws
import Derived.Deep.AppendLies
import Derived.Maps.AppendAt
import Derived.OwnWalk
import Derived.Laws.BytesArg
import Derived.Laws.MakeOwn
import Derived.Laws.OwnMore
import Derived.Deep.OwnRows
import Derived.Tactics
import Derived.Lib.ConvBytes
import Derived.Laws.Slices
import Derived.WalkKit
import Derived.KernelRfl
import Derived.RowKit3
import Derived.Deep.LoopGhost
import Derived.Deep.QuietTactic
import Derived.BigQuiet
import Derived.WideLaws
import Derived.Deep.DeepCutAuto
import Derived.Deep.CutBlock
import Derived.Deep.RegionHeld3
import Derived.Laws.Rows
import Derived.Lib.AppendStr
import Derived.ArgAppend
import Derived.Laws.IdiomCopy
import Derived.OrdersHeld
import Derived.Laws.BitsLemmas
import Derived.RowKit
import Derived.LoopN
import Derived.StillTailTactics
import Derived.Test.YtoagfdpgnfinhaaGStreamGets1
import Derived.Maps.OwnSet
import Derived.DeepKeys4
namespace Go.Proofs.Ytoagfdpgnfinhaa.Q
open Go.RowKit Go.Proofs.YtoagfdpgnfinhaaW.PrintWords Go.Proofs.YtoagfdpgnfinhaaW.PrintLast Go.Proofs.YtoagfdpgnfinhaaW.PrintMore
def mB_ (n k:Nat):Array Bool:=((List.range n).map k.testBit).toArray
attribute [local go_sem] max2_int min2_int max_two min_two max_three min_three max_four min_four   -- for this text's walks alone
set_option linter.unusedVariables false
set_option linter.unusedSimpArgs false
def errW:Option Int→Value
 | none=>.nilIface
 | some c=>.iface 0 (.int .i64 c)
theorem errW_none:errW none = .nilIface:=rfl
theorem errW_some (c:Int):errW (some c) = .iface 0 (.int .i64 c):=rfl
theorem info5:(Try.prog.info? 5).map (fun i=>(i.zero,i.size,i.bytes))=some (some (.int .u8 0),1,1):=by kernel_rfl
theorem info107:(Try.prog.info? 107).map (fun i=>(i.zero,i.size,i.bytes))=some (some (.agg #[(.string ⟨#[]⟩),(.string ⟨#[]⟩),(.string ⟨#[]⟩),(.bool false)]),4,56):=by kernel_rfl
theorem info117:(Try.prog.info? 117).map (fun i=>(i.zero,i.size,i.bytes))=some (some (.agg #[(.string ⟨#[]⟩),(.string ⟨#[]⟩),(.string ⟨#[]⟩),(.bool false)]),4,56):=by kernel_rfl
structure S107 where
 f0:ByteArray
 f1:ByteArray
 f2:ByteArray
 f3:Bool
def z107:S107:=⟨(⟨#[]⟩:ByteArray),(⟨#[]⟩:ByteArray),(⟨#[]⟩:ByteArray),false⟩
def k107:Kd S107:=Kd.iso (Kd.pair Kd.string (Kd.pair Kd.string (Kd.pair Kd.string Kd.bool))) (fun x:S107=>(x.f0,x.f1,x.f2,x.f3))
theorem k107_open {w:World} {x:S107} {cs:List Value} (h:k107.K w x cs):cs=[.string x.f0,.string x.f1,.string x.f2,.bool x.f3]:=by
 obtain ⟨_,_,rfl,rfl,⟨_,_,rfl,rfl,⟨_,_,rfl,rfl,rfl⟩⟩⟩:=h
 exact rfl
theorem k107_mkM (w:World) (base:Nat) (ok:Nat→Prop) (x:S107) :k107.M w base ok x [.string x.f0,.string x.f1,.string x.f2,.bool x.f3]:=⟨[.string x.f0],[.string x.f1,.string x.f2,.bool x.f3],rfl,rfl,⟨[.string x.f1],[.string x.f2,.bool x.f3],rfl,rfl,⟨[.string x.f2],[.bool x.f3],rfl,rfl,rfl⟩⟩⟩
def rd_T107 (xs:List S107) (i:Int):S107:=xs.getD i.toNat z107
theorem at_T107 {w:World} {A:Option Addr} {n:Nat} {xs:List S107} (h:Kd.C k107 w A n xs) (i:Int) (h0:0≤i) (h1:i<n):∃ ad ,A=some ad∧w.cell? (ad.add (i.toNat * 4))=some (.string (rd_T107 xs i).f0)∧w.cell? ⟨(ad.add (i.toNat * 4)).block,(ad.add (i.toNat * 4)).off+1,none⟩=some (.string (rd_T107 xs i).f1)∧w.cell? ⟨(ad.add (i.toNat * 4)).block,(ad.add (i.toNat * 4)).off+2,none⟩=some (.string (rd_T107 xs i).f2)∧w.cell? ⟨(ad.add (i.toNat * 4)).block,(ad.add (i.toNat * 4)).off+3,none⟩=some (.bool (rd_T107 xs i).f3):=by
 obtain ⟨ad,c,e,_,hK,hc0⟩:=Kd.C_get h z107 i h0 h1
 have hc:∀ j u,c[j]?=some u→w.cell? (ad.add (i.toNat * 4+j))=some u:=hc0
 obtain rfl:=k107_open hK
 exact ⟨ad,e,hc 0 _ rfl,by rw [← add_field _ _ 1 (by omega)];exact hc 1 _ rfl,by rw [← add_field _ _ 2 (by omega)];exact hc 2 _ rfl,by rw [← add_field _ _ 3 (by omega)];exact hc 3 _ rfl⟩
structure S28 where
 f0:Int
 f1:Int
 f2:Int
 f3:Int
def k28:Kd S28:=Kd.iso (Kd.pair (Kd.int .u64) (Kd.pair (Kd.int .u64) (Kd.pair (Kd.int .u64) (Kd.int .u64)))) (fun x:S28=>(x.f0,x.f1,x.f2,x.f3))
theorem k28_open {w:World} {x:S28} {cs:List Value} (h:k28.K w x cs):cs=[.int .u64 x.f0,.int .u64 x.f1,.int .u64 x.f2,.int .u64 x.f3]:=by
 obtain ⟨_,_,rfl,rfl,⟨_,_,rfl,rfl,⟨_,_,rfl,rfl,rfl⟩⟩⟩:=h
 exact rfl
structure S30 where
 f0:S28
 f1:Int
def k30:Kd S30:=Kd.iso (Kd.pair k28 (Kd.int .i64)) (fun x:S30=>(x.f0,x.f1))
theorem k30_open {w:World} {x:S30} {cs:List Value} (h:k30.K w x cs):cs=[.int .u64 x.f0.f0,.int .u64 x.f0.f1,.int .u64 x.f0.f2,.int .u64 x.f0.f3,.int .i64 x.f1]:=by
 obtain ⟨_,_,rfl,s0,rfl⟩:=h
 obtain rfl:=k28_open s0
 exact rfl
structure S117 where
 f0:ByteArray
 f1:ByteArray
 f2:ByteArray
 f3:Bool
def z117:S117:=⟨(⟨#[]⟩:ByteArray),(⟨#[]⟩:ByteArray),(⟨#[]⟩:ByteArray),false⟩
def k117:Kd S117:=Kd.iso (Kd.pair Kd.string (Kd.pair Kd.string (Kd.pair Kd.string Kd.bool))) (fun x:S117=>(x.f0,x.f1,x.f2,x.f3))
theorem k117_open {w:World} {x:S117} {cs:List Value} (h:k117.K w x cs):cs=[.string x.f0,.string x.f1,.string x.f2,.bool x.f3]:=by
 obtain ⟨_,_,rfl,rfl,⟨_,_,rfl,rfl,⟨_,_,rfl,rfl,rfl⟩⟩⟩:=h
 exact rfl
theorem k117_mkM (w:World) (base:Nat) (ok:Nat→Prop) (x:S117) :k117.M w base ok x [.string x.f0,.string x.f1,.string x.f2,.bool x.f3]:=⟨[.string x.f0],[.string x.f1,.string x.f2,.bool x.f3],rfl,rfl,⟨[.string x.f1],[.string x.f2,.bool x.f3],rfl,rfl,⟨[.string x.f2],[.bool x.f3],rfl,rfl,rfl⟩⟩⟩
def rd_T117 (xs:List S117) (i:Int):S117:=xs.getD i.toNat z117
theorem at_T117 {w:World} {A:Option Addr} {n:Nat} {xs:List S117} (h:Kd.C k117 w A n xs) (i:Int) (h0:0≤i) (h1:i<n):∃ ad ,A=some ad∧w.cell? (ad.add (i.toNat * 4))=some (.string (rd_T117 xs i).f0)∧w.cell? ⟨(ad.add (i.toNat * 4)).block,(ad.add (i.toNat * 4)).off+1,none⟩=some (.string (rd_T117 xs i).f1)∧w.cell? ⟨(ad.add (i.toNat * 4)).block,(ad.add (i.toNat * 4)).off+2,none⟩=some (.string (rd_T117 xs i).f2)∧w.cell? ⟨(ad.add (i.toNat * 4)).block,(ad.add (i.toNat * 4)).off+3,none⟩=some (.bool (rd_T117 xs i).f3):=by
 obtain ⟨ad,c,e,_,hK,hc0⟩:=Kd.C_get h z117 i h0 h1
 have hc:∀ j u,c[j]?=some u→w.cell? (ad.add (i.toNat * 4+j))=some u:=hc0
 obtain rfl:=k117_open hK
 exact ⟨ad,e,hc 0 _ rfl,by rw [← add_field _ _ 1 (by omega)];exact hc 1 _ rfl,by rw [← add_field _ _ 2 (by omega)];exact hc 2 _ rfl,by rw [← add_field _ _ 3 (by omega)];exact hc 3 _ rfl⟩
structure S159 where
 f0:S107
 f1:Bool
 f2:Int
def z159:S159:=⟨z107,false,(0:Int)⟩
def k159:Kd S159:=Kd.iso (Kd.pair k107 (Kd.pair Kd.bool (Kd.int .u8))) (fun x:S159=>(x.f0,x.f1,x.f2))
theorem k159_open {w:World} {x:S159} {cs:List Value} (h:k159.K w x cs):cs=[.string x.f0.f0,.string x.f0.f1,.string x.f0.f2,.bool x.f0.f3,.bool x.f1,.int .u8 x.f2]:=by
 obtain ⟨_,_,rfl,s0,⟨_,_,rfl,rfl,rfl⟩⟩:=h
 obtain rfl:=k107_open s0
 exact rfl
def rd_T159 (xs:List S159) (i:Int):S159:=xs.getD i.toNat z159
theorem at_T159 {w:World} {A:Option Addr} {n:Nat} {xs:List S159} (h:Kd.C k159 w A n xs) (i:Int) (h0:0≤i) (h1:i<n):∃ ad ,A=some ad∧w.cell? (ad.add (i.toNat * 6))=some (.string (rd_T159 xs i).f0.f0)∧w.cell? ⟨(ad.add (i.toNat * 6)).block,(ad.add (i.toNat * 6)).off+1,none⟩=some (.string (rd_T159 xs i).f0.f1)∧w.cell? ⟨(ad.add (i.toNat * 6)).block,(ad.add (i.toNat * 6)).off+2,none⟩=some (.string (rd_T159 xs i).f0.f2)∧w.cell? ⟨(ad.add (i.toNat * 6)).block,(ad.add (i.toNat * 6)).off+3,none⟩=some (.bool (rd_T159 xs i).f0.f3)∧w.cell? ⟨(ad.add (i.toNat * 6)).block,(ad.add (i.toNat * 6)).off+4,none⟩=some (.bool (rd_T159 xs i).f1)∧w.cell? ⟨(ad.add (i.toNat * 6)).block,(ad.add (i.toNat * 6)).off+5,none⟩=some (.int .u8 (rd_T159 xs i).f2):=by
 obtain ⟨ad,c,e,_,hK,hc0⟩:=Kd.C_get h z159 i h0 h1
 have hc:∀ j u,c[j]?=some u→w.cell? (ad.add (i.toNat * 6+j))=some u:=hc0
 obtain rfl:=k159_open hK
 exact ⟨ad,e,hc 0 _ rfl,by rw [← add_field _ _ 1 (by omega)];exact hc 1 _ rfl,by rw [← add_field _ _ 2 (by omega)];exact hc 2 _ rfl,by rw [← add_field _ _ 3 (by omega)];exact hc 3 _ rfl,by rw [← add_field _ _ 4 (by omega)];exact hc 4 _ rfl,by rw [← add_field _ _ 5 (by omega)];exact hc 5 _ rfl⟩
structure S39 where
 f0:S30
 f1:Bool
def k39:Kd S39:=Kd.iso (Kd.pair k30 Kd.bool) (fun x:S39=>(x.f0,x.f1))
theorem k39_open {w:World} {x:S39} {cs:List Value} (h:k39.K w x cs):cs=[.int .u64 x.f0.f0.f0,.int .u64 x.f0.f0.f1,.int .u64 x.f0.f0.f2,.int .u64 x.f0.f0.f3,.int .i64 x.f0.f1,.bool x.f1]:=by
 obtain ⟨_,_,rfl,s0,rfl⟩:=h
 obtain rfl:=k30_open s0
 exact rfl
structure S42 where
 f0:S39
 f1:(List S159)
 f2:Bool
def k42:Kd S42:=Kd.iso (Kd.pair k39 (Kd.pair (Kd.slice 159 k159) Kd.bool)) (fun x:S42=>(x.f0,x.f1,x.f2))
theorem k42_open {w:World} {x:S42} {cs:List Value} (h:k42.K w x cs):∃ A6 c6,cs=[.int .u64 x.f0.f0.f0.f0,.int .u64 x.f0.f0.f0.f1,.int .u64 x.f0.f0.f0.f2,.int .u64 x.f0.f0.f0.f3,.int .i64 x.f0.f0.f1,.bool x.f0.f1,.slice A6 x.f1.length c6,.bool x.f2]∧x.f1.length≤c6∧k159.C w A6 x.f1.length x.f1:=by
 obtain ⟨_,_,rfl,s0,⟨_,_,rfl,⟨A6,c6,rfl,l6,g6⟩,rfl⟩⟩:=h
 obtain rfl:=k39_open s0
 exact ⟨A6,c6,rfl,l6,g6⟩
structure S65 where
 f0:Int
 f1:Int
 f2:Int
 f3:S42
 f4:Bool
def k65:Kd S65:=Kd.iso (Kd.pair (Kd.int .i64) (Kd.pair (Kd.int .i64) (Kd.pair (Kd.int .u64) (Kd.pair k42 Kd.bool)))) (fun x:S65=>(x.f0,x.f1,x.f2,x.f3,x.f4))
theorem k65_open {w:World} {x:S65} {cs:List Value} (h:k65.K w x cs):∃ A9 c9,cs=[.int .i64 x.f0,.int .i64 x.f1,.int .u64 x.f2,.int .u64 x.f3.f0.f0.f0.f0,.int .u64 x.f3.f0.f0.f0.f1,.int .u64 x.f3.f0.f0.f0.f2,.int .u64 x.f3.f0.f0.f0.f3,.int .i64 x.f3.f0.f0.f1,.bool x.f3.f0.f1,.slice A9 x.f3.f1.length c9,.bool x.f3.f2,.bool x.f4]∧x.f3.f1.length≤c9∧k159.C w A9 x.f3.f1.length x.f3.f1:=by
 obtain ⟨_,_,rfl,rfl,⟨_,_,rfl,rfl,⟨_,_,rfl,rfl,⟨_,_,rfl,s3,rfl⟩⟩⟩⟩:=h
 obtain ⟨A9,c9,rfl,l9,g9⟩:=k42_open s3
 exact ⟨A9,c9,rfl,l9,g9⟩
theorem Kb_ {W w1 w2:World} {g:Nat} {o:Obj} (h:Aside0 (W.heap[g]?=some o)) (hb:Below w1.heap.size w1 w2) (e:W.heap[g]?=some o→w1.heap[g]?=some o:=by intro h;(with_reducible repeat (first|refine blk_drewN ?_ _|refine blk_drew ?_|refine blk_alloc ?_ _));exact h):Aside0 (w2.heap[g]?=some o):=⟨blk_below (e h.out) hb⟩
theorem Kl_ {W w1:World} {g g2:Nat} {o:Obj} (h:Aside0 (W.heap[g]?=some o)) (hg:g2=w1.heap.size) (e:W.heap[g]?=some o→w1.heap[g]?=some o:=by intro h;(with_reducible repeat (first|refine blk_drewN ?_ _|refine blk_drew ?_|refine blk_alloc ?_ _));exact h):Aside0 (g ≠ g2):=⟨by rw [hg];exact Nat.ne_of_lt (blk_lt (e h.out))⟩
theorem Kr_ {W w1:World} {g g2:Nat} {o:Obj} (h:Aside0 (W.heap[g]?=some o)) (hg:g2=w1.heap.size) (e:W.heap[g]?=some o→w1.heap[g]?=some o:=by intro h;(with_reducible repeat (first|refine blk_drewN ?_ _|refine blk_drew ?_|refine blk_alloc ?_ _));exact h):Aside0 (g2 ≠ g):=⟨by rw [hg];exact Nat.ne_of_gt (blk_lt (e h.out))⟩
theorem Kd_ {W:World} {g:Nat} {o:Obj} (h:Aside0 (W.heap[g]?=some o)):Aside0 (W.drew.heap[g]?=some o):=⟨blk_drew h.out⟩
theorem Kf_ {W w1 w2:World} {g g2 t:Nat} {cs:Array Value} (h:Aside0 (W.heap[g]?=some (.cells cs t (0,0)))) (n:Aside0 (g ≠ g2)) (hb:Below w1.heap.size w1 w2) (e:W.heap[g]?=some (.cells cs t (0,0))→g ≠ g2→w1.heap[g]?=some (.cells cs t (0,0)):=by intro h n;(repeat (first|(with_reducible first|refine blk_drewN ?_ _|refine blk_drew ?_|refine blk_alloc ?_ _)|refine blk_far ?_ n _));exact h):Aside0 (w2.heap[g]?=some (.cells cs t (0,0))):=⟨blk_below (e h.out n.out) hb⟩
theorem Ks_ {w W w1 w2:World} (h:Aside0 (Below w.heap.size w W)) (hb:Below w1.heap.size w1 w2) (e:Below w.heap.size w W→Below w.heap.size w w1:=by intro h;repeat (first|(with_reducible first|exact h|apply below_alloc|apply pw_below_drewN|apply below_drew1)|exact h)):Aside0 (Below w.heap.size w w2):=⟨below_step (e h.out) hb⟩
theorem Kt_ {w W w1 w2:World} {g:Nat} (h:Aside0 (Below w.heap.size w W)) (n:Aside0 (w.heap.size≤g)) (hb:Below w1.heap.size w1 w2) (e:Below w.heap.size w W→w.heap.size≤g→Below w.heap.size w w1:=by intro h n;repeat (first|(with_reducible first|exact h|apply below_alloc|apply pw_below_drewN|apply below_drew1|refine below_set ?_ n)|exact h)):Aside0 (Below w.heap.size w w2):=⟨below_step (e h.out n.out) hb⟩
theorem Kw_ {w W w1:World} {g2:Nat} (h:Aside0 (Below w.heap.size w W)) (hg:g2=w1.heap.size) (e:Below w.heap.size w W→Below w.heap.size w w1:=by intro h;repeat (first|(with_reducible first|exact h|apply below_alloc|apply pw_below_drewN|apply below_drew1)|exact h)):Aside0 (w.heap.size≤g2):=⟨by rw [hg];exact below_size (e h.out)⟩
theorem Kx_ {w W w1:World} {g g2:Nat} (h:Aside0 (Below w.heap.size w W)) (n:Aside0 (w.heap.size≤g)) (hg:g2=w1.heap.size) (e:Below w.heap.size w W→w.heap.size≤g→Below w.heap.size w w1:=by intro h n;repeat (first|(with_reducible first|exact h|apply below_alloc|apply pw_below_drewN|apply below_drew1|refine below_set ?_ n)|exact h)):Aside0 (w.heap.size≤g2):=⟨by rw [hg];exact below_size (e h.out n.out)⟩
theorem Kc2_ {W:World} {g:Nat} {t:TypeId} {r:List Value} {v0 v1:Value} (h:W.heap[g]?=some (.cells (v0 :: v1 :: r).toArray t (0,0))):W.cell? ⟨g,0,none⟩=some v0∧W.cell? ⟨g,1,none⟩=some v1:=⟨(blk_cell h 0).trans (by simp),(blk_cell h 1).trans (by simp)⟩
theorem Ke2_ {W:World} {g:Nat} {t:TypeId} {r:List Value} {v0 v1:Value} (h:W.heap[g]?=some (.cells (v0 :: v1 :: r).toArray t (0,0))):W.cell? ⟨g,0,none⟩=some v0∧W.cell? ⟨g,1,none⟩=some v1∧W.frozen? ⟨g,0,none⟩=false∧W.frozen? ⟨g,1,none⟩=false:=⟨(blk_cell h 0).trans (by simp),(blk_cell h 1).trans (by simp),blk_frozen h 0,blk_frozen h 1⟩
theorem Kc4_ {W:World} {g:Nat} {t:TypeId} {r:List Value} {v0 v1 v2 v3:Value} (h:W.heap[g]?=some (.cells (v0 :: v1 :: v2 :: v3 :: r).toArray t (0,0))):W.cell? ⟨g,0,none⟩=some v0∧W.cell? ⟨g,1,none⟩=some v1∧W.cell? ⟨g,2,none⟩=some v2∧W.cell? ⟨g,3,none⟩=some v3:=⟨(blk_cell h 0).trans (by simp),(blk_cell h 1).trans (by simp),(blk_cell h 2).trans (by simp),(blk_cell h 3).trans (by simp)⟩
theorem Ke4_ {W:World} {g:Nat} {t:TypeId} {r:List Value} {v0 v1 v2 v3:Value} (h:W.heap[g]?=some (.cells (v0 :: v1 :: v2 :: v3 :: r).toArray t (0,0))):W.cell? ⟨g,0,none⟩=some v0∧W.cell? ⟨g,1,none⟩=some v1∧W.cell? ⟨g,2,none⟩=some v2∧W.cell? ⟨g,3,none⟩=some v3∧W.frozen? ⟨g,0,none⟩=false∧W.frozen? ⟨g,1,none⟩=false∧W.frozen? ⟨g,2,none⟩=false∧W.frozen? ⟨g,3,none⟩=false:=⟨(blk_cell h 0).trans (by simp),(blk_cell h 1).trans (by simp),(blk_cell h 2).trans (by simp),(blk_cell h 3).trans (by simp),blk_frozen h 0,blk_frozen h 1,blk_frozen h 2,blk_frozen h 3⟩
theorem Kc5_ {W:World} {g:Nat} {t:TypeId} {r:List Value} {v0 v1 v2 v3 v4:Value} (h:W.heap[g]?=some (.cells (v0 :: v1 :: v2 :: v3 :: v4 :: r).toArray t (0,0))):W.cell? ⟨g,0,none⟩=some v0∧W.cell? ⟨g,1,none⟩=some v1∧W.cell? ⟨g,2,none⟩=some v2∧W.cell? ⟨g,3,none⟩=some v3∧W.cell? ⟨g,4,none⟩=some v4:=⟨(blk_cell h 0).trans (by simp),(blk_cell h 1).trans (by simp),(blk_cell h 2).trans (by simp),(blk_cell h 3).trans (by simp),(blk_cell h 4).trans (by simp)⟩
theorem Ke5_ {W:World} {g:Nat} {t:TypeId} {r:List Value} {v0 v1 v2 v3 v4:Value} (h:W.heap[g]?=some (.cells (v0 :: v1 :: v2 :: v3 :: v4 :: r).toArray t (0,0))):W.cell? ⟨g,0,none⟩=some v0∧W.cell? ⟨g,1,none⟩=some v1∧W.cell? ⟨g,2,none⟩=some v2∧W.cell? ⟨g,3,none⟩=some v3∧W.cell? ⟨g,4,none⟩=some v4∧W.frozen? ⟨g,0,none⟩=false∧W.frozen? ⟨g,1,none⟩=false∧W.frozen? ⟨g,2,none⟩=false∧W.frozen? ⟨g,3,none⟩=false∧W.frozen? ⟨g,4,none⟩=false:=⟨(blk_cell h 0).trans (by simp),(blk_cell h 1).trans (by simp),(blk_cell h 2).trans (by simp),(blk_cell h 3).trans (by simp),(blk_cell h 4).trans (by simp),blk_frozen h 0,blk_frozen h 1,blk_frozen h 2,blk_frozen h 3,blk_frozen h 4⟩
theorem Kc6_ {W:World} {g:Nat} {t:TypeId} {r:List Value} {v0 v1 v2 v3 v4 v5:Value} (h:W.heap[g]?=some (.cells (v0 :: v1 :: v2 :: v3 :: v4 :: v5 :: r).toArray t (0,0))):W.cell? ⟨g,0,none⟩=some v0∧W.cell? ⟨g,1,none⟩=some v1∧W.cell? ⟨g,2,none⟩=some v2∧W.cell? ⟨g,3,none⟩=some v3∧W.cell? ⟨g,4,none⟩=some v4∧W.cell? ⟨g,5,none⟩=some v5:=⟨(blk_cell h 0).trans (by simp),(blk_cell h 1).trans (by simp),(blk_cell h 2).trans (by simp),(blk_cell h 3).trans (by simp),(blk_cell h 4).trans (by simp),(blk_cell h 5).trans (by simp)⟩
theorem Ke6_ {W:World} {g:Nat} {t:TypeId} {r:List Value} {v0 v1 v2 v3 v4 v5:Value} (h:W.heap[g]?=some (.cells (v0 :: v1 :: v2 :: v3 :: v4 :: v5 :: r).toArray t (0,0))):W.cell? ⟨g,0,none⟩=some v0∧W.cell? ⟨g,1,none⟩=some v1∧W.cell? ⟨g,2,none⟩=some v2∧W.cell? ⟨g,3,none⟩=some v3∧W.cell? ⟨g,4,none⟩=some v4∧W.cell? ⟨g,5,none⟩=some v5∧W.frozen? ⟨g,0,none⟩=false∧W.frozen? ⟨g,1,none⟩=false∧W.frozen? ⟨g,2,none⟩=false∧W.frozen? ⟨g,3,none⟩=false∧W.frozen? ⟨g,4,none⟩=false∧W.frozen? ⟨g,5,none⟩=false:=⟨(blk_cell h 0).trans (by simp),(blk_cell h 1).trans (by simp),(blk_cell h 2).trans (by simp),(blk_cell h 3).trans (by simp),(blk_cell h 4).trans (by simp),(blk_cell h 5).trans (by simp),blk_frozen h 0,blk_frozen h 1,blk_frozen h 2,blk_frozen h 3,blk_frozen h 4,blk_frozen h 5⟩
theorem Kc8_ {W:World} {g:Nat} {t:TypeId} {r:List Value} {v0 v1 v2 v3 v4 v5 v6 v7:Value} (h:W.heap[g]?=some (.cells (v0 :: v1 :: v2 :: v3 :: v4 :: v5 :: v6 :: v7 :: r).toArray t (0,0))):W.cell? ⟨g,0,none⟩=some v0∧W.cell? ⟨g,1,none⟩=some v1∧W.cell? ⟨g,2,none⟩=some v2∧W.cell? ⟨g,3,none⟩=some v3∧W.cell? ⟨g,4,none⟩=some v4∧W.cell? ⟨g,5,none⟩=some v5∧W.cell? ⟨g,6,none⟩=some v6∧W.cell? ⟨g,7,none⟩=some v7:=⟨(blk_cell h 0).trans (by simp),(blk_cell h 1).trans (by simp),(blk_cell h 2).trans (by simp),(blk_cell h 3).trans (by simp),(blk_cell h 4).trans (by simp),(blk_cell h 5).trans (by simp),(blk_cell h 6).trans (by simp),(blk_cell h 7).trans (by simp)⟩
theorem Ke8_ {W:World} {g:Nat} {t:TypeId} {r:List Value} {v0 v1 v2 v3 v4 v5 v6 v7:Value} (h:W.heap[g]?=some (.cells (v0 :: v1 :: v2 :: v3 :: v4 :: v5 :: v6 :: v7 :: r).toArray t (0,0))):W.cell? ⟨g,0,none⟩=some v0∧W.cell? ⟨g,1,none⟩=some v1∧W.cell? ⟨g,2,none⟩=some v2∧W.cell? ⟨g,3,none⟩=some v3∧W.cell? ⟨g,4,none⟩=some v4∧W.cell? ⟨g,5,none⟩=some v5∧W.cell? ⟨g,6,none⟩=some v6∧W.cell? ⟨g,7,none⟩=some v7∧W.frozen? ⟨g,0,none⟩=false∧W.frozen? ⟨g,1,none⟩=false∧W.frozen? ⟨g,2,none⟩=false∧W.frozen? ⟨g,3,none⟩=false∧W.frozen? ⟨g,4,none⟩=false∧W.frozen? ⟨g,5,none⟩=false∧W.frozen? ⟨g,6,none⟩=false∧W.frozen? ⟨g,7,none⟩=false:=⟨(blk_cell h 0).trans (by simp),(blk_cell h 1).trans (by simp),(blk_cell h 2).trans (by simp),(blk_cell h 3).trans (by simp),(blk_cell h 4).trans (by simp),(blk_cell h 5).trans (by simp),(blk_cell h 6).trans (by simp),(blk_cell h 7).trans (by simp),blk_frozen h 0,blk_frozen h 1,blk_frozen h 2,blk_frozen h 3,blk_frozen h 4,blk_frozen h 5,blk_frozen h 6,blk_frozen h 7⟩
theorem Kc9_ {W:World} {g:Nat} {t:TypeId} {r:List Value} {v0 v1 v2 v3 v4 v5 v6 v7 v8:Value} (h:W.heap[g]?=some (.cells (v0 :: v1 :: v2 :: v3 :: v4 :: v5 :: v6 :: v7 :: v8 :: r).toArray t (0,0))):W.cell? ⟨g,0,none⟩=some v0∧W.cell? ⟨g,1,none⟩=some v1∧W.cell? ⟨g,2,none⟩=some v2∧W.cell? ⟨g,3,none⟩=some v3∧W.cell? ⟨g,4,none⟩=some v4∧W.cell? ⟨g,5,none⟩=some v5∧W.cell? ⟨g,6,none⟩=some v6∧W.cell? ⟨g,7,none⟩=some v7∧W.cell? ⟨g,8,none⟩=some v8:=⟨(blk_cell h 0).trans (by simp),(blk_cell h 1).trans (by simp),(blk_cell h 2).trans (by simp),(blk_cell h 3).trans (by simp),(blk_cell h 4).trans (by simp),(blk_cell h 5).trans (by simp),(blk_cell h 6).trans (by simp),(blk_cell h 7).trans (by simp),(blk_cell h 8).trans (by simp)⟩
theorem Ke9_ {W:World} {g:Nat} {t:TypeId} {r:List Value} {v0 v1 v2 v3 v4 v5 v6 v7 v8:Value} (h:W.heap[g]?=some (.cells (v0 :: v1 :: v2 :: v3 :: v4 :: v5 :: v6 :: v7 :: v8 :: r).toArray t (0,0))):W.cell? ⟨g,0,none⟩=some v0∧W.cell? ⟨g,1,none⟩=some v1∧W.cell? ⟨g,2,none⟩=some v2∧W.cell? ⟨g,3,none⟩=some v3∧W.cell? ⟨g,4,none⟩=some v4∧W.cell? ⟨g,5,none⟩=some v5∧W.cell? ⟨g,6,none⟩=some v6∧W.cell? ⟨g,7,none⟩=some v7∧W.cell? ⟨g,8,none⟩=some v8∧W.frozen? ⟨g,0,none⟩=false∧W.frozen? ⟨g,1,none⟩=false∧W.frozen? ⟨g,2,none⟩=false∧W.frozen? ⟨g,3,none⟩=false∧W.frozen? ⟨g,4,none⟩=false∧W.frozen? ⟨g,5,none⟩=false∧W.frozen? ⟨g,6,none⟩=false∧W.frozen? ⟨g,7,none⟩=false∧W.frozen? ⟨g,8,none⟩=false:=⟨(blk_cell h 0).trans (by simp),(blk_cell h 1).trans (by simp),(blk_cell h 2).trans (by simp),(blk_cell h 3).trans (by simp),(blk_cell h 4).trans (by simp),(blk_cell h 5).trans (by simp),(blk_cell h 6).trans (by simp),(blk_cell h 7).trans (by simp),(blk_cell h 8).trans (by simp),blk_frozen h 0,blk_frozen h 1,blk_frozen h 2,blk_frozen h 3,blk_frozen h 4,blk_frozen h 5,blk_frozen h 6,blk_frozen h 7,blk_frozen h 8⟩
theorem Ky_ {w W w1:World} (h:Aside0 (Below w.heap.size w W)) (e:Below w.heap.size w W→Below w.heap.size w w1:=by intro h;repeat (first|(with_reducible first|exact h|apply below_alloc|apply pw_below_drewN|apply below_drew1)|exact h)):Below w.heap.size w w1:=e h.out
theorem Kz_ {w W w1:World} {g:Nat} (h:Aside0 (Below w.heap.size w W)) (n:Aside0 (w.heap.size≤g)) (e:Below w.heap.size w W→w.heap.size≤g→Below w.heap.size w w1:=by intro h n;repeat (first|(with_reducible first|exact h|apply below_alloc|apply pw_below_drewN|apply below_drew1|refine below_set ?_ n)|exact h)):Below w.heap.size w w1:=e h.out n.out
theorem Kq_ {W w1:World} {g:Nat} {o:Obj} (h:Aside0 (W.heap[g]?=some o)) (e:W.heap[g]?=some o→w1.heap[g]?=some o:=by intro h;(with_reducible repeat (first|refine blk_drewN ?_ _|refine blk_drew ?_|refine blk_alloc ?_ _));exact h):w1.heap[g]?=some o:=e h.out
theorem Kv_ {W w1:World} {g:Nat} {o:Obj} (h:W.heap[g]?=some o) (e:W.heap[g]?=some o→w1.heap[g]?=some o:=by intro h;(with_reducible repeat (first|refine blk_drewN ?_ _|refine blk_drew ?_|refine blk_alloc ?_ _));exact h):w1.heap[g]?=some o:=e h
theorem Ku_ {α:Type} {d:Kd α} {e base:Nat} {ok:Nat→Prop} {W w1:World} {v:Value} {xs:List α} (h:Aside0 (d.R e W base ok v xs)) (q:d.R e W base ok v xs→d.R e w1 base ok v xs:=by intro h;(with_reducible repeat (first|apply Kd.R_alloc|apply Kd.R_drewN|apply Kd.R_drew));exact h):d.R e w1 base ok v xs:=q h.out
theorem Kh_ {p:Prop} (h:p:=by first|rfl|(simp [errW_none,errW_some] <;> rfl)|(simp [*,errW_none,errW_some] <;> rfl)):p:=h
theorem Kg_ {P : Program} {ops : Array Oper} {Q : Exit → Act → World → Prop} {rest : List Oper} {oi : Oper} {a : Act} {w : World} (N : Option Tmp) (hd : oi.dst = N) (hg : oi.guard = none) {f : FuncId} {fn : Func} {as0 : Array Operand} {ts : Array TypeId} (hf : P.funcs[f]? = some fn) (hname : (fn.name == "runtime.NumGoroutine") = false) (hb : fn.body.isSome = true) (args : Array Value)
  (hop:oi.op = .call { callee:=.value (.func f),args:=as0,argTypes:=ts }) (h:Calls P f args w fun e w'=>∃ v,e = .returned v∧wpList P ops Q rest (a.put N v) w') (hargs:as0.map a.eval=args:=by (try simp only [List.map_toArray,List.map_cons,List.map_nil]);first|done|rfl|(simp only [List.length_drop,List.length_take];rfl)):wpList P ops Q (oi :: rest) a w :=
 goesL_ N hd hg hf hname hb args hop hargs h
theorem Kp_ {P:Program} {md:Region.Mode} {ops:Array Oper} {Q:Exit→Act→World→Prop} {S:World→Prop} {ds:List Nat} (i N:Nat) {oi:Oper} {v:Value} {fuel:Nat} {l:Array Bool} {a a':Act} {w:World} (l':Array Bool) (hc:anyB md ops l l' i=true) (h:wpAnyLast P md ops Q S ds fuel l' a' w) (hi:ops[i]?=some oi:=by rfl) (hN:oi.dst=some N:=by rfl)
  (hw:Region.wanted oi (yielded ops a.tmps)=true:=by rfl) (hQ:∀ c a w,Q (.panic c) (a.put oi.dst v) w→Q (.panic c) a w:=by exact fun _ _ _ h=>h) (hy:∀ w,(execOp a.eval oi).run P w = .ok (.value v) w:=by intro w';go_simp;with_reducible rfl)
  (ha:a.put (some N) v=a':=by simp only [Act.put,List.setIfInBounds_toArray,List.set_cons_zero,List.set_cons_succ,i64_w,i32_w];rfl):wpAnyLast P md ops Q S ds (fuel+1) l a w:=pure_ l' hi hN hc hQ (Or.inl ⟨hw,hy⟩) ha h
theorem Ko_ {P:Program} {md:Region.Mode} {ops:Array Oper} {Q:Exit→Act→World→Prop} {S:World→Prop} {ds:List Nat} (i N:Nat) {oi:Oper} {v:Value} {fuel:Nat} {l:Array Bool} {a a':Act} {w:World} (l':Array Bool) (hc:takeB md ops ds l l' i=true) (hS:S w) (h:wpAnyLast P md ops Q S ds fuel l' a' w) (hi:ops[i]?=some oi:=by rfl) (hN:oi.dst=some N:=by rfl)
  (hw:Region.wanted oi (yielded ops a.tmps)=true:=by rfl) (hQ:∀ c a w,Q (.panic c) (a.put oi.dst v) w→Q (.panic c) a w:=by exact fun _ _ _ h=>h) (hy:∀ w,S w→(execOp a.eval oi).run P w = .ok (.value v) w:=by intro w' hs;go_simp;with_reducible rfl)
  (ha:a.put (some N) v=a':=by simp only [Act.put,List.setIfInBounds_toArray,List.set_cons_zero,List.set_cons_succ,i64_w,i32_w];rfl):wpAnyLast P md ops Q S ds (fuel+1) l a w:=take_ l' hi hN hc hQ (Or.inl ⟨hw,hy⟩) hS ha h
theorem Kn_ {P:Program} {md:Region.Mode} {ops:Array Oper} {Q:Exit→Act→World→Prop} {S:World→Prop} {ds:List Nat} (N:Nat) {fuel:Nat} {l:Array Bool} {a a':Act} {v:Value} {w:World} (h:wpAnyLast P md ops Q S ds fuel l a' w) (ha:a.put (some N) v=a':=by simp only [Act.put,List.setIfInBounds_toArray,List.set_cons_zero,List.set_cons_succ,i64_w,i32_w];rfl):wpAnyLast P md ops Q S ds fuel l (a.put (some N) v) w:=norm_ ha h
theorem Ka_ {P:Program} {ops:Array Oper} {Q:Exit→Act→World→Prop} {rest:List Oper} {o:Oper} {a:Act} {W:World} (N:Tmp) (cs:Array Value) (t:TypeId) (h:∀ g,g=W.heap.size→∀ w1,w1.heap[g]?=some (.cells cs t (0,0))→Below W.heap.size W w1→wpList P ops Q rest (a.put o.dst (.pointer (some ⟨g,0,none⟩))) w1)
  (hd:o.dst=some N:=by rfl) (hg:o.guard=none:=by rfl) (hr:(execOp a.eval o).run P W = .ok (.value (.pointer (some ⟨W.heap.size,0,none⟩))) (W.alloc (.cells cs t (0,0))):=by first|(go_simp;done)|(go_simp;rfl)):wpList P ops Q (o :: rest) a W:=box_event hg hd hr h
theorem Kj_ {W:World} {g g2 i j:Nat} {u x:Value} (n:Aside0 (g ≠ g2)) (h:W.cell? ⟨g,j,none⟩=some x):(W.setCell ⟨g2,i,none⟩ u).cell? ⟨g,j,none⟩=some x:=(cell_far n.out _).trans h
def Bz (n m:Nat):Array Bool:=((List.range n).map fun i=>m.testBit i).toArray
theorem Km_ {w:World} {g:Nat} {t:TypeId} {cs:Array Value} {v:Value} (h:Aside0 (w.heap[g]?=some (.cells cs t (0,0)))) (i:Nat) (e:cs[i]?=some v:=by rfl):w.cell? ⟨g,i,none⟩=some v:=(blk_cell h.out i).trans e
theorem K2a_ {w W w1:World} {g0 g1:Nat} (h:Aside0 (Below w.heap.size w W)) (n0:Aside0 (w.heap.size≤g0)) (n1:Aside0 (w.heap.size≤g1)) (e:Below w.heap.size w W→w.heap.size≤g0→w.heap.size≤g1→Below w.heap.size w w1:=by intro h n0 n1;repeat (first|(with_reducible first|exact h|apply below_alloc|apply pw_below_drewN|apply below_drew1|refine below_set ?_ n0|refine below_set ?_ n1)|exact h)):Below w.heap.size w w1:=e h.out n0.out n1.out
theorem K3a_ {w W w1:World} {g0 g1 g2:Nat} (h:Aside0 (Below w.heap.size w W)) (n0:Aside0 (w.heap.size≤g0)) (n1:Aside0 (w.heap.size≤g1)) (n2:Aside0 (w.heap.size≤g2)) (e:Below w.heap.size w W→w.heap.size≤g0→w.heap.size≤g1→w.heap.size≤g2→Below w.heap.size w w1:=by intro h n0 n1 n2;repeat (first|(with_reducible first|exact h|apply below_alloc|apply pw_below_drewN|apply below_drew1|refine below_set ?_ n0|refine below_set ?_ n1|refine below_set ?_ n2)|exact h)):Below w.heap.size w w1:=e h.out n0.out n1.out n2.out
theorem K4a_ {w W w1:World} {g0 g1 g2 g3:Nat} (h:Aside0 (Below w.heap.size w W)) (n0:Aside0 (w.heap.size≤g0)) (n1:Aside0 (w.heap.size≤g1)) (n2:Aside0 (w.heap.size≤g2)) (n3:Aside0 (w.heap.size≤g3)) (e:Below w.heap.size w W→w.heap.size≤g0→w.heap.size≤g1→w.heap.size≤g2→w.heap.size≤g3→Below w.heap.size w w1:=by intro h n0 n1 n2 n3;repeat (first|(with_reducible first|exact h|apply below_alloc|apply pw_below_drewN|apply below_drew1|refine below_set ?_ n0|refine below_set ?_ n1|refine below_set ?_ n2|refine below_set ?_ n3)|exact h)):Below w.heap.size w w1:=e h.out n0.out n1.out n2.out n3.out
theorem K1b_ {W w1:World} {g t g0:Nat} {cs:Array Value} (h:Aside0 (W.heap[g]?=some (.cells cs t (0,0)))) (n0:Aside0 (g ≠ g0)) (e:W.heap[g]?=some (.cells cs t (0,0))→g ≠ g0→w1.heap[g]?=some (.cells cs t (0,0)):=by intro h n0;(repeat (first|(with_reducible first|refine blk_drewN ?_ _|refine blk_drew ?_|refine blk_alloc ?_ _)|refine blk_far ?_ n0 _));exact h):w1.heap[g]?=some (.cells cs t (0,0)):=e h.out n0.out
theorem K2b_ {W w1:World} {g t g0 g1:Nat} {cs:Array Value} (h:Aside0 (W.heap[g]?=some (.cells cs t (0,0)))) (n0:Aside0 (g ≠ g0)) (n1:Aside0 (g ≠ g1)) (e:W.heap[g]?=some (.cells cs t (0,0))→g ≠ g0→g ≠ g1→w1.heap[g]?=some (.cells cs t (0,0)):=by intro h n0 n1;(repeat (first|(with_reducible first|refine blk_drewN ?_ _|refine blk_drew ?_|refine blk_alloc ?_ _)|refine blk_far ?_ n0 _|refine blk_far ?_ n1 _));exact h):w1.heap[g]?=some (.cells cs t (0,0)):=e h.out n0.out n1.out
theorem Kput2_ {W:World} {g:Nat} {t:TypeId} {z0 z1 v0 v1:Value} (h:W.heap[g]?=some (.cells #[z0,z1] t (0,0))):((W.setCell ⟨g,0,none⟩ v0).setCell ⟨g,1,none⟩ v1).heap[g]?=some (.cells #[v0,v1] t (0,0)):=by refine blk_put (cs:=#[v0,z1]) ?_ 1 _ rfl;refine blk_put (cs:=#[z0,z1]) ?_ 0 _ rfl;exact h
theorem KRf2_ {α:Type} {d:Kd α} {e base:Nat} {ok:Nat→Prop} {W:World} {v:Value} {xs:List α} {g:Nat} {t:TypeId} {cells:Array Value} {v0 v1:Value} (h:Aside0 (d.R e W base ok v xs)) (hb:Aside0 (W.heap[g]?=some (.cells cells t (0,0)))) (ht:∀ q,q ∈ e :: d.E→q ≠ t:=by decide):d.R e ((W.setCell ⟨g,0,none⟩ v0).setCell ⟨g,1,none⟩ v1) base ok v xs:=Kd.R_mono (Kd.R_far (p:=⟨g,1,none⟩) (Kd.R_far (p:=⟨g,0,none⟩) (Kd.R_types h.out hb.out ht) (fun _ hk=>hk.2) v0) (fun _ hk=>hk.2) v1) (fun _ h_=>h_.1)
theorem Kput4_ {W:World} {g:Nat} {t:TypeId} {z0 z1 z2 z3 v0 v1 v2 v3:Value} (h:W.heap[g]?=some (.cells #[z0,z1,z2,z3] t (0,0))):((((W.setCell ⟨g,0,none⟩ v0).setCell ⟨g,1,none⟩ v1).setCell ⟨g,2,none⟩ v2).setCell ⟨g,3,none⟩ v3).heap[g]?=some (.cells #[v0,v1,v2,v3] t (0,0)):=by refine blk_put (cs:=#[v0,v1,v2,z3]) ?_ 3 _ rfl;refine blk_put (cs:=#[v0,v1,z2,z3]) ?_ 2 _ rfl;refine blk_put (cs:=#[v0,z1,z2,z3]) ?_ 1 _ rfl;refine blk_put (cs:=#[z0,z1,z2,z3]) ?_ 0 _ rfl;exact h
theorem KRf4_ {α:Type} {d:Kd α} {e base:Nat} {ok:Nat→Prop} {W:World} {v:Value} {xs:List α} {g:Nat} {t:TypeId} {cells:Array Value} {v0 v1 v2 v3:Value} (h:Aside0 (d.R e W base ok v xs)) (hb:Aside0 (W.heap[g]?=some (.cells cells t (0,0)))) (ht:∀ q,q ∈ e :: d.E→q ≠ t:=by decide):d.R e ((((W.setCell ⟨g,0,none⟩ v0).setCell ⟨g,1,none⟩ v1).setCell ⟨g,2,none⟩ v2).setCell ⟨g,3,none⟩ v3) base ok v xs:=Kd.R_mono (Kd.R_far (p:=⟨g,3,none⟩) (Kd.R_far (p:=⟨g,2,none⟩) (Kd.R_far (p:=⟨g,1,none⟩) (Kd.R_far (p:=⟨g,0,none⟩) (Kd.R_types h.out hb.out ht) (fun _ hk=>hk.2) v0) (fun _ hk=>hk.2) v1) (fun _ hk=>hk.2) v2) (fun _ hk=>hk.2) v3) (fun _ h_=>h_.1)
theorem Kput5_ {W:World} {g:Nat} {t:TypeId} {z0 z1 z2 z3 z4 v0 v1 v2 v3 v4:Value} (h:W.heap[g]?=some (.cells #[z0,z1,z2,z3,z4] t (0,0))):(((((W.setCell ⟨g,0,none⟩ v0).setCell ⟨g,1,none⟩ v1).setCell ⟨g,2,none⟩ v2).setCell ⟨g,3,none⟩ v3).setCell ⟨g,4,none⟩ v4).heap[g]?=some (.cells #[v0,v1,v2,v3,v4] t (0,0)):=by refine blk_put (cs:=#[v0,v1,v2,v3,z4]) ?_ 4 _ rfl;refine blk_put (cs:=#[v0,v1,v2,z3,z4]) ?_ 3 _ rfl;refine blk_put (cs:=#[v0,v1,z2,z3,z4]) ?_ 2 _ rfl;refine blk_put (cs:=#[v0,z1,z2,z3,z4]) ?_ 1 _ rfl;refine blk_put (cs:=#[z0,z1,z2,z3,z4]) ?_ 0 _ rfl;exact h
theorem KRf5_ {α:Type} {d:Kd α} {e base:Nat} {ok:Nat→Prop} {W:World} {v:Value} {xs:List α} {g:Nat} {t:TypeId} {cells:Array Value} {v0 v1 v2 v3 v4:Value} (h:Aside0 (d.R e W base ok v xs)) (hb:Aside0 (W.heap[g]?=some (.cells cells t (0,0)))) (ht:∀ q,q ∈ e :: d.E→q ≠ t:=by decide):d.R e (((((W.setCell ⟨g,0,none⟩ v0).setCell ⟨g,1,none⟩ v1).setCell ⟨g,2,none⟩ v2).setCell ⟨g,3,none⟩ v3).setCell ⟨g,4,none⟩ v4) base ok v xs:=Kd.R_mono (Kd.R_far (p:=⟨g,4,none⟩) (Kd.R_far (p:=⟨g,3,none⟩) (Kd.R_far (p:=⟨g,2,none⟩) (Kd.R_far (p:=⟨g,1,none⟩) (Kd.R_far (p:=⟨g,0,none⟩) (Kd.R_types h.out hb.out ht) (fun _ hk=>hk.2) v0) (fun _ hk=>hk.2) v1) (fun _ hk=>hk.2) v2) (fun _ hk=>hk.2) v3) (fun _ hk=>hk.2) v4) (fun _ h_=>h_.1)
theorem Kput6_ {W:World} {g:Nat} {t:TypeId} {z0 z1 z2 z3 z4 z5 v0 v1 v2 v3 v4 v5:Value} (h:W.heap[g]?=some (.cells #[z0,z1,z2,z3,z4,z5] t (0,0))):((((((W.setCell ⟨g,0,none⟩ v0).setCell ⟨g,1,none⟩ v1).setCell ⟨g,2,none⟩ v2).setCell ⟨g,3,none⟩ v3).setCell ⟨g,4,none⟩ v4).setCell ⟨g,5,none⟩ v5).heap[g]?=some (.cells #[v0,v1,v2,v3,v4,v5] t (0,0)):=by refine blk_put (cs:=#[v0,v1,v2,v3,v4,z5]) ?_ 5 _ rfl;refine blk_put (cs:=#[v0,v1,v2,v3,z4,z5]) ?_ 4 _ rfl;refine blk_put (cs:=#[v0,v1,v2,z3,z4,z5]) ?_ 3 _ rfl;refine blk_put (cs:=#[v0,v1,z2,z3,z4,z5]) ?_ 2 _ rfl;refine blk_put (cs:=#[v0,z1,z2,z3,z4,z5]) ?_ 1 _ rfl;refine blk_put (cs:=#[z0,z1,z2,z3,z4,z5]) ?_ 0 _ rfl;exact h
theorem KRf6_ {α:Type} {d:Kd α} {e base:Nat} {ok:Nat→Prop} {W:World} {v:Value} {xs:List α} {g:Nat} {t:TypeId} {cells:Array Value} {v0 v1 v2 v3 v4 v5:Value} (h:Aside0 (d.R e W base ok v xs)) (hb:Aside0 (W.heap[g]?=some (.cells cells t (0,0)))) (ht:∀ q,q ∈ e :: d.E→q ≠ t:=by decide):d.R e ((((((W.setCell ⟨g,0,none⟩ v0).setCell ⟨g,1,none⟩ v1).setCell ⟨g,2,none⟩ v2).setCell ⟨g,3,none⟩ v3).setCell ⟨g,4,none⟩ v4).setCell ⟨g,5,none⟩ v5) base ok v xs:=Kd.R_mono (Kd.R_far (p:=⟨g,5,none⟩) (Kd.R_far (p:=⟨g,4,none⟩) (Kd.R_far (p:=⟨g,3,none⟩) (Kd.R_far (p:=⟨g,2,none⟩) (Kd.R_far (p:=⟨g,1,none⟩) (Kd.R_far (p:=⟨g,0,none⟩) (Kd.R_types h.out hb.out ht) (fun _ hk=>hk.2) v0) (fun _ hk=>hk.2) v1) (fun _ hk=>hk.2) v2) (fun _ hk=>hk.2) v3) (fun _ hk=>hk.2) v4) (fun _ hk=>hk.2) v5) (fun _ h_=>h_.1)
theorem Kput9_ {W:World} {g:Nat} {t:TypeId} {z0 z1 z2 z3 z4 z5 z6 z7 z8 v0 v1 v2 v3 v4 v5 v6 v7 v8:Value} (h:W.heap[g]?=some (.cells #[z0,z1,z2,z3,z4,z5,z6,z7,z8] t (0,0))):(((((((((W.setCell ⟨g,0,none⟩ v0).setCell ⟨g,1,none⟩ v1).setCell ⟨g,2,none⟩ v2).setCell ⟨g,3,none⟩ v3).setCell ⟨g,4,none⟩ v4).setCell ⟨g,5,none⟩ v5).setCell ⟨g,6,none⟩ v6).setCell ⟨g,7,none⟩ v7).setCell ⟨g,8,none⟩ v8).heap[g]?=some (.cells #[v0,v1,v2,v3,v4,v5,v6,v7,v8] t (0,0)):=by refine blk_put (cs:=#[v0,v1,v2,v3,v4,v5,v6,v7,z8]) ?_ 8 _ rfl;refine blk_put (cs:=#[v0,v1,v2,v3,v4,v5,v6,z7,z8]) ?_ 7 _ rfl;refine blk_put (cs:=#[v0,v1,v2,v3,v4,v5,z6,z7,z8]) ?_ 6 _ rfl;refine blk_put (cs:=#[v0,v1,v2,v3,v4,z5,z6,z7,z8]) ?_ 5 _ rfl;refine blk_put (cs:=#[v0,v1,v2,v3,z4,z5,z6,z7,z8]) ?_ 4 _ rfl;refine blk_put (cs:=#[v0,v1,v2,z3,z4,z5,z6,z7,z8]) ?_ 3 _ rfl;refine blk_put (cs:=#[v0,v1,z2,z3,z4,z5,z6,z7,z8]) ?_ 2 _ rfl;refine blk_put (cs:=#[v0,z1,z2,z3,z4,z5,z6,z7,z8]) ?_ 1 _ rfl;refine blk_put (cs:=#[z0,z1,z2,z3,z4,z5,z6,z7,z8]) ?_ 0 _ rfl;exact h
theorem KRf9_ {α:Type} {d:Kd α} {e base:Nat} {ok:Nat→Prop} {W:World} {v:Value} {xs:List α} {g:Nat} {t:TypeId} {cells:Array Value} {v0 v1 v2 v3 v4 v5 v6 v7 v8:Value} (h:Aside0 (d.R e W base ok v xs)) (hb:Aside0 (W.heap[g]?=some (.cells cells t (0,0)))) (ht:∀ q,q ∈ e :: d.E→q ≠ t:=by decide):d.R e (((((((((W.setCell ⟨g,0,none⟩ v0).setCell ⟨g,1,none⟩ v1).setCell ⟨g,2,none⟩ v2).setCell ⟨g,3,none⟩ v3).setCell ⟨g,4,none⟩ v4).setCell ⟨g,5,none⟩ v5).setCell ⟨g,6,none⟩ v6).setCell ⟨g,7,none⟩ v7).setCell ⟨g,8,none⟩ v8) base ok v xs:=Kd.R_mono (Kd.R_far (p:=⟨g,8,none⟩) (Kd.R_far (p:=⟨g,7,none⟩) (Kd.R_far (p:=⟨g,6,none⟩) (Kd.R_far (p:=⟨g,5,none⟩) (Kd.R_far (p:=⟨g,4,none⟩) (Kd.R_far (p:=⟨g,3,none⟩) (Kd.R_far (p:=⟨g,2,none⟩) (Kd.R_far (p:=⟨g,1,none⟩) (Kd.R_far (p:=⟨g,0,none⟩) (Kd.R_types h.out hb.out ht) (fun _ hk=>hk.2) v0) (fun _ hk=>hk.2) v1) (fun _ hk=>hk.2) v2) (fun _ hk=>hk.2) v3) (fun _ hk=>hk.2) v4) (fun _ hk=>hk.2) v5) (fun _ hk=>hk.2) v6) (fun _ hk=>hk.2) v7) (fun _ hk=>hk.2) v8) (fun _ h_=>h_.1)
theorem Kbind_ {α β:Type} {o:Option α} {f:α→Option β} {b:β} (h:o.bind f=some b):∃ a,Aside0 (o=some a)∧f a=some b:=by obtain ⟨a,h1,h2⟩:=Option.bind_eq_some_iff.mp h;exact ⟨a,⟨h1⟩,h2⟩
theorem As_ {p:Prop} (h:p):Aside0 p:=⟨h⟩
theorem Kg2_ {P:Program} {ops:Array Oper} {Q:Exit→Act→World→Prop} {rest:List Oper} {oi:Oper} {a:Act} {w:World} (N:Option Tmp) {f:FuncId} (fn:Func) {as0:Array Operand} {ts:Array TypeId} (args:Array Value)
  (h:Calls P f args w fun e w'=>∃ v,e = .returned v∧wpList P ops Q rest (a.put N v) w') (hop:oi.op = .call { callee:=.value (.func f),args:=as0,argTypes:=ts }:=by rfl) (hd:oi.dst=N:=by rfl) (hg:oi.guard=none:=by rfl)
  (hf : P.funcs[f]? = some fn := by kernel_rfl) (hname : (fn.name == "runtime.NumGoroutine") = false := by rfl) (hb : fn.body.isSome = true := by rfl) (hargs : as0.map a.eval = args := by (try simp only [List.map_toArray, List.map_cons, List.map_nil]); first | done | rfl | (simp only [List.length_drop, List.length_take]; rfl)) : wpList P ops Q (oi :: rest) a w :=
 goesL_ N hd hg hf hname hb args hop hargs h
theorem Kput4_abc_ {W:World} {g:Nat} {t:TypeId} {z0 z1 z2 z3 v0 v1 v2:Value} (h:W.heap[g]?=some (.cells #[z0,z1,z2,z3] t (0,0))):(((W.setCell ⟨g,0,none⟩ v0).setCell ⟨g,1,none⟩ v1).setCell ⟨g,2,none⟩ v2).heap[g]?=some (.cells #[v0,v1,v2,z3] t (0,0)):=by refine blk_put (cs:=#[v0,v1,z2,z3]) ?_ 2 _ rfl;refine blk_put (cs:=#[v0,z1,z2,z3]) ?_ 1 _ rfl;refine blk_put (cs:=#[z0,z1,z2,z3]) ?_ 0 _ rfl;exact h
theorem Kput5_abcd_ {W:World} {g:Nat} {t:TypeId} {z0 z1 z2 z3 z4 v0 v1 v2 v3:Value} (h:W.heap[g]?=some (.cells #[z0,z1,z2,z3,z4] t (0,0))):((((W.setCell ⟨g,0,none⟩ v0).setCell ⟨g,1,none⟩ v1).setCell ⟨g,2,none⟩ v2).setCell ⟨g,3,none⟩ v3).heap[g]?=some (.cells #[v0,v1,v2,v3,z4] t (0,0)):=by refine blk_put (cs:=#[v0,v1,v2,z3,z4]) ?_ 3 _ rfl;refine blk_put (cs:=#[v0,v1,z2,z3,z4]) ?_ 2 _ rfl;refine blk_put (cs:=#[v0,z1,z2,z3,z4]) ?_ 1 _ rfl;refine blk_put (cs:=#[z0,z1,z2,z3,z4]) ?_ 0 _ rfl;exact h
theorem Kput6_abcd_ {W:World} {g:Nat} {t:TypeId} {z0 z1 z2 z3 z4 z5 v0 v1 v2 v3:Value} (h:W.heap[g]?=some (.cells #[z0,z1,z2,z3,z4,z5] t (0,0))):((((W.setCell ⟨g,0,none⟩ v0).setCell ⟨g,1,none⟩ v1).setCell ⟨g,2,none⟩ v2).setCell ⟨g,3,none⟩ v3).heap[g]?=some (.cells #[v0,v1,v2,v3,z4,z5] t (0,0)):=by refine blk_put (cs:=#[v0,v1,v2,z3,z4,z5]) ?_ 3 _ rfl;refine blk_put (cs:=#[v0,v1,z2,z3,z4,z5]) ?_ 2 _ rfl;refine blk_put (cs:=#[v0,z1,z2,z3,z4,z5]) ?_ 1 _ rfl;refine blk_put (cs:=#[z0,z1,z2,z3,z4,z5]) ?_ 0 _ rfl;exact h
theorem Kput6_abcdefe_ {W:World} {g:Nat} {t:TypeId} {z0 z1 z2 z3 z4 z5 v0 v1 v2 v3 v4 v5 v6:Value} (h:W.heap[g]?=some (.cells #[z0,z1,z2,z3,z4,z5] t (0,0))):(((((((W.setCell ⟨g,0,none⟩ v0).setCell ⟨g,1,none⟩ v1).setCell ⟨g,2,none⟩ v2).setCell ⟨g,3,none⟩ v3).setCell ⟨g,4,none⟩ v4).setCell ⟨g,5,none⟩ v5).setCell ⟨g,4,none⟩ v6).heap[g]?=some (.cells #[v0,v1,v2,v3,v6,v5] t (0,0)):=by refine blk_put (cs:=#[v0,v1,v2,v3,v4,v5]) ?_ 4 _ rfl;refine blk_put (cs:=#[v0,v1,v2,v3,v4,z5]) ?_ 5 _ rfl;refine blk_put (cs:=#[v0,v1,v2,v3,z4,z5]) ?_ 4 _ rfl;refine blk_put (cs:=#[v0,v1,v2,z3,z4,z5]) ?_ 3 _ rfl;refine blk_put (cs:=#[v0,v1,z2,z3,z4,z5]) ?_ 2 _ rfl;refine blk_put (cs:=#[v0,z1,z2,z3,z4,z5]) ?_ 1 _ rfl;refine blk_put (cs:=#[z0,z1,z2,z3,z4,z5]) ?_ 0 _ rfl;exact h
theorem Kput9_abcdefgh_ {W:World} {g:Nat} {t:TypeId} {z0 z1 z2 z3 z4 z5 z6 z7 z8 v0 v1 v2 v3 v4 v5 v6 v7:Value} (h:W.heap[g]?=some (.cells #[z0,z1,z2,z3,z4,z5,z6,z7,z8] t (0,0))):((((((((W.setCell ⟨g,0,none⟩ v0).setCell ⟨g,1,none⟩ v1).setCell ⟨g,2,none⟩ v2).setCell ⟨g,3,none⟩ v3).setCell ⟨g,4,none⟩ v4).setCell ⟨g,5,none⟩ v5).setCell ⟨g,6,none⟩ v6).setCell ⟨g,7,none⟩ v7).heap[g]?=some (.cells #[v0,v1,v2,v3,v4,v5,v6,v7,z8] t (0,0)):=by refine blk_put (cs:=#[v0,v1,v2,v3,v4,v5,v6,z7,z8]) ?_ 7 _ rfl;refine blk_put (cs:=#[v0,v1,v2,v3,v4,v5,z6,z7,z8]) ?_ 6 _ rfl;refine blk_put (cs:=#[v0,v1,v2,v3,v4,z5,z6,z7,z8]) ?_ 5 _ rfl;refine blk_put (cs:=#[v0,v1,v2,v3,z4,z5,z6,z7,z8]) ?_ 4 _ rfl;refine blk_put (cs:=#[v0,v1,v2,z3,z4,z5,z6,z7,z8]) ?_ 3 _ rfl;refine blk_put (cs:=#[v0,v1,z2,z3,z4,z5,z6,z7,z8]) ?_ 2 _ rfl;refine blk_put (cs:=#[v0,z1,z2,z3,z4,z5,z6,z7,z8]) ?_ 1 _ rfl;refine blk_put (cs:=#[z0,z1,z2,z3,z4,z5,z6,z7,z8]) ?_ 0 _ rfl;exact h
theorem Kput9_defghi_ {W:World} {g:Nat} {t:TypeId} {z0 z1 z2 z3 z4 z5 z6 z7 z8 v0 v1 v2 v3 v4 v5:Value} (h:W.heap[g]?=some (.cells #[z0,z1,z2,z3,z4,z5,z6,z7,z8] t (0,0))):((((((W.setCell ⟨g,3,none⟩ v0).setCell ⟨g,4,none⟩ v1).setCell ⟨g,5,none⟩ v2).setCell ⟨g,6,none⟩ v3).setCell ⟨g,7,none⟩ v4).setCell ⟨g,8,none⟩ v5).heap[g]?=some (.cells #[z0,z1,z2,v0,v1,v2,v3,v4,v5] t (0,0)):=by refine blk_put (cs:=#[z0,z1,z2,v0,v1,v2,v3,v4,z8]) ?_ 8 _ rfl;refine blk_put (cs:=#[z0,z1,z2,v0,v1,v2,v3,z7,z8]) ?_ 7 _ rfl;refine blk_put (cs:=#[z0,z1,z2,v0,v1,v2,z6,z7,z8]) ?_ 6 _ rfl;refine blk_put (cs:=#[z0,z1,z2,v0,v1,z5,z6,z7,z8]) ?_ 5 _ rfl;refine blk_put (cs:=#[z0,z1,z2,v0,z4,z5,z6,z7,z8]) ?_ 4 _ rfl;refine blk_put (cs:=#[z0,z1,z2,z3,z4,z5,z6,z7,z8]) ?_ 3 _ rfl;exact h
end Go.Proofs.Ytoagfdpgnfinhaa.Q

namespace Go.Proofs.Ytoagfdpgnfinhaa.Q
open Go.RowKit Go.Proofs.YtoagfdpgnfinhaaW.PrintWords Go.Proofs.YtoagfdpgnfinhaaW.PrintLast Go.Proofs.YtoagfdpgnfinhaaW.PrintMore
attribute [local go_sem] max2_int min2_int max_two min_two max_three min_three max_four min_four   -- for this text's walks alone
set_option linter.unusedVariables false
set_option linter.unusedSimpArgs false
theorem eqA28 (d:Nat) (w:World) (x0 y0:Int) (x1 y1:Int) (x2 y2:Int) (x3 y3:Int) :
  (Op.equalIn (d+2) 28 (.agg #[.int .u64 x0,.int .u64 x1,.int .u64 x2,.int .u64 x3]) (.agg #[.int .u64 y0,.int .u64 y1,.int .u64 y2,.int .u64 y3])).run Try.prog w = .ok (x0 == y0 && (x1 == y1 && (x2 == y2 && (x3 == y3)))) w:=by
 have hu:=Try.underlying28
 have hs:(sizeOf 26).run Try.prog w = .ok 1 w:=by go_simp
 have hp:∀ (xs:Array Value) (i:Nat) (v:Value),xs[i]?=some v→(part 26 xs i).run Try.prog w = .ok v w:=by
  intro xs i v h
  unfold part
  go_simp
 have hE:∀ a b:Int,(Op.equalIn (d+1) 26 (.int .u64 a) (.int .u64 b)).run Try.prog w = .ok (a == b) w:=by intro a b;go_simp
 obtain ⟨X,hX⟩:∃ X,X=(#[.int .u64 x0,.int .u64 x1,.int .u64 x2,.int .u64 x3]:Array Value):=⟨_,rfl⟩
 obtain ⟨Y,hY⟩:∃ Y,Y=(#[.int .u64 y0,.int .u64 y1,.int .u64 y2,.int .u64 y3]:Array Value):=⟨_,rfl⟩
 rw [← hX,← hY]
 have a0:(part 26 X 0).run Try.prog w = .ok (.int .u64 x0) w:=by rw [hX];exact hp _ 0 _ rfl
 have b0:(part 26 Y 0).run Try.prog w = .ok (.int .u64 y0) w:=by rw [hY];exact hp _ 0 _ rfl
 have a1:(part 26 X 1).run Try.prog w = .ok (.int .u64 x1) w:=by rw [hX];exact hp _ 1 _ rfl
 have b1:(part 26 Y 1).run Try.prog w = .ok (.int .u64 y1) w:=by rw [hY];exact hp _ 1 _ rfl
 have a2:(part 26 X 2).run Try.prog w = .ok (.int .u64 x2) w:=by rw [hX];exact hp _ 2 _ rfl
 have b2:(part 26 Y 2).run Try.prog w = .ok (.int .u64 y2) w:=by rw [hY];exact hp _ 2 _ rfl
 have a3:(part 26 X 3).run Try.prog w = .ok (.int .u64 x3) w:=by rw [hX];exact hp _ 3 _ rfl
 have b3:(part 26 Y 3).run Try.prog w = .ok (.int .u64 y3) w:=by rw [hY];exact hp _ 3 _ rfl
 clear hX hY hp
 obtain ⟨m,hm⟩:∃ m,d+1=m:=⟨_,rfl⟩
 rw [hm] at hE
 rw [show d+2=m+1 by omega]
 clear hm
 unfold Op.equalIn
 simp only [Sem.run_bind,run_underlying hu,Result.andThen_ok,hs,Nat.mul_one]
 have hfor:∀ (f:Nat→Option Bool × Unit→Sem (ForInStep (Option Bool × Unit))),forIn (m:=Sem) [:4] ((none,()):Option Bool × Unit) f=forIn (m:=Sem) [0,1,2,3] ((none,()):Option Bool × Unit) f:=by
  intro f
  simp
  rfl
 rw [hfor]
 simp only [List.forIn_cons,List.forIn_nil,Sem.run_bind,a0,b0,a1,b1,a2,b2,a3,b3,Result.andThen_ok,hE]
 by_cases h0:x0=y0 <;> by_cases h1:x1=y1 <;> by_cases h2:x2=y2 <;> by_cases h3:x3=y3 <;> simp [Sem.run_bind,a0,b0,a1,b1,a2,b2,a3,b3,hE,h0,h1,h2,h3]
theorem ixA28_0 (x0:Int) (x1:Int) (x2:Int) (x3:Int) (W:World) :
  (Instr.index 28 (.agg #[.int .u64 x0,.int .u64 x1,.int .u64 x2,.int .u64 x3]) (.int .i64 0)).run Try.prog W = .ok (.int .u64 x0) W:=by
 have hu:=Try.underlying28
 have hs:(sizeOf 26).run Try.prog W = .ok 1 W:=by go_simp
 have hp:(part 26 #[.int .u64 x0,.int .u64 x1,.int .u64 x2,.int .u64 x3] 0).run Try.prog W = .ok (.int .u64 x0) W:=by
  unfold part
  go_simp
 simp [Instr.index,asIntOf,Sem.run_bind,run_underlying hu,hs,hp]
theorem ixA28_1 (x0:Int) (x1:Int) (x2:Int) (x3:Int) (W:World) :
  (Instr.index 28 (.agg #[.int .u64 x0,.int .u64 x1,.int .u64 x2,.int .u64 x3]) (.int .i64 1)).run Try.prog W = .ok (.int .u64 x1) W:=by
 have hu:=Try.underlying28
 have hs:(sizeOf 26).run Try.prog W = .ok 1 W:=by go_simp
 have hp:(part 26 #[.int .u64 x0,.int .u64 x1,.int .u64 x2,.int .u64 x3] 1).run Try.prog W = .ok (.int .u64 x1) W:=by
  unfold part
  go_simp
 simp [Instr.index,asIntOf,Sem.run_bind,run_underlying hu,hs,hp]
theorem ixA28_2 (x0:Int) (x1:Int) (x2:Int) (x3:Int) (W:World) :
  (Instr.index 28 (.agg #[.int .u64 x0,.int .u64 x1,.int .u64 x2,.int .u64 x3]) (.int .i64 2)).run Try.prog W = .ok (.int .u64 x2) W:=by
 have hu:=Try.underlying28
 have hs:(sizeOf 26).run Try.prog W = .ok 1 W:=by go_simp
 have hp:(part 26 #[.int .u64 x0,.int .u64 x1,.int .u64 x2,.int .u64 x3] 2).run Try.prog W = .ok (.int .u64 x2) W:=by
  unfold part
  go_simp
 simp [Instr.index,asIntOf,Sem.run_bind,run_underlying hu,hs,hp]
theorem ixA28_3 (x0:Int) (x1:Int) (x2:Int) (x3:Int) (W:World) :
  (Instr.index 28 (.agg #[.int .u64 x0,.int .u64 x1,.int .u64 x2,.int .u64 x3]) (.int .i64 3)).run Try.prog W = .ok (.int .u64 x3) W:=by
 have hu:=Try.underlying28
 have hs:(sizeOf 26).run Try.prog W = .ok 1 W:=by go_simp
 have hp:(part 26 #[.int .u64 x0,.int .u64 x1,.int .u64 x2,.int .u64 x3] 3).run Try.prog W = .ok (.int .u64 x3) W:=by
  unfold part
  go_simp
 simp [Instr.index,asIntOf,Sem.run_bind,run_underlying hu,hs,hp]
end Go.Proofs.Ytoagfdpgnfinhaa.Q

namespace Go.Proofs.Ytoagfdpgnfinhaa.Q
open Go.RowKit Go.Proofs.YtoagfdpgnfinhaaW.PrintWords Go.Proofs.YtoagfdpgnfinhaaW.PrintLast Go.Proofs.YtoagfdpgnfinhaaW.PrintMore
attribute [local go_sem] max2_int min2_int max_two min_two max_three min_three max_four min_four   -- for this text's walks alone
set_option linter.unusedVariables false
set_option linter.unusedSimpArgs false
attribute [local go_sem] ixA28_0 ixA28_1 ixA28_2 ixA28_3   -- for this text's walks alone
theorem eqA30 (d:Nat) (w:World) (x0 y0:Int) (x1 y1:Int) (x2 y2:Int) (x3 y3:Int) (x4 y4:Int) :
  (Op.equalIn (d+3) 30 (.agg #[.int .u64 x0,.int .u64 x1,.int .u64 x2,.int .u64 x3,.int .i64 x4]) (.agg #[.int .u64 y0,.int .u64 y1,.int .u64 y2,.int .u64 y3,.int .i64 y4])).run Try.prog w = .ok ((x0 == y0 && (x1 == y1 && (x2 == y2 && (x3 == y3)))) && (x4 == y4)) w:=by
 refine eqA_of Try.underlying30 (by kernel_rfl) ?_
 refine eqf_cons (by rfl) (by go_simp) (by go_simp) (eqA28 (d+0) w _ _ _ _ _ _ _ _) ?_
 exact eqf_last (by rfl) (by go_simp;rfl) (by go_simp;rfl) (by go_simp)
end Go.Proofs.Ytoagfdpgnfinhaa.Q

namespace Go.Proofs.Ytoagfdpgnfinhaa.Q
open Go.RowKit Go.Proofs.YtoagfdpgnfinhaaW.PrintWords Go.Proofs.YtoagfdpgnfinhaaW.PrintLast Go.Proofs.YtoagfdpgnfinhaaW.PrintMore
attribute [local go_sem] max2_int min2_int max_two min_two max_three min_three max_four min_four   -- for this text's walks alone
set_option linter.unusedVariables false
set_option linter.unusedSimpArgs false
theorem eqA107 (d:Nat) (w:World) (x0 y0:ByteArray) (x1 y1:ByteArray) (x2 y2:ByteArray) (x3 y3:Bool) :
  (Op.equalIn (d+2) 107 (.agg #[.string x0,.string x1,.string x2,.bool x3]) (.agg #[.string y0,.string y1,.string y2,.bool y3])).run Try.prog w = .ok (x0.toList == y0.toList && (x1.toList == y1.toList && (x2.toList == y2.toList && (x3 == y3)))) w:=by
 refine eqA_of Try.underlying107 (by kernel_rfl) ?_
 refine eqf_cons (by rfl) (by go_simp;rfl) (by go_simp;rfl) (by go_simp) ?_
 refine eqf_cons (by rfl) (by go_simp;rfl) (by go_simp;rfl) (by go_simp) ?_
 refine eqf_cons (by rfl) (by go_simp;rfl) (by go_simp;rfl) (by go_simp) ?_
 exact eqf_last (by rfl) (by go_simp;rfl) (by go_simp;rfl) (by go_simp)
attribute [local go_sem high] eqA107
def item_Write_86.l0:Nat→List (S107)→List (S107)→Int→Int→Option (Bool)
 | 0,_,_,_,_=>none
 | k+1,x0,x1,x12,x13=>if x13<x12 then (if 0≤x13 then (if x13<(x0.length:Int) then (if x13<(x1.length:Int) then (if (!((((rd_T107 x0 x13).f0).toList) == (((rd_T107 x1 x13).f0).toList)) || (!((((rd_T107 x0 x13).f1).toList) == (((rd_T107 x1 x13).f1).toList)) || (!((((rd_T107 x0 x13).f2).toList) == (((rd_T107 x1 x13).f2).toList)) || (!(((rd_T107 x0 x13).f3) == ((rd_T107 x1 x13).f3))))))=true then (some false) else (item_Write_86.l0 k x0 x1 x12 (wrap64 (x13+1)))) else (none)) else (none)) else (none)) else (some true)
def item_Write_86.f (k:Nat) (l0:List (S107)) (l1:List (S107)):Option (Bool):=if (l0.length:Int)=(l1.length:Int) then (item_Write_86.l0 k l0 l1 (l0.length:Int) 0) else (some false)
set_option maxHeartbeats 8000000 in
set_option maxRecDepth 100000 in
theorem item_Write_86.calls (k:Nat) (A0:Option Addr) (c0:Nat) (l0:List (S107)) (A1:Option Addr) (c1:Nat) (l1:List (S107)) (r:Bool) (w:World) (hr0:Kd.C k107 w A0 l0.length l0) (hc0:l0.length≤c0) (hr1:Kd.C k107 w A1 l1.length l1) (hc1:l1.length≤c1) (h:item_Write_86.f k l0 l1=some r) :
  Calls Try.prog 86 #[.slice A0 l0.length c0,.slice A1 l1.length c1] w fun e w'=>e = .returned (.bool r)∧Drawn0 w w':=by
 have hu107:=Try.underlying107
 have HR0:=As_ hr0
 have HC0:=As_ hc0
 clear hr0 hc0
 have HR1:=As_ hr1
 have HC1:=As_ hc1
 clear hr1 hc1
 unfold item_Write_86.f at h
 have H:=h
 clear h
 by_cases c3:(l0.length:Int)=(l1.length:Int)
 rotate_left
 ·rw [if_neg c3] at H
  have c3b0:=beq_eq_false_iff_ne.mpr c3
  have c3b1:((l0.length:Int) != (l1.length:Int))=true:=bne_iff_ne.mpr c3
  have c3b2:(l0.length == l1.length)=false:=by first|simpa using c3|(simp at c3 ⊢;omega)
  obtain rfl:=Option.some.inj H
  go_enter Try.func86,Try.ntmps86
  go_wp2
  repeat (go_quiet (fail);try go_wp2)
  go_ret
  exact ⟨by first|rfl|(simp;done)|(simp [*];done),by repeat (first|exact Drawn0.refl _|apply Drawn0.step)⟩
 rw [if_pos c3] at H
 have c3b0:((l0.length:Int) == (l1.length:Int))=true:=beq_iff_eq.mpr c3
 have c3b1:((l0.length:Int) != (l1.length:Int))=false:=bne_eq_false_iff_eq.mpr c3
 have c3b2:(l0.length == l1.length)=true:=by first|simpa using c3|(simp at c3 ⊢;omega)
 clear c3
 have H':=As_ H
 clear H
 go_enter Try.func86,Try.ntmps86
 go_wp2
 repeat (go_quiet (fail);try go_wp2)
 go_loopg [13] k (fun kq v13 w'=>∃ (x13_1:Int),v13 = .int .i64 x13_1∧Aside0 (item_Write_86.l0 kq l0 l1 (l0.length:Int) x13_1=some r)∧Aside0 (kq≤k)∧Drawn0 w w')
 case atStart=>exact ⟨(0),(by first|rfl|(simp;done)|(simp [*];done)),H',⟨Nat.le_refl _⟩,by repeat (first|exact Drawn0.refl _|apply Drawn0.step)⟩
 case round =>
  clear H'
  try clear c1
  try clear p2
  try clear c3
  try clear c3b0
  try clear c3b1
  try clear c3b2
  obtain ⟨x13_1,rfl,HA,HK1,⟨m1,rfl⟩⟩:=hrel
  cases gk with
  | zero=>exact absurd HA.out (by simp [item_Write_86.l0])
  | succ k1 =>
   have H:=HA.out
   clear HA
   simp only [item_Write_86.l0] at H
   by_cases c4:x13_1<(l0.length:Int)
   rotate_left
   ·rw [if_neg c4] at H
    have c4b0:decide (x13_1<(l0.length:Int))=false:=decide_eq_false c4
    clear c4
    obtain rfl:=Option.some.inj H
    go_wp2
    repeat (go_quiet (fail);try go_wp2)
    go_ret
    exact ⟨by first|rfl|(simp;done)|(simp [*];done),by repeat (first|exact Drawn0.refl _|apply Drawn0.step)⟩
   rw [if_pos c4] at H
   have c4b0:decide (x13_1<(l0.length:Int))=true:=decide_eq_true c4
   clear c4
   by_cases c5:0≤x13_1
   rotate_left
   ·rw [if_neg c5] at H
    exact absurd H (by simp)
   rw [if_pos c5] at H
   have c5b0:decide (0≤x13_1)=true:=decide_eq_true c5
   clear c5
   by_cases c6:x13_1<(l0.length:Int)
   rotate_left
   ·rw [if_neg c6] at H
    exact absurd H (by simp)
   rw [if_pos c6] at H
   have c6b0:decide (x13_1<(l0.length:Int))=true:=decide_eq_true c6
   clear c6
   by_cases c7:x13_1<(l1.length:Int)
   rotate_left
   ·rw [if_neg c7] at H
    exact absurd H (by simp)
   rw [if_pos c7] at H
   have c7b0:decide (x13_1<(l1.length:Int))=true:=decide_eq_true c7
   clear c7
   by_cases c8:(!((((rd_T107 l0 x13_1).f0).toList) == (((rd_T107 l1 x13_1).f0).toList)) || (!((((rd_T107 l0 x13_1).f1).toList) == (((rd_T107 l1 x13_1).f1).toList)) || (!((((rd_T107 l0 x13_1).f2).toList) == (((rd_T107 l1 x13_1).f2).toList)) || (!(((rd_T107 l0 x13_1).f3) == ((rd_T107 l1 x13_1).f3))))))=true
   ·rw [if_pos c8] at H
    have c8b0:(!((((rd_T107 l0 x13_1).f0).toList) == (((rd_T107 l1 x13_1).f0).toList)) || (!((((rd_T107 l0 x13_1).f1).toList) == (((rd_T107 l1 x13_1).f1).toList)) || (!((((rd_T107 l0 x13_1).f2).toList) == (((rd_T107 l1 x13_1).f2).toList)) || (!(((rd_T107 l0 x13_1).f3) == ((rd_T107 l1 x13_1).f3))))))=true:=c8
    clear c8
    obtain rfl:=Option.some.inj H
    have p104:0≤(x13_1:Int):=of_decide_eq_true (by first|(with_reducible assumption)|assumption)
    have q104:x13_1<(l0.length:Int):=of_decide_eq_true (by first|(with_reducible assumption)|assumption)
    obtain ⟨ad104,e104,hx104_0,hx104_1,hx104_2,hx104_3⟩:=at_T107 HR0.out x13_1 p104 q104
    cases e104
    replace p104:=eq_true p104
    replace q104:=eq_true q104
    have p105:0≤(x13_1:Int):=of_decide_eq_true (by first|(with_reducible assumption)|assumption)
    have q105:x13_1<(l1.length:Int):=of_decide_eq_true (by first|(with_reducible assumption)|assumption)
    obtain ⟨ad105,e105,hx105_0,hx105_1,hx105_2,hx105_3⟩:=at_T107 HR1.out x13_1 p105 q105
    cases e105
    replace p105:=eq_true p105
    replace q105:=eq_true q105
    go_wp2
    repeat (go_quiet (fail);try go_wp2)
    go_ret
    exact ⟨by first|rfl|(simp;done)|(simp [*];done),by repeat (first|exact Drawn0.refl _|apply Drawn0.step)⟩
   rw [if_neg c8] at H
   have c8b0:(!((((rd_T107 l0 x13_1).f0).toList) == (((rd_T107 l1 x13_1).f0).toList)) || (!((((rd_T107 l0 x13_1).f1).toList) == (((rd_T107 l1 x13_1).f1).toList)) || (!((((rd_T107 l0 x13_1).f2).toList) == (((rd_T107 l1 x13_1).f2).toList)) || (!(((rd_T107 l0 x13_1).f3) == ((rd_T107 l1 x13_1).f3))))))=false:=by simpa using c8
   clear c8
   have H':=As_ H
   clear H
   have p104:0≤(x13_1:Int):=of_decide_eq_true (by first|(with_reducible assumption)|assumption)
   have q104:x13_1<(l0.length:Int):=of_decide_eq_true (by first|(with_reducible assumption)|assumption)
   obtain ⟨ad104,e104,hx104_0,hx104_1,hx104_2,hx104_3⟩:=at_T107 HR0.out x13_1 p104 q104
   cases e104
   replace p104:=eq_true p104
   replace q104:=eq_true q104
   have p105:0≤(x13_1:Int):=of_decide_eq_true (by first|(with_reducible assumption)|assumption)
   have q105:x13_1<(l1.length:Int):=of_decide_eq_true (by first|(with_reducible assumption)|assumption)
   obtain ⟨ad105,e105,hx105_0,hx105_1,hx105_2,hx105_3⟩:=at_T107 HR1.out x13_1 p105 q105
   cases e105
   replace p105:=eq_true p105
   replace q105:=eq_true q105
   go_wp2
   repeat (go_quiet (fail);try go_wp2)
   go_roundg k1
   case measure=>have:=HK1.out;omega
   case rel=>exact ⟨(wrap64 (x13_1+1)),(by first|rfl|(simp;done)|(simp [*];done)),H',⟨by have:=HK1.out;omega⟩,by repeat (first|exact Drawn0.refl _|apply Drawn0.step)⟩
attribute [local go_sem high] eqA30
def item_Same.f (k:Nat) (a0_0:Int) (a0_1:Int) (a0_2:Int) (a0_3:Int) (a0_4:Int) (l0_5:List (S107)) (a1_0:Int) (a1_1:Int) (a1_2:Int) (a1_3:Int) (a1_4:Int) (l1_5:List (S107)):Option (Bool):=if ((a0_0 == a1_0 && (a0_1 == a1_1 && (a0_2 == a1_2 && (a0_3 == a1_3)))) && (a0_4 == a1_4))=true then ((item_Write_86.f k l0_5 l1_5).bind fun t108=>(some t108)) else (some false)
set_option maxHeartbeats 8000000 in
set_option maxRecDepth 100000 in
theorem item_Same.calls (k:Nat) (a0_0:Int) (a0_1:Int) (a0_2:Int) (a0_3:Int) (a0_4:Int) (A0_5:Option Addr) (c0_5:Nat) (l0_5:List (S107)) (a1_0:Int) (a1_1:Int) (a1_2:Int) (a1_3:Int) (a1_4:Int) (A1_5:Option Addr) (c1_5:Nat) (l1_5:List (S107)) (r:Bool) (w:World) (hr0_5:Kd.C k107 w A0_5 l0_5.length l0_5) (hc0_5:l0_5.length≤c0_5) (hr1_5:Kd.C k107 w A1_5 l1_5.length l1_5) (hc1_5:l1_5.length≤c1_5) (h:item_Same.f k a0_0 a0_1 a0_2 a0_3 a0_4 l0_5 a1_0 a1_1 a1_2 a1_3 a1_4 l1_5=some r) :
  Calls Try.prog 50 #[.agg #[.int .u64 a0_0,.int .u64 a0_1,.int .u64 a0_2,.int .u64 a0_3,.int .i64 a0_4,.slice A0_5 l0_5.length c0_5],.agg #[.int .u64 a1_0,.int .u64 a1_1,.int .u64 a1_2,.int .u64 a1_3,.int .i64 a1_4,.slice A1_5 l1_5.length c1_5]] w fun e w'=>e = .returned (.bool r)∧Below w.heap.size w w':=by
 have hu33:=Try.underlying33
 have hu30:=Try.underlying30
 have HR0_5:=As_ hr0_5
 have HC0_5:=As_ hc0_5
 clear hr0_5 hc0_5
 have HR1_5:=As_ hr1_5
 have HC1_5:=As_ hc1_5
 clear hr1_5 hc1_5
 have HB:=As_ (Below.refl w.heap.size w)
 unfold item_Same.f at h
 have H:=h
 clear h
 by_cases c3:((a0_0 == a1_0 && (a0_1 == a1_1 && (a0_2 == a1_2 && (a0_3 == a1_3)))) && (a0_4 == a1_4))=true
 rotate_left
 ·rw [if_neg c3] at H
  have c3b0:((a0_0 == a1_0 && (a0_1 == a1_1 && (a0_2 == a1_2 && (a0_3 == a1_3)))) && (a0_4 == a1_4))=false:=by simpa using c3
  clear c3
  obtain rfl:=Option.some.inj H
  go_enter Try.func50,Try.ntmps50
  go_wp2_with (first|((with_reducible refine gate_dst (N:=2) rfl ?_);refine Ka_ 2 #[.int .u64 a0_0,.int .u64 a0_1,.int .u64 a0_2,.int .u64 a0_3,.int .i64 a0_4,.slice A0_5 l0_5.length c0_5] 33 ?_;intro gb106 hg w10 hbox hb;have BK106:=As_ (hbox);have GW106:=Kw_ HB hg;replace HB:=Ks_ HB hb;clear hb hbox hg)|((with_reducible refine gate_dst (N:=3) rfl ?_);refine Ka_ 3 #[.int .u64 a1_0,.int .u64 a1_1,.int .u64 a1_2,.int .u64 a1_3,.int .i64 a1_4,.slice A1_5 l1_5.length c1_5] 33 ?_;intro gb107 hg w11 hbox hb;have BK107:=As_ (hbox);have GW107:=Kw_ HB hg;have NB106_107:=Kl_ BK106 hg;have NB107_106:=Kr_ BK106 hg;replace BK106:=Kb_ BK106 hb;replace HB:=Ks_ HB hb;clear hb hbox hg;have hnb12:=NB106_107.out;have hnc12:=NB107_106.out;obtain ⟨_,_,_,_,_,_,_,_,_,_,_,_⟩:=Ke6_ BK106.out;obtain ⟨_,_,_,_,_,_,_,_,_,_,_,_⟩:=Ke6_ BK107.out))
  go_ret
  exact ⟨Kh_,K2a_ HB GW106 GW107⟩
 rw [if_pos c3] at H
 have c3b0:((a0_0 == a1_0 && (a0_1 == a1_1 && (a0_2 == a1_2 && (a0_3 == a1_3)))) && (a0_4 == a1_4))=true:=c3
 clear c3
 obtain ⟨t108,A4,H⟩:=Kbind_ H
 (try dsimp only at H)
 obtain rfl:=Option.some.inj H
 go_enter Try.func50,Try.ntmps50
 go_wp2_with (first|((with_reducible refine gate_dst (N:=2) rfl ?_);refine Ka_ 2 #[.int .u64 a0_0,.int .u64 a0_1,.int .u64 a0_2,.int .u64 a0_3,.int .i64 a0_4,.slice A0_5 l0_5.length c0_5] 33 ?_;intro gb106 hg w5 hbox hb;have BK106:=As_ (hbox);have GW106:=Kw_ HB hg;replace HB:=Ks_ HB hb;clear hb hbox hg)|((with_reducible refine gate_dst (N:=3) rfl ?_);refine Ka_ 3 #[.int .u64 a1_0,.int .u64 a1_1,.int .u64 a1_2,.int .u64 a1_3,.int .i64 a1_4,.slice A1_5 l1_5.length c1_5] 33 ?_;intro gb107 hg w6 hbox hb;have BK107:=As_ (hbox);have GW107:=Kw_ HB hg;have NB106_107:=Kl_ BK106 hg;have NB107_106:=Kr_ BK106 hg;replace BK106:=Kb_ BK106 hb;replace HB:=Ks_ HB hb;clear hb hbox hg;have hnb7:=NB106_107.out;have hnc7:=NB107_106.out;obtain ⟨_,_,_,_,_,_,_,_,_,_,_,_⟩:=Ke6_ BK106.out;obtain ⟨_,_,_,_,_,_,_,_,_,_,_,_⟩:=Ke6_ BK107.out)|(go_at_call 86;(with_reducible refine (item_Write_86.calls k _ _ l0_5 _ _ l1_5 t108 _ ?side1 ?side2 ?side3 ?side4 A4.out).mono ?_);(case side1=>repeat (first|exact (Kd.C_below HR0_5.out HB.out)|(with_reducible refine Kd.C_alloc ?_ _)|(with_reducible refine Kd.C_drewN ?_ _)|(with_reducible refine Kd.C_drew ?_)));(case side2=>exact HC0_5.out);(case side3=>repeat (first|exact (Kd.C_below HR1_5.out HB.out)|(with_reducible refine Kd.C_alloc ?_ _)|(with_reducible refine Kd.C_drewN ?_ _)|(with_reducible refine Kd.C_drew ?_)));(case side4=>exact HC1_5.out);rintro e w' ⟨rfl,⟨nd,rfl⟩⟩))
 go_ret
 exact ⟨Kh_,K2a_ HB GW106 GW107⟩
def vec_At.f (a0_0 a0_1 a0_2 a0_3 n:Int):Option Int:=some (if n=1 then a0_0 else if n=2 then a0_1 else if n=3 then a0_2 else if n=4 then a0_3 else 0)
set_option maxHeartbeats 8000000 in
set_option maxRecDepth 100000 in
theorem vec_At.calls (a0_0 a0_1 a0_2 a0_3 n:Int) (r:Int) (w:World) (h:vec_At.f a0_0 a0_1 a0_2 a0_3 n=some r) :
  Calls Try.prog 48 #[.agg #[.int .u64 a0_0,.int .u64 a0_1,.int .u64 a0_2,.int .u64 a0_3],.int .i64 n] w fun e w'=>e = .returned (.int .u64 r)∧Below w.heap.size w w':=by
 unfold vec_At.f at h
 obtain rfl:=Option.some.inj h
 clear h
 have hu:=Try.underlying28
 by_cases c0:n=1
 ·subst c0
  go_enter Try.func48,Try.ntmps48
  go_wp2
  go_ret
  exact ⟨by first|rfl|simp,by first|exact below_alloc (Below.refl _ _) _|(repeat (first|exact Below.refl _ _|apply below_alloc|apply pw_below_drewN|apply below_drew1))⟩
 by_cases c1:n=2
 ·subst c1
  go_enter Try.func48,Try.ntmps48
  go_wp2
  go_ret
  exact ⟨by first|rfl|simp,by first|exact below_alloc (Below.refl _ _) _|(repeat (first|exact Below.refl _ _|apply below_alloc|apply pw_below_drewN|apply below_drew1))⟩
 by_cases c2:n=3
 ·subst c2
  go_enter Try.func48,Try.ntmps48
  go_wp2
  go_ret
  exact ⟨by first|rfl|simp,by first|exact below_alloc (Below.refl _ _) _|(repeat (first|exact Below.refl _ _|apply below_alloc|apply pw_below_drewN|apply below_drew1))⟩
 by_cases c3:n=4
 ·subst c3
  go_enter Try.func48,Try.ntmps48
  go_wp2
  go_ret
  exact ⟨by first|rfl|simp,by first|exact below_alloc (Below.refl _ _) _|(repeat (first|exact Below.refl _ _|apply below_alloc|apply pw_below_drewN|apply below_drew1))⟩
 rw [if_neg c0,if_neg c1,if_neg c2,if_neg c3]
 have b1:(decide (1≤n)=false∧decide (n<1)=true)∨(decide (1≤n)=true∧decide (n<1)=false∧decide (n≤4)=false∧decide (4<n)=true):=by
  by_cases h:1≤n
  ·exact Or.inr ⟨decide_eq_true h,decide_eq_false (by omega),decide_eq_false (by omega),decide_eq_true (by omega)⟩
  ·exact Or.inl ⟨decide_eq_false h,decide_eq_true (by omega)⟩
 clear c0 c1 c2 c3
 rcases b1 with ⟨b1,b2⟩|⟨b1,b2,b3,b4⟩
 ·go_enter Try.func48,Try.ntmps48
  go_wp2
  go_ret
  exact ⟨by first|rfl|simp,by first|exact below_alloc (Below.refl _ _) _|(repeat (first|exact Below.refl _ _|apply below_alloc|apply pw_below_drewN|apply below_drew1))⟩
 ·go_enter Try.func48,Try.ntmps48
  go_wp2
  go_ret
  exact ⟨by first|rfl|simp,by first|exact below_alloc (Below.refl _ _) _|(repeat (first|exact Below.refl _ _|apply below_alloc|apply pw_below_drewN|apply below_drew1))⟩
def stamp_Stamp_N.f (a0_0:Int) (a0_1:Int) (a0_2:Int) (a0_3:Int) (a0_4:Int):Option (Int):=(vec_At.f a0_0 a0_1 a0_2 a0_3 a0_4).bind fun t110=>(some t110)
set_option maxHeartbeats 8000000 in
set_option maxRecDepth 100000 in
theorem stamp_Stamp_N.calls (a0_0:Int) (a0_1:Int) (a0_2:Int) (a0_3:Int) (a0_4:Int) (r:Int) (w:World) (h:stamp_Stamp_N.f a0_0 a0_1 a0_2 a0_3 a0_4=some r) :
  Calls Try.prog 47 #[.agg #[.int .u64 a0_0,.int .u64 a0_1,.int .u64 a0_2,.int .u64 a0_3,.int .i64 a0_4]] w fun e w'=>e = .returned (.int .u64 r)∧Below w.heap.size w w':=by
 have hu30:=Try.underlying30
 have hu28:=Try.underlying28
 have HB:=As_ (Below.refl w.heap.size w)
 unfold stamp_Stamp_N.f at h
 have H:=h
 clear h
 obtain ⟨t110,A2,H⟩:=Kbind_ H
 (try dsimp only at H)
 obtain rfl:=Option.some.inj H
 go_enter Try.func47,Try.ntmps47
 go_wp2_with (first|((with_reducible refine gate_dst (N:=1) rfl ?_);refine Ka_ 1 #[.int .u64 a0_0,.int .u64 a0_1,.int .u64 a0_2,.int .u64 a0_3,.int .i64 a0_4] 30 ?_;intro gb109 hg w3 hbox hb;have BK109:=As_ (hbox);have GW109:=Kw_ HB hg;replace HB:=Ks_ HB hb;clear hb hbox hg;obtain ⟨_,_,_,_,_,_,_,_,_,_⟩:=Ke5_ BK109.out)|((with_reducible refine gate_callee (f:=48) rfl ?_);refine Kg_ (some 7) rfl rfl Try.func48 (by kernel_rfl) rfl #[.agg #[.int .u64 a0_0,.int .u64 a0_1,.int .u64 a0_2,.int .u64 a0_3],.int .i64 a0_4] rfl ?_;(with_reducible refine (vec_At.calls a0_0 a0_1 a0_2 a0_3 a0_4 t110 _ A2.out).mono ?_);rintro e w5 ⟨rfl,hb⟩;refine ⟨_,rfl,?_⟩;replace HB:=Ks_ HB hb;(try clear hb)))
 go_ret
 exact ⟨Kh_,Kz_ HB GW109⟩
def item_named.f (a0:ByteArray):Option (Bool):=if a0.toList=([]:List UInt8) then (some false) else (some (decide ((a0.size:Int)≤16)))
set_option maxHeartbeats 8000000 in
set_option maxRecDepth 100000 in
theorem item_named.calls (a0:ByteArray) (r:Bool) (w:World) (h:item_named.f a0=some r) :
  Calls Try.prog 104 #[.string a0] w fun e w'=>e = .returned (.bool r)∧Drawn0 w w':=by
 unfold item_named.f at h
 have H:=h
 clear h
 by_cases c2:a0.toList=([]:List UInt8)
 rotate_left
 ·rw [if_neg c2] at H
  have c2b0:=beq_eq_false_iff_ne.mpr c2
  have c2b1:(a0.toList != ([]:List UInt8))=true:=bne_iff_ne.mpr c2
  obtain rfl:=Option.some.inj H
  go_enter Try.func104,Try.ntmps104
  go_wp2
  go_ret
  exact ⟨by first|rfl|(simp;done)|(simp [*];done),by repeat (first|exact Drawn0.refl _|apply Drawn0.step)⟩
 rw [if_pos c2] at H
 have c2b0:(a0.toList == ([]:List UInt8))=true:=beq_iff_eq.mpr c2
 have c2b1:(a0.toList != ([]:List UInt8))=false:=bne_eq_false_iff_eq.mpr c2
 clear c2
 obtain rfl:=Option.some.inj H
 go_enter Try.func104,Try.ntmps104
 go_wp2
 go_ret
 exact ⟨by first|rfl|(simp;done)|(simp [*];done),by repeat (first|exact Drawn0.refl _|apply Drawn0.step)⟩
def item_Right.f (a0_0:ByteArray) (a0_1:ByteArray) (a0_2:ByteArray) (a0_3:Bool):Option (Bool):=(item_named.f a0_0).bind fun t102=>(if t102=true then ((item_named.f a0_1).bind fun t103=>(if t103=true then (if (a0_2.size:Int)≤32 then (if a0_2.toList=([]:List UInt8) then (some true) else (some (!a0_3))) else (some false)) else (some false))) else (some false))
set_option maxHeartbeats 8000000 in
set_option maxRecDepth 100000 in
theorem item_Right.calls (a0_0:ByteArray) (a0_1:ByteArray) (a0_2:ByteArray) (a0_3:Bool) (r:Bool) (w:World) (h:item_Right.f a0_0 a0_1 a0_2 a0_3=some r) :
  Calls Try.prog 95 #[.agg #[.string a0_0,.string a0_1,.string a0_2,.bool a0_3]] w fun e w'=>e = .returned (.bool r)∧Below w.heap.size w w':=by
 have hu107:=Try.underlying107
 have HB:=As_ (Below.refl w.heap.size w)
 unfold item_Right.f at h
 have H:=h
 clear h
 obtain ⟨t102,A2,H⟩:=Kbind_ H
 (try dsimp only at H)
 by_cases c3:t102=true
 rotate_left
 ·replace c3:=Bool.eq_false_iff.mpr c3
  subst c3
  rw [if_neg Bool.false_ne_true] at H
  obtain rfl:=Option.some.inj H
  go_enter Try.func95,Try.ntmps95
  go_wp2_with (first|((with_reducible refine gate_dst (N:=1) rfl ?_);refine Ka_ 1 #[.string a0_0,.string a0_1,.string a0_2,.bool a0_3] 107 ?_;intro gb101 hg w16 hbox hb;have BK101:=As_ (hbox);have GW101:=Kw_ HB hg;replace HB:=Ks_ HB hb;clear hb hbox hg;obtain ⟨_,_,_,_,_,_,_,_⟩:=Ke4_ BK101.out)|((with_reducible refine gate_callee (f:=104) rfl ?_);refine Kg_ (some 5) rfl rfl Try.func104 (by kernel_rfl) rfl #[.string a0_0] rfl ?_;(with_reducible refine (item_named.calls a0_0 false _ A2.out).mono ?_);rintro e w' ⟨rfl,⟨nd,rfl⟩⟩;refine ⟨_,rfl,?_⟩))
  go_ret
  exact ⟨Kh_,Kz_ HB GW101⟩
 subst c3
 rw [if_pos rfl] at H
 obtain ⟨t103,A4,H⟩:=Kbind_ H
 (try dsimp only at H)
 by_cases c5:t103=true
 rotate_left
 ·replace c5:=Bool.eq_false_iff.mpr c5
  subst c5
  rw [if_neg Bool.false_ne_true] at H
  obtain rfl:=Option.some.inj H
  go_enter Try.func95,Try.ntmps95
  go_wp2_with (first|((with_reducible refine gate_dst (N:=1) rfl ?_);refine Ka_ 1 #[.string a0_0,.string a0_1,.string a0_2,.bool a0_3] 107 ?_;intro gb101 hg w14 hbox hb;have BK101:=As_ (hbox);have GW101:=Kw_ HB hg;replace HB:=Ks_ HB hb;clear hb hbox hg;obtain ⟨_,_,_,_,_,_,_,_⟩:=Ke4_ BK101.out)|((with_reducible refine gate_callee (f:=104) rfl ?_);refine Kg_ (some 5) rfl rfl Try.func104 (by kernel_rfl) rfl #[.string a0_0] rfl ?_;(with_reducible refine (item_named.calls a0_0 true _ A2.out).mono ?_);rintro e w' ⟨rfl,⟨nd,rfl⟩⟩;refine ⟨_,rfl,?_⟩)|(go_at_call 104;(with_reducible refine (item_named.calls a0_1 false _ A4.out).mono ?_);rintro e w' ⟨rfl,⟨nd,rfl⟩⟩))
  go_ret
  exact ⟨Kh_,Kz_ HB GW101⟩
 subst c5
 rw [if_pos rfl] at H
 by_cases c6:(a0_2.size:Int)≤32
 rotate_left
 ·rw [if_neg c6] at H
  have c6b0:decide ((a0_2.size:Int)≤32)=false:=decide_eq_false c6
  have c6b1:decide (a0_2.size≤32)=false:=decide_eq_false (by omega)
  clear c6
  obtain rfl:=Option.some.inj H
  go_enter Try.func95,Try.ntmps95
  go_wp2_with (first|((with_reducible refine gate_dst (N:=1) rfl ?_);refine Ka_ 1 #[.string a0_0,.string a0_1,.string a0_2,.bool a0_3] 107 ?_;intro gb101 hg w12 hbox hb;have BK101:=As_ (hbox);have GW101:=Kw_ HB hg;replace HB:=Ks_ HB hb;clear hb hbox hg;obtain ⟨_,_,_,_,_,_,_,_⟩:=Ke4_ BK101.out)|((with_reducible refine gate_callee (f:=104) rfl ?_);refine Kg_ (some 5) rfl rfl Try.func104 (by kernel_rfl) rfl #[.string a0_0] rfl ?_;(with_reducible refine (item_named.calls a0_0 true _ A2.out).mono ?_);rintro e w' ⟨rfl,⟨nd,rfl⟩⟩;refine ⟨_,rfl,?_⟩)|(go_at_call 104;(with_reducible refine (item_named.calls a0_1 true _ A4.out).mono ?_);rintro e w' ⟨rfl,⟨nd,rfl⟩⟩))
  go_ret
  exact ⟨Kh_,Kz_ HB GW101⟩
 rw [if_pos c6] at H
 have c6b0:decide ((a0_2.size:Int)≤32)=true:=decide_eq_true c6
 have c6b1:decide (a0_2.size≤32)=true:=decide_eq_true (by omega)
 clear c6
 by_cases c7:a0_2.toList=([]:List UInt8)
 rotate_left
 ·rw [if_neg c7] at H
  have c7b0:=beq_eq_false_iff_ne.mpr c7
  have c7b1:(a0_2.toList != ([]:List UInt8))=true:=bne_iff_ne.mpr c7
  obtain rfl:=Option.some.inj H
  go_enter Try.func95,Try.ntmps95
  go_wp2_with (first|((with_reducible refine gate_dst (N:=1) rfl ?_);refine Ka_ 1 #[.string a0_0,.string a0_1,.string a0_2,.bool a0_3] 107 ?_;intro gb101 hg w10 hbox hb;have BK101:=As_ (hbox);have GW101:=Kw_ HB hg;replace HB:=Ks_ HB hb;clear hb hbox hg;obtain ⟨_,_,_,_,_,_,_,_⟩:=Ke4_ BK101.out)|((with_reducible refine gate_callee (f:=104) rfl ?_);refine Kg_ (some 5) rfl rfl Try.func104 (by kernel_rfl) rfl #[.string a0_0] rfl ?_;(with_reducible refine (item_named.calls a0_0 true _ A2.out).mono ?_);rintro e w' ⟨rfl,⟨nd,rfl⟩⟩;refine ⟨_,rfl,?_⟩)|(go_at_call 104;(with_reducible refine (item_named.calls a0_1 true _ A4.out).mono ?_);rintro e w' ⟨rfl,⟨nd,rfl⟩⟩))
  go_ret
  exact ⟨Kh_,Kz_ HB GW101⟩
 rw [if_pos c7] at H
 have c7b0:(a0_2.toList == ([]:List UInt8))=true:=beq_iff_eq.mpr c7
 have c7b1:(a0_2.toList != ([]:List UInt8))=false:=bne_eq_false_iff_eq.mpr c7
 clear c7
 obtain rfl:=Option.some.inj H
 go_enter Try.func95,Try.ntmps95
 go_wp2_with (first|((with_reducible refine gate_dst (N:=1) rfl ?_);refine Ka_ 1 #[.string a0_0,.string a0_1,.string a0_2,.bool a0_3] 107 ?_;intro gb101 hg w8 hbox hb;have BK101:=As_ (hbox);have GW101:=Kw_ HB hg;replace HB:=Ks_ HB hb;clear hb hbox hg;obtain ⟨_,_,_,_,_,_,_,_⟩:=Ke4_ BK101.out)|((with_reducible refine gate_callee (f:=104) rfl ?_);refine Kg_ (some 5) rfl rfl Try.func104 (by kernel_rfl) rfl #[.string a0_0] rfl ?_;(with_reducible refine (item_named.calls a0_0 true _ A2.out).mono ?_);rintro e w' ⟨rfl,⟨nd,rfl⟩⟩;refine ⟨_,rfl,?_⟩)|(go_at_call 104;(with_reducible refine (item_named.calls a0_1 true _ A4.out).mono ?_);rintro e w' ⟨rfl,⟨nd,rfl⟩⟩))
 go_ret
 exact ⟨Kh_,Kz_ HB GW101⟩
def vec_Join.f (a0_0 a0_1 a0_2 a0_3 a1_0 a1_1 a1_2 a1_3:Int):Option (Int × Int × Int × Int):=some (mx a0_0 a1_0,mx a0_1 a1_1,mx a0_2 a1_2,mx a0_3 a1_3)
theorem vec_Join.pick (a b:Int) (w:World) :
  Calls Try.prog 84 #[.int .u64 a,.int .u64 b] w fun e w'=>e = .returned (.int .u64 (mx a b))∧w'=w:=by
 go_enter Try.func84,Try.ntmps84
 go_wp2
 all_goals (go_ret;refine ⟨?_,rfl⟩;unfold mx;by_cases h2:a<b <;> first|(rw [if_pos h2];rfl)|(rw [if_neg h2];rfl)|omega|(rw [if_pos h2,show a=b by omega];rfl)|(rw [if_neg h2,show a=b by omega];rfl))
theorem vec_Join.boxes3 (w:World) (xs ys zs:Array Value) (t:TypeId) (W:World) (h:((w.alloc (.cells xs t)).alloc (.cells ys t)).alloc (.cells zs t)=W) :
  W.heap[w.heap.size]?=some (.cells xs t (0,0))∧W.heap[w.heap.size+1]?=some (.cells ys t (0,0))∧W.heap[w.heap.size+1+1]?=some (.cells zs t (0,0))∧Below w.heap.size w W:=by
 subst h
 have s1:(w.alloc (.cells xs t)).heap.size=w.heap.size+1:=by simp [World.alloc,-World.alloc_eq]
 have s2:((w.alloc (.cells xs t)).alloc (.cells ys t)).heap.size=w.heap.size+1+1:=by simp [World.alloc,-World.alloc_eq]
 refine ⟨blk_alloc (blk_alloc (blk_new _ _) _) _,?_,?_,below_alloc (below_alloc (below_alloc (Below.refl _ _) _) _) _⟩
 ·rw [← s1];exact blk_alloc (blk_new _ _) _
 ·rw [← s2];exact blk_new _ _
set_option maxHeartbeats 8000000 in
set_option maxRecDepth 100000 in
theorem vec_Join.each (a0_0 a0_1 a0_2 a0_3 a1_0 a1_1 a1_2 a1_3:Int) (w:World) :
  Calls Try.prog 83 #[.agg #[.int .u64 a0_0,.int .u64 a0_1,.int .u64 a0_2,.int .u64 a0_3],.agg #[.int .u64 a1_0,.int .u64 a1_1,.int .u64 a1_2,.int .u64 a1_3],.func (.func 84) #[] #[]] w fun e w'=>e = .returned (.agg #[.int .u64 (mx a0_0 a1_0),.int .u64 (mx a0_1 a1_1),.int .u64 (mx a0_2 a1_2),.int .u64 (mx a0_3 a1_3)])∧Below w.heap.size w w':=by
 have hu:=Try.underlying28
 have hu2:=Try.underlying26
 go_enter Try.func83,Try.ntmps83
 go_wp2
 generalize hW:(((w.alloc (Obj.cells #[.int .u64 a0_0,.int .u64 a0_1,.int .u64 a0_2,.int .u64 a0_3] 28)).alloc
   (Obj.cells #[.int .u64 a1_0,.int .u64 a1_1,.int .u64 a1_2,.int .u64 a1_3] 28)).alloc (Obj.cells _ 28))=W0
 obtain ⟨hA,hB,hC,HB⟩:=vec_Join.boxes3 _ _ _ _ _ _ hW
 replace HB:=As_ HB
 clear hW
 obtain ⟨B0,hB0⟩:∃ B0,B0=w.heap.size:=⟨_,rfl⟩
 obtain ⟨B1,hB1⟩:∃ B1,B1=w.heap.size+1:=⟨_,rfl⟩
 obtain ⟨B2,hB2⟩:∃ B2,B2=w.heap.size+1+1:=⟨_,rfl⟩
 rw [← hB2,← hB1,← hB0]
 rw [← hB0] at hA
 rw [← hB1] at hB
 rw [← hB2] at hC
 have g01:B0 ≠ B1:=by omega
 have g02:B0 ≠ B2:=by omega
 have GB:=As_ (show w.heap.size≤B0 by omega)
 have GC:=As_ (show w.heap.size≤B2 by omega)
 clear hB0 hB1 hB2
 replace hA:=As_ hA
 replace hB:=As_ hB
 replace hC:=As_ hC
 refine wp_loop_rounds 5 ?_
 rw [rounds_succ]
 have ca:=(blk_cell hA.out 0).trans rfl
 have cb:=(blk_cell hB.out 0).trans rfl
 go_wp2
 go_still_tail 9,(by kernel_rfl)
 still_call (vec_Join.pick _ _ _)
 refine wpStill_nil ?_
 change wpList _ _ _ _ _ W0.drew
 clear ca cb
 have fa:W0.drew.frozen? ⟨B0,0,none⟩=false:=blk_frozen hA.out 0
 have ca:W0.drew.cell? ⟨B0,0,none⟩=some (.int .u64 a0_0):=blk_cell hA.out 0
 go_wp2
 have hA1:=As_ (blk_drew (blk_put hA.out 0 (.int .u64 (mx a0_0 a1_0)) (cs':=#[.int .u64 (mx a0_0 a1_0),.int .u64 a0_1,.int .u64 a0_2,.int .u64 a0_3]) rfl))
 have hB1:=As_ (blk_drew (blk_far hB.out (p:=⟨B0,0,none⟩) (Ne.symm g01) (.int .u64 (mx a0_0 a1_0))))
 have hC1:=As_ (blk_drew (blk_far hC.out (p:=⟨B0,0,none⟩) (Ne.symm g02) (.int .u64 (mx a0_0 a1_0))))
 have HB1:=As_ (below_drew1 (below_set (j:=0) (v:=.int .u64 (mx a0_0 a1_0)) HB.out GB.out))
 clear hA hB hC HB ca fa
 generalize (W0.setCell ⟨B0,0,none⟩ (.int .u64 (mx a0_0 a1_0))).drew=W1 at *
 clear W0
 have hA:=hA1
 have hB:=hB1
 have hC:=hC1
 have HB:=HB1
 clear hA1 hB1 hC1 HB1
 rw [rounds_succ]
 have ca:=(blk_cell hA.out 1).trans rfl
 have cb:=(blk_cell hB.out 1).trans rfl
 go_wp2
 go_still_tail 9,(by kernel_rfl)
 still_call (vec_Join.pick _ _ _)
 refine wpStill_nil ?_
 change wpList _ _ _ _ _ W1.drew
 clear ca cb
 have fa:W1.drew.frozen? ⟨B0,1,none⟩=false:=blk_frozen hA.out 1
 have ca:W1.drew.cell? ⟨B0,1,none⟩=some (.int .u64 a0_1):=blk_cell hA.out 1
 go_wp2
 have hA1:=As_ (blk_drew (blk_put hA.out 1 (.int .u64 (mx a0_1 a1_1)) (cs':=#[.int .u64 (mx a0_0 a1_0),.int .u64 (mx a0_1 a1_1),.int .u64 a0_2,.int .u64 a0_3]) rfl))
 have hB1:=As_ (blk_drew (blk_far hB.out (p:=⟨B0,1,none⟩) (Ne.symm g01) (.int .u64 (mx a0_1 a1_1))))
 have hC1:=As_ (blk_drew (blk_far hC.out (p:=⟨B0,1,none⟩) (Ne.symm g02) (.int .u64 (mx a0_1 a1_1))))
 have HB1:=As_ (below_drew1 (below_set (j:=1) (v:=.int .u64 (mx a0_1 a1_1)) HB.out GB.out))
 clear hA hB hC HB ca fa
 generalize (W1.setCell ⟨B0,1,none⟩ (.int .u64 (mx a0_1 a1_1))).drew=W2 at *
 clear W1
 have hA:=hA1
 have hB:=hB1
 have hC:=hC1
 have HB:=HB1
 clear hA1 hB1 hC1 HB1
 rw [rounds_succ]
 have ca:=(blk_cell hA.out 2).trans rfl
 have cb:=(blk_cell hB.out 2).trans rfl
 go_wp2
 go_still_tail 9,(by kernel_rfl)
 still_call (vec_Join.pick _ _ _)
 refine wpStill_nil ?_
 change wpList _ _ _ _ _ W2.drew
 clear ca cb
 have fa:W2.drew.frozen? ⟨B0,2,none⟩=false:=blk_frozen hA.out 2
 have ca:W2.drew.cell? ⟨B0,2,none⟩=some (.int .u64 a0_2):=blk_cell hA.out 2
 go_wp2
 have hA1:=As_ (blk_drew (blk_put hA.out 2 (.int .u64 (mx a0_2 a1_2)) (cs':=#[.int .u64 (mx a0_0 a1_0),.int .u64 (mx a0_1 a1_1),.int .u64 (mx a0_2 a1_2),.int .u64 a0_3]) rfl))
 have hB1:=As_ (blk_drew (blk_far hB.out (p:=⟨B0,2,none⟩) (Ne.symm g01) (.int .u64 (mx a0_2 a1_2))))
 have hC1:=As_ (blk_drew (blk_far hC.out (p:=⟨B0,2,none⟩) (Ne.symm g02) (.int .u64 (mx a0_2 a1_2))))
 have HB1:=As_ (below_drew1 (below_set (j:=2) (v:=.int .u64 (mx a0_2 a1_2)) HB.out GB.out))
 clear hA hB hC HB ca fa
 generalize (W2.setCell ⟨B0,2,none⟩ (.int .u64 (mx a0_2 a1_2))).drew=W3 at *
 clear W2
 have hA:=hA1
 have hB:=hB1
 have hC:=hC1
 have HB:=HB1
 clear hA1 hB1 hC1 HB1
 rw [rounds_succ]
 have ca:=(blk_cell hA.out 3).trans rfl
 have cb:=(blk_cell hB.out 3).trans rfl
 go_wp2
 go_still_tail 9,(by kernel_rfl)
 still_call (vec_Join.pick _ _ _)
 refine wpStill_nil ?_
 change wpList _ _ _ _ _ W3.drew
 clear ca cb
 have fa:W3.drew.frozen? ⟨B0,3,none⟩=false:=blk_frozen hA.out 3
 have ca:W3.drew.cell? ⟨B0,3,none⟩=some (.int .u64 a0_3):=blk_cell hA.out 3
 go_wp2
 have hA1:=As_ (blk_drew (blk_put hA.out 3 (.int .u64 (mx a0_3 a1_3)) (cs':=#[.int .u64 (mx a0_0 a1_0),.int .u64 (mx a0_1 a1_1),.int .u64 (mx a0_2 a1_2),.int .u64 (mx a0_3 a1_3)]) rfl))
 have hB1:=As_ (blk_drew (blk_far hB.out (p:=⟨B0,3,none⟩) (Ne.symm g01) (.int .u64 (mx a0_3 a1_3))))
 have hC1:=As_ (blk_drew (blk_far hC.out (p:=⟨B0,3,none⟩) (Ne.symm g02) (.int .u64 (mx a0_3 a1_3))))
 have HB1:=As_ (below_drew1 (below_set (j:=3) (v:=.int .u64 (mx a0_3 a1_3)) HB.out GB.out))
 clear hA hB hC HB ca fa
 generalize (W3.setCell ⟨B0,3,none⟩ (.int .u64 (mx a0_3 a1_3))).drew=W4 at *
 clear W3
 have hA:=hA1
 have hB:=hB1
 have hC:=hC1
 have HB:=HB1
 clear hA1 hB1 hC1 HB1
 rw [rounds_succ]
 have c0:=(blk_cell hA.out 0).trans rfl
 have c1:=(blk_cell hA.out 1).trans rfl
 have c2:=(blk_cell hA.out 2).trans rfl
 have c3:=(blk_cell hA.out 3).trans rfl
 have f0:=blk_frozen hC.out 0
 have f1:=blk_frozen hC.out 1
 have f2:=blk_frozen hC.out 2
 have f3:=blk_frozen hC.out 3
 have d0:=(blk_cell hC.out 0).trans rfl
 have d1:=(blk_cell hC.out 1).trans rfl
 have d2:=(blk_cell hC.out 2).trans rfl
 have d3:=(blk_cell hC.out 3).trans rfl
 go_wp2
 clear c0 c1 c2 c3 d0 d1 d2 d3 f0 f1 f2 f3
 have hC1:=As_ (blk_put (blk_put (blk_put (blk_put hC.out 0 (.int .u64 (mx a0_0 a1_0)) rfl) 1 (.int .u64 (mx a0_1 a1_1)) rfl) 2 (.int .u64 (mx a0_2 a1_2)) rfl) 3 (.int .u64 (mx a0_3 a1_3)) (cs':=#[.int .u64 (mx a0_0 a1_0),.int .u64 (mx a0_1 a1_1),.int .u64 (mx a0_2 a1_2),.int .u64 (mx a0_3 a1_3)]) rfl)
 have HB1:=As_ (below_set (j:=3) (v:=.int .u64 (mx a0_3 a1_3)) (below_set (j:=2) (v:=.int .u64 (mx a0_2 a1_2)) (below_set (j:=1) (v:=.int .u64 (mx a0_1 a1_1)) (below_set (j:=0) (v:=.int .u64 (mx a0_0 a1_0)) HB.out GC.out) GC.out) GC.out) GC.out)
 clear hA hB hC HB
 generalize (((W4.setCell ⟨B2,0,none⟩ (.int .u64 (mx a0_0 a1_0))).setCell ⟨B2,1,none⟩ (.int .u64 (mx a0_1 a1_1))).setCell ⟨B2,2,none⟩ (.int .u64 (mx a0_2 a1_2))).setCell ⟨B2,3,none⟩ (.int .u64 (mx a0_3 a1_3))=W5 at *
 clear W4
 have d0:=(blk_cell hC1.out 0).trans rfl
 have d1:=(blk_cell hC1.out 1).trans rfl
 have d2:=(blk_cell hC1.out 2).trans rfl
 have d3:=(blk_cell hC1.out 3).trans rfl
 refine bodyPost_ret (v:=.agg #[.int .u64 (mx a0_0 a1_0),.int .u64 (mx a0_1 a1_1),.int .u64 (mx a0_2 a1_2),.int .u64 (mx a0_3 a1_3)]) (by simp [results,Try.results83,go_sem,hu,hu2,d0,d1,d2,d3]) rfl ⟨rfl,HB1.out⟩
theorem vec_Join.calls (a0_0 a0_1 a0_2 a0_3 a1_0 a1_1 a1_2 a1_3 r1 r2 r3 r4:Int) (w:World) (h:vec_Join.f a0_0 a0_1 a0_2 a0_3 a1_0 a1_1 a1_2 a1_3=some (r1,r2,r3,r4)) :
  Calls Try.prog 45 #[.agg #[.int .u64 a0_0,.int .u64 a0_1,.int .u64 a0_2,.int .u64 a0_3],.agg #[.int .u64 a1_0,.int .u64 a1_1,.int .u64 a1_2,.int .u64 a1_3]] w fun e w'=>e = .returned (.agg #[.int .u64 r1,.int .u64 r2,.int .u64 r3,.int .u64 r4])∧Below w.heap.size w w':=by
 simp only [vec_Join.f,Option.some.injEq,Prod.mk.injEq] at h
 obtain ⟨rfl,rfl,rfl,rfl⟩:=h
 have hmf:∀ (fn:Fn) (first cap:Array Value) (w:World),(Instr.makeFunc fn first cap).run Try.prog w = .ok (.func fn first cap) w:=fun _ _ _ _=>rfl
 go_enter Try.func45,Try.ntmps45
 go_wp2_with (go_at_call 83;refine (vec_Join.each _ _ _ _ _ _ _ _ _).mono ?_;rintro e w1 ⟨rfl,hb⟩;have hX:=vec_Join.boxes3 w #[.int .u64 a0_0,.int .u64 a0_1,.int .u64 a0_2,.int .u64 a0_3] #[.int .u64 a1_0,.int .u64 a1_1,.int .u64 a1_2,.int .u64 a1_3] #[.int .u64 0,.int .u64 0,.int .u64 0,.int .u64 0] 28 _ rfl;have hC:=As_ (blk_below hX.2.2.1 hb);have HB:=As_ (below_step hX.2.2.2 hb);clear hX;clear hb;have f0:=blk_frozen hC.out 0;have f1:=blk_frozen hC.out 1;have f2:=blk_frozen hC.out 2;have f3:=blk_frozen hC.out 3;have d0:=(blk_cell hC.out 0).trans rfl;have d1:=(blk_cell hC.out 1).trans rfl;have d2:=(blk_cell hC.out 2).trans rfl;have d3:=(blk_cell hC.out 3).trans rfl)
 clear d0 d1 d2 d3 f0 f1 f2 f3
 have GC:w.heap.size≤w.heap.size+1+1:=by omega
 have hC1:=As_ (blk_put (blk_put (blk_put (blk_put hC.out 0 (.int .u64 (mx a0_0 a1_0)) rfl) 1 (.int .u64 (mx a0_1 a1_1)) rfl) 2 (.int .u64 (mx a0_2 a1_2)) rfl) 3 (.int .u64 (mx a0_3 a1_3)) (cs':=#[.int .u64 (mx a0_0 a1_0),.int .u64 (mx a0_1 a1_1),.int .u64 (mx a0_2 a1_2),.int .u64 (mx a0_3 a1_3)]) rfl)
 have HB1:=As_ (below_set (j:=3) (v:=.int .u64 (mx a0_3 a1_3)) (below_set (j:=2) (v:=.int .u64 (mx a0_2 a1_2)) (below_set (j:=1) (v:=.int .u64 (mx a0_1 a1_1)) (below_set (j:=0) (v:=.int .u64 (mx a0_0 a1_0)) HB.out GC) GC) GC) GC)
 clear hC HB
 generalize (((w1.setCell ⟨w.heap.size+1+1,0,none⟩ (.int .u64 (mx a0_0 a1_0))).setCell ⟨w.heap.size+1+1,1,none⟩ (.int .u64 (mx a0_1 a1_1))).setCell ⟨w.heap.size+1+1,2,none⟩ (.int .u64 (mx a0_2 a1_2))).setCell ⟨w.heap.size+1+1,3,none⟩ (.int .u64 (mx a0_3 a1_3))=W5 at *
 have hu:=Try.underlying28
 have hu2:=Try.underlying26
 have d0:=(blk_cell hC1.out 0).trans rfl
 have d1:=(blk_cell hC1.out 1).trans rfl
 have d2:=(blk_cell hC1.out 2).trans rfl
 have d3:=(blk_cell hC1.out 3).trans rfl
 refine bodyPost_ret (v:=.agg #[.int .u64 (mx a0_0 a1_0),.int .u64 (mx a0_1 a1_1),.int .u64 (mx a0_2 a1_2),.int .u64 (mx a0_3 a1_3)]) (by simp [results,Try.results45,go_sem,hu,hu2,d0,d1,d2,d3]) rfl ⟨rfl,HB1.out⟩
end Go.Proofs.Ytoagfdpgnfinhaa.Q

namespace Go.Proofs.Ytoagfdpgnfinhaa.Q
open Go.RowKit Go.Proofs.YtoagfdpgnfinhaaW.PrintWords Go.Proofs.YtoagfdpgnfinhaaW.PrintLast Go.Proofs.YtoagfdpgnfinhaaW.PrintMore
attribute [local go_sem] max2_int min2_int max_two min_two max_three min_three max_four min_four   -- for this text's walks alone
set_option linter.unusedVariables false
set_option linter.unusedSimpArgs false
attribute [local go_sem] ixA28_0 ixA28_1 ixA28_2 ixA28_3   -- for this text's walks alone
attribute [local go_sem high] eqA28
def vec_Leq.f (a0_0:Int) (a0_1:Int) (a0_2:Int) (a0_3:Int) (a1_0:Int) (a1_1:Int) (a1_2:Int) (a1_3:Int):Option (Bool):=(vec_Join.f a0_0 a0_1 a0_2 a0_3 a1_0 a1_1 a1_2 a1_3).bind fun bt113=>(some (bt113.1 == a1_0 && (bt113.2.1 == a1_1 && (bt113.2.2.1 == a1_2 && (bt113.2.2.2 == a1_3)))))
set_option maxHeartbeats 8000000 in
set_option maxRecDepth 100000 in
theorem vec_Leq.calls (a0_0:Int) (a0_1:Int) (a0_2:Int) (a0_3:Int) (a1_0:Int) (a1_1:Int) (a1_2:Int) (a1_3:Int) (r:Bool) (w:World) (h:vec_Leq.f a0_0 a0_1 a0_2 a0_3 a1_0 a1_1 a1_2 a1_3=some r) :
  Calls Try.prog 49 #[.agg #[.int .u64 a0_0,.int .u64 a0_1,.int .u64 a0_2,.int .u64 a0_3],.agg #[.int .u64 a1_0,.int .u64 a1_1,.int .u64 a1_2,.int .u64 a1_3]] w fun e w'=>e = .returned (.bool r)∧Below w.heap.size w w':=by
 have hu28:=Try.underlying28
 have HB:=As_ (Below.refl w.heap.size w)
 unfold vec_Leq.f at h
 have H:=h
 clear h
 obtain ⟨⟨t113,t114,t115,t116⟩,A3,H⟩:=Kbind_ H
 (try dsimp only at H)
 obtain rfl:=Option.some.inj H
 go_enter Try.func49,Try.ntmps49
 try go_wp2_with (first|((with_reducible refine gate_dst (N:=2) rfl ?_);refine Ka_ 2 #[.int .u64 a0_0,.int .u64 a0_1,.int .u64 a0_2,.int .u64 a0_3] 28 ?_;intro gb111 hg w4 hbox hb;have BK111:=As_ (hbox);have GW111:=Kw_ HB hg;replace HB:=Ks_ HB hb;clear hb hbox hg)|((with_reducible refine gate_dst (N:=3) rfl ?_);refine Ka_ 3 #[.int .u64 a1_0,.int .u64 a1_1,.int .u64 a1_2,.int .u64 a1_3] 28 ?_;intro gb112 hg w5 hbox hb;have BK112:=As_ (hbox);have GW112:=Kw_ HB hg;replace BK111:=Kb_ BK111 hb;replace HB:=Ks_ HB hb;clear hb hbox hg))
 replace BK111:=Kd_ BK111
 replace BK112:=Kd_ BK112
 replace HB:=As_ (below_drew1 HB.out)
 refine start_ (n:=6) (S:=fun w'=>w'.cell? ⟨gb111,0,none⟩=some (.int .u64 a0_0)∧w'.cell? ⟨gb111,1,none⟩=some (.int .u64 a0_1)∧w'.cell? ⟨gb111,2,none⟩=some (.int .u64 a0_2)∧w'.cell? ⟨gb111,3,none⟩=some (.int .u64 a0_3)∧w'.cell? ⟨gb112,0,none⟩=some (.int .u64 a1_0)∧w'.cell? ⟨gb112,1,none⟩=some (.int .u64 a1_1)∧w'.cell? ⟨gb112,2,none⟩=some (.int .u64 a1_2)∧w'.cell? ⟨gb112,3,none⟩=some (.int .u64 a1_3)) (ds:=[]) (mB_ 6 0) (by kernel_rfl) rfl rfl ⟨Km_ BK111 0,Km_ BK111 1,Km_ BK111 2,Km_ BK111 3,Km_ BK112 0,Km_ BK112 1,Km_ BK112 2,Km_ BK112 3⟩ (fun hHeld=>?_)
 generalize w5.drew=w6 at BK111 BK112 HB hHeld ⊢
 refine Ko_ 0 5 (mB_ 6 1) (by kernel_rfl) hHeld ?_
 refine Ko_ 1 6 (mB_ 6 3) (by kernel_rfl) hHeld ?_
 refine Ko_ 3 8 (mB_ 6 11) (by kernel_rfl) hHeld ?_
 refine one_ (i:=2) (N:=some 7) (mB_ 6 15) rfl rfl (by kernel_rfl) (by decide) (fun K hK=>?_)
 refine goes_ Try.func45 (by kernel_rfl) rfl #[.agg #[.int .u64 a0_0,.int .u64 a0_1,.int .u64 a0_2,.int .u64 a0_3],.agg #[.int .u64 a1_0,.int .u64 a1_1,.int .u64 a1_2,.int .u64 a1_3]] (by rfl) rfl rfl (by (try simp only [List.map_toArray,List.map_cons,List.map_nil]);first|done|rfl|(simp only [List.length_drop,List.length_take];rfl)) ?_
 with_reducible refine (vec_Join.calls a0_0 a0_1 a0_2 a0_3 a1_0 a1_1 a1_2 a1_3 t113 t114 t115 t116 _ A3.out).mono ?_
 rintro e w7 ⟨rfl,hb⟩
 refine ⟨_,rfl,?_⟩
 replace BK111:=Kb_ BK111 hb
 replace BK112:=Kb_ BK112 hb
 replace HB:=Ks_ HB hb
 (try clear hb)
 (try clear hb2)
 (try clear hk)
 (try clear hi)
 refine hK.out _ _ ⟨Km_ BK111 0,Km_ BK111 1,Km_ BK111 2,Km_ BK111 3,Km_ BK112 0,Km_ BK112 1,Km_ BK112 2,Km_ BK112 3⟩ (fun hHeld=>?_)
 clear hK K
 refine Kn_ 7 ?_
 refine Kp_ 4 9 (mB_ 6 31) (by kernel_rfl) ?_
 refine Kp_ 5 4 (mB_ 6 63) (by kernel_rfl) ?_
 refine done_ (by kernel_rfl) ?_
 try go_wp2
 go_ret
 exact ⟨Kh_,K2a_ HB GW111 GW112⟩
end Go.Proofs.Ytoagfdpgnfinhaa.Q

namespace Go.Proofs.Ytoagfdpgnfinhaa.Q
open Go.RowKit Go.Proofs.YtoagfdpgnfinhaaW.PrintWords Go.Proofs.YtoagfdpgnfinhaaW.PrintLast Go.Proofs.YtoagfdpgnfinhaaW.PrintMore
attribute [local go_sem] max2_int min2_int max_two min_two max_three min_three max_four min_four   -- for this text's walks alone
set_option linter.unusedVariables false
set_option linter.unusedSimpArgs false
def vec_Right.f (a0_0:Int) (a0_1:Int) (a0_2:Int) (a0_3:Int):Option (Bool):=(vec_Leq.f a0_0 a0_1 a0_2 a0_3 1152921504606846976 1152921504606846976 1152921504606846976 1152921504606846976).bind fun t118=>(some t118)
set_option maxHeartbeats 8000000 in
set_option maxRecDepth 100000 in
theorem vec_Right.calls (a0_0:Int) (a0_1:Int) (a0_2:Int) (a0_3:Int) (r:Bool) (w:World) (h:vec_Right.f a0_0 a0_1 a0_2 a0_3=some r) :
  Calls Try.prog 92 #[.agg #[.int .u64 a0_0,.int .u64 a0_1,.int .u64 a0_2,.int .u64 a0_3]] w fun e w'=>e = .returned (.bool r)∧Below w.heap.size w w':=by
 have hu28:=Try.underlying28
 have HB:=As_ (Below.refl w.heap.size w)
 unfold vec_Right.f at h
 have H:=h
 clear h
 obtain ⟨t118,A2,H⟩:=Kbind_ H
 (try dsimp only at H)
 obtain rfl:=Option.some.inj H
 go_enter Try.func92,Try.ntmps92
 go_wp2_with (first|((with_reducible refine gate_dst (N:=1) rfl ?_);refine Ka_ 1 #[.int .u64 a0_0,.int .u64 a0_1,.int .u64 a0_2,.int .u64 a0_3] 28 ?_;intro gb117 hg w3 hbox hb;have BK117:=As_ (hbox);have GW117:=Kw_ HB hg;replace HB:=Ks_ HB hb;clear hb hbox hg;obtain ⟨_,_,_,_,_,_,_,_⟩:=Ke4_ BK117.out)|((with_reducible refine gate_callee (f:=49) rfl ?_);refine Kg_ (some 5) rfl rfl Try.func49 (by kernel_rfl) rfl #[.agg #[.int .u64 a0_0,.int .u64 a0_1,.int .u64 a0_2,.int .u64 a0_3],.agg #[.int .u64 1152921504606846976,.int .u64 1152921504606846976,.int .u64 1152921504606846976,.int .u64 1152921504606846976]] rfl ?_;(with_reducible refine (vec_Leq.calls a0_0 a0_1 a0_2 a0_3 1152921504606846976 1152921504606846976 1152921504606846976 1152921504606846976 t118 _ A2.out).mono ?_);rintro e w5 ⟨rfl,hb⟩;refine ⟨_,rfl,?_⟩;replace HB:=Ks_ HB hb;(try clear hb)))
 go_ret
 exact ⟨Kh_,Kz_ HB GW117⟩
def stamp_Right.f (a0_0:Int) (a0_1:Int) (a0_2:Int) (a0_3:Int) (a0_4:Int):Option (Bool):=(vec_Right.f a0_0 a0_1 a0_2 a0_3).bind fun t120=>(if t120=true then ((stamp_Stamp_N.f a0_0 a0_1 a0_2 a0_3 a0_4).bind fun t121=>(some (decide (t121 > 0)))) else (some false))
set_option maxHeartbeats 8000000 in
set_option maxRecDepth 100000 in
theorem stamp_Right.calls (a0_0:Int) (a0_1:Int) (a0_2:Int) (a0_3:Int) (a0_4:Int) (r:Bool) (w:World) (h:stamp_Right.f a0_0 a0_1 a0_2 a0_3 a0_4=some r) :
  Calls Try.prog 69 #[.agg #[.int .u64 a0_0,.int .u64 a0_1,.int .u64 a0_2,.int .u64 a0_3,.int .i64 a0_4]] w fun e w'=>e = .returned (.bool r)∧Below w.heap.size w w':=by
 have hu30:=Try.underlying30
 have hu28:=Try.underlying28
 have HB:=As_ (Below.refl w.heap.size w)
 unfold stamp_Right.f at h
 have H:=h
 clear h
 obtain ⟨t120,A2,H⟩:=Kbind_ H
 (try dsimp only at H)
 by_cases c3:t120=true
 rotate_left
 ·replace c3:=Bool.eq_false_iff.mpr c3
  subst c3
  rw [if_neg Bool.false_ne_true] at H
  obtain rfl:=Option.some.inj H
  go_enter Try.func69,Try.ntmps69
  go_wp2_with (first|((with_reducible refine gate_dst (N:=1) rfl ?_);refine Ka_ 1 #[.int .u64 a0_0,.int .u64 a0_1,.int .u64 a0_2,.int .u64 a0_3,.int .i64 a0_4] 30 ?_;intro gb119 hg w10 hbox hb;have BK119:=As_ (hbox);have GW119:=Kw_ HB hg;replace HB:=Ks_ HB hb;clear hb hbox hg;obtain ⟨_,_,_,_,_,_,_,_,_,_⟩:=Ke5_ BK119.out)|((with_reducible refine gate_callee (f:=92) rfl ?_);refine Kg_ (some 5) rfl rfl Try.func92 (by kernel_rfl) rfl #[.agg #[.int .u64 a0_0,.int .u64 a0_1,.int .u64 a0_2,.int .u64 a0_3]] rfl ?_;(with_reducible refine (vec_Right.calls a0_0 a0_1 a0_2 a0_3 false _ A2.out).mono ?_);rintro e w12 ⟨rfl,hb⟩;refine ⟨_,rfl,?_⟩;replace HB:=Ks_ HB hb;(try clear hb)))
  go_ret
  exact ⟨Kh_,Kz_ HB GW119⟩
 subst c3
 rw [if_pos rfl] at H
 obtain ⟨t121,A4,H⟩:=Kbind_ H
 (try dsimp only at H)
 obtain rfl:=Option.some.inj H
 go_enter Try.func69,Try.ntmps69
 go_wp2_with (first|((with_reducible refine gate_dst (N:=1) rfl ?_);refine Ka_ 1 #[.int .u64 a0_0,.int .u64 a0_1,.int .u64 a0_2,.int .u64 a0_3,.int .i64 a0_4] 30 ?_;intro gb119 hg w5 hbox hb;have BK119:=As_ (hbox);have GW119:=Kw_ HB hg;replace HB:=Ks_ HB hb;clear hb hbox hg;obtain ⟨_,_,_,_,_,_,_,_,_,_⟩:=Ke5_ BK119.out)|((with_reducible refine gate_callee (f:=92) rfl ?_);refine Kg_ (some 5) rfl rfl Try.func92 (by kernel_rfl) rfl #[.agg #[.int .u64 a0_0,.int .u64 a0_1,.int .u64 a0_2,.int .u64 a0_3]] rfl ?_;(with_reducible refine (vec_Right.calls a0_0 a0_1 a0_2 a0_3 true _ A2.out).mono ?_);rintro e w7 ⟨rfl,hb⟩;refine ⟨_,rfl,?_⟩;replace BK119:=Kb_ BK119 hb;replace HB:=Ks_ HB hb;(try clear hb);obtain ⟨_,_,_,_,_,_,_,_,_,_⟩:=Ke5_ BK119.out)|(go_at_call 47;(with_reducible refine (stamp_Stamp_N.calls a0_0 a0_1 a0_2 a0_3 a0_4 t121 _ A4.out).mono ?_);rintro e w9 ⟨rfl,hb⟩;replace HB:=Ks_ HB hb;(try clear hb)))
 go_ret
 exact ⟨Kh_,Kz_ HB GW119⟩
def item_Whole.apart:List S107→Bool
 | []=>true
 | x :: xs=>xs.all (fun y=>!decide (x.f0.data.toList=y.f0.data.toList∧x.f1.data.toList=y.f1.data.toList)) && item_Whole.apart xs
def item_Whole.right (x:S107):Bool:=(item_Right.f x.f0 x.f1 x.f2 x.f3).getD false
def item_Whole.f (a0_0 a0_1 a0_2 a0_3 a0_4:Int) (l0_5:List S107):Option Bool :=
 if (∀ x ∈ l0_5,x.f0.size≤9223372036854775807∧x.f1.size≤9223372036854775807)∧l0_5.length≤9223372036854775806 then
  (stamp_Right.f a0_0 a0_1 a0_2 a0_3 a0_4).bind fun t=>some (t && decide (0<l0_5.length) && decide (l0_5.length≤8) && item_Whole.apart l0_5 && !l0_5.any (fun x=>!item_Whole.right x))
 else none
theorem item_Whole.right_f (x:S107):item_Right.f x.f0 x.f1 x.f2 x.f3=some (item_Whole.right x):=by
 unfold item_Whole.right
 have hn:∀ s:ByteArray,∃ b,item_named.f s=some b:=by
  intro s
  unfold item_named.f
  split <;> exact ⟨_,rfl⟩
 unfold item_Right.f
 obtain ⟨b,hb⟩:=hn x.f0
 obtain ⟨c,hc⟩:=hn x.f1
 rw [hb,hc,Option.bind_some,Option.bind_some]
 repeat' split
 all_goals rfl
abbrev item_Whole.enc (x:S107):Value:=.agg #[.string x.f0,.string x.f1,.string x.f2,.bool x.f3]
theorem item_Whole.enters_ (P : Program) {f : FuncId} {fn : Func} {c : Code} (hf : P.funcs[f]? = some fn) (hname : (fn.name == "runtime.NumGoroutine") = false) (hb : fn.body = some c) (args : Array Value) (w : World) : (callFunc f args).run P w = .ok (.enter f args) w := by
 have h1 : fn.name ≠ "runtime.NumGoroutine" := by simpa using hname
 simp [callFunc,hf,h1,hb,mark]
set_option maxHeartbeats 8000000 in
set_option maxRecDepth 100000 in
theorem item_Whole.clos (x0 x1 x2:ByteArray) (x3:Bool) (w:World) :
  Calls Try.prog 94 #[.agg #[.string x0,.string x1,.string x2,.bool x3]] w fun e w'=>e = .returned (.bool (!item_Whole.right ⟨x0,x1,x2,x3⟩))∧Below w.heap.size w w':=by
 have HB:=As_ (Below.refl w.heap.size w)
 have HR:=As_ (item_Whole.right_f ⟨x0,x1,x2,x3⟩)
 generalize item_Whole.right ⟨x0,x1,x2,x3⟩=b at HR ⊢
 go_enter Try.func94,Try.ntmps94
 replace HB:=As_ (below_alloc HB.out (Obj.cells #[.string x0,.string x1,.string x2,.bool x3] 107))
 go_wp2_with (go_at_call 95;refine (item_Right.calls x0 x1 x2 x3 b _ HR.out).mono ?_;rintro e w1 ⟨rfl,hb⟩;replace HB:=As_ (below_step HB.out hb);clear hb)
 go_ret
 exact ⟨rfl,HB.out⟩
set_option maxHeartbeats 8000000 in
set_option maxRecDepth 100000 in
theorem item_Whole.index_ (p:S107→Bool) (g:Nat) (lb:Array Value) (eg:∀ args w,(callFunc g args).run Try.prog w = .ok (.enter g args) w) (A:Option Addr) (c:Nat) (l:List S107) (w:World) (hr:Kd.C k107 w A l.length l) (hc:l.length≤c) (hl:l.length≤9223372036854775806)
  (hp:∀ (W:World) (x:S107),Below w.heap.size w W→Calls Try.prog g (#[item_Whole.enc x]++lb) W fun e w'=>e = .returned (.bool (p x))∧Below W.heap.size W w') :
  Calls Try.prog 105 #[.slice A l.length c,.func (.func g) #[] lb] w fun e w'=>∃ r:Int,e = .returned (.int .i64 r)∧decide (r ≥ 0)=l.any p∧Below w.heap.size w w':=by
 have HR0:=As_ hr
 clear hr
 have HB:=As_ (Below.refl w.heap.size w)
 have HP:=As_ hp
 clear hp
 go_enter Try.func105,Try.ntmps105
 go_wp2
 go_loopg [8] l.length (fun kq v8 w'=>∃ (j:Nat),v8 = .int .i64 j∧Aside0 (j≤l.length)∧Aside0 (l.length - j≤kq)∧Aside0 ((l.take j).any p=false)∧Aside0 (Below w.heap.size w w'))
 case atStart=>exact ⟨0,rfl,⟨by omega⟩,⟨by omega⟩,⟨rfl⟩,HB⟩
 case round =>
  obtain ⟨j,rfl,HJ,HK,HO,HB⟩:=hrel
  by_cases c1:j<l.length
  rotate_left
  ·have c1b:decide ((j:Int)<(l.length:Int))=false:=decide_eq_false (by omega)
   have e:l.take j=l:=List.take_of_length_le (by omega)
   rw [e] at HO
   go_wp2
   go_ret
   exact ⟨_,rfl,by rw [HO.out];rfl,HB.out⟩
  ·have c1b:decide ((j:Int)<(l.length:Int))=true:=decide_eq_true (by omega)
   have c0b:decide (0≤(j:Int))=true:=decide_eq_true (by omega)
   have hx:l[j]? = .some (rd_T107 l j):=by
    unfold rd_T107
    rw [Int.toNat_natCast,List.getD_eq_getElem?_getD,List.getElem?_eq_getElem c1]
    rfl
   have hm:rd_T107 l j ∈ l:=List.mem_of_getElem? hx
   obtain ⟨ad,e0,h0,h1,h2,h3⟩:=at_T107 HR0.out (j:Int) (by omega) (by omega)
   cases e0
   replace h0:=(HB.out.cell (World.block_lt_of_cell? w _ h0)).trans h0
   replace h1:=(HB.out.cell (World.block_lt_of_cell? w _ h1)).trans h1
   replace h2:=(HB.out.cell (World.block_lt_of_cell? w _ h2)).trans h2
   replace h3:=(HB.out.cell (World.block_lt_of_cell? w _ h3)).trans h3
   have HX:=As_ (show (l.take (j+1)).any p=p (rd_T107 l j) by
    rw [List.take_add_one,hx,List.any_append,HO.out]
    simp only [Option.toList,List.any_cons,List.any_nil,Bool.or_false,Bool.false_or])
   have HY:=As_ (show p (rd_T107 l j)=true→l.any p=true from fun h=>List.any_eq_true.2 ⟨_,hm,h⟩)
   clear hx hm HO
   generalize rd_T107 l j=x at *
   obtain ⟨x0,x1,x2,x3⟩:=x
   simp only [Int.toNat_natCast] at h0 h1 h2 h3
   have HC:=As_ (HP.out wr ⟨x0,x1,x2,x3⟩ HB.out)
   cases hq:p ⟨x0,x1,x2,x3⟩ with
   | true =>
    have hy:=HY.out hq
    rw [hq] at HC
    go_wp2_with (fail)
    refine HC.out.mono ?_
    rintro e w1 ⟨rfl,hb⟩
    replace HB:=As_ (below_step HB.out hb)
    clear hb HC
    go_wp2
    go_ret
    exact ⟨j,rfl,by rw [hy];exact decide_eq_true (by omega),HB.out⟩
   | false =>
    rw [hq] at HC HX
    go_wp2_with (fail)
    refine HC.out.mono ?_
    rintro e w1 ⟨rfl,hb⟩
    replace HB:=As_ (below_step HB.out hb)
    clear hb HC
    go_wp2
    go_roundg (l.length - (j+1))
    case measure=>have:=HK.out;omega
    case rel=>exact ⟨j+1,by first|rfl|(rw [show ((j+1:Nat):Int)=(j:Int)+1 by omega];rfl)|(rw [show ((j+1:Nat):Int)=(j:Int)+1 by omega];congr 1;exact wrap64_id (by omega) (by omega)),⟨by omega⟩,⟨by omega⟩,HX,HB⟩
set_option maxHeartbeats 8000000 in
set_option maxRecDepth 100000 in
theorem item_Whole.contains_ (A:Option Addr) (c:Nat) (l:List S107) (w:World) (hr:Kd.C k107 w A l.length l) (hc:l.length≤c) (hl:l.length≤9223372036854775806) :
  Calls Try.prog 96 #[.slice A l.length c,.func (.func 94) #[] #[]] w fun e w'=>e = .returned (.bool (l.any fun x=>!item_Whole.right x))∧Below w.heap.size w w':=by
 have HC:=As_ (item_Whole.index_ (fun x=>!item_Whole.right x) 94 #[] (item_Whole.enters_ Try.prog Try.func94 (by kernel_rfl) rfl) A c l w hr hc hl (fun W x _=>by obtain ⟨x0,x1,x2,x3⟩:=x;exact item_Whole.clos x0 x1 x2 x3 W))
 clear hr hc
 generalize (l.any fun x=>!item_Whole.right x)=b at HC ⊢
 go_enter Try.func96,Try.ntmps96
 go_wp2_with (go_at_call 105;refine HC.out.mono ?_;rintro e w1 ⟨r,rfl,hd,hb⟩;have HD:=As_ hd;have HB:=As_ hb;clear hd hb HC)
 go_ret
 exact ⟨by rw [← HD.out];rfl,HB.out⟩
def item_Whole.kl (x:S107):Lit:=.string (keyBytes [.string x.f0.data.toList,.string x.f1.data.toList])
theorem item_Whole.keyed:Go.Maps.Keyed Try.prog 169 :=
 Go.Maps.Keyed.of_law (deep_law_laid (show laidOutB Try.prog=true by kernel_rfl) (m:=2) (by omega) (of_decide_eq_true (by kernel_rfl)) (by kernel_rfl) (by kernel_rfl))
theorem item_Whole.key_of (x:S107) (h0:x.f0.size≤9223372036854775807) (h1:x.f1.size≤9223372036854775807):keyOf Try.prog 169 (.agg #[.string x.f0,.string x.f1])=some (item_Whole.kl x):=by
 have hu:=Try.underlying169
 have hs:=Try.underlying9
 have hk:Try.prog.keyType 169=true:=by kernel_rfl
 have hf:(Value.agg #[.string x.f0,.string x.f1]).formed Try.prog 169=true:=by
  have hc:Try.prog.cellsOf 169=2:=by kernel_rfl
  simp [Value.formed,hu,hc]
 have hc:Try.prog.cellsOf 169=2:=by kernel_rfl
 have hc9:Try.prog.cellsOf 9=1:=by kernel_rfl
 have hn:∃ n,Try.prog.types.size+1=n+2:=⟨Try.prog.types.size - 1,by have:1≤Try.prog.types.size:=of_decide_eq_true (by kernel_rfl);omega⟩
 obtain ⟨n,hn⟩:=hn
 have m0:x.f0.size≤maxLen:=by unfold maxLen;omega
 have m1:x.f1.size≤maxLen:=by unfold maxLen;omega
 unfold keyOf
 rw [hu]
 simp only [hk,hf,Bool.and_self,if_true,hn]
 have k1:∀ s:ByteArray,s.size≤maxLen→Try.prog.keyLits (n+1) 9 [.string s]=some [.string s.data.toList]:=by
  intro s m
  unfold Program.keyLits
  simp only [hs]
  rw [if_pos m]
 unfold Program.keyLits
 simp only [hu]
 rw [if_pos ⟨by rw [hc];rfl,by first|rfl|decide +kernel⟩]
 have e0:=k1 _ m0
 have e1:=k1 _ m1
 clear hu hs hk hf hc
 simp [hc9,Value.cells,e0,e1,item_Whole.kl]
theorem item_Whole.kl_inj (x y:S107) (h0:x.f0.size≤9223372036854775807) (h1:x.f1.size≤9223372036854775807) (k0:y.f0.size≤9223372036854775807) (k1:y.f1.size≤9223372036854775807) (h:item_Whole.kl x=item_Whole.kl y):x.f0=y.f0∧x.f1=y.f1:=by
 have e:=item_Whole.keyed.inj (item_Whole.key_of x h0 h1) (h ▸ item_Whole.key_of y k0 k1)
 simpa using e
theorem item_Whole.isKey (x:S107):WideAt.IsKeyLit (item_Whole.kl x):=trivial
theorem item_Whole.fold_len:∀ (L acc:List Lit),(L.foldl Go.Maps.addKey acc).length≤acc.length+L.length
 | [],acc=>by simp
 | x :: xs,acc=>by
  rw [List.foldl_cons]
  have h:=item_Whole.fold_len xs (Go.Maps.addKey acc x)
  have h2:(Go.Maps.addKey acc x).length≤acc.length+1:=by
   unfold Go.Maps.addKey
   split <;> simp
  simp only [List.length_cons]
  omega
theorem item_Whole.fold_apart:∀ (l:List S107) (acc:List Lit),(∀ x ∈ l,x.f0.size≤9223372036854775807∧x.f1.size≤9223372036854775807) →
  (((l.map item_Whole.kl).foldl Go.Maps.addKey acc).length=acc.length+l.length ↔ (∀ x ∈ l,acc.any (fun y=>y.sameKey (item_Whole.kl x))=false)∧item_Whole.apart l=true)
 | [],acc,_=>by simp [item_Whole.apart]
 | x :: xs,acc,hs=>by
  have hs':∀ y ∈ xs,y.f0.size≤9223372036854775807∧y.f1.size≤9223372036854775807:=fun y hy=>hs y (by simp [hy])
  rw [List.map_cons,List.foldl_cons]
  by_cases c:acc.any (fun y=>y.sameKey (item_Whole.kl x))=true
  ·have e:Go.Maps.addKey acc (item_Whole.kl x)=acc:=by unfold Go.Maps.addKey;rw [if_pos c]
   rw [e]
   have h:=item_Whole.fold_len (xs.map item_Whole.kl) acc
   rw [List.length_map] at h
   constructor
   ·intro h2
    simp only [List.length_cons] at h2
    omega
   ·intro h2
    have:=h2.1 x (by simp)
    rw [c] at this
    cases this
  ·have c':acc.any (fun y=>y.sameKey (item_Whole.kl x))=false:=by simpa using c
   have e:Go.Maps.addKey acc (item_Whole.kl x)=acc++[item_Whole.kl x]:=by unfold Go.Maps.addKey;rw [if_neg c]
   rw [e]
   have h:=item_Whole.fold_apart xs (acc++[item_Whole.kl x]) hs'
   have hx:∀ y ∈ xs,(item_Whole.kl x).sameKey (item_Whole.kl y)=decide (x.f0.data.toList=y.f0.data.toList∧x.f1.data.toList=y.f1.data.toList):=by
    intro y hy
    by_cases d:x.f0.data.toList=y.f0.data.toList∧x.f1.data.toList=y.f1.data.toList
    ·have e:item_Whole.kl x=item_Whole.kl y:=by unfold item_Whole.kl;rw [d.1,d.2]
     rw [e,WideAt.sameKey_self (item_Whole.isKey y),decide_eq_true d]
    ·have e:item_Whole.kl x ≠ item_Whole.kl y:=fun e=>d (by
      have q:=item_Whole.kl_inj x y (hs x (by simp)).1 (hs x (by simp)).2 (hs' y hy).1 (hs' y hy).2 e
      rw [q.1,q.2]
      exact ⟨rfl,rfl⟩)
     rw [Go.Maps.sameKey_ne e,decide_eq_false d]
   rw [List.length_append,List.length_singleton] at h
   rw [List.length_cons,show acc.length+(xs.length+1)=acc.length+1+xs.length by omega,h]
   have ea:item_Whole.apart (x :: xs)=(xs.all (fun y=>!decide (x.f0.data.toList=y.f0.data.toList∧x.f1.data.toList=y.f1.data.toList)) && item_Whole.apart xs):=rfl
   rw [ea,Bool.and_eq_true,List.all_eq_true]
   constructor
   ·rintro ⟨h1,h2⟩
    refine ⟨?_,?_,h2⟩
    ·intro y hy
     rcases List.mem_cons.1 hy with rfl|hy
     ·exact c'
     ·have:=h1 y hy
      rw [List.any_append,Bool.or_eq_false_iff] at this
      exact this.1
    ·intro y hy
     have:=h1 y hy
     rw [List.any_append,Bool.or_eq_false_iff] at this
     have:=this.2
     simp only [List.any_cons,List.any_nil,Bool.or_false] at this
     rw [← hx y hy,this]
     rfl
   ·rintro ⟨h1,h2,h3⟩
    refine ⟨?_,h3⟩
    intro y hy
    rw [List.any_append,h1 y (by simp [hy]),Bool.false_or]
    simp only [List.any_cons,List.any_nil,Bool.or_false]
    rw [hx y hy]
    have q:=h2 y hy
    revert q
    cases decide (x.f0.data.toList=y.f0.data.toList∧x.f1.data.toList=y.f1.data.toList) <;> simp
theorem item_Whole.size_apart (l:List S107) (hs:∀ x ∈ l,x.f0.size≤9223372036854775807∧x.f1.size≤9223372036854775807) (u:DataW Unit):decide (((Go.Maps.size (Go.Maps.setOf u (l.map item_Whole.kl)):Nat):Int)=(l.length:Int))=item_Whole.apart l:=by
 have h1:Go.Maps.size (Go.Maps.setOf u (l.map item_Whole.kl))=((l.map item_Whole.kl).foldl Go.Maps.addKey []).length:=Go.Maps.size_setOf u _ (fun y hy=>by obtain ⟨x,_,rfl⟩:=List.mem_map.1 hy;exact item_Whole.isKey x)
 have h2:=item_Whole.fold_apart l [] hs
 rw [h1]
 simp only [List.length_nil,Nat.zero_add,List.any_nil,implies_true,true_and] at h2
 cases hb:item_Whole.apart l with
 | true=>exact decide_eq_true (by rw [h2.2 hb])
 | false=>exact decide_eq_false (fun e=>by rw [h2.1 (by omega)] at hb;cases hb)
theorem item_Whole.grown_below {w W w1:World} {B:Nat} (h:Below w.heap.size w W) (hg:W.grownBy w1 (some B)) (hB:w.heap.size≤B):Below w.heap.size w w1 :=
 ⟨hg.os.trans h.os,hg.tape.trans h.tape,hg.output.trans h.output,Nat.le_trans h.size hg.size,fun i hi=>(hg.block i (Nat.lt_of_lt_of_le hi h.size) (by simp;omega)).trans (h.block i hi)⟩
set_option maxHeartbeats 8000000 in
set_option maxRecDepth 100000 in
theorem item_Whole.calls (a0_0 a0_1 a0_2 a0_3 a0_4:Int) (A0_5:Option Addr) (c0_5:Nat) (l0_5:List S107) (r:Bool) (w:World) (hr0_5:Kd.C k107 w A0_5 l0_5.length l0_5) (hc0_5:l0_5.length≤c0_5) (h:item_Whole.f a0_0 a0_1 a0_2 a0_3 a0_4 l0_5=some r) :
  Calls Try.prog 73 #[.agg #[.int .u64 a0_0,.int .u64 a0_1,.int .u64 a0_2,.int .u64 a0_3,.int .i64 a0_4,.slice A0_5 l0_5.length c0_5]] w fun e w'=>e = .returned (.bool r)∧Below w.heap.size w w':=by
 unfold item_Whole.f at h
 by_cases hs:(∀ x ∈ l0_5,x.f0.size≤9223372036854775807∧x.f1.size≤9223372036854775807)∧l0_5.length≤9223372036854775806
 rotate_left
 ·rw [if_neg hs] at h;cases h
 rw [if_pos hs] at h
 obtain ⟨t,ht,h⟩:=Option.bind_eq_some_iff.1 h
 obtain ⟨hs,hl⟩:=hs
 have HR:=As_ hr0_5
 have HS:=As_ hs
 have HT:=As_ ht
 have HH:=As_ (Option.some.inj h)
 have HKEY:Aside0 (∀ x ∈ l0_5,keyOf Try.prog 169 (.agg #[.string x.f0,.string x.f1])=some (item_Whole.kl x)):=⟨fun x hx=>item_Whole.key_of x (hs x hx).1 (hs x hx).2⟩
 clear hr0_5 hs ht h
 have HB:=As_ (Below.refl w.heap.size w)
 have hmm:=@run_makeMap Try.prog
 go_enter Try.func73,Try.ntmps73
 go_wp2
 go_loopg [11] l0_5.length (fun kq v11 w'=>∃ (j:Nat),v11 = .int .i64 j∧Aside0 (j≤l0_5.length)∧Aside0 (l0_5.length - j≤kq)∧Aside0 (w'.heap[w.heap.size]?=some (.cells #[.int .u64 a0_0,.int .u64 a0_1,.int .u64 a0_2,.int .u64 a0_3,.int .i64 a0_4,.slice A0_5 l0_5.length c0_5] 33 (0,0)))∧Aside0 (w'.ownsMap Try.prog 169 (plainElem (H:=Unit) Try.prog 4) (w.heap.size+1) j (Go.Maps.setOf (.lit (.bool true)) ((l0_5.take j).map item_Whole.kl)))∧Aside0 (Below w.heap.size w w'))
 case atStart =>
  have s1:(w.alloc (Obj.cells #[.int .u64 a0_0,.int .u64 a0_1,.int .u64 a0_2,.int .u64 a0_3,.int .i64 a0_4,.slice A0_5 l0_5.length c0_5] 33)).heap.size=w.heap.size+1:=by simp [World.alloc,-World.alloc_eq]
  have hmade:=World.ownsMap_made (w.alloc (Obj.cells #[.int .u64 a0_0,.int .u64 a0_1,.int .u64 a0_2,.int .u64 a0_3,.int .i64 a0_4,.slice A0_5 l0_5.length c0_5] 33)) Try.prog 169 (plainElem (H:=Unit) Try.prog 4)
  rw [s1] at hmade
  exact ⟨0,rfl,⟨by omega⟩,⟨by omega⟩,⟨blk_alloc (blk_new _ _) _⟩,⟨hmade⟩,⟨below_alloc (below_alloc (Below.refl _ _) _) _⟩⟩
 case round =>
  obtain ⟨j,rfl,HJ,HK,HBK,HM,HB⟩:=hrel
  by_cases c1:j<l0_5.length
  rotate_left
  ·have c1b:decide ((j:Int)<(l0_5.length:Int))=false:=decide_eq_false (by omega)
   have e:l0_5.take j=l0_5:=List.take_of_length_le (by omega)
   rw [e] at HM
   have HA:=As_ (item_Whole.size_apart l0_5 HS.out (.lit (.bool true)))
   obtain ⟨k0,k1,k2,k3,k4,k5,z0,z1,z2,z3,z4,z5⟩:=Ke6_ HBK.out
   go_wp2_with (fail)
   refine (stamp_Right.calls a0_0 a0_1 a0_2 a0_3 a0_4 t _ HT.out).mono ?_
   rintro e w1 ⟨rfl,hb⟩
   have BK1:=As_ (blk_below HBK.out hb)
   have HM1:=HM.out.kept (row:=none) (World.grownBy.mk hb.os hb.tape hb.output hb.size (fun i hi _=>hb.block i hi)) (by simp)
   have hlen:=HM1.len Try.underlying167 3
   have HB2:=As_ (below_step HB.out hb)
   have HR2:=As_ (Kd.C_below HR.out HB2.out)
   clear hb HM1 HM HBK k0 k1 k2 k3 k4 k5 z0 z1 z2 z3 z4 z5 HB
   obtain ⟨k0,k1,k2,k3,k4,k5,z0,z1,z2,z3,z4,z5⟩:=Ke6_ BK1.out
   have HA':=HA.out
   clear HA
   generalize Go.Maps.size (Go.Maps.setOf (H:=Unit) (.lit (.bool true)) (l0_5.map item_Whole.kl))=m at hlen HA'
   have HH':=HH.out
   clear HH BK1 HT HS HKEY c1 HJ HK
   cases t with
   | false =>
    go_wp2
    go_ret
    exact ⟨by rw [← HH'];simp,HB2.out⟩
   | true =>
    by_cases d1:0<l0_5.length
    rotate_left
    ·have q1:decide (0<(l0_5.length:Int))=false:=decide_eq_false (by omega)
     go_wp2
     go_ret
     exact ⟨by rw [← HH'];simp [d1],HB2.out⟩
    have q1:decide (0<(l0_5.length:Int))=true:=decide_eq_true (by omega)
    by_cases d2:l0_5.length≤8
    rotate_left
    ·have q2:decide ((l0_5.length:Int)≤8)=false:=decide_eq_false (by omega)
     go_wp2
     go_ret
     exact ⟨by rw [← HH'];simp [d2],HB2.out⟩
    have q2:decide ((l0_5.length:Int)≤8)=true:=decide_eq_true (by omega)
    cases ha:item_Whole.apart l0_5 with
    | false =>
     rw [ha] at HA' HH'
     have q3:((m:Int) == (l0_5.length:Int))=false:=HA'
     go_wp2
     go_ret
     exact ⟨by rw [← HH'];simp,HB2.out⟩
    | true =>
     rw [ha] at HA' HH'
     have q3:((m:Int) == (l0_5.length:Int))=true:=HA'
     go_wp2_with (fail)
     refine (item_Whole.contains_ A0_5 c0_5 l0_5 _ HR2.out hc0_5 hl).mono ?_
     rintro e w2 ⟨rfl,hb⟩
     have HB3:=As_ (below_step HB2.out hb)
     clear hb
     go_wp2
     go_ret
     exact ⟨by rw [← HH'];simp [d1,d2],HB3.out⟩
  ·have c1b:decide ((j:Int)<(l0_5.length:Int))=true:=decide_eq_true (by omega)
   have c0b:decide (0≤(j:Int))=true:=decide_eq_true (by omega)
   have hx:l0_5[j]? = .some (rd_T107 l0_5 j):=by
    unfold rd_T107
    rw [Int.toNat_natCast,List.getD_eq_getElem?_getD,List.getElem?_eq_getElem c1]
    rfl
   have hm:rd_T107 l0_5 j ∈ l0_5:=List.mem_of_getElem? hx
   obtain ⟨ad,e0,h0,h1,h2,h3⟩:=at_T107 HR.out (j:Int) (by omega) (by omega)
   cases e0
   replace h0:=(HB.out.cell (World.block_lt_of_cell? w _ h0)).trans h0
   replace h1:=(HB.out.cell (World.block_lt_of_cell? w _ h1)).trans h1
   replace h2:=(HB.out.cell (World.block_lt_of_cell? w _ h2)).trans h2
   replace h3:=(HB.out.cell (World.block_lt_of_cell? w _ h3)).trans h3
   have HX:=As_ (show Go.Maps.setOf (H:=Unit) (.lit (.bool true)) ((l0_5.take (j+1)).map item_Whole.kl)=(Go.Maps.setOf (.lit (.bool true)) ((l0_5.take j).map item_Whole.kl)).put (item_Whole.kl (rd_T107 l0_5 j)) (.lit (.bool true)) by
    rw [List.take_add_one,hx,List.map_append]
    exact Go.Maps.setOf_snoc _ _ _)
   have HY:=As_ (HKEY.out _ hm)
   clear hx hm
   generalize rd_T107 l0_5 j=x at *
   obtain ⟨x0,x1,x2,x3⟩:=x
   simp only [Int.toNat_natCast] at h0 h1 h2 h3
   have HM1:=As_ (HM.out.alloc (Obj.cells #[.string x0,.string x1,.string x2,.bool x3] 107))
   have HB1:=As_ (below_alloc HB.out (Obj.cells #[.string x0,.string x1,.string x2,.bool x3] 107))
   have HBK1:=As_ (blk_alloc HBK.out (Obj.cells #[.string x0,.string x1,.string x2,.bool x3] 107))
   go_wp2_with (first|(at_mapUpdate;refine wpList_mapUpdate_own _ rfl _ _ _ 167 rfl 169 4 item_Whole.keyed Try.underlying167 (plainElem (H:=Unit) Try.prog 4) (w.heap.size+1) j _ rfl HM1.out (by unfold maxLen;omega) _ _ (item_Whole.kl ⟨x0,x1,x2,x3⟩) rfl rfl HY.out (.lit (.bool true)) [] (plainElem_bool Try.underlying4 true) ?_;intro w1 hown1 hgrow1;have HM2:=As_ hown1;have HG:=As_ hgrow1;clear hown1 hgrow1))
   have hb1:=As_ (item_Whole.grown_below HB1.out HG.out (by omega))
   have hbk:=As_ ((HG.out.block _ (blk_lt HBK1.out) (by simp)).trans HBK1.out)
   clear HB1 HG HBK1 HM1
   go_roundg (l0_5.length - (j+1))
   case measure=>have:=HK.out;omega
   case rel=>exact ⟨j+1,by first|rfl|(rw [show ((j+1:Nat):Int)=(j:Int)+1 by omega];rfl)|(rw [show ((j+1:Nat):Int)=(j:Int)+1 by omega];congr 1;exact wrap64_id (by omega) (by omega)),⟨by omega⟩,⟨by omega⟩,hbk,⟨by rw [HX.out];exact HM2.out⟩,hb1⟩
end Go.Proofs.Ytoagfdpgnfinhaa.Q
