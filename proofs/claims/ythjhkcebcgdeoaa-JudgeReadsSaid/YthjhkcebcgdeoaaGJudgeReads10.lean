import Derived.Test.YthjhkcebcgdeoaaGJudgeReads2
import Derived.Test.YthjhkcebcgdeoaaGJudgeReads4
import Derived.Test.YthjhkcebcgdeoaaGJudgeReads3
import Derived.Test.YthjhkcebcgdeoaaGJudgeReads5
import Derived.Test.YthjhkcebcgdeoaaGJudgeReads8
import Derived.Test.YthjhkcebcgdeoaaGJudgeReads6
namespace Go.Proofs.Ythjhkcebcgdeoaa.Q
open Go.RowKit Go.Proofs.YthjhkcebcgdeoaaW.PrintWords Go.Proofs.YthjhkcebcgdeoaaW.PrintLast Go.Proofs.YthjhkcebcgdeoaaW.PrintMore
attribute [local go_sem] max2_int min2_int max_two min_two max_three min_three max_four min_four   -- for this text's walks alone
set_option linter.unusedVariables false
set_option linter.unusedSimpArgs false
def tenementlaw22_JudgeReads.made (k : Nat) (l0 : List S61) (al : List S64) : Prop := al.length = min l0.length 10 ∧ ∀ i : Nat, i < al.length → ∃ a b c g : Int, tenementlaw22_Deal_deal.f k (rd_T61 l0 i).f0.f0.f0.f0 (rd_T61 l0 i).f0.f0.f0.f1 (rd_T61 l0 i).f0.f0.f0.f2 (rd_T61 l0 i).f0.f0.f0.f3 (rd_T61 l0 i).f0.f0.f1 (rd_T61 l0 i).f0.f1 (rd_T61 l0 i).f1 true = some (a, b, c, g, (rd_T64 al i).f0.f1, (rd_T64 al i).f1) ∧ vec_With.f a b c g (rd_T64 al i).f0.f1 ((i : Int) + 1) = some ((rd_T64 al i).f0.f0.f0, (rd_T64 al i).f0.f0.f1, (rd_T64 al i).f0.f0.f2, (rd_T64 al i).f0.f0.f3)
def tenementlaw22_JudgeReads.ok (l0 : List S61) (a1_0 a1_1 a1_2 : ByteArray) (a1_3 a1_4 : Bool) (a1_5 : Int) (a2_0 a2_1 a2_2 a2_3 : Int) (a2_4 : Bool) (a3_0 a3_1 a3_2 a3_3 : Int) (a3_4 : Bool) (k : Nat) (v0 v1 v2 v3 m0 m1 m2 m3 f0 f1 f2 f3 : Int) (al : List S64) (wb wk wv : ByteArray) (wg : Bool) (b d e : ByteArray) (o1 o2 : Bool) : Prop := tenementlaw22_Vector_vector.f k a2_0 a2_1 a2_2 a2_3 a2_4 = some (v0, v1, v2, v3) ∧ tenementlaw22_Vector_vector.f k a3_0 a3_1 a3_2 a3_3 a3_4 = some (m0, m1, m2, m3) ∧ vec_Join.f v0 v1 v2 v3 m0 m1 m2 m3 = some (f0, f1, f2, f3) ∧ tenementlaw22_Put_write.f a1_0 a1_1 a1_2 a1_3 true a1_5 = some (wb, wk, wv, wg) ∧ tenementlaw22_JudgeReads.made k l0 al ∧ judge_Read.f al wb wk v0 v1 v2 v3 = some (b, o1) ∧ judge_Last.f (al.filter (fun t : S64 => decide (t.f0.f0.f0 ≤ v0 ∧ t.f0.f0.f1 ≤ v1 ∧ t.f0.f0.f2 ≤ v2 ∧ t.f0.f0.f3 ≤ v3))) wb wk = some (b, o1) ∧ judge_Read.f al wb wk f0 f1 f2 f3 = some (d, o2) ∧ judge_Last.f (al.filter (fun t : S64 => decide (t.f0.f0.f0 ≤ f0 ∧ t.f0.f0.f1 ≤ f1 ∧ t.f0.f0.f2 ≤ f2 ∧ t.f0.f0.f3 ≤ f3))) wb wk = some (d, o2) ∧ judge_Read.f al wb wk 0 0 0 0 = some (e, false)
open Classical in
noncomputable def tenementlaw22_JudgeReads.f (l0 : List S61) (a1_0 a1_1 a1_2 : ByteArray) (a1_3 a1_4 : Bool) (a1_5 : Int) (a2_0 a2_1 a2_2 a2_3 : Int) (a2_4 : Bool) (a3_0 a3_1 a3_2 a3_3 : Int) (a3_4 : Bool) : Option Bool := if ∃ (k : Nat) (v0 v1 v2 v3 m0 m1 m2 m3 f0 f1 f2 f3 : Int) (al : List S64) (wb wk wv : ByteArray) (wg : Bool) (b d e : ByteArray) (o1 o2 : Bool), tenementlaw22_JudgeReads.ok l0 a1_0 a1_1 a1_2 a1_3 a1_4 a1_5 a2_0 a2_1 a2_2 a2_3 a2_4 a3_0 a3_1 a3_2 a3_3 a3_4 k v0 v1 v2 v3 m0 m1 m2 m3 f0 f1 f2 f3 al wb wk wv wg b d e o1 o2 then some true else none
set_option maxHeartbeats 16000000 in
set_option maxRecDepth 100000 in
theorem tenementlaw22_JudgeReads.calls (A0 : Option Addr) (c0 : Nat) (l0 : List S61) (a1_0 a1_1 a1_2 : ByteArray) (a1_3 a1_4 : Bool) (a1_5 : Int) (a2_0 a2_1 a2_2 a2_3 : Int) (a2_4 : Bool) (a3_0 a3_1 a3_2 a3_3 : Int) (a3_4 : Bool) (r : Bool) (w : World) (hr0 : Kd.C k61 w A0 l0.length l0) (hc0 : l0.length ≤ c0) (h : tenementlaw22_JudgeReads.f l0 a1_0 a1_1 a1_2 a1_3 a1_4 a1_5 a2_0 a2_1 a2_2 a2_3 a2_4 a3_0 a3_1 a3_2 a3_3 a3_4 = some r) :
  Calls Try.prog 8 #[.slice A0 l0.length c0, .agg #[.string a1_0, .string a1_1, .string a1_2, .bool a1_3, .bool a1_4, .int .u8 a1_5], .agg #[.int .u64 a2_0, .int .u64 a2_1, .int .u64 a2_2, .int .u64 a2_3, .bool a2_4], .agg #[.int .u64 a3_0, .int .u64 a3_1, .int .u64 a3_2, .int .u64 a3_3, .bool a3_4]] w fun e w' => e = .returned (.bool r) ∧ Below w.heap.size w w' := by
 unfold tenementlaw22_JudgeReads.f at h
 by_cases hw : ∃ (k : Nat) (v0 v1 v2 v3 m0 m1 m2 m3 f0 f1 f2 f3 : Int) (al : List S64) (wb wk wv : ByteArray) (wg : Bool) (b d e : ByteArray) (o1 o2 : Bool), tenementlaw22_JudgeReads.ok l0 a1_0 a1_1 a1_2 a1_3 a1_4 a1_5 a2_0 a2_1 a2_2 a2_3 a2_4 a3_0 a3_1 a3_2 a3_3 a3_4 k v0 v1 v2 v3 m0 m1 m2 m3 f0 f1 f2 f3 al wb wk wv wg b d e o1 o2
 rotate_left
 ·rw [if_neg hw] at h; cases h
 rw [if_pos hw] at h
 obtain rfl := Option.some.inj h
 clear h
 obtain ⟨k, v0, v1, v2, v3, m0, m1, m2, m3, f0, f1, f2, f3, al, wb, wk, wv, wg, b, d, e, o1, o2, h1, h2, h3, h4, h5, h6, h7, h8, h9, h10⟩ := hw
 have HV := Aside0.mk h1
 have HMV := Aside0.mk h2
 have HJO := Aside0.mk h3
 have HPW := Aside0.mk h4
 have HMA := Aside0.mk h5
 have E1 := Aside0.mk h6
 have E2 := Aside0.mk h7
 have E3 := Aside0.mk h8
 have E4 := Aside0.mk h9
 have E5 := Aside0.mk h10
 have HR0 := Aside0.mk hr0
 clear h1 h2 h3 h4 h5 h6 h7 h8 h9 h10 hr0
 go_enter Try.func8, Try.ntmps8
 go_wp2_with (first
  | ((with_reducible refine gate_dst (N := 5) rfl ?_); refine Ka_ 5 #[.string a1_0, .string a1_1, .string a1_2, .bool a1_3, .bool a1_4, .int .u8 a1_5] 26 ?_; intro g5 hg w1 hbox hb; have GE5 : Aside0 (w.heap.size ≤ g5) := ⟨Nat.le_of_eq hg.symm⟩; have BK5a := Aside0.mk hbox; have HB1 := Aside0.mk hb; clear hb hbox hg)
  | ((with_reducible refine gate_dst (N := 6) rfl ?_); refine Ka_ 6 #[.int .u64 a2_0, .int .u64 a2_1, .int .u64 a2_2, .int .u64 a2_3, .bool a2_4] 31 ?_; intro g6 hg w2 hbox hb; have BK5b := Aside0.mk (blk_below BK5a.out hb); have BK6a := Aside0.mk hbox; have HB2 := Aside0.mk (below_step HB1.out hb); clear hb hbox hg)
  | ((with_reducible refine gate_dst (N := 7) rfl ?_); refine Ka_ 7 #[.int .u64 a3_0, .int .u64 a3_1, .int .u64 a3_2, .int .u64 a3_3, .bool a3_4] 31 ?_; intro g7 hg w3 hbox hb; have BK5c := Aside0.mk (blk_below BK5b.out hb); have BK6b := Aside0.mk (blk_below BK6a.out hb); have BK7a := Aside0.mk hbox; have HB3 := Aside0.mk (below_step HB2.out hb); clear hb hbox hg)
  | ((with_reducible refine gate_dst (N := 30) rfl ?_); refine Kg_ (some 30) rfl rfl Try.func10 (by kernel_rfl) rfl #[] rfl ?_; (with_reducible refine (tenementlaw22_examples.calls true _ rfl).mono ?_); rintro e w4 ⟨rfl, hb⟩; refine ⟨_, rfl, ?_⟩; have BK5d := Aside0.mk (blk_below BK5c.out hb); have BK7b := Aside0.mk (blk_below BK7a.out hb); have HB4 := Aside0.mk (below_step HB3.out hb); have hv0 := (blk_cell (blk_below BK6b.out hb) 0).trans rfl; have hv1 := (blk_cell (blk_below BK6b.out hb) 1).trans rfl; have hv2 := (blk_cell (blk_below BK6b.out hb) 2).trans rfl; have hv3 := (blk_cell (blk_below BK6b.out hb) 3).trans rfl; have hv4 := (blk_cell (blk_below BK6b.out hb) 4).trans rfl; clear hb)
  | ((with_reducible refine gate_dst (N := 34) rfl ?_); refine Kg_ (some 34) rfl rfl Try.func13 (by kernel_rfl) rfl #[.agg #[.int .u64 a2_0, .int .u64 a2_1, .int .u64 a2_2, .int .u64 a2_3, .bool a2_4]] rfl ?_; (with_reducible refine (tenementlaw22_Vector_vector.calls k a2_0 a2_1 a2_2 a2_3 a2_4 v0 v1 v2 v3 _ HV.out).mono ?_); rintro e w5 ⟨rfl, hb⟩; refine ⟨_, rfl, ?_⟩; have BK5e := Aside0.mk (blk_below BK5d.out hb); have BK7c := Aside0.mk (blk_below BK7b.out hb); have HB5 := Aside0.mk (below_step HB4.out hb); clear hb hv0 hv1 hv2 hv3 hv4)
  | ((with_reducible refine gate_dst (N := 12) rfl ?_); refine Ka_ 12 #[.int .u64 0, .int .u64 0, .int .u64 0, .int .u64 0] 29 ?_; intro g12 hg w6 hbox hb; have GE12 : Aside0 (w.heap.size ≤ g12) := ⟨by rw [hg]; exact HB5.out.size⟩; have GE12b : Aside0 (w5.heap.size ≤ g12) := ⟨Nat.le_of_eq hg.symm⟩; have H56 := Aside0.mk hb; have BK12a := Aside0.mk hbox; have HB6 := Aside0.mk (below_step HB5.out hb); obtain ⟨hz0, hz1, hz2, hz3, fz0, fz1, fz2, fz3⟩ := Go.Proofs.Ythjhkcebcgdeoaa.Jud.cells4 BK12a.out; clear hb hbox hg))
 have HB7 : Aside0 (Below w.heap.size w ((((w6.setCell ⟨g12, 0, none⟩ (.int .u64 v0)).setCell ⟨g12, 1, none⟩ (.int .u64 v1)).setCell ⟨g12, 2, none⟩ (.int .u64 v2)).setCell ⟨g12, 3, none⟩ (.int .u64 v3)).drew) := ⟨below_drew1 ((((((((HB6.out).setCell GE12.out _)).setCell GE12.out _)).setCell GE12.out _)).setCell GE12.out _)⟩
 have BK12 : Aside0 (((((w6.setCell ⟨g12, 0, none⟩ (.int .u64 v0)).setCell ⟨g12, 1, none⟩ (.int .u64 v1)).setCell ⟨g12, 2, none⟩ (.int .u64 v2)).setCell ⟨g12, 3, none⟩ (.int .u64 v3)).drew.heap[g12]? = some (.cells #[.int .u64 v0, .int .u64 v1, .int .u64 v2, .int .u64 v3] 29 (0, 0))) := ⟨blk_drew (by refine Kv_ ?_; refine blk_put (cs := #[.int .u64 v0, .int .u64 v1, .int .u64 v2, .int .u64 0]) ?_ 3 _ rfl; refine Kv_ ?_; refine blk_put (cs := #[.int .u64 v0, .int .u64 v1, .int .u64 0, .int .u64 0]) ?_ 2 _ rfl; refine Kv_ ?_; refine blk_put (cs := #[.int .u64 v0, .int .u64 0, .int .u64 0, .int .u64 0]) ?_ 1 _ rfl; refine Kv_ ?_; refine blk_put (cs := #[.int .u64 0, .int .u64 0, .int .u64 0, .int .u64 0]) ?_ 0 _ rfl; exact Kq_ BK12a)⟩
 have BK5 : Aside0 (((((w6.setCell ⟨g12, 0, none⟩ (.int .u64 v0)).setCell ⟨g12, 1, none⟩ (.int .u64 v1)).setCell ⟨g12, 2, none⟩ (.int .u64 v2)).setCell ⟨g12, 3, none⟩ (.int .u64 v3)).drew.heap[g5]? = some (.cells #[.string a1_0, .string a1_1, .string a1_2, .bool a1_3, .bool a1_4, .int .u8 a1_5] 26 (0, 0))) := ⟨blk_drew (blk_below BK5e.out ((((((((H56.out).setCell GE12b.out _)).setCell GE12b.out _)).setCell GE12b.out _)).setCell GE12b.out _))⟩
 have BK7 : Aside0 (((((w6.setCell ⟨g12, 0, none⟩ (.int .u64 v0)).setCell ⟨g12, 1, none⟩ (.int .u64 v1)).setCell ⟨g12, 2, none⟩ (.int .u64 v2)).setCell ⟨g12, 3, none⟩ (.int .u64 v3)).drew.heap[g7]? = some (.cells #[.int .u64 a3_0, .int .u64 a3_1, .int .u64 a3_2, .int .u64 a3_3, .bool a3_4] 31 (0, 0))) := ⟨blk_drew (blk_below BK7c.out ((((((((H56.out).setCell GE12b.out _)).setCell GE12b.out _)).setCell GE12b.out _)).setCell GE12b.out _))⟩
 refine start_ (n := 6) (S := fun w' => w'.cell? ⟨g12, 0, none⟩ = some (.int .u64 v0) ∧ w'.cell? ⟨g12, 1, none⟩ = some (.int .u64 v1) ∧ w'.cell? ⟨g12, 2, none⟩ = some (.int .u64 v2) ∧ w'.cell? ⟨g12, 3, none⟩ = some (.int .u64 v3) ∧ w'.cell? ⟨g7, 0, none⟩ = some (.int .u64 a3_0) ∧ w'.cell? ⟨g7, 1, none⟩ = some (.int .u64 a3_1) ∧ w'.cell? ⟨g7, 2, none⟩ = some (.int .u64 a3_2) ∧ w'.cell? ⟨g7, 3, none⟩ = some (.int .u64 a3_3) ∧ w'.cell? ⟨g7, 4, none⟩ = some (.bool a3_4)) (ds := [5]) (mB_ 6 0) (by kernel_rfl) rfl rfl ⟨(blk_cell BK12.out 0).trans rfl, (blk_cell BK12.out 1).trans rfl, (blk_cell BK12.out 2).trans rfl, (blk_cell BK12.out 3).trans rfl, (blk_cell BK7.out 0).trans rfl, (blk_cell BK7.out 1).trans rfl, (blk_cell BK7.out 2).trans rfl, (blk_cell BK7.out 3).trans rfl, (blk_cell BK7.out 4).trans rfl⟩ (fun hHeld => ?_)
 generalize ((((w6.setCell ⟨g12, 0, none⟩ (.int .u64 v0)).setCell ⟨g12, 1, none⟩ (.int .u64 v1)).setCell ⟨g12, 2, none⟩ (.int .u64 v2)).setCell ⟨g12, 3, none⟩ (.int .u64 v3)).drew = w7 at HB7 BK12 BK5 BK7 hHeld ⊢
 refine Ko_ 0 35 (mB_ 6 1) (by kernel_rfl) hHeld ?_
 refine Ko_ 1 36 (mB_ 6 3) (by kernel_rfl) hHeld ?_
 refine two_ (i := 2) (j := 4) (Ni := some 37) (Nj := some 13) (mB_ 6 7) (mB_ 6 19) rfl rfl rfl rfl (by kernel_rfl) (by decide) (by decide) (fun K hK => ?_) (fun K hK => ?_)
 all_goals first
  | (
   refine goes_ Try.func13 (by kernel_rfl) rfl #[.agg #[.int .u64 a3_0, .int .u64 a3_1, .int .u64 a3_2, .int .u64 a3_3, .bool a3_4]] (by rfl) rfl rfl (by (try simp only [List.map_toArray, List.map_cons, List.map_nil]); first | done | rfl) ?_
   refine (tenementlaw22_Vector_vector.calls k a3_0 a3_1 a3_2 a3_3 a3_4 m0 m1 m2 m3 w7 HMV.out).mono ?_
   rintro e w8 ⟨rfl, hb⟩
   refine ⟨_, rfl, ?_⟩
   have HB8 := Aside0.mk (below_step HB7.out hb)
   have BK12_8 := Aside0.mk (blk_below BK12.out hb)
   have BK5_8 := Aside0.mk (blk_below BK5.out hb)
   have BK7_8 := Aside0.mk (blk_below BK7.out hb)
   have HL_ := hb
   clear hb
   clear HL_
   refine hK.out _ _ ⟨(blk_cell BK12_8.out 0).trans rfl, (blk_cell BK12_8.out 1).trans rfl, (blk_cell BK12_8.out 2).trans rfl, (blk_cell BK12_8.out 3).trans rfl, (blk_cell BK7_8.out 0).trans rfl, (blk_cell BK7_8.out 1).trans rfl, (blk_cell BK7_8.out 2).trans rfl, (blk_cell BK7_8.out 3).trans rfl, (blk_cell BK7_8.out 4).trans rfl⟩ (fun hHeld => ?_)
   clear hK K
   refine Kn_ 37 ?_
   refine two_ (i := 3) (j := 4) (Ni := some 38) (Nj := some 13) (mB_ 6 15) (mB_ 6 23) rfl rfl rfl rfl (by kernel_rfl) (by decide) (by decide) (fun K hK => ?_) (fun K hK => ?_)
   all_goals first
    | (
     refine goes_ Try.func30 (by kernel_rfl) rfl #[.agg #[.int .u64 v0, .int .u64 v1, .int .u64 v2, .int .u64 v3], .agg #[.int .u64 m0, .int .u64 m1, .int .u64 m2, .int .u64 m3]] (by rfl) rfl rfl (by (try simp only [List.map_toArray, List.map_cons, List.map_nil]); first | done | rfl) ?_
     refine (vec_Join.calls v0 v1 v2 v3 m0 m1 m2 m3 f0 f1 f2 f3 w8 HJO.out).mono ?_
     rintro e w9 ⟨rfl, hb⟩
     refine ⟨_, rfl, ?_⟩
     have HB9 := Aside0.mk (below_step HB8.out hb)
     have BK12_9 := Aside0.mk (blk_below BK12_8.out hb)
     have BK5_9 := Aside0.mk (blk_below BK5_8.out hb)
     have BK7_9 := Aside0.mk (blk_below BK7_8.out hb)
     have HL_ := hb
     clear hb
     clear HL_
     refine hK.out _ _ ⟨(blk_cell BK12_9.out 0).trans rfl, (blk_cell BK12_9.out 1).trans rfl, (blk_cell BK12_9.out 2).trans rfl, (blk_cell BK12_9.out 3).trans rfl, (blk_cell BK7_9.out 0).trans rfl, (blk_cell BK7_9.out 1).trans rfl, (blk_cell BK7_9.out 2).trans rfl, (blk_cell BK7_9.out 3).trans rfl, (blk_cell BK7_9.out 4).trans rfl⟩ (fun hHeld => ?_)
     clear hK K
     refine Kn_ 38 ?_
     refine one_ (i := 4) (N := some 13) (mB_ 6 31) rfl rfl (by kernel_rfl) (by decide) (fun K hK => ?_)
     refine value_ (w1 := ?_) (v := ?_) (by rfl) rfl ?_ ?_
     rotate_left 2
     ·go_simp
      constructor
      ·rfl
      ·rfl
     refine hK.out _ _ ⟨(blk_cell (blk_alloc BK12_9.out _) 0).trans rfl, (blk_cell (blk_alloc BK12_9.out _) 1).trans rfl, (blk_cell (blk_alloc BK12_9.out _) 2).trans rfl, (blk_cell (blk_alloc BK12_9.out _) 3).trans rfl, (blk_cell (blk_alloc BK7_9.out _) 0).trans rfl, (blk_cell (blk_alloc BK7_9.out _) 1).trans rfl, (blk_cell (blk_alloc BK7_9.out _) 2).trans rfl, (blk_cell (blk_alloc BK7_9.out _) 3).trans rfl, (blk_cell (blk_alloc BK7_9.out _) 4).trans rfl⟩ (fun hHeld => ?_)
     clear hK K
     refine Kn_ 13 ?_
     have BK13_10 := Aside0.mk (blk_new w9 (Obj.cells #[.int .u64 0, .int .u64 0, .int .u64 0, .int .u64 0] 29))
     have BK12_10 := Aside0.mk (blk_alloc BK12_9.out (Obj.cells #[.int .u64 0, .int .u64 0, .int .u64 0, .int .u64 0] 29))
     have BK5_10 := Aside0.mk (blk_alloc BK5_9.out (Obj.cells #[.int .u64 0, .int .u64 0, .int .u64 0, .int .u64 0] 29))
     have BK7_10 := Aside0.mk (blk_alloc BK7_9.out (Obj.cells #[.int .u64 0, .int .u64 0, .int .u64 0, .int .u64 0] 29))
     have HB10 := Aside0.mk (below_alloc HB9.out (Obj.cells #[.int .u64 0, .int .u64 0, .int .u64 0, .int .u64 0] 29))
     have GE13 : Aside0 (w.heap.size ≤ w9.heap.size) := ⟨(HB9.out).size⟩
     have N12 : Aside0 (g12 ≠ w9.heap.size) := ⟨Nat.ne_of_lt (blk_lt BK12_9.out)⟩
     have N5 : Aside0 (g5 ≠ w9.heap.size) := ⟨Nat.ne_of_lt (blk_lt BK5_9.out)⟩
     generalize w9.alloc (Obj.cells #[.int .u64 0, .int .u64 0, .int .u64 0, .int .u64 0] 29) = w10 at BK13_10 BK12_10 BK5_10 BK7_10 HB10 hHeld ⊢
     generalize w9.heap.size = g13 at BK13_10 GE13 N12 N5 ⊢
     )
    | (
     refine value_ (w1 := ?_) (v := ?_) (by rfl) rfl ?_ ?_
     rotate_left 2
     ·go_simp
      constructor
      ·rfl
      ·rfl
     refine hK.out _ _ ⟨(blk_cell (blk_alloc BK12_8.out _) 0).trans rfl, (blk_cell (blk_alloc BK12_8.out _) 1).trans rfl, (blk_cell (blk_alloc BK12_8.out _) 2).trans rfl, (blk_cell (blk_alloc BK12_8.out _) 3).trans rfl, (blk_cell (blk_alloc BK7_8.out _) 0).trans rfl, (blk_cell (blk_alloc BK7_8.out _) 1).trans rfl, (blk_cell (blk_alloc BK7_8.out _) 2).trans rfl, (blk_cell (blk_alloc BK7_8.out _) 3).trans rfl, (blk_cell (blk_alloc BK7_8.out _) 4).trans rfl⟩ (fun hHeld => ?_)
     clear hK K
     refine Kn_ 13 ?_
     have BK13_9 := Aside0.mk (blk_new w8 (Obj.cells #[.int .u64 0, .int .u64 0, .int .u64 0, .int .u64 0] 29))
     have BK12_9 := Aside0.mk (blk_alloc BK12_8.out (Obj.cells #[.int .u64 0, .int .u64 0, .int .u64 0, .int .u64 0] 29))
     have BK5_9 := Aside0.mk (blk_alloc BK5_8.out (Obj.cells #[.int .u64 0, .int .u64 0, .int .u64 0, .int .u64 0] 29))
     have BK7_9 := Aside0.mk (blk_alloc BK7_8.out (Obj.cells #[.int .u64 0, .int .u64 0, .int .u64 0, .int .u64 0] 29))
     have HB9 := Aside0.mk (below_alloc HB8.out (Obj.cells #[.int .u64 0, .int .u64 0, .int .u64 0, .int .u64 0] 29))
     have GE13 : Aside0 (w.heap.size ≤ w8.heap.size) := ⟨(HB8.out).size⟩
     have N12 : Aside0 (g12 ≠ w8.heap.size) := ⟨Nat.ne_of_lt (blk_lt BK12_8.out)⟩
     have N5 : Aside0 (g5 ≠ w8.heap.size) := ⟨Nat.ne_of_lt (blk_lt BK5_8.out)⟩
     generalize w8.alloc (Obj.cells #[.int .u64 0, .int .u64 0, .int .u64 0, .int .u64 0] 29) = w9 at BK13_9 BK12_9 BK5_9 BK7_9 HB9 hHeld ⊢
     generalize w8.heap.size = g13 at BK13_9 GE13 N12 N5 ⊢
     refine one_ (i := 3) (N := some 38) (mB_ 6 31) rfl rfl (by kernel_rfl) (by decide) (fun K hK => ?_)
     refine goes_ Try.func30 (by kernel_rfl) rfl #[.agg #[.int .u64 v0, .int .u64 v1, .int .u64 v2, .int .u64 v3], .agg #[.int .u64 m0, .int .u64 m1, .int .u64 m2, .int .u64 m3]] (by rfl) rfl rfl (by (try simp only [List.map_toArray, List.map_cons, List.map_nil]); first | done | rfl) ?_
     refine (vec_Join.calls v0 v1 v2 v3 m0 m1 m2 m3 f0 f1 f2 f3 w9 HJO.out).mono ?_
     rintro e w10 ⟨rfl, hb⟩
     refine ⟨_, rfl, ?_⟩
     have HB10 := Aside0.mk (below_step HB9.out hb)
     have BK12_10 := Aside0.mk (blk_below BK12_9.out hb)
     have BK5_10 := Aside0.mk (blk_below BK5_9.out hb)
     have BK7_10 := Aside0.mk (blk_below BK7_9.out hb)
     have HL_ := hb
     clear hb
     have BK13_10 := Aside0.mk (blk_below BK13_9.out HL_)
     clear HL_
     refine hK.out _ _ ⟨(blk_cell BK12_10.out 0).trans rfl, (blk_cell BK12_10.out 1).trans rfl, (blk_cell BK12_10.out 2).trans rfl, (blk_cell BK12_10.out 3).trans rfl, (blk_cell BK7_10.out 0).trans rfl, (blk_cell BK7_10.out 1).trans rfl, (blk_cell BK7_10.out 2).trans rfl, (blk_cell BK7_10.out 3).trans rfl, (blk_cell BK7_10.out 4).trans rfl⟩ (fun hHeld => ?_)
     clear hK K
     refine Kn_ 38 ?_
     )
   )
  | (
   refine value_ (w1 := ?_) (v := ?_) (by rfl) rfl ?_ ?_
   rotate_left 2
   ·go_simp
    constructor
    ·rfl
    ·rfl
   refine hK.out _ _ ⟨(blk_cell (blk_alloc BK12.out _) 0).trans rfl, (blk_cell (blk_alloc BK12.out _) 1).trans rfl, (blk_cell (blk_alloc BK12.out _) 2).trans rfl, (blk_cell (blk_alloc BK12.out _) 3).trans rfl, (blk_cell (blk_alloc BK7.out _) 0).trans rfl, (blk_cell (blk_alloc BK7.out _) 1).trans rfl, (blk_cell (blk_alloc BK7.out _) 2).trans rfl, (blk_cell (blk_alloc BK7.out _) 3).trans rfl, (blk_cell (blk_alloc BK7.out _) 4).trans rfl⟩ (fun hHeld => ?_)
   clear hK K
   refine Kn_ 13 ?_
   have BK13_8 := Aside0.mk (blk_new w7 (Obj.cells #[.int .u64 0, .int .u64 0, .int .u64 0, .int .u64 0] 29))
   have BK12_8 := Aside0.mk (blk_alloc BK12.out (Obj.cells #[.int .u64 0, .int .u64 0, .int .u64 0, .int .u64 0] 29))
   have BK5_8 := Aside0.mk (blk_alloc BK5.out (Obj.cells #[.int .u64 0, .int .u64 0, .int .u64 0, .int .u64 0] 29))
   have BK7_8 := Aside0.mk (blk_alloc BK7.out (Obj.cells #[.int .u64 0, .int .u64 0, .int .u64 0, .int .u64 0] 29))
   have HB8 := Aside0.mk (below_alloc HB7.out (Obj.cells #[.int .u64 0, .int .u64 0, .int .u64 0, .int .u64 0] 29))
   have GE13 : Aside0 (w.heap.size ≤ w7.heap.size) := ⟨(HB7.out).size⟩
   have N12 : Aside0 (g12 ≠ w7.heap.size) := ⟨Nat.ne_of_lt (blk_lt BK12.out)⟩
   have N5 : Aside0 (g5 ≠ w7.heap.size) := ⟨Nat.ne_of_lt (blk_lt BK5.out)⟩
   generalize w7.alloc (Obj.cells #[.int .u64 0, .int .u64 0, .int .u64 0, .int .u64 0] 29) = w8 at BK13_8 BK12_8 BK5_8 BK7_8 HB8 hHeld ⊢
   generalize w7.heap.size = g13 at BK13_8 GE13 N12 N5 ⊢
   refine one_ (i := 2) (N := some 37) (mB_ 6 23) rfl rfl (by kernel_rfl) (by decide) (fun K hK => ?_)
   refine goes_ Try.func13 (by kernel_rfl) rfl #[.agg #[.int .u64 a3_0, .int .u64 a3_1, .int .u64 a3_2, .int .u64 a3_3, .bool a3_4]] (by rfl) rfl rfl (by (try simp only [List.map_toArray, List.map_cons, List.map_nil]); first | done | rfl) ?_
   refine (tenementlaw22_Vector_vector.calls k a3_0 a3_1 a3_2 a3_3 a3_4 m0 m1 m2 m3 w8 HMV.out).mono ?_
   rintro e w9 ⟨rfl, hb⟩
   refine ⟨_, rfl, ?_⟩
   have HB9 := Aside0.mk (below_step HB8.out hb)
   have BK12_9 := Aside0.mk (blk_below BK12_8.out hb)
   have BK5_9 := Aside0.mk (blk_below BK5_8.out hb)
   have BK7_9 := Aside0.mk (blk_below BK7_8.out hb)
   have HL_ := hb
   clear hb
   have BK13_9 := Aside0.mk (blk_below BK13_8.out HL_)
   clear HL_
   refine hK.out _ _ ⟨(blk_cell BK12_9.out 0).trans rfl, (blk_cell BK12_9.out 1).trans rfl, (blk_cell BK12_9.out 2).trans rfl, (blk_cell BK12_9.out 3).trans rfl, (blk_cell BK7_9.out 0).trans rfl, (blk_cell BK7_9.out 1).trans rfl, (blk_cell BK7_9.out 2).trans rfl, (blk_cell BK7_9.out 3).trans rfl, (blk_cell BK7_9.out 4).trans rfl⟩ (fun hHeld => ?_)
   clear hK K
   refine Kn_ 37 ?_
   refine one_ (i := 3) (N := some 38) (mB_ 6 31) rfl rfl (by kernel_rfl) (by decide) (fun K hK => ?_)
   refine goes_ Try.func30 (by kernel_rfl) rfl #[.agg #[.int .u64 v0, .int .u64 v1, .int .u64 v2, .int .u64 v3], .agg #[.int .u64 m0, .int .u64 m1, .int .u64 m2, .int .u64 m3]] (by rfl) rfl rfl (by (try simp only [List.map_toArray, List.map_cons, List.map_nil]); first | done | rfl) ?_
   refine (vec_Join.calls v0 v1 v2 v3 m0 m1 m2 m3 f0 f1 f2 f3 w9 HJO.out).mono ?_
   rintro e w10 ⟨rfl, hb⟩
   refine ⟨_, rfl, ?_⟩
   have HB10 := Aside0.mk (below_step HB9.out hb)
   have BK12_10 := Aside0.mk (blk_below BK12_9.out hb)
   have BK5_10 := Aside0.mk (blk_below BK5_9.out hb)
   have BK7_10 := Aside0.mk (blk_below BK7_9.out hb)
   have HL_ := hb
   clear hb
   have BK13_10 := Aside0.mk (blk_below BK13_9.out HL_)
   clear HL_
   refine hK.out _ _ ⟨(blk_cell BK12_10.out 0).trans rfl, (blk_cell BK12_10.out 1).trans rfl, (blk_cell BK12_10.out 2).trans rfl, (blk_cell BK12_10.out 3).trans rfl, (blk_cell BK7_10.out 0).trans rfl, (blk_cell BK7_10.out 1).trans rfl, (blk_cell BK7_10.out 2).trans rfl, (blk_cell BK7_10.out 3).trans rfl, (blk_cell BK7_10.out 4).trans rfl⟩ (fun hHeld => ?_)
   clear hK K
   refine Kn_ 38 ?_
   )
 all_goals
  have hy0 := (blk_cell BK13_10.out 0).trans rfl
  have hy1 := (blk_cell BK13_10.out 1).trans rfl
  have hy2 := (blk_cell BK13_10.out 2).trans rfl
  have hy3 := (blk_cell BK13_10.out 3).trans rfl
  have fy0 := blk_frozen BK13_10.out 0
  have fy1 := blk_frozen BK13_10.out 1
  have fy2 := blk_frozen BK13_10.out 2
  have fy3 := blk_frozen BK13_10.out 3
  refine last_ (i := 5) (N := none) (mB_ 6 63) rfl rfl (by kernel_rfl) (by decide) (fun K hK => ?_)
  refine skip_ (w1 := ?_) (by rfl) rfl ?_ ?_
  rotate_left
  ·go_simp
   rfl
  refine hK.out _ _ ?_
  clear hK K
  refine done_ (by kernel_rfl) ?_
  clear hHeld hy0 hy1 hy2 hy3 fy0 fy1 fy2 fy3
  have HB : Aside0 (Below w.heap.size w ((((w10.setCell ⟨g13, 0, none⟩ (.int .u64 f0)).setCell ⟨g13, 1, none⟩ (.int .u64 f1)).setCell ⟨g13, 2, none⟩ (.int .u64 f2)).setCell ⟨g13, 3, none⟩ (.int .u64 f3))) := ⟨((((((((HB10.out).setCell GE13.out _)).setCell GE13.out _)).setCell GE13.out _)).setCell GE13.out _)⟩
  have BK13 : Aside0 (((((w10.setCell ⟨g13, 0, none⟩ (.int .u64 f0)).setCell ⟨g13, 1, none⟩ (.int .u64 f1)).setCell ⟨g13, 2, none⟩ (.int .u64 f2)).setCell ⟨g13, 3, none⟩ (.int .u64 f3)).heap[g13]? = some (.cells #[.int .u64 f0, .int .u64 f1, .int .u64 f2, .int .u64 f3] 29 (0, 0))) := ⟨by refine Kv_ ?_; refine blk_put (cs := #[.int .u64 f0, .int .u64 f1, .int .u64 f2, .int .u64 0]) ?_ 3 _ rfl; refine Kv_ ?_; refine blk_put (cs := #[.int .u64 f0, .int .u64 f1, .int .u64 0, .int .u64 0]) ?_ 2 _ rfl; refine Kv_ ?_; refine blk_put (cs := #[.int .u64 f0, .int .u64 0, .int .u64 0, .int .u64 0]) ?_ 1 _ rfl; refine Kv_ ?_; refine blk_put (cs := #[.int .u64 0, .int .u64 0, .int .u64 0, .int .u64 0]) ?_ 0 _ rfl; exact Kq_ BK13_10⟩
  have BK12' : Aside0 (((((w10.setCell ⟨g13, 0, none⟩ (.int .u64 f0)).setCell ⟨g13, 1, none⟩ (.int .u64 f1)).setCell ⟨g13, 2, none⟩ (.int .u64 f2)).setCell ⟨g13, 3, none⟩ (.int .u64 f3)).heap[g12]? = some (.cells #[.int .u64 v0, .int .u64 v1, .int .u64 v2, .int .u64 v3] 29 (0, 0))) := ⟨(blk_far (blk_far (blk_far (blk_far BK12_10.out N12.out _) N12.out _) N12.out _) N12.out _)⟩
  have BK5' : Aside0 (((((w10.setCell ⟨g13, 0, none⟩ (.int .u64 f0)).setCell ⟨g13, 1, none⟩ (.int .u64 f1)).setCell ⟨g13, 2, none⟩ (.int .u64 f2)).setCell ⟨g13, 3, none⟩ (.int .u64 f3)).heap[g5]? = some (.cells #[.string a1_0, .string a1_1, .string a1_2, .bool a1_3, .bool a1_4, .int .u8 a1_5] 26 (0, 0))) := ⟨(blk_far (blk_far (blk_far (blk_far BK5_10.out N5.out _) N5.out _) N5.out _) N5.out _)⟩
  generalize ((((w10.setCell ⟨g13, 0, none⟩ (.int .u64 f0)).setCell ⟨g13, 1, none⟩ (.int .u64 f1)).setCell ⟨g13, 2, none⟩ (.int .u64 f2)).setCell ⟨g13, 3, none⟩ (.int .u64 f3)) = w11 at HB BK13 BK12' BK5' ⊢
  have HI0 : Aside0 (w.heap.size ≤ w11.heap.size) := ⟨below_size HB.out⟩
  go_wp2
  go_loopg [10, 11, 14] al.length (fun kq v10 v11 v14 wr => ∃ (i : Nat), v14 = .int .i64 i ∧ Aside0 (i ≤ al.length) ∧ Aside0 (al.length - i ≤ kq) ∧ Aside0 (Go.Proofs.Ythjhkcebcgdeoaa.Jud.LT wr w.heap.size (fun k => True ∧ Go.Proofs.Ythjhkcebcgdeoaa.Jud.off v11 k) v10 (al.take i)) ∧ Aside0 (Go.Proofs.Ythjhkcebcgdeoaa.Jud.LT wr w.heap.size (fun k => True ∧ Go.Proofs.Ythjhkcebcgdeoaa.Jud.off v10 k) v11 ((al.take i).filter (fun t : S64 => decide (t.f0.f0.f0 ≤ v0 ∧ t.f0.f0.f1 ≤ v1 ∧ t.f0.f0.f2 ≤ v2 ∧ t.f0.f0.f3 ≤ v3)))) ∧ Aside0 (wr.heap[g12]? = some (.cells #[.int .u64 v0, .int .u64 v1, .int .u64 v2, .int .u64 v3] 29 (0, 0))) ∧ Aside0 (wr.heap[g13]? = some (.cells #[.int .u64 f0, .int .u64 f1, .int .u64 f2, .int .u64 f3] 29 (0, 0))) ∧ Aside0 (wr.heap[g5]? = some (.cells #[.string a1_0, .string a1_1, .string a1_2, .bool a1_3, .bool a1_4, .int .u8 a1_5] 26 (0, 0))) ∧ Aside0 (Below w.heap.size w wr))
  case atStart => exact ⟨0, rfl, ⟨by omega⟩, ⟨by omega⟩, ⟨by rw [List.take_zero]; exact Kd.R_nil _ _ _ _ _⟩, ⟨by rw [List.take_zero]; exact Kd.R_nil _ _ _ _ _⟩, BK12', BK13, BK5', HB⟩
  case round =>
   clear HB BK13 BK12' BK5'
   obtain ⟨i, rfl, HI, HK, HA, HS, BK12, BK13, BK5, HB⟩ := hrel
   by_cases c1 : i < al.length
   ·have hL := HMA.out.1
    have c3 : i < l0.length := by omega
    have c4 : i < 10 := by omega
    have c1b : decide ((i : Int) < (l0.length : Int)) = true := decide_eq_true (by omega)
    have c2b : decide ((i : Int) < 10) = true := decide_eq_true (by omega)
    have c0b : decide (0 ≤ (i : Int)) = true := decide_eq_true (by omega)
    clear hL
    obtain ⟨q0, q1, q2, q3, hdl, hwi⟩ := HMA.out.2 i c1
    obtain ⟨ad, Ap, cp, e0, h0, h1, h2, h3, h4, h5, h6, h7, LP, GPh⟩ := at_T61 HR0.out (i : Int) (by omega) (by have := HMA.out.1; omega)
    cases e0
    replace h0 := (HB.out.cell (World.block_lt_of_cell? w _ h0)).trans h0
    replace h1 := (HB.out.cell (World.block_lt_of_cell? w _ h1)).trans h1
    replace h2 := (HB.out.cell (World.block_lt_of_cell? w _ h2)).trans h2
    replace h3 := (HB.out.cell (World.block_lt_of_cell? w _ h3)).trans h3
    replace h4 := (HB.out.cell (World.block_lt_of_cell? w _ h4)).trans h4
    replace h5 := (HB.out.cell (World.block_lt_of_cell? w _ h5)).trans h5
    replace h6 := (HB.out.cell (World.block_lt_of_cell? w _ h6)).trans h6
    replace h7 := (HB.out.cell (World.block_lt_of_cell? w _ h7)).trans h7
    have GP := Aside0.mk (Kd.C_below GPh HB.out)
    clear GPh
    simp only [Int.toNat_natCast] at h0 h1 h2 h3 h4 h5 h6 h7
    generalize rd_T61 l0 (i : Int) = px at h0 h1 h2 h3 h4 h5 h6 h7 LP GP hdl
    obtain ⟨⟨⟨⟨p0, p1, p2, p3⟩, p4⟩, p5⟩, p6, p7⟩ := px
    have hxx := Go.Proofs.Ythjhkcebcgdeoaa.Jud.rd64_eq al i c1
    generalize rd_T64 al (i : Int) = tx at hdl hwi hxx
    obtain ⟨⟨⟨n0, n1, n2, n3⟩, q4⟩, q5⟩ := tx
    have HDL : Aside0 (tenementlaw22_Deal_deal.f k p0 p1 p2 p3 p4 p5 p6 true = some (q0, q1, q2, q3, q4, q5)) := ⟨hdl⟩
    have HWI : Aside0 (vec_With.f q0 q1 q2 q3 q4 ((i : Int) + 1) = some (n0, n1, n2, n3)) := ⟨hwi⟩
    have LP : p6.length ≤ cp := LP
    have GP : Aside0 (Kd.C k26 wr Ap p6.length p6) := GP
    have HTK : Aside0 (al.take (i + 1) = al.take i ++ [(⟨⟨⟨n0, n1, n2, n3⟩, q4⟩, q5⟩ : S64)]) := ⟨by rw [List.take_add_one, hxx]; rfl⟩
    clear hdl hwi hxx
    simp only at h0 h1 h2 h3 h4 h5 h6 h7
    obtain ⟨sv, hsv⟩ : ∃ sv, sv = decide (n0 ≤ v0 ∧ n1 ≤ v1 ∧ n2 ≤ v2 ∧ n3 ≤ v3) := ⟨_, rfl⟩
    have HSV : Aside0 (stamp_Seen.f n0 n1 n2 n3 q4 v0 v1 v2 v3 = some sv) := ⟨by rw [hsv]; exact Go.Proofs.Ythjhkcebcgdeoaa.Pure.jseen_f _ _ _ _ _ _ _ _ _⟩
    have HFL : Aside0 ((al.take i ++ [(⟨⟨⟨n0, n1, n2, n3⟩, q4⟩, q5⟩ : S64)]).filter (fun t : S64 => decide (t.f0.f0.f0 ≤ v0 ∧ t.f0.f0.f1 ≤ v1 ∧ t.f0.f0.f2 ≤ v2 ∧ t.f0.f0.f3 ≤ v3)) = (al.take i).filter (fun t : S64 => decide (t.f0.f0.f0 ≤ v0 ∧ t.f0.f0.f1 ≤ v1 ∧ t.f0.f0.f2 ≤ v2 ∧ t.f0.f0.f3 ≤ v3)) ++ (if sv then [(⟨⟨⟨n0, n1, n2, n3⟩, q4⟩, q5⟩ : S64)] else [])) := ⟨by rw [List.filter_append]; congr 1; rw [hsv, List.filter_cons, List.filter_nil]⟩
    have HSX := Aside0.mk hsv
    clear hsv
    cases sv with
    | false =>
     rw [if_neg (by decide), List.append_nil] at HFL
     go_wp2_with (first
      | ((with_reducible refine gate_dst (N := 55) rfl ?_); refine Kg_ (some 55) rfl rfl Try.func26 (by kernel_rfl) rfl #[.agg #[.int .u64 p0, .int .u64 p1, .int .u64 p2, .int .u64 p3, .int .i64 p4, .bool p5, .slice Ap p6.length cp, .bool true]] rfl ?_; (with_reducible refine (tenementlaw22_Deal_deal.calls k p0 p1 p2 p3 p4 p5 Ap cp p6 true q0 q1 q2 q3 q4 q5 _ ?s1 LP ?s2).mono ?_); (case s1 => exact Kd.C_alloc GP.out _); (case s2 => exact HDL.out); rintro e wd ⟨vq, rfl, hR, hb⟩; refine ⟨_, rfl, ?_⟩; obtain ⟨Aq, cq, eq_⟩ := Kd.R_slice hR; subst eq_; have HRd : Aside0 (Go.Proofs.Ythjhkcebcgdeoaa.Jud.RW wd wr.heap.size (fun _ => True) (.slice Aq q5.length cq) q5) := ⟨Kd.R_lower hR (below_size (below_alloc (Below.refl _ _) _))⟩; have Hd := Aside0.mk (below_step (below_alloc (Below.refl _ _) _) hb); clear hb hR)
      | ((with_reducible refine gate_dst (N := 65) rfl ?_); refine Kg_ (some 65) rfl rfl Try.func29 (by kernel_rfl) rfl #[.agg #[.int .u64 q0, .int .u64 q1, .int .u64 q2, .int .u64 q3], .int .i64 q4, .int .u64 ((i : Int) + 1)] rfl ?_; (with_reducible refine (vec_With.calls q0 q1 q2 q3 q4 ((i : Int) + 1) n0 n1 n2 n3 _ HWI.out).mono ?_); rintro e ww ⟨rfl, hb⟩; refine ⟨_, rfl, ?_⟩; have BKw : Aside0 (ww.heap[wd.heap.size]? = some (.cells #[.int .u64 q0, .int .u64 q1, .int .u64 q2, .int .u64 q3, .int .i64 q4, .slice Aq q5.length cq] 64 (0, 0))) := ⟨blk_below (blk_new wd _) hb⟩; have GEt : Aside0 (wr.heap.size ≤ wd.heap.size) := ⟨Hd.out.size⟩; have Hw := Aside0.mk (below_step (below_alloc Hd.out _) hb); have HRw : Aside0 (Go.Proofs.Ythjhkcebcgdeoaa.Jud.RW ww wr.heap.size (fun _ => True) (.slice Aq q5.length cq) q5) := ⟨Kd.R_below HRd.out (below_step (below_alloc (Below.refl _ _) _) hb)⟩; clear hb HRd Hd; generalize wd.heap.size = gt at BKw GEt ⊢; obtain ⟨hwa0, hwa1, hwa2, hwa3, hwa4, hwa5, fwa0, fwa1, fwa2, fwa3, fwa4, fwa5⟩ := Ke6_ BKw.out)
      | ((with_reducible refine gate_builtin (b := .append) (xs := #[.tmp 68, .tmp 70]) rfl ?_); at_builtin; have Hz : Aside0 (Below wr.heap.size wr ((((ww.setCell ⟨gt, 0, none⟩ (.int .u64 n0)).setCell ⟨gt, 1, none⟩ (.int .u64 n1)).setCell ⟨gt, 2, none⟩ (.int .u64 n2)).setCell ⟨gt, 3, none⟩ (.int .u64 n3))) := ⟨((((((((Hw.out).setCell GEt.out _)).setCell GEt.out _)).setCell GEt.out _)).setCell GEt.out _)⟩; have BKz : Aside0 (((((ww.setCell ⟨gt, 0, none⟩ (.int .u64 n0)).setCell ⟨gt, 1, none⟩ (.int .u64 n1)).setCell ⟨gt, 2, none⟩ (.int .u64 n2)).setCell ⟨gt, 3, none⟩ (.int .u64 n3)).heap[gt]? = some (.cells #[.int .u64 n0, .int .u64 n1, .int .u64 n2, .int .u64 n3, .int .i64 q4, .slice Aq q5.length cq] 64 (0, 0))) := ⟨by refine Kv_ ?_; refine blk_put (cs := #[.int .u64 n0, .int .u64 n1, .int .u64 n2, .int .u64 q3, .int .i64 q4, .slice Aq q5.length cq]) ?_ 3 _ rfl; refine Kv_ ?_; refine blk_put (cs := #[.int .u64 n0, .int .u64 n1, .int .u64 q2, .int .u64 q3, .int .i64 q4, .slice Aq q5.length cq]) ?_ 2 _ rfl; refine Kv_ ?_; refine blk_put (cs := #[.int .u64 n0, .int .u64 q1, .int .u64 q2, .int .u64 q3, .int .i64 q4, .slice Aq q5.length cq]) ?_ 1 _ rfl; refine Kv_ ?_; refine blk_put (cs := #[.int .u64 q0, .int .u64 q1, .int .u64 q2, .int .u64 q3, .int .i64 q4, .slice Aq q5.length cq]) ?_ 0 _ rfl; exact Kq_ BKw⟩; have HRz : Aside0 (Go.Proofs.Ythjhkcebcgdeoaa.Jud.RW ((((ww.setCell ⟨gt, 0, none⟩ (.int .u64 n0)).setCell ⟨gt, 1, none⟩ (.int .u64 n1)).setCell ⟨gt, 2, none⟩ (.int .u64 n2)).setCell ⟨gt, 3, none⟩ (.int .u64 n3)) wr.heap.size (fun _ => True) (.slice Aq q5.length cq) q5) := ⟨Kd.R_mono (Kd.R_far (p := ⟨gt, 3, none⟩) (Kd.R_far (p := ⟨gt, 2, none⟩) (Kd.R_far (p := ⟨gt, 1, none⟩) (Kd.R_far (p := ⟨gt, 0, none⟩) (Kd.R_types HRw.out BKw.out (by decide)) (fun _ hk => hk.2) _) (fun _ hk => hk.2) _) (fun _ hk => hk.2) _) (fun _ hk => hk.2) _) (fun _ _ => trivial)⟩; have ez : ((((ww.setCell ⟨gt, 0, none⟩ (.int .u64 n0)).setCell ⟨gt, 1, none⟩ (.int .u64 n1)).setCell ⟨gt, 2, none⟩ (.int .u64 n2)).setCell ⟨gt, 3, none⟩ (.int .u64 n3)).heap.size = ww.heap.size := Go.Proofs.Ythjhkcebcgdeoaa.Jud.size4 _ _ _ _ _ _ _ _ _; generalize ((((ww.setCell ⟨gt, 0, none⟩ (.int .u64 n0)).setCell ⟨gt, 1, none⟩ (.int .u64 n1)).setCell ⟨gt, 2, none⟩ (.int .u64 n2)).setCell ⟨gt, 3, none⟩ (.int .u64 n3)) = wz at Hz BKz HRz ez ⊢; clear BKw Hw HRw; try clear hwa0 hwa1 hwa2 hwa3 hwa4 hwa5 fwa0 fwa1 fwa2 fwa3 fwa4 fwa5; refine Go.Proofs.Ythjhkcebcgdeoaa.Jud.app2 (w0 := w) (W := wz) w.heap.size rfl (.tmp 68) (.tmp 70) rfl u10 u11 (.slice Aq q5.length cq) (al.take i) ((al.take i).filter (fun t : S64 => decide (t.f0.f0.f0 ≤ v0 ∧ t.f0.f0.f1 ≤ v1 ∧ t.f0.f0.f2 ≤ v2 ∧ t.f0.f0.f3 ≤ v3))) (⟨⟨⟨n0, n1, n2, n3⟩, q4⟩, q5⟩ : S64) [.int .u64 n0, .int .u64 n1, .int .u64 n2, .int .u64 n3, .int .i64 q4, .slice Aq q5.length cq] rfl rfl ?hx ?aR ?aA ?aS ?aB ?ab ?al ?_; (case hx => rw [ez]; rfl); (case aR => exact Go.Proofs.Ythjhkcebcgdeoaa.Jud.RW_off HRz.out (below_size HB.out) (Go.Proofs.Ythjhkcebcgdeoaa.Jud.R_lt HA.out) (Go.Proofs.Ythjhkcebcgdeoaa.Jud.R_lt HS.out)); (case aA => exact Kd.R_below HA.out Hz.out); (case aS => exact Kd.R_below HS.out Hz.out); (case aB => exact below_step HB.out Hz.out); (case ab => exact Nat.le_trans (below_size HB.out) (below_size Hz.out)); (case al => rw [List.length_take]; have := HMA.out.1; omega); intro xa wa hA1 hS1 hR1 hb1 hg1; have HA1 := Aside0.mk hA1; have HS1 := Aside0.mk hS1; have HR1 := Aside0.mk hR1; have HB1 := Aside0.mk hb1; have BKt1 := Aside0.mk (blk_grown BKz.out hg1 (Go.Proofs.Ythjhkcebcgdeoaa.Jud.LT_new HA.out GEt.out)); have BK12a := Aside0.mk (blk_grown (blk_below BK12.out Hz.out) hg1 (Go.Proofs.Ythjhkcebcgdeoaa.Jud.LT_ne HA.out BK12.out (by decide))); have BK13a := Aside0.mk (blk_grown (blk_below BK13.out Hz.out) hg1 (Go.Proofs.Ythjhkcebcgdeoaa.Jud.LT_ne HA.out BK13.out (by decide))); have BK5a := Aside0.mk (blk_grown (blk_below BK5.out Hz.out) hg1 (Go.Proofs.Ythjhkcebcgdeoaa.Jud.LT_ne HA.out BK5.out (by decide))); clear hA1 hS1 hR1 hb1 hg1; obtain ⟨ta0, ta1, ta2, ta3, ta4, ta5, -, -, -, -, -, -⟩ := Ke6_ BKt1.out; obtain ⟨va0, va1, va2, va3, -, -, -, -⟩ := Go.Proofs.Ythjhkcebcgdeoaa.Jud.cells4 BK12a.out)
      | ((with_reducible refine gate_dst (N := 75) rfl ?_); refine Kg_ (some 75) rfl rfl Try.func31 (by kernel_rfl) rfl #[.agg #[.int .u64 n0, .int .u64 n1, .int .u64 n2, .int .u64 n3, .int .i64 q4], .agg #[.int .u64 v0, .int .u64 v1, .int .u64 v2, .int .u64 v3]] rfl ?_; (with_reducible refine (stamp_Seen.calls n0 n1 n2 n3 q4 v0 v1 v2 v3 _ _ HSV.out).mono ?_); rintro e wb ⟨rfl, hb⟩; refine ⟨_, rfl, ?_⟩; have HA2 := Aside0.mk (Kd.R_below HA1.out hb); have HS2 := Aside0.mk (Kd.R_below HS1.out hb); have HR2 := Aside0.mk (Kd.R_below HR1.out hb); have HB2 := Aside0.mk (below_step HB1.out hb); have BKt2 := Aside0.mk (blk_below BKt1.out hb); have BK12b := Aside0.mk (blk_below BK12a.out hb); have BK13b := Aside0.mk (blk_below BK13a.out hb); have BK5b := Aside0.mk (blk_below BK5a.out hb); clear hb ta0 ta1 ta2 ta3 ta4 ta5 va0 va1 va2 va3; obtain ⟨tb0, tb1, tb2, tb3, tb4, tb5, -, -, -, -, -, -⟩ := Ke6_ BKt2.out)
      | ((with_reducible refine gate_builtin (b := .append) (xs := #[.tmp 76, .tmp 78]) rfl ?_); at_builtin; refine Go.Proofs.Ythjhkcebcgdeoaa.Jud.app2 (w0 := w) (W := wb) w.heap.size rfl (.tmp 76) (.tmp 78) rfl u11 xa (.slice Aq q5.length cq) ((al.take i).filter (fun t : S64 => decide (t.f0.f0.f0 ≤ v0 ∧ t.f0.f0.f1 ≤ v1 ∧ t.f0.f0.f2 ≤ v2 ∧ t.f0.f0.f3 ≤ v3))) (al.take i ++ [(⟨⟨⟨n0, n1, n2, n3⟩, q4⟩, q5⟩ : S64)]) (⟨⟨⟨n0, n1, n2, n3⟩, q4⟩, q5⟩ : S64) [.int .u64 n0, .int .u64 n1, .int .u64 n2, .int .u64 n3, .int .i64 q4, .slice Aq q5.length cq] rfl rfl rfl ?aR ?aA ?aS ?aB ?ab ?al ?_; (case aR => exact Kd.R_mono HR2.out (fun _ hk => ⟨hk.2, hk.1⟩)); (case aA => exact HS2.out); (case aS => exact HA2.out); (case aB => exact HB2.out); (case ab => exact below_size HB2.out); (case al => exact Nat.le_trans (List.length_filter_le _ _) (by rw [List.length_take]; have := HMA.out.1; omega)); intro xb wc hS3 hA3 _ hb3 hg3; have HA3 := Aside0.mk hA3; have HS3 := Aside0.mk hS3; have HB3 := Aside0.mk hb3; have BK12c := Aside0.mk (blk_grown BK12b.out hg3 (Go.Proofs.Ythjhkcebcgdeoaa.Jud.LT_ne HS.out BK12.out (by decide))); have BK13c := Aside0.mk (blk_grown BK13b.out hg3 (Go.Proofs.Ythjhkcebcgdeoaa.Jud.LT_ne HS.out BK13.out (by decide))); have BK5c := Aside0.mk (blk_grown BK5b.out hg3 (Go.Proofs.Ythjhkcebcgdeoaa.Jud.LT_ne HS.out BK5.out (by decide))); clear hA3 hS3 hb3 hg3 tb0 tb1 tb2 tb3 tb4 tb5))
     go_roundg (al.length - (i + 1))
     case measure => have := HK.out; omega
     case rel => exact ⟨i + 1, by first | rfl | (rw [show ((i + 1 : Nat) : Int) = (i : Int) + 1 by omega]; rfl) | (rw [show ((i + 1 : Nat) : Int) = (i : Int) + 1 by omega]; congr 1; exact Go.Proofs.Ythjhkcebcgdeoaa.Pure.wrap64_id (by omega) (by omega)), ⟨by omega⟩, ⟨by omega⟩, ⟨by rw [HTK.out]; exact HA2.out⟩, ⟨by rw [HTK.out, HFL.out]; exact HS2.out⟩, BK12b, BK13b, BK5b, HB2⟩
    | true =>
     rw [if_pos rfl] at HFL
     go_wp2_with (first
      | ((with_reducible refine gate_dst (N := 55) rfl ?_); refine Kg_ (some 55) rfl rfl Try.func26 (by kernel_rfl) rfl #[.agg #[.int .u64 p0, .int .u64 p1, .int .u64 p2, .int .u64 p3, .int .i64 p4, .bool p5, .slice Ap p6.length cp, .bool true]] rfl ?_; (with_reducible refine (tenementlaw22_Deal_deal.calls k p0 p1 p2 p3 p4 p5 Ap cp p6 true q0 q1 q2 q3 q4 q5 _ ?s1 LP ?s2).mono ?_); (case s1 => exact Kd.C_alloc GP.out _); (case s2 => exact HDL.out); rintro e wd ⟨vq, rfl, hR, hb⟩; refine ⟨_, rfl, ?_⟩; obtain ⟨Aq, cq, eq_⟩ := Kd.R_slice hR; subst eq_; have HRd : Aside0 (Go.Proofs.Ythjhkcebcgdeoaa.Jud.RW wd wr.heap.size (fun _ => True) (.slice Aq q5.length cq) q5) := ⟨Kd.R_lower hR (below_size (below_alloc (Below.refl _ _) _))⟩; have Hd := Aside0.mk (below_step (below_alloc (Below.refl _ _) _) hb); clear hb hR)
      | ((with_reducible refine gate_dst (N := 65) rfl ?_); refine Kg_ (some 65) rfl rfl Try.func29 (by kernel_rfl) rfl #[.agg #[.int .u64 q0, .int .u64 q1, .int .u64 q2, .int .u64 q3], .int .i64 q4, .int .u64 ((i : Int) + 1)] rfl ?_; (with_reducible refine (vec_With.calls q0 q1 q2 q3 q4 ((i : Int) + 1) n0 n1 n2 n3 _ HWI.out).mono ?_); rintro e ww ⟨rfl, hb⟩; refine ⟨_, rfl, ?_⟩; have BKw : Aside0 (ww.heap[wd.heap.size]? = some (.cells #[.int .u64 q0, .int .u64 q1, .int .u64 q2, .int .u64 q3, .int .i64 q4, .slice Aq q5.length cq] 64 (0, 0))) := ⟨blk_below (blk_new wd _) hb⟩; have GEt : Aside0 (wr.heap.size ≤ wd.heap.size) := ⟨Hd.out.size⟩; have Hw := Aside0.mk (below_step (below_alloc Hd.out _) hb); have HRw : Aside0 (Go.Proofs.Ythjhkcebcgdeoaa.Jud.RW ww wr.heap.size (fun _ => True) (.slice Aq q5.length cq) q5) := ⟨Kd.R_below HRd.out (below_step (below_alloc (Below.refl _ _) _) hb)⟩; clear hb HRd Hd; generalize wd.heap.size = gt at BKw GEt ⊢; obtain ⟨hwa0, hwa1, hwa2, hwa3, hwa4, hwa5, fwa0, fwa1, fwa2, fwa3, fwa4, fwa5⟩ := Ke6_ BKw.out)
      | ((with_reducible refine gate_builtin (b := .append) (xs := #[.tmp 68, .tmp 70]) rfl ?_); at_builtin; have Hz : Aside0 (Below wr.heap.size wr ((((ww.setCell ⟨gt, 0, none⟩ (.int .u64 n0)).setCell ⟨gt, 1, none⟩ (.int .u64 n1)).setCell ⟨gt, 2, none⟩ (.int .u64 n2)).setCell ⟨gt, 3, none⟩ (.int .u64 n3))) := ⟨((((((((Hw.out).setCell GEt.out _)).setCell GEt.out _)).setCell GEt.out _)).setCell GEt.out _)⟩; have BKz : Aside0 (((((ww.setCell ⟨gt, 0, none⟩ (.int .u64 n0)).setCell ⟨gt, 1, none⟩ (.int .u64 n1)).setCell ⟨gt, 2, none⟩ (.int .u64 n2)).setCell ⟨gt, 3, none⟩ (.int .u64 n3)).heap[gt]? = some (.cells #[.int .u64 n0, .int .u64 n1, .int .u64 n2, .int .u64 n3, .int .i64 q4, .slice Aq q5.length cq] 64 (0, 0))) := ⟨by refine Kv_ ?_; refine blk_put (cs := #[.int .u64 n0, .int .u64 n1, .int .u64 n2, .int .u64 q3, .int .i64 q4, .slice Aq q5.length cq]) ?_ 3 _ rfl; refine Kv_ ?_; refine blk_put (cs := #[.int .u64 n0, .int .u64 n1, .int .u64 q2, .int .u64 q3, .int .i64 q4, .slice Aq q5.length cq]) ?_ 2 _ rfl; refine Kv_ ?_; refine blk_put (cs := #[.int .u64 n0, .int .u64 q1, .int .u64 q2, .int .u64 q3, .int .i64 q4, .slice Aq q5.length cq]) ?_ 1 _ rfl; refine Kv_ ?_; refine blk_put (cs := #[.int .u64 q0, .int .u64 q1, .int .u64 q2, .int .u64 q3, .int .i64 q4, .slice Aq q5.length cq]) ?_ 0 _ rfl; exact Kq_ BKw⟩; have HRz : Aside0 (Go.Proofs.Ythjhkcebcgdeoaa.Jud.RW ((((ww.setCell ⟨gt, 0, none⟩ (.int .u64 n0)).setCell ⟨gt, 1, none⟩ (.int .u64 n1)).setCell ⟨gt, 2, none⟩ (.int .u64 n2)).setCell ⟨gt, 3, none⟩ (.int .u64 n3)) wr.heap.size (fun _ => True) (.slice Aq q5.length cq) q5) := ⟨Kd.R_mono (Kd.R_far (p := ⟨gt, 3, none⟩) (Kd.R_far (p := ⟨gt, 2, none⟩) (Kd.R_far (p := ⟨gt, 1, none⟩) (Kd.R_far (p := ⟨gt, 0, none⟩) (Kd.R_types HRw.out BKw.out (by decide)) (fun _ hk => hk.2) _) (fun _ hk => hk.2) _) (fun _ hk => hk.2) _) (fun _ hk => hk.2) _) (fun _ _ => trivial)⟩; have ez : ((((ww.setCell ⟨gt, 0, none⟩ (.int .u64 n0)).setCell ⟨gt, 1, none⟩ (.int .u64 n1)).setCell ⟨gt, 2, none⟩ (.int .u64 n2)).setCell ⟨gt, 3, none⟩ (.int .u64 n3)).heap.size = ww.heap.size := Go.Proofs.Ythjhkcebcgdeoaa.Jud.size4 _ _ _ _ _ _ _ _ _; generalize ((((ww.setCell ⟨gt, 0, none⟩ (.int .u64 n0)).setCell ⟨gt, 1, none⟩ (.int .u64 n1)).setCell ⟨gt, 2, none⟩ (.int .u64 n2)).setCell ⟨gt, 3, none⟩ (.int .u64 n3)) = wz at Hz BKz HRz ez ⊢; clear BKw Hw HRw; try clear hwa0 hwa1 hwa2 hwa3 hwa4 hwa5 fwa0 fwa1 fwa2 fwa3 fwa4 fwa5; refine Go.Proofs.Ythjhkcebcgdeoaa.Jud.app2 (w0 := w) (W := wz) w.heap.size rfl (.tmp 68) (.tmp 70) rfl u10 u11 (.slice Aq q5.length cq) (al.take i) ((al.take i).filter (fun t : S64 => decide (t.f0.f0.f0 ≤ v0 ∧ t.f0.f0.f1 ≤ v1 ∧ t.f0.f0.f2 ≤ v2 ∧ t.f0.f0.f3 ≤ v3))) (⟨⟨⟨n0, n1, n2, n3⟩, q4⟩, q5⟩ : S64) [.int .u64 n0, .int .u64 n1, .int .u64 n2, .int .u64 n3, .int .i64 q4, .slice Aq q5.length cq] rfl rfl ?hx ?aR ?aA ?aS ?aB ?ab ?al ?_; (case hx => rw [ez]; rfl); (case aR => exact Go.Proofs.Ythjhkcebcgdeoaa.Jud.RW_off HRz.out (below_size HB.out) (Go.Proofs.Ythjhkcebcgdeoaa.Jud.R_lt HA.out) (Go.Proofs.Ythjhkcebcgdeoaa.Jud.R_lt HS.out)); (case aA => exact Kd.R_below HA.out Hz.out); (case aS => exact Kd.R_below HS.out Hz.out); (case aB => exact below_step HB.out Hz.out); (case ab => exact Nat.le_trans (below_size HB.out) (below_size Hz.out)); (case al => rw [List.length_take]; have := HMA.out.1; omega); intro xa wa hA1 hS1 hR1 hb1 hg1; have HA1 := Aside0.mk hA1; have HS1 := Aside0.mk hS1; have HR1 := Aside0.mk hR1; have HB1 := Aside0.mk hb1; have BKt1 := Aside0.mk (blk_grown BKz.out hg1 (Go.Proofs.Ythjhkcebcgdeoaa.Jud.LT_new HA.out GEt.out)); have BK12a := Aside0.mk (blk_grown (blk_below BK12.out Hz.out) hg1 (Go.Proofs.Ythjhkcebcgdeoaa.Jud.LT_ne HA.out BK12.out (by decide))); have BK13a := Aside0.mk (blk_grown (blk_below BK13.out Hz.out) hg1 (Go.Proofs.Ythjhkcebcgdeoaa.Jud.LT_ne HA.out BK13.out (by decide))); have BK5a := Aside0.mk (blk_grown (blk_below BK5.out Hz.out) hg1 (Go.Proofs.Ythjhkcebcgdeoaa.Jud.LT_ne HA.out BK5.out (by decide))); clear hA1 hS1 hR1 hb1 hg1; obtain ⟨ta0, ta1, ta2, ta3, ta4, ta5, -, -, -, -, -, -⟩ := Ke6_ BKt1.out; obtain ⟨va0, va1, va2, va3, -, -, -, -⟩ := Go.Proofs.Ythjhkcebcgdeoaa.Jud.cells4 BK12a.out)
      | ((with_reducible refine gate_dst (N := 75) rfl ?_); refine Kg_ (some 75) rfl rfl Try.func31 (by kernel_rfl) rfl #[.agg #[.int .u64 n0, .int .u64 n1, .int .u64 n2, .int .u64 n3, .int .i64 q4], .agg #[.int .u64 v0, .int .u64 v1, .int .u64 v2, .int .u64 v3]] rfl ?_; (with_reducible refine (stamp_Seen.calls n0 n1 n2 n3 q4 v0 v1 v2 v3 _ _ HSV.out).mono ?_); rintro e wb ⟨rfl, hb⟩; refine ⟨_, rfl, ?_⟩; have HA2 := Aside0.mk (Kd.R_below HA1.out hb); have HS2 := Aside0.mk (Kd.R_below HS1.out hb); have HR2 := Aside0.mk (Kd.R_below HR1.out hb); have HB2 := Aside0.mk (below_step HB1.out hb); have BKt2 := Aside0.mk (blk_below BKt1.out hb); have BK12b := Aside0.mk (blk_below BK12a.out hb); have BK13b := Aside0.mk (blk_below BK13a.out hb); have BK5b := Aside0.mk (blk_below BK5a.out hb); clear hb ta0 ta1 ta2 ta3 ta4 ta5 va0 va1 va2 va3; obtain ⟨tb0, tb1, tb2, tb3, tb4, tb5, -, -, -, -, -, -⟩ := Ke6_ BKt2.out)
      | ((with_reducible refine gate_builtin (b := .append) (xs := #[.tmp 76, .tmp 78]) rfl ?_); at_builtin; refine Go.Proofs.Ythjhkcebcgdeoaa.Jud.app2 (w0 := w) (W := wb) w.heap.size rfl (.tmp 76) (.tmp 78) rfl u11 xa (.slice Aq q5.length cq) ((al.take i).filter (fun t : S64 => decide (t.f0.f0.f0 ≤ v0 ∧ t.f0.f0.f1 ≤ v1 ∧ t.f0.f0.f2 ≤ v2 ∧ t.f0.f0.f3 ≤ v3))) (al.take i ++ [(⟨⟨⟨n0, n1, n2, n3⟩, q4⟩, q5⟩ : S64)]) (⟨⟨⟨n0, n1, n2, n3⟩, q4⟩, q5⟩ : S64) [.int .u64 n0, .int .u64 n1, .int .u64 n2, .int .u64 n3, .int .i64 q4, .slice Aq q5.length cq] rfl rfl rfl ?aR ?aA ?aS ?aB ?ab ?al ?_; (case aR => exact Kd.R_mono HR2.out (fun _ hk => ⟨hk.2, hk.1⟩)); (case aA => exact HS2.out); (case aS => exact HA2.out); (case aB => exact HB2.out); (case ab => exact below_size HB2.out); (case al => exact Nat.le_trans (List.length_filter_le _ _) (by rw [List.length_take]; have := HMA.out.1; omega)); intro xb wc hS3 hA3 _ hb3 hg3; have HA3 := Aside0.mk hA3; have HS3 := Aside0.mk hS3; have HB3 := Aside0.mk hb3; have BK12c := Aside0.mk (blk_grown BK12b.out hg3 (Go.Proofs.Ythjhkcebcgdeoaa.Jud.LT_ne HS.out BK12.out (by decide))); have BK13c := Aside0.mk (blk_grown BK13b.out hg3 (Go.Proofs.Ythjhkcebcgdeoaa.Jud.LT_ne HS.out BK13.out (by decide))); have BK5c := Aside0.mk (blk_grown BK5b.out hg3 (Go.Proofs.Ythjhkcebcgdeoaa.Jud.LT_ne HS.out BK5.out (by decide))); clear hA3 hS3 hb3 hg3 tb0 tb1 tb2 tb3 tb4 tb5))
     go_roundg (al.length - (i + 1))
     case measure => have := HK.out; omega
     case rel => exact ⟨i + 1, by first | rfl | (rw [show ((i + 1 : Nat) : Int) = (i : Int) + 1 by omega]; rfl) | (rw [show ((i + 1 : Nat) : Int) = (i : Int) + 1 by omega]; congr 1; exact Go.Proofs.Ythjhkcebcgdeoaa.Pure.wrap64_id (by omega) (by omega)), ⟨by omega⟩, ⟨by omega⟩, ⟨by rw [HTK.out]; exact HA3.out⟩, ⟨by rw [HTK.out, HFL.out]; exact HS3.out⟩, BK12c, BK13c, BK5c, HB3⟩
   ·have hL := HMA.out.1
    have HIL : Aside0 (i = al.length) := ⟨by have := HI.out; omega⟩
    rw [List.take_of_length_le (by omega)] at HA HS
    obtain ⟨se, hse⟩ : ∃ se : List S64, se = al.filter (fun t : S64 => decide (t.f0.f0.f0 ≤ v0 ∧ t.f0.f0.f1 ≤ v1 ∧ t.f0.f0.f2 ≤ v2 ∧ t.f0.f0.f3 ≤ v3)) := ⟨_, rfl⟩
    rw [← hse] at HS E2
    clear hse
    obtain ⟨A10, c10, e10⟩ := Kd.R_slice HA.out
    obtain ⟨A11, c11, e11⟩ := Kd.R_slice HS.out
    subst e10 e11
    have HC10 := Aside0.mk (Kd.R_reads' HA.out).2.1
    have HC11 := Aside0.mk (Kd.R_reads' HS.out).2.1
    obtain ⟨hp0, hp1, hp2, hp3, hp4, hp5, fp0, fp1, fp2, fp3, fp4, fp5⟩ := Ke6_ BK5.out
    have hway : (i < l0.length ∧ ¬ i < 10) ∨ ¬ i < l0.length := by have := HIL.out; omega
    clear hL
    rcases hway with ⟨c2, c3⟩ | c2
    all_goals
     go_wp2_with (first
      | ((with_reducible refine gate_dst (N := 82) rfl ?_); refine Kg_ (some 82) rfl rfl Try.func12 (by kernel_rfl) rfl #[.agg #[.string a1_0, .string a1_1, .string a1_2, .bool a1_3, .bool true, .int .u8 a1_5]] rfl ?_; (with_reducible refine (tenementlaw22_Put_write.calls a1_0 a1_1 a1_2 a1_3 true a1_5 wb wk wv wg _ HPW.out).mono ?_); have HA5 := Aside0.mk (Go.Proofs.Ythjhkcebcgdeoaa.Jud.LT_far (i := 4) HA.out BK5.out (by decide) (.bool true)); have HS5 := Aside0.mk (Go.Proofs.Ythjhkcebcgdeoaa.Jud.LT_far (i := 4) HS.out BK5.out (by decide) (.bool true)); have BK12s := Aside0.mk (blk_far (p := ⟨g5, 4, none⟩) BK12.out (Go.Proofs.Ythjhkcebcgdeoaa.Jud.box_ne BK12.out BK5.out (by decide)) (.bool true)); have BK13s := Aside0.mk (blk_far (p := ⟨g5, 4, none⟩) BK13.out (Go.Proofs.Ythjhkcebcgdeoaa.Jud.box_ne BK13.out BK5.out (by decide)) (.bool true)); have HB5 : Aside0 (Below w.heap.size w (wr.setCell ⟨g5, 4, none⟩ (.bool true))) := ⟨HB.out.setCell GE5.out _⟩; clear hp0 hp1 hp2 hp3 hp4 hp5 fp0 fp1 fp2 fp3 fp4 fp5; rintro e w15 ⟨rfl, hb⟩; refine ⟨_, rfl, ?_⟩; have HA6 := Aside0.mk (Kd.R_below HA5.out hb); have HS6 := Aside0.mk (Kd.R_below HS5.out hb); have BK12t := Aside0.mk (blk_below BK12s.out hb); have BK13t := Aside0.mk (blk_below BK13s.out hb); have HB6 := Aside0.mk (below_step HB5.out hb); clear hb; obtain ⟨wv0, wv1, wv2, wv3, -, -, -, -⟩ := Go.Proofs.Ythjhkcebcgdeoaa.Jud.cells4 (blk_alloc BK12t.out (Obj.cells #[.string wb, .string wk, .string wv, .bool wg] 24)))
      | ((with_reducible refine gate_dst (N := 90) rfl ?_); refine Kg_ (some 90) rfl rfl Try.func14 (by kernel_rfl) rfl #[.slice A10 al.length c10, .string wb, .string wk, .agg #[.int .u64 v0, .int .u64 v1, .int .u64 v2, .int .u64 v3]] rfl ?_; (with_reducible refine (judge_Read.calls A10 c10 al wb wk v0 v1 v2 v3 b o1 _ ?s1 HC10.out E1.out).mono ?_); (case s1 => exact (Kd.R_reads' (Kd.R_below HA6.out (below_alloc (Below.refl _ _) _))).2.2); rintro e w16 ⟨rfl, hb⟩; refine ⟨_, rfl, ?_⟩; have hb2 := below_step (below_alloc (Below.refl _ _) _) hb; have BK17 := Aside0.mk (blk_below (blk_new w15 _) hb); have HA7 := Aside0.mk (Kd.R_below HA6.out hb2); have HS7 := Aside0.mk (Kd.R_below HS6.out hb2); have BK13u := Aside0.mk (blk_below BK13t.out hb2); have HB7 := Aside0.mk (below_step HB6.out hb2); clear hb hb2 wv0 wv1 wv2 wv3; generalize w15.heap.size = g17 at BK17 ⊢; obtain ⟨we0, we1, we2, we3, -, -, -, -⟩ := Go.Proofs.Ythjhkcebcgdeoaa.Jud.cells4 BK17.out)
      | ((with_reducible refine gate_dst (N := 99) rfl ?_); refine Kg_ (some 99) rfl rfl Try.func16 (by kernel_rfl) rfl #[.slice A11 se.length c11, .string wb, .string wk] rfl ?_; (with_reducible refine (judge_Last.calls A11 c11 se wb wk b o1 _ ?s1 HC11.out E2.out).mono ?_); (case s1 => exact (Kd.R_reads' HS7.out).2.2); rintro e w17 ⟨rfl, hb⟩; refine ⟨_, rfl, ?_⟩; have BK17b := Aside0.mk (blk_below BK17.out hb); have HA8 := Aside0.mk (Kd.R_below HA7.out hb); have BK13v := Aside0.mk (blk_below BK13u.out hb); have HB8 := Aside0.mk (below_step HB7.out hb); clear hb we0 we1 we2 we3))
     try go_frame
     go_loopg [22, 23] al.length (fun kq v22 v23 wr => ∃ (j : Nat), v23 = .int .i64 j ∧ Aside0 (j ≤ al.length) ∧ Aside0 (al.length - j ≤ kq) ∧ Aside0 (Go.Proofs.Ythjhkcebcgdeoaa.Jud.LT wr w.heap.size (fun k => True ∧ Go.Proofs.Ythjhkcebcgdeoaa.Jud.off v22 k) (.slice A10 al.length c10) al) ∧ Aside0 (Go.Proofs.Ythjhkcebcgdeoaa.Jud.LT wr w.heap.size (fun k => True ∧ Go.Proofs.Ythjhkcebcgdeoaa.Jud.off (.slice A10 al.length c10) k) v22 ((al.take j).filter (fun t : S64 => decide (t.f0.f0.f0 ≤ f0 ∧ t.f0.f0.f1 ≤ f1 ∧ t.f0.f0.f2 ≤ f2 ∧ t.f0.f0.f3 ≤ f3)))) ∧ Aside0 (wr.heap[g13]? = some (.cells #[.int .u64 f0, .int .u64 f1, .int .u64 f2, .int .u64 f3] 29 (0, 0))) ∧ Aside0 (wr.heap[g17]? = some (.cells #[.string wb, .string wk, .string wv, .bool wg] 24 (0, 0))) ∧ Aside0 (Below w.heap.size w wr))
     case atStart => exact ⟨0, rfl, ⟨by omega⟩, ⟨by omega⟩, ⟨Kd.R_mono HA8.out (fun k _ => ⟨trivial, Go.Proofs.Ythjhkcebcgdeoaa.Jud.off_none k⟩)⟩, ⟨by rw [List.take_zero]; exact Kd.R_nil _ _ _ _ _⟩, BK13v, BK17b, HB8⟩
     case round =>
      clear HA HS BK12 BK13 BK5 HB HI HK HIL HA5 HS5 BK12s BK13s HB5 HA6 HS6 BK12t BK13t HB6 HA7 HS7 BK13u HB7 HA8 BK13v BK17 BK17b HB8
      obtain ⟨j, rfl, HJ, HK, HA, HB_, BK13, BK17, HB⟩ := hrel
      by_cases d1 : j < al.length
      ·have d0b : decide (0 ≤ (j : Int)) = true := decide_eq_true (by omega)
       have d1b : decide ((j : Int) < (al.length : Int)) = true := decide_eq_true (by omega)
       obtain ⟨ad, cA, v6, eA, -, k0, k1, k2, k3, k4, -⟩ := Go.Proofs.Ythjhkcebcgdeoaa.Jud.LT_get2 HA.out j d1
       cases eA
       obtain ⟨tx, htx⟩ : ∃ t, t = rd_T64 al (j : Int) := ⟨_, rfl⟩
       have HTX := Aside0.mk htx
       have hxx := Go.Proofs.Ythjhkcebcgdeoaa.Jud.rd64_eq al j d1
       rw [← htx] at k0 k1 k2 k3 k4 hxx
       clear htx
       obtain ⟨⟨⟨n0, n1, n2, n3⟩, q4⟩, q5⟩ := tx
       simp only at k0 k1 k2 k3 k4
       have HTK : Aside0 (al.take (j + 1) = al.take j ++ [(⟨⟨⟨n0, n1, n2, n3⟩, q4⟩, q5⟩ : S64)]) := ⟨by rw [List.take_add_one, hxx]; rfl⟩
       clear hxx
       obtain ⟨sv, hsv⟩ : ∃ sv, sv = decide (n0 ≤ f0 ∧ n1 ≤ f1 ∧ n2 ≤ f2 ∧ n3 ≤ f3) := ⟨_, rfl⟩
       have HSV : Aside0 (stamp_Seen.f n0 n1 n2 n3 q4 f0 f1 f2 f3 = some sv) := ⟨by rw [hsv]; exact Go.Proofs.Ythjhkcebcgdeoaa.Pure.jseen_f _ _ _ _ _ _ _ _ _⟩
       have HFL : Aside0 ((al.take j ++ [(⟨⟨⟨n0, n1, n2, n3⟩, q4⟩, q5⟩ : S64)]).filter (fun t : S64 => decide (t.f0.f0.f0 ≤ f0 ∧ t.f0.f0.f1 ≤ f1 ∧ t.f0.f0.f2 ≤ f2 ∧ t.f0.f0.f3 ≤ f3)) = (al.take j).filter (fun t : S64 => decide (t.f0.f0.f0 ≤ f0 ∧ t.f0.f0.f1 ≤ f1 ∧ t.f0.f0.f2 ≤ f2 ∧ t.f0.f0.f3 ≤ f3)) ++ (if sv then [(⟨⟨⟨n0, n1, n2, n3⟩, q4⟩, q5⟩ : S64)] else [])) := ⟨by rw [List.filter_append]; congr 1; rw [hsv, List.filter_cons, List.filter_nil]⟩
       clear hsv
       go_wp2
       have HBd : Aside0 (Below w.heap.size w wr.drew) := ⟨below_drew1 HB.out⟩
       have HAd := Aside0.mk (Kd.R_below HA.out (below_drew1 (Below.refl _ _)))
       have HBd_ := Aside0.mk (Kd.R_below HB_.out (below_drew1 (Below.refl _ _)))
       have BK13a := Aside0.mk (blk_drew BK13.out)
       have BK17a := Aside0.mk (blk_drew BK17.out)
       refine start_ (n := 7) (S := fun w' => w'.cell? (ad.add (j * 6)) = some (.int .u64 n0) ∧ w'.cell? ⟨(ad.add (j * 6)).block, (ad.add (j * 6)).off + 1, none⟩ = some (.int .u64 n1) ∧ w'.cell? ⟨(ad.add (j * 6)).block, (ad.add (j * 6)).off + 2, none⟩ = some (.int .u64 n2) ∧ w'.cell? ⟨(ad.add (j * 6)).block, (ad.add (j * 6)).off + 3, none⟩ = some (.int .u64 n3) ∧ w'.cell? ⟨(ad.add (j * 6)).block, (ad.add (j * 6)).off + 4, none⟩ = some (.int .i64 q4) ∧ w'.cell? ⟨g13, 0, none⟩ = some (.int .u64 f0) ∧ w'.cell? ⟨g13, 1, none⟩ = some (.int .u64 f1) ∧ w'.cell? ⟨g13, 2, none⟩ = some (.int .u64 f2) ∧ w'.cell? ⟨g13, 3, none⟩ = some (.int .u64 f3)) (ds := [6]) (mB_ 7 0) (by kernel_rfl) rfl rfl ⟨k0, k1, k2, k3, k4, (blk_cell BK13a.out 0).trans rfl, (blk_cell BK13a.out 1).trans rfl, (blk_cell BK13a.out 2).trans rfl, (blk_cell BK13a.out 3).trans rfl⟩ (fun hHeld => ?_)
       clear k0 k1 k2 k3 k4
       generalize wr.drew = wx at HBd HAd HBd_ BK13a BK17a hHeld ⊢
       refine Kp_ 0 108 (mB_ 7 1) (by kernel_rfl) ?_
       refine Kp_ 1 109 (mB_ 7 3) (by kernel_rfl) ?_
       refine Kp_ 2 110 (mB_ 7 7) (by kernel_rfl) ?_
       refine Kp_ 3 111 (mB_ 7 15) (by kernel_rfl) ?_
       refine Ko_ 4 112 (mB_ 7 31) (by kernel_rfl) hHeld ?_
       refine Ko_ 5 113 (mB_ 7 63) (by kernel_rfl) hHeld ?_
       refine last_ (i := 6) (N := some 114) (mB_ 7 127) rfl rfl (by kernel_rfl) (by decide) (fun K hK => ?_)
       refine goes_ Try.func31 (by kernel_rfl) rfl #[.agg #[.int .u64 n0, .int .u64 n1, .int .u64 n2, .int .u64 n3, .int .i64 q4], .agg #[.int .u64 f0, .int .u64 f1, .int .u64 f2, .int .u64 f3]] (by rfl) rfl rfl (by (try simp only [List.map_toArray, List.map_cons, List.map_nil]); first | done | rfl) ?_
       refine (stamp_Seen.calls n0 n1 n2 n3 q4 f0 f1 f2 f3 sv _ HSV.out).mono ?_
       rintro e_ wy ⟨rfl, hb⟩
       refine ⟨_, rfl, ?_⟩
       refine hK.out _ _ ?_
       clear hK K
       refine Kn_ 114 ?_
       refine done_ (by kernel_rfl) ?_
       have HA2 := Aside0.mk (Kd.R_below HAd.out hb)
       have HB2_ := Aside0.mk (Kd.R_below HBd_.out hb)
       have HB2 := Aside0.mk (below_step HBd.out hb)
       have BK13b := Aside0.mk (blk_below BK13a.out hb)
       have BK17b := Aside0.mk (blk_below BK17a.out hb)
       clear hb hHeld HA HB_ HB BK13 BK17 HAd HBd HBd_ BK13a BK17a
       obtain ⟨ad', cB, v5, eA, hRe, k0, k1, k2, k3, k4, k5⟩ := Go.Proofs.Ythjhkcebcgdeoaa.Jud.LT_get2 HA2.out j d1
       cases eA
       rw [← HTX.out] at hRe k0 k1 k2 k3 k4
       simp only at hRe k0 k1 k2 k3 k4
       cases sv with
       | false =>
        rw [if_neg (by decide), List.append_nil] at HFL
        clear k0 k1 k2 k3 k4 k5
        go_wp2
        have hl10 : al.length ≤ 10 := by have := HMA.out.1; omega
        go_roundg (al.length - (j + 1))
        case measure => have := HK.out; omega
        case rel => exact ⟨j + 1, by first | rfl | (rw [show ((j + 1 : Nat) : Int) = (j : Int) + 1 by omega]; rfl) | (rw [show ((j + 1 : Nat) : Int) = (j : Int) + 1 by omega]; congr 1; exact Go.Proofs.Ythjhkcebcgdeoaa.Pure.wrap64_id (by omega) (by omega)), ⟨by omega⟩, ⟨by omega⟩, HA2, ⟨by rw [HTK.out, HFL.out]; exact HB2_.out⟩, BK13b, BK17b, HB2⟩
       | true =>
        rw [if_pos rfl] at HFL
        go_wp2_with (first
         | ((with_reducible refine gate_builtin (b := .append) (xs := #[.tmp 115, .tmp 120]) rfl ?_); at_builtin; refine Go.Proofs.Ythjhkcebcgdeoaa.Jud.app2 (w0 := w) (W := wy) w.heap.size rfl (.tmp 115) (.tmp 120) rfl u22 (.slice (some ad) al.length c10) v5 ((al.take j).filter (fun t : S64 => decide (t.f0.f0.f0 ≤ f0 ∧ t.f0.f0.f1 ≤ f1 ∧ t.f0.f0.f2 ≤ f2 ∧ t.f0.f0.f3 ≤ f3))) al (⟨⟨⟨n0, n1, n2, n3⟩, q4⟩, q5⟩ : S64) [.int .u64 n0, .int .u64 n1, .int .u64 n2, .int .u64 n3, .int .i64 q4, v5] rfl rfl rfl ?aR ?aA ?aS ?aB ?ab ?al ?_; (case aR => exact Kd.R_mono hRe (fun _ hk => ⟨hk.1.2, hk.2⟩)); (case aA => exact HB2_.out); (case aS => exact HA2.out); (case aB => exact HB2.out); (case ab => exact below_size HB2.out); (case al => exact Nat.le_trans (List.length_filter_le _ _) (by rw [List.length_take]; have := HMA.out.1; omega)); intro xb wz hS3 hA3 _ hb3 hg3; have HA3 := Aside0.mk hA3; have HS3 := Aside0.mk hS3; have HB3 := Aside0.mk hb3; have BK13c := Aside0.mk (blk_grown BK13b.out hg3 (Go.Proofs.Ythjhkcebcgdeoaa.Jud.LT_ne HB2_.out BK13b.out (by decide))); have BK17c := Aside0.mk (blk_grown BK17b.out hg3 (Go.Proofs.Ythjhkcebcgdeoaa.Jud.LT_ne HB2_.out BK17b.out (by decide))); clear hA3 hS3 hb3 hg3 k0 k1 k2 k3 k4 k5))
        have hl10 : al.length ≤ 10 := by have := HMA.out.1; omega
        go_roundg (al.length - (j + 1))
        case measure => have := HK.out; omega
        case rel => exact ⟨j + 1, by first | rfl | (rw [show ((j + 1 : Nat) : Int) = (j : Int) + 1 by omega]; rfl) | (rw [show ((j + 1 : Nat) : Int) = (j : Int) + 1 by omega]; congr 1; exact Go.Proofs.Ythjhkcebcgdeoaa.Pure.wrap64_id (by omega) (by omega)), ⟨by omega⟩, ⟨by omega⟩, HA3, ⟨by rw [HTK.out, HFL.out]; exact HS3.out⟩, BK13c, BK17c, HB3⟩
      ·have d1b : decide ((j : Int) < (al.length : Int)) = false := decide_eq_false (by omega)
       rw [List.take_of_length_le (by omega)] at HB_
       obtain ⟨be, hbe⟩ : ∃ be : List S64, be = al.filter (fun t : S64 => decide (t.f0.f0.f0 ≤ f0 ∧ t.f0.f0.f1 ≤ f1 ∧ t.f0.f0.f2 ≤ f2 ∧ t.f0.f0.f3 ≤ f3)) := ⟨_, rfl⟩
       rw [← hbe] at HB_ E4
       clear hbe
       obtain ⟨A22, c22, e22⟩ := Kd.R_slice HB_.out
       subst e22
       have HC22 := Aside0.mk (Kd.R_reads' HB_.out).2.1
       obtain ⟨wa0, wa1, wa2, wa3, fa0, fa1, fa2, fa3⟩ := Go.Proofs.Ythjhkcebcgdeoaa.Jud.cells4 BK17.out
       obtain ⟨wf0, wf1, wf2, wf3, -, -, -, -⟩ := Go.Proofs.Ythjhkcebcgdeoaa.Jud.cells4 BK13.out
       go_wp2_with (first
        | ((with_reducible refine gate_dst (N := 129) rfl ?_); refine Kg_ (some 129) rfl rfl Try.func14 (by kernel_rfl) rfl #[.slice A10 al.length c10, .string wb, .string wk, .agg #[.int .u64 f0, .int .u64 f1, .int .u64 f2, .int .u64 f3]] rfl ?_; (with_reducible refine (judge_Read.calls A10 c10 al wb wk f0 f1 f2 f3 d o2 _ ?s1 HC10.out E3.out).mono ?_); (case s1 => exact (Kd.R_reads' HA.out).2.2); rintro e_ wx ⟨rfl, hb⟩; refine ⟨_, rfl, ?_⟩; have HA2 := Aside0.mk (Kd.R_below HA.out hb); have HB2_ := Aside0.mk (Kd.R_below HB_.out hb); have BK17b := Aside0.mk (blk_below BK17.out hb); have HB2 := Aside0.mk (below_step HB.out hb); clear hb wa0 wa1 wa2 wa3 fa0 fa1 fa2 fa3; obtain ⟨wb0, wb1, wb2, wb3, -, -, -, -⟩ := Go.Proofs.Ythjhkcebcgdeoaa.Jud.cells4 BK17b.out)
        | ((with_reducible refine gate_dst (N := 138) rfl ?_); refine Kg_ (some 138) rfl rfl Try.func16 (by kernel_rfl) rfl #[.slice A22 be.length c22, .string wb, .string wk] rfl ?_; (with_reducible refine (judge_Last.calls A22 c22 be wb wk d o2 _ ?s1 HC22.out E4.out).mono ?_); (case s1 => exact (Kd.R_reads' HB2_.out).2.2); rintro e_ wy ⟨rfl, hb⟩; refine ⟨_, rfl, ?_⟩; have HA3 := Aside0.mk (Kd.R_below HA2.out hb); have BK17c := Aside0.mk (blk_below BK17b.out hb); have HB3 := Aside0.mk (below_step HB2.out hb); clear hb wb0 wb1 wb2 wb3; obtain ⟨wc0, wc1, wc2, wc3, -, -, -, -⟩ := Go.Proofs.Ythjhkcebcgdeoaa.Jud.cells4 BK17c.out)
        | ((with_reducible refine gate_dst (N := 148) rfl ?_); refine Kg_ (some 148) rfl rfl Try.func14 (by kernel_rfl) rfl #[.slice A10 al.length c10, .string wb, .string wk, .agg #[.int .u64 0, .int .u64 0, .int .u64 0, .int .u64 0]] rfl ?_; (with_reducible refine (judge_Read.calls A10 c10 al wb wk 0 0 0 0 e false _ ?s1 HC10.out E5.out).mono ?_); (case s1 => exact (Kd.R_reads' HA3.out).2.2); rintro e_ wz ⟨rfl, hb⟩; refine ⟨_, rfl, ?_⟩; have HB4 := Aside0.mk (below_step HB3.out hb); clear hb wc0 wc1 wc2 wc3))
       go_ret
       exact ⟨by first | rfl | simp, HB4.out⟩
end Go.Proofs.Ythjhkcebcgdeoaa.Q
