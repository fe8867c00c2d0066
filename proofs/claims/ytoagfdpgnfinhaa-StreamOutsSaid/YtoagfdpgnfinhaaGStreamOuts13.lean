import Derived.Test.YtoagfdpgnfinhaaGStreamOuts2
import Derived.Test.YtoagfdpgnfinhaaGStreamOuts11
import Derived.Test.YtoagfdpgnfinhaaGStreamOuts6
import Derived.Test.YtoagfdpgnfinhaaGStreamOuts12
import Derived.Test.YtoagfdpgnfinhaaGStreamOuts7
import Derived.Test.YtoagfdpgnfinhaaGStreamOuts0
import Derived.Test.YtoagfdpgnfinhaaGStreamOuts5
import Derived.Test.YtoagfdpgnfinhaaGStreamOuts3
import Derived.Test.YtoagfdpgnfinhaaGStreamOuts8
namespace Go.Proofs.Ytoagfdpgnfinhaa.Q
open Go.RowKit Go.Proofs.YtoagfdpgnfinhaaW.PrintWords Go.Proofs.YtoagfdpgnfinhaaW.PrintLast Go.Proofs.YtoagfdpgnfinhaaW.PrintMore
attribute [local go_sem] max2_int min2_int max_two min_two max_three min_three max_four min_four   -- for this text's walks alone
set_option linter.unusedVariables false
set_option linter.unusedSimpArgs false
def tenementlaw15_StreamOuts.rw_ (x : S107) : S117 := ⟨x.f0, x.f1, x.f2, x.f3⟩
def tenementlaw15_StreamOuts.rt (t : S33) : S55 := ⟨⟨⟨t.f0.f0.f0, t.f0.f0.f1, t.f0.f0.f2, t.f0.f0.f3⟩, t.f0.f1⟩, t.f1.map tenementlaw15_StreamOuts.rw_⟩
def tenementlaw15_StreamOuts.good (k : Nat) (t : S33) : Prop := tenementlaw15_refTxn.f k t.f0.f0.f0 t.f0.f0.f1 t.f0.f0.f2 t.f0.f0.f3 t.f0.f1 t.f1 = some ((tenementlaw15_StreamOuts.rt t).f0.f0.f0, (tenementlaw15_StreamOuts.rt t).f0.f0.f1, (tenementlaw15_StreamOuts.rt t).f0.f0.f2, (tenementlaw15_StreamOuts.rt t).f0.f0.f3, (tenementlaw15_StreamOuts.rt t).f0.f1, (tenementlaw15_StreamOuts.rt t).f1) ∧ tenementref08_Same.f k (tenementlaw15_StreamOuts.rt t).f0.f0.f0 (tenementlaw15_StreamOuts.rt t).f0.f0.f1 (tenementlaw15_StreamOuts.rt t).f0.f0.f2 (tenementlaw15_StreamOuts.rt t).f0.f0.f3 (tenementlaw15_StreamOuts.rt t).f0.f1 (tenementlaw15_StreamOuts.rt t).f1 (tenementlaw15_StreamOuts.rt t).f0.f0.f0 (tenementlaw15_StreamOuts.rt t).f0.f0.f1 (tenementlaw15_StreamOuts.rt t).f0.f0.f2 (tenementlaw15_StreamOuts.rt t).f0.f0.f3 (tenementlaw15_StreamOuts.rt t).f0.f1 (tenementlaw15_StreamOuts.rt t).f1 = some true
def tenementlaw15_StreamOuts.ok (k : Nat) (l0 : List S44) : Prop := tenementlaw15_examples.f = some true ∧ ∀ x ∈ l0, (0 ≤ x.f0 ∧ x.f0 ≤ 255) ∧ ∃ t : S33, tenementlaw15_Deal_deal.f k x.f1.f0.f0.f0.f0 x.f1.f0.f0.f0.f1 x.f1.f0.f0.f0.f2 x.f1.f0.f0.f0.f3 x.f1.f0.f0.f1 x.f1.f0.f1 x.f1.f1 x.f1.f2 = some (t.f0.f0.f0, t.f0.f0.f1, t.f0.f0.f2, t.f0.f0.f3, t.f0.f1, t.f1) ∧ tenementlaw15_StreamOuts.good k t
open Classical in
noncomputable def tenementlaw15_StreamOuts.f (l0 : List S44) : Option Bool := if ∃ k : Nat, tenementlaw15_StreamOuts.ok k l0 then some true else none
set_option maxHeartbeats 32000000 in
set_option maxRecDepth 100000 in
theorem tenementlaw15_StreamOuts.calls (A0 : Option Addr) (c0 : Nat) (l0 : List S44) (r : Bool) (w : World) (hr0 : Kd.C k44 w A0 l0.length l0) (hc0 : l0.length ≤ c0) (h : tenementlaw15_StreamOuts.f l0 = some r) :
  Calls Try.prog 3 #[.slice A0 l0.length c0] w fun e w' => e = .returned (.bool r) ∧ Below w.heap.size w w' := by
 unfold tenementlaw15_StreamOuts.f at h
 by_cases hw : ∃ k : Nat, tenementlaw15_StreamOuts.ok k l0
 rotate_left
 ·rw [if_neg hw] at h; cases h
 rw [if_pos hw] at h
 obtain rfl := Option.some.inj h
 clear h
 obtain ⟨k, h1, h2⟩ := hw
 have HEX := Aside0.mk h1
 have HOK := Aside0.mk h2
 have HR0 := Aside0.mk hr0
 clear h1 h2 hr0
 go_enter Try.func3, Try.ntmps3
 go_wp2_with (first
  | (go_at_call 11; (with_reducible refine (tenementlaw15_examples.calls true _ HEX.out).mono ?_); rintro e_ w1 ⟨rfl, hb⟩; have HB1 := Aside0.mk hb; clear hb)
  | (go_at_call 12; refine (Go.Proofs.Ytoagfdpgnfinhaa.So.new_c w1).mono ?_; rintro e_ w2 ⟨rfl, hS, hb⟩; have HS2 := Aside0.mk hS; have HB2 := Aside0.mk (below_step HB1.out hb); have GE4 : Aside0 (w.heap.size ≤ w1.heap.size) := ⟨HB1.out.size⟩; clear hS hb; generalize w1.heap.size = g4 at HS2 GE4 ⊢))
 have HV : Aside0 (Go.Proofs.Ytoagfdpgnfinhaa.So.Inv w (w2.alloc (Obj.cells #[.slice none 0 0, .int .u64 0] 37)) g4 w2.heap.size [] 0 [] 0) := ⟨Go.Proofs.Ytoagfdpgnfinhaa.So.start _ _ _ _ (blk_alloc HS2.out _) (blk_new w2 _) (below_alloc HB2.out _) GE4.out HB2.out.size⟩
 generalize w2.alloc (Obj.cells #[.slice none 0 0, .int .u64 0] 37) = w3 at HV ⊢
 generalize w2.heap.size = g5 at HV ⊢
 clear HS2 HB2 HB1 GE4
 go_loopg [6] l0.length (fun kq v6 wr => ∃ (i : Nat) (ts : List S33) (a : Nat), v6 = .int .i64 i ∧ Aside0 (i ≤ 50) ∧ Aside0 (l0.length - i ≤ kq) ∧ Aside0 (ts.length ≤ i) ∧ Aside0 (∀ t ∈ ts, tenementlaw15_StreamOuts.good k t) ∧ Aside0 (Go.Proofs.Ytoagfdpgnfinhaa.So.Inv w wr g4 g5 ts a (ts.map tenementlaw15_StreamOuts.rt) a))
 case atStart => exact ⟨0, [], 0, rfl, ⟨by omega⟩, ⟨by omega⟩, ⟨Nat.le_refl _⟩, ⟨fun t h => by cases h⟩, HV⟩
 case round =>
  clear HV
  obtain ⟨i, ts, a, rfl, HI, HK, HTL, HG, HV⟩ := hrel
  by_cases c1 : i < l0.length ∧ i < 50
  rotate_left
  ·have hcut : ((i : Int) < (l0.length : Int)) ∧ ¬ ((i : Int) < 50) ∨ ¬ ((i : Int) < (l0.length : Int)) := by omega
   rcases hcut with ⟨d1, d2⟩ | d1
   all_goals
    try have d1b : decide ((i : Int) < (l0.length : Int)) = true := decide_eq_true d1
    try have d1b : decide ((i : Int) < (l0.length : Int)) = false := decide_eq_false d1
    try have d2b : decide ((i : Int) < 50) = false := decide_eq_false d2
    go_wp2
    go_ret
    exact ⟨rfl, Go.Proofs.Ytoagfdpgnfinhaa.So.Inv.bel HV.out⟩
  ·obtain ⟨d1, d2⟩ : (i : Int) < (l0.length : Int) ∧ (i : Int) < 50 := by omega
   have d1b : decide ((i : Int) < (l0.length : Int)) = true := decide_eq_true d1
   have d2b : decide ((i : Int) < 50) = true := decide_eq_true d2
   have d0b : decide (0 ≤ (i : Int)) = true := decide_eq_true (by omega)
   obtain ⟨ad, Ap, cp, e0, h0, h1, h2, h3, h4, h5, h6, h7, h8, h9, h10, LP, GPh⟩ := at_T44 HR0.out (i : Int) (by omega) d1
   cases e0
   have HB := Aside0.mk (Go.Proofs.Ytoagfdpgnfinhaa.So.Inv.bel HV.out)
   replace h0 := (HB.out.cell (World.block_lt_of_cell? w _ h0)).trans h0
   replace h1 := (HB.out.cell (World.block_lt_of_cell? w _ h1)).trans h1
   replace h2 := (HB.out.cell (World.block_lt_of_cell? w _ h2)).trans h2
   replace h3 := (HB.out.cell (World.block_lt_of_cell? w _ h3)).trans h3
   replace h4 := (HB.out.cell (World.block_lt_of_cell? w _ h4)).trans h4
   replace h5 := (HB.out.cell (World.block_lt_of_cell? w _ h5)).trans h5
   replace h6 := (HB.out.cell (World.block_lt_of_cell? w _ h6)).trans h6
   replace h7 := (HB.out.cell (World.block_lt_of_cell? w _ h7)).trans h7
   replace h8 := (HB.out.cell (World.block_lt_of_cell? w _ h8)).trans h8
   replace h9 := (HB.out.cell (World.block_lt_of_cell? w _ h9)).trans h9
   replace h10 := (HB.out.cell (World.block_lt_of_cell? w _ h10)).trans h10
   have GP := Aside0.mk (Kd.C_below GPh HB.out)
   clear GPh
   simp only [Int.toNat_natCast] at h0 h1 h2 h3 h4 h5 h6 h7 h8 h9 h10
   have hmem : rd_T44 l0 (i : Int) ∈ l0 := by
    unfold rd_T44
    rw [Int.toNat_natCast, List.getD_eq_getElem?_getD, List.getElem?_eq_getElem c1.1, Option.getD_some]
    exact List.getElem_mem _
   obtain ⟨⟨hk0, hk1⟩, ⟨⟨⟨q0, q1, q2, q3⟩, q4⟩, q5⟩, hdl, hgd⟩ := HOK.out _ hmem
   clear hmem
   generalize rd_T44 l0 (i : Int) = px at h0 h1 h2 h3 h4 h5 h6 h7 h8 h9 h10 LP GP hdl hk0 hk1
   obtain ⟨kd, ⟨⟨⟨⟨v0, v1, v2, v3⟩, dc⟩, oo⟩, ps, ow⟩, nn, mm⟩ := px
   simp only at h0 h1 h2 h3 h4 h5 h6 h7 h8 h9 h10 LP GP hdl hk0 hk1
   have HDL := Aside0.mk hdl
   have HGD := Aside0.mk hgd
   obtain ⟨z, hz⟩ : ∃ z_ : Int, Int.tmod kd 8 = z_ := ⟨_, rfl⟩
   have hz8 : 0 ≤ z ∧ z < 8 := by
    rw [Int.tmod_eq_emod_of_nonneg hk0] at hz
    omega
   have HZ := Aside0.mk hz8
   have HI50 := Aside0.mk d2
   have HIL := Aside0.mk c1.1
   clear hdl hgd hk0 hk1 hz8
   rcases (show (z = 4 ∨ z = 5 ∨ z = 6) ∨ z = 7 ∨ z < 4 by have := HZ.out; omega) with hzz | hzz | hzz
   ·rcases hzz with rfl | rfl | rfl
    all_goals
     go_wp2_with (first
      | (go_at_call 13; (with_reducible refine (Go.Proofs.Ytoagfdpgnfinhaa.So.o_ack w _ (Go.Proofs.Ytoagfdpgnfinhaa.So.Inv.below HV.out (below_alloc (Below.refl _ _) _)) _ _ _ rfl rfl).mono ?_); rintro e_ w4 ⟨rfl, hv⟩; have HV4 := Aside0.mk hv; clear hv)
      | (go_at_call 14; (with_reducible refine (Go.Proofs.Ytoagfdpgnfinhaa.So.x_ack w _ HV4.out _ _ _ rfl rfl).mono ?_); rintro e_ wz ⟨rfl, hv⟩; rw [List.length_map] at hv ⊢; obtain ⟨az, hv2⟩ : ∃ x_ : Nat, Go.Proofs.Ytoagfdpgnfinhaa.So.Inv w wz g4 g5 ts x_ (ts.map tenementlaw15_StreamOuts.rt) x_ := ⟨_, hv⟩; have HVz := Aside0.mk hv2; clear hv hv2))
     all_goals
      as_aux_lemma =>
       have HTz : Aside0 (ts.length ≤ i + 1) := ⟨by have := HTL.out; omega⟩
       have HGz := HG
       generalize ts = tz at HVz HTz HGz
       have e2 : IntKind.u64.wrap (tz.length : Int) = (tz.length : Int) := Go.Proofs.Ytoagfdpgnfinhaa.So.w64 (by omega) (by have := HTz.out; have := HI50.out; omega)
       replace HVz := Aside0.mk (Go.Proofs.Ytoagfdpgnfinhaa.So.Inv.below HVz.out (below_drew1 (Below.refl _ _)))
       obtain ⟨A5, c5, hx0, hx1⟩ := Go.Proofs.Ytoagfdpgnfinhaa.So.cellsX HVz.out
       rw [List.length_map] at hx0
       refine start_ (n := 22) (S := fun w' => w'.cell? ⟨g5, 0, none⟩ = some (.slice A5 tz.length c5) ∧ w'.cell? ⟨g5, 1, none⟩ = some (.int .u64 (az : Int))) (ds := []) (mB_ 22 0) (by kernel_rfl) rfl rfl ⟨hx0, hx1⟩ (fun hHeld => ?_)
       clear hx0 hx1
       generalize wz.drew = wx at HVz hHeld ⊢
       refine Kp_ 0 108 (mB_ 22 1) (by kernel_rfl) ?_
       refine Kp_ 1 109 (mB_ 22 3) (by kernel_rfl) ?_
       refine Kp_ 2 110 (mB_ 22 7) (by kernel_rfl) ?_
       refine Kp_ 3 111 (mB_ 22 15) (by kernel_rfl) ?_
       refine Kp_ 5 113 (mB_ 22 47) (by kernel_rfl) ?_
       refine Kp_ 6 114 (mB_ 22 111) (by kernel_rfl) ?_
       refine Kp_ 7 115 (mB_ 22 239) (by kernel_rfl) ?_
       refine Ko_ 8 116 (mB_ 22 495) (by kernel_rfl) hHeld ?_
       refine one_ (i := 4) (N := some 112) (mB_ 22 511) rfl rfl (by kernel_rfl) (by decide) (fun K hK => ?_)
       refine goes_ Try.func22 (by kernel_rfl) rfl #[.pointer (some ⟨g4, 0, none⟩)] (by rfl) rfl rfl (by (try simp only [List.map_toArray, List.map_cons, List.map_nil]); first | done | rfl | simp [Act.eval, Act.put]) ?_
       refine (Go.Proofs.Ytoagfdpgnfinhaa.So.o_acked w _ HVz.out).mono ?_
       rintro e_ wy ⟨rfl, hb⟩
       refine ⟨_, rfl, ?_⟩
       have hc0 := (hb.cell (World.block_lt_of_cell? _ _ hHeld.1)).trans hHeld.1
       have hc1 := (hb.cell (World.block_lt_of_cell? _ _ hHeld.2)).trans hHeld.2
       replace HVz := Aside0.mk (Go.Proofs.Ytoagfdpgnfinhaa.So.Inv.below HVz.out hb)
       clear hb hHeld
       refine hK.out _ _ ⟨hc0, hc1⟩ (fun hHeld => ?_)
       clear hK K
       refine Kn_ 112 ?_
       refine Kp_ 9 117 (mB_ 22 1023) (by kernel_rfl) ?_
       refine Kp_ 10 118 (mB_ 22 2047) (by kernel_rfl) ?_
       refine Kp_ 11 119 (mB_ 22 4095) (by kernel_rfl) ?_
       refine Kp_ 12 120 (mB_ 22 8191) (by kernel_rfl) ?_
       refine Kp_ 14 122 (mB_ 22 24575) (by kernel_rfl) ?_
       refine Kp_ 15 123 (mB_ 22 57343) (by kernel_rfl) ?_
       refine Kp_ 16 124 (mB_ 22 122879) (by kernel_rfl) ?_
       refine Ko_ 17 125 (mB_ 22 253951) (by kernel_rfl) hHeld ?_
       refine Kp_ 18 126 (mB_ 22 516095) (by kernel_rfl) ?_
       refine Kp_ 19 127 (mB_ 22 1040383) (by kernel_rfl) ?_
       refine one_ (i := 13) (N := some 121) (mB_ 22 1048575) rfl rfl (by kernel_rfl) (by decide) (fun K hK => ?_)
       refine goes_ Try.func23 (by kernel_rfl) rfl #[.pointer (some ⟨g4, 0, none⟩)] (by rfl) rfl rfl (by (try simp only [List.map_toArray, List.map_cons, List.map_nil]); first | done | rfl | simp [Act.eval, Act.put]) ?_
       refine (Go.Proofs.Ytoagfdpgnfinhaa.So.o_last w _ HVz.out).mono ?_
       rintro e_ wz ⟨rfl, hb⟩
       refine ⟨_, rfl, ?_⟩
       have hc0 := (hb.cell (World.block_lt_of_cell? _ _ hHeld.1)).trans hHeld.1
       have hc1 := (hb.cell (World.block_lt_of_cell? _ _ hHeld.2)).trans hHeld.2
       replace HVz := Aside0.mk (Go.Proofs.Ytoagfdpgnfinhaa.So.Inv.below HVz.out hb)
       clear hb hHeld
       refine hK.out _ _ ⟨hc0, hc1⟩ (fun hHeld => ?_)
       clear hK K
       refine Kn_ 121 ?_
       refine Kp_ 20 128 (mB_ 22 2097151) (by kernel_rfl) ?_
       refine Kp_ 21 129 (mB_ 22 4194303) (by kernel_rfl) ?_
       refine done_ (by kernel_rfl) ?_
       clear hHeld
       go_wp2
       go_roundg (l0.length - (i + 1))
       case measure => have := HK.out; have := HIL.out; omega
       case rel => exact ⟨i + 1, tz, az, by first | rfl | (rw [show ((i + 1 : Nat) : Int) = (i : Int) + 1 by omega]; rfl) | (rw [show ((i + 1 : Nat) : Int) = (i : Int) + 1 by omega]; congr 1; exact Go.Proofs.Ytoagfdpgnfinhaa.So.wrap64_id (by omega) (by omega)), ⟨by have := HI50.out; omega⟩, ⟨by omega⟩, HTz, HGz, HVz⟩
   ·subst hzz
    go_wp2_with (first
     | (go_at_call 15; (with_reducible refine (Go.Proofs.Ytoagfdpgnfinhaa.So.o_rest w _ (Go.Proofs.Ytoagfdpgnfinhaa.So.Inv.below HV.out (below_alloc (Below.refl _ _) _)) _).mono ?_); rintro e_ w4 ⟨ys, A1, c1, hys, rfl, hl, hC, hv⟩; have HV4 := Aside0.mk hv; have HYS := Aside0.mk hys; have HL1 := Aside0.mk hl; have HC1 := Aside0.mk hC; clear hv hys hl hC)
     | (go_at_call 16; (with_reducible refine (Go.Proofs.Ytoagfdpgnfinhaa.So.x_rest w _ HV4.out _).mono ?_); rintro e_ w5 ⟨ys2, A2, c2, hy2, rfl, hl, hC, hv, hb⟩; have HBR := Aside0.mk hb; clear hb; rw [← List.map_drop, ← List.map_take, ← HYS.out] at hy2; subst hy2; rw [List.length_map] at hl hC ⊢; have HV5 := Aside0.mk hv; have HL2 := Aside0.mk hl; have HC2 := Aside0.mk hC; clear hv hl hC))
    all_goals
     clear h0 h1 h2 h3 h4 h5 h6 h7 h8 h9 h10
     go_loopg [10, 13] ys.length (fun kq v10 v13 wr => ∃ j : Nat, v13 = .int .i64 j ∧ v10 = .bool true ∧ Aside0 (j ≤ ys.length) ∧ Aside0 (ys.length - j ≤ kq) ∧ Aside0 (Go.Proofs.Ytoagfdpgnfinhaa.So.Inv w wr g4 g5 ts a (ts.map tenementlaw15_StreamOuts.rt) a) ∧ Aside0 (Kd.C k33 wr A1 ys.length ys) ∧ Aside0 (Kd.C k55 wr A2 ys.length (ys.map tenementlaw15_StreamOuts.rt)))
     case atStart => exact ⟨0, rfl, by first | rfl | simp, ⟨by omega⟩, ⟨by omega⟩, HV5, ⟨Kd.C_below HC1.out HBR.out⟩, HC2⟩
     case round =>
      clear HV HV4 HV5 HC1 HC2 HBR
      obtain ⟨j, rfl, rfl, HJ, HJK, HV, HC1, HC2⟩ := hrel
      by_cases b1 : j < ys.length
      ·as_aux_lemma =>
        have b1b : decide ((j : Int) < (ys.length : Int)) = true := decide_eq_true (by omega)
        have b0b : decide (0 ≤ (j : Int)) = true := decide_eq_true (by omega)
        have HJ1 := Aside0.mk b1
        have hy9 : ys.length ≤ 100 := by rw [HYS.out, List.length_take, List.length_drop]; have := HTL.out; have := HI50.out; omega
        have HTS : Aside0 (tenementlaw15_StreamOuts.good k (rd_T33 ys (j : Int))) := ⟨by
         refine HG.out _ ?_
         unfold rd_T33
         rw [Int.toNat_natCast, List.getD_eq_getElem?_getD, List.getElem?_eq_getElem b1, Option.getD_some]
         obtain ⟨y_, hy_⟩ : ∃ y_, y_ = ys[j] := ⟨_, rfl⟩
         have hm : y_ ∈ ys := by rw [hy_]; exact List.getElem_mem _
         rw [← hy_]
         rw [HYS.out] at hm
         exact List.mem_of_mem_drop (List.mem_of_mem_take hm)⟩
        have hrd : rd_T55 (ys.map tenementlaw15_StreamOuts.rt) (j : Int) = tenementlaw15_StreamOuts.rt (rd_T33 ys (j : Int)) := by
         unfold rd_T55 rd_T33
         rw [Int.toNat_natCast, List.getD_eq_getElem?_getD, List.getD_eq_getElem?_getD, List.getElem?_map, List.getElem?_eq_getElem b1]
         rfl
        go_wp2
        replace HV := Aside0.mk (Go.Proofs.Ytoagfdpgnfinhaa.So.Inv.below HV.out (below_drew1 (Below.refl _ _)))
        replace HC1 := Aside0.mk (Kd.C_drew HC1.out)
        replace HC2 := Aside0.mk (Kd.C_drew HC2.out)
        obtain ⟨a1_, Aw, cw, e1, p0, p1, p2, p3, p4, p5, lw, gw⟩ := at_T33 HC1.out (j : Int) (by omega) (by omega)
        cases e1
        obtain ⟨a2_, Ar, cr, e1, r0, r1, r2, r3, r4, r5, lr, gr⟩ := at_T55 HC2.out (j : Int) (by omega) (by omega)
        cases e1
        rw [hrd] at r0 r1 r2 r3 r4 r5 lr gr
        simp only [Int.toNat_natCast] at p0 r0 p1 r1 p2 r2 p3 r3 p4 r4 p5 r5
        clear hrd
        generalize rd_T33 ys (j : Int) = y at HTS p0 r0 p1 r1 p2 r2 p3 r3 p4 r4 p5 r5 lw gw lr gr
        obtain ⟨⟨⟨y0, y1, y2, y3⟩, y4⟩, y5⟩ := y
        obtain ⟨hrf, hsa⟩ := HTS.out
        have HRF : Aside0 (tenementlaw15_refTxn.f k y0 y1 y2 y3 y4 y5 = some (y0, y1, y2, y3, y4, y5.map tenementlaw15_StreamOuts.rw_)) := ⟨hrf⟩
        have HSA : Aside0 (tenementref08_Same.f k y0 y1 y2 y3 y4 (y5.map tenementlaw15_StreamOuts.rw_) y0 y1 y2 y3 y4 (y5.map tenementlaw15_StreamOuts.rw_) = some true) := ⟨hsa⟩
        have LW : Aside0 (y5.length ≤ cw) := ⟨lw⟩
        have GW : Aside0 (Kd.C k107 _ Aw y5.length y5) := ⟨gw⟩
        have LR : Aside0 ((y5.map tenementlaw15_StreamOuts.rw_).length ≤ cr) := ⟨lr⟩
        have GR : Aside0 (Kd.C k117 _ Ar (y5.map tenementlaw15_StreamOuts.rw_).length (y5.map tenementlaw15_StreamOuts.rw_)) := ⟨gr⟩
        refine start_ (n := 11) (S := fun w' => w'.cell? (a1_.add (j * 6)) = some (.int .u64 y0) ∧ w'.cell? ⟨(a1_.add (j * 6)).block, (a1_.add (j * 6)).off + 1, none⟩ = some (.int .u64 y1) ∧ w'.cell? ⟨(a1_.add (j * 6)).block, (a1_.add (j * 6)).off + 2, none⟩ = some (.int .u64 y2) ∧ w'.cell? ⟨(a1_.add (j * 6)).block, (a1_.add (j * 6)).off + 3, none⟩ = some (.int .u64 y3) ∧ w'.cell? ⟨(a1_.add (j * 6)).block, (a1_.add (j * 6)).off + 4, none⟩ = some (.int .i64 y4) ∧ w'.cell? ⟨(a1_.add (j * 6)).block, (a1_.add (j * 6)).off + 5, none⟩ = some (.slice Aw y5.length cw) ∧ w'.cell? (a2_.add (j * 6)) = some (.int .u64 y0) ∧ w'.cell? ⟨(a2_.add (j * 6)).block, (a2_.add (j * 6)).off + 1, none⟩ = some (.int .u64 y1) ∧ w'.cell? ⟨(a2_.add (j * 6)).block, (a2_.add (j * 6)).off + 2, none⟩ = some (.int .u64 y2) ∧ w'.cell? ⟨(a2_.add (j * 6)).block, (a2_.add (j * 6)).off + 3, none⟩ = some (.int .u64 y3) ∧ w'.cell? ⟨(a2_.add (j * 6)).block, (a2_.add (j * 6)).off + 4, none⟩ = some (.int .i64 y4) ∧ w'.cell? ⟨(a2_.add (j * 6)).block, (a2_.add (j * 6)).off + 5, none⟩ = some (.slice Ar (y5.map tenementlaw15_StreamOuts.rw_).length cr)) (ds := []) (mB_ 11 0) (by kernel_rfl) rfl rfl ⟨p0, p1, p2, p3, p4, p5, r0, r1, r2, r3, r4, r5⟩ (fun hHeld => ?_)
        clear p0 r0 p1 r1 p2 r2 p3 r3 p4 r4 p5 r5 hrf hsa lw gw lr gr HTS
        generalize wr.drew = wx at HV HC1 HC2 GW GR hHeld ⊢
        refine Kp_ 0 98 (mB_ 11 1) (by kernel_rfl) ?_
        refine Kp_ 1 99 (mB_ 11 3) (by kernel_rfl) ?_
        refine Kp_ 2 100 (mB_ 11 7) (by kernel_rfl) ?_
        refine Ko_ 3 101 (mB_ 11 15) (by kernel_rfl) hHeld ?_
        refine Kp_ 5 103 (mB_ 11 47) (by kernel_rfl) ?_
        refine Kp_ 6 104 (mB_ 11 111) (by kernel_rfl) ?_
        refine Kp_ 7 105 (mB_ 11 239) (by kernel_rfl) ?_
        refine Ko_ 8 106 (mB_ 11 495) (by kernel_rfl) hHeld ?_
        refine one_ (i := 4) (N := some 102) (mB_ 11 511) rfl rfl (by kernel_rfl) (by decide) (fun K hK => ?_)
        refine goes_ Try.func18 (by kernel_rfl) rfl #[.agg #[.int .u64 y0, .int .u64 y1, .int .u64 y2, .int .u64 y3, .int .i64 y4, .slice Aw y5.length cw]] (by rfl) rfl rfl (by (try simp only [List.map_toArray, List.map_cons, List.map_nil]); first | done | rfl | simp [Act.eval, Act.put]) ?_
        refine (tenementlaw15_refTxn.calls k y0 y1 y2 y3 y4 Aw cw y5 y0 y1 y2 y3 y4 (y5.map tenementlaw15_StreamOuts.rw_) _ ?s1 LW.out HRF.out).mono ?_
        (case s1 => exact GW.out)
        rintro e_ wy ⟨vr, rfl, hR, hb⟩
        refine ⟨_, rfl, ?_⟩
        obtain ⟨Av, cv, ev_⟩ := Kd.R_slice hR
        subst ev_
        have HRV := Aside0.mk (Kd.R_reads' hR).2
        have hc0 := (hb.cell (World.block_lt_of_cell? _ _ hHeld.1)).trans hHeld.1
        have hc1 := (hb.cell (World.block_lt_of_cell? _ _ hHeld.2.1)).trans hHeld.2.1
        have hc2 := (hb.cell (World.block_lt_of_cell? _ _ hHeld.2.2.1)).trans hHeld.2.2.1
        have hc3 := (hb.cell (World.block_lt_of_cell? _ _ hHeld.2.2.2.1)).trans hHeld.2.2.2.1
        have hc4 := (hb.cell (World.block_lt_of_cell? _ _ hHeld.2.2.2.2.1)).trans hHeld.2.2.2.2.1
        have hc5 := (hb.cell (World.block_lt_of_cell? _ _ hHeld.2.2.2.2.2.1)).trans hHeld.2.2.2.2.2.1
        have hc6 := (hb.cell (World.block_lt_of_cell? _ _ hHeld.2.2.2.2.2.2.1)).trans hHeld.2.2.2.2.2.2.1
        have hc7 := (hb.cell (World.block_lt_of_cell? _ _ hHeld.2.2.2.2.2.2.2.1)).trans hHeld.2.2.2.2.2.2.2.1
        have hc8 := (hb.cell (World.block_lt_of_cell? _ _ hHeld.2.2.2.2.2.2.2.2.1)).trans hHeld.2.2.2.2.2.2.2.2.1
        have hc9 := (hb.cell (World.block_lt_of_cell? _ _ hHeld.2.2.2.2.2.2.2.2.2.1)).trans hHeld.2.2.2.2.2.2.2.2.2.1
        have hc10 := (hb.cell (World.block_lt_of_cell? _ _ hHeld.2.2.2.2.2.2.2.2.2.2.1)).trans hHeld.2.2.2.2.2.2.2.2.2.2.1
        have hc11 := (hb.cell (World.block_lt_of_cell? _ _ hHeld.2.2.2.2.2.2.2.2.2.2.2)).trans hHeld.2.2.2.2.2.2.2.2.2.2.2
        replace HV := Aside0.mk (Go.Proofs.Ytoagfdpgnfinhaa.So.Inv.below HV.out hb)
        replace HC1 := Aside0.mk (Kd.C_below HC1.out hb)
        replace HC2 := Aside0.mk (Kd.C_below HC2.out hb)
        replace GR := Aside0.mk (Kd.C_below GR.out hb)
        clear hb hR hHeld GW
        refine hK.out _ _ ⟨hc0, hc1, hc2, hc3, hc4, hc5, hc6, hc7, hc8, hc9, hc10, hc11⟩ (fun hHeld => ?_)
        clear hK K
        refine Kn_ 102 ?_
        clear hc0 hc1 hc2 hc3 hc4 hc5 hc6 hc7 hc8 hc9 hc10 hc11
        refine one_ (i := 9) (N := some 107) (mB_ 11 1023) rfl rfl (by kernel_rfl) (by decide) (fun K hK => ?_)
        refine goes_ Try.func17 (by kernel_rfl) rfl #[.agg #[.int .u64 y0, .int .u64 y1, .int .u64 y2, .int .u64 y3, .int .i64 y4, .slice Av (y5.map tenementlaw15_StreamOuts.rw_).length cv], .agg #[.int .u64 y0, .int .u64 y1, .int .u64 y2, .int .u64 y3, .int .i64 y4, .slice Ar (y5.map tenementlaw15_StreamOuts.rw_).length cr]] (by rfl) rfl rfl (by (try simp only [List.map_toArray, List.map_cons, List.map_nil]); first | done | rfl | simp [Act.eval, Act.put]) ?_
        refine (tenementref08_Same.calls k y0 y1 y2 y3 y4 Av cv (y5.map tenementlaw15_StreamOuts.rw_) y0 y1 y2 y3 y4 Ar cr (y5.map tenementlaw15_StreamOuts.rw_) true _ ?s1 HRV.out.1 ?s3 LR.out HSA.out).mono ?_
        (case s1 => exact HRV.out.2)
        (case s3 => exact GR.out)
        rintro e_ wq ⟨rfl, hb⟩
        refine ⟨_, rfl, ?_⟩
        have hc0 := (hb.cell (World.block_lt_of_cell? _ _ hHeld.1)).trans hHeld.1
        have hc1 := (hb.cell (World.block_lt_of_cell? _ _ hHeld.2.1)).trans hHeld.2.1
        have hc2 := (hb.cell (World.block_lt_of_cell? _ _ hHeld.2.2.1)).trans hHeld.2.2.1
        have hc3 := (hb.cell (World.block_lt_of_cell? _ _ hHeld.2.2.2.1)).trans hHeld.2.2.2.1
        have hc4 := (hb.cell (World.block_lt_of_cell? _ _ hHeld.2.2.2.2.1)).trans hHeld.2.2.2.2.1
        have hc5 := (hb.cell (World.block_lt_of_cell? _ _ hHeld.2.2.2.2.2.1)).trans hHeld.2.2.2.2.2.1
        have hc6 := (hb.cell (World.block_lt_of_cell? _ _ hHeld.2.2.2.2.2.2.1)).trans hHeld.2.2.2.2.2.2.1
        have hc7 := (hb.cell (World.block_lt_of_cell? _ _ hHeld.2.2.2.2.2.2.2.1)).trans hHeld.2.2.2.2.2.2.2.1
        have hc8 := (hb.cell (World.block_lt_of_cell? _ _ hHeld.2.2.2.2.2.2.2.2.1)).trans hHeld.2.2.2.2.2.2.2.2.1
        have hc9 := (hb.cell (World.block_lt_of_cell? _ _ hHeld.2.2.2.2.2.2.2.2.2.1)).trans hHeld.2.2.2.2.2.2.2.2.2.1
        have hc10 := (hb.cell (World.block_lt_of_cell? _ _ hHeld.2.2.2.2.2.2.2.2.2.2.1)).trans hHeld.2.2.2.2.2.2.2.2.2.2.1
        have hc11 := (hb.cell (World.block_lt_of_cell? _ _ hHeld.2.2.2.2.2.2.2.2.2.2.2)).trans hHeld.2.2.2.2.2.2.2.2.2.2.2
        replace HV := Aside0.mk (Go.Proofs.Ytoagfdpgnfinhaa.So.Inv.below HV.out hb)
        replace HC1 := Aside0.mk (Kd.C_below HC1.out hb)
        replace HC2 := Aside0.mk (Kd.C_below HC2.out hb)
        clear hb hHeld GR HRV
        refine hK.out _ _ ⟨hc0, hc1, hc2, hc3, hc4, hc5, hc6, hc7, hc8, hc9, hc10, hc11⟩ (fun hHeld => ?_)
        clear hK K
        refine Kn_ 107 ?_
        clear hc0 hc1 hc2 hc3 hc4 hc5 hc6 hc7 hc8 hc9 hc10 hc11
        refine Kp_ 10 10 (mB_ 11 2047) (by kernel_rfl) ?_
        refine done_ (by kernel_rfl) ?_
        clear hHeld
        go_wp2
        go_roundg (ys.length - (j + 1))
        case measure => have := HJK.out; omega
        case rel => exact ⟨j + 1, by first | rfl | (rw [show ((j + 1 : Nat) : Int) = (j : Int) + 1 by omega]; rfl) | (rw [show ((j + 1 : Nat) : Int) = (j : Int) + 1 by omega]; congr 1; exact Go.Proofs.Ytoagfdpgnfinhaa.So.wrap64_id (by omega) (by omega)), by first | rfl | simp, ⟨by have := HJ1.out; omega⟩, ⟨by omega⟩, HV, HC1, HC2⟩
      ·have b1b : decide ((j : Int) < (ys.length : Int)) = false := decide_eq_false (by omega)
       go_wp2
       have HVz := HV
       obtain ⟨az, haz⟩ : ∃ x_ : Nat, x_ = a := ⟨_, rfl⟩
       subst haz
       have HTz : Aside0 (ts.length ≤ i + 1) := ⟨by have := HTL.out; omega⟩
       have HGz := HG
       generalize ts = tz at HVz HTz HGz
       generalize hwz : wr = wz at HVz ⊢
       as_aux_lemma =>
        have e2 : IntKind.u64.wrap (tz.length : Int) = (tz.length : Int) := Go.Proofs.Ytoagfdpgnfinhaa.So.w64 (by omega) (by have := HTz.out; have := HI50.out; omega)
        replace HVz := Aside0.mk (Go.Proofs.Ytoagfdpgnfinhaa.So.Inv.below HVz.out (below_drew1 (Below.refl _ _)))
        obtain ⟨A5, c5, hx0, hx1⟩ := Go.Proofs.Ytoagfdpgnfinhaa.So.cellsX HVz.out
        rw [List.length_map] at hx0
        refine start_ (n := 22) (S := fun w' => w'.cell? ⟨g5, 0, none⟩ = some (.slice A5 tz.length c5) ∧ w'.cell? ⟨g5, 1, none⟩ = some (.int .u64 (az : Int))) (ds := []) (mB_ 22 0) (by kernel_rfl) rfl rfl ⟨hx0, hx1⟩ (fun hHeld => ?_)
        clear hx0 hx1
        generalize wz.drew = wx at HVz hHeld ⊢
        refine Kp_ 0 108 (mB_ 22 1) (by kernel_rfl) ?_
        refine Kp_ 1 109 (mB_ 22 3) (by kernel_rfl) ?_
        refine Kp_ 2 110 (mB_ 22 7) (by kernel_rfl) ?_
        refine Kp_ 3 111 (mB_ 22 15) (by kernel_rfl) ?_
        refine Kp_ 5 113 (mB_ 22 47) (by kernel_rfl) ?_
        refine Kp_ 6 114 (mB_ 22 111) (by kernel_rfl) ?_
        refine Kp_ 7 115 (mB_ 22 239) (by kernel_rfl) ?_
        refine Ko_ 8 116 (mB_ 22 495) (by kernel_rfl) hHeld ?_
        refine one_ (i := 4) (N := some 112) (mB_ 22 511) rfl rfl (by kernel_rfl) (by decide) (fun K hK => ?_)
        refine goes_ Try.func22 (by kernel_rfl) rfl #[.pointer (some ⟨g4, 0, none⟩)] (by rfl) rfl rfl (by (try simp only [List.map_toArray, List.map_cons, List.map_nil]); first | done | rfl | simp [Act.eval, Act.put]) ?_
        refine (Go.Proofs.Ytoagfdpgnfinhaa.So.o_acked w _ HVz.out).mono ?_
        rintro e_ wy ⟨rfl, hb⟩
        refine ⟨_, rfl, ?_⟩
        have hc0 := (hb.cell (World.block_lt_of_cell? _ _ hHeld.1)).trans hHeld.1
        have hc1 := (hb.cell (World.block_lt_of_cell? _ _ hHeld.2)).trans hHeld.2
        replace HVz := Aside0.mk (Go.Proofs.Ytoagfdpgnfinhaa.So.Inv.below HVz.out hb)
        clear hb hHeld
        refine hK.out _ _ ⟨hc0, hc1⟩ (fun hHeld => ?_)
        clear hK K
        refine Kn_ 112 ?_
        refine Kp_ 9 117 (mB_ 22 1023) (by kernel_rfl) ?_
        refine Kp_ 10 118 (mB_ 22 2047) (by kernel_rfl) ?_
        refine Kp_ 11 119 (mB_ 22 4095) (by kernel_rfl) ?_
        refine Kp_ 12 120 (mB_ 22 8191) (by kernel_rfl) ?_
        refine Kp_ 14 122 (mB_ 22 24575) (by kernel_rfl) ?_
        refine Kp_ 15 123 (mB_ 22 57343) (by kernel_rfl) ?_
        refine Kp_ 16 124 (mB_ 22 122879) (by kernel_rfl) ?_
        refine Ko_ 17 125 (mB_ 22 253951) (by kernel_rfl) hHeld ?_
        refine Kp_ 18 126 (mB_ 22 516095) (by kernel_rfl) ?_
        refine Kp_ 19 127 (mB_ 22 1040383) (by kernel_rfl) ?_
        refine one_ (i := 13) (N := some 121) (mB_ 22 1048575) rfl rfl (by kernel_rfl) (by decide) (fun K hK => ?_)
        refine goes_ Try.func23 (by kernel_rfl) rfl #[.pointer (some ⟨g4, 0, none⟩)] (by rfl) rfl rfl (by (try simp only [List.map_toArray, List.map_cons, List.map_nil]); first | done | rfl | simp [Act.eval, Act.put]) ?_
        refine (Go.Proofs.Ytoagfdpgnfinhaa.So.o_last w _ HVz.out).mono ?_
        rintro e_ wz ⟨rfl, hb⟩
        refine ⟨_, rfl, ?_⟩
        have hc0 := (hb.cell (World.block_lt_of_cell? _ _ hHeld.1)).trans hHeld.1
        have hc1 := (hb.cell (World.block_lt_of_cell? _ _ hHeld.2)).trans hHeld.2
        replace HVz := Aside0.mk (Go.Proofs.Ytoagfdpgnfinhaa.So.Inv.below HVz.out hb)
        clear hb hHeld
        refine hK.out _ _ ⟨hc0, hc1⟩ (fun hHeld => ?_)
        clear hK K
        refine Kn_ 121 ?_
        refine Kp_ 20 128 (mB_ 22 2097151) (by kernel_rfl) ?_
        refine Kp_ 21 129 (mB_ 22 4194303) (by kernel_rfl) ?_
        refine done_ (by kernel_rfl) ?_
        clear hHeld
        go_wp2
        go_roundg (l0.length - (i + 1))
        case measure => have := HK.out; have := HIL.out; omega
        case rel => exact ⟨i + 1, tz, az, by first | rfl | (rw [show ((i + 1 : Nat) : Int) = (i : Int) + 1 by omega]; rfl) | (rw [show ((i + 1 : Nat) : Int) = (i : Int) + 1 by omega]; congr 1; exact Go.Proofs.Ytoagfdpgnfinhaa.So.wrap64_id (by omega) (by omega)), ⟨by have := HI50.out; omega⟩, ⟨by omega⟩, HTz, HGz, HVz⟩
   ·have z4 : (z == 4) = false := beq_eq_false_iff_ne.mpr (by omega)
    have z5 : (z == 5) = false := beq_eq_false_iff_ne.mpr (by omega)
    have z6 : (z == 6) = false := beq_eq_false_iff_ne.mpr (by omega)
    have z7 : (z == 7) = false := beq_eq_false_iff_ne.mpr (by omega)
    clear hzz
    go_wp2_with (first
     | ((with_reducible refine gate_dst (N := 56) rfl ?_); refine Kg_ (some 56) rfl rfl Try.func19 (by kernel_rfl) rfl #[.agg #[.int .u64 v0, .int .u64 v1, .int .u64 v2, .int .u64 v3, .int .i64 dc, .bool oo, .slice Ap ps.length cp, .bool ow]] rfl ?_; (with_reducible refine (tenementlaw15_Deal_deal.calls k v0 v1 v2 v3 dc oo Ap cp ps ow q0 q1 q2 q3 q4 q5 _ ?s1 LP ?s2).mono ?_); (case s1 => exact Kd.C_alloc GP.out _); (case s2 => exact HDL.out); rintro e_ wd ⟨vq, rfl, hR, hb⟩; refine ⟨_, rfl, ?_⟩; obtain ⟨Aq, cq, eq_⟩ := Kd.R_slice hR; subst eq_; have HVd := Aside0.mk (Go.Proofs.Ytoagfdpgnfinhaa.So.Inv.below HV.out (below_step (below_alloc (Below.refl _ _) _) hb)); have HRd := Aside0.mk (Kd.R_lower hR (Nat.le_trans HB.out.size (below_size (below_alloc (Below.refl _ _) _)))); clear hb hR))
    all_goals
     clear h0 h1 h2 h3 h4 h5 h6 h7 h8 h9 h10
     have BK14 : Aside0 ((wd.alloc (Obj.cells #[.int .u64 q0, .int .u64 q1, .int .u64 q2, .int .u64 q3, .int .i64 q4, .slice Aq q5.length cq] 33)).heap[wd.heap.size]? = some (.cells #[.int .u64 q0, .int .u64 q1, .int .u64 q2, .int .u64 q3, .int .i64 q4, .slice Aq q5.length cq] 33 (0, 0))) := ⟨blk_new wd _⟩
     have HNE : Aside0 (wd.heap.size ≠ g4 ∧ wd.heap.size ≠ g5 ∧ ∀ v n, Go.Proofs.Ytoagfdpgnfinhaa.So.St wd g4 n v → some wd.heap.size ≠ v.ownBlock) := ⟨by have := (Go.Proofs.Ytoagfdpgnfinhaa.So.Inv.lt HVd.out).1; omega, by have := (Go.Proofs.Ytoagfdpgnfinhaa.So.Inv.lt HVd.out).2; omega, fun v n h e => by have := Go.Proofs.Ytoagfdpgnfinhaa.So.Inv.own HVd.out v n h _ e.symm; omega⟩
     have HNE : Aside0 (wd.heap.size ≠ g4 ∧ wd.heap.size ≠ g5 ∧ ∀ v n, Go.Proofs.Ytoagfdpgnfinhaa.So.St (wd.alloc (Obj.cells #[.int .u64 q0, .int .u64 q1, .int .u64 q2, .int .u64 q3, .int .i64 q4, .slice Aq q5.length cq] 33)) g4 n v → some wd.heap.size ≠ v.ownBlock) := ⟨HNE.out.1, HNE.out.2.1, fun v n h => HNE.out.2.2 v n (by
      have hlt := (Go.Proofs.Ytoagfdpgnfinhaa.So.Inv.lt HVd.out).1
      have h' : (wd.alloc (Obj.cells #[.int .u64 q0, .int .u64 q1, .int .u64 q2, .int .u64 q3, .int .i64 q4, .slice Aq q5.length cq] 33)).heap[g4]? = _ := h
      exact ((below_alloc (Below.refl wd.heap.size wd) _).block g4 hlt).symm.trans h')⟩
     replace HVd := Aside0.mk (Go.Proofs.Ytoagfdpgnfinhaa.So.Inv.below HVd.out (below_alloc (Below.refl _ _) (Obj.cells #[.int .u64 q0, .int .u64 q1, .int .u64 q2, .int .u64 q3, .int .i64 q4, .slice Aq q5.length cq] 33)))
     replace HRd := Aside0.mk (Kd.R_below HRd.out (below_alloc (Below.refl _ _) (Obj.cells #[.int .u64 q0, .int .u64 q1, .int .u64 q2, .int .u64 q3, .int .i64 q4, .slice Aq q5.length cq] 33)))
     generalize wd.alloc (Obj.cells #[.int .u64 q0, .int .u64 q1, .int .u64 q2, .int .u64 q3, .int .i64 q4, .slice Aq q5.length cq] 33) = we at BK14 HNE HVd HRd ⊢
     generalize wd.heap.size = g14 at BK14 HNE ⊢
     replace BK14 := Aside0.mk (blk_drew BK14.out)
     replace HNE : Aside0 (g14 ≠ g4 ∧ g14 ≠ g5 ∧ ∀ v n, Go.Proofs.Ytoagfdpgnfinhaa.So.St we.drew g4 n v → some g14 ≠ v.ownBlock) := ⟨HNE.out.1, HNE.out.2.1, fun v n h => HNE.out.2.2 v n h⟩
     replace HVd := Aside0.mk (Go.Proofs.Ytoagfdpgnfinhaa.So.Inv.below HVd.out (below_drew1 (Below.refl _ _)))
     replace HRd := Aside0.mk (Kd.R_below HRd.out (below_drew1 (Below.refl _ _)))
     have HRFq : Aside0 (tenementlaw15_refTxn.f k q0 q1 q2 q3 q4 q5 = some (q0, q1, q2, q3, q4, q5.map tenementlaw15_StreamOuts.rw_)) := ⟨HGD.out.1⟩
     refine start_ (n := 9) (S := fun w' => w'.cell? ⟨g14, 0, none⟩ = some (.int .u64 q0) ∧ w'.cell? ⟨g14, 1, none⟩ = some (.int .u64 q1) ∧ w'.cell? ⟨g14, 2, none⟩ = some (.int .u64 q2) ∧ w'.cell? ⟨g14, 3, none⟩ = some (.int .u64 q3) ∧ w'.cell? ⟨g14, 4, none⟩ = some (.int .i64 q4) ∧ w'.cell? ⟨g14, 5, none⟩ = some (.slice Aq q5.length cq)) (ds := []) (mB_ 9 0) (by kernel_rfl) rfl rfl ⟨(blk_cell BK14.out 0).trans rfl, (blk_cell BK14.out 1).trans rfl, (blk_cell BK14.out 2).trans rfl, (blk_cell BK14.out 3).trans rfl, (blk_cell BK14.out 4).trans rfl, (blk_cell BK14.out 5).trans rfl⟩ (fun hHeld => ?_)
     generalize we.drew = wx at BK14 HNE HVd HRd hHeld ⊢
     refine Kp_ 0 57 (mB_ 9 1) (by kernel_rfl) ?_
     refine Ko_ 1 58 (mB_ 9 3) (by kernel_rfl) hHeld ?_
     refine Kp_ 3 60 (mB_ 9 11) (by kernel_rfl) ?_
     refine Ko_ 4 61 (mB_ 9 27) (by kernel_rfl) hHeld ?_
     refine one_ (i := 2) (N := some 59) (mB_ 9 31) rfl rfl (by kernel_rfl) (by decide) (fun K hK => ?_)
     refine goes_ Try.func20 (by kernel_rfl) rfl #[.pointer (some ⟨g4, 0, none⟩), .agg #[.int .u64 q0, .int .u64 q1, .int .u64 q2, .int .u64 q3, .int .i64 q4, .slice Aq q5.length cq]] (by rfl) rfl rfl (by (try simp only [List.map_toArray, List.map_cons, List.map_nil]); first | done | rfl | simp [Act.eval, Act.put]) ?_
     refine (Go.Proofs.Ytoagfdpgnfinhaa.So.o_push w _ HVd.out (by have := HTL.out; have := HI50.out; omega) q0 q1 q2 q3 q4 q5 _ HRd.out g14 ?n1 ?n2 ?n3).mono ?_
     (case n1 => exact blk_lt BK14.out)
     (case n2 => exact HNE.out.1)
     (case n3 => exact HNE.out.2.2)
     rintro e_ wy ⟨rfl, hv, hR, hk⟩
     refine ⟨_, rfl, ?_⟩
     have HVp := Aside0.mk hv
     have HRp := Aside0.mk hR
     replace BK14 := Aside0.mk (hk.trans BK14.out)
     clear hv hR hk hHeld HVd HRd
     refine hK.out _ _ ⟨(blk_cell BK14.out 0).trans rfl, (blk_cell BK14.out 1).trans rfl, (blk_cell BK14.out 2).trans rfl, (blk_cell BK14.out 3).trans rfl, (blk_cell BK14.out 4).trans rfl, (blk_cell BK14.out 5).trans rfl⟩ (fun hHeld => ?_)
     clear hK K
     refine Kn_ 59 ?_
     refine one_ (i := 5) (N := some 62) (mB_ 9 63) rfl rfl (by kernel_rfl) (by decide) (fun K hK => ?_)
     refine goes_ Try.func18 (by kernel_rfl) rfl #[.agg #[.int .u64 q0, .int .u64 q1, .int .u64 q2, .int .u64 q3, .int .i64 q4, .slice Aq q5.length cq]] (by rfl) rfl rfl (by (try simp only [List.map_toArray, List.map_cons, List.map_nil]); first | done | rfl | simp [Act.eval, Act.put]) ?_
     refine (tenementlaw15_refTxn.calls k q0 q1 q2 q3 q4 Aq cq q5 q0 q1 q2 q3 q4 (q5.map tenementlaw15_StreamOuts.rw_) _ ?s1 ?s2 HRFq.out).mono ?_
     (case s1 => exact (Kd.R_reads' HRp.out).2.2)
     (case s2 => exact (Kd.R_reads' HRp.out).2.1)
     rintro e_ wq ⟨vr, rfl, hR, hb⟩
     refine ⟨_, rfl, ?_⟩
     have HVp0 := HVp
     replace HVp := Aside0.mk (Go.Proofs.Ytoagfdpgnfinhaa.So.Inv.below HVp.out hb)
     have HRr := Aside0.mk (Kd.R_lower hR (below_size (Go.Proofs.Ytoagfdpgnfinhaa.So.Inv.bel HVp0.out)))
     replace BK14 := Aside0.mk (blk_below BK14.out hb)
     clear hb hR hHeld
     refine hK.out _ _ ⟨(blk_cell BK14.out 0).trans rfl, (blk_cell BK14.out 1).trans rfl, (blk_cell BK14.out 2).trans rfl, (blk_cell BK14.out 3).trans rfl, (blk_cell BK14.out 4).trans rfl, (blk_cell BK14.out 5).trans rfl⟩ (fun hHeld => ?_)
     clear hK K
     refine Kn_ 62 ?_
     refine one_ (i := 6) (N := some 63) (mB_ 9 127) rfl rfl (by kernel_rfl) (by decide) (fun K hK => ?_)
     refine goes_ Try.func21 (by kernel_rfl) rfl #[.pointer (some ⟨g5, 0, none⟩), .agg #[.int .u64 q0, .int .u64 q1, .int .u64 q2, .int .u64 q3, .int .i64 q4, vr]] (by rfl) rfl rfl (by (try simp only [List.map_toArray, List.map_cons, List.map_nil]); first | done | rfl | simp [Act.eval, Act.put]) ?_
     refine (Go.Proofs.Ytoagfdpgnfinhaa.So.x_push w _ HVp.out (by rw [List.length_map]; have := HTL.out; have := HI50.out; omega) q0 q1 q2 q3 q4 (q5.map tenementlaw15_StreamOuts.rw_) _ HRr.out).mono ?_
     rintro e_ wz ⟨rfl, hv, hk⟩
     refine ⟨_, rfl, ?_⟩
     have HVz := Aside0.mk hv
     replace BK14 := Aside0.mk ((hk g14 (blk_lt BK14.out) HNE.out.2.1).trans BK14.out)
     rw [List.length_map]
     clear hv hk hHeld HVp HVp0 HRr
     refine hK.out _ _ ⟨(blk_cell BK14.out 0).trans rfl, (blk_cell BK14.out 1).trans rfl, (blk_cell BK14.out 2).trans rfl, (blk_cell BK14.out 3).trans rfl, (blk_cell BK14.out 4).trans rfl, (blk_cell BK14.out 5).trans rfl⟩ (fun hHeld => ?_)
     clear hK K
     refine Kn_ 63 ?_
     refine Kp_ 7 64 (mB_ 9 255) (by kernel_rfl) ?_
     refine Kp_ 8 10 (mB_ 9 511) (by kernel_rfl) ?_
     refine done_ (by kernel_rfl) ?_
     clear hHeld
     go_wp2
     obtain ⟨az, haz⟩ : ∃ x_ : Nat, x_ = a := ⟨_, rfl⟩
     subst haz
     obtain ⟨tz, htz⟩ : ∃ y_ : List S33, y_ = ts ++ [(⟨⟨⟨q0, q1, q2, q3⟩, q4⟩, q5⟩ : S33)] := ⟨_, rfl⟩
     have HTz : Aside0 (tz.length ≤ i + 1) := ⟨by rw [htz, List.length_append, List.length_singleton]; have := HTL.out; omega⟩
     have HGz : Aside0 (∀ t ∈ tz, tenementlaw15_StreamOuts.good k t) := ⟨fun t ht => by
      rw [htz, List.mem_append, List.mem_singleton] at ht
      rcases ht with ht | ht
      ·exact HG.out t ht
      ·rw [ht]; exact HGD.out⟩
     replace HVz : Aside0 (Go.Proofs.Ytoagfdpgnfinhaa.So.Inv w _ g4 g5 tz az (tz.map tenementlaw15_StreamOuts.rt) az) := ⟨by
      rw [htz, List.map_append]
      exact HVz.out⟩
     clear htz
     as_aux_lemma =>
      have e2 : IntKind.u64.wrap (tz.length : Int) = (tz.length : Int) := Go.Proofs.Ytoagfdpgnfinhaa.So.w64 (by omega) (by have := HTz.out; have := HI50.out; omega)
      replace HVz := Aside0.mk (Go.Proofs.Ytoagfdpgnfinhaa.So.Inv.below HVz.out (below_drew1 (Below.refl _ _)))
      obtain ⟨A5, c5, hx0, hx1⟩ := Go.Proofs.Ytoagfdpgnfinhaa.So.cellsX HVz.out
      rw [List.length_map] at hx0
      refine start_ (n := 22) (S := fun w' => w'.cell? ⟨g5, 0, none⟩ = some (.slice A5 tz.length c5) ∧ w'.cell? ⟨g5, 1, none⟩ = some (.int .u64 (az : Int))) (ds := []) (mB_ 22 0) (by kernel_rfl) rfl rfl ⟨hx0, hx1⟩ (fun hHeld => ?_)
      clear hx0 hx1
      generalize wz.drew = wx at HVz hHeld ⊢
      refine Kp_ 0 108 (mB_ 22 1) (by kernel_rfl) ?_
      refine Kp_ 1 109 (mB_ 22 3) (by kernel_rfl) ?_
      refine Kp_ 2 110 (mB_ 22 7) (by kernel_rfl) ?_
      refine Kp_ 3 111 (mB_ 22 15) (by kernel_rfl) ?_
      refine Kp_ 5 113 (mB_ 22 47) (by kernel_rfl) ?_
      refine Kp_ 6 114 (mB_ 22 111) (by kernel_rfl) ?_
      refine Kp_ 7 115 (mB_ 22 239) (by kernel_rfl) ?_
      refine Ko_ 8 116 (mB_ 22 495) (by kernel_rfl) hHeld ?_
      refine one_ (i := 4) (N := some 112) (mB_ 22 511) rfl rfl (by kernel_rfl) (by decide) (fun K hK => ?_)
      refine goes_ Try.func22 (by kernel_rfl) rfl #[.pointer (some ⟨g4, 0, none⟩)] (by rfl) rfl rfl (by (try simp only [List.map_toArray, List.map_cons, List.map_nil]); first | done | rfl | simp [Act.eval, Act.put]) ?_
      refine (Go.Proofs.Ytoagfdpgnfinhaa.So.o_acked w _ HVz.out).mono ?_
      rintro e_ wy ⟨rfl, hb⟩
      refine ⟨_, rfl, ?_⟩
      have hc0 := (hb.cell (World.block_lt_of_cell? _ _ hHeld.1)).trans hHeld.1
      have hc1 := (hb.cell (World.block_lt_of_cell? _ _ hHeld.2)).trans hHeld.2
      replace HVz := Aside0.mk (Go.Proofs.Ytoagfdpgnfinhaa.So.Inv.below HVz.out hb)
      clear hb hHeld
      refine hK.out _ _ ⟨hc0, hc1⟩ (fun hHeld => ?_)
      clear hK K
      refine Kn_ 112 ?_
      refine Kp_ 9 117 (mB_ 22 1023) (by kernel_rfl) ?_
      refine Kp_ 10 118 (mB_ 22 2047) (by kernel_rfl) ?_
      refine Kp_ 11 119 (mB_ 22 4095) (by kernel_rfl) ?_
      refine Kp_ 12 120 (mB_ 22 8191) (by kernel_rfl) ?_
      refine Kp_ 14 122 (mB_ 22 24575) (by kernel_rfl) ?_
      refine Kp_ 15 123 (mB_ 22 57343) (by kernel_rfl) ?_
      refine Kp_ 16 124 (mB_ 22 122879) (by kernel_rfl) ?_
      refine Ko_ 17 125 (mB_ 22 253951) (by kernel_rfl) hHeld ?_
      refine Kp_ 18 126 (mB_ 22 516095) (by kernel_rfl) ?_
      refine Kp_ 19 127 (mB_ 22 1040383) (by kernel_rfl) ?_
      refine one_ (i := 13) (N := some 121) (mB_ 22 1048575) rfl rfl (by kernel_rfl) (by decide) (fun K hK => ?_)
      refine goes_ Try.func23 (by kernel_rfl) rfl #[.pointer (some ⟨g4, 0, none⟩)] (by rfl) rfl rfl (by (try simp only [List.map_toArray, List.map_cons, List.map_nil]); first | done | rfl | simp [Act.eval, Act.put]) ?_
      refine (Go.Proofs.Ytoagfdpgnfinhaa.So.o_last w _ HVz.out).mono ?_
      rintro e_ wz ⟨rfl, hb⟩
      refine ⟨_, rfl, ?_⟩
      have hc0 := (hb.cell (World.block_lt_of_cell? _ _ hHeld.1)).trans hHeld.1
      have hc1 := (hb.cell (World.block_lt_of_cell? _ _ hHeld.2)).trans hHeld.2
      replace HVz := Aside0.mk (Go.Proofs.Ytoagfdpgnfinhaa.So.Inv.below HVz.out hb)
      clear hb hHeld
      refine hK.out _ _ ⟨hc0, hc1⟩ (fun hHeld => ?_)
      clear hK K
      refine Kn_ 121 ?_
      refine Kp_ 20 128 (mB_ 22 2097151) (by kernel_rfl) ?_
      refine Kp_ 21 129 (mB_ 22 4194303) (by kernel_rfl) ?_
      refine done_ (by kernel_rfl) ?_
      clear hHeld
      go_wp2
      go_roundg (l0.length - (i + 1))
      case measure => have := HK.out; have := HIL.out; omega
      case rel => exact ⟨i + 1, tz, az, by first | rfl | (rw [show ((i + 1 : Nat) : Int) = (i : Int) + 1 by omega]; rfl) | (rw [show ((i + 1 : Nat) : Int) = (i : Int) + 1 by omega]; congr 1; exact Go.Proofs.Ytoagfdpgnfinhaa.So.wrap64_id (by omega) (by omega)), ⟨by have := HI50.out; omega⟩, ⟨by omega⟩, HTz, HGz, HVz⟩
end Go.Proofs.Ytoagfdpgnfinhaa.Q

set_option linter.unusedVariables false
namespace Go.Proofs.Ytoagfdpgnfinhaa.Q
open Go.RowKit Go.Proofs.Ytoagfdpgnfinhaa.Q Go.Proofs.YtoagfdpgnfinhaaW.PrintWords Go.Proofs.YtoagfdpgnfinhaaW.PrintLast Go.Proofs.YtoagfdpgnfinhaaW.PrintMore
def tenementlaw15_StreamOuts.Pure : Prop := ∀ (x0 : List (S44)), ((∀ x_ ∈ x0, wf44 x_) ∧ x0.length * 104 ≤ 140737488351232) → tenementlaw15_StreamOuts.f x0 = some true
end Go.Proofs.Ytoagfdpgnfinhaa.Q

set_option linter.unusedVariables false
set_option linter.unusedSimpArgs false
namespace Go.Proofs.Ytoagfdpgnfinhaa.Pure
open Go.RowKit Go.Proofs.Ytoagfdpgnfinhaa.Q Go.Proofs.YtoagfdpgnfinhaaW.PrintWords Go.Proofs.YtoagfdpgnfinhaaW.PrintLast Go.Proofs.YtoagfdpgnfinhaaW.PrintMore Go.Proofs.Ytoagfdpgnfinhaa.Plain
abbrev Wr := S107
abbrev Pt := S159
def fits (x : Wr) : Prop := x.f0.size ≤ 140737488351232 ∧ x.f1.size ≤ 140737488351232 ∧ x.f2.size ≤ 140737488351232
theorem str_size (l : List Int) : (strOfNums l).size = l.length := by
 unfold strOfNums
 simp [ByteArray.size]
def wrt (p : Pt) (own : Bool) : Wr :=
 if own = true then (if 224 ≤ p.f2 then ⟨strOfNums [98, IntKind.u8.wrap (48 + Int.tmod p.f2 2)], strOfNums [IntKind.u8.wrap (97 + Int.tmod (IntKind.u8.wrap (Int.tdiv p.f2 2)) 4)], ⟨#[]⟩, true⟩
  else ⟨strOfNums [98, IntKind.u8.wrap (48 + Int.tmod p.f2 2)], strOfNums [IntKind.u8.wrap (97 + Int.tmod (IntKind.u8.wrap (Int.tdiv p.f2 2)) 4)], p.f0.f2.extract 0 (min p.f0.f2.size 8), false⟩)
 else p.f0
theorem wrt_f (p : Pt) (own : Bool) (h : fits p.f0) : tenementlaw15_Put_write.f p.f0.f0 p.f0.f1 p.f0.f2 p.f0.f3 own p.f2 = some ((wrt p own).f0, (wrt p own).f1, (wrt p own).f2, (wrt p own).f3) := by
 unfold tenementlaw15_Put_write.f wrt
 cases own with
 | true =>
  rw [if_pos rfl, if_pos rfl, if_pos (by have := h.2.2; omega)]
  by_cases c : 224 ≤ p.f2
  ·rw [if_pos c, if_pos c]
  ·rw [if_neg c, if_neg c]
 | false => rw [if_neg (by simp), if_neg (by simp)]
theorem wrt_fits (p : Pt) (own : Bool) (h : fits p.f0) : fits (wrt p own) := by
 unfold wrt
 cases own with
 | true =>
  rw [if_pos rfl]
  have z : (⟨#[]⟩ : ByteArray).size = 0 := rfl
  by_cases c : 224 ≤ p.f2
  ·rw [if_pos c]
   refine ⟨?_, ?_, ?_⟩
   ·show (strOfNums _).size ≤ _; rw [str_size]; simp
   ·show (strOfNums _).size ≤ _; rw [str_size]; simp
   ·show (⟨#[]⟩ : ByteArray).size ≤ _; omega
  ·rw [if_neg c]
   refine ⟨?_, ?_, ?_⟩
   ·show (strOfNums _).size ≤ _; rw [str_size]; simp
   ·show (strOfNums _).size ≤ _; rw [str_size]; simp
   ·show (ByteArray.extract _ _ _).size ≤ _; rw [ByteArray.size_extract]; omega
 | false => rw [if_neg (by simp)]; exact h
def same (w y : Wr) : Bool := decide (y.f0 = w.f0) && decide (y.f1 = w.f1)
def wrs (most : Nat) (whole : Bool) : List Pt → List Wr → List Wr
 | [], out => out
 | p :: ps, out => if out.length < most then (if (whole && out.any (same (wrt p (whole || p.f1)))) = true then wrs most whole ps out else wrs most whole ps (out ++ [wrt p (whole || p.f1)])) else out
theorem wrs_len (most : Nat) (whole : Bool) : ∀ l out, out.length ≤ most → (wrs most whole l out).length ≤ most
 | [], out, h => h
 | p :: ps, out, h => by
  unfold wrs
  by_cases c : out.length < most
  ·rw [if_pos c]
   split
   ·exact wrs_len most whole ps out h
   ·exact wrs_len most whole ps _ (by simp; omega)
  ·rw [if_neg c]; exact h
theorem wrs_all (most : Nat) (whole : Bool) (Q : Wr → Prop) : ∀ l out, (∀ p ∈ l, Q (wrt p (whole || p.f1))) → (∀ x ∈ out, Q x) → ∀ x ∈ wrs most whole l out, Q x
 | [], out, _, h => h
 | p :: ps, out, hl, h => by
  unfold wrs
  have hl' : ∀ q ∈ ps, Q (wrt q (whole || q.f1)) := fun q hq => hl q (by simp [hq])
  split
  ·split
   ·exact wrs_all most whole Q ps out hl' h
   ·refine wrs_all most whole Q ps _ hl' (fun x hx => ?_)
    rcases List.mem_append.1 hx with hx | hx
    ·exact h x hx
    ·rw [List.mem_singleton.1 hx]; exact hl p (by simp)
  ·exact h
theorem idx (i : Nat) (h : i ≤ 4611686018427387904) : wrap64 ((i : Int) + 1) = ((i + 1 : Nat) : Int) := by
 rw [wrap64_id (by omega) (by omega)]
 omega
theorem rdW (l : List Wr) (j : Nat) (h : j < l.length) : rd_T107 l (j : Int) = l[j] := by
 unfold rd_T107
 rw [Int.toNat_natCast, List.getD_eq_getElem?_getD, List.getElem?_eq_getElem h]
 rfl
theorem rdP (l : List Pt) (j : Nat) (h : j < l.length) : rd_T159 l (j : Int) = l[j] := by
 unfold rd_T159
 rw [Int.toNat_natCast, List.getD_eq_getElem?_getD, List.getElem?_eq_getElem h]
 rfl
theorem wr_l1 (l : List Pt) (most : Int) (whole : Bool) (out : List Wr) (i : Int) (w : Wr) (h7 : out.length ≤ 1000) (K : Nat) : ∀ d j fl, j + d = out.length →
  tenementlaw15_writes.l1 (K + d + 1) l most whole out i fl (j : Int) w.f0 w.f1 w.f2 w.f3 =
   if (whole && (fl || (out.drop j).any (same w))) = true then tenementlaw15_writes.l0 K l most whole out (wrap64 (i + 1)) else tenementlaw15_writes.l0 K l most whole (out ++ [w]) (wrap64 (i + 1)) := by
 intro d
 induction d with
 | zero =>
  intro j fl hj
  have e : out.drop j = [] := List.drop_eq_nil_of_le (by omega)
  rw [Nat.add_zero, tenementlaw15_writes.l1, if_neg (by omega), e, List.any_nil, Bool.or_false]
  cases whole with
  | true =>
   rw [if_pos rfl]
   cases fl with
   | true => rw [if_pos rfl, if_pos (by rfl)]
   | false => rw [if_neg (by simp), if_pos (by omega), if_neg (by simp)]
  | false => rw [if_neg (by simp), if_pos (by omega), if_neg (by simp)]
 | succ d ih =>
  intro j fl hj
  have hlt : j < out.length := by omega
  have e : out.drop j = out[j] :: out.drop (j + 1) := List.drop_eq_getElem_cons hlt
  rw [show K + (d + 1) + 1 = (K + d + 1) + 1 by omega, tenementlaw15_writes.l1, if_pos (by omega), idx j (by omega), e, List.any_cons]
  cases fl with
  | true =>
   rw [if_pos rfl, ih (j + 1) true (by omega)]
   simp only [Bool.true_or]
  | false =>
   rw [if_neg (by simp), if_pos (by omega), rdW out j hlt, Bool.false_or]
   by_cases c : (out[j].f0).toList = w.f0.toList
   ·rw [if_pos c, ih (j + 1) _ (by omega)]
    have c0 := toList_iff.1 c
    have hs : ((out[j].f1).toList == w.f1.toList) = same w out[j] := by
     unfold same
     rw [decide_eq_true c0, Bool.true_and]
     by_cases c1 : out[j].f1 = w.f1
     ·rw [decide_eq_true c1, c1]; simp
     ·rw [decide_eq_false c1]
      exact beq_eq_false_iff_ne.2 (fun h => c1 (toList_iff.1 h))
    rw [hs]
   ·rw [if_neg c, ih (j + 1) _ (by omega)]
    have hs : same w out[j] = false := by
     unfold same
     rw [decide_eq_false (fun h => c (by rw [h])), Bool.false_and]
    rw [hs, Bool.false_or]
theorem wr_l0 (l : List Pt) (most : Nat) (hm : most ≤ 100) (whole : Bool) (hl : ∀ p ∈ l, fits p.f0) (hz : l.length ≤ 4611686018427387904) : ∀ d i (out : List Wr) K, i + d = l.length → out.length ≤ most → (d + 1) * (most + 5) ≤ K →
  tenementlaw15_writes.l0 K l (most : Int) whole out (i : Int) = some (wrs most whole (l.drop i) out) := by
 intro d
 induction d with
 | zero =>
  intro i out K hi ho hK
  obtain ⟨K, rfl⟩ : ∃ m, K = m + 2 := ⟨K - 2, by omega⟩
  have e : l.drop i = [] := List.drop_eq_nil_of_le (by omega)
  rw [tenementlaw15_writes.l0, if_neg (by omega), tenementlaw15_writes.j1, if_neg (by simp), e]
  rfl
 | succ d ih =>
  intro i out K hi ho hK
  have hlt : i < l.length := by omega
  have e : l.drop i = l[i] :: l.drop (i + 1) := List.drop_eq_getElem_cons hlt
  have hK' : (d + 1) * (most + 5) + (most + 5) ≤ K := by
   rw [show (d + 1 + 1) * (most + 5) = (d + 1) * (most + 5) + (most + 5) by rw [Nat.add_mul, Nat.one_mul]] at hK
   exact hK
  have hf : fits l[i].f0 := hl _ (List.getElem_mem _)
  rw [e]
  unfold wrs
  by_cases c : out.length < most
  ·rw [if_pos c]
   obtain ⟨m, hm'⟩ : ∃ m, K = (m + out.length + 1) + 3 ∧ (d + 1) * (most + 5) ≤ m := ⟨K - out.length - 4, by omega, by omega⟩
   rw [hm'.1, tenementlaw15_writes.l0, if_pos (by omega), decide_eq_true (by omega : (out.length : Int) < (most : Int)), tenementlaw15_writes.j1, if_pos rfl, if_pos (by omega), if_pos (by omega), rdP l i hlt]
   have key : ∀ own : Bool, own = (whole || l[i].f1) → tenementlaw15_writes.j2 (m + out.length + 1 + 1) l (most : Int) whole out (i : Int) l[i].f0.f0 l[i].f0.f1 l[i].f0.f2 l[i].f0.f3 own l[i].f2 =
     some (if (whole && out.any (same (wrt l[i] (whole || l[i].f1)))) = true then wrs most whole (l.drop (i + 1)) out else wrs most whole (l.drop (i + 1)) (out ++ [wrt l[i] (whole || l[i].f1)])) := by
    intro own ho'
    rw [tenementlaw15_writes.j2, wrt_f _ _ hf, Option.bind_some]
    show tenementlaw15_writes.l1 (m + out.length + 1) l (most : Int) whole out (i : Int) false 0 (wrt l[i] own).f0 (wrt l[i] own).f1 (wrt l[i] own).f2 (wrt l[i] own).f3 = _
    have h1 := wr_l1 l (most : Int) whole out (i : Int) (wrt l[i] own) (by omega) m out.length 0 false (by omega)
    rw [show ((0 : Nat) : Int) = 0 from rfl] at h1
    rw [h1, List.drop_zero, Bool.false_or, idx i (by omega), ho']
    split
    ·rw [ih (i + 1) out m (by omega) ho hm'.2]
    ·rw [ih (i + 1) _ m (by omega) (by simp; omega) hm'.2]
   cases whole with
   | true =>
    rw [if_pos rfl, key true rfl]
   | false =>
    rw [if_neg (by simp), key _ (by simp)]
  ·rw [if_neg c]
   obtain ⟨m, rfl⟩ : ∃ m, K = m + 2 := ⟨K - 2, by omega⟩
   rw [tenementlaw15_writes.l0, if_pos (by omega), decide_eq_false (by omega : ¬ (out.length : Int) < (most : Int)), tenementlaw15_writes.j1, if_neg (by simp)]
theorem writes_f (l : List Pt) (most : Nat) (hm : most ≤ 100) (whole : Bool) (hl : ∀ p ∈ l, fits p.f0) (hz : l.length ≤ 4611686018427387904) {K : Nat} (hK : (l.length + 1) * (most + 5) ≤ K) :
  tenementlaw15_writes.f K l (most : Int) whole = some (wrs most whole l []) := by
 unfold tenementlaw15_writes.f
 have := wr_l0 l most hm whole hl hz l.length 0 [] K (by omega) (by simp) hK
 rw [show ((0 : Nat) : Int) = 0 from rfl, List.drop_zero] at this
 exact this
abbrev Rw := S117
def rw_ (x : Wr) : Rw := ⟨x.f0, x.f1, x.f2, x.f3⟩
theorem rdR (l : List Rw) (j : Nat) (h : j < l.length) : rd_T117 l (j : Int) = l[j] := by
 unfold rd_T117
 rw [Int.toNat_natCast, List.getD_eq_getElem?_getD, List.getElem?_eq_getElem h]
 rfl
theorem refWrites_loop (l : List Wr) (hz : l.length < 2513169434916) (K : Nat) : ∀ d i (out : List Rw), i + d = l.length → out.length = i → tenementlaw15_refWrites.l0 (K + d + 1) l out (i : Int) = some (out ++ (l.drop i).map rw_) := by
 intro d
 induction d with
 | zero =>
  intro i out hi ho
  have e : l.drop i = [] := List.drop_eq_nil_of_le (by omega)
  rw [Nat.add_zero, tenementlaw15_refWrites.l0, if_neg (by omega), e, List.map_nil, List.append_nil]
 | succ d ih =>
  intro i out hi ho
  have hlt : i < l.length := by omega
  have e : l.drop i = l[i] :: l.drop (i + 1) := List.drop_eq_getElem_cons hlt
  rw [show K + (d + 1) + 1 = (K + d + 1) + 1 by omega, tenementlaw15_refWrites.l0, if_pos (by omega), if_pos (by omega), if_pos (by omega), rdW l i hlt, idx i (by omega), ih (i + 1) _ (by omega) (by simp; omega), e, List.map_cons, List.append_assoc]
  rfl
theorem refWrites_f (l : List Wr) (hz : l.length < 2513169434916) {k : Nat} (hk : l.length + 1 ≤ k) : tenementlaw15_refWrites.f k l = some (l.map rw_) := by
 obtain ⟨K, rfl⟩ : ∃ m, k = m + l.length + 1 := ⟨k - l.length - 1, by omega⟩
 unfold tenementlaw15_refWrites.f
 have := refWrites_loop l hz K l.length 0 [] (by omega) rfl
 rw [show ((0 : Nat) : Int) = 0 from rfl, List.drop_zero, List.nil_append] at this
 exact this
theorem refTxn_f (a b c d e : Int) (l : List Wr) (hz : l.length < 2513169434916) {k : Nat} (hk : l.length + 1 ≤ k) : tenementlaw15_refTxn.f k a b c d e l = some (a, b, c, d, e, l.map rw_) := by
 unfold tenementlaw15_refTxn.f
 rw [show tenementlaw15_refStamp.f a b c d e = some (a, b, c, d, e) from rfl, Option.bind_some, refWrites_f l hz hk, Option.bind_some]
theorem deal_f (v0 v1 v2 v3 d : Int) (h0 : (Lit.int .u64 v0).wf = true) (h1 : (Lit.int .u64 v1).wf = true) (h2 : (Lit.int .u64 v2).wf = true) (h3 : (Lit.int .u64 v3).wf = true) (h4 : (Lit.int .i64 d).wf = true) (o own : Bool) (l : List Pt) (hl : ∀ p ∈ l, fits p.f0) (hz : l.length ≤ 4611686018427387904) {K : Nat} (hK : (l.length + 1) * 15 + 10 ≤ K) :
  ∃ (a b c g : Nat) (e : Int) (xs : List Wr), tenementlaw15_Deal_deal.f K v0 v1 v2 v3 d o l own = some ((a : Int), (b : Int), (c : Int), (g : Int), e, xs) ∧ (∀ x ∈ xs, fits x) ∧ xs.length ≤ 10 := by
 unfold tenementlaw15_Deal_deal.f
 cases own with
 | true =>
  obtain ⟨n0, n1, n2, n3, dc, em, _⟩ := mark_own (v3 := v3) (d := d) h0 h1 h2 (k := K) (by omega)
  have ew := writes_f l 8 (by omega) true hl hz (K := K) (by omega)
  have hln := wrs_len 8 true l [] (by simp)
  rw [show ((8 : Nat) : Int) = 8 from rfl] at ew
  rw [if_pos rfl, em, Option.bind_some, ew, Option.bind_some]
  by_cases c : ((wrs 8 true l []).length : Int) = 0
  ·rw [if_pos c]
   refine ⟨n0, n1, n2, n3, dc, _, rfl, ?_, by simp⟩
   intro x hx1
   rw [List.mem_singleton.1 hx1]
   have z2 : (⟨#[98, 48]⟩ : ByteArray).size = 2 := rfl
   have z1 : (⟨#[97]⟩ : ByteArray).size = 1 := rfl
   have z3 : (⟨#[118]⟩ : ByteArray).size = 1 := rfl
   exact ⟨show (⟨#[98, 48]⟩ : ByteArray).size ≤ _ by omega, show (⟨#[97]⟩ : ByteArray).size ≤ _ by omega, show (⟨#[118]⟩ : ByteArray).size ≤ _ by omega⟩
  ·rw [if_neg c]
   exact ⟨n0, n1, n2, n3, dc, _, rfl, wrs_all 8 true fits l [] (fun p hp => wrt_fits p _ (hl p hp)) (by simp), by omega⟩
 | false =>
  obtain ⟨n0, n1, n2, n3, e, em, _⟩ := mark_any h0 h1 h2 h3 h4 o (k := K) (by omega)
  have ew := writes_f l 10 (by omega) false hl hz (K := K) (by omega)
  have hln := wrs_len 10 false l [] (by simp)
  rw [show ((10 : Nat) : Int) = 10 from rfl] at ew
  rw [if_neg (by simp), em, Option.bind_some, ew, Option.bind_some]
  exact ⟨n0, n1, n2, n3, e, _, rfl, wrs_all 10 false fits l [] (fun p hp => wrt_fits p _ (hl p hp)) (by simp), by omega⟩
def okW (b k v : ByteArray) (g : Bool) : Prop := (1 ≤ b.size ∧ b.size ≤ 16) ∧ (1 ≤ k.size ∧ k.size ≤ 16) ∧ v.size ≤ 32 ∧ (g = true → v.size = 0)
instance (b k v : ByteArray) (g : Bool) : Decidable (okW b k v g) := by unfold okW; infer_instance
instance (a b c d e : Int) : Decidable (okS a b c d e) := by unfold okS; infer_instance
def wb (x : Wr) : ByteArray := vs x.f0.size ++ x.f0 ++ (vs x.f1.size ++ x.f1) ++ (if x.f3 = true then (⟨#[1]⟩ : ByteArray) else (⟨#[0]⟩ : ByteArray) ++ (vs x.f2.size ++ x.f2))
def enc (o : ByteArray) (xs : List Wr) : ByteArray := xs.foldl (fun o x => o ++ wb x) o
theorem n1 : pack_Number.f 1 1 = some (⟨#[1]⟩ : ByteArray) := Number_f 1 1 (by omega) (by omega)
theorem n0 : pack_Number.f 0 1 = some (⟨#[0]⟩ : ByteArray) := Number_f 0 1 (by omega) (by omega)
theorem z1 : (⟨#[1]⟩ : ByteArray).size = 1 := rfl
theorem z0 : (⟨#[0]⟩ : ByteArray).size = 1 := rfl
def weq (x y : Wr) : Bool := (x.f0.toList == y.f0.toList) && ((x.f1.toList == y.f1.toList) && ((x.f2.toList == y.f2.toList) && (x.f3 == y.f3)))
def eqb : List Wr → List Wr → Bool
 | x :: xs, y :: ys => weq x y && eqb xs ys
 | _, _ => true
theorem neq_eq (p q r s : Bool) : ((!p) || ((!q) || ((!r) || (!s)))) = !(p && (q && (r && s))) := by cases p <;> cases q <;> cases r <;> cases s <;> rfl
def sameT (a b c d e : Int) (xs : List Wr) (a' b' c' d' e' : Int) (ys : List Wr) : Bool := ((a == a' && (b == b' && (c == c' && (d == d')))) && (e == e')) && decide (xs.length = ys.length) && eqb xs ys
theorem neq5 (p q r s t : Bool) : (((!p) || ((!q) || ((!r) || (!s)))) || (!t)) = !((p && (q && (r && s))) && t) := by cases p <;> cases q <;> cases r <;> cases s <;> cases t <;> rfl
theorem rdM (xs : List Wr) (j : Nat) (h : j < xs.length) : rd_T117 (xs.map rw_) (j : Int) = rw_ xs[j] := by
 rw [rdR _ j (by rw [List.length_map]; exact h), List.getElem_map]
theorem rsame_l0 (a b c d e a' b' c' d' e' : Int) (xs ys : List Wr) (hl : xs.length = ys.length) (hz : xs.length ≤ 1000) (K : Nat) : ∀ m i, i + m = xs.length →
  tenementref08_Same.l0 (K + m + 1) (i : Int) a b c d e (xs.map rw_) a' b' c' d' e' (ys.map rw_) = some (eqb (xs.drop i) (ys.drop i)) := by
 have hm1 : ((xs.map rw_).length : Int) = (xs.length : Int) := by rw [List.length_map]
 have hm2 : ((ys.map rw_).length : Int) = (ys.length : Int) := by rw [List.length_map]
 intro m
 induction m with
 | zero =>
  intro i hi
  rw [Nat.add_zero, tenementref08_Same.l0, if_neg (by omega), List.drop_eq_nil_of_le (by omega)]
  rfl
 | succ m ih =>
  intro i hi
  have h1 : i < xs.length := by omega
  have h2 : i < ys.length := by omega
  have e1 : xs.drop i = xs[i] :: xs.drop (i + 1) := List.drop_eq_getElem_cons h1
  have e2 : ys.drop i = ys[i] :: ys.drop (i + 1) := List.drop_eq_getElem_cons h2
  rw [show K + (m + 1) + 1 = (K + m + 1) + 1 by omega, tenementref08_Same.l0, if_pos (by omega), if_pos (by omega), if_pos (by omega), rdM xs i h1, rdM ys i h2, neq_eq, e1, e2]
  show (if (!weq xs[i] ys[i]) = true then _ else _) = some (weq xs[i] ys[i] && _)
  cases weq xs[i] ys[i] with
  | true => rw [if_neg (by simp), idx i (by omega), ih (i + 1) (by omega)]; rfl
  | false => rw [if_pos (show (!false) = true from rfl)]; rfl
theorem rsame_f (a b c d e : Int) (xs : List Wr) (a' b' c' d' e' : Int) (ys : List Wr) (hz : xs.length ≤ 1000) {k : Nat} (hk : xs.length + 2 ≤ k) : tenementref08_Same.f k a b c d e (xs.map rw_) a' b' c' d' e' (ys.map rw_) = some (sameT a b c d e xs a' b' c' d' e' ys) := by
 have hm1 : ((xs.map rw_).length : Int) = (xs.length : Int) := by rw [List.length_map]
 have hm2 : ((ys.map rw_).length : Int) = (ys.length : Int) := by rw [List.length_map]
 obtain ⟨K, rfl⟩ : ∃ m, k = (m + xs.length + 1) + 1 := ⟨k - xs.length - 2, by omega⟩
 unfold tenementref08_Same.f sameT
 rw [neq5]
 cases ((a == a' && (b == b' && (c == c' && (d == d')))) && (e == e')) with
 | false => rw [if_pos (show (!false) = true from rfl), tenementref08_Same.j0, if_pos rfl]; rfl
 | true =>
  rw [if_neg (by simp), Bool.true_and, tenementref08_Same.j0, hm1, hm2]
  by_cases hl : xs.length = ys.length
  ·have h := rsame_l0 a b c d e a' b' c' d' e' xs ys hl hz K xs.length 0 (by omega)
   rw [show ((0 : Nat) : Int) = 0 from rfl, List.drop_zero, List.drop_zero] at h
   have hb : ((xs.length : Int) != (ys.length : Int)) = false := by rw [hl]; exact bne_self_eq_false _
   rw [hb, if_neg (by simp), h, decide_eq_true hl, Bool.true_and]
  ·have hb : ((xs.length : Int) != (ys.length : Int)) = true := bne_iff_ne.2 (by omega)
   rw [hb, if_pos rfl, decide_eq_false hl]; rfl
theorem weq_refl (x : Wr) : weq x x = true := by
 unfold weq
 simp
theorem eqb_refl : ∀ xs : List Wr, eqb xs xs = true
 | [] => rfl
 | x :: xs => by
  unfold eqb
  rw [weq_refl, eqb_refl xs]
  rfl
theorem sameT_self (a b c d e : Int) (xs : List Wr) : sameT a b c d e xs a b c d e xs = true := by
 unfold sameT
 rw [eqb_refl]
 simp
theorem outs_one (K : Nat) (hK : 4000000000000000 ≤ K) (x : S44) (h : wf44 x) : (0 ≤ x.f0 ∧ x.f0 ≤ 255) ∧ ∃ t : S33, tenementlaw15_Deal_deal.f K x.f1.f0.f0.f0.f0 x.f1.f0.f0.f0.f1 x.f1.f0.f0.f0.f2 x.f1.f0.f0.f0.f3 x.f1.f0.f0.f1 x.f1.f0.f1 x.f1.f1 x.f1.f2 = some (t.f0.f0.f0, t.f0.f0.f1, t.f0.f0.f2, t.f0.f0.f3, t.f0.f1, t.f1) ∧ tenementlaw15_StreamOuts.good K t := by
 obtain ⟨kd, ⟨⟨⟨⟨v0, v1, v2, v3⟩, d⟩, o⟩, l, q⟩, nn, mm⟩ := x
 have hD := h.2.1
 have hw := hD.1.1
 have hl : ∀ p ∈ l, fits p.f0 := fun p hp => ⟨(hD.2.1.1 p hp).1.1, (hD.2.1.1 p hp).1.2.1, (hD.2.1.1 p hp).1.2.2.1⟩
 have hlen : l.length * 64 ≤ 140737488351232 := hD.2.1.2
 have hk : (0 : Int) ≤ kd ∧ kd ≤ 255 := u8_of h.1
 refine ⟨hk, ?_⟩
 obtain ⟨a, b, c, g, e, xs, ed, hf, h10⟩ := deal_f v0 v1 v2 v3 d hw.1.1 hw.1.2.1 hw.1.2.2.1 hw.1.2.2.2 hw.2 o q l hl (by omega) (K := K) (by omega)
 refine ⟨⟨⟨⟨a, b, c, g⟩, e⟩, xs⟩, ed, refTxn_f a b c g e xs (by omega) (by omega), ?_⟩
 show tenementref08_Same.f K a b c g e (xs.map rw_) a b c g e (xs.map rw_) = some true
 rw [rsame_f a b c g e xs a b c g e xs (by omega) (by omega), sameT_self]
theorem StreamOuts : tenementlaw15_StreamOuts.Pure := by
 intro l0 ⟨hx, hlen⟩
 have : tenementlaw15_StreamOuts.ok 4000000000000000 l0 := ⟨rfl, fun x h => outs_one _ (Nat.le_refl _) x (hx x h)⟩
 unfold tenementlaw15_StreamOuts.f
 rw [if_pos ⟨_, this⟩]
end Go.Proofs.Ytoagfdpgnfinhaa.Pure
