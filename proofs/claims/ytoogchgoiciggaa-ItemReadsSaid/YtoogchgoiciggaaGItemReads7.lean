import Derived.Test.YtoogchgoiciggaaGItemReads2
import Derived.Test.YtoogchgoiciggaaGItemReads6
namespace Go.Proofs.Ytoogchgoiciggaa.Q
open Go.RowKit Go.Proofs.YtoogchgoiciggaaW.PrintWords Go.Proofs.YtoogchgoiciggaaW.PrintLast Go.Proofs.YtoogchgoiciggaaW.PrintMore
attribute [local go_sem] max2_int min2_int max_two min_two max_three min_three max_four min_four   -- for this text's walks alone
set_option linter.unusedVariables false
set_option linter.unusedSimpArgs false
def tenementlaw08_refWrites.l0 : Nat → List (S23) → List (S38) → Int → Option ((List (S38)))
 | 0, _, _, _ => none
 | k + 1, x0, x3, x4 => if x4 < (x0.length : Int) then (if 0 ≤ x4 then (if x3.length < 2513169434916 then (tenementlaw08_refWrites.l0 k x0 (x3 ++ [(⟨(rd_T23 x0 x4).f0, (rd_T23 x0 x4).f1, (rd_T23 x0 x4).f2, (rd_T23 x0 x4).f3⟩ : S38)]) (wrap64 (x4 + 1))) else (none)) else (none)) else (some x3)
def tenementlaw08_refWrites.f (k : Nat) (l0 : List (S23)) : Option ((List (S38))) := tenementlaw08_refWrites.l0 k l0 ([] : List (S38)) 0
def tenementlaw08_refWrites.T5 : Bool × List (List Nat × List Nat) := (true, [([], []), ([], []), ([], []), ([1, 2], [1, 2]), ([3], [3]), ([4], [4]), ([], []), ([], []), ([6, 7], [6, 7]), ([8], [8]), ([9], [9]), ([], []), ([], []), ([11, 12], [11, 12]), ([13], [13]), ([14], [14]), ([], []), ([], []), ([16, 17], [16, 17]), ([18], [18]), ([19], [19]), ([5, 10, 15, 20], [5, 10, 15, 20]), ([21], [21]), ([0, 22], [0, 22]), ([23, 23, 0, 1, 2, 3, 4, 5, 6, 7, 8, 9, 10, 11, 12, 13, 14, 15, 16, 17, 18, 19, 20, 21, 22, 23], [0, 23])])
def tenementlaw08_refWrites.B5 : List Nat := [0, 0, 0, 6, 14, 30, 0, 0, 192, 448, 960, 0, 0, 6144, 14336, 30720, 0, 0, 196608, 458752, 983040, 2097150, 4194302, 8388607, 16777215]
theorem tenementlaw08_refWrites.tab5 : rtab .any (opsOf Try.f13 5) = tenementlaw08_refWrites.T5 := by kernel_rfl
theorem tenementlaw08_refWrites.bits5 : waitsOk tenementlaw08_refWrites.T5.2 tenementlaw08_refWrites.B5 = true := by kernel_rfl
set_option maxHeartbeats 8000000 in
set_option maxRecDepth 100000 in
theorem tenementlaw08_refWrites.calls (k : Nat) (A0 : Option Addr) (c0 : Nat) (l0 : List (S23)) (r : List (S38)) (w : World) (hr0 : Kd.C k23 w A0 l0.length l0) (hc0 : l0.length ≤ c0) (h : tenementlaw08_refWrites.f k l0 = some r) :
  Calls Try.prog 13 #[.slice A0 l0.length c0] w fun e w' => ∃ v0_ : Value, e = .returned (v0_) ∧ Kd.R k38 38 w' w.heap.size (fun _ => True) v0_ r ∧ Below w.heap.size w w' := by
 have hu38 := Try.underlying38
 have HR0 := Aside0.mk hr0
 have HC0 := Aside0.mk hc0
 clear hr0 hc0
 have HB := Aside0.mk (Below.refl w.heap.size w)
 have H : (tenementlaw08_refWrites.l0 k l0 ([] : List (S38)) 0) = some r := h
 clear h
 have H' := Aside0.mk H
 clear H
 go_enter Try.func13, Try.ntmps13
 go_wp2
 go_loopg [3, 4] k (fun kq v3 v4 w' => ∃ (x3_1 : List (S38)) (x4_1 : Int), v4 = .int .i64 x4_1 ∧ Aside0 (tenementlaw08_refWrites.l0 kq l0 x3_1 x4_1 = some r) ∧ Aside0 (kq ≤ k) ∧ Aside0 (Kd.R k38 38 w' w.heap.size (fun _ => True) v3 x3_1) ∧ Aside0 (Below w.heap.size w w'))
 case atStart => exact ⟨(([] : List (S38))), (0), (by first | rfl | (simp; done) | (simp [*]; done)), H', ⟨Nat.le_refl _⟩, ⟨by first | exact Kd.R_nil _ _ _ _ _ | exact Kd.N_nil _ _ _ _ _ | exact Kd.V_nil _ _ _ _ _ | exact Kd.Q_nil _ _ _ _ _ | exact Kd.S_nil _ _ _ _ _⟩, ⟨Ky_ HB⟩⟩
 case round =>
  clear H'
  try clear c1
  obtain ⟨x3_1, x4_1, rfl, HA, HK1, HO_3, HB⟩ := hrel
  cases gk with
  | zero => exact absurd HA.out (by simp [tenementlaw08_refWrites.l0])
  | succ k1 =>
   have H := HA.out
   clear HA
   simp only [tenementlaw08_refWrites.l0] at H
   by_cases c2 : x4_1 < (l0.length : Int)
   rotate_left
   ·rw [if_neg c2] at H
    have c2b0 : decide (x4_1 < (l0.length : Int)) = false := decide_eq_false c2
    clear c2
    obtain rfl := Option.some.inj H
    go_wp2
    go_ret
    exact ⟨_, by first | rfl | (simp [errW_none, errW_some] <;> rfl) | (simp [*, errW_none, errW_some] <;> rfl), by (with_reducible repeat (first | apply Kd.R_alloc | apply Kd.R_drewN | apply Kd.R_drew)); exact HO_3.out, Ky_ HB⟩
   rw [if_pos c2] at H
   have c2b0 : decide (x4_1 < (l0.length : Int)) = true := decide_eq_true c2
   clear c2
   by_cases c3 : 0 ≤ x4_1
   rotate_left
   ·rw [if_neg c3] at H
    exact absurd H (by simp)
   rw [if_pos c3] at H
   have c3b0 : decide (0 ≤ x4_1) = true := decide_eq_true c3
   clear c3
   by_cases c4 : x3_1.length < 2513169434916
   rotate_left
   ·rw [if_neg c4] at H
    exact absurd H (by simp)
   rw [if_pos c4] at H
   have LMc4 := Aside0.mk c4
   clear c4
   obtain ⟨y254, hy254⟩ : ∃ y_ : List (S38), y_ = (x3_1 ++ [(⟨(rd_T23 l0 x4_1).f0, (rd_T23 l0 x4_1).f1, (rd_T23 l0 x4_1).f2, (rd_T23 l0 x4_1).f3⟩ : S38)]) := ⟨_, rfl⟩
   replace H : (tenementlaw08_refWrites.l0 k1 l0 y254 (wrap64 (x4_1 + 1))) = some r := by first | (rw [hy254]; with_reducible exact H) | (have H2_ := (Option.bind_some _ _).symm.trans H; rw [hy254]; with_reducible exact H2_) | (have H2_ := (Option.bind_some _ _).symm.trans H; with_reducible exact H2_) | with_reducible exact H | (rw [hy254]; exact H) | exact H
   have Ny254 := Aside0.mk hy254
   clear hy254
   have H' := Aside0.mk H
   clear H
   try go_wp2
   replace HO_3 := Aside0.mk (Kd.R_drew HO_3.out)
   replace HB := Aside0.mk (below_drew1 HB.out)
   have p250 : 0 ≤ (x4_1 : Int) := of_decide_eq_true (by first | (with_reducible assumption) | assumption)
   have q250 : x4_1 < (l0.length : Int) := of_decide_eq_true (by first | (with_reducible assumption) | assumption)
   obtain ⟨ad250, e250, hx250_0, hx250_1, hx250_2, hx250_3⟩ := at_T23 HR0.out x4_1 p250 q250
   have hw250_3 := hx250_3
   have hw250_2 := hx250_2
   have hw250_1 := hx250_1
   have hw250_0 := hx250_0
   cases e250
   replace hx250_0 := (HB.out.cell (World.block_lt_of_cell? w _ hx250_0)).trans hx250_0
   replace hx250_1 := (HB.out.cell (World.block_lt_of_cell? w _ hx250_1)).trans hx250_1
   replace hx250_2 := (HB.out.cell (World.block_lt_of_cell? w _ hx250_2)).trans hx250_2
   replace hx250_3 := (HB.out.cell (World.block_lt_of_cell? w _ hx250_3)).trans hx250_3
   replace p250 := eq_true p250
   replace q250 := eq_true q250
   have p251 : 0 ≤ (x4_1 : Int) := of_decide_eq_true (by first | (with_reducible assumption) | assumption)
   have q251 : x4_1 < (l0.length : Int) := of_decide_eq_true (by first | (with_reducible assumption) | assumption)
   obtain ⟨ad251, e251, hx251_0, hx251_1, hx251_2, hx251_3⟩ := at_T23 HR0.out x4_1 p251 q251
   have hw251_3 := hx251_3
   have hw251_2 := hx251_2
   have hw251_1 := hx251_1
   have hw251_0 := hx251_0
   obtain rfl : ad250 = ad251 := (by injection e251)
   replace hx251_0 := (HB.out.cell (World.block_lt_of_cell? w _ hx251_0)).trans hx251_0
   replace hx251_1 := (HB.out.cell (World.block_lt_of_cell? w _ hx251_1)).trans hx251_1
   replace hx251_2 := (HB.out.cell (World.block_lt_of_cell? w _ hx251_2)).trans hx251_2
   replace hx251_3 := (HB.out.cell (World.block_lt_of_cell? w _ hx251_3)).trans hx251_3
   replace p251 := eq_true p251
   replace q251 := eq_true q251
   have p252 : 0 ≤ (x4_1 : Int) := of_decide_eq_true (by first | (with_reducible assumption) | assumption)
   have q252 : x4_1 < (l0.length : Int) := of_decide_eq_true (by first | (with_reducible assumption) | assumption)
   obtain ⟨ad252, e252, hx252_0, hx252_1, hx252_2, hx252_3⟩ := at_T23 HR0.out x4_1 p252 q252
   have hw252_3 := hx252_3
   have hw252_2 := hx252_2
   have hw252_1 := hx252_1
   have hw252_0 := hx252_0
   obtain rfl : ad250 = ad252 := (by injection e252)
   replace hx252_0 := (HB.out.cell (World.block_lt_of_cell? w _ hx252_0)).trans hx252_0
   replace hx252_1 := (HB.out.cell (World.block_lt_of_cell? w _ hx252_1)).trans hx252_1
   replace hx252_2 := (HB.out.cell (World.block_lt_of_cell? w _ hx252_2)).trans hx252_2
   replace hx252_3 := (HB.out.cell (World.block_lt_of_cell? w _ hx252_3)).trans hx252_3
   replace p252 := eq_true p252
   replace q252 := eq_true q252
   have p253 : 0 ≤ (x4_1 : Int) := of_decide_eq_true (by first | (with_reducible assumption) | assumption)
   have q253 : x4_1 < (l0.length : Int) := of_decide_eq_true (by first | (with_reducible assumption) | assumption)
   obtain ⟨ad253, e253, hx253_0, hx253_1, hx253_2, hx253_3⟩ := at_T23 HR0.out x4_1 p253 q253
   have hw253_3 := hx253_3
   have hw253_2 := hx253_2
   have hw253_1 := hx253_1
   have hw253_0 := hx253_0
   obtain rfl : ad250 = ad253 := (by injection e253)
   replace hx253_0 := (HB.out.cell (World.block_lt_of_cell? w _ hx253_0)).trans hx253_0
   replace hx253_1 := (HB.out.cell (World.block_lt_of_cell? w _ hx253_1)).trans hx253_1
   replace hx253_2 := (HB.out.cell (World.block_lt_of_cell? w _ hx253_2)).trans hx253_2
   replace hx253_3 := (HB.out.cell (World.block_lt_of_cell? w _ hx253_3)).trans hx253_3
   replace p253 := eq_true p253
   replace q253 := eq_true q253
   refine start_ (n := 25) (S := fun w' => w'.cell? (ad250.add ((x4_1).toNat * 4)) = some (.string ((rd_T23 l0 x4_1).f0)) ∧ w'.cell? ⟨(ad250.add ((x4_1).toNat * 4)).block, (ad250.add ((x4_1).toNat * 4)).off + 1, none⟩ = some (.string ((rd_T23 l0 x4_1).f1)) ∧ w'.cell? ⟨(ad250.add ((x4_1).toNat * 4)).block, (ad250.add ((x4_1).toNat * 4)).off + 2, none⟩ = some (.string ((rd_T23 l0 x4_1).f2)) ∧ w'.cell? ⟨(ad250.add ((x4_1).toNat * 4)).block, (ad250.add ((x4_1).toNat * 4)).off + 3, none⟩ = some (.bool ((rd_T23 l0 x4_1).f3)) ∧ w'.cell? (ad250.add ((x4_1).toNat * 4)) = some (.string ((rd_T23 l0 x4_1).f0)) ∧ w'.cell? ⟨(ad250.add ((x4_1).toNat * 4)).block, (ad250.add ((x4_1).toNat * 4)).off + 1, none⟩ = some (.string ((rd_T23 l0 x4_1).f1)) ∧ w'.cell? ⟨(ad250.add ((x4_1).toNat * 4)).block, (ad250.add ((x4_1).toNat * 4)).off + 2, none⟩ = some (.string ((rd_T23 l0 x4_1).f2)) ∧ w'.cell? ⟨(ad250.add ((x4_1).toNat * 4)).block, (ad250.add ((x4_1).toNat * 4)).off + 3, none⟩ = some (.bool ((rd_T23 l0 x4_1).f3)) ∧ w'.cell? (ad250.add ((x4_1).toNat * 4)) = some (.string ((rd_T23 l0 x4_1).f0)) ∧ w'.cell? ⟨(ad250.add ((x4_1).toNat * 4)).block, (ad250.add ((x4_1).toNat * 4)).off + 1, none⟩ = some (.string ((rd_T23 l0 x4_1).f1)) ∧ w'.cell? ⟨(ad250.add ((x4_1).toNat * 4)).block, (ad250.add ((x4_1).toNat * 4)).off + 2, none⟩ = some (.string ((rd_T23 l0 x4_1).f2)) ∧ w'.cell? ⟨(ad250.add ((x4_1).toNat * 4)).block, (ad250.add ((x4_1).toNat * 4)).off + 3, none⟩ = some (.bool ((rd_T23 l0 x4_1).f3)) ∧ w'.cell? (ad250.add ((x4_1).toNat * 4)) = some (.string ((rd_T23 l0 x4_1).f0)) ∧ w'.cell? ⟨(ad250.add ((x4_1).toNat * 4)).block, (ad250.add ((x4_1).toNat * 4)).off + 1, none⟩ = some (.string ((rd_T23 l0 x4_1).f1)) ∧ w'.cell? ⟨(ad250.add ((x4_1).toNat * 4)).block, (ad250.add ((x4_1).toNat * 4)).off + 2, none⟩ = some (.string ((rd_T23 l0 x4_1).f2)) ∧ w'.cell? ⟨(ad250.add ((x4_1).toNat * 4)).block, (ad250.add ((x4_1).toNat * 4)).off + 3, none⟩ = some (.bool ((rd_T23 l0 x4_1).f3))) (ds := []) (mB_ 25 0) (by kernel_rfl) rfl rfl ⟨((HB.out.cell (World.block_lt_of_cell? w _ hw250_0)).trans hw250_0), ((HB.out.cell (World.block_lt_of_cell? w _ hw250_1)).trans hw250_1), ((HB.out.cell (World.block_lt_of_cell? w _ hw250_2)).trans hw250_2), ((HB.out.cell (World.block_lt_of_cell? w _ hw250_3)).trans hw250_3), ((HB.out.cell (World.block_lt_of_cell? w _ hw251_0)).trans hw251_0), ((HB.out.cell (World.block_lt_of_cell? w _ hw251_1)).trans hw251_1), ((HB.out.cell (World.block_lt_of_cell? w _ hw251_2)).trans hw251_2), ((HB.out.cell (World.block_lt_of_cell? w _ hw251_3)).trans hw251_3), ((HB.out.cell (World.block_lt_of_cell? w _ hw252_0)).trans hw252_0), ((HB.out.cell (World.block_lt_of_cell? w _ hw252_1)).trans hw252_1), ((HB.out.cell (World.block_lt_of_cell? w _ hw252_2)).trans hw252_2), ((HB.out.cell (World.block_lt_of_cell? w _ hw252_3)).trans hw252_3), ((HB.out.cell (World.block_lt_of_cell? w _ hw253_0)).trans hw253_0), ((HB.out.cell (World.block_lt_of_cell? w _ hw253_1)).trans hw253_1), ((HB.out.cell (World.block_lt_of_cell? w _ hw253_2)).trans hw253_2), ((HB.out.cell (World.block_lt_of_cell? w _ hw253_3)).trans hw253_3)⟩ (fun hHeld => ?_); refine with_tabW tenementlaw08_refWrites.tab5 tenementlaw08_refWrites.bits5 (fun HT_ HW_ => ?_)
   generalize wr.drew = w5 at HO_3 HB hx250_0 hx250_1 hx250_2 hx250_3 hx251_0 hx251_1 hx251_2 hx251_3 hx252_0 hx252_1 hx252_2 hx252_3 hx253_0 hx253_1 hx253_2 hx253_3 hHeld ⊢
   refine Kp_ 0 11 (mB_ 25 1) (any_of HT_.out (by kernel_rfl)) ?_
   refine Kp_ 1 12 (mB_ 25 3) (any_of HT_.out (by kernel_rfl)) ?_
   refine Kp_ 2 13 (mB_ 25 7) (any_of HT_.out (by kernel_rfl)) ?_
   refine Kp_ 3 14 (mB_ 25 15) (any_of HT_.out (by kernel_rfl)) ?_
   refine Kp_ 4 15 (mB_ 25 31) (any_of HT_.out (by kernel_rfl)) ?_
   refine Kp_ 6 17 (mB_ 25 95) (any_of HT_.out (by kernel_rfl)) ?_
   refine Kp_ 7 18 (mB_ 25 223) (any_of HT_.out (by kernel_rfl)) ?_
   refine Kp_ 8 19 (mB_ 25 479) (any_of HT_.out (by kernel_rfl)) ?_
   refine Kp_ 9 20 (mB_ 25 991) (any_of HT_.out (by kernel_rfl)) ?_
   refine Kp_ 11 22 (mB_ 25 3039) (any_of HT_.out (by kernel_rfl)) ?_
   refine Kp_ 12 23 (mB_ 25 7135) (any_of HT_.out (by kernel_rfl)) ?_
   refine Kp_ 13 24 (mB_ 25 15327) (any_of HT_.out (by kernel_rfl)) ?_
   refine Kp_ 14 25 (mB_ 25 31711) (any_of HT_.out (by kernel_rfl)) ?_
   refine Kp_ 16 27 (mB_ 25 97247) (any_of HT_.out (by kernel_rfl)) ?_
   refine Kp_ 17 28 (mB_ 25 228319) (any_of HT_.out (by kernel_rfl)) ?_
   refine Kp_ 18 29 (mB_ 25 490463) (any_of HT_.out (by kernel_rfl)) ?_
   refine Kp_ 19 30 (mB_ 25 1014751) (any_of HT_.out (by kernel_rfl)) ?_
   refine Ko_ 5 16 (mB_ 25 1014783) (take_ofW HT_.out HW_.out (by kernel_rfl)) hHeld ?_
   refine Ko_ 10 21 (mB_ 25 1015807) (take_ofW HT_.out HW_.out (by kernel_rfl)) hHeld ?_
   refine Ko_ 15 26 (mB_ 25 1048575) (take_ofW HT_.out HW_.out (by kernel_rfl)) hHeld ?_
   refine Ko_ 20 31 (mB_ 25 2097151) (take_ofW HT_.out HW_.out (by kernel_rfl)) hHeld ?_
   refine Kp_ 21 32 (mB_ 25 4194303) (any_of HT_.out (by kernel_rfl)) ?_
   refine one_ (i := 22) (N := some 33) (mB_ 25 8388607) rfl rfl (one_of HT_.out (by kernel_rfl)) (by decide) (fun K hK => ?_)
   refine value_ (w1 := ?_) (v := ?_) (by rfl) rfl ?_ ?_
   rotate_left 2
   ·go_simp
    constructor
    ·rfl
    ·rfl
   refine hK.out _ _ ⟨(World.cell?_alloc_lt _ _ _ (World.block_lt_of_cell? _ _ (((HB.out.cell (World.block_lt_of_cell? w _ hw250_0)).trans hw250_0)))).trans (((HB.out.cell (World.block_lt_of_cell? w _ hw250_0)).trans hw250_0)), (World.cell?_alloc_lt _ _ _ (World.block_lt_of_cell? _ _ (((HB.out.cell (World.block_lt_of_cell? w _ hw250_1)).trans hw250_1)))).trans (((HB.out.cell (World.block_lt_of_cell? w _ hw250_1)).trans hw250_1)), (World.cell?_alloc_lt _ _ _ (World.block_lt_of_cell? _ _ (((HB.out.cell (World.block_lt_of_cell? w _ hw250_2)).trans hw250_2)))).trans (((HB.out.cell (World.block_lt_of_cell? w _ hw250_2)).trans hw250_2)), (World.cell?_alloc_lt _ _ _ (World.block_lt_of_cell? _ _ (((HB.out.cell (World.block_lt_of_cell? w _ hw250_3)).trans hw250_3)))).trans (((HB.out.cell (World.block_lt_of_cell? w _ hw250_3)).trans hw250_3)), (World.cell?_alloc_lt _ _ _ (World.block_lt_of_cell? _ _ (((HB.out.cell (World.block_lt_of_cell? w _ hw251_0)).trans hw251_0)))).trans (((HB.out.cell (World.block_lt_of_cell? w _ hw251_0)).trans hw251_0)), (World.cell?_alloc_lt _ _ _ (World.block_lt_of_cell? _ _ (((HB.out.cell (World.block_lt_of_cell? w _ hw251_1)).trans hw251_1)))).trans (((HB.out.cell (World.block_lt_of_cell? w _ hw251_1)).trans hw251_1)), (World.cell?_alloc_lt _ _ _ (World.block_lt_of_cell? _ _ (((HB.out.cell (World.block_lt_of_cell? w _ hw251_2)).trans hw251_2)))).trans (((HB.out.cell (World.block_lt_of_cell? w _ hw251_2)).trans hw251_2)), (World.cell?_alloc_lt _ _ _ (World.block_lt_of_cell? _ _ (((HB.out.cell (World.block_lt_of_cell? w _ hw251_3)).trans hw251_3)))).trans (((HB.out.cell (World.block_lt_of_cell? w _ hw251_3)).trans hw251_3)), (World.cell?_alloc_lt _ _ _ (World.block_lt_of_cell? _ _ (((HB.out.cell (World.block_lt_of_cell? w _ hw252_0)).trans hw252_0)))).trans (((HB.out.cell (World.block_lt_of_cell? w _ hw252_0)).trans hw252_0)), (World.cell?_alloc_lt _ _ _ (World.block_lt_of_cell? _ _ (((HB.out.cell (World.block_lt_of_cell? w _ hw252_1)).trans hw252_1)))).trans (((HB.out.cell (World.block_lt_of_cell? w _ hw252_1)).trans hw252_1)), (World.cell?_alloc_lt _ _ _ (World.block_lt_of_cell? _ _ (((HB.out.cell (World.block_lt_of_cell? w _ hw252_2)).trans hw252_2)))).trans (((HB.out.cell (World.block_lt_of_cell? w _ hw252_2)).trans hw252_2)), (World.cell?_alloc_lt _ _ _ (World.block_lt_of_cell? _ _ (((HB.out.cell (World.block_lt_of_cell? w _ hw252_3)).trans hw252_3)))).trans (((HB.out.cell (World.block_lt_of_cell? w _ hw252_3)).trans hw252_3)), (World.cell?_alloc_lt _ _ _ (World.block_lt_of_cell? _ _ (((HB.out.cell (World.block_lt_of_cell? w _ hw253_0)).trans hw253_0)))).trans (((HB.out.cell (World.block_lt_of_cell? w _ hw253_0)).trans hw253_0)), (World.cell?_alloc_lt _ _ _ (World.block_lt_of_cell? _ _ (((HB.out.cell (World.block_lt_of_cell? w _ hw253_1)).trans hw253_1)))).trans (((HB.out.cell (World.block_lt_of_cell? w _ hw253_1)).trans hw253_1)), (World.cell?_alloc_lt _ _ _ (World.block_lt_of_cell? _ _ (((HB.out.cell (World.block_lt_of_cell? w _ hw253_2)).trans hw253_2)))).trans (((HB.out.cell (World.block_lt_of_cell? w _ hw253_2)).trans hw253_2)), (World.cell?_alloc_lt _ _ _ (World.block_lt_of_cell? _ _ (((HB.out.cell (World.block_lt_of_cell? w _ hw253_3)).trans hw253_3)))).trans (((HB.out.cell (World.block_lt_of_cell? w _ hw253_3)).trans hw253_3))⟩ (fun hHeld => ?_)
   clear hK K
   refine Kn_ 33 ?_
   refine one_ (i := 23) (N := some 34) (mB_ 25 16777215) rfl rfl (one_of HT_.out (by kernel_rfl)) (by decide) (fun K hK => ?_)
   refine Kd.R_append_step k38 (w0 := w) w.heap.size (by rfl) (.tmp 11) (.tmp 33) 39 38 (.agg #[(.string ⟨#[]⟩), (.string ⟨#[]⟩), (.string ⟨#[]⟩), (.bool false)]) 56 rfl Try.underlying39 info38 rfl (by decide) (by omega) u3 x3_1 (⟨(rd_T23 l0 x4_1).f0, (rd_T23 l0 x4_1).f1, (rd_T23 l0 x4_1).f2, (rd_T23 l0 x4_1).f3⟩ : S38) [.string ((rd_T23 l0 x4_1).f0), .string ((rd_T23 l0 x4_1).f1), .string ((rd_T23 l0 x4_1).f2), .bool ((rd_T23 l0 x4_1).f3)] (fun _ => True) (fun _ => False) rfl rfl ?aP (fun _ hk => hk.elim) ?aF ?aO ?aB ?aS ?aL ?_
   (case aP => exact k38_mkM _ _ _ (⟨(rd_T23 l0 x4_1).f0, (rd_T23 l0 x4_1).f1, (rd_T23 l0 x4_1).f2, (rd_T23 l0 x4_1).f3⟩ : S38))
   (case aB => exact (Ky_ HB))
   (case aF => exact (fun _ _ => trivial))
   (case aO => exact (Ku_ HO_3))
   (case aS => exact (below_size (Ky_ HB)))
   (case aL => have := LMc4.out; omega)
   intro v255 w6 ho hb hg hat
   rw [← Ny254.out] at ho
   have HO256 := Aside0.mk (ho)
   replace HB := Aside0.mk (hb)
   clear HO_3
   clear ho hb hg hat
   refine hK.out _ _ ⟨((HB.out.cell (World.block_lt_of_cell? w _ hw250_0)).trans hw250_0), ((HB.out.cell (World.block_lt_of_cell? w _ hw250_1)).trans hw250_1), ((HB.out.cell (World.block_lt_of_cell? w _ hw250_2)).trans hw250_2), ((HB.out.cell (World.block_lt_of_cell? w _ hw250_3)).trans hw250_3), ((HB.out.cell (World.block_lt_of_cell? w _ hw251_0)).trans hw251_0), ((HB.out.cell (World.block_lt_of_cell? w _ hw251_1)).trans hw251_1), ((HB.out.cell (World.block_lt_of_cell? w _ hw251_2)).trans hw251_2), ((HB.out.cell (World.block_lt_of_cell? w _ hw251_3)).trans hw251_3), ((HB.out.cell (World.block_lt_of_cell? w _ hw252_0)).trans hw252_0), ((HB.out.cell (World.block_lt_of_cell? w _ hw252_1)).trans hw252_1), ((HB.out.cell (World.block_lt_of_cell? w _ hw252_2)).trans hw252_2), ((HB.out.cell (World.block_lt_of_cell? w _ hw252_3)).trans hw252_3), ((HB.out.cell (World.block_lt_of_cell? w _ hw253_0)).trans hw253_0), ((HB.out.cell (World.block_lt_of_cell? w _ hw253_1)).trans hw253_1), ((HB.out.cell (World.block_lt_of_cell? w _ hw253_2)).trans hw253_2), ((HB.out.cell (World.block_lt_of_cell? w _ hw253_3)).trans hw253_3)⟩ (fun hHeld => ?_)
   clear hK K
   refine Kn_ 34 ?_
   refine Kp_ 24 3 (mB_ 25 33554431) (any_of HT_.out (by kernel_rfl)) ?_
   refine done_ (done_of HT_.out (by kernel_rfl)) ?_
   try go_wp2
   go_roundg k1
   case measure => have := HK1.out; omega
   case rel => exact ⟨(y254), (wrap64 (x4_1 + 1)), (by first | rfl | (simp; done) | (simp [*]; done)), H', ⟨by have := HK1.out; omega⟩, ⟨by (with_reducible repeat (first | apply Kd.R_alloc | apply Kd.R_drewN | apply Kd.R_drew)); exact HO256.out⟩, ⟨Ky_ HB⟩⟩
def tenementlaw08_refStamp.f (a0_0 : Int) (a0_1 : Int) (a0_2 : Int) (a0_3 : Int) (a0_4 : Int) : Option (Int × Int × Int × Int × Int) := some (a0_0, a0_1, a0_2, a0_3, a0_4)
set_option maxHeartbeats 8000000 in
set_option maxRecDepth 100000 in
theorem tenementlaw08_refStamp.calls (a0_0 : Int) (a0_1 : Int) (a0_2 : Int) (a0_3 : Int) (a0_4 : Int) (r1 : Int) (r2 : Int) (r3 : Int) (r4 : Int) (r5 : Int) (w : World) (h : tenementlaw08_refStamp.f a0_0 a0_1 a0_2 a0_3 a0_4 = some (r1, r2, r3, r4, r5)) :
  Calls Try.prog 41 #[.agg #[.int .u64 a0_0, .int .u64 a0_1, .int .u64 a0_2, .int .u64 a0_3, .int .i64 a0_4]] w fun e w' => e = .returned (.agg #[.int .u64 r1, .int .u64 r2, .int .u64 r3, .int .u64 r4, .int .i64 r5]) ∧ Below w.heap.size w w' := by
 have hu30 := Try.underlying30
 have hu50 := Try.underlying50
 have hu28 := Try.underlying28
 have HB := Aside0.mk (Below.refl w.heap.size w)
 have H : (some (a0_0, a0_1, a0_2, a0_3, a0_4)) = some (r1, r2, r3, r4, r5) := h
 clear h
 simp only [Option.some.injEq, Prod.mk.injEq] at H
 obtain ⟨rfl, rfl, rfl, rfl, rfl⟩ := H
 go_enter Try.func41, Try.ntmps41
 go_wp2_with (first | ((with_reducible refine gate_dst (N := 1) rfl ?_); refine Ka_ 1 #[.int .u64 a0_0, .int .u64 a0_1, .int .u64 a0_2, .int .u64 a0_3, .int .i64 a0_4] 30 ?_; intro gb341 hg w2 hbox hb; have BK341 := Aside0.mk (hbox); have GW341 := Kw_ HB hg; have GE341 := GW341; replace HB := Ks_ HB hb; clear hb hbox hg) | ((with_reducible refine gate_dst (N := 2) rfl ?_); refine Ka_ 2 #[.int .u64 0, .int .u64 0, .int .u64 0, .int .u64 0, .int .i64 0] 50 ?_; intro gb342 hg w3 hbox hb; have BK342 := Aside0.mk (hbox); have GW342 := Kw_ HB hg; have GE342 := GW342; have NB341_342 := Kl_ BK341 hg; have NB342_341 := Kr_ BK341 hg; replace BK341 := Kb_ BK341 hb; replace HB := Ks_ HB hb; clear hb hbox hg; have hnb4 := NB341_342.out; have hnc4 := NB342_341.out; obtain ⟨hcz5_0, hcz5_1, hcz5_2, hcz5_3, hcz5_4, hfz5_0, hfz5_1, hfz5_2, hfz5_3, hfz5_4⟩ := Ke5_ BK341.out; obtain ⟨hcz6_0, hcz6_1, hcz6_2, hcz6_3, hcz6_4, hfz6_0, hfz6_1, hfz6_2, hfz6_3, hfz6_4⟩ := Ke5_ BK342.out))
 refine bodyPost_ret (results_cell_row rfl _ _ gb342 50 #[.int .u64 a0_0, .int .u64 a0_1, .int .u64 a0_2, .int .u64 a0_3, .int .i64 a0_4] (0, 0) _ rfl (by refine Kv_ ?_; refine blk_put (cs := #[.int .u64 a0_0, .int .u64 a0_1, .int .u64 a0_2, .int .u64 a0_3, .int .i64 0]) ?_ 4 _ rfl; refine Kv_ ?_; refine blk_put (cs := #[.int .u64 a0_0, .int .u64 a0_1, .int .u64 a0_2, .int .u64 0, .int .i64 0]) ?_ 3 _ rfl; refine Kv_ ?_; refine blk_put (cs := #[.int .u64 a0_0, .int .u64 a0_1, .int .u64 0, .int .u64 0, .int .i64 0]) ?_ 2 _ rfl; refine Kv_ ?_; refine blk_put (cs := #[.int .u64 a0_0, .int .u64 0, .int .u64 0, .int .u64 0, .int .i64 0]) ?_ 1 _ rfl; refine Kv_ ?_; refine blk_put (cs := #[.int .u64 0, .int .u64 0, .int .u64 0, .int .u64 0, .int .i64 0]) ?_ 0 _ rfl; exact Kq_ BK342) Try.underlying50 rfl (by kernel_rfl)) rfl ?_
 exact ⟨Kh_, K2a_ HB GE341 GE342⟩
def tenementlaw08_refTxn.f (k : Nat) (a0_0 : Int) (a0_1 : Int) (a0_2 : Int) (a0_3 : Int) (a0_4 : Int) (l0_5 : List (S23)) : Option (Int × Int × Int × Int × Int × (List (S38))) := (tenementlaw08_refStamp.f a0_0 a0_1 a0_2 a0_3 a0_4).bind fun bt345 => ((tenementlaw08_refWrites.f k l0_5).bind fun t350 => (some (bt345.1, bt345.2.1, bt345.2.2.1, bt345.2.2.2.1, bt345.2.2.2.2, t350)))
def tenementlaw08_refTxn.T1 : Bool × List (List Nat × List Nat) := (true, [([], []), ([0], [0]), ([1], [1]), ([], []), ([3], [3]), ([4, 2], [4]), ([2, 5], [2, 5]), ([6, 5, 0, 1, 2, 3, 4, 5, 6], [6])])
def tenementlaw08_refTxn.B1 : List Nat := [0, 1, 3, 0, 8, 31, 63, 127]
theorem tenementlaw08_refTxn.tab1 : rtab .any (opsOf Try.f17 1) = tenementlaw08_refTxn.T1 := by kernel_rfl
theorem tenementlaw08_refTxn.bits1 : waitsOk tenementlaw08_refTxn.T1.2 tenementlaw08_refTxn.B1 = true := by kernel_rfl
set_option maxHeartbeats 8000000 in
set_option maxRecDepth 100000 in
theorem tenementlaw08_refTxn.calls (k : Nat) (a0_0 : Int) (a0_1 : Int) (a0_2 : Int) (a0_3 : Int) (a0_4 : Int) (A0_5 : Option Addr) (c0_5 : Nat) (l0_5 : List (S23)) (r1 : Int) (r2 : Int) (r3 : Int) (r4 : Int) (r5 : Int) (r6 : List (S38)) (w : World) (hr0_5 : Kd.C k23 w A0_5 l0_5.length l0_5) (hc0_5 : l0_5.length ≤ c0_5) (h : tenementlaw08_refTxn.f k a0_0 a0_1 a0_2 a0_3 a0_4 l0_5 = some (r1, r2, r3, r4, r5, r6)) :
  Calls Try.prog 17 #[.agg #[.int .u64 a0_0, .int .u64 a0_1, .int .u64 a0_2, .int .u64 a0_3, .int .i64 a0_4, .slice A0_5 l0_5.length c0_5]] w fun e w' => ∃ v5_ : Value, e = .returned (.agg #[.int .u64 r1, .int .u64 r2, .int .u64 r3, .int .u64 r4, .int .i64 r5, v5_]) ∧ Kd.R k38 38 w' w.heap.size (fun _ => True) v5_ r6 ∧ Below w.heap.size w w' := by
 have hu43 := Try.underlying43
 have hu52 := Try.underlying52
 have hu30 := Try.underlying30
 have HR0_5 := Aside0.mk hr0_5
 have HC0_5 := Aside0.mk hc0_5
 clear hr0_5 hc0_5
 have HB := Aside0.mk (Below.refl w.heap.size w)
 have H : ((tenementlaw08_refStamp.f a0_0 a0_1 a0_2 a0_3 a0_4).bind fun bt345 => ((tenementlaw08_refWrites.f k l0_5).bind fun t350 => (some (bt345.1, bt345.2.1, bt345.2.2.1, bt345.2.2.2.1, bt345.2.2.2.2, t350)))) = some (r1, r2, r3, r4, r5, r6) := h
 clear h
 replace H := Option.bind_eq_some_iff.mp H
 obtain ⟨⟨t345, t346, t347, t348, t349⟩, A20, H⟩ := H
 replace H : ((tenementlaw08_refWrites.f k l0_5).bind fun t350 => (some (t345, t346, t347, t348, t349, t350))) = some (r1, r2, r3, r4, r5, r6) := H
 have A2 := Aside0.mk A20
 clear A20
 replace H := Option.bind_eq_some_iff.mp H
 obtain ⟨t350, A30, H⟩ := H
 replace H : (some (t345, t346, t347, t348, t349, t350)) = some (r1, r2, r3, r4, r5, r6) := H
 have A3 := Aside0.mk A30
 clear A30
 simp only [Option.some.injEq, Prod.mk.injEq] at H
 obtain ⟨rfl, rfl, rfl, rfl, rfl, rfl⟩ := H
 go_enter Try.func17, Try.ntmps17
 try go_wp2_with (first | ((with_reducible refine gate_dst (N := 1) rfl ?_); refine Ka_ 1 #[.int .u64 a0_0, .int .u64 a0_1, .int .u64 a0_2, .int .u64 a0_3, .int .i64 a0_4, .slice A0_5 l0_5.length c0_5] 43 ?_; intro gb343 hg w4 hbox hb; have BK343 := Aside0.mk (hbox); have GW343 := Kw_ HB hg; have GE343 := GW343; replace HB := Ks_ HB hb; clear hb hbox hg) | ((with_reducible refine gate_dst (N := 2) rfl ?_); refine Ka_ 2 #[.int .u64 0, .int .u64 0, .int .u64 0, .int .u64 0, .int .i64 0, .slice none 0 0] 52 ?_; intro gb344 hg w5 hbox hb; have BK344 := Aside0.mk (hbox); have GW344 := Kw_ HB hg; have GE344 := GW344; have NB343_344 := Kl_ BK343 hg; have NB344_343 := Kr_ BK343 hg; replace BK343 := Kb_ BK343 hb; replace HB := Ks_ HB hb; clear hb hbox hg))
 replace BK343 := Kd_ BK343
 replace BK344 := Kd_ BK344
 replace HB := Aside0.mk (below_drew1 HB.out)
 refine start_ (n := 8) (S := fun w' => w'.cell? ⟨gb343, 0, none⟩ = some (.int .u64 a0_0) ∧ w'.cell? ⟨gb343, 1, none⟩ = some (.int .u64 a0_1) ∧ w'.cell? ⟨gb343, 2, none⟩ = some (.int .u64 a0_2) ∧ w'.cell? ⟨gb343, 3, none⟩ = some (.int .u64 a0_3) ∧ w'.cell? ⟨gb343, 4, none⟩ = some (.int .i64 a0_4) ∧ w'.cell? ⟨gb343, 5, none⟩ = some (.slice A0_5 l0_5.length c0_5)) (ds := []) (mB_ 8 0) (by kernel_rfl) rfl rfl (Kc6_ BK343.out) (fun hHeld => ?_); refine with_tabW tenementlaw08_refTxn.tab1 tenementlaw08_refTxn.bits1 (fun HT_ HW_ => ?_)
 generalize w5.drew = w6 at BK343 BK344 HB hHeld ⊢
 refine Kp_ 0 3 (mB_ 8 1) (any_of HT_.out (by kernel_rfl)) ?_
 refine Kp_ 3 6 (mB_ 8 9) (any_of HT_.out (by kernel_rfl)) ?_
 refine Ko_ 1 4 (mB_ 8 11) (take_ofW HT_.out HW_.out (by kernel_rfl)) hHeld ?_
 refine Ko_ 4 7 (mB_ 8 27) (take_ofW HT_.out HW_.out (by kernel_rfl)) hHeld ?_
 refine one_ (i := 2) (N := some 5) (mB_ 8 31) rfl rfl (one_of HT_.out (by kernel_rfl)) (by decide) (fun K hK => ?_)
 refine goes_ Try.func41 (by kernel_rfl) rfl #[.agg #[.int .u64 a0_0, .int .u64 a0_1, .int .u64 a0_2, .int .u64 a0_3, .int .i64 a0_4]] (by rfl) rfl rfl (by (try simp only [List.map_toArray, List.map_cons, List.map_nil]); first | done | rfl | (simp only [List.length_drop, List.length_take]; rfl)) ?_
 with_reducible refine (tenementlaw08_refStamp.calls a0_0 a0_1 a0_2 a0_3 a0_4 t345 t346 t347 t348 t349 _ A2.out).mono ?_
 rintro e w7 ⟨rfl, hb⟩
 refine ⟨_, rfl, ?_⟩
 replace BK343 := Kb_ BK343 hb
 replace BK344 := Kb_ BK344 hb
 replace HB := Ks_ HB hb
 (try clear hb)
 (try clear hb2)
 (try clear hk)
 (try clear hi)
 refine hK.out _ _ (Kc6_ BK343.out) (fun hHeld => ?_)
 clear hK K
 refine Kn_ 5 ?_
 refine one_ (i := 5) (N := some 8) (mB_ 8 63) rfl rfl (one_of HT_.out (by kernel_rfl)) (by decide) (fun K hK => ?_)
 refine goes_ Try.func13 (by kernel_rfl) rfl #[.slice A0_5 l0_5.length c0_5] (by rfl) rfl rfl (by (try simp only [List.map_toArray, List.map_cons, List.map_nil]); first | done | rfl | (simp only [List.length_drop, List.length_take]; rfl)) ?_
 with_reducible refine (tenementlaw08_refWrites.calls k _ _ l0_5 t350 _ ?side1 ?side2 A3.out).mono ?_
 (case side1 => repeat (first | exact (Kd.C_below HR0_5.out HB.out) | (with_reducible refine Kd.C_alloc ?_ _) | (with_reducible refine Kd.C_drewN ?_ _) | (with_reducible refine Kd.C_drew ?_)))
 (case side2 => exact HC0_5.out)
 rintro e w8 ⟨v351, rfl, ho0, hb⟩
 refine ⟨_, rfl, ?_⟩
 have HO352 := Aside0.mk (Kd.R_lower ho0 (below_size (K2a_ HB GE343 GE344)))
 replace BK343 := Kb_ BK343 hb
 replace BK344 := Kb_ BK344 hb
 replace HB := Ks_ HB hb
 (try clear hb)
 (try clear hb2)
 (try clear hk)
 (try clear hi)
 (try clear ho0)
 obtain ⟨Ao9, co9, eo9⟩ := Kd.R_slice HO352.out
 (first | subst eo9 | (injection eo9 with f1_ f2_ f3_; have f4_ := f1_.symm; have f5_ := f3_.symm; clear f1_ f2_ f3_; subst f4_; subst f5_))
 refine hK.out _ _ (Kc6_ BK343.out) (fun hHeld => ?_)
 clear hK K
 refine Kn_ 8 ?_
 refine Kp_ 6 9 (mB_ 8 127) (any_of HT_.out (by kernel_rfl)) ?_
 refine one_ (i := 7) (N := none) (mB_ 8 255) rfl rfl (one_of HT_.out (by kernel_rfl)) (by decide) (fun K hK => ?_)
 have hs10 : w8.cell? ⟨gb344, 0, none⟩ = some (.int .u64 0) := (blk_cell BK344.out 0).trans rfl
 have hfs10 := blk_frozen BK344.out 0
 have hns10_0 := NB343_344.out
 have hms10_0 := NB344_343.out
 have hs11 : w8.cell? ⟨gb344, 1, none⟩ = some (.int .u64 0) := (blk_cell BK344.out 1).trans rfl
 have hfs11 := blk_frozen BK344.out 1
 have hns11_0 := NB343_344.out
 have hms11_0 := NB344_343.out
 have hs12 : w8.cell? ⟨gb344, 2, none⟩ = some (.int .u64 0) := (blk_cell BK344.out 2).trans rfl
 have hfs12 := blk_frozen BK344.out 2
 have hns12_0 := NB343_344.out
 have hms12_0 := NB344_343.out
 have hs13 : w8.cell? ⟨gb344, 3, none⟩ = some (.int .u64 0) := (blk_cell BK344.out 3).trans rfl
 have hfs13 := blk_frozen BK344.out 3
 have hns13_0 := NB343_344.out
 have hms13_0 := NB344_343.out
 have hs14 : w8.cell? ⟨gb344, 4, none⟩ = some (.int .i64 0) := (blk_cell BK344.out 4).trans rfl
 have hfs14 := blk_frozen BK344.out 4
 have hns14_0 := NB343_344.out
 have hms14_0 := NB344_343.out
 have hs15 : w8.cell? ⟨gb344, 5, none⟩ = some (.slice none 0 0) := (blk_cell BK344.out 5).trans rfl
 have hfs15 := blk_frozen BK344.out 5
 have hns15_0 := NB343_344.out
 have hms15_0 := NB344_343.out
 refine skip_ (w1 := ?_) (by rfl) rfl ?_ ?_
 rotate_left
 ·go_simp
  rfl
 refine hK.out _ _ ⟨(Kj_ NB343_344 ((Kj_ NB343_344 ((Kj_ NB343_344 ((Kj_ NB343_344 ((Kj_ NB343_344 ((Kj_ NB343_344 (hHeld.1)))))))))))), (Kj_ NB343_344 ((Kj_ NB343_344 ((Kj_ NB343_344 ((Kj_ NB343_344 ((Kj_ NB343_344 ((Kj_ NB343_344 (hHeld.2.1)))))))))))), (Kj_ NB343_344 ((Kj_ NB343_344 ((Kj_ NB343_344 ((Kj_ NB343_344 ((Kj_ NB343_344 ((Kj_ NB343_344 (hHeld.2.2.1)))))))))))), (Kj_ NB343_344 ((Kj_ NB343_344 ((Kj_ NB343_344 ((Kj_ NB343_344 ((Kj_ NB343_344 ((Kj_ NB343_344 (hHeld.2.2.2.1)))))))))))), (Kj_ NB343_344 ((Kj_ NB343_344 ((Kj_ NB343_344 ((Kj_ NB343_344 ((Kj_ NB343_344 ((Kj_ NB343_344 (hHeld.2.2.2.2.1)))))))))))), (Kj_ NB343_344 ((Kj_ NB343_344 ((Kj_ NB343_344 ((Kj_ NB343_344 ((Kj_ NB343_344 ((Kj_ NB343_344 (hHeld.2.2.2.2.2))))))))))))⟩ (fun hHeld => ?_)
 clear hK K
 refine done_ (done_of HT_.out (by kernel_rfl)) ?_
 try go_wp2
 refine bodyPost_ret (results_cell_row rfl _ _ gb344 52 #[.int .u64 t345, .int .u64 t346, .int .u64 t347, .int .u64 t348, .int .i64 t349, .slice Ao9 t350.length co9] (0, 0) _ rfl (by refine Kv_ ?_; refine blk_put (cs := #[.int .u64 t345, .int .u64 t346, .int .u64 t347, .int .u64 t348, .int .i64 t349, .slice none 0 0]) ?_ 5 _ rfl; refine Kv_ ?_; refine blk_put (cs := #[.int .u64 t345, .int .u64 t346, .int .u64 t347, .int .u64 t348, .int .i64 0, .slice none 0 0]) ?_ 4 _ rfl; refine Kv_ ?_; refine blk_put (cs := #[.int .u64 t345, .int .u64 t346, .int .u64 t347, .int .u64 0, .int .i64 0, .slice none 0 0]) ?_ 3 _ rfl; refine Kv_ ?_; refine blk_put (cs := #[.int .u64 t345, .int .u64 t346, .int .u64 0, .int .u64 0, .int .i64 0, .slice none 0 0]) ?_ 2 _ rfl; refine Kv_ ?_; refine blk_put (cs := #[.int .u64 t345, .int .u64 0, .int .u64 0, .int .u64 0, .int .i64 0, .slice none 0 0]) ?_ 1 _ rfl; refine Kv_ ?_; refine blk_put (cs := #[.int .u64 0, .int .u64 0, .int .u64 0, .int .u64 0, .int .i64 0, .slice none 0 0]) ?_ 0 _ rfl; exact Kq_ BK344) Try.underlying52 rfl (by kernel_rfl)) rfl ?_
 exact ⟨_, by first | rfl | (simp [errW_none, errW_some] <;> rfl) | (simp [*, errW_none, errW_some] <;> rfl), by (with_reducible repeat (first | apply Kd.R_alloc | apply Kd.R_drewN | apply Kd.R_drew)); exact Kd.R_mono (Kd.R_far (p := ⟨gb344, 5, none⟩) (Kd.R_far (p := ⟨gb344, 4, none⟩) (Kd.R_far (p := ⟨gb344, 3, none⟩) (Kd.R_far (p := ⟨gb344, 2, none⟩) (Kd.R_far (p := ⟨gb344, 1, none⟩) (Kd.R_far (p := ⟨gb344, 0, none⟩) (Kd.R_types HO352.out BK344.out (by decide)) (fun _ hk => hk.2) (.int .u64 t345)) (fun _ hk => hk.2) (.int .u64 t346)) (fun _ hk => hk.2) (.int .u64 t347)) (fun _ hk => hk.2) (.int .u64 t348)) (fun _ hk => hk.2) (.int .i64 t349)) (fun _ hk => hk.2) (.slice Ao9 t350.length co9)) (fun _ hk => trivial), K2a_ HB GE343 GE344⟩
theorem eqA38 (d : Nat) (w : World) (x0 y0 : ByteArray) (x1 y1 : ByteArray) (x2 y2 : ByteArray) (x3 y3 : Bool) :
  (Op.equalIn (d + 2) 38 (.agg #[.string x0, .string x1, .string x2, .bool x3]) (.agg #[.string y0, .string y1, .string y2, .bool y3])).run Try.prog w = .ok (x0.toList == y0.toList && (x1.toList == y1.toList && (x2.toList == y2.toList && (x3 == y3)))) w := by
 refine eqA_of Try.underlying38 (by kernel_rfl) ?_
 refine eqf_cons (by rfl) (by go_simp; rfl) (by go_simp; rfl) (by go_simp) ?_
 refine eqf_cons (by rfl) (by go_simp; rfl) (by go_simp; rfl) (by go_simp) ?_
 refine eqf_cons (by rfl) (by go_simp; rfl) (by go_simp; rfl) (by go_simp) ?_
 exact eqf_last (by rfl) (by go_simp; rfl) (by go_simp; rfl) (by go_simp)
theorem eqA48 (d : Nat) (w : World) (x0 y0 : Int) (x1 y1 : Int) (x2 y2 : Int) (x3 y3 : Int) :
  (Op.equalIn (d + 2) 48 (.agg #[.int .u64 x0, .int .u64 x1, .int .u64 x2, .int .u64 x3]) (.agg #[.int .u64 y0, .int .u64 y1, .int .u64 y2, .int .u64 y3])).run Try.prog w = .ok (x0 == y0 && (x1 == y1 && (x2 == y2 && (x3 == y3)))) w := by
 have hu := Try.underlying48
 have hs : (sizeOf 26).run Try.prog w = .ok 1 w := by go_simp
 have hp : ∀ (xs : Array Value) (i : Nat) (v : Value), xs[i]? = some v → (part 26 xs i).run Try.prog w = .ok v w := by
  intro xs i v h
  unfold part
  go_simp
 have hE : ∀ a b : Int, (Op.equalIn (d + 1) 26 (.int .u64 a) (.int .u64 b)).run Try.prog w = .ok (a == b) w := by intro a b; go_simp
 obtain ⟨X, hX⟩ : ∃ X, X = (#[.int .u64 x0, .int .u64 x1, .int .u64 x2, .int .u64 x3] : Array Value) := ⟨_, rfl⟩
 obtain ⟨Y, hY⟩ : ∃ Y, Y = (#[.int .u64 y0, .int .u64 y1, .int .u64 y2, .int .u64 y3] : Array Value) := ⟨_, rfl⟩
 rw [← hX, ← hY]
 have a0 : (part 26 X 0).run Try.prog w = .ok (.int .u64 x0) w := by rw [hX]; exact hp _ 0 _ rfl
 have b0 : (part 26 Y 0).run Try.prog w = .ok (.int .u64 y0) w := by rw [hY]; exact hp _ 0 _ rfl
 have a1 : (part 26 X 1).run Try.prog w = .ok (.int .u64 x1) w := by rw [hX]; exact hp _ 1 _ rfl
 have b1 : (part 26 Y 1).run Try.prog w = .ok (.int .u64 y1) w := by rw [hY]; exact hp _ 1 _ rfl
 have a2 : (part 26 X 2).run Try.prog w = .ok (.int .u64 x2) w := by rw [hX]; exact hp _ 2 _ rfl
 have b2 : (part 26 Y 2).run Try.prog w = .ok (.int .u64 y2) w := by rw [hY]; exact hp _ 2 _ rfl
 have a3 : (part 26 X 3).run Try.prog w = .ok (.int .u64 x3) w := by rw [hX]; exact hp _ 3 _ rfl
 have b3 : (part 26 Y 3).run Try.prog w = .ok (.int .u64 y3) w := by rw [hY]; exact hp _ 3 _ rfl
 clear hX hY hp
 obtain ⟨m, hm⟩ : ∃ m, d + 1 = m := ⟨_, rfl⟩
 rw [hm] at hE
 rw [show d + 2 = m + 1 by omega]
 clear hm
 unfold Op.equalIn
 simp only [Sem.run_bind, run_underlying hu, Result.andThen_ok, hs, Nat.mul_one]
 have hfor : ∀ (f : Nat → Option Bool × Unit → Sem (ForInStep (Option Bool × Unit))), forIn (m := Sem) [:4] ((none, ()) : Option Bool × Unit) f = forIn (m := Sem) [0, 1, 2, 3] ((none, ()) : Option Bool × Unit) f := by
  intro f
  simp
  rfl
 rw [hfor]
 simp only [List.forIn_cons, List.forIn_nil, Sem.run_bind, a0, b0, a1, b1, a2, b2, a3, b3, Result.andThen_ok, hE]
 by_cases h0 : x0 = y0 <;> by_cases h1 : x1 = y1 <;> by_cases h2 : x2 = y2 <;> by_cases h3 : x3 = y3 <;> simp [Sem.run_bind, a0, b0, a1, b1, a2, b2, a3, b3, hE, h0, h1, h2, h3]
theorem ixA48_0 (x0 : Int) (x1 : Int) (x2 : Int) (x3 : Int) (W : World) :
  (Instr.index 48 (.agg #[.int .u64 x0, .int .u64 x1, .int .u64 x2, .int .u64 x3]) (.int .i64 0)).run Try.prog W = .ok (.int .u64 x0) W := by
 have hu := Try.underlying48
 have hs : (sizeOf 26).run Try.prog W = .ok 1 W := by go_simp
 have hp : (part 26 #[.int .u64 x0, .int .u64 x1, .int .u64 x2, .int .u64 x3] 0).run Try.prog W = .ok (.int .u64 x0) W := by
  unfold part
  go_simp
 simp [Instr.index, asIntOf, Sem.run_bind, run_underlying hu, hs, hp]
theorem ixA48_1 (x0 : Int) (x1 : Int) (x2 : Int) (x3 : Int) (W : World) :
  (Instr.index 48 (.agg #[.int .u64 x0, .int .u64 x1, .int .u64 x2, .int .u64 x3]) (.int .i64 1)).run Try.prog W = .ok (.int .u64 x1) W := by
 have hu := Try.underlying48
 have hs : (sizeOf 26).run Try.prog W = .ok 1 W := by go_simp
 have hp : (part 26 #[.int .u64 x0, .int .u64 x1, .int .u64 x2, .int .u64 x3] 1).run Try.prog W = .ok (.int .u64 x1) W := by
  unfold part
  go_simp
 simp [Instr.index, asIntOf, Sem.run_bind, run_underlying hu, hs, hp]
theorem ixA48_2 (x0 : Int) (x1 : Int) (x2 : Int) (x3 : Int) (W : World) :
  (Instr.index 48 (.agg #[.int .u64 x0, .int .u64 x1, .int .u64 x2, .int .u64 x3]) (.int .i64 2)).run Try.prog W = .ok (.int .u64 x2) W := by
 have hu := Try.underlying48
 have hs : (sizeOf 26).run Try.prog W = .ok 1 W := by go_simp
 have hp : (part 26 #[.int .u64 x0, .int .u64 x1, .int .u64 x2, .int .u64 x3] 2).run Try.prog W = .ok (.int .u64 x2) W := by
  unfold part
  go_simp
 simp [Instr.index, asIntOf, Sem.run_bind, run_underlying hu, hs, hp]
theorem ixA48_3 (x0 : Int) (x1 : Int) (x2 : Int) (x3 : Int) (W : World) :
  (Instr.index 48 (.agg #[.int .u64 x0, .int .u64 x1, .int .u64 x2, .int .u64 x3]) (.int .i64 3)).run Try.prog W = .ok (.int .u64 x3) W := by
 have hu := Try.underlying48
 have hs : (sizeOf 26).run Try.prog W = .ok 1 W := by go_simp
 have hp : (part 26 #[.int .u64 x0, .int .u64 x1, .int .u64 x2, .int .u64 x3] 3).run Try.prog W = .ok (.int .u64 x3) W := by
  unfold part
  go_simp
 simp [Instr.index, asIntOf, Sem.run_bind, run_underlying hu, hs, hp]
theorem eqA50 (d : Nat) (w : World) (x0 y0 : Int) (x1 y1 : Int) (x2 y2 : Int) (x3 y3 : Int) (x4 y4 : Int) :
  (Op.equalIn (d + 3) 50 (.agg #[.int .u64 x0, .int .u64 x1, .int .u64 x2, .int .u64 x3, .int .i64 x4]) (.agg #[.int .u64 y0, .int .u64 y1, .int .u64 y2, .int .u64 y3, .int .i64 y4])).run Try.prog w = .ok ((x0 == y0 && (x1 == y1 && (x2 == y2 && (x3 == y3)))) && (x4 == y4)) w := by
 refine eqA_of Try.underlying50 (by kernel_rfl) ?_
 refine eqf_cons (by rfl) (by go_simp) (by go_simp) (eqA48 (d + 0) w _ _ _ _ _ _ _ _) ?_
 exact eqf_last (by rfl) (by go_simp; rfl) (by go_simp; rfl) (by go_simp)
end Go.Proofs.Ytoogchgoiciggaa.Q

namespace Go.Proofs.Ytoogchgoiciggaa.Q
open Go.RowKit Go.Proofs.YtoogchgoiciggaaW.PrintWords Go.Proofs.YtoogchgoiciggaaW.PrintLast Go.Proofs.YtoogchgoiciggaaW.PrintMore
attribute [local go_sem] max2_int min2_int max_two min_two max_three min_three max_four min_four   -- for this text's walks alone
set_option linter.unusedVariables false
set_option linter.unusedSimpArgs false
attribute [local go_sem] ixA48_0 ixA48_1 ixA48_2 ixA48_3   -- for this text's walks alone
attribute [local go_sem high] eqA38 eqA50
mutual
def tenementref08_Same.j0 : Nat → Bool → Int → Int → Int → Int → Int → List (S38) → Int → Int → Int → Int → Int → List (S38) → Option (Bool)
 | 0, _, _, _, _, _, _, _, _, _, _, _, _, _ => none
 | k + 1, x19, x108, x109, x110, x111, x112, x102, x113, x114, x115, x116, x117, x103 => if x19 = true then (some false) else (tenementref08_Same.l0 k 0 x108 x109 x110 x111 x112 x102 x113 x114 x115 x116 x117 x103)
def tenementref08_Same.l0 : Nat → Int → Int → Int → Int → Int → Int → List (S38) → Int → Int → Int → Int → Int → List (S38) → Option (Bool)
 | 0, _, _, _, _, _, _, _, _, _, _, _, _, _ => none
 | k + 1, x5, x108, x109, x110, x111, x112, x102, x113, x114, x115, x116, x117, x103 => if x5 < (x102.length : Int) then (if 0 ≤ x5 then (if x5 < (x103.length : Int) then (if (!((((rd_T38 x102 x5).f0).toList) == (((rd_T38 x103 x5).f0).toList)) || (!((((rd_T38 x102 x5).f1).toList) == (((rd_T38 x103 x5).f1).toList)) || (!((((rd_T38 x102 x5).f2).toList) == (((rd_T38 x103 x5).f2).toList)) || (!(((rd_T38 x102 x5).f3) == ((rd_T38 x103 x5).f3)))))) = true then (some false) else (tenementref08_Same.l0 k (wrap64 (x5 + 1)) x108 x109 x110 x111 x112 x102 x113 x114 x115 x116 x117 x103)) else (none)) else (none)) else (some true)
end
def tenementref08_Same.f (k : Nat) (a0_0 : Int) (a0_1 : Int) (a0_2 : Int) (a0_3 : Int) (a0_4 : Int) (l0_5 : List (S38)) (a1_0 : Int) (a1_1 : Int) (a1_2 : Int) (a1_3 : Int) (a1_4 : Int) (l1_5 : List (S38)) : Option (Bool) := if ((!(a0_0 == a1_0) || (!(a0_1 == a1_1) || (!(a0_2 == a1_2) || (!(a0_3 == a1_3))))) || (!(a0_4 == a1_4))) = true then (tenementref08_Same.j0 k true a0_0 a0_1 a0_2 a0_3 a0_4 l0_5 a1_0 a1_1 a1_2 a1_3 a1_4 l1_5) else (tenementref08_Same.j0 k ((l0_5.length : Int) != (l1_5.length : Int)) a0_0 a0_1 a0_2 a0_3 a0_4 l0_5 a1_0 a1_1 a1_2 a1_3 a1_4 l1_5)
set_option maxHeartbeats 8000000 in
set_option maxRecDepth 100000 in
theorem tenementref08_Same.calls (k : Nat) (a0_0 : Int) (a0_1 : Int) (a0_2 : Int) (a0_3 : Int) (a0_4 : Int) (A0_5 : Option Addr) (c0_5 : Nat) (l0_5 : List (S38)) (a1_0 : Int) (a1_1 : Int) (a1_2 : Int) (a1_3 : Int) (a1_4 : Int) (A1_5 : Option Addr) (c1_5 : Nat) (l1_5 : List (S38)) (r : Bool) (w : World) (hr0_5 : Kd.C k38 w A0_5 l0_5.length l0_5) (hc0_5 : l0_5.length ≤ c0_5) (hr1_5 : Kd.C k38 w A1_5 l1_5.length l1_5) (hc1_5 : l1_5.length ≤ c1_5) (h : tenementref08_Same.f k a0_0 a0_1 a0_2 a0_3 a0_4 l0_5 a1_0 a1_1 a1_2 a1_3 a1_4 l1_5 = some r) :
  Calls Try.prog 25 #[.agg #[.int .u64 a0_0, .int .u64 a0_1, .int .u64 a0_2, .int .u64 a0_3, .int .i64 a0_4, .slice A0_5 l0_5.length c0_5], .agg #[.int .u64 a1_0, .int .u64 a1_1, .int .u64 a1_2, .int .u64 a1_3, .int .i64 a1_4, .slice A1_5 l1_5.length c1_5]] w fun e w' => e = .returned (.bool r) ∧ Below w.heap.size w w' := by
 have hu52 := Try.underlying52
 have hu50 := Try.underlying50
 have hu38 := Try.underlying38
 have HR0_5 := Aside0.mk hr0_5
 have HC0_5 := Aside0.mk hc0_5
 clear hr0_5 hc0_5
 have HR1_5 := Aside0.mk hr1_5
 have HC1_5 := Aside0.mk hc1_5
 clear hr1_5 hc1_5
 have HB := Aside0.mk (Below.refl w.heap.size w)
 have H : (if ((!(a0_0 == a1_0) || (!(a0_1 == a1_1) || (!(a0_2 == a1_2) || (!(a0_3 == a1_3))))) || (!(a0_4 == a1_4))) = true then (tenementref08_Same.j0 k true a0_0 a0_1 a0_2 a0_3 a0_4 l0_5 a1_0 a1_1 a1_2 a1_3 a1_4 l1_5) else (tenementref08_Same.j0 k ((l0_5.length : Int) != (l1_5.length : Int)) a0_0 a0_1 a0_2 a0_3 a0_4 l0_5 a1_0 a1_1 a1_2 a1_3 a1_4 l1_5)) = some r := h
 clear h
 have HC3 := Aside0.mk H
 clear H
 go_enter Try.func25, Try.ntmps25
 go_upto_region 1 with (first | ((with_reducible refine gate_dst (N := 2) rfl ?_); refine Ka_ 2 #[.int .u64 a0_0, .int .u64 a0_1, .int .u64 a0_2, .int .u64 a0_3, .int .i64 a0_4, .slice A0_5 l0_5.length c0_5] 52 ?_; intro gb354 hg w4 hbox hb; have BK354 := Aside0.mk (hbox); have GW354 := Kw_ HB hg; have GE354 := GW354; replace HB := Ks_ HB hb; clear hb hbox hg) | ((with_reducible refine gate_dst (N := 3) rfl ?_); refine Ka_ 3 #[.int .u64 a1_0, .int .u64 a1_1, .int .u64 a1_2, .int .u64 a1_3, .int .i64 a1_4, .slice A1_5 l1_5.length c1_5] 52 ?_; intro gb355 hg w5 hbox hb; have BK355 := Aside0.mk (hbox); have GW355 := Kw_ HB hg; have GE355 := GW355; have NB354_355 := Kl_ BK354 hg; have NB355_354 := Kr_ BK354 hg; replace BK354 := Kb_ BK354 hb; replace HB := Ks_ HB hb; clear hb hbox hg))
 repeat (go_quiet (first | ((with_reducible refine gate_dst (N := 2) rfl ?_); refine Ka_ 2 #[.int .u64 a0_0, .int .u64 a0_1, .int .u64 a0_2, .int .u64 a0_3, .int .i64 a0_4, .slice A0_5 l0_5.length c0_5] 52 ?_; intro gb354 hg w4 hbox hb; have BK354 := Aside0.mk (hbox); have GW354 := Kw_ HB hg; have GE354 := GW354; replace HB := Ks_ HB hb; clear hb hbox hg) | ((with_reducible refine gate_dst (N := 3) rfl ?_); refine Ka_ 3 #[.int .u64 a1_0, .int .u64 a1_1, .int .u64 a1_2, .int .u64 a1_3, .int .i64 a1_4, .slice A1_5 l1_5.length c1_5] 52 ?_; intro gb355 hg w5 hbox hb; have BK355 := Aside0.mk (hbox); have GW355 := Kw_ HB hg; have GE355 := GW355; have NB354_355 := Kl_ BK354 hg; have NB355_354 := Kr_ BK354 hg; replace BK354 := Kb_ BK354 hb; replace HB := Ks_ HB hb; clear hb hbox hg)); go_upto_region 1 with (first | ((with_reducible refine gate_dst (N := 2) rfl ?_); refine Ka_ 2 #[.int .u64 a0_0, .int .u64 a0_1, .int .u64 a0_2, .int .u64 a0_3, .int .i64 a0_4, .slice A0_5 l0_5.length c0_5] 52 ?_; intro gb354 hg w4 hbox hb; have BK354 := Aside0.mk (hbox); have GW354 := Kw_ HB hg; have GE354 := GW354; replace HB := Ks_ HB hb; clear hb hbox hg) | ((with_reducible refine gate_dst (N := 3) rfl ?_); refine Ka_ 3 #[.int .u64 a1_0, .int .u64 a1_1, .int .u64 a1_2, .int .u64 a1_3, .int .i64 a1_4, .slice A1_5 l1_5.length c1_5] 52 ?_; intro gb355 hg w5 hbox hb; have BK355 := Aside0.mk (hbox); have GW355 := Kw_ HB hg; have GE355 := GW355; have NB354_355 := Kl_ BK354 hg; have NB355_354 := Kr_ BK354 hg; replace BK354 := Kb_ BK354 hb; replace HB := Ks_ HB hb; clear hb hbox hg)))
 (try simp only [Act.put, List.setIfInBounds_toArray, List.set_cons_zero, List.set_cons_succ])
 go_cut [19] (fun v19 wc => ∃ (kq : Nat) (x19_2 : Bool), v19 = .bool x19_2 ∧ Aside0 (tenementref08_Same.j0 kq x19_2 a0_0 a0_1 a0_2 a0_3 a0_4 l0_5 a1_0 a1_1 a1_2 a1_3 a1_4 l1_5 = some r) ∧ Aside0 (kq ≤ k) ∧ Aside0 (wc.heap[gb354]? = some (.cells #[.int .u64 a0_0, .int .u64 a0_1, .int .u64 a0_2, .int .u64 a0_3, .int .i64 a0_4, (.slice A0_5 l0_5.length c0_5)] 52 (0, 0))) ∧ Aside0 (wc.heap[gb355]? = some (.cells #[.int .u64 a1_0, .int .u64 a1_1, .int .u64 a1_2, .int .u64 a1_3, .int .i64 a1_4, (.slice A1_5 l1_5.length c1_5)] 52 (0, 0))) ∧ Aside0 (Below w.heap.size w wc))
 case first =>
  have H := HC3.out
  clear HC3
  by_cases c6 : ((!(a0_0 == a1_0) || (!(a0_1 == a1_1) || (!(a0_2 == a1_2) || (!(a0_3 == a1_3))))) || (!(a0_4 == a1_4))) = true
  ·rw [if_pos c6] at H
   have c6b0 : ((!(a0_0 == a1_0) || (!(a0_1 == a1_1) || (!(a0_2 == a1_2) || (!(a0_3 == a1_3))))) || (!(a0_4 == a1_4))) = true := c6
   clear c6
   (first | rw [c6b0] | (simp only [i64_w, i32_w]; rw [c6b0]) | skip)
   have H' := Aside0.mk H
   clear H
   have hnb7 := NB354_355.out
   have hnc7 := NB355_354.out
   obtain ⟨hcz8_0, hcz8_1, hcz8_2, hcz8_3, hcz8_4, hcz8_5, hfz8_0, hfz8_1, hfz8_2, hfz8_3, hfz8_4, hfz8_5⟩ := Ke6_ BK354.out
   obtain ⟨hcz9_0, hcz9_1, hcz9_2, hcz9_3, hcz9_4, hcz9_5, hfz9_0, hfz9_1, hfz9_2, hfz9_3, hfz9_4, hfz9_5⟩ := Ke6_ BK355.out
   go_wp2
   repeat (go_quiet (fail); try go_wp2)
   go_meet
   case rel => exact ⟨_, (true), (by first | rfl | (simp; done) | (simp [*]; done)), H', ⟨by first | omega | exact Nat.le_refl _⟩, ⟨by exact Kq_ BK354⟩, ⟨by exact Kq_ BK355⟩, ⟨K2a_ HB GE354 GE355⟩⟩
  rw [if_neg c6] at H
  have c6b0 : ((!(a0_0 == a1_0) || (!(a0_1 == a1_1) || (!(a0_2 == a1_2) || (!(a0_3 == a1_3))))) || (!(a0_4 == a1_4))) = false := by simpa using c6
  clear c6
  (first | rw [c6b0] | (simp only [i64_w, i32_w]; rw [c6b0]) | skip)
  have H' := Aside0.mk H
  clear H
  have hnb10 := NB354_355.out
  have hnc10 := NB355_354.out
  obtain ⟨hcz11_0, hcz11_1, hcz11_2, hcz11_3, hcz11_4, hcz11_5, hfz11_0, hfz11_1, hfz11_2, hfz11_3, hfz11_4, hfz11_5⟩ := Ke6_ BK354.out
  obtain ⟨hcz12_0, hcz12_1, hcz12_2, hcz12_3, hcz12_4, hcz12_5, hfz12_0, hfz12_1, hfz12_2, hfz12_3, hfz12_4, hfz12_5⟩ := Ke6_ BK355.out
  go_wp2
  repeat (go_quiet (fail); try go_wp2)
  go_meet
  case rel => exact ⟨_, (((l0_5.length : Int) != (l1_5.length : Int))), (by first | rfl | (simp; done) | (simp [*]; done)), H', ⟨by first | omega | exact Nat.le_refl _⟩, ⟨by exact Kq_ BK354⟩, ⟨by exact Kq_ BK355⟩, ⟨K2a_ HB GE354 GE355⟩⟩
 case rest =>
  clear HC3
  try clear c1
  try clear c2
  try clear p2
  try clear c6
  try clear c6b0
  try clear c7
  try clear c10
  try clear hcz11_0
  try clear hcz11_1
  try clear hcz11_2
  try clear hcz11_3
  try clear hcz11_4
  try clear hcz11_5
  try clear hcz12_0
  try clear hcz12_1
  try clear hcz12_2
  try clear hcz12_3
  try clear hcz12_4
  try clear hcz12_5
  try clear hcz8_0
  try clear hcz8_1
  try clear hcz8_2
  try clear hcz8_3
  try clear hcz8_4
  try clear hcz8_5
  try clear hcz9_0
  try clear hcz9_1
  try clear hcz9_2
  try clear hcz9_3
  try clear hcz9_4
  try clear hcz9_5
  try clear hfz11_0
  try clear hfz11_1
  try clear hfz11_2
  try clear hfz11_3
  try clear hfz11_4
  try clear hfz11_5
  try clear hfz12_0
  try clear hfz12_1
  try clear hfz12_2
  try clear hfz12_3
  try clear hfz12_4
  try clear hfz12_5
  try clear hfz8_0
  try clear hfz8_1
  try clear hfz8_2
  try clear hfz8_3
  try clear hfz8_4
  try clear hfz8_5
  try clear hfz9_0
  try clear hfz9_1
  try clear hfz9_2
  try clear hfz9_3
  try clear hfz9_4
  try clear hfz9_5
  obtain ⟨kq, x19_2, rfl, HA, HJ2, BK354, BK355, HB⟩ := hcut
  cases kq with
  | zero => exact absurd HA.out (by simp [tenementref08_Same.j0])
  | succ kj2 =>
   have H := HA.out
   clear HA
   simp only [tenementref08_Same.j0] at H
   by_cases c13 : x19_2 = true
   ·subst c13
    have H1 : (some false) = some r := by rw [if_pos rfl] at H; exact H
    clear H
    have H := H1
    clear H1
    obtain rfl := Option.some.inj H
    go_wp2
    repeat (go_quiet (fail); try go_wp2)
    go_ret
    exact ⟨Kh_, K2a_ HB GE354 GE355⟩
   replace c13 := Bool.eq_false_iff.mpr c13
   subst c13
   have H1 : (tenementref08_Same.l0 kj2 0 a0_0 a0_1 a0_2 a0_3 a0_4 l0_5 a1_0 a1_1 a1_2 a1_3 a1_4 l1_5) = some r := by rw [if_neg (show ¬ (false = true) by decide)] at H; exact H
   clear H
   have H := H1
   clear H1
   have H' := Aside0.mk H
   clear H
   go_wp2
   repeat (go_quiet (fail); try go_wp2)
   go_loopg [5] kj2 (fun kq v5 w' => ∃ (x5_2 : Int), v5 = .int .i64 x5_2 ∧ Aside0 (tenementref08_Same.l0 kq x5_2 a0_0 a0_1 a0_2 a0_3 a0_4 l0_5 a1_0 a1_1 a1_2 a1_3 a1_4 l1_5 = some r) ∧ Aside0 (kq ≤ kj2) ∧ Aside0 (w'.heap[gb354]? = some (.cells #[.int .u64 a0_0, .int .u64 a0_1, .int .u64 a0_2, .int .u64 a0_3, .int .i64 a0_4, (.slice A0_5 l0_5.length c0_5)] 52 (0, 0))) ∧ Aside0 (w'.heap[gb355]? = some (.cells #[.int .u64 a1_0, .int .u64 a1_1, .int .u64 a1_2, .int .u64 a1_3, .int .i64 a1_4, (.slice A1_5 l1_5.length c1_5)] 52 (0, 0))) ∧ Aside0 (Below w.heap.size w w'))
   case atStart => exact ⟨(0), (by first | rfl | (simp; done) | (simp [*]; done)), H', ⟨Nat.le_refl _⟩, ⟨by exact Kq_ BK354⟩, ⟨by exact Kq_ BK355⟩, ⟨K2a_ HB GE354 GE355⟩⟩
   case round =>
    clear H'
    try clear c1
    try clear c2
    try clear p2
    try clear c6
    try clear c6b0
    try clear c7
    try clear c10
    try clear c13
    try clear hcz11_0
    try clear hcz11_1
    try clear hcz11_2
    try clear hcz11_3
    try clear hcz11_4
    try clear hcz11_5
    try clear hcz12_0
    try clear hcz12_1
    try clear hcz12_2
    try clear hcz12_3
    try clear hcz12_4
    try clear hcz12_5
    try clear hcz8_0
    try clear hcz8_1
    try clear hcz8_2
    try clear hcz8_3
    try clear hcz8_4
    try clear hcz8_5
    try clear hcz9_0
    try clear hcz9_1
    try clear hcz9_2
    try clear hcz9_3
    try clear hcz9_4
    try clear hcz9_5
    try clear hfz11_0
    try clear hfz11_1
    try clear hfz11_2
    try clear hfz11_3
    try clear hfz11_4
    try clear hfz11_5
    try clear hfz12_0
    try clear hfz12_1
    try clear hfz12_2
    try clear hfz12_3
    try clear hfz12_4
    try clear hfz12_5
    try clear hfz8_0
    try clear hfz8_1
    try clear hfz8_2
    try clear hfz8_3
    try clear hfz8_4
    try clear hfz8_5
    try clear hfz9_0
    try clear hfz9_1
    try clear hfz9_2
    try clear hfz9_3
    try clear hfz9_4
    try clear hfz9_5
    try clear p2
    obtain ⟨x5_2, rfl, HA, HK2, BK354, BK355, HB⟩ := hrel
    cases gk with
    | zero => exact absurd HA.out (by simp [tenementref08_Same.l0])
    | succ k2 =>
     have H := HA.out
     clear HA
     simp only [tenementref08_Same.l0] at H
     by_cases c14 : x5_2 < (l0_5.length : Int)
     rotate_left
     ·rw [if_neg c14] at H
      have c14b0 : decide (x5_2 < (l0_5.length : Int)) = false := decide_eq_false c14
      clear c14
      obtain rfl := Option.some.inj H
      have hnb24 := NB354_355.out
      have hnc24 := NB355_354.out
      obtain ⟨hcz25_0, hcz25_1, hcz25_2, hcz25_3, hcz25_4, hcz25_5, hfz25_0, hfz25_1, hfz25_2, hfz25_3, hfz25_4, hfz25_5⟩ := Ke6_ BK354.out
      go_wp2
      repeat (go_quiet (fail); try go_wp2)
      go_ret
      exact ⟨Kh_, K2a_ HB GE354 GE355⟩
     rw [if_pos c14] at H
     have c14b0 : decide (x5_2 < (l0_5.length : Int)) = true := decide_eq_true c14
     clear c14
     by_cases c15 : 0 ≤ x5_2
     rotate_left
     ·rw [if_neg c15] at H
      exact absurd H (by simp)
     rw [if_pos c15] at H
     have c15b0 : decide (0 ≤ x5_2) = true := decide_eq_true c15
     clear c15
     by_cases c16 : x5_2 < (l1_5.length : Int)
     rotate_left
     ·rw [if_neg c16] at H
      exact absurd H (by simp)
     rw [if_pos c16] at H
     have c16b0 : decide (x5_2 < (l1_5.length : Int)) = true := decide_eq_true c16
     clear c16
     by_cases c17 : (!((((rd_T38 l0_5 x5_2).f0).toList) == (((rd_T38 l1_5 x5_2).f0).toList)) || (!((((rd_T38 l0_5 x5_2).f1).toList) == (((rd_T38 l1_5 x5_2).f1).toList)) || (!((((rd_T38 l0_5 x5_2).f2).toList) == (((rd_T38 l1_5 x5_2).f2).toList)) || (!(((rd_T38 l0_5 x5_2).f3) == ((rd_T38 l1_5 x5_2).f3)))))) = true
     ·rw [if_pos c17] at H
      have c17b0 : (!((((rd_T38 l0_5 x5_2).f0).toList) == (((rd_T38 l1_5 x5_2).f0).toList)) || (!((((rd_T38 l0_5 x5_2).f1).toList) == (((rd_T38 l1_5 x5_2).f1).toList)) || (!((((rd_T38 l0_5 x5_2).f2).toList) == (((rd_T38 l1_5 x5_2).f2).toList)) || (!(((rd_T38 l0_5 x5_2).f3) == ((rd_T38 l1_5 x5_2).f3)))))) = true := c17
      clear c17
      obtain rfl := Option.some.inj H
      have hnb18 := NB354_355.out
      have hnc18 := NB355_354.out
      obtain ⟨hcz19_0, hcz19_1, hcz19_2, hcz19_3, hcz19_4, hcz19_5, hfz19_0, hfz19_1, hfz19_2, hfz19_3, hfz19_4, hfz19_5⟩ := Ke6_ BK354.out
      have p356 : 0 ≤ (x5_2 : Int) := of_decide_eq_true (by first | (with_reducible assumption) | assumption)
      have q356 : x5_2 < (l0_5.length : Int) := of_decide_eq_true (by first | (with_reducible assumption) | assumption)
      obtain ⟨ad356, e356, hx356_0, hx356_1, hx356_2, hx356_3⟩ := at_T38 HR0_5.out x5_2 p356 q356
      cases e356
      replace hx356_0 := (HB.out.cell (World.block_lt_of_cell? w _ hx356_0)).trans hx356_0
      replace hx356_1 := (HB.out.cell (World.block_lt_of_cell? w _ hx356_1)).trans hx356_1
      replace hx356_2 := (HB.out.cell (World.block_lt_of_cell? w _ hx356_2)).trans hx356_2
      replace hx356_3 := (HB.out.cell (World.block_lt_of_cell? w _ hx356_3)).trans hx356_3
      replace p356 := eq_true p356
      replace q356 := eq_true q356
      obtain ⟨hcz20_0, hcz20_1, hcz20_2, hcz20_3, hcz20_4, hcz20_5, hfz20_0, hfz20_1, hfz20_2, hfz20_3, hfz20_4, hfz20_5⟩ := Ke6_ BK355.out
      have p357 : 0 ≤ (x5_2 : Int) := of_decide_eq_true (by first | (with_reducible assumption) | assumption)
      have q357 : x5_2 < (l1_5.length : Int) := of_decide_eq_true (by first | (with_reducible assumption) | assumption)
      obtain ⟨ad357, e357, hx357_0, hx357_1, hx357_2, hx357_3⟩ := at_T38 HR1_5.out x5_2 p357 q357
      cases e357
      replace hx357_0 := (HB.out.cell (World.block_lt_of_cell? w _ hx357_0)).trans hx357_0
      replace hx357_1 := (HB.out.cell (World.block_lt_of_cell? w _ hx357_1)).trans hx357_1
      replace hx357_2 := (HB.out.cell (World.block_lt_of_cell? w _ hx357_2)).trans hx357_2
      replace hx357_3 := (HB.out.cell (World.block_lt_of_cell? w _ hx357_3)).trans hx357_3
      replace p357 := eq_true p357
      replace q357 := eq_true q357
      go_wp2
      repeat (go_quiet (fail); try go_wp2)
      go_ret
      exact ⟨Kh_, K2a_ HB GE354 GE355⟩
     rw [if_neg c17] at H
     have c17b0 : (!((((rd_T38 l0_5 x5_2).f0).toList) == (((rd_T38 l1_5 x5_2).f0).toList)) || (!((((rd_T38 l0_5 x5_2).f1).toList) == (((rd_T38 l1_5 x5_2).f1).toList)) || (!((((rd_T38 l0_5 x5_2).f2).toList) == (((rd_T38 l1_5 x5_2).f2).toList)) || (!(((rd_T38 l0_5 x5_2).f3) == ((rd_T38 l1_5 x5_2).f3)))))) = false := by simpa using c17
     clear c17
     have H' := Aside0.mk H
     clear H
     have hnb21 := NB354_355.out
     have hnc21 := NB355_354.out
     obtain ⟨hcz22_0, hcz22_1, hcz22_2, hcz22_3, hcz22_4, hcz22_5, hfz22_0, hfz22_1, hfz22_2, hfz22_3, hfz22_4, hfz22_5⟩ := Ke6_ BK354.out
     have p356 : 0 ≤ (x5_2 : Int) := of_decide_eq_true (by first | (with_reducible assumption) | assumption)
     have q356 : x5_2 < (l0_5.length : Int) := of_decide_eq_true (by first | (with_reducible assumption) | assumption)
     obtain ⟨ad356, e356, hx356_0, hx356_1, hx356_2, hx356_3⟩ := at_T38 HR0_5.out x5_2 p356 q356
     cases e356
     replace hx356_0 := (HB.out.cell (World.block_lt_of_cell? w _ hx356_0)).trans hx356_0
     replace hx356_1 := (HB.out.cell (World.block_lt_of_cell? w _ hx356_1)).trans hx356_1
     replace hx356_2 := (HB.out.cell (World.block_lt_of_cell? w _ hx356_2)).trans hx356_2
     replace hx356_3 := (HB.out.cell (World.block_lt_of_cell? w _ hx356_3)).trans hx356_3
     replace p356 := eq_true p356
     replace q356 := eq_true q356
     obtain ⟨hcz23_0, hcz23_1, hcz23_2, hcz23_3, hcz23_4, hcz23_5, hfz23_0, hfz23_1, hfz23_2, hfz23_3, hfz23_4, hfz23_5⟩ := Ke6_ BK355.out
     have p357 : 0 ≤ (x5_2 : Int) := of_decide_eq_true (by first | (with_reducible assumption) | assumption)
     have q357 : x5_2 < (l1_5.length : Int) := of_decide_eq_true (by first | (with_reducible assumption) | assumption)
     obtain ⟨ad357, e357, hx357_0, hx357_1, hx357_2, hx357_3⟩ := at_T38 HR1_5.out x5_2 p357 q357
     cases e357
     replace hx357_0 := (HB.out.cell (World.block_lt_of_cell? w _ hx357_0)).trans hx357_0
     replace hx357_1 := (HB.out.cell (World.block_lt_of_cell? w _ hx357_1)).trans hx357_1
     replace hx357_2 := (HB.out.cell (World.block_lt_of_cell? w _ hx357_2)).trans hx357_2
     replace hx357_3 := (HB.out.cell (World.block_lt_of_cell? w _ hx357_3)).trans hx357_3
     replace p357 := eq_true p357
     replace q357 := eq_true q357
     go_wp2
     repeat (go_quiet (fail); try go_wp2)
     go_roundg k2
     case measure => have := HJ2.out; have := HK2.out; omega
     case rel => exact ⟨(wrap64 (x5_2 + 1)), (by first | rfl | (simp; done) | (simp [*]; done)), H', ⟨by have := HJ2.out; have := HK2.out; omega⟩, ⟨by exact Kq_ BK354⟩, ⟨by exact Kq_ BK355⟩, ⟨K2a_ HB GE354 GE355⟩⟩
end Go.Proofs.Ytoogchgoiciggaa.Q

namespace Go.Proofs.Ytoogchgoiciggaa.Q
open Go.RowKit Go.Proofs.YtoogchgoiciggaaW.PrintWords Go.Proofs.YtoogchgoiciggaaW.PrintLast Go.Proofs.YtoogchgoiciggaaW.PrintMore
attribute [local go_sem] max2_int min2_int max_two min_two max_three min_three max_four min_four   -- for this text's walks alone
set_option linter.unusedVariables false
set_option linter.unusedSimpArgs false
def tenementlaw08_bend.turn (l : List Int) (p : Nat) (x : Int) : List Int := l.set p (Go.bits .xor .u8 (l.getD p 0) x)
def tenementlaw08_bend.At (W : World) (B : Nat) (l : List Int) : Prop := ∀ j, j < l.length → W.cell? ⟨B, j, none⟩ = some (.int .u8 (l.getD j 0)) ∧ W.frozen? ⟨B, j, none⟩ = false
theorem tenementlaw08_bend.At.set {W : World} {B : Nat} {l : List Int} (h : tenementlaw08_bend.At W B l) (p : Nat) (hp : p < l.length) (v : Int) : tenementlaw08_bend.At (W.setCell ⟨B, p, none⟩ (.int .u8 v)) B (l.set p v) := by
 intro j hj
 rw [List.length_set] at hj
 obtain ⟨h1, h2⟩ := h j hj
 obtain ⟨g1, g2⟩ := h p hp
 by_cases e : j = p
 ·subst e
  refine ⟨?_, ?_⟩
  ·rw [World.cell?_setCell_same _ _ _ g1]; simp [List.getD_eq_getElem?_getD, hj]
  ·simp [go_sem, h2]
 ·refine ⟨?_, ?_⟩
  ·rw [World.cell?_setCell_other _ _ _ _ (by intro h; injection h with _ h; exact e h.symm), h1]
   simp [List.getD_eq_getElem?_getD, Ne.symm e]
  ·simp [go_sem, h2]
theorem tenementlaw08_bend.At.below {W W' : World} {B : Nat} {l : List Int} (h : tenementlaw08_bend.At W B l) (hb : Below W.heap.size W W') (hB : B < W.heap.size) : tenementlaw08_bend.At W' B l := fun j hj =>
 ⟨(hb.cell (p := ⟨B, j, none⟩) hB).trans (h j hj).1, (hb.frozen (p := ⟨B, j, none⟩) hB).trans (h j hj).2⟩
theorem tenementlaw08_bend.At.conv {W : World} {B : Nat} {l : List Int} (h : tenementlaw08_bend.At W B l) (n c : Nat) (hn : l.length = n) :
  (convert 76 9 (.slice (some ⟨B, 0, none⟩) n c)).run Try.prog W = .ok (.string (strOfNums l)) W :=
 run_convert_bytes_arg W 76 5 Try.underlying76 Try.underlying5 B 0 n c l hn (fun i hi => by rw [Nat.zero_add]; exact (h i (by omega)).1) 9 Try.underlying9
theorem tenementlaw08_bend.str_bytes (s : ByteArray) : strOfNums (bytesOf s) = s := by
 cases s with
 | mk d =>
 unfold strOfNums bytesOf
 simp only [List.map_map]
 congr 1
 apply Array.toList_inj.1
 simp only [List.toList_toArray]
 conv => rhs; rw [← List.map_id d.toList]
 apply List.map_congr_left
 intro b _
 simp
theorem tenementlaw08_bend.made (w : World) (s : ByteArray) (hs : s.size ≤ 9223372036854775807) : ∃ (W : World) (c : Nat), (convert 9 76 (.string s)).run Try.prog w = .ok (.slice (some ⟨w.heap.size, 0, none⟩) s.size c) W ∧
  (convert 76 9 (.slice (some ⟨w.heap.size, 0, none⟩) s.size c)).run Try.prog W = .ok (.string s) W ∧ Aside0 (tenementlaw08_bend.At W w.heap.size (bytesOf s)) ∧ Aside0 (Below w.heap.size w W) ∧ Aside0 (W.heap.size = w.heap.size + 1) := by
 have hat : tenementlaw08_bend.At (Lib.bytesWorld w 5 s) w.heap.size (bytesOf s) := by
  intro j hj
  rw [bytesOf_length] at hj
  refine ⟨?_, ?_⟩
  ·obtain ⟨_, _, hr⟩ := bytes_reads w 5 s hs
   obtain ⟨ad, had, hr⟩ := hr (by omega)
   have hr := hr j hj
   simp at had
   subst had
   rw [add_plain] at hr
   exact hr
  ·have hsz : (Lib.bytesCells w 5 s).size = s.size + (grownCap w s.size 0 5 - s.size) := by
    unfold Lib.bytesCells; simp
   simp only [World.frozen?, Lib.bytesWorld_at_new]
   simp; omega
 refine ⟨_, _, Lib.run_convert_string_bytes (P := Try.prog) w 9 76 5 s Try.underlying9 Try.underlying76 Try.underlying5, ?_, ⟨hat⟩, ⟨bytes_below (Below.refl _ _) (Nat.le_refl _) _ _⟩, ⟨Lib.bytesWorld_size _ _ _⟩⟩
 have := hat.conv s.size (grownCap w s.size 0 5) (bytesOf_length s)
 rw [tenementlaw08_bend.str_bytes] at this
 exact this
theorem tenementlaw08_bend.At.drew {W : World} {B : Nat} {l : List Int} (h : tenementlaw08_bend.At W B l) : tenementlaw08_bend.At W.drew B l := fun j hj => ⟨by simpa [go_sem] using (h j hj).1, by simpa [go_sem] using (h j hj).2⟩
theorem tenementlaw08_bend.round {w0 w W : World} {B p n : Nat} {l : List Int} {x : Int} (hW : W = (w.setCell ⟨B, p, none⟩ (.int .u8 (Go.bits .xor .u8 (l[p]?.getD 0) x))).drew) (hn : l.length = n) (hp : p < n) (hB : w0.heap.size ≤ B) (h : tenementlaw08_bend.At w B l) (hb : Below w0.heap.size w0 w) :
  tenementlaw08_bend.At W B (tenementlaw08_bend.turn l p x) ∧ (tenementlaw08_bend.turn l p x).length = n ∧ Below w0.heap.size w0 W ∧ W.heap.size = w.heap.size := by
 subst hW
 refine ⟨?_, ?_, ?_, ?_⟩
 ·unfold tenementlaw08_bend.turn
  rw [List.getD_eq_getElem?_getD]
  exact (h.set p (by omega) _).drew
 ·unfold tenementlaw08_bend.turn; rw [List.length_set]; exact hn
 ·exact below_drew (hb.setCell hB _)
 ·simp
def tenementlaw08_bend.at_ (a1 : Int) : Int := if a1 < 0 then -(a1 + 1) else a1
def tenementlaw08_bend.f (a0 : ByteArray) (a1 a2 : Int) : Option ByteArray :=
 if a0.toList = [] then some a0 else
 if a0.size ≤ 9223372036854775807 ∧ -9223372036854775808 ≤ a1 ∧ a1 ≤ 9223372036854775807 then some (strOfNums (tenementlaw08_bend.turn (bytesOf a0) ((tenementlaw08_bend.at_ a1) % (a0.size : Int)).toNat a2)) else none
set_option maxHeartbeats 4000000 in
theorem tenementlaw08_bend.calls (a0 : ByteArray) (a1 : Int) (a2 : Int) (r : ByteArray) (w : World) (h : tenementlaw08_bend.f a0 a1 a2 = some r) :
  Calls Try.prog 30 #[.string a0, .int .i64 a1, .int .u8 a2] w fun e w' => e = .returned (.string r) ∧ Below w.heap.size w w' := by
 unfold tenementlaw08_bend.f at h
 by_cases c0 : a0.toList = []
 ·rw [if_pos c0] at h
  obtain rfl := Option.some.inj h
  have c0b0 : (a0.toList == ([] : List UInt8)) = true := beq_iff_eq.mpr c0
  go_enter Try.func30, Try.ntmps30
  go_wp2
  go_ret
  exact ⟨rfl, Below.refl _ _⟩
 ·rw [if_neg c0] at h
  have c0b0 : (a0.toList == ([] : List UInt8)) = false := beq_eq_false_iff_ne.mpr c0
  by_cases c1 : a0.size ≤ 9223372036854775807 ∧ -9223372036854775808 ≤ a1 ∧ a1 ≤ 9223372036854775807
  ·rw [if_pos c1] at h
   obtain rfl := Option.some.inj h
   clear h
   obtain ⟨hz, hlo, hhi⟩ := c1
   have hz0 : 0 < a0.size := by
    rcases Nat.eq_zero_or_pos a0.size with e | e
    ·exfalso
     apply c0
     have : a0 = ByteArray.empty := ByteArray.size_eq_zero_iff.1 e
     rw [this]
     decide +kernel
    ·exact e
   clear c0
   obtain ⟨W, c, hcv, hcv2, HA, HB, HZ⟩ := tenementlaw08_bend.made w a0 hz
   by_cases c2 : a1 < 0
   ·have b1 : decide (a1 < 0) = true := decide_eq_true c2
    have ha : tenementlaw08_bend.at_ a1 = -(a1 + 1) := by unfold tenementlaw08_bend.at_; rw [if_pos c2]
    rw [ha]
    clear ha
    obtain ⟨p, hp, hp4⟩ : ∃ p : Nat, (-(a1 + 1)) % (a0.size : Int) = (p : Int) ∧ p < a0.size := by
     have e1 := Int.emod_nonneg (-(a1 + 1)) (show (a0.size : Int) ≠ 0 by omega)
     have e2 := Int.emod_lt_of_pos (-(a1 + 1)) (show 0 < (a0.size : Int) by omega)
     exact ⟨((-(a1 + 1)) % (a0.size : Int)).toNat, by omega, by omega⟩
    rw [hp, Int.toNat_natCast]
    have hq : Int.tmod (-(a1 + 1)) (a0.size : Int) = (p : Int) := by rw [Int.tmod_eq_emod_of_nonneg (by omega), hp]
    have hg := (HA.out p (by rw [bytesOf_length]; exact hp4)).1
    have hf := (HA.out p (by rw [bytesOf_length]; exact hp4)).2
    have hb0 : 0 ≤ (p : Int) := Int.natCast_nonneg p
    have hb1 : (p : Int) < (a0.size : Int) := by omega
    go_enter Try.func30, Try.ntmps30
    go_wp2
    go_region
    obtain ⟨W3, hW⟩ : ∃ W', W' = (W.setCell ⟨w.heap.size, p, none⟩ (.int .u8 (Go.bits .xor .u8 ((bytesOf a0)[p]?.getD 0) a2))).drew := ⟨_, rfl⟩
    rw [← hW]
    obtain ⟨r1, r2, r3, r4⟩ := tenementlaw08_bend.round hW (bytesOf_length a0) hp4 (Nat.le_refl _) HA.out HB.out
    have hcv3 := r1.conv a0.size c r2
    clear hW hcv hcv2 r1 hg hf
    replace r3 := Aside0.mk r3
    go_wp2
    go_ret
    exact ⟨rfl, r3.out⟩
   ·have b1 : decide (a1 < 0) = false := decide_eq_false c2
    have ha : tenementlaw08_bend.at_ a1 = a1 := by unfold tenementlaw08_bend.at_; rw [if_neg c2]
    rw [ha]
    clear ha
    obtain ⟨p, hp, hp4⟩ : ∃ p : Nat, (a1) % (a0.size : Int) = (p : Int) ∧ p < a0.size := by
     have e1 := Int.emod_nonneg (a1) (show (a0.size : Int) ≠ 0 by omega)
     have e2 := Int.emod_lt_of_pos (a1) (show 0 < (a0.size : Int) by omega)
     exact ⟨((a1) % (a0.size : Int)).toNat, by omega, by omega⟩
    rw [hp, Int.toNat_natCast]
    have hq : Int.tmod (a1) (a0.size : Int) = (p : Int) := by rw [Int.tmod_eq_emod_of_nonneg (by omega), hp]
    have hg := (HA.out p (by rw [bytesOf_length]; exact hp4)).1
    have hf := (HA.out p (by rw [bytesOf_length]; exact hp4)).2
    have hb0 : 0 ≤ (p : Int) := Int.natCast_nonneg p
    have hb1 : (p : Int) < (a0.size : Int) := by omega
    go_enter Try.func30, Try.ntmps30
    go_wp2
    go_region
    obtain ⟨W3, hW⟩ : ∃ W', W' = (W.setCell ⟨w.heap.size, p, none⟩ (.int .u8 (Go.bits .xor .u8 ((bytesOf a0)[p]?.getD 0) a2))).drew := ⟨_, rfl⟩
    rw [← hW]
    obtain ⟨r1, r2, r3, r4⟩ := tenementlaw08_bend.round hW (bytesOf_length a0) hp4 (Nat.le_refl _) HA.out HB.out
    have hcv3 := r1.conv a0.size c r2
    clear hW hcv hcv2 r1 hg hf
    replace r3 := Aside0.mk r3
    go_wp2
    go_ret
    exact ⟨rfl, r3.out⟩
  ·rw [if_neg c1] at h
   exact absurd h (by simp)
mutual
def tenementref02_Reader_Number.j0 : Nat → Int → Bool → ByteArray → Bool → Option (Int × ByteArray × Bool)
 | 0, _, _, _, _ => none
 | k + 1, x1, x24, x105, x118 => if x24 = true then (some (0, (⟨#[]⟩ : ByteArray), true)) else (tenementref02_Reader_Number.l0 k x1 0 0 x105 x118)
def tenementref02_Reader_Number.l0 : Nat → Int → Int → Int → ByteArray → Bool → Option (Int × ByteArray × Bool)
 | 0, _, _, _, _, _ => none
 | k + 1, x1, x6, x7, x105, x118 => if x7 < x1 then (if 0 ≤ x7 then (if x7 < (x105.size : Int) then (tenementref02_Reader_Number.l0 k x1 (Go.bits .or .u64 (IntKind.u64.wrap (x6 * 256)) (IntKind.u64.wrap (bt x105 x7))) (wrap64 (x7 + 1)) x105 x118) else (none)) else (none)) else (if 0 ≤ x1 then (if x1 ≤ (x105.size : Int) then (some (x6, x105.extract (x1 : Int).toNat x105.size, false)) else (none)) else (none))
end
def tenementref02_Reader_Number.f (k : Nat) (a0_0 : ByteArray) (a0_1 : Bool) (a1 : Int) : Option (Int × ByteArray × Bool) := if a0_1 = true then (tenementref02_Reader_Number.j0 k a1 true a0_0 a0_1) else (if a1 < 1 then (tenementref02_Reader_Number.j0 k a1 true a0_0 a0_1) else (if a1 > 8 then (tenementref02_Reader_Number.j0 k a1 true a0_0 a0_1) else (tenementref02_Reader_Number.j0 k a1 (decide ((a0_0.size : Int) < a1)) a0_0 a0_1)))
def tenementref02_Reader_Number.T8 : Bool × List (List Nat × List Nat) := (true, [([], []), ([], []), ([1], [1]), ([], []), ([2, 3], [2, 3]), ([4], [4]), ([0, 0], [0]), ([5, 6, 0, 1, 2, 3, 4, 5, 6], [5])])
def tenementref02_Reader_Number.B8 : List Nat := [0, 0, 2, 0, 14, 30, 1, 127]
theorem tenementref02_Reader_Number.tab8 : rtab .any (opsOf Try.f57 8) = tenementref02_Reader_Number.T8 := by kernel_rfl
theorem tenementref02_Reader_Number.bits8 : waitsOk tenementref02_Reader_Number.T8.2 tenementref02_Reader_Number.B8 = true := by kernel_rfl
set_option maxHeartbeats 8000000 in
set_option maxRecDepth 100000 in
theorem tenementref02_Reader_Number.calls (k : Nat) (a0_0 : ByteArray) (a0_1 : Bool) (a1 : Int) (r1 : Int) (r2 : ByteArray) (r3 : Bool) (w : World) (h : tenementref02_Reader_Number.f k a0_0 a0_1 a1 = some (r1, r2, r3)) :
  Calls Try.prog 57 #[.agg #[.string a0_0, .bool a0_1], .int .i64 a1] w fun e w' => e = .returned (.tuple #[.int .u64 r1, .agg #[.string r2, .bool r3]]) ∧ Below w.heap.size w w' := by
 have hu104 := Try.underlying104
 have HB := Aside0.mk (Below.refl w.heap.size w)
 have H : (if a0_1 = true then (tenementref02_Reader_Number.j0 k a1 true a0_0 a0_1) else (if a1 < 1 then (tenementref02_Reader_Number.j0 k a1 true a0_0 a0_1) else (if a1 > 8 then (tenementref02_Reader_Number.j0 k a1 true a0_0 a0_1) else (tenementref02_Reader_Number.j0 k a1 (decide ((a0_0.size : Int) < a1)) a0_0 a0_1)))) = some (r1, r2, r3) := h
 clear h
 have HC3 := Aside0.mk H
 clear H
 go_enter Try.func57, Try.ntmps57
 go_upto_region 1 with (first | ((with_reducible refine gate_dst (N := 2) rfl ?_); refine Ka_ 2 #[.string a0_0, .bool a0_1] 104 ?_; intro gb481 hg w4 hbox hb; have BK481 := Aside0.mk (hbox); have GW481 := Kw_ HB hg; have GE481 := GW481; replace HB := Ks_ HB hb; clear hb hbox hg) | ((with_reducible refine gate_dst (N := 5) rfl ?_); refine Ka_ 5 #[.string (⟨#[]⟩ : ByteArray), .bool false] 104 ?_; intro gb482 hg w5 hbox hb; have BK482 := Aside0.mk (hbox); have GW482 := Kw_ HB hg; have GE482 := GW482; have NB481_482 := Kl_ BK481 hg; have NB482_481 := Kr_ BK481 hg; replace BK481 := Kb_ BK481 hb; replace HB := Ks_ HB hb; clear hb hbox hg))
 (try simp only [Act.put, List.setIfInBounds_toArray, List.set_cons_zero, List.set_cons_succ])
 go_cut [24] (fun v24 wc => ∃ (kq : Nat) (x24_2 : Bool), v24 = .bool x24_2 ∧ Aside0 (tenementref02_Reader_Number.j0 kq a1 x24_2 a0_0 a0_1 = some (r1, r2, r3)) ∧ Aside0 (kq ≤ k) ∧ Aside0 (wc.heap[gb481]? = some (.cells #[.string a0_0, .bool a0_1] 104 (0, 0))) ∧ Aside0 (wc.heap[gb482]? = some (.cells #[.string (⟨#[]⟩ : ByteArray), .bool false] 104 (0, 0))) ∧ Aside0 (Below w.heap.size w wc))
 case first =>
  have H := HC3.out
  clear HC3
  by_cases c6 : a0_1 = true
  ·subst c6
   have H1 : (tenementref02_Reader_Number.j0 k a1 true a0_0 true) = some (r1, r2, r3) := by rw [if_pos rfl] at H; exact H
   clear H
   have H := H1
   clear H1
   have H' := Aside0.mk H
   clear H
   have hnb7 := NB481_482.out
   have hnc7 := NB482_481.out
   obtain ⟨hcz8_0, hcz8_1, hfz8_0, hfz8_1⟩ := Ke2_ BK481.out
   go_wp2
   go_meet
   case rel => exact ⟨_, (true), (by first | rfl | (simp; done) | (simp [*]; done)), H', ⟨by first | omega | exact Nat.le_refl _⟩, ⟨by exact Kq_ BK481⟩, ⟨by exact Kq_ BK482⟩, ⟨K2a_ HB GE481 GE482⟩⟩
  replace c6 := Bool.eq_false_iff.mpr c6
  subst c6
  have H1 : (if a1 < 1 then (tenementref02_Reader_Number.j0 k a1 true a0_0 false) else (if a1 > 8 then (tenementref02_Reader_Number.j0 k a1 true a0_0 false) else (tenementref02_Reader_Number.j0 k a1 (decide ((a0_0.size : Int) < a1)) a0_0 false))) = some (r1, r2, r3) := by rw [if_neg (show ¬ (false = true) by decide)] at H; exact H
  clear H
  have H := H1
  clear H1
  by_cases c9 : a1 < 1
  ·rw [if_pos c9] at H
   have c9b0 : decide (a1 < 1) = true := decide_eq_true c9
   clear c9
   (first | rw [c9b0] | (simp only [i64_w, i32_w]; rw [c9b0]) | skip)
   have H' := Aside0.mk H
   clear H
   have hnb10 := NB481_482.out
   have hnc10 := NB482_481.out
   obtain ⟨hcz11_0, hcz11_1, hfz11_0, hfz11_1⟩ := Ke2_ BK481.out
   go_wp2
   go_meet
   case rel => exact ⟨_, (true), (by first | rfl | (simp; done) | (simp [*]; done)), H', ⟨by first | omega | exact Nat.le_refl _⟩, ⟨by exact Kq_ BK481⟩, ⟨by exact Kq_ BK482⟩, ⟨K2a_ HB GE481 GE482⟩⟩
  rw [if_neg c9] at H
  have c9b0 : decide (a1 < 1) = false := decide_eq_false c9
  clear c9
  (first | rw [c9b0] | (simp only [i64_w, i32_w]; rw [c9b0]) | skip)
  by_cases c12 : a1 > 8
  ·rw [if_pos c12] at H
   have c12b0 : decide (8 < a1) = true := decide_eq_true c12
   clear c12
   have H' := Aside0.mk H
   clear H
   have hnb13 := NB481_482.out
   have hnc13 := NB482_481.out
   obtain ⟨hcz14_0, hcz14_1, hfz14_0, hfz14_1⟩ := Ke2_ BK481.out
   go_wp2
   go_meet
   case rel => exact ⟨_, (true), (by first | rfl | (simp; done) | (simp [*]; done)), H', ⟨by first | omega | exact Nat.le_refl _⟩, ⟨by exact Kq_ BK481⟩, ⟨by exact Kq_ BK482⟩, ⟨K2a_ HB GE481 GE482⟩⟩
  rw [if_neg c12] at H
  have c12b0 : decide (8 < a1) = false := decide_eq_false c12
  clear c12
  have H' := Aside0.mk H
  clear H
  have hnb15 := NB481_482.out
  have hnc15 := NB482_481.out
  obtain ⟨hcz16_0, hcz16_1, hfz16_0, hfz16_1⟩ := Ke2_ BK481.out
  go_wp2
  go_meet
  case rel => exact ⟨_, (decide ((a0_0.size : Int) < a1)), (by first | rfl | (simp; done) | (simp [*]; done)), H', ⟨by first | omega | exact Nat.le_refl _⟩, ⟨by exact Kq_ BK481⟩, ⟨by exact Kq_ BK482⟩, ⟨K2a_ HB GE481 GE482⟩⟩
 case rest =>
  clear HC3
  try clear c1
  try clear p2
  try clear c5
  try clear c6
  try clear c7
  try clear c9
  try clear c9b0
  try clear c10
  try clear c12
  try clear c12b0
  try clear c13
  try clear c15
  try clear hcz11_0
  try clear hcz11_1
  try clear hcz14_0
  try clear hcz14_1
  try clear hcz16_0
  try clear hcz16_1
  try clear hcz8_0
  try clear hcz8_1
  try clear hfz11_0
  try clear hfz11_1
  try clear hfz14_0
  try clear hfz14_1
  try clear hfz16_0
  try clear hfz16_1
  try clear hfz8_0
  try clear hfz8_1
  obtain ⟨kq, x24_2, rfl, HA, HJ2, BK481, BK482, HB⟩ := hcut
  cases kq with
  | zero => exact absurd HA.out (by simp [tenementref02_Reader_Number.j0])
  | succ kj2 =>
   have H := HA.out
   clear HA
   simp only [tenementref02_Reader_Number.j0] at H
   by_cases c17 : x24_2 = true
   ·subst c17
    have H1 : (some (0, (⟨#[]⟩ : ByteArray), true)) = some (r1, r2, r3) := by rw [if_pos rfl] at H; exact H
    clear H
    have H := H1
    clear H1
    simp only [Option.some.injEq, Prod.mk.injEq] at H
    obtain ⟨rfl, rfl, rfl⟩ := H
    have hnb18 := NB482_481.out
    have hnc18 := NB481_482.out
    obtain ⟨hcz19_0, hcz19_1, hfz19_0, hfz19_1⟩ := Ke2_ BK482.out
    go_wp2
    refine bodyPost_ret (results_tc rfl _ _ gb482 104 #[.string (⟨#[]⟩ : ByteArray), .bool true] (0, 0) _ rfl (by refine Kv_ ?_; refine blk_put (cs := #[.string (⟨#[]⟩ : ByteArray), .bool false]) ?_ 1 _ rfl; refine Kv_ ?_; refine blk_put (cs := #[.string (⟨#[]⟩ : ByteArray), .bool false]) ?_ 0 _ rfl; exact Kq_ BK482) Try.underlying104 rfl (by kernel_rfl)) rfl ?_
    exact ⟨Kh_, K2a_ HB GE481 GE482⟩
   replace c17 := Bool.eq_false_iff.mpr c17
   subst c17
   have H1 : (tenementref02_Reader_Number.l0 kj2 a1 0 0 a0_0 a0_1) = some (r1, r2, r3) := by rw [if_neg (show ¬ (false = true) by decide)] at H; exact H
   clear H
   have H := H1
   clear H1
   have H' := Aside0.mk H
   clear H
   go_wp2
   go_loopg [6, 7] kj2 (fun kq v6 v7 w' => ∃ (x6_2 : Int) (x7_2 : Int), v6 = .int .u64 x6_2 ∧ v7 = .int .i64 x7_2 ∧ Aside0 (tenementref02_Reader_Number.l0 kq a1 x6_2 x7_2 a0_0 a0_1 = some (r1, r2, r3)) ∧ Aside0 (kq ≤ kj2) ∧ Aside0 (w'.heap[gb481]? = some (.cells #[.string a0_0, .bool a0_1] 104 (0, 0))) ∧ Aside0 (w'.heap[gb482]? = some (.cells #[.string (⟨#[]⟩ : ByteArray), .bool false] 104 (0, 0))) ∧ Aside0 (Below w.heap.size w w'))
   case atStart => exact ⟨(0), (0), (by first | rfl | (simp; done) | (simp [*]; done)), (by first | rfl | (simp; done) | (simp [*]; done)), H', ⟨Nat.le_refl _⟩, ⟨by exact Kq_ BK481⟩, ⟨by exact Kq_ BK482⟩, ⟨K2a_ HB GE481 GE482⟩⟩
   case round =>
    clear H'
    try clear c1
    try clear p2
    try clear c5
    try clear c6
    try clear c7
    try clear c9
    try clear c9b0
    try clear c10
    try clear c12
    try clear c12b0
    try clear c13
    try clear c15
    try clear c17
    try clear c18
    try clear hcz11_0
    try clear hcz11_1
    try clear hcz14_0
    try clear hcz14_1
    try clear hcz16_0
    try clear hcz16_1
    try clear hcz19_0
    try clear hcz19_1
    try clear hcz8_0
    try clear hcz8_1
    try clear hfz11_0
    try clear hfz11_1
    try clear hfz14_0
    try clear hfz14_1
    try clear hfz16_0
    try clear hfz16_1
    try clear hfz19_0
    try clear hfz19_1
    try clear hfz8_0
    try clear hfz8_1
    try clear p2
    obtain ⟨x6_2, x7_2, rfl, rfl, HA, HK2, BK481, BK482, HB⟩ := hrel
    cases gk with
    | zero => exact absurd HA.out (by simp [tenementref02_Reader_Number.l0])
    | succ k2 =>
     have H := HA.out
     clear HA
     simp only [tenementref02_Reader_Number.l0] at H
     by_cases c20 : x7_2 < a1
     ·rw [if_pos c20] at H
      have c20b0 : decide (x7_2 < a1) = true := decide_eq_true c20
      clear c20
      by_cases c21 : 0 ≤ x7_2
      rotate_left
      ·rw [if_neg c21] at H
       exact absurd H (by simp)
      rw [if_pos c21] at H
      have c21b0 : decide (0 ≤ x7_2) = true := decide_eq_true c21
      clear c21
      by_cases c22 : x7_2 < (a0_0.size : Int)
      rotate_left
      ·rw [if_neg c22] at H
       exact absurd H (by simp)
      rw [if_pos c22] at H
      have c22b0 : decide (x7_2 < (a0_0.size : Int)) = true := decide_eq_true c22
      clear c22
      have H' := Aside0.mk H
      clear H
      have hnb24 := NB481_482.out
      have hnc24 := NB482_481.out
      obtain ⟨hcz25_0, hcz25_1, hfz25_0, hfz25_1⟩ := Ke2_ BK481.out
      have p23 : 0 ≤ (x7_2 : Int) := of_decide_eq_true (by first | (with_reducible assumption) | assumption)
      have q23 : x7_2 < (a0_0.size : Int) := of_decide_eq_true (by first | (with_reducible assumption) | assumption)
      have hx23 := bt_at a0_0 x7_2
      replace p23 := eq_true p23
      replace q23 := eq_true q23
      go_wp2
      go_roundg k2
      case measure => have := HJ2.out; have := HK2.out; omega
      case rel => exact ⟨(Go.bits .or .u64 (IntKind.u64.wrap (x6_2 * 256)) (IntKind.u64.wrap (bt a0_0 x7_2))), (wrap64 (x7_2 + 1)), (by first | rfl | (simp; done) | (simp [*]; done)), (by first | rfl | (simp; done) | (simp [*]; done)), H', ⟨by have := HJ2.out; have := HK2.out; omega⟩, ⟨by exact Kq_ BK481⟩, ⟨by exact Kq_ BK482⟩, ⟨K2a_ HB GE481 GE482⟩⟩
     rw [if_neg c20] at H
     have c20b0 : decide (x7_2 < a1) = false := decide_eq_false c20
     clear c20
     by_cases c26 : 0 ≤ a1
     rotate_left
     ·rw [if_neg c26] at H
      exact absurd H (by simp)
     rw [if_pos c26] at H
     have c26b0 := eq_true c26
     have c26b1 : decide (0 ≤ a1) = true := decide_eq_true c26
     clear c26
     by_cases c27 : a1 ≤ (a0_0.size : Int)
     rotate_left
     ·rw [if_neg c27] at H
      exact absurd H (by simp)
     rw [if_pos c27] at H
     have c27b0 := eq_true c27
     have c27b1 : decide (a1 ≤ (a0_0.size : Int)) = true := decide_eq_true c27
     clear c27
     simp only [Option.some.injEq, Prod.mk.injEq] at H
     obtain ⟨rfl, rfl, rfl⟩ := H
     try go_wp2
     replace BK481 := Kd_ BK481
     replace BK482 := Kd_ BK482
     replace HB := Aside0.mk (below_drew1 HB.out)
     refine start_ (n := 8) (S := fun w' => w'.cell? ⟨gb481, 0, none⟩ = some (.string a0_0) ∧ w'.cell? ⟨gb481, 1, none⟩ = some (.bool a0_1)) (ds := []) (mB_ 8 0) (by kernel_rfl) rfl rfl (Kc2_ BK481.out) (fun hHeld => ?_); refine with_tabW tenementref02_Reader_Number.tab8 tenementref02_Reader_Number.bits8 (fun HT_ HW_ => ?_)
     generalize wr.drew = w28 at BK481 BK482 HB hHeld ⊢
     refine Kp_ 0 39 (mB_ 8 1) (any_of HT_.out (by kernel_rfl)) ?_
     refine Kp_ 1 40 (mB_ 8 3) (any_of HT_.out (by kernel_rfl)) ?_
     refine Kp_ 3 42 (mB_ 8 11) (any_of HT_.out (by kernel_rfl)) ?_
     refine Kp_ 6 4 (mB_ 8 75) (any_of HT_.out (by kernel_rfl)) ?_
     refine Ko_ 2 41 (mB_ 8 79) (take_ofW HT_.out HW_.out (by kernel_rfl)) hHeld ?_
     refine Kp_ 4 43 (mB_ 8 95) (any_of HT_.out (by kernel_rfl)) ?_
     refine Kp_ 5 44 (mB_ 8 127) (any_of HT_.out (by kernel_rfl)) ?_
     refine one_ (i := 7) (N := none) (mB_ 8 255) rfl rfl (one_of HT_.out (by kernel_rfl)) (by decide) (fun K hK => ?_)
     have hs29 : w28.cell? ⟨gb482, 0, none⟩ = some (.string (⟨#[]⟩ : ByteArray)) := (blk_cell BK482.out 0).trans rfl
     have hfs29 := blk_frozen BK482.out 0
     have hns29_0 := NB481_482.out
     have hms29_0 := NB482_481.out
     have hs30 : w28.cell? ⟨gb482, 1, none⟩ = some (.bool false) := (blk_cell BK482.out 1).trans rfl
     have hfs30 := blk_frozen BK482.out 1
     have hns30_0 := NB481_482.out
     have hms30_0 := NB482_481.out
     refine skip_ (w1 := ?_) (by rfl) rfl ?_ ?_
     rotate_left
     ·go_simp
      rfl
     refine hK.out _ _ ⟨(Kj_ NB481_482 ((Kj_ NB481_482 (hHeld.1)))), (Kj_ NB481_482 ((Kj_ NB481_482 (hHeld.2))))⟩ (fun hHeld => ?_)
     clear hK K
     refine done_ (done_of HT_.out (by kernel_rfl)) ?_
     try go_wp2
     refine bodyPost_ret (results_tc rfl _ _ gb482 104 #[.string (a0_0.extract (a1 : Int).toNat a0_0.size), .bool false] (0, 0) _ rfl (by refine Kv_ ?_; refine blk_put (cs := #[.string (a0_0.extract (a1 : Int).toNat a0_0.size), .bool false]) ?_ 1 _ rfl; refine Kv_ ?_; refine blk_put (cs := #[.string (⟨#[]⟩ : ByteArray), .bool false]) ?_ 0 _ rfl; exact Kq_ BK482) Try.underlying104 rfl (by kernel_rfl)) rfl ?_
     exact ⟨Kh_, K2a_ HB GE481 GE482⟩
mutual
def tenementref02_Reader_Vary.l0 : Nat → Int → Int → ByteArray → Bool → Option (Int × ByteArray × Bool)
 | 0, _, _, _, _ => none
 | k + 1, x4, x5, x100, x107 => if x5 < (x100.size : Int) then (if x5 < 10 then (tenementref02_Reader_Vary.j1 k x4 x5 (!x107) x100 x107) else (tenementref02_Reader_Vary.j1 k x4 x5 false x100 x107)) else (tenementref02_Reader_Vary.j1 k x4 x5 false x100 x107)
def tenementref02_Reader_Vary.j1 : Nat → Int → Int → Bool → ByteArray → Bool → Option (Int × ByteArray × Bool)
 | 0, _, _, _, _, _ => none
 | k + 1, x4, x5, x19, x100, x107 => if x19 = true then (if 0 ≤ x5 then (if x5 < (x100.size : Int) then (if 0 ≤ (wrap64 (7 * x5)) then (if (bt x100 x5) < 128 then ((tenementref02_Vary.f k (Go.bits .or .u64 x4 (shl .u64 (IntKind.u64.wrap (Int.tmod (bt x100 x5) 128)) (wrap64 (7 * x5))))).bind fun t485 => (if 0 ≤ (wrap64 (x5 + 1)) then (if (wrap64 (x5 + 1)) ≤ (x100.size : Int) then (if t485.toList = (x100.extract 0 ((wrap64 (x5 + 1)) : Int).toNat).toList then (some (Go.bits .or .u64 x4 (shl .u64 (IntKind.u64.wrap (Int.tmod (bt x100 x5) 128)) (wrap64 (7 * x5))), x100.extract ((wrap64 (x5 + 1)) : Int).toNat x100.size, false)) else (some (0, (⟨#[]⟩ : ByteArray), true))) else (none)) else (none))) else (tenementref02_Reader_Vary.l0 k (Go.bits .or .u64 x4 (shl .u64 (IntKind.u64.wrap (Int.tmod (bt x100 x5) 128)) (wrap64 (7 * x5)))) (wrap64 (x5 + 1)) x100 x107)) else (none)) else (none)) else (none)) else (some (0, (⟨#[]⟩ : ByteArray), true))
end
def tenementref02_Reader_Vary.f (k : Nat) (a0_0 : ByteArray) (a0_1 : Bool) : Option (Int × ByteArray × Bool) := tenementref02_Reader_Vary.l0 k 0 0 a0_0 a0_1
def tenementref02_Reader_Vary.T7 : Bool × List (List Nat × List Nat) := (true, [([], []), ([0], [0]), ([], []), ([2], [2]), ([], []), ([4], [4]), ([3, 5], [3, 5]), ([1, 6], [1, 6])])
def tenementref02_Reader_Vary.B7 : List Nat := [0, 1, 0, 4, 0, 16, 60, 127]
theorem tenementref02_Reader_Vary.tab7 : rtab .any (opsOf Try.f74 7) = tenementref02_Reader_Vary.T7 := by kernel_rfl
theorem tenementref02_Reader_Vary.bits7 : waitsOk tenementref02_Reader_Vary.T7.2 tenementref02_Reader_Vary.B7 = true := by kernel_rfl
def tenementref02_Reader_Vary.T9 : Bool × List (List Nat × List Nat) := (true, [([], []), ([], []), ([1], [1]), ([], []), ([3], [3]), ([2, 4], [2, 4]), ([5], [5]), ([0, 0], [0]), ([6, 7, 0, 1, 2, 3, 4, 5, 6, 7], [6])])
def tenementref02_Reader_Vary.B9 : List Nat := [0, 0, 2, 0, 8, 30, 62, 1, 255]
theorem tenementref02_Reader_Vary.tab9 : rtab .any (opsOf Try.f74 9) = tenementref02_Reader_Vary.T9 := by kernel_rfl
theorem tenementref02_Reader_Vary.bits9 : waitsOk tenementref02_Reader_Vary.T9.2 tenementref02_Reader_Vary.B9 = true := by kernel_rfl
set_option maxHeartbeats 8000000 in
set_option maxRecDepth 100000 in
theorem tenementref02_Reader_Vary.calls (k : Nat) (a0_0 : ByteArray) (a0_1 : Bool) (r1 : Int) (r2 : ByteArray) (r3 : Bool) (w : World) (h : tenementref02_Reader_Vary.f k a0_0 a0_1 = some (r1, r2, r3)) :
  Calls Try.prog 74 #[.agg #[.string a0_0, .bool a0_1]] w fun e w' => e = .returned (.tuple #[.int .u64 r1, .agg #[.string r2, .bool r3]]) ∧ Below w.heap.size w w' := by
 have hu104 := Try.underlying104
 have HB := Aside0.mk (Below.refl w.heap.size w)
 have H : (tenementref02_Reader_Vary.l0 k 0 0 a0_0 a0_1) = some (r1, r2, r3) := h
 clear h
 have H' := Aside0.mk H
 clear H
 go_enter Try.func74, Try.ntmps74
 go_wp2_with (first | ((with_reducible refine gate_dst (N := 1) rfl ?_); refine Ka_ 1 #[.string a0_0, .bool a0_1] 104 ?_; intro gb483 hg w2 hbox hb; have BK483 := Aside0.mk (hbox); have GW483 := Kw_ HB hg; have GE483 := GW483; replace HB := Ks_ HB hb; clear hb hbox hg) | ((with_reducible refine gate_dst (N := 3) rfl ?_); refine Ka_ 3 #[.string (⟨#[]⟩ : ByteArray), .bool false] 104 ?_; intro gb484 hg w3 hbox hb; have BK484 := Aside0.mk (hbox); have GW484 := Kw_ HB hg; have GE484 := GW484; have NB483_484 := Kl_ BK483 hg; have NB484_483 := Kr_ BK483 hg; replace BK483 := Kb_ BK483 hb; replace HB := Ks_ HB hb; clear hb hbox hg))
 go_loopg [4, 5] k (fun kq v4 v5 w' => ∃ (x4_1 : Int) (x5_1 : Int) (x106_1 : ByteArray) (x101_1 : Bool), v4 = .int .u64 x4_1 ∧ v5 = .int .i64 x5_1 ∧ Aside0 (tenementref02_Reader_Vary.l0 kq x4_1 x5_1 a0_0 a0_1 = some (r1, r2, r3)) ∧ Aside0 (kq ≤ k) ∧ Aside0 (w'.heap[gb483]? = some (.cells #[.string a0_0, .bool a0_1] 104 (0, 0))) ∧ Aside0 (w'.heap[gb484]? = some (.cells #[.string x106_1, .bool x101_1] 104 (0, 0))) ∧ Aside0 (Below w.heap.size w w'))
 case atStart => exact ⟨(0), (0), ((⟨#[]⟩ : ByteArray)), (false), (by first | rfl | (simp; done) | (simp [*]; done)), (by first | rfl | (simp; done) | (simp [*]; done)), H', ⟨Nat.le_refl _⟩, ⟨by exact Kq_ BK483⟩, ⟨by exact Kq_ BK484⟩, ⟨K2a_ HB GE483 GE484⟩⟩
 case round =>
  clear H'
  try clear p2
  obtain ⟨x4_1, x5_1, x106_1, x101_1, rfl, rfl, HA, HK1, BK483, BK484, HB⟩ := hrel
  cases gk with
  | zero => exact absurd HA.out (by simp [tenementref02_Reader_Vary.l0])
  | succ k1 =>
   have H := HA.out
   clear HA
   simp only [tenementref02_Reader_Vary.l0] at H
   have HC4 := Aside0.mk H
   clear H
   go_upto_region 3 with (fail)
   go_cut [19] (fun v19 wc => ∃ (kq : Nat) (x19_3 : Bool), v19 = .bool x19_3 ∧ Aside0 (tenementref02_Reader_Vary.j1 kq x4_1 x5_1 x19_3 a0_0 a0_1 = some (r1, r2, r3)) ∧ Aside0 (kq ≤ k1) ∧ Aside0 (wc.heap[gb483]? = some (.cells #[.string a0_0, .bool a0_1] 104 (0, 0))) ∧ Aside0 (wc.heap[gb484]? = some (.cells #[.string x106_1, .bool x101_1] 104 (0, 0))) ∧ Aside0 (Below w.heap.size w wc))
   case first =>
    have H := HC4.out
    clear HC4
    by_cases c5 : x5_1 < (a0_0.size : Int)
    rotate_left
    ·rw [if_neg c5] at H
     have c5b0 : decide (x5_1 < (a0_0.size : Int)) = false := decide_eq_false c5
     clear c5
     (first | rw [c5b0] | (simp only [i64_w, i32_w]; rw [c5b0]) | skip)
     have H' := Aside0.mk H
     clear H
     have hnb11 := NB483_484.out
     have hnc11 := NB484_483.out
     obtain ⟨hcz12_0, hcz12_1, hfz12_0, hfz12_1⟩ := Ke2_ BK483.out
     go_wp2
     go_meet
     case rel => exact ⟨_, (false), (by first | rfl | (simp; done) | (simp [*]; done)), H', ⟨by have := HK1.out; first | omega | exact Nat.le_refl _⟩, ⟨by exact Kq_ BK483⟩, ⟨by exact Kq_ BK484⟩, ⟨K2a_ HB GE483 GE484⟩⟩
    rw [if_pos c5] at H
    have c5b0 : decide (x5_1 < (a0_0.size : Int)) = true := decide_eq_true c5
    clear c5
    (first | rw [c5b0] | (simp only [i64_w, i32_w]; rw [c5b0]) | skip)
    by_cases c6 : x5_1 < 10
    ·rw [if_pos c6] at H
     have c6b0 : decide (x5_1 < 10) = true := decide_eq_true c6
     clear c6
     have H' := Aside0.mk H
     clear H
     have hnb7 := NB483_484.out
     have hnc7 := NB484_483.out
     obtain ⟨hcz8_0, hcz8_1, hfz8_0, hfz8_1⟩ := Ke2_ BK483.out
     go_wp2
     go_meet
     case rel => exact ⟨_, (!a0_1), (by first | rfl | (simp; done) | (simp [*]; done)), H', ⟨by have := HK1.out; first | omega | exact Nat.le_refl _⟩, ⟨by exact Kq_ BK483⟩, ⟨by exact Kq_ BK484⟩, ⟨K2a_ HB GE483 GE484⟩⟩
    rw [if_neg c6] at H
    have c6b0 : decide (x5_1 < 10) = false := decide_eq_false c6
    clear c6
    have H' := Aside0.mk H
    clear H
    have hnb9 := NB483_484.out
    have hnc9 := NB484_483.out
    obtain ⟨hcz10_0, hcz10_1, hfz10_0, hfz10_1⟩ := Ke2_ BK483.out
    go_wp2
    go_meet
    case rel => exact ⟨_, (false), (by first | rfl | (simp; done) | (simp [*]; done)), H', ⟨by have := HK1.out; first | omega | exact Nat.le_refl _⟩, ⟨by exact Kq_ BK483⟩, ⟨by exact Kq_ BK484⟩, ⟨K2a_ HB GE483 GE484⟩⟩
   case rest =>
    clear HC4
    try clear c1
    try clear p2
    try clear c5
    try clear c5b0
    try clear c6
    try clear c6b0
    try clear c7
    try clear c9
    try clear c11
    try clear hcz10_0
    try clear hcz10_1
    try clear hcz12_0
    try clear hcz12_1
    try clear hcz8_0
    try clear hcz8_1
    try clear hfz10_0
    try clear hfz10_1
    try clear hfz12_0
    try clear hfz12_1
    try clear hfz8_0
    try clear hfz8_1
    try clear p2
    obtain ⟨kq, x19_3, rfl, HA, HJ3, BK483, BK484, HB⟩ := hcut
    cases kq with
    | zero => exact absurd HA.out (by simp [tenementref02_Reader_Vary.j1])
    | succ kj3 =>
     have H := HA.out
     clear HA
     simp only [tenementref02_Reader_Vary.j1] at H
     by_cases c13 : x19_3 = true
     rotate_left
     ·replace c13 := Bool.eq_false_iff.mpr c13
      subst c13
      have H1 : (some (0, (⟨#[]⟩ : ByteArray), true)) = some (r1, r2, r3) := by rw [if_neg (show ¬ (false = true) by decide)] at H; exact H
      clear H
      have H := H1
      clear H1
      simp only [Option.some.injEq, Prod.mk.injEq] at H
      obtain ⟨rfl, rfl, rfl⟩ := H
      have hnb43 := NB484_483.out
      have hnc43 := NB483_484.out
      obtain ⟨hcz44_0, hcz44_1, hfz44_0, hfz44_1⟩ := Ke2_ BK484.out
      go_wp2
      refine bodyPost_ret (results_tc rfl _ _ gb484 104 #[.string (⟨#[]⟩ : ByteArray), .bool true] (0, 0) _ rfl (by refine Kv_ ?_; refine blk_put (cs := #[.string (⟨#[]⟩ : ByteArray), .bool x101_1]) ?_ 1 _ rfl; refine Kv_ ?_; refine blk_put (cs := #[.string x106_1, .bool x101_1]) ?_ 0 _ rfl; exact Kq_ BK484) Try.underlying104 rfl (by kernel_rfl)) rfl ?_
      exact ⟨Kh_, K2a_ HB GE483 GE484⟩
     subst c13
     have H1 : (if 0 ≤ x5_1 then (if x5_1 < (a0_0.size : Int) then (if 0 ≤ (wrap64 (7 * x5_1)) then (if (bt a0_0 x5_1) < 128 then ((tenementref02_Vary.f kj3 (Go.bits .or .u64 x4_1 (shl .u64 (IntKind.u64.wrap (Int.tmod (bt a0_0 x5_1) 128)) (wrap64 (7 * x5_1))))).bind fun t485 => (if 0 ≤ (wrap64 (x5_1 + 1)) then (if (wrap64 (x5_1 + 1)) ≤ (a0_0.size : Int) then (if t485.toList = (a0_0.extract 0 ((wrap64 (x5_1 + 1)) : Int).toNat).toList then (some (Go.bits .or .u64 x4_1 (shl .u64 (IntKind.u64.wrap (Int.tmod (bt a0_0 x5_1) 128)) (wrap64 (7 * x5_1))), a0_0.extract ((wrap64 (x5_1 + 1)) : Int).toNat a0_0.size, false)) else (some (0, (⟨#[]⟩ : ByteArray), true))) else (none)) else (none))) else (tenementref02_Reader_Vary.l0 kj3 (Go.bits .or .u64 x4_1 (shl .u64 (IntKind.u64.wrap (Int.tmod (bt a0_0 x5_1) 128)) (wrap64 (7 * x5_1)))) (wrap64 (x5_1 + 1)) a0_0 a0_1)) else (none)) else (none)) else (none)) = some (r1, r2, r3) := by rw [if_pos rfl] at H; exact H
     clear H
     have H := H1
     clear H1
     by_cases c14 : 0 ≤ x5_1
     rotate_left
     ·rw [if_neg c14] at H
      exact absurd H (by simp)
     rw [if_pos c14] at H
     have c14b0 : decide (0 ≤ x5_1) = true := decide_eq_true c14
     clear c14
     by_cases c15 : x5_1 < (a0_0.size : Int)
     rotate_left
     ·rw [if_neg c15] at H
      exact absurd H (by simp)
     rw [if_pos c15] at H
     have c15b0 : decide (x5_1 < (a0_0.size : Int)) = true := decide_eq_true c15
     clear c15
     obtain ⟨ji17, hji17⟩ : ∃ j_ : Int, (wrap64 (7 * x5_1)) = j_ := ⟨_, rfl⟩
     replace H : (if 0 ≤ (ji17) then (if (bt a0_0 x5_1) < 128 then ((tenementref02_Vary.f kj3 (Go.bits .or .u64 x4_1 (shl .u64 (IntKind.u64.wrap (Int.tmod (bt a0_0 x5_1) 128)) (ji17)))).bind fun t485 => (if 0 ≤ (wrap64 (x5_1 + 1)) then (if (wrap64 (x5_1 + 1)) ≤ (a0_0.size : Int) then (if t485.toList = (a0_0.extract 0 ((wrap64 (x5_1 + 1)) : Int).toNat).toList then (some (Go.bits .or .u64 x4_1 (shl .u64 (IntKind.u64.wrap (Int.tmod (bt a0_0 x5_1) 128)) (ji17)), a0_0.extract ((wrap64 (x5_1 + 1)) : Int).toNat a0_0.size, false)) else (some (0, (⟨#[]⟩ : ByteArray), true))) else (none)) else (none))) else (tenementref02_Reader_Vary.l0 kj3 (Go.bits .or .u64 x4_1 (shl .u64 (IntKind.u64.wrap (Int.tmod (bt a0_0 x5_1) 128)) (ji17))) (wrap64 (x5_1 + 1)) a0_0 a0_1)) else (none)) = some (r1, r2, r3) := by first | (rw [hji17] at H; exact H) | (simp only [hji17] at H ⊢; exact H)
     have hji17w : (IntKind.i64.wrap (7 * x5_1)) = ji17 := (i64_w _).trans hji17
     by_cases c18 : 0 ≤ (ji17)
     rotate_left
     ·rw [if_neg c18] at H
      exact absurd H (by simp)
     rw [if_pos c18] at H
     have c18b0 := eq_true c18
     have c18b1 : decide (0 ≤ (ji17)) = true := decide_eq_true c18
     clear c18
     obtain ⟨ji19, hji19⟩ : ∃ j_ : Int, (shl .u64 (IntKind.u64.wrap (Int.tmod (bt a0_0 x5_1) 128)) (ji17)) = j_ := ⟨_, rfl⟩
     replace H : (if (bt a0_0 x5_1) < 128 then ((tenementref02_Vary.f kj3 (Go.bits .or .u64 x4_1 (ji19))).bind fun t485 => (if 0 ≤ (wrap64 (x5_1 + 1)) then (if (wrap64 (x5_1 + 1)) ≤ (a0_0.size : Int) then (if t485.toList = (a0_0.extract 0 ((wrap64 (x5_1 + 1)) : Int).toNat).toList then (some (Go.bits .or .u64 x4_1 (ji19), a0_0.extract ((wrap64 (x5_1 + 1)) : Int).toNat a0_0.size, false)) else (some (0, (⟨#[]⟩ : ByteArray), true))) else (none)) else (none))) else (tenementref02_Reader_Vary.l0 kj3 (Go.bits .or .u64 x4_1 (ji19)) (wrap64 (x5_1 + 1)) a0_0 a0_1)) = some (r1, r2, r3) := by first | (rw [hji19] at H; exact H) | (simp only [hji19] at H ⊢; exact H)
     have hji19_ : (IntKind.u64.wrap ((IntKind.u64.wrap (Int.tmod (bt a0_0 x5_1) 128)) * 2 ^ min (ji17).toNat 64)) = ji19 := hji19
     have hji19z : (ji17) ≤ 64 → (IntKind.u64.wrap ((IntKind.u64.wrap (Int.tmod (bt a0_0 x5_1) 128)) * 2 ^ (ji17).toNat)) = ji19 := shl_small hji19
     by_cases c21 : (bt a0_0 x5_1) < 128
     rotate_left
     ·rw [if_neg c21] at H
      have c21b0 : decide ((bt a0_0 x5_1) < 128) = false := decide_eq_false c21
      clear c21
      have H' := Aside0.mk H
      clear H
      have hnb41 := NB483_484.out
      have hnc41 := NB484_483.out
      obtain ⟨hcz42_0, hcz42_1, hfz42_0, hfz42_1⟩ := Ke2_ BK483.out
      have p16 : 0 ≤ (x5_1 : Int) := of_decide_eq_true (by first | (with_reducible assumption) | assumption)
      have q16 : x5_1 < (a0_0.size : Int) := of_decide_eq_true (by first | (with_reducible assumption) | assumption)
      have hx16 := bt_at a0_0 x5_1
      replace p16 := eq_true p16
      replace q16 := eq_true q16
      have p20 : 0 ≤ (x5_1 : Int) := of_decide_eq_true (by first | (with_reducible assumption) | assumption)
      have q20 : x5_1 < (a0_0.size : Int) := of_decide_eq_true (by first | (with_reducible assumption) | assumption)
      have hx20 := bt_at a0_0 x5_1
      replace p20 := eq_true p20
      replace q20 := eq_true q20
      go_wp2
      go_roundg kj3
      case measure => have := HK1.out; have := HJ3.out; omega
      case rel => exact ⟨(Go.bits .or .u64 x4_1 (ji19)), (wrap64 (x5_1 + 1)), (x106_1), (x101_1), (by first | rfl | (simp; done) | (simp only [← hji19] <;> (first | rfl | simp)) | (simp [*]; done)), (by first | rfl | (simp; done) | (simp [*]; done)), H', ⟨by have := HK1.out; have := HJ3.out; omega⟩, ⟨by exact Kq_ BK483⟩, ⟨by exact Kq_ BK484⟩, ⟨K2a_ HB GE483 GE484⟩⟩
     rw [if_pos c21] at H
     have c21b0 : decide ((bt a0_0 x5_1) < 128) = true := decide_eq_true c21
     clear c21
     replace H := Option.bind_eq_some_iff.mp H
     obtain ⟨t485, A220, H⟩ := H
     replace H : (if 0 ≤ (wrap64 (x5_1 + 1)) then (if (wrap64 (x5_1 + 1)) ≤ (a0_0.size : Int) then (if t485.toList = (a0_0.extract 0 ((wrap64 (x5_1 + 1)) : Int).toNat).toList then (some (Go.bits .or .u64 x4_1 (ji19), a0_0.extract ((wrap64 (x5_1 + 1)) : Int).toNat a0_0.size, false)) else (some (0, (⟨#[]⟩ : ByteArray), true))) else (none)) else (none)) = some (r1, r2, r3) := H
     have A22 := Aside0.mk A220
     clear A220
     obtain ⟨ji23, hji23⟩ : ∃ j_ : Int, (wrap64 (x5_1 + 1)) = j_ := ⟨_, rfl⟩
     replace H : (if 0 ≤ (ji23) then (if (ji23) ≤ (a0_0.size : Int) then (if t485.toList = (a0_0.extract 0 ((ji23) : Int).toNat).toList then (some (Go.bits .or .u64 x4_1 (ji19), a0_0.extract ((ji23) : Int).toNat a0_0.size, false)) else (some (0, (⟨#[]⟩ : ByteArray), true))) else (none)) else (none)) = some (r1, r2, r3) := by first | (rw [hji23] at H; exact H) | (simp only [hji23] at H ⊢; exact H)
     (try rw [hji23] at A22)
     have hji23w : (IntKind.i64.wrap (x5_1 + 1)) = ji23 := (i64_w _).trans hji23
     by_cases c24 : 0 ≤ (ji23)
     rotate_left
     ·rw [if_neg c24] at H
      exact absurd H (by simp)
     rw [if_pos c24] at H
     have c24b0 := eq_true c24
     have c24b1 : decide (0 ≤ (ji23)) = true := decide_eq_true c24
     clear c24
     by_cases c25 : (ji23) ≤ (a0_0.size : Int)
     rotate_left
     ·rw [if_neg c25] at H
      exact absurd H (by simp)
     rw [if_pos c25] at H
     have c25b0 := eq_true c25
     have c25b1 : decide ((ji23) ≤ (a0_0.size : Int)) = true := decide_eq_true c25
     clear c25
     by_cases c26 : t485.toList = (a0_0.extract 0 ((ji23) : Int).toNat).toList
     rotate_left
     ·rw [if_neg c26] at H
      have c26b0 : (t485.toList == (a0_0.extract 0 ((ji23) : Int).toNat).toList) = false := beq_eq_false_iff_ne.mpr c26
      have c26b1 : (t485.toList != (a0_0.extract 0 ((ji23) : Int).toNat).toList) = true := bne_iff_ne.mpr c26
      simp only [Option.some.injEq, Prod.mk.injEq] at H
      obtain ⟨rfl, rfl, rfl⟩ := H
      have hnb36 := NB483_484.out
      have hnc36 := NB484_483.out
      obtain ⟨hcz37_0, hcz37_1, hfz37_0, hfz37_1⟩ := Ke2_ BK483.out
      have p16 : 0 ≤ (x5_1 : Int) := of_decide_eq_true (by first | (with_reducible assumption) | assumption)
      have q16 : x5_1 < (a0_0.size : Int) := of_decide_eq_true (by first | (with_reducible assumption) | assumption)
      have hx16 := bt_at a0_0 x5_1
      replace p16 := eq_true p16
      replace q16 := eq_true q16
      have p20 : 0 ≤ (x5_1 : Int) := of_decide_eq_true (by first | (with_reducible assumption) | assumption)
      have q20 : x5_1 < (a0_0.size : Int) := of_decide_eq_true (by first | (with_reducible assumption) | assumption)
      have hx20 := bt_at a0_0 x5_1
      replace p20 := eq_true p20
      replace q20 := eq_true q20
      try go_wp2
      replace BK483 := Kd_ BK483
      replace BK484 := Kd_ BK484
      replace HB := Aside0.mk (below_drew1 HB.out)
      refine start_ (n := 8) (S := fun w' => w'.cell? ⟨gb483, 0, none⟩ = some (.string a0_0) ∧ w'.cell? ⟨gb483, 1, none⟩ = some (.bool a0_1)) (ds := []) (mB_ 8 0) (by kernel_rfl) rfl rfl (Kc2_ BK483.out) (fun hHeld => ?_); refine with_tabW tenementref02_Reader_Vary.tab7 tenementref02_Reader_Vary.bits7 (fun HT_ HW_ => ?_)
      generalize wc.drew = w38 at BK483 BK484 HB hHeld ⊢
      refine Kp_ 0 38 (mB_ 8 1) (any_of HT_.out (by kernel_rfl)) ?_
      refine Kp_ 2 40 (mB_ 8 5) (any_of HT_.out (by kernel_rfl)) ?_
      refine Kp_ 4 42 (mB_ 8 21) (any_of HT_.out (by kernel_rfl)) ?_
      refine Kp_ 5 43 (mB_ 8 53) (any_of HT_.out (by kernel_rfl)) ?_
      refine Ko_ 3 41 (mB_ 8 61) (take_ofW HT_.out HW_.out (by kernel_rfl)) hHeld ?_
      refine Kp_ 6 44 (mB_ 8 125) (any_of HT_.out (by kernel_rfl)) ?_
      refine one_ (i := 1) (N := some 39) (mB_ 8 127) rfl rfl (one_of HT_.out (by kernel_rfl)) (by decide) (fun K hK => ?_)
      refine goes_ Try.func62 (by kernel_rfl) rfl #[.int .u64 (Go.bits .or .u64 x4_1 (ji19))] (by rfl) rfl rfl (by (try simp only [List.map_toArray, List.map_cons, List.map_nil]); first | done | (simp only [hji19]; rfl) | rfl | (simp only [List.length_drop, List.length_take]; rfl)) ?_
      with_reducible refine (tenementref02_Vary.calls kj3 (Go.bits .or .u64 x4_1 (ji19)) t485 _ A22.out).mono ?_
      rintro e w39 ⟨rfl, hb⟩
      refine ⟨_, rfl, ?_⟩
      replace BK483 := Kb_ BK483 hb
      replace BK484 := Kb_ BK484 hb
      replace HB := Ks_ HB hb
      (try clear hb)
      (try clear hb2)
      (try clear hk)
      (try clear hi)
      refine hK.out _ _ (Kc2_ BK483.out) (fun hHeld => ?_)
      clear hK K
      refine Kn_ 39 ?_
      refine Kp_ 7 45 (mB_ 8 255) (any_of HT_.out (by kernel_rfl)) ?_
      refine done_ (done_of HT_.out (by kernel_rfl)) ?_
      obtain ⟨hcz40_0, hcz40_1, hfz40_0, hfz40_1⟩ := Ke2_ BK484.out
      try go_wp2
      refine bodyPost_ret (results_tc rfl _ _ gb484 104 #[.string (⟨#[]⟩ : ByteArray), .bool true] (0, 0) _ rfl (by refine Kv_ ?_; refine blk_put (cs := #[.string (⟨#[]⟩ : ByteArray), .bool x101_1]) ?_ 1 _ rfl; refine Kv_ ?_; refine blk_put (cs := #[.string x106_1, .bool x101_1]) ?_ 0 _ rfl; exact Kq_ BK484) Try.underlying104 rfl (by kernel_rfl)) rfl ?_
      exact ⟨by first | rfl | (simp [errW_none, errW_some] <;> rfl) | (simp only [← hji17, ← hji19, ← hji23]; first | rfl | (simp [errW_none, errW_some] <;> rfl)) | (simp [*, errW_none, errW_some] <;> rfl), K2a_ HB GE483 GE484⟩
     rw [if_pos c26] at H
     have c26b0 : (t485.toList == (a0_0.extract 0 ((ji23) : Int).toNat).toList) = true := beq_iff_eq.mpr c26
     have c26b1 : (t485.toList != (a0_0.extract 0 ((ji23) : Int).toNat).toList) = false := bne_eq_false_iff_eq.mpr c26
     clear c26
     have c27b0 := eq_true (of_decide_eq_true (by first | (with_reducible assumption) | assumption) : 0 ≤ (ji23))
     have c28b0 := eq_true (of_decide_eq_true (by first | (with_reducible assumption) | assumption) : (ji23) ≤ (a0_0.size : Int))
     simp only [Option.some.injEq, Prod.mk.injEq] at H
     obtain ⟨rfl, rfl, rfl⟩ := H
     have hnb29 := NB483_484.out
     have hnc29 := NB484_483.out
     obtain ⟨hcz30_0, hcz30_1, hfz30_0, hfz30_1⟩ := Ke2_ BK483.out
     have p16 : 0 ≤ (x5_1 : Int) := of_decide_eq_true (by first | (with_reducible assumption) | assumption)
     have q16 : x5_1 < (a0_0.size : Int) := of_decide_eq_true (by first | (with_reducible assumption) | assumption)
     have hx16 := bt_at a0_0 x5_1
     replace p16 := eq_true p16
     replace q16 := eq_true q16
     have p20 : 0 ≤ (x5_1 : Int) := of_decide_eq_true (by first | (with_reducible assumption) | assumption)
     have q20 : x5_1 < (a0_0.size : Int) := of_decide_eq_true (by first | (with_reducible assumption) | assumption)
     have hx20 := bt_at a0_0 x5_1
     replace p20 := eq_true p20
     replace q20 := eq_true q20
     try go_wp2
     replace BK483 := Kd_ BK483
     replace BK484 := Kd_ BK484
     replace HB := Aside0.mk (below_drew1 HB.out)
     refine start_ (n := 8) (S := fun w' => w'.cell? ⟨gb483, 0, none⟩ = some (.string a0_0) ∧ w'.cell? ⟨gb483, 1, none⟩ = some (.bool a0_1)) (ds := []) (mB_ 8 0) (by kernel_rfl) rfl rfl (Kc2_ BK483.out) (fun hHeld => ?_); refine with_tabW tenementref02_Reader_Vary.tab7 tenementref02_Reader_Vary.bits7 (fun HT_ HW_ => ?_)
     generalize wc.drew = w31 at BK483 BK484 HB hHeld ⊢
     refine Kp_ 0 38 (mB_ 8 1) (any_of HT_.out (by kernel_rfl)) ?_
     refine Kp_ 2 40 (mB_ 8 5) (any_of HT_.out (by kernel_rfl)) ?_
     refine Kp_ 4 42 (mB_ 8 21) (any_of HT_.out (by kernel_rfl)) ?_
     refine Kp_ 5 43 (mB_ 8 53) (any_of HT_.out (by kernel_rfl)) ?_
     refine Ko_ 3 41 (mB_ 8 61) (take_ofW HT_.out HW_.out (by kernel_rfl)) hHeld ?_
     refine Kp_ 6 44 (mB_ 8 125) (any_of HT_.out (by kernel_rfl)) ?_
     refine one_ (i := 1) (N := some 39) (mB_ 8 127) rfl rfl (one_of HT_.out (by kernel_rfl)) (by decide) (fun K hK => ?_)
     refine goes_ Try.func62 (by kernel_rfl) rfl #[.int .u64 (Go.bits .or .u64 x4_1 (ji19))] (by rfl) rfl rfl (by (try simp only [List.map_toArray, List.map_cons, List.map_nil]); first | done | (simp only [hji19]; rfl) | rfl | (simp only [List.length_drop, List.length_take]; rfl)) ?_
     with_reducible refine (tenementref02_Vary.calls kj3 (Go.bits .or .u64 x4_1 (ji19)) t485 _ A22.out).mono ?_
     rintro e w32 ⟨rfl, hb⟩
     refine ⟨_, rfl, ?_⟩
     replace BK483 := Kb_ BK483 hb
     replace BK484 := Kb_ BK484 hb
     replace HB := Ks_ HB hb
     (try clear hb)
     (try clear hb2)
     (try clear hk)
     (try clear hi)
     refine hK.out _ _ (Kc2_ BK483.out) (fun hHeld => ?_)
     clear hK K
     refine Kn_ 39 ?_
     refine Kp_ 7 45 (mB_ 8 255) (any_of HT_.out (by kernel_rfl)) ?_
     refine done_ (done_of HT_.out (by kernel_rfl)) ?_
     try go_wp2
     replace BK483 := Kd_ BK483
     replace BK484 := Kd_ BK484
     replace HB := Aside0.mk (below_drew1 HB.out)
     refine start_ (n := 9) (S := fun w' => w'.cell? ⟨gb483, 0, none⟩ = some (.string a0_0) ∧ w'.cell? ⟨gb483, 1, none⟩ = some (.bool a0_1)) (ds := []) (mB_ 9 0) (by kernel_rfl) rfl rfl (Kc2_ BK483.out) (fun hHeld => ?_); refine with_tabW tenementref02_Reader_Vary.tab9 tenementref02_Reader_Vary.bits9 (fun HT_ HW_ => ?_)
     generalize w32.drew = w33 at BK483 BK484 HB hHeld ⊢
     refine Kp_ 0 47 (mB_ 9 1) (any_of HT_.out (by kernel_rfl)) ?_
     refine Kp_ 1 48 (mB_ 9 3) (any_of HT_.out (by kernel_rfl)) ?_
     refine Kp_ 3 50 (mB_ 9 11) (any_of HT_.out (by kernel_rfl)) ?_
     refine Kp_ 4 51 (mB_ 9 27) (any_of HT_.out (by kernel_rfl)) ?_
     refine Kp_ 7 2 (mB_ 9 155) (any_of HT_.out (by kernel_rfl)) ?_
     refine Ko_ 2 49 (mB_ 9 159) (take_ofW HT_.out HW_.out (by kernel_rfl)) hHeld ?_
     refine Kp_ 5 52 (mB_ 9 191) (any_of HT_.out (by kernel_rfl)) ?_
     refine Kp_ 6 53 (mB_ 9 255) (any_of HT_.out (by kernel_rfl)) ?_
     refine one_ (i := 8) (N := none) (mB_ 9 511) rfl rfl (one_of HT_.out (by kernel_rfl)) (by decide) (fun K hK => ?_)
     have hs34 : w33.cell? ⟨gb484, 0, none⟩ = some (.string x106_1) := (blk_cell BK484.out 0).trans rfl
     have hfs34 := blk_frozen BK484.out 0
     have hns34_0 := NB483_484.out
     have hms34_0 := NB484_483.out
     have hs35 : w33.cell? ⟨gb484, 1, none⟩ = some (.bool x101_1) := (blk_cell BK484.out 1).trans rfl
     have hfs35 := blk_frozen BK484.out 1
     have hns35_0 := NB483_484.out
     have hms35_0 := NB484_483.out
     refine skip_ (w1 := ?_) (by rfl) rfl ?_ ?_
     rotate_left
     ·go_simp
      rfl
     refine hK.out _ _ ⟨(Kj_ NB483_484 ((Kj_ NB483_484 (hHeld.1)))), (Kj_ NB483_484 ((Kj_ NB483_484 (hHeld.2))))⟩ (fun hHeld => ?_)
     clear hK K
     refine done_ (done_of HT_.out (by kernel_rfl)) ?_
     try go_wp2
     refine bodyPost_ret (results_tc rfl _ _ gb484 104 #[.string (a0_0.extract ((ji23) : Int).toNat a0_0.size), .bool false] (0, 0) _ rfl (by refine Kv_ ?_; refine blk_put (cs := #[.string (a0_0.extract ((ji23) : Int).toNat a0_0.size), .bool x101_1]) ?_ 1 _ rfl; refine Kv_ ?_; refine blk_put (cs := #[.string x106_1, .bool x101_1]) ?_ 0 _ rfl; exact Kq_ BK484) Try.underlying104 rfl (by kernel_rfl)) rfl ?_
     exact ⟨by first | rfl | (simp [errW_none, errW_some] <;> rfl) | (simp only [← hji17, ← hji19, ← hji23]; first | rfl | (simp [errW_none, errW_some] <;> rfl)) | (simp [*, errW_none, errW_some] <;> rfl), K2a_ HB GE483 GE484⟩
end Go.Proofs.Ytoogchgoiciggaa.Q
