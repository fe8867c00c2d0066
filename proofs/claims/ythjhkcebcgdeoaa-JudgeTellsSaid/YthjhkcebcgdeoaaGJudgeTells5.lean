import Derived.Test.YthjhkcebcgdeoaaGJudgeTells4
import Derived.Test.YthjhkcebcgdeoaaGJudgeTells2
import Derived.Test.YthjhkcebcgdeoaaGJudgeTells0
import Derived.Test.YthjhkcebcgdeoaaGJudgeTells3
set_option linter.unusedVariables false
set_option linter.unusedSimpArgs false
namespace Go.Proofs.Ythjhkcebcgdeoaa.Jud
open Go Go.RowKit Go.WideShapes Go.Proofs.Ythjhkcebcgdeoaa.Q Go.Proofs.YthjhkcebcgdeoaaW.PrintWords Go.Proofs.YthjhkcebcgdeoaaW.PrintLast Go.Proofs.YthjhkcebcgdeoaaW.PrintMore
open Go.Maps (Keyed)
open Go.Proofs.Ythjhkcebcgdeoaa.Pure (wrap64_id toList_data toList_iff)
theorem wrap_step (t a b c : Int) (h : a = c + b) : wrap64 (wrap64 (t - a) + c) = wrap64 (t - b) := by
 unfold wrap64
 omega
theorem wrap_none (t a : Int) (h : a = t) : wrap64 (t - a) = 0 := by
 unfold wrap64
 omega
theorem wrap_all (t a : Int) (h : a = 0) : wrap64 (t - a) = wrap64 t := by
 unfold wrap64
 omega
def eqP (p q : Pr) : Bool := (p.1.toList == q.1.toList) && (p.2.toList == q.2.toList)
theorem eqP_iff {p q : Pr} : eqP p q = true ↔ p = q := by
 obtain ⟨a, b⟩ := p
 obtain ⟨c, d⟩ := q
 unfold eqP
 rw [Bool.and_eq_true, beq_iff_eq, beq_iff_eq, toList_iff, toList_iff, Prod.mk.injEq]
def nub : List Pr → List Pr
 | [] => []
 | p :: r => if r.any (eqP p) then nub r else p :: nub r
theorem nub_mem (q : Pr) : ∀ l : List Pr, q ∈ nub l ↔ q ∈ l
 | [] => by simp [nub]
 | p :: r => by
  unfold nub
  by_cases h : r.any (eqP p) = true
  ·rw [if_pos h, nub_mem q r, List.mem_cons]
   obtain ⟨x, hx, he⟩ := List.any_eq_true.1 h
   rw [eqP_iff] at he
   subst he
   exact ⟨.inr, fun h => h.elim (fun e => e ▸ hx) id⟩
  ·rw [if_neg h, List.mem_cons, List.mem_cons, nub_mem q r]
theorem nub_nodup : ∀ l : List Pr, (nub l).Nodup
 | [] => by simp [nub]
 | p :: r => by
  unfold nub
  by_cases h : r.any (eqP p) = true
  ·rw [if_pos h]; exact nub_nodup r
  ·rw [if_neg h, List.nodup_cons]
   refine ⟨fun hm => h ?_, nub_nodup r⟩
   rw [nub_mem] at hm
   exact List.any_eq_true.2 ⟨p, hm, eqP_iff.2 rfl⟩
theorem grown_some {w w' : World} {r : Nat} (h : w.grownBy w' none) : w.grownBy w' (some r) := ⟨h.os, h.tape, h.output, h.size, fun i hi _ => h.block i hi (by simp)⟩
def allS : St → Bool := fun _ => true
def lastOf (od : St → St → Int) (l : List Tx) (p : Pr) : Int := szJ (lst allS od p.1 p.2 l)
def liveJ (od : St → St → Int) (l : List Tx) : Int := wrap64 (((nub (prs l)).map (lastOf od l)).sum)
def fL (od : St → St → Int) (l : List Tx) (lit : Lit) : Int := match (prs l).find? (fun p => (klp p).sameKey lit) with | some p => lastOf od l p | none => 0
theorem fL_at {od : St → St → Int} {l : List Tx} (hs : ∀ p ∈ prs l, sized p) {p : Pr} (hp : p ∈ prs l) : fL od l (klp p) = lastOf od l p := by
 have hsome : ((prs l).find? (fun q => (klp q).sameKey (klp p))).isSome = true := List.find?_isSome.2 ⟨p, hp, WideAt.sameKey_self (kl_isKey _ _)⟩
 obtain ⟨x, hx⟩ := Option.isSome_iff_exists.1 hsome
 have hxm := List.mem_of_find?_eq_some hx
 have hxe : klp x = klp p := WideAt.sameKey_eq (by simpa using List.find?_some hx)
 obtain ⟨e1, e2⟩ := kl_inj (hs x hxm).1 (hs x hxm).2 (hs p hp).1 (hs p hp).2 hxe
 have : x = p := Prod.ext e1 e2
 unfold fL
 rw [hx, this]
theorem sum_perm {x y : List Int} (h : x.Perm y) : x.sum = y.sum := by
 induction h with
 | nil => rfl
 | cons a _ ih => simp only [List.sum_cons] at ih ⊢; omega
 | swap a b l => simp only [List.sum_cons]; omega
 | trans _ _ i1 i2 => exact i1.trans i2
def uB : DataW Unit := .lit (.bool true)
theorem key_mem {P : List Pr} {es : List (Lit × DataW Unit)} (he : Go.Maps.setOf uB (P.map klp) = .map es) {k : Lit} (hk : WideAt.IsKeyLit k) (hks : ∀ p ∈ es, WideAt.IsKeyLit p.1) : k ∈ es.map (·.1) ↔ ∃ p ∈ P, klp p = k := by
 have h1 := Go.Maps.has_setOf uB k (P.map klp) (fun x hx => by obtain ⟨p, _, rfl⟩ := List.mem_map.1 hx; exact kl_isKey _ _)
 rw [he] at h1
 have h2 : es.any (fun p => p.1.sameKey k) = (P.map klp).any (fun x => x.sameKey k) := h1
 constructor
 ·intro hm
  obtain ⟨p, hp, rfl⟩ := List.mem_map.1 hm
  have : es.any (fun q => q.1.sameKey p.1) = true := List.any_eq_true.2 ⟨p, hp, WideAt.sameKey_self hk⟩
  rw [h2] at this
  obtain ⟨x, hx, hs⟩ := List.any_eq_true.1 this
  obtain ⟨q, hq, rfl⟩ := List.mem_map.1 hx
  exact ⟨q, hq, WideAt.sameKey_eq hs⟩
 ·rintro ⟨p, hp, rfl⟩
  have : (P.map klp).any (fun x => x.sameKey (klp p)) = true := List.any_eq_true.2 ⟨klp p, List.mem_map.2 ⟨p, hp, rfl⟩, WideAt.sameKey_self hk⟩
  rw [← h2] at this
  obtain ⟨q, hq, hs⟩ := List.any_eq_true.1 this
  exact List.mem_map.2 ⟨q, hq, WideAt.sameKey_eq hs⟩
theorem live_tot {od : St → St → Int} {l : List Tx} (hs : ∀ p ∈ prs l, sized p) {es : List (Lit × DataW Unit)} (he : Go.Maps.setOf uB ((prs l).map klp) = .map es) (hpw : es.Pairwise (fun p q => p.1 ≠ q.1)) (hks : ∀ p ∈ es, WideAt.IsKeyLit p.1) : tot (fL od l) es = ((nub (prs l)).map (lastOf od l)).sum := by
 have hn1 : (es.map (·.1)).Nodup := List.pairwise_map.2 hpw
 have hn2 : ((nub (prs l)).map klp).Nodup := by
  refine List.pairwise_map.2 ((nub_nodup (prs l)).imp_of_mem (fun {a b} ha hb hne e => hne ?_))
  have ha' := hs a ((nub_mem a _).1 ha)
  have hb' := hs b ((nub_mem b _).1 hb)
  obtain ⟨e1, e2⟩ := kl_inj ha'.1 ha'.2 hb'.1 hb'.2 e
  exact Prod.ext e1 e2
 have hp : (es.map (·.1)).Perm ((nub (prs l)).map klp) := by
  refine (List.perm_ext_iff_of_nodup hn1 hn2).2 (fun k => ?_)
  constructor
  ·intro hm
   obtain ⟨q, hq, e⟩ := List.mem_map.1 hm
   obtain ⟨p, hp, rfl⟩ := (key_mem he (e ▸ hks q hq) hks).1 hm
   exact List.mem_map.2 ⟨p, (nub_mem p _).2 hp, rfl⟩
  ·intro hm
   obtain ⟨p, hp, rfl⟩ := List.mem_map.1 hm
   exact (key_mem he (kl_isKey _ _) hks).2 ⟨p, (nub_mem p _).1 hp, rfl⟩
 have h1 : tot (fL od l) es = ((es.map (·.1)).map (fL od l)).sum := by unfold tot; rw [List.map_map]; rfl
 rw [h1, sum_perm (hp.map (fL od l)), List.map_map]
 congr 1
 refine List.map_congr_left (fun p hp => ?_)
 exact fL_at hs ((nub_mem p _).1 hp)
set_option maxHeartbeats 16000000 in
set_option maxRecDepth 100000 in
theorem live_c (od : St → St → Int) (A : Option Addr) (c : Nat) (l : List Tx) (w : World) (hr : Kd.C k64 w A l.length l) (hc : l.length ≤ c) (hl : l.length ≤ 1000000) (hw : ∀ x ∈ l, x.f1.length ≤ 1000) (hsz : ∀ p ∈ prs l, sized p)
  (ho : ∀ x ∈ l, ∀ y ∈ l, ∃ q, stamp_Order.f q x.f0.f0.f0 x.f0.f0.f1 x.f0.f0.f2 x.f0.f0.f3 x.f0.f1 y.f0.f0.f0 y.f0.f0.f1 y.f0.f0.f2 y.f0.f0.f3 y.f0.f1 = some (od x.f0 y.f0)) :
  Calls Try.prog 22 #[.slice A l.length c] w fun e w' => e = .returned (.int .i64 (liveJ od l)) ∧ Below w.heap.size w w' := by
 have HR := Aside0.mk hr
 have HW := Aside0.mk hw
 have HSZ := Aside0.mk hsz
 have HO := Aside0.mk ho
 have hmm := @run_makeMap Try.prog
 clear hr hw hsz ho
 go_enter Try.func22, Try.ntmps22
 go_wp2
 go_loopg [13] l.length (fun kq v13 wr => ∃ (j : Nat), v13 = .int .i64 j ∧ Aside0 (j ≤ l.length) ∧ Aside0 (l.length - j ≤ kq) ∧ Aside0 ((prs (l.take j)).length ≤ j * 1000) ∧ Aside0 (ownsB wr 102 w.heap.size (prs (l.take j)).length (Go.Maps.setOf uB ((prs (l.take j)).map klp))) ∧ Aside0 (Below w.heap.size w wr))
 case atStart => exact ⟨0, rfl, ⟨by omega⟩, ⟨by omega⟩, ⟨by simp [prs]⟩, ⟨World.ownsMap_made w Try.prog 102 _⟩, ⟨below_alloc (Below.refl _ _) _⟩⟩
 case round =>
  clear hmm
  obtain ⟨j, rfl, HJ, HK, HDN, HOW, HB⟩ := hrel
  by_cases c1 : j < l.length
  ·have c1b : decide ((j : Int) < (l.length : Int)) = true := decide_eq_true (by omega)
   have c0b : decide (0 ≤ (j : Int)) = true := decide_eq_true (by omega)
   have hx := rd64_eq l j c1
   have hm : rd_T64 l j ∈ l := List.mem_of_getElem? hx
   obtain ⟨ad, Ax, cx, e0, h0, h1, h2, h3, h4, h5, lx, gx⟩ := at_T64 HR.out (j : Int) (by omega) (by omega)
   cases e0
   replace h0 := (HB.out.cell (World.block_lt_of_cell? w _ h0)).trans h0
   replace h1 := (HB.out.cell (World.block_lt_of_cell? w _ h1)).trans h1
   replace h2 := (HB.out.cell (World.block_lt_of_cell? w _ h2)).trans h2
   replace h3 := (HB.out.cell (World.block_lt_of_cell? w _ h3)).trans h3
   replace h4 := (HB.out.cell (World.block_lt_of_cell? w _ h4)).trans h4
   replace h5 := (HB.out.cell (World.block_lt_of_cell? w _ h5)).trans h5
   have HWL := Aside0.mk (HW.out _ hm)
   have HPR := Aside0.mk (show prs (l.take (j + 1)) = prs (l.take j) ++ (rd_T64 l j).f1.map (fun y => (y.f0, y.f1)) by unfold prs; rw [List.take_add_one, hx, List.flatMap_append]; simp)
   have HSX := Aside0.mk (show ∀ y ∈ (rd_T64 l j).f1, sized (y.f0, y.f1) from fun y hy => HSZ.out _ (List.mem_flatMap.2 ⟨_, hm, List.mem_map.2 ⟨y, hy, rfl⟩⟩))
   clear hx hm
   generalize rd_T64 l j = x at *
   obtain ⟨⟨⟨y0, y1, y2, y3⟩, y4⟩, y5⟩ := x
   simp only [Int.toNat_natCast] at h0 h1 h2 h3 h4 h5
   have GX : Aside0 (Kd.C k24 w Ax y5.length y5) := ⟨gx⟩
   have HWL : Aside0 (y5.length ≤ 1000) := HWL
   have HPR : Aside0 (prs (l.take (j + 1)) = prs (l.take j) ++ y5.map (fun y => (y.f0, y.f1))) := HPR
   have HSX : Aside0 (∀ y ∈ y5, sized (y.f0, y.f1)) := HSX
   clear gx lx
   go_wp2_with (first
    | ((with_reducible refine gate_dst (N := 5) rfl ?_); refine Ka_ 5 #[.int .u64 0, .int .u64 0, .int .u64 0, .int .u64 0, .int .i64 0, .slice none 0 0] 64 ?_; intro g5 hg w3 hbox hb; have GE5 : Aside0 (wr.heap.size ≤ g5) := ⟨Nat.le_of_eq hg.symm⟩; have BK5 := Aside0.mk hbox; have H3 := Aside0.mk hb; obtain ⟨hca0, hca1, hca2, hca3, hca4, hca5, hfa0, hfa1, hfa2, hfa3, hfa4, hfa5⟩ := Ke6_ BK5.out; clear hb hbox hg))
   try go_frame
   go_loopg [20] y5.length (fun kq v20 wr => ∃ (i : Nat) (dn : List Pr), v20 = .int .i64 i ∧ Aside0 (i ≤ y5.length) ∧ Aside0 (y5.length - i ≤ kq) ∧ Aside0 (dn = prs (l.take j) ++ (y5.take i).map (fun y => (y.f0, y.f1))) ∧ Aside0 (ownsB wr 102 w.heap.size dn.length (Go.Maps.setOf uB (dn.map klp))) ∧ Aside0 (Below w.heap.size w wr))
   case atStart => exact ⟨0, prs (l.take j), rfl, ⟨by omega⟩, ⟨by omega⟩, ⟨by simp⟩, ⟨HOW.out.kept (grown0 ((((((((((((H3.out).setCell GE5.out _)).setCell GE5.out _)).setCell GE5.out _)).setCell GE5.out _)).setCell GE5.out _)).setCell GE5.out _)) (by simp)⟩, ⟨below_step HB.out ((((((((((((H3.out).setCell GE5.out _)).setCell GE5.out _)).setCell GE5.out _)).setCell GE5.out _)).setCell GE5.out _)).setCell GE5.out _)⟩⟩
   case round =>
    clear HOW HB BK5 H3
    obtain ⟨i, dn, rfl, HI, HK2, HD, HOW, HB⟩ := hrel
    have hyl := HWL.out
    have HDL : Aside0 (dn.length ≤ 1001000000) := ⟨by have h1 := HDN.out; have h2 := HWL.out; have h3 := HI.out; rw [HD.out, List.length_append, List.length_map, List.length_take]; have : j * 1000 ≤ 1000000 * 1000 := Nat.mul_le_mul_right _ (by omega); omega⟩
    by_cases d1 : i < y5.length
    ·have d1b : decide ((i : Int) < (y5.length : Int)) = true := decide_eq_true (by omega)
     have d0b : decide (0 ≤ (i : Int)) = true := decide_eq_true (by omega)
     have hy : y5[i]? = some (rd_T24 y5 i) := by
      unfold rd_T24
      rw [Int.toNat_natCast, List.getD_eq_getElem?_getD, List.getElem?_eq_getElem d1]
      rfl
     obtain ⟨ax, e1, z0, z1, z2, z3⟩ := at_T24 GX.out (i : Int) (by omega) (by omega)
     cases e1
     replace z0 := (HB.out.cell (World.block_lt_of_cell? w _ z0)).trans z0
     replace z1 := (HB.out.cell (World.block_lt_of_cell? w _ z1)).trans z1
     replace z2 := (HB.out.cell (World.block_lt_of_cell? w _ z2)).trans z2
     replace z3 := (HB.out.cell (World.block_lt_of_cell? w _ z3)).trans z3
     have HSY := Aside0.mk (HSX.out _ (List.mem_of_getElem? hy))
     have HDS := Aside0.mk (show prs (l.take j) ++ (y5.take (i + 1)).map (fun y => (y.f0, y.f1)) = dn ++ [((rd_T24 y5 i).f0, (rd_T24 y5 i).f1)] by rw [HD.out, List.take_add_one, hy]; simp)
     clear hy
     generalize rd_T24 y5 i = z at *
     obtain ⟨x0, x1, x2, x3⟩ := z
     simp only [Int.toNat_natCast] at z0 z1 z2 z3
     have HY := Aside0.mk (kl_of x0 x1 HSY.out.1 HSY.out.2)
     go_wp2_with (first
      | ((with_reducible refine gate_dst (N := 7) rfl ?_); refine Ka_ 7 #[.string (⟨#[]⟩ : ByteArray), .string (⟨#[]⟩ : ByteArray), .string (⟨#[]⟩ : ByteArray), .bool false] 24 ?_; intro g7 hg w4 hbox hb; have GE7 : Aside0 (wr.heap.size ≤ g7) := ⟨Nat.le_of_eq hg.symm⟩; have BK7 := Aside0.mk hbox; have H4 := Aside0.mk hb; obtain ⟨hcb0, hcb1, hcb2, hcb3, hfb0, hfb1, hfb2, hfb3⟩ := cells4 BK7.out; have HM5 : Aside0 (ownsB ((((w4.setCell ⟨g7, 0, none⟩ (.string x0)).setCell ⟨g7, 1, none⟩ (.string x1)).setCell ⟨g7, 2, none⟩ (.string x2)).setCell ⟨g7, 3, none⟩ (.bool x3)) 102 w.heap.size dn.length (Go.Maps.setOf uB (dn.map klp))) := ⟨HOW.out.kept (grown0 ((((((((H4.out).setCell GE7.out _)).setCell GE7.out _)).setCell GE7.out _)).setCell GE7.out _)) (by simp)⟩; clear hb hbox hg)
      | (at_mapUpdate; refine wpList_mapUpdate_own _ rfl _ _ _ 100 rfl 102 4 keyed_at Try.underlying100 (plainElem (H := Unit) Try.prog 4) w.heap.size dn.length _ rfl HM5.out (by have := HDL.out; unfold maxLen; omega) _ _ (kl x0 x1) rfl rfl HY.out (.lit (.bool true)) [] (plainElem_bool Try.underlying4 true) ?_; intro w6 hown1 hgrow1; have HM6 := Aside0.mk hown1; have HG6 := Aside0.mk hgrow1; clear hown1 hgrow1))
     go_roundg (y5.length - (i + 1))
     case measure => have := HK2.out; omega
     case rel => exact ⟨i + 1, dn ++ [(x0, x1)], by first | rfl | (rw [show ((i + 1 : Nat) : Int) = (i : Int) + 1 by omega]; rfl) | (rw [show ((i + 1 : Nat) : Int) = (i : Int) + 1 by omega]; congr 1; exact wrap64_id (by omega) (by omega)), ⟨by omega⟩, ⟨by omega⟩, ⟨HDS.out.symm⟩, ⟨by rw [List.map_append, List.map_singleton, Go.Maps.setOf_snoc, List.length_append]; exact HM6.out⟩, ⟨below_by (below_step HB.out ((((((((H4.out).setCell GE7.out _)).setCell GE7.out _)).setCell GE7.out _)).setCell GE7.out _)) HG6.out (Nat.le_refl _)⟩⟩
    ·have d1b : decide ((i : Int) < (y5.length : Int)) = false := decide_eq_false (by omega)
     have HE : Aside0 (dn = prs (l.take (j + 1))) := ⟨by rw [HD.out, HPR.out, List.take_of_length_le (show y5.length ≤ i by omega)]⟩
     go_wp2
     go_roundg (l.length - (j + 1))
     case measure => have := HK.out; omega
     case rel => exact ⟨j + 1, by first | rfl | (rw [show ((j + 1 : Nat) : Int) = (j : Int) + 1 by omega]; rfl) | (rw [show ((j + 1 : Nat) : Int) = (j : Int) + 1 by omega]; congr 1; exact wrap64_id (by omega) (by omega)), ⟨by omega⟩, ⟨by omega⟩, ⟨by rw [HPR.out, List.length_append, List.length_map]; have := HDN.out; have := HWL.out; omega⟩, ⟨by rw [← HE.out]; exact HOW.out⟩, HB⟩
  ·have c1b : decide ((j : Int) < (l.length : Int)) = false := decide_eq_false (by omega)
   have hown := HOW.out
   rw [List.take_of_length_le (show l.length ≤ j by omega)] at hown
   obtain ⟨es, hes, hpw, hks⟩ := hown.entries keyed_at
   rw [hes] at hown
   have HOE := Aside0.mk hown
   have HES := Aside0.mk hes
   have HPW := Aside0.mk hpw
   have HKS := Aside0.mk hks
   obtain ⟨n, hn⟩ : ∃ n, n = (prs l).length := ⟨_, rfl⟩
   rw [← hn] at HOE
   clear hown hes hpw hks hn
   go_wp2_with (first
    | (at_range; refine wp_range (fL od l) _ rfl _ rfl w.heap.size n es rfl HOE.out ?_; intro w0 left0 cnt0 hgo htd hgr hsz; obtain ⟨r, hr⟩ : ∃ r, r = wr.heap.size := ⟨_, rfl⟩; rw [← hr] at hgo ⊢; have HGO := Aside0.mk hgo; have HTD := Aside0.mk htd; have HB0 := Aside0.mk (below_step HB.out (below_by (Below.refl _ _) (grown_some hgr) (Nat.le_of_eq hr.symm))); have HRW : Aside0 (w.heap.size ≤ r) := ⟨by rw [hr]; exact HB.out.size⟩; clear hgo htd hgr hsz hr))
   try go_frame
   go_loopg [8] cnt0 (fun kq v8 wr => ∃ (left : Lit → Bool) (cnt : Nat), v8 = .int .i64 (wrap64 (tot (fL od l) es - tot (fL od l) (es.filter fun p => left p.1))) ∧ Aside0 (cnt ≤ kq) ∧ Aside0 (ranging wr w.heap.size r n es left cnt) ∧ Aside0 (Below w.heap.size w wr))
   case atStart => exact ⟨left0, cnt0, by rw [wrap_none _ _ HTD.out], ⟨Nat.le_refl _⟩, HGO, HB0⟩
   case round =>
    clear HGO HTD HB0 HOE HOW HB
    obtain ⟨left, cnt, rfl, HCN, HG, HB⟩ := hrel
    go_wp2_with (first | (at_next; refine wp_next (fL od l) _ rfl _ rfl w.heap.size r n es left cnt rfl HG.out ?_ ?_))
    ·intro hz
     have HZ := Aside0.mk hz
     clear hz
     go_wp2
     go_ret
     exact ⟨by rw [wrap_all _ _ HZ.out]; unfold liveJ; rw [live_tot HSZ.out HES.out HPW.out HKS.out]; rfl, HB.out⟩
    ·intro key kl' cb dd w2 left1 cnt1 hkey hm htd hg1 hlt hgr hsz hen
     obtain ⟨p, hp, hpe⟩ := (key_mem HES.out (HKS.out _ hm) HKS.out).1 (List.mem_map.2 ⟨_, hm, rfl⟩)
     have hpe : klp p = kl' := hpe
     subst hpe
     obtain rfl : key = .agg #[.string p.1, .string p.2] := keyed_at.inj hkey (kl_of p.1 p.2 (HSZ.out p hp).1 (HSZ.out p hp).2)
     rw [fL_at HSZ.out hp] at htd
     have HT := Aside0.mk htd
     have HL := Aside0.mk hlt
     have HG1 := Aside0.mk hg1
     have HB1 := Aside0.mk (below_by HB.out hgr HRW.out)
     have HPS := Aside0.mk hp
     clear htd hlt hg1 hgr hsz hkey hm
     obtain ⟨z, hz⟩ : ∃ z, z = lst allS od p.1 p.2 l := ⟨_, rfl⟩
     have HZ := Aside0.mk hz
     have HSZJ := Aside0.mk (show lastOf od l p = szJ z by unfold lastOf; rw [← hz])
     clear hz
     obtain ⟨pb, pk⟩ := p
     obtain ⟨z0, z1, z2, z3⟩ := z
     go_wp2_with (first
      | ((with_reducible refine gate_dst (N := 9) rfl ?_); refine Ka_ 9 #[.string (⟨#[]⟩ : ByteArray), .string (⟨#[]⟩ : ByteArray)] 102 ?_; intro g9 hg w3 hbox hb; have GE9 : Aside0 (w2.heap.size ≤ g9) := ⟨Nat.le_of_eq hg.symm⟩; have H3 := Aside0.mk hb; have hcc0 := (blk_cell hbox 0).trans rfl; have hcc1 := (blk_cell hbox 1).trans rfl; have hfc0 := blk_frozen hbox 0; have hfc1 := blk_frozen hbox 1; clear hb hbox hg)
      | ((with_reducible refine gate_callee (f := 33) rfl ?_); refine Kg_ (some 44) rfl rfl Try.func33 (by kernel_rfl) rfl #[.slice A l.length c, .string pb, .string pk, .func (.func 36) #[] #[]] rfl ?_; (with_reducible refine (last_c allS od 36 #[] (enters Try.prog Try.func36 (by kernel_rfl) rfl) pb pk A c l _ ?s1 hc hl ?s2 ?s3 ?s4).mono ?_); (case s1 => exact Kd.C_below HR.out (below_step HB1.out ((((H3.out).setCell GE9.out _)).setCell GE9.out _))); (case s2 => exact fun x hx => Nat.le_trans (HW.out x hx) (by decide)); (case s3 => intro W x _ _; obtain ⟨⟨⟨p0, p1, p2, p3⟩, p4⟩, p5⟩ := x; exact all_c p0 p1 p2 p3 p4 W); (case s4 => exact HO.out); rintro e w4 ⟨rfl, hb⟩; rw [← HZ.out]; refine ⟨_, rfl, ?_⟩; have HC4 := Aside0.mk (below_step ((((H3.out).setCell GE9.out _)).setCell GE9.out _) hb); clear hb)
      | ((with_reducible refine gate_callee (f := 27) rfl ?_); refine Kg_ (some 45) rfl rfl Try.func27 (by kernel_rfl) rfl #[.agg #[.string z0, .string z1, .string z2, .bool z3]] rfl ?_; (with_reducible refine (item_Size.calls z0 z1 z2 z3 (szJ ⟨z0, z1, z2, z3⟩) _ (size_f ⟨z0, z1, z2, z3⟩)).mono ?_); rintro e w5 ⟨rfl, hb⟩; refine ⟨_, rfl, ?_⟩; have HC5 := Aside0.mk (below_step HC4.out hb); clear hb; generalize szJ ⟨z0, z1, z2, z3⟩ = sz at *))
     go_roundg cnt1
     case measure => have := HL.out; have := HCN.out; omega
     case rel => exact ⟨left1, cnt1, by rw [wrap_step _ _ _ _ (by rw [← HSZJ.out]; exact HT.out)], ⟨Nat.le_refl _⟩, ⟨HG1.out.kept (grown0 HC5.out) (by simp) (by simp)⟩, ⟨below_step HB1.out HC5.out⟩⟩
end Go.Proofs.Ythjhkcebcgdeoaa.Jud

namespace Go.Proofs.Ythjhkcebcgdeoaa.Q
open Go.RowKit Go.Proofs.YthjhkcebcgdeoaaW.PrintWords Go.Proofs.YthjhkcebcgdeoaaW.PrintLast Go.Proofs.YthjhkcebcgdeoaaW.PrintMore
attribute [local go_sem] max2_int min2_int max_two min_two max_three min_three max_four min_four   -- for this text's walks alone
set_option linter.unusedVariables false
set_option linter.unusedSimpArgs false
def judge_Live.ok (l : List S64) : Prop := l.length ≤ 1000000 ∧ ∀ x ∈ l, x.f1.length ≤ 1000 ∧ ∀ y ∈ x.f1, y.f0.size ≤ 9223372036854775807 ∧ y.f1.size ≤ 9223372036854775807
instance judge_Live.dec (l : List S64) : Decidable (judge_Live.ok l) := inferInstanceAs (Decidable (_ ∧ _))
def judge_Live.od (x y : S56) : Int := Go.Proofs.Ythjhkcebcgdeoaa.Pure.lex (Go.Proofs.Ythjhkcebcgdeoaa.Pure.key x.f0.f0 x.f0.f1 x.f0.f2 x.f0.f3 x.f1) (Go.Proofs.Ythjhkcebcgdeoaa.Pure.key y.f0.f0 y.f0.f1 y.f0.f2 y.f0.f3 y.f1)
def judge_Live.f (l0 : List S64) : Option Int := if judge_Live.ok l0 then some (Go.Proofs.Ythjhkcebcgdeoaa.Jud.liveJ judge_Live.od l0) else none
theorem judge_Live.calls (A0 : Option Addr) (c0 : Nat) (l0 : List S64) (r : Int) (w : World) (hr0 : Kd.C k64 w A0 l0.length l0) (hc0 : l0.length ≤ c0) (h : judge_Live.f l0 = some r) :
  Calls Try.prog 22 #[.slice A0 l0.length c0] w fun e w' => e = .returned (.int .i64 r) ∧ Below w.heap.size w w' := by
 unfold judge_Live.f at h
 by_cases hc : judge_Live.ok l0
 rotate_left
 ·rw [if_neg hc] at h; cases h
 rw [if_pos hc] at h
 injection h with h
 rw [← h]
 refine Go.Proofs.Ythjhkcebcgdeoaa.Jud.live_c judge_Live.od A0 c0 l0 w hr0 hc0 hc.1 (fun x hx => (hc.2 x hx).1) ?_ (fun x _ y _ => ⟨5, Go.Proofs.Ythjhkcebcgdeoaa.Pure.order_f _ _ _ _ _ _ _ _ _ _ (Nat.le_refl _)⟩)
 intro p hp
 obtain ⟨x, hx, hm⟩ := List.mem_flatMap.1 hp
 obtain ⟨y, hy, rfl⟩ := List.mem_map.1 hm
 exact (hc.2 x hx).2 y hy
theorem eqA24 (d : Nat) (w : World) (x0 y0 : ByteArray) (x1 y1 : ByteArray) (x2 y2 : ByteArray) (x3 y3 : Bool) :
  (Op.equalIn (d + 2) 24 (.agg #[.string x0, .string x1, .string x2, .bool x3]) (.agg #[.string y0, .string y1, .string y2, .bool y3])).run Try.prog w = .ok (x0.toList == y0.toList && (x1.toList == y1.toList && (x2.toList == y2.toList && (x3 == y3)))) w := by
 refine eqA_of Try.underlying24 (by kernel_rfl) ?_
 refine eqf_cons (by rfl) (by go_simp; rfl) (by go_simp; rfl) (by go_simp) ?_
 refine eqf_cons (by rfl) (by go_simp; rfl) (by go_simp; rfl) (by go_simp) ?_
 refine eqf_cons (by rfl) (by go_simp; rfl) (by go_simp; rfl) (by go_simp) ?_
 exact eqf_last (by rfl) (by go_simp; rfl) (by go_simp; rfl) (by go_simp)
attribute [local go_sem high] eqA24
def item_Write_72.l0 : Nat → List (S24) → List (S24) → Int → Int → Option (Bool)
 | 0, _, _, _, _ => none
 | k + 1, x0, x1, x12, x13 => if x13 < x12 then (if 0 ≤ x13 then (if x13 < (x0.length : Int) then (if x13 < (x1.length : Int) then (if (!((((rd_T24 x0 x13).f0).toList) == (((rd_T24 x1 x13).f0).toList)) || (!((((rd_T24 x0 x13).f1).toList) == (((rd_T24 x1 x13).f1).toList)) || (!((((rd_T24 x0 x13).f2).toList) == (((rd_T24 x1 x13).f2).toList)) || (!(((rd_T24 x0 x13).f3) == ((rd_T24 x1 x13).f3)))))) = true then (some false) else (item_Write_72.l0 k x0 x1 x12 (wrap64 (x13 + 1)))) else (none)) else (none)) else (none)) else (some true)
def item_Write_72.f (k : Nat) (l0 : List (S24)) (l1 : List (S24)) : Option (Bool) := if (l0.length : Int) = (l1.length : Int) then (item_Write_72.l0 k l0 l1 (l0.length : Int) 0) else (some false)
set_option maxHeartbeats 8000000 in
set_option maxRecDepth 100000 in
theorem item_Write_72.calls (k : Nat) (A0 : Option Addr) (c0 : Nat) (l0 : List (S24)) (A1 : Option Addr) (c1 : Nat) (l1 : List (S24)) (r : Bool) (w : World) (hr0 : Kd.C k24 w A0 l0.length l0) (hc0 : l0.length ≤ c0) (hr1 : Kd.C k24 w A1 l1.length l1) (hc1 : l1.length ≤ c1) (h : item_Write_72.f k l0 l1 = some r) :
  Calls Try.prog 72 #[.slice A0 l0.length c0, .slice A1 l1.length c1] w fun e w' => e = .returned (.bool r) ∧ Drawn0 w w' := by
 have hu24 := Try.underlying24
 have HR0 := Aside0.mk hr0
 have HC0 := Aside0.mk hc0
 clear hr0 hc0
 have HR1 := Aside0.mk hr1
 have HC1 := Aside0.mk hc1
 clear hr1 hc1
 have H : (if (l0.length : Int) = (l1.length : Int) then (item_Write_72.l0 k l0 l1 (l0.length : Int) 0) else (some false)) = some r := h
 clear h
 by_cases c3 : (l0.length : Int) = (l1.length : Int)
 rotate_left
 ·rw [if_neg c3] at H
  have c3b0 : ((l0.length : Int) == (l1.length : Int)) = false := beq_eq_false_iff_ne.mpr c3
  have c3b1 : ((l0.length : Int) != (l1.length : Int)) = true := bne_iff_ne.mpr c3
  have c3b2 : (l0.length == l1.length) = false := by first | simpa using c3 | (simp at c3 ⊢; omega)
  obtain rfl := Option.some.inj H
  go_enter Try.func72, Try.ntmps72
  go_wp2
  repeat (go_quiet (fail); try go_wp2)
  go_ret
  exact ⟨by first | rfl | (simp; done) | (simp [*]; done), by repeat (first | exact Drawn0.refl _ | apply Drawn0.step)⟩
 rw [if_pos c3] at H
 have c3b0 : ((l0.length : Int) == (l1.length : Int)) = true := beq_iff_eq.mpr c3
 have c3b1 : ((l0.length : Int) != (l1.length : Int)) = false := bne_eq_false_iff_eq.mpr c3
 have c3b2 : (l0.length == l1.length) = true := by first | simpa using c3 | (simp at c3 ⊢; omega)
 clear c3
 have H' := Aside0.mk H
 clear H
 go_enter Try.func72, Try.ntmps72
 go_wp2
 repeat (go_quiet (fail); try go_wp2)
 go_loopg [13] k (fun kq v13 w' => ∃ (x13_1 : Int), v13 = .int .i64 x13_1 ∧ Aside0 (item_Write_72.l0 kq l0 l1 (l0.length : Int) x13_1 = some r) ∧ Aside0 (kq ≤ k) ∧ Drawn0 w w')
 case atStart => exact ⟨(0), (by first | rfl | (simp; done) | (simp [*]; done)), H', ⟨Nat.le_refl _⟩, by repeat (first | exact Drawn0.refl _ | apply Drawn0.step)⟩
 case round =>
  clear H'
  try clear c1
  try clear p2
  try clear c3
  try clear c3b0
  try clear c3b1
  try clear c3b2
  obtain ⟨x13_1, rfl, HA, HK1, ⟨m1, rfl⟩⟩ := hrel
  cases gk with
  | zero => exact absurd HA.out (by simp [item_Write_72.l0])
  | succ k1 =>
   have H := HA.out
   clear HA
   simp only [item_Write_72.l0] at H
   by_cases c4 : x13_1 < (l0.length : Int)
   rotate_left
   ·rw [if_neg c4] at H
    have c4b0 : decide (x13_1 < (l0.length : Int)) = false := decide_eq_false c4
    clear c4
    obtain rfl := Option.some.inj H
    go_wp2
    repeat (go_quiet (fail); try go_wp2)
    go_ret
    exact ⟨by first | rfl | (simp; done) | (simp [*]; done), by repeat (first | exact Drawn0.refl _ | apply Drawn0.step)⟩
   rw [if_pos c4] at H
   have c4b0 : decide (x13_1 < (l0.length : Int)) = true := decide_eq_true c4
   clear c4
   by_cases c5 : 0 ≤ x13_1
   rotate_left
   ·rw [if_neg c5] at H
    exact absurd H (by simp)
   rw [if_pos c5] at H
   have c5b0 : decide (0 ≤ x13_1) = true := decide_eq_true c5
   clear c5
   by_cases c6 : x13_1 < (l0.length : Int)
   rotate_left
   ·rw [if_neg c6] at H
    exact absurd H (by simp)
   rw [if_pos c6] at H
   have c6b0 : decide (x13_1 < (l0.length : Int)) = true := decide_eq_true c6
   clear c6
   by_cases c7 : x13_1 < (l1.length : Int)
   rotate_left
   ·rw [if_neg c7] at H
    exact absurd H (by simp)
   rw [if_pos c7] at H
   have c7b0 : decide (x13_1 < (l1.length : Int)) = true := decide_eq_true c7
   clear c7
   by_cases c8 : (!((((rd_T24 l0 x13_1).f0).toList) == (((rd_T24 l1 x13_1).f0).toList)) || (!((((rd_T24 l0 x13_1).f1).toList) == (((rd_T24 l1 x13_1).f1).toList)) || (!((((rd_T24 l0 x13_1).f2).toList) == (((rd_T24 l1 x13_1).f2).toList)) || (!(((rd_T24 l0 x13_1).f3) == ((rd_T24 l1 x13_1).f3)))))) = true
   ·rw [if_pos c8] at H
    have c8b0 : (!((((rd_T24 l0 x13_1).f0).toList) == (((rd_T24 l1 x13_1).f0).toList)) || (!((((rd_T24 l0 x13_1).f1).toList) == (((rd_T24 l1 x13_1).f1).toList)) || (!((((rd_T24 l0 x13_1).f2).toList) == (((rd_T24 l1 x13_1).f2).toList)) || (!(((rd_T24 l0 x13_1).f3) == ((rd_T24 l1 x13_1).f3)))))) = true := c8
    clear c8
    obtain rfl := Option.some.inj H
    have p102 : 0 ≤ (x13_1 : Int) := of_decide_eq_true (by first | (with_reducible assumption) | assumption)
    have q102 : x13_1 < (l0.length : Int) := of_decide_eq_true (by first | (with_reducible assumption) | assumption)
    obtain ⟨ad102, e102, hx102_0, hx102_1, hx102_2, hx102_3⟩ := at_T24 HR0.out x13_1 p102 q102
    cases e102
    replace p102 := eq_true p102
    replace q102 := eq_true q102
    have p103 : 0 ≤ (x13_1 : Int) := of_decide_eq_true (by first | (with_reducible assumption) | assumption)
    have q103 : x13_1 < (l1.length : Int) := of_decide_eq_true (by first | (with_reducible assumption) | assumption)
    obtain ⟨ad103, e103, hx103_0, hx103_1, hx103_2, hx103_3⟩ := at_T24 HR1.out x13_1 p103 q103
    cases e103
    replace p103 := eq_true p103
    replace q103 := eq_true q103
    go_wp2
    repeat (go_quiet (fail); try go_wp2)
    go_ret
    exact ⟨by first | rfl | (simp; done) | (simp [*]; done), by repeat (first | exact Drawn0.refl _ | apply Drawn0.step)⟩
   rw [if_neg c8] at H
   have c8b0 : (!((((rd_T24 l0 x13_1).f0).toList) == (((rd_T24 l1 x13_1).f0).toList)) || (!((((rd_T24 l0 x13_1).f1).toList) == (((rd_T24 l1 x13_1).f1).toList)) || (!((((rd_T24 l0 x13_1).f2).toList) == (((rd_T24 l1 x13_1).f2).toList)) || (!(((rd_T24 l0 x13_1).f3) == ((rd_T24 l1 x13_1).f3)))))) = false := by simpa using c8
   clear c8
   have H' := Aside0.mk H
   clear H
   have p102 : 0 ≤ (x13_1 : Int) := of_decide_eq_true (by first | (with_reducible assumption) | assumption)
   have q102 : x13_1 < (l0.length : Int) := of_decide_eq_true (by first | (with_reducible assumption) | assumption)
   obtain ⟨ad102, e102, hx102_0, hx102_1, hx102_2, hx102_3⟩ := at_T24 HR0.out x13_1 p102 q102
   cases e102
   replace p102 := eq_true p102
   replace q102 := eq_true q102
   have p103 : 0 ≤ (x13_1 : Int) := of_decide_eq_true (by first | (with_reducible assumption) | assumption)
   have q103 : x13_1 < (l1.length : Int) := of_decide_eq_true (by first | (with_reducible assumption) | assumption)
   obtain ⟨ad103, e103, hx103_0, hx103_1, hx103_2, hx103_3⟩ := at_T24 HR1.out x13_1 p103 q103
   cases e103
   replace p103 := eq_true p103
   replace q103 := eq_true q103
   go_wp2
   repeat (go_quiet (fail); try go_wp2)
   go_roundg k1
   case measure => have := HK1.out; omega
   case rel => exact ⟨(wrap64 (x13_1 + 1)), (by first | rfl | (simp; done) | (simp [*]; done)), H', ⟨by have := HK1.out; omega⟩, by repeat (first | exact Drawn0.refl _ | apply Drawn0.step)⟩
attribute [local go_sem high] eqA56
def item_Same.f (k : Nat) (a0_0 : Int) (a0_1 : Int) (a0_2 : Int) (a0_3 : Int) (a0_4 : Int) (l0_5 : List (S24)) (a1_0 : Int) (a1_1 : Int) (a1_2 : Int) (a1_3 : Int) (a1_4 : Int) (l1_5 : List (S24)) : Option (Bool) := if ((a0_0 == a1_0 && (a0_1 == a1_1 && (a0_2 == a1_2 && (a0_3 == a1_3)))) && (a0_4 == a1_4)) = true then ((item_Write_72.f k l0_5 l1_5).bind fun t106 => (some t106)) else (some false)
set_option maxHeartbeats 8000000 in
set_option maxRecDepth 100000 in
theorem item_Same.calls (k : Nat) (a0_0 : Int) (a0_1 : Int) (a0_2 : Int) (a0_3 : Int) (a0_4 : Int) (A0_5 : Option Addr) (c0_5 : Nat) (l0_5 : List (S24)) (a1_0 : Int) (a1_1 : Int) (a1_2 : Int) (a1_3 : Int) (a1_4 : Int) (A1_5 : Option Addr) (c1_5 : Nat) (l1_5 : List (S24)) (r : Bool) (w : World) (hr0_5 : Kd.C k24 w A0_5 l0_5.length l0_5) (hc0_5 : l0_5.length ≤ c0_5) (hr1_5 : Kd.C k24 w A1_5 l1_5.length l1_5) (hc1_5 : l1_5.length ≤ c1_5) (h : item_Same.f k a0_0 a0_1 a0_2 a0_3 a0_4 l0_5 a1_0 a1_1 a1_2 a1_3 a1_4 l1_5 = some r) :
  Calls Try.prog 49 #[.agg #[.int .u64 a0_0, .int .u64 a0_1, .int .u64 a0_2, .int .u64 a0_3, .int .i64 a0_4, .slice A0_5 l0_5.length c0_5], .agg #[.int .u64 a1_0, .int .u64 a1_1, .int .u64 a1_2, .int .u64 a1_3, .int .i64 a1_4, .slice A1_5 l1_5.length c1_5]] w fun e w' => e = .returned (.bool r) ∧ Below w.heap.size w w' := by
 have hu64 := Try.underlying64
 have hu56 := Try.underlying56
 have HR0_5 := Aside0.mk hr0_5
 have HC0_5 := Aside0.mk hc0_5
 clear hr0_5 hc0_5
 have HR1_5 := Aside0.mk hr1_5
 have HC1_5 := Aside0.mk hc1_5
 clear hr1_5 hc1_5
 have HB := Aside0.mk (Below.refl w.heap.size w)
 have H : (if ((a0_0 == a1_0 && (a0_1 == a1_1 && (a0_2 == a1_2 && (a0_3 == a1_3)))) && (a0_4 == a1_4)) = true then ((item_Write_72.f k l0_5 l1_5).bind fun t106 => (some t106)) else (some false)) = some r := h
 clear h
 by_cases c3 : ((a0_0 == a1_0 && (a0_1 == a1_1 && (a0_2 == a1_2 && (a0_3 == a1_3)))) && (a0_4 == a1_4)) = true
 rotate_left
 ·rw [if_neg c3] at H
  have c3b0 : ((a0_0 == a1_0 && (a0_1 == a1_1 && (a0_2 == a1_2 && (a0_3 == a1_3)))) && (a0_4 == a1_4)) = false := by simpa using c3
  clear c3
  obtain rfl := Option.some.inj H
  go_enter Try.func49, Try.ntmps49
  go_wp2_with (first | ((with_reducible refine gate_dst (N := 2) rfl ?_); refine Ka_ 2 #[.int .u64 a0_0, .int .u64 a0_1, .int .u64 a0_2, .int .u64 a0_3, .int .i64 a0_4, .slice A0_5 l0_5.length c0_5] 64 ?_; intro gb104 hg w10 hbox hb; have BK104 := Aside0.mk (hbox); have GW104 := Kw_ HB hg; have GE104 := GW104; replace HB := Ks_ HB hb; clear hb hbox hg) | ((with_reducible refine gate_dst (N := 3) rfl ?_); refine Ka_ 3 #[.int .u64 a1_0, .int .u64 a1_1, .int .u64 a1_2, .int .u64 a1_3, .int .i64 a1_4, .slice A1_5 l1_5.length c1_5] 64 ?_; intro gb105 hg w11 hbox hb; have BK105 := Aside0.mk (hbox); have GW105 := Kw_ HB hg; have GE105 := GW105; have NB104_105 := Kl_ BK104 hg; have NB105_104 := Kr_ BK104 hg; replace BK104 := Kb_ BK104 hb; replace HB := Ks_ HB hb; clear hb hbox hg; have hnb12 := NB104_105.out; have hnc12 := NB105_104.out; obtain ⟨hcz13_0, hcz13_1, hcz13_2, hcz13_3, hcz13_4, hcz13_5, hfz13_0, hfz13_1, hfz13_2, hfz13_3, hfz13_4, hfz13_5⟩ := Ke6_ BK104.out; obtain ⟨hcz14_0, hcz14_1, hcz14_2, hcz14_3, hcz14_4, hcz14_5, hfz14_0, hfz14_1, hfz14_2, hfz14_3, hfz14_4, hfz14_5⟩ := Ke6_ BK105.out))
  go_ret
  exact ⟨Kh_, K2a_ HB GE104 GE105⟩
 rw [if_pos c3] at H
 have c3b0 : ((a0_0 == a1_0 && (a0_1 == a1_1 && (a0_2 == a1_2 && (a0_3 == a1_3)))) && (a0_4 == a1_4)) = true := c3
 clear c3
 replace H := Option.bind_eq_some_iff.mp H
 obtain ⟨t106, A40, H⟩ := H
 replace H : (some t106) = some r := H
 have A4 := Aside0.mk A40
 clear A40
 obtain rfl := Option.some.inj H
 go_enter Try.func49, Try.ntmps49
 go_wp2_with (first | ((with_reducible refine gate_dst (N := 2) rfl ?_); refine Ka_ 2 #[.int .u64 a0_0, .int .u64 a0_1, .int .u64 a0_2, .int .u64 a0_3, .int .i64 a0_4, .slice A0_5 l0_5.length c0_5] 64 ?_; intro gb104 hg w5 hbox hb; have BK104 := Aside0.mk (hbox); have GW104 := Kw_ HB hg; have GE104 := GW104; replace HB := Ks_ HB hb; clear hb hbox hg) | ((with_reducible refine gate_dst (N := 3) rfl ?_); refine Ka_ 3 #[.int .u64 a1_0, .int .u64 a1_1, .int .u64 a1_2, .int .u64 a1_3, .int .i64 a1_4, .slice A1_5 l1_5.length c1_5] 64 ?_; intro gb105 hg w6 hbox hb; have BK105 := Aside0.mk (hbox); have GW105 := Kw_ HB hg; have GE105 := GW105; have NB104_105 := Kl_ BK104 hg; have NB105_104 := Kr_ BK104 hg; replace BK104 := Kb_ BK104 hb; replace HB := Ks_ HB hb; clear hb hbox hg; have hnb7 := NB104_105.out; have hnc7 := NB105_104.out; obtain ⟨hcz8_0, hcz8_1, hcz8_2, hcz8_3, hcz8_4, hcz8_5, hfz8_0, hfz8_1, hfz8_2, hfz8_3, hfz8_4, hfz8_5⟩ := Ke6_ BK104.out; obtain ⟨hcz9_0, hcz9_1, hcz9_2, hcz9_3, hcz9_4, hcz9_5, hfz9_0, hfz9_1, hfz9_2, hfz9_3, hfz9_4, hfz9_5⟩ := Ke6_ BK105.out) | (go_at_call 72; (with_reducible refine (item_Write_72.calls k _ _ l0_5 _ _ l1_5 t106 _ ?side1 ?side2 ?side3 ?side4 A4.out).mono ?_); (case side1 => repeat (first | exact (Kd.C_below HR0_5.out HB.out) | (with_reducible refine Kd.C_alloc ?_ _) | (with_reducible refine Kd.C_drewN ?_ _) | (with_reducible refine Kd.C_drew ?_))); (case side2 => exact HC0_5.out); (case side3 => repeat (first | exact (Kd.C_below HR1_5.out HB.out) | (with_reducible refine Kd.C_alloc ?_ _) | (with_reducible refine Kd.C_drewN ?_ _) | (with_reducible refine Kd.C_drew ?_))); (case side4 => exact HC1_5.out); rintro e w' ⟨rfl, ⟨nd, rfl⟩⟩))
 go_ret
 exact ⟨Kh_, K2a_ HB GE104 GE105⟩
end Go.Proofs.Ythjhkcebcgdeoaa.Q

set_option linter.unusedVariables false
set_option linter.unusedSimpArgs false
namespace Go.Proofs.Ythjhkcebcgdeoaa.Pure
open Go.RowKit Go.Proofs.Ythjhkcebcgdeoaa.Q Go.Proofs.YthjhkcebcgdeoaaW.PrintWords Go.Proofs.YthjhkcebcgdeoaaW.PrintLast Go.Proofs.YthjhkcebcgdeoaaW.PrintMore Go.Proofs.Ythjhkcebcgdeoaa.Plain
abbrev WrJ := S24
theorem rdWj (l : List WrJ) (j : Nat) (h : j < l.length) : rd_T24 l (j : Int) = l[j] := by
 unfold rd_T24
 rw [Int.toNat_natCast, List.getD_eq_getElem?_getD, List.getElem?_eq_getElem h]
 rfl
theorem idxj (i : Nat) (h : i ≤ 4611686018427387904) : wrap64 ((i : Int) + 1) = ((i + 1 : Nat) : Int) := by
 rw [wrap64_id (by omega) (by omega)]
 omega
def weq (x y : WrJ) : Bool := (x.f0.toList == y.f0.toList) && ((x.f1.toList == y.f1.toList) && ((x.f2.toList == y.f2.toList) && (x.f3 == y.f3)))
def eqb : List WrJ → List WrJ → Bool
 | x :: xs, y :: ys => weq x y && eqb xs ys
 | _, _ => true
theorem neq_eq (p q r s : Bool) : ((!p) || ((!q) || ((!r) || (!s)))) = !(p && (q && (r && s))) := by cases p <;> cases q <;> cases r <;> cases s <;> rfl
theorem same_l0 (xs ys : List WrJ) (hl : xs.length = ys.length) (hz : xs.length ≤ 1000) (K : Nat) : ∀ m i, i + m = xs.length → item_Write_72.l0 (K + m + 1) xs ys (xs.length : Int) (i : Int) = some (eqb (xs.drop i) (ys.drop i)) := by
 intro m
 induction m with
 | zero =>
  intro i hi
  rw [Nat.add_zero, item_Write_72.l0, if_neg (by omega), List.drop_eq_nil_of_le (by omega)]
  rfl
 | succ m ih =>
  intro i hi
  have h1 : i < xs.length := by omega
  have h2 : i < ys.length := by omega
  have e1 : xs.drop i = xs[i] :: xs.drop (i + 1) := List.drop_eq_getElem_cons h1
  have e2 : ys.drop i = ys[i] :: ys.drop (i + 1) := List.drop_eq_getElem_cons h2
  rw [show K + (m + 1) + 1 = (K + m + 1) + 1 by omega, item_Write_72.l0, if_pos (by omega), if_pos (by omega), if_pos (by omega), if_pos (by omega), rdWj xs i h1, rdWj ys i h2, neq_eq, e1, e2]
  show (if (!weq xs[i] ys[i]) = true then _ else _) = some (weq xs[i] ys[i] && _)
  cases weq xs[i] ys[i] with
  | true => rw [if_neg (by simp), idxj i (by omega), ih (i + 1) (by omega)]; rfl
  | false => rw [if_pos (show (!false) = true from rfl)]; rfl
def sameJ (a b c d e : Int) (xs : List WrJ) (a' b' c' d' e' : Int) (ys : List WrJ) : Bool := ((a == a' && (b == b' && (c == c' && (d == d')))) && (e == e')) && decide (xs.length = ys.length) && eqb xs ys
theorem neq5 (p q r s t : Bool) : (((!p) || ((!q) || ((!r) || (!s)))) || (!t)) = !((p && (q && (r && s))) && t) := by cases p <;> cases q <;> cases r <;> cases s <;> cases t <;> rfl
theorem sameJ_f (a b c d e : Int) (xs : List WrJ) (a' b' c' d' e' : Int) (ys : List WrJ) (hz : xs.length ≤ 1000) {k : Nat} (hk : xs.length + 1 ≤ k) : item_Same.f k a b c d e xs a' b' c' d' e' ys = some (sameJ a b c d e xs a' b' c' d' e' ys) := by
 unfold item_Same.f sameJ
 cases ((a == a' && (b == b' && (c == c' && (d == d')))) && (e == e')) with
 | false => rw [if_neg (by simp)]; rfl
 | true =>
  rw [if_pos rfl, Bool.true_and]
  unfold item_Write_72.f
  by_cases hl : xs.length = ys.length
  ·obtain ⟨K, rfl⟩ : ∃ m, k = m + xs.length + 1 := ⟨k - xs.length - 1, by omega⟩
   have h := same_l0 xs ys hl hz K xs.length 0 (by omega)
   rw [show ((0 : Nat) : Int) = 0 from rfl, List.drop_zero, List.drop_zero] at h
   rw [if_pos (by omega), h, Option.bind_some, decide_eq_true hl, Bool.true_and]
  ·rw [if_neg (by omega), Option.bind_some, decide_eq_false hl]; rfl
end Go.Proofs.Ythjhkcebcgdeoaa.Pure

set_option linter.unusedVariables false
set_option linter.unusedSimpArgs false
namespace Go.Proofs.Ythjhkcebcgdeoaa.Jud
open Go Go.RowKit Go.WideShapes Go.Proofs.Ythjhkcebcgdeoaa.Q Go.Proofs.YthjhkcebcgdeoaaW.PrintWords Go.Proofs.YthjhkcebcgdeoaaW.PrintLast Go.Proofs.YthjhkcebcgdeoaaW.PrintMore
open Go.Proofs.Ythjhkcebcgdeoaa.Pure (wrap64_id toList_data toList_iff)
set_option maxHeartbeats 16000000 in
set_option maxRecDepth 100000 in
theorem same_c (k : Nat) (r : Bool) (x0 x1 x2 x3 x4 : Int) (x5 : List Wr) (y0 y1 y2 y3 y4 : Int) (y5 : List Wr) (A B : Option Addr) (c m gx : Nat) (w : World) (hx : w.heap[gx]? = some (.cells #[.int .u64 x0, .int .u64 x1, .int .u64 x2, .int .u64 x3, .int .i64 x4, .slice A x5.length c] 64 (0, 0))) (lx : x5.length ≤ c) (rx : Kd.C k24 w A x5.length x5) (ly : y5.length ≤ m) (ry : Kd.C k24 w B y5.length y5)
  (h : item_Same.f k x0 x1 x2 x3 x4 x5 y0 y1 y2 y3 y4 y5 = some r) :
  Calls Try.prog 48 (#[.agg #[.int .u64 y0, .int .u64 y1, .int .u64 y2, .int .u64 y3, .int .i64 y4, .slice B y5.length m]] ++ #[.pointer (some ⟨gx, 0, none⟩)]) w fun e w' => e = .returned (.bool r) ∧ Below w.heap.size w w' := by
 have BX := Aside0.mk hx
 have RX := Aside0.mk rx
 have RY := Aside0.mk ry
 have H := Aside0.mk h
 clear hx rx ry h
 go_enter Try.func48, Try.ntmps48
 go_wp2_with (first
  | ((with_reducible refine gate_dst (N := 2) rfl ?_); refine Ka_ 2 #[.int .u64 y0, .int .u64 y1, .int .u64 y2, .int .u64 y3, .int .i64 y4, .slice B y5.length m] 64 ?_; intro g2 hg w1 hbox hb; have HB1 := Aside0.mk hb; obtain ⟨hy0, hy1, hy2, hy3, hy4, hy5⟩ := Kc6_ hbox; obtain ⟨hx0, hx1, hx2, hx3, hx4, hx5⟩ := Kc6_ (blk_below BX.out hb); clear hb hbox hg)
  | ((with_reducible refine gate_callee (f := 49) rfl ?_); refine Kg_ (some 6) rfl rfl Try.func49 (by kernel_rfl) rfl #[.agg #[.int .u64 x0, .int .u64 x1, .int .u64 x2, .int .u64 x3, .int .i64 x4, .slice A x5.length c], .agg #[.int .u64 y0, .int .u64 y1, .int .u64 y2, .int .u64 y3, .int .i64 y4, .slice B y5.length m]] rfl ?_; (with_reducible refine (item_Same.calls k x0 x1 x2 x3 x4 A c x5 y0 y1 y2 y3 y4 B m y5 r _ (Kd.C_below RX.out HB1.out) lx (Kd.C_below RY.out HB1.out) ly H.out).mono ?_); rintro e w2 ⟨rfl, hb⟩; refine ⟨_, rfl, ?_⟩; have HB2 := Aside0.mk (below_step HB1.out hb); clear hb))
 go_ret
 exact ⟨rfl, HB2.out⟩
set_option maxHeartbeats 16000000 in
set_option maxRecDepth 100000 in
theorem among_c (same : Tx → Tx → Bool) (x : Tx) (A B : Option Addr) (c m gb : Nat) (b : List Tx) (w : World) (hbx : w.heap[gb]? = some (.cells #[.slice B b.length m] 33 (0, 0))) (lb : b.length ≤ m) (hl : b.length ≤ 9223372036854775806) (rb : Kd.C k64 w B b.length b) (lx : x.f1.length ≤ c) (rx : Kd.C k24 w A x.f1.length x.f1)
  (hs : ∀ y ∈ b, ∃ k, item_Same.f k x.f0.f0.f0 x.f0.f0.f1 x.f0.f0.f2 x.f0.f0.f3 x.f0.f1 x.f1 y.f0.f0.f0 y.f0.f0.f1 y.f0.f0.f2 y.f0.f0.f3 y.f0.f1 y.f1 = some (same x y)) :
  Calls Try.prog 47 (#[encT x A c] ++ #[.pointer (some ⟨gb, 0, none⟩)]) w fun e w' => e = .returned (.bool (!b.any (same x))) ∧ Below w.heap.size w w' := by
 obtain ⟨⟨⟨x0, x1, x2, x3⟩, x4⟩, x5⟩ := x
 have BX := Aside0.mk hbx
 have RB := Aside0.mk rb
 have RX : Aside0 (Kd.C k24 w A x5.length x5) := ⟨rx⟩
 have LX : x5.length ≤ c := lx
 have HS := Aside0.mk hs
 obtain ⟨q, hq⟩ : ∃ q, q = b.any (same ⟨⟨⟨x0, x1, x2, x3⟩, x4⟩, x5⟩) := ⟨_, rfl⟩
 have HQ := Aside0.mk hq
 rw [← hq]
 clear hbx rb rx lx hs hq
 go_enter Try.func47, Try.ntmps47
 go_wp2_with (first
  | ((with_reducible refine gate_dst (N := 2) rfl ?_); refine Ka_ 2 #[.int .u64 x0, .int .u64 x1, .int .u64 x2, .int .u64 x3, .int .i64 x4, .slice A x5.length c] 64 ?_; intro g2 hg w1 hbox hb; have HB1 := Aside0.mk hb; have BK := Aside0.mk hbox; have hsl := (blk_cell (blk_below BX.out hb) 0).trans rfl; clear hb hbox hg)
  | ((with_reducible refine gate_callee (f := 46) rfl ?_); refine Kg_ (some 6) rfl rfl Try.func46 (by kernel_rfl) rfl #[.slice B b.length m, .func (.func 48) #[] #[.pointer (some ⟨g2, 0, none⟩)]] rfl ?_; (with_reducible refine (contains_t (same ⟨⟨⟨x0, x1, x2, x3⟩, x4⟩, x5⟩) 48 #[.pointer (some ⟨g2, 0, none⟩)] (enters Try.prog Try.func48 (by kernel_rfl) rfl) B m b _ (Kd.C_below RB.out HB1.out) lb hl ?s1).mono ?_); (case s1 => intro W y Y n hy hW ly ry; obtain ⟨k, hk⟩ := HS.out y hy; obtain ⟨⟨⟨y0, y1, y2, y3⟩, y4⟩, y5⟩ := y; exact same_c k _ x0 x1 x2 x3 x4 x5 y0 y1 y2 y3 y4 y5 A Y c n g2 W (blk_below BK.out hW) LX (Kd.C_below (Kd.C_below RX.out HB1.out) hW) ly ry hk); rintro e w2 ⟨rfl, hb⟩; rw [← HQ.out]; refine ⟨_, rfl, ?_⟩; have HB2 := Aside0.mk (below_step HB1.out hb); clear hb))
 go_ret
 exact ⟨rfl, HB2.out⟩
set_option maxHeartbeats 16000000 in
set_option maxRecDepth 100000 in
theorem subset_c (same : Tx → Tx → Bool) (A : Option Addr) (c : Nat) (a : List Tx) (B : Option Addr) (m : Nat) (b : List Tx) (w : World) (ra : Kd.C k64 w A a.length a) (la : a.length ≤ c) (rb : Kd.C k64 w B b.length b) (lb : b.length ≤ m) (ha : a.length ≤ 9223372036854775806) (hb_ : b.length ≤ 9223372036854775806)
  (hs : ∀ x ∈ a, ∀ y ∈ b, ∃ k, item_Same.f k x.f0.f0.f0 x.f0.f0.f1 x.f0.f0.f2 x.f0.f0.f3 x.f0.f1 x.f1 y.f0.f0.f0 y.f0.f0.f1 y.f0.f0.f2 y.f0.f0.f3 y.f0.f1 y.f1 = some (same x y)) :
  Calls Try.prog 24 #[.slice A a.length c, .slice B b.length m] w fun e w' => e = .returned (.bool (a.all fun x => b.any fun y => same x y)) ∧ Below w.heap.size w w' := by
 have RA := Aside0.mk ra
 have RB := Aside0.mk rb
 have HS := Aside0.mk hs
 have HE : (a.all fun x => b.any fun y => same x y) = !(a.any fun x => !b.any (same x)) := by
  rw [List.all_eq_not_any_not]
 rw [HE]
 obtain ⟨q, hq⟩ : ∃ q, q = a.any fun x => !b.any (same x) := ⟨_, rfl⟩
 have HQ := Aside0.mk hq
 rw [← hq]
 clear ra rb hs hq HE
 go_enter Try.func24, Try.ntmps24
 go_wp2_with (first
  | ((with_reducible refine gate_dst (N := 3) rfl ?_); refine Ka_ 3 #[.slice B b.length m] 33 ?_; intro g3 hg w1 hbox hb; have HB1 := Aside0.mk hb; have BK := Aside0.mk hbox; clear hb hbox hg)
  | ((with_reducible refine gate_callee (f := 46) rfl ?_); refine Kg_ (some 7) rfl rfl Try.func46 (by kernel_rfl) rfl #[.slice A a.length c, .func (.func 47) #[] #[.pointer (some ⟨g3, 0, none⟩)]] rfl ?_; (with_reducible refine (contains_t (fun x => !b.any (same x)) 47 #[.pointer (some ⟨g3, 0, none⟩)] (enters Try.prog Try.func47 (by kernel_rfl) rfl) A c a _ (Kd.C_below RA.out HB1.out) la ha ?s1).mono ?_); (case s1 => exact fun W x X n hx hW lx rx => among_c same x X B n m g3 b W (blk_below BK.out hW) lb hb_ (Kd.C_below (Kd.C_below RB.out HB1.out) hW) lx rx (HS.out x hx)); rintro e w2 ⟨rfl, hb⟩; rw [← HQ.out]; refine ⟨_, rfl, ?_⟩; have HB2 := Aside0.mk (below_step HB1.out hb); clear hb))
 go_ret
 exact ⟨rfl, HB2.out⟩
end Go.Proofs.Ythjhkcebcgdeoaa.Jud

namespace Go.Proofs.Ythjhkcebcgdeoaa.Q
open Go.RowKit Go.Proofs.YthjhkcebcgdeoaaW.PrintWords Go.Proofs.YthjhkcebcgdeoaaW.PrintLast Go.Proofs.YthjhkcebcgdeoaaW.PrintMore
attribute [local go_sem] max2_int min2_int max_two min_two max_three min_three max_four min_four   -- for this text's walks alone
set_option linter.unusedVariables false
set_option linter.unusedSimpArgs false
def judge_Subset.ok (l : List S64) : Prop := l.length ≤ 1000000 ∧ ∀ x ∈ l, x.f1.length ≤ 1000
instance judge_Subset.dec (l : List S64) : Decidable (judge_Subset.ok l) := inferInstanceAs (Decidable (_ ∧ _))
def judge_Subset.f (l0 l1 : List S64) : Option (Bool) := if judge_Subset.ok l0 ∧ judge_Subset.ok l1 then some (l0.all (fun x => l1.any (fun y => (fun x y => Go.Proofs.Ythjhkcebcgdeoaa.Pure.sameJ x.f0.f0.f0 x.f0.f0.f1 x.f0.f0.f2 x.f0.f0.f3 x.f0.f1 x.f1 y.f0.f0.f0 y.f0.f0.f1 y.f0.f0.f2 y.f0.f0.f3 y.f0.f1 y.f1) x y))) else none
theorem judge_Subset.calls (A0 : Option Addr) (c0 : Nat) (l0 : List S64) (A1 : Option Addr) (c1 : Nat) (l1 : List S64) (r : Bool) (w : World) (hr0 : Kd.C k64 w A0 l0.length l0) (hc0 : l0.length ≤ c0) (hr1 : Kd.C k64 w A1 l1.length l1) (hc1 : l1.length ≤ c1) (h : judge_Subset.f l0 l1 = some r) :
  Calls Try.prog 24 #[.slice A0 l0.length c0, .slice A1 l1.length c1] w fun e w' => e = .returned (.bool r) ∧ Below w.heap.size w w' := by
 unfold judge_Subset.f at h
 by_cases hc : judge_Subset.ok l0 ∧ judge_Subset.ok l1
 rotate_left
 ·rw [if_neg hc] at h; cases h
 rw [if_pos hc] at h
 injection h with h
 rw [← h]
 exact Go.Proofs.Ythjhkcebcgdeoaa.Jud.subset_c (fun x y => Go.Proofs.Ythjhkcebcgdeoaa.Pure.sameJ x.f0.f0.f0 x.f0.f0.f1 x.f0.f0.f2 x.f0.f0.f3 x.f0.f1 x.f1 y.f0.f0.f0 y.f0.f0.f1 y.f0.f0.f2 y.f0.f0.f3 y.f0.f1 y.f1) A0 c0 l0 A1 c1 l1 w hr0 hc0 hr1 hc1 (Nat.le_trans hc.1.1 (by decide)) (Nat.le_trans hc.2.1 (by decide)) (fun x hx y hy => ⟨x.f1.length + 1, Go.Proofs.Ythjhkcebcgdeoaa.Pure.sameJ_f _ _ _ _ _ _ _ _ _ _ _ _ (hc.1.2 x hx) (Nat.le_refl _)⟩)
end Go.Proofs.Ythjhkcebcgdeoaa.Q

set_option linter.unusedVariables false
set_option linter.unusedSimpArgs false
namespace Go.Proofs.Ythjhkcebcgdeoaa.Jud
open Go Go.RowKit Go.WideShapes Go.Proofs.Ythjhkcebcgdeoaa.Q Go.Proofs.YthjhkcebcgdeoaaW.PrintWords Go.Proofs.YthjhkcebcgdeoaaW.PrintLast Go.Proofs.YthjhkcebcgdeoaaW.PrintMore
open Go.Proofs.Ythjhkcebcgdeoaa.Pure (wrap64_id toList_data toList_iff)
def exB : ByteArray := ⟨#[98]⟩
def exK : ByteArray := ⟨#[107]⟩
def exV : ByteArray := ⟨#[118]⟩
def exE : ByteArray := ⟨#[]⟩
def exA : Tx := ⟨⟨⟨1, 0, 0, 0⟩, 1⟩, [⟨exB, exK, exV, false⟩]⟩
def exC : Tx := ⟨⟨⟨1, 1, 0, 0⟩, 2⟩, [⟨exB, exK, exE, true⟩]⟩
theorem hit_d (b k : ByteArray) (x : Wr) : hit b k x = ((x.f0.data.toList == b.data.toList) && (x.f1.data.toList == k.data.toList)) := by
 unfold hit
 rw [toList_data, toList_data, toList_data, toList_data]
theorem eqP_d (p q : Pr) : eqP p q = ((p.1.data.toList == q.1.data.toList) && (p.2.data.toList == q.2.data.toList)) := by
 unfold eqP
 rw [toList_data, toList_data, toList_data, toList_data]
theorem hit_1 : hit exB exK ⟨exB, exK, exV, false⟩ = true := by rw [hit_d]; rfl
theorem hit_2 : hit exB exK ⟨exB, exK, exE, true⟩ = true := by rw [hit_d]; rfl
theorem one_a (is : St → Bool) : one is exB exK exA = if is exA.f0 then [⟨exA.f0, ⟨exB, exK, exV, false⟩⟩] else [] := by
 unfold one exA
 simp only [List.find?, hit_1]
theorem one_c (is : St → Bool) : one is exB exK exC = if is exC.f0 then [⟨exC.f0, ⟨exB, exK, exE, true⟩⟩] else [] := by
 unfold one exC
 simp only [List.find?, hit_2]
theorem wrs_2 (is : St → Bool) : wrs is exB exK [exC, exA] = (if is exC.f0 then [⟨exC.f0, ⟨exB, exK, exE, true⟩⟩] else []) ++ (if is exA.f0 then [⟨exA.f0, ⟨exB, exK, exV, false⟩⟩] else []) := by
 unfold wrs
 simp only [List.flatMap_cons, List.flatMap_nil, List.append_nil, one_a, one_c]
theorem ex_ok : judge_Read.ok [exC, exA] := by unfold judge_Read.ok; decide
theorem ex_read : judge_Read.f [exC, exA] exB exK 1 0 0 0 = some (exV, true) := by
 unfold judge_Read.f
 rw [if_pos ex_ok]
 have h : lst (fun x => decide (x.f0.f0 ≤ 1 ∧ x.f0.f1 ≤ 0 ∧ x.f0.f2 ≤ 0 ∧ x.f0.f3 ≤ 0)) judge_Read.od exB exK [exC, exA] = ⟨exB, exK, exV, false⟩ := by
  unfold lst
  rw [wrs_2]
  rfl
 rw [h]
 rfl
theorem ex_last : judge_Last.f [exC, exA] exB exK = some (exE, false) := by
 unfold judge_Last.f
 rw [if_pos (show judge_Last.ok [exC, exA] by unfold judge_Last.ok; decide)]
 have h : lst (fun _ => true) judge_Last.od exB exK [exC, exA] = ⟨exB, exK, exE, true⟩ := by
  unfold lst
  rw [wrs_2]
  rfl
 rw [h]
 rfl
theorem ex_order : judge_Order.f [exC, exA] = some [1, 0] := by
 unfold judge_Order.f
 rw [if_pos (show judge_Order.ok [exC, exA] by unfold judge_Order.ok; decide)]
 rfl
theorem ex_closed1 : judge_Closed.f [exC, exA] 1 1 0 0 = some true := by
 unfold judge_Closed.f
 rw [if_pos (show judge_Closed.ok [exC, exA] 1 1 0 0 by unfold judge_Closed.ok; decide)]
 decide
theorem ex_closed2 : judge_Closed.f [exC, exA] 0 1 0 0 = some false := by
 unfold judge_Closed.f
 rw [if_pos (show judge_Closed.ok [exC, exA] 0 1 0 0 by unfold judge_Closed.ok; decide)]
 decide
theorem ex_closed3 : judge_Closed.f [exC, exA] 2 0 0 0 = some false := by
 unfold judge_Closed.f
 rw [if_pos (show judge_Closed.ok [exC, exA] 2 0 0 0 by unfold judge_Closed.ok; decide)]
 decide
theorem ex_live2 : judge_Live.f [exC, exA] = some 0 := by
 unfold judge_Live.f
 rw [if_pos (show judge_Live.ok [exC, exA] by unfold judge_Live.ok; decide)]
 have hn : nub (prs [exC, exA]) = [(exB, exK)] := by
  show nub [(exB, exK), (exB, exK)] = _
  simp only [nub, List.any_cons, List.any_nil, Bool.or_false, eqP_d]
  rfl
 have h : lst allS judge_Live.od exB exK [exC, exA] = ⟨exB, exK, exE, true⟩ := by
  unfold lst
  rw [wrs_2]
  rfl
 unfold liveJ
 rw [hn]
 simp only [List.map_cons, List.map_nil, lastOf, h, List.sum_cons, List.sum_nil]
 rw [show szJ ⟨exB, exK, exE, true⟩ = 0 from rfl]
 rw [wrap64_id (by decide) (by decide)]
 rfl
theorem ex_live1 : judge_Live.f [exA] = some 3 := by
 unfold judge_Live.f
 rw [if_pos (show judge_Live.ok [exA] by unfold judge_Live.ok; decide)]
 have hn : nub (prs [exA]) = [(exB, exK)] := rfl
 have h : lst allS judge_Live.od exB exK [exA] = ⟨exB, exK, exV, false⟩ := by
  unfold lst wrs
  simp only [List.flatMap_cons, List.flatMap_nil, List.append_nil, one_a]
  rfl
 unfold liveJ
 rw [hn]
 simp only [List.map_cons, List.map_nil, lastOf, h, List.sum_cons, List.sum_nil]
 have h3 : szJ ⟨exB, exK, exV, false⟩ = 3 := by
  show wrap64 (wrap64 ((1 : Int) + (1 : Int)) + (1 : Int)) = 3
  rw [wrap64_id (x := (1 : Int) + 1) (by decide) (by decide), wrap64_id (by decide) (by decide)]
  rfl
 rw [h3, wrap64_id (by decide) (by decide)]
 rfl
theorem same_d (x y : Tx) (h : x.f0.f0.f0 ≠ y.f0.f0.f0 ∨ x.f0.f0.f1 ≠ y.f0.f0.f1) : Go.Proofs.Ythjhkcebcgdeoaa.Pure.sameJ x.f0.f0.f0 x.f0.f0.f1 x.f0.f0.f2 x.f0.f0.f3 x.f0.f1 x.f1 y.f0.f0.f0 y.f0.f0.f1 y.f0.f0.f2 y.f0.f0.f3 y.f0.f1 y.f1 = false := by
 unfold Go.Proofs.Ythjhkcebcgdeoaa.Pure.sameJ
 rcases h with h | h
 ·simp [h]
 ·simp [h]
theorem weq_self (x : Wr) : Go.Proofs.Ythjhkcebcgdeoaa.Pure.weq x x = true := by unfold Go.Proofs.Ythjhkcebcgdeoaa.Pure.weq; simp
theorem eqb_self : ∀ l : List Wr, Go.Proofs.Ythjhkcebcgdeoaa.Pure.eqb l l = true
 | [] => rfl
 | x :: l => by unfold Go.Proofs.Ythjhkcebcgdeoaa.Pure.eqb; rw [weq_self, eqb_self l]; rfl
theorem same_self (x : Tx) : Go.Proofs.Ythjhkcebcgdeoaa.Pure.sameJ x.f0.f0.f0 x.f0.f0.f1 x.f0.f0.f2 x.f0.f0.f3 x.f0.f1 x.f1 x.f0.f0.f0 x.f0.f0.f1 x.f0.f0.f2 x.f0.f0.f3 x.f0.f1 x.f1 = true := by
 unfold Go.Proofs.Ythjhkcebcgdeoaa.Pure.sameJ
 simp [eqb_self]
theorem ex_sub1 : judge_Subset.f [exA] [exC, exA] = some true := by
 unfold judge_Subset.f
 rw [if_pos (show judge_Subset.ok [exA] ∧ judge_Subset.ok [exC, exA] by unfold judge_Subset.ok; decide)]
 simp only [List.all_cons, List.all_nil, List.any_cons, List.any_nil, same_self exA, Bool.or_true, Bool.true_or, Bool.or_false, Bool.and_true]
theorem ex_sub2 : judge_Subset.f [exC, exA] [exA] = some false := by
 unfold judge_Subset.f
 rw [if_pos (show judge_Subset.ok [exC, exA] ∧ judge_Subset.ok [exA] by unfold judge_Subset.ok; decide)]
 simp only [List.all_cons, List.all_nil, List.any_cons, List.any_nil, same_d exC exA (.inr (by decide)), Bool.or_false, Bool.false_and]
theorem row_blk {α : Type} (d : Kd α) {w : World} {g t : Nat} {cs : List Value} {xs : List α} (off : Nat) (hl : xs.length ≤ 9223372036854775807) (h : w.heap[g]? = some (.cells cs.toArray t (0, 0))) (hr : ∀ j p, xs[j]? = some p → ∃ c, d.K w p c ∧ ∀ i u, c[i]? = some u → cs[off + (j * d.sz + i)]? = some u) : Kd.C d w (some ⟨g, off, none⟩) xs.length xs := by
 refine ⟨rfl, hl, fun _ => ⟨⟨g, off, none⟩, rfl, fun j p hj => ?_⟩⟩
 obtain ⟨c, hk, hc⟩ := hr j p hj
 refine ⟨c, d.K_len hk, hk, fun i u hu => ?_⟩
 have h1 := blk_cell h (off + (j * d.sz + i))
 rw [List.getElem?_toArray, hc i u hu] at h1
 have e : ∀ m : Nat, (⟨g, off, none⟩ : Addr).add m = ⟨g, off + m, none⟩ := fun m => by
  unfold Addr.add
  split <;> simp_all
 rw [e]
 exact h1
theorem ex_rowA {w : World} {g : Nat} (h : w.heap[g]? = some (.cells #[.string ⟨#[98]⟩, .string ⟨#[107]⟩, .string ⟨#[118]⟩, .bool false] 24 (0, 0))) : Kd.C k24 w (some ⟨g, 0, none⟩) exA.f1.length exA.f1 :=
 row_blk k24 0 (by decide) h (fun j p hj => by
  match j, hj with
  | 0, hj =>
   obtain rfl := Option.some.inj hj
   refine ⟨_, k24_mk w _, fun i u hu => ?_⟩
   match i, hu with
   | 0, hu => exact hu
   | 1, hu => exact hu
   | 2, hu => exact hu
   | 3, hu => exact hu
  | j + 1, hj => cases hj)
theorem ex_rowC {w : World} {g : Nat} (h : w.heap[g]? = some (.cells #[.string ⟨#[98]⟩, .string ⟨#[107]⟩, .string ⟨#[]⟩, .bool true] 24 (0, 0))) : Kd.C k24 w (some ⟨g, 0, none⟩) exC.f1.length exC.f1 :=
 row_blk k24 0 (by decide) h (fun j p hj => by
  match j, hj with
  | 0, hj =>
   obtain rfl := Option.some.inj hj
   refine ⟨_, k24_mk w _, fun i u hu => ?_⟩
   match i, hu with
   | 0, hu => exact hu
   | 1, hu => exact hu
   | 2, hu => exact hu
   | 3, hu => exact hu
  | j + 1, hj => cases hj)
theorem ex_list {w : World} {gl ga gc : Nat} (h : w.heap[gl]? = some (.cells #[.int .u64 1, .int .u64 1, .int .u64 0, .int .u64 0, .int .i64 2, .slice (some ⟨gc, 0, none⟩) 1 1, .int .u64 1, .int .u64 0, .int .u64 0, .int .u64 0, .int .i64 1, .slice (some ⟨ga, 0, none⟩) 1 1] 64 (0, 0)))
  (hA : Kd.C k24 w (some ⟨ga, 0, none⟩) exA.f1.length exA.f1) (hC : Kd.C k24 w (some ⟨gc, 0, none⟩) exC.f1.length exC.f1) :
  Kd.C k64 w (some ⟨gl, 0, none⟩) [exC, exA].length [exC, exA] ∧ Kd.C k64 w (some ⟨gl, 6, none⟩) [exA].length [exA] := by
 refine ⟨row_blk k64 0 (by decide) h (fun j p hj => ?_), row_blk k64 6 (by decide) h (fun j p hj => ?_)⟩
 ·match j, hj with
  | 0, hj =>
   obtain rfl := Option.some.inj hj
   refine ⟨_, k64_mk w exC (c5 := 1) (by decide) hC, fun i u hu => ?_⟩
   match i, hu with
   | 0, hu => exact hu
   | 1, hu => exact hu
   | 2, hu => exact hu
   | 3, hu => exact hu
   | 4, hu => exact hu
   | 5, hu => exact hu
  | 1, hj =>
   obtain rfl := Option.some.inj hj
   refine ⟨_, k64_mk w exA (c5 := 1) (by decide) hA, fun i u hu => ?_⟩
   match i, hu with
   | 0, hu => exact hu
   | 1, hu => exact hu
   | 2, hu => exact hu
   | 3, hu => exact hu
   | 4, hu => exact hu
   | 5, hu => exact hu
  | j + 2, hj => cases hj
 ·match j, hj with
  | 0, hj =>
   obtain rfl := Option.some.inj hj
   refine ⟨_, k64_mk w exA (c5 := 1) (by decide) hA, fun i u hu => ?_⟩
   match i, hu with
   | 0, hu => exact hu
   | 1, hu => exact hu
   | 2, hu => exact hu
   | 3, hu => exact hu
   | 4, hu => exact hu
   | 5, hu => exact hu
  | j + 1, hj => cases hj
theorem Kbs_ {P : Program} {ops : Array Oper} {Q : Exit → Act → World → Prop} {rest : List Oper} {o : Oper} {a : Act} {W : World} (n : Nat) (cs : Array Value) (t : TypeId) (hgd : o.guard = none) (hr : (execOp a.eval o).run P W = .ok (.value (.slice (some ⟨W.heap.size, 0, none⟩) n n)) (W.alloc (.cells cs t)))
  (h : ∀ g, g = W.heap.size → ∀ w1, w1.heap[g]? = some (.cells cs t (0, 0)) → Below W.heap.size W w1 → wpList P ops Q rest (a.put o.dst (.slice (some ⟨g, 0, none⟩) n n)) w1) : wpList P ops Q (o :: rest) a W :=
 Kd.event_run hgd hr (h _ rfl _ (blk_new _ _) (below_alloc (Below.refl _ _) _))
theorem exc_read (g : Nat) (w : World) (hl : Kd.C k64 w (some ⟨g, 0, none⟩) [exC, exA].length [exC, exA]) : Calls Try.prog 14 #[.slice (some ⟨g, 0, none⟩) 2 2, .string ⟨#[98]⟩, .string ⟨#[107]⟩, .agg #[.int .u64 1, .int .u64 0, .int .u64 0, .int .u64 0]] w fun e w' => e = .returned (.tuple #[.string ⟨#[118]⟩, .bool true]) ∧ Below w.heap.size w w' :=
 judge_Read.calls (some ⟨g, 0, none⟩) 2 [exC, exA] exB exK 1 0 0 0 exV true w hl (by decide) ex_read
theorem exc_last (g : Nat) (w : World) (hl : Kd.C k64 w (some ⟨g, 0, none⟩) [exC, exA].length [exC, exA]) : Calls Try.prog 16 #[.slice (some ⟨g, 0, none⟩) 2 2, .string ⟨#[98]⟩, .string ⟨#[107]⟩] w fun e w' => e = .returned (.tuple #[.string ⟨#[]⟩, .bool false]) ∧ Below w.heap.size w w' :=
 judge_Last.calls (some ⟨g, 0, none⟩) 2 [exC, exA] exB exK exE false w hl (by decide) ex_last
theorem exc_order (g : Nat) (w : World) (hl : Kd.C k64 w (some ⟨g, 0, none⟩) [exC, exA].length [exC, exA]) : Calls Try.prog 18 #[.slice (some ⟨g, 0, none⟩) 2 2] w fun e w' => ∃ v, e = .returned v ∧ Kd.R (Kd.int .i64) 3 w' w.heap.size (fun _ => True) v [1, 0] ∧ Below w.heap.size w w' :=
 judge_Order.calls (some ⟨g, 0, none⟩) 2 [exC, exA] [1, 0] w hl (by decide) ex_order
theorem exc_closed1 (g : Nat) (w : World) (hl : Kd.C k64 w (some ⟨g, 0, none⟩) [exC, exA].length [exC, exA]) : Calls Try.prog 20 #[.slice (some ⟨g, 0, none⟩) 2 2, .agg #[.int .u64 1, .int .u64 1, .int .u64 0, .int .u64 0]] w fun e w' => e = .returned (.bool true) ∧ Below w.heap.size w w' :=
 judge_Closed.calls (some ⟨g, 0, none⟩) 2 [exC, exA] 1 1 0 0 true w hl (by decide) ex_closed1
theorem exc_closed2 (g : Nat) (w : World) (hl : Kd.C k64 w (some ⟨g, 0, none⟩) [exC, exA].length [exC, exA]) : Calls Try.prog 20 #[.slice (some ⟨g, 0, none⟩) 2 2, .agg #[.int .u64 0, .int .u64 1, .int .u64 0, .int .u64 0]] w fun e w' => e = .returned (.bool false) ∧ Below w.heap.size w w' :=
 judge_Closed.calls (some ⟨g, 0, none⟩) 2 [exC, exA] 0 1 0 0 false w hl (by decide) ex_closed2
theorem exc_closed3 (g : Nat) (w : World) (hl : Kd.C k64 w (some ⟨g, 0, none⟩) [exC, exA].length [exC, exA]) : Calls Try.prog 20 #[.slice (some ⟨g, 0, none⟩) 2 2, .agg #[.int .u64 2, .int .u64 0, .int .u64 0, .int .u64 0]] w fun e w' => e = .returned (.bool false) ∧ Below w.heap.size w w' :=
 judge_Closed.calls (some ⟨g, 0, none⟩) 2 [exC, exA] 2 0 0 0 false w hl (by decide) ex_closed3
theorem exc_live2 (g : Nat) (w : World) (hl : Kd.C k64 w (some ⟨g, 0, none⟩) [exC, exA].length [exC, exA]) : Calls Try.prog 22 #[.slice (some ⟨g, 0, none⟩) 2 2] w fun e w' => e = .returned (.int .i64 0) ∧ Below w.heap.size w w' :=
 judge_Live.calls (some ⟨g, 0, none⟩) 2 [exC, exA] 0 w hl (by decide) ex_live2
theorem exc_live1 (g : Nat) (w : World) (h1 : Kd.C k64 w (some ⟨g, 6, none⟩) [exA].length [exA]) : Calls Try.prog 22 #[.slice (some ⟨g, 6, none⟩) 1 1] w fun e w' => e = .returned (.int .i64 3) ∧ Below w.heap.size w w' :=
 judge_Live.calls (some ⟨g, 6, none⟩) 1 [exA] 3 w h1 (by decide) ex_live1
theorem exc_sub1 (g : Nat) (w : World) (h1 : Kd.C k64 w (some ⟨g, 6, none⟩) [exA].length [exA]) (hl : Kd.C k64 w (some ⟨g, 0, none⟩) [exC, exA].length [exC, exA]) : Calls Try.prog 24 #[.slice (some ⟨g, 6, none⟩) 1 1, .slice (some ⟨g, 0, none⟩) 2 2] w fun e w' => e = .returned (.bool true) ∧ Below w.heap.size w w' :=
 judge_Subset.calls (some ⟨g, 6, none⟩) 1 [exA] (some ⟨g, 0, none⟩) 2 [exC, exA] true w h1 (by decide) hl (by decide) ex_sub1
theorem exc_sub2 (g : Nat) (w : World) (hl : Kd.C k64 w (some ⟨g, 0, none⟩) [exC, exA].length [exC, exA]) (h1 : Kd.C k64 w (some ⟨g, 6, none⟩) [exA].length [exA]) : Calls Try.prog 24 #[.slice (some ⟨g, 0, none⟩) 2 2, .slice (some ⟨g, 6, none⟩) 1 1] w fun e w' => e = .returned (.bool false) ∧ Below w.heap.size w w' :=
 judge_Subset.calls (some ⟨g, 0, none⟩) 2 [exC, exA] (some ⟨g, 6, none⟩) 1 [exA] false w hl (by decide) h1 (by decide) ex_sub2
end Go.Proofs.Ythjhkcebcgdeoaa.Jud

namespace Go.Proofs.Ythjhkcebcgdeoaa.Q
open Go.RowKit Go.Proofs.YthjhkcebcgdeoaaW.PrintWords Go.Proofs.YthjhkcebcgdeoaaW.PrintLast Go.Proofs.YthjhkcebcgdeoaaW.PrintMore
attribute [local go_sem] max2_int min2_int max_two min_two max_three min_three max_four min_four   -- for this text's walks alone
set_option linter.unusedVariables false
set_option linter.unusedSimpArgs false
def tenementlaw22_examples.f : Option Bool := some true
set_option maxHeartbeats 16000000 in
set_option maxRecDepth 100000 in
theorem tenementlaw22_examples.calls (r : Bool) (w : World) (h : tenementlaw22_examples.f = some r) : Calls Try.prog 10 #[] w fun e w' => e = .returned (.bool r) ∧ Below w.heap.size w w' := by
 obtain rfl := Option.some.inj h
 clear h
 go_enter Try.func10, Try.ntmps10
 go_wp2_with (first
  | ((with_reducible refine gate_dst (N := 1) rfl ?_); refine Ka_ 1 #[.string (⟨#[]⟩ : ByteArray), .string (⟨#[]⟩ : ByteArray), .string (⟨#[]⟩ : ByteArray), .bool false] 24 ?_; intro g1 hg w1 hbox hb; have GE1 : Aside0 (w.heap.size ≤ g1) := ⟨Nat.le_of_eq hg.symm⟩; have HB1 := Aside0.mk hb; have BK1 := Aside0.mk hbox; obtain ⟨ha0, ha1, ha2, ha3, fa0, fa1, fa2, fa3⟩ := Go.Proofs.Ythjhkcebcgdeoaa.Jud.cells4 hbox; clear hb hbox hg)
  | ((with_reducible refine gate_dst (N := 14) rfl ?_); refine Go.Proofs.Ythjhkcebcgdeoaa.Jud.Kbs_ 1 #[.string ⟨#[98]⟩, .string ⟨#[107]⟩, .string ⟨#[118]⟩, .bool false] 24 rfl ?hr ?_; (case hr => first | (go_simp; done) | (go_simp; rfl) | (go_simp; constructor <;> rfl)); intro g14 hg w2 hbox hb; have GE14 : Aside0 (w.heap.size ≤ g14) := ⟨by rw [hg]; exact (((((((((HB1.out).setCell GE1.out _)).setCell GE1.out _)).setCell GE1.out _)).setCell GE1.out _)).size⟩; have HB2 := Aside0.mk (below_step ((((((((HB1.out).setCell GE1.out _)).setCell GE1.out _)).setCell GE1.out _)).setCell GE1.out _) hb); have BK14 := Aside0.mk hbox; clear ha0 ha1 ha2 ha3 fa0 fa1 fa2 fa3; clear hb hbox hg)
  | ((with_reducible refine gate_dst (N := 2) rfl ?_); refine Ka_ 2 #[.int .u64 0, .int .u64 0, .int .u64 0, .int .u64 0, .int .i64 0, .slice none 0 0] 64 ?_; intro g2 hg w3 hbox hb; have GE2 : Aside0 (w.heap.size ≤ g2) := ⟨by rw [hg]; exact HB2.out.size⟩; have GE2b : Aside0 (w2.heap.size ≤ g2) := ⟨Nat.le_of_eq hg.symm⟩; have HB3 := Aside0.mk (below_step HB2.out hb); have H23 := Aside0.mk hb; have BK2 := Aside0.mk hbox; obtain ⟨hb0, hb1, hb2, hb3, hb4, hb5, fb0, fb1, fb2, fb3, fb4, fb5⟩ := Ke6_ hbox; clear hb hbox hg)
  | ((with_reducible refine gate_dst (N := 19) rfl ?_); refine Go.Proofs.Ythjhkcebcgdeoaa.Jud.Kbs_ 1 #[.string ⟨#[98]⟩, .string ⟨#[107]⟩, .string ⟨#[]⟩, .bool true] 24 rfl ?hr ?_; (case hr => first | (go_simp; done) | (go_simp; rfl) | (go_simp; constructor <;> rfl)); intro g19 hg w4 hbox hb; have HB4 := Aside0.mk (below_step ((((((((((((HB3.out).setCell GE2.out _)).setCell GE2.out _)).setCell GE2.out _)).setCell GE2.out _)).setCell GE2.out _)).setCell GE2.out _) hb); have BK19 := Aside0.mk hbox; have BK14a := Aside0.mk (blk_below (blk_below BK14.out ((((((((((((H23.out).setCell GE2b.out _)).setCell GE2b.out _)).setCell GE2b.out _)).setCell GE2b.out _)).setCell GE2b.out _)).setCell GE2b.out _)) hb); have BK2a : Aside0 (w4.heap[g2]? = some (.cells #[.int .u64 1, .int .u64 0, .int .u64 0, .int .u64 0, .int .i64 1, .slice (some ⟨g14, 0, none⟩) 1 1] 64 (0, 0))) := ⟨blk_below (g := g2) (o := .cells #[.int .u64 1, .int .u64 0, .int .u64 0, .int .u64 0, .int .i64 1, .slice (some ⟨g14, 0, none⟩) 1 1] 64 (0, 0)) (by refine Kv_ ?_; refine blk_put (cs := #[.int .u64 1, .int .u64 0, .int .u64 0, .int .u64 0, .int .i64 1, .slice none 0 0]) ?_ 5 _ rfl; refine Kv_ ?_; refine blk_put (cs := #[.int .u64 1, .int .u64 0, .int .u64 0, .int .u64 0, .int .i64 0, .slice none 0 0]) ?_ 4 _ rfl; refine Kv_ ?_; refine blk_put (cs := #[.int .u64 1, .int .u64 0, .int .u64 0, .int .u64 0, .int .i64 0, .slice none 0 0]) ?_ 3 _ rfl; refine Kv_ ?_; refine blk_put (cs := #[.int .u64 1, .int .u64 0, .int .u64 0, .int .u64 0, .int .i64 0, .slice none 0 0]) ?_ 2 _ rfl; refine Kv_ ?_; refine blk_put (cs := #[.int .u64 1, .int .u64 0, .int .u64 0, .int .u64 0, .int .i64 0, .slice none 0 0]) ?_ 1 _ rfl; refine Kv_ ?_; refine blk_put (cs := #[.int .u64 0, .int .u64 0, .int .u64 0, .int .u64 0, .int .i64 0, .slice none 0 0]) ?_ 0 _ rfl; exact Kq_ BK2) hb⟩; clear hb0 hb1 hb2 hb3 hb4 hb5 fb0 fb1 fb2 fb3 fb4 fb5; clear hb hbox hg)
  | ((with_reducible refine gate_dst (N := 3) rfl ?_); refine Ka_ 3 #[.int .u64 0, .int .u64 0, .int .u64 0, .int .u64 0, .int .i64 0, .slice none 0 0] 64 ?_; intro g3 hg w5 hbox hb; have GE3 : Aside0 (w.heap.size ≤ g3) := ⟨by rw [hg]; exact HB4.out.size⟩; have GE3b : Aside0 (w4.heap.size ≤ g3) := ⟨Nat.le_of_eq hg.symm⟩; have HB5 := Aside0.mk (below_step HB4.out hb); have H45 := Aside0.mk hb; have BK3 := Aside0.mk hbox; have N23 : g2 ≠ g3 := Nat.ne_of_lt (by rw [hg]; exact blk_lt BK2a.out); have N23' := N23.symm; have BK2b := Aside0.mk (blk_below BK2a.out hb); obtain ⟨hc0, hc1, hc2, hc3, hc4, hc5, fc0, fc1, fc2, fc3, fc4, fc5⟩ := Ke6_ hbox; obtain ⟨hd0, hd1, hd2, hd3, hd4, hd5⟩ := Kc6_ BK2b.out; clear hb hbox hg)
  | ((with_reducible refine gate_dst (N := 23) rfl ?_); refine Go.Proofs.Ythjhkcebcgdeoaa.Jud.Kbs_ 2 #[.int .u64 1, .int .u64 1, .int .u64 0, .int .u64 0, .int .i64 2, .slice (some ⟨g19, 0, none⟩) 1 1, .int .u64 1, .int .u64 0, .int .u64 0, .int .u64 0, .int .i64 1, .slice (some ⟨g14, 0, none⟩) 1 1] 64 rfl ?hr ?_; (case hr => first | (go_simp; done) | (go_simp; rfl) | (go_simp; constructor <;> rfl)); intro g23 hg w6 hbox hb; have HB6 := Aside0.mk (below_step ((((((((((((HB5.out).setCell GE3.out _)).setCell GE3.out _)).setCell GE3.out _)).setCell GE3.out _)).setCell GE3.out _)).setCell GE3.out _) hb); have BK3c : Aside0 (w6.heap[g3]? = some (.cells #[.int .u64 1, .int .u64 1, .int .u64 0, .int .u64 0, .int .i64 2, .slice (some ⟨g19, 0, none⟩) 1 1] 64 (0, 0))) := ⟨blk_below (g := g3) (o := .cells #[.int .u64 1, .int .u64 1, .int .u64 0, .int .u64 0, .int .i64 2, .slice (some ⟨g19, 0, none⟩) 1 1] 64 (0, 0)) (by refine Kv_ ?_; refine blk_put (cs := #[.int .u64 1, .int .u64 1, .int .u64 0, .int .u64 0, .int .i64 2, .slice none 0 0]) ?_ 5 _ rfl; refine Kv_ ?_; refine blk_put (cs := #[.int .u64 1, .int .u64 1, .int .u64 0, .int .u64 0, .int .i64 0, .slice none 0 0]) ?_ 4 _ rfl; refine Kv_ ?_; refine blk_put (cs := #[.int .u64 1, .int .u64 1, .int .u64 0, .int .u64 0, .int .i64 0, .slice none 0 0]) ?_ 3 _ rfl; refine Kv_ ?_; refine blk_put (cs := #[.int .u64 1, .int .u64 1, .int .u64 0, .int .u64 0, .int .i64 0, .slice none 0 0]) ?_ 2 _ rfl; refine Kv_ ?_; refine blk_put (cs := #[.int .u64 1, .int .u64 0, .int .u64 0, .int .u64 0, .int .i64 0, .slice none 0 0]) ?_ 1 _ rfl; refine Kv_ ?_; refine blk_put (cs := #[.int .u64 0, .int .u64 0, .int .u64 0, .int .u64 0, .int .i64 0, .slice none 0 0]) ?_ 0 _ rfl; exact Kq_ BK3) hb⟩; have BK2c := Aside0.mk (blk_below (blk_far (blk_far (blk_far (blk_far (blk_far (blk_far BK2b.out N23 _) N23 _) N23 _) N23 _) N23 _) N23 _) hb); have CC := Go.Proofs.Ythjhkcebcgdeoaa.Jud.ex_list hbox (Go.Proofs.Ythjhkcebcgdeoaa.Jud.ex_rowA (blk_below (blk_below BK14a.out ((((((((((((H45.out).setCell GE3b.out _)).setCell GE3b.out _)).setCell GE3b.out _)).setCell GE3b.out _)).setCell GE3b.out _)).setCell GE3b.out _)) hb)) (Go.Proofs.Ythjhkcebcgdeoaa.Jud.ex_rowC (blk_below (blk_below BK19.out ((((((((((((H45.out).setCell GE3b.out _)).setCell GE3b.out _)).setCell GE3b.out _)).setCell GE3b.out _)).setCell GE3b.out _)).setCell GE3b.out _)) hb)); have CL := Aside0.mk CC.1; have C1 := Aside0.mk CC.2; clear CC hc0 hc1 hc2 hc3 hc4 hc5 fc0 fc1 fc2 fc3 fc4 fc5 hd0 hd1 hd2 hd3 hd4 hd5; obtain ⟨hd0, hd1, hd2, hd3, hd4, hd5⟩ := Kc6_ BK2c.out; clear hb hbox hg)
  | ((with_reducible refine gate_dst (N := 29) rfl ?_); refine Kg_ (some 29) rfl rfl Try.func14 (by kernel_rfl) rfl #[.slice (some ⟨g23, 0, none⟩) 2 2, .string ⟨#[98]⟩, .string ⟨#[107]⟩, .agg #[.int .u64 1, .int .u64 0, .int .u64 0, .int .u64 0]] rfl ?_; (with_reducible refine (Go.Proofs.Ythjhkcebcgdeoaa.Jud.exc_read g23 _ CL.out).mono ?_); rintro e w7 ⟨rfl, hb⟩; refine ⟨_, rfl, ?_⟩; have HX7 := Aside0.mk (hb); clear hb; clear hd0 hd1 hd2 hd3 hd4 hd5)
  | ((with_reducible refine gate_dst (N := 34) rfl ?_); refine Kg_ (some 34) rfl rfl Try.func16 (by kernel_rfl) rfl #[.slice (some ⟨g23, 0, none⟩) 2 2, .string ⟨#[98]⟩, .string ⟨#[107]⟩] rfl ?_; (with_reducible refine (Go.Proofs.Ythjhkcebcgdeoaa.Jud.exc_last g23 _ (Kd.C_below CL.out HX7.out)).mono ?_); rintro e w8 ⟨rfl, hb⟩; refine ⟨_, rfl, ?_⟩; have HX8 := Aside0.mk (below_step HX7.out hb); clear hb)
  | ((with_reducible refine gate_dst (N := 38) rfl ?_); refine Kg_ (some 38) rfl rfl Try.func18 (by kernel_rfl) rfl #[.slice (some ⟨g23, 0, none⟩) 2 2] rfl ?_; (with_reducible refine (Go.Proofs.Ythjhkcebcgdeoaa.Jud.exc_order g23 _ (Kd.C_below CL.out HX8.out)).mono ?_); rintro e w9 ⟨v, rfl, hO, hb⟩; refine ⟨_, rfl, ?_⟩; obtain ⟨AO, cO, ev, hcO, hCO⟩ := Kd.R_reads hO; subst ev; have HX9 := Aside0.mk (below_step HX8.out hb); obtain ⟨aO, eO, hO0⟩ := Kd.at_int hCO 0 (by decide) (by decide); subst eO; have ea : aO.add (Int.toNat 0) = aO := (by cases aO; simp [Addr.add]); have HO0 : Aside0 (w9.cell? aO = some (.int .i64 1)) := ⟨by rw [ea] at hO0; exact hO0⟩; clear hO hCO hb hO0 ea; obtain ⟨he0, he1, he2, he3, he4, he5⟩ := Kc6_ (blk_below BK3c.out HX9.out))
  | ((with_reducible refine gate_dst (N := 53) rfl ?_); refine gate_guard (by rfl) ?_; refine Kg_ (some 53) rfl rfl Try.func20 (by kernel_rfl) rfl #[.slice (some ⟨g23, 0, none⟩) 2 2, .agg #[.int .u64 1, .int .u64 1, .int .u64 0, .int .u64 0]] rfl ?_; (with_reducible refine (Go.Proofs.Ythjhkcebcgdeoaa.Jud.exc_closed1 g23 _ (Kd.C_below CL.out HX9.out)).mono ?_); rintro e w10 ⟨rfl, hb⟩; refine ⟨_, rfl, ?_⟩; have HX10 := Aside0.mk (below_step HX9.out hb); have HXO10 := Aside0.mk (hb); clear hb; clear he0 he1 he2 he3 he4 he5)
  | ((with_reducible refine gate_dst (N := 58) rfl ?_); refine gate_guard (by rfl) ?_; refine Kg_ (some 58) rfl rfl Try.func20 (by kernel_rfl) rfl #[.slice (some ⟨g23, 0, none⟩) 2 2, .agg #[.int .u64 0, .int .u64 1, .int .u64 0, .int .u64 0]] rfl ?_; (with_reducible refine (Go.Proofs.Ythjhkcebcgdeoaa.Jud.exc_closed2 g23 _ (Kd.C_below CL.out HX10.out)).mono ?_); rintro e w11 ⟨rfl, hb⟩; refine ⟨_, rfl, ?_⟩; have HX11 := Aside0.mk (below_step HX10.out hb); have HXO11 := Aside0.mk (below_step HXO10.out hb); clear hb)
  | ((with_reducible refine gate_dst (N := 64) rfl ?_); refine gate_guard (by rfl) ?_; refine Kg_ (some 64) rfl rfl Try.func20 (by kernel_rfl) rfl #[.slice (some ⟨g23, 0, none⟩) 2 2, .agg #[.int .u64 2, .int .u64 0, .int .u64 0, .int .u64 0]] rfl ?_; (with_reducible refine (Go.Proofs.Ythjhkcebcgdeoaa.Jud.exc_closed3 g23 _ (Kd.C_below CL.out HX11.out)).mono ?_); rintro e w12 ⟨rfl, hb⟩; refine ⟨_, rfl, ?_⟩; have HX12 := Aside0.mk (below_step HX11.out hb); have HXO12 := Aside0.mk (below_step HXO11.out hb); clear hb)
  | ((with_reducible refine gate_dst (N := 69) rfl ?_); refine gate_guard (by rfl) ?_; refine Kg_ (some 69) rfl rfl Try.func22 (by kernel_rfl) rfl #[.slice (some ⟨g23, 0, none⟩) 2 2] rfl ?_; (with_reducible refine (Go.Proofs.Ythjhkcebcgdeoaa.Jud.exc_live2 g23 _ (Kd.C_below CL.out HX12.out)).mono ?_); rintro e w13 ⟨rfl, hb⟩; refine ⟨_, rfl, ?_⟩; have HX13 := Aside0.mk (below_step HX12.out hb); have HXO13 := Aside0.mk (below_step HXO12.out hb); clear hb)
  | ((with_reducible refine gate_dst (N := 75) rfl ?_); refine gate_guard (by rfl) ?_; refine Kg_ (some 75) rfl rfl Try.func22 (by kernel_rfl) rfl #[.slice (some ⟨g23, 6, none⟩) 1 1] rfl ?_; (with_reducible refine (Go.Proofs.Ythjhkcebcgdeoaa.Jud.exc_live1 g23 _ (Kd.C_below C1.out HX13.out)).mono ?_); rintro e w14 ⟨rfl, hb⟩; refine ⟨_, rfl, ?_⟩; have HX14 := Aside0.mk (below_step HX13.out hb); have HXO14 := Aside0.mk (below_step HXO13.out hb); clear hb)
  | ((with_reducible refine gate_dst (N := 82) rfl ?_); refine gate_guard (by rfl) ?_; refine Kg_ (some 82) rfl rfl Try.func24 (by kernel_rfl) rfl #[.slice (some ⟨g23, 6, none⟩) 1 1, .slice (some ⟨g23, 0, none⟩) 2 2] rfl ?_; (with_reducible refine (Go.Proofs.Ythjhkcebcgdeoaa.Jud.exc_sub1 g23 _ (Kd.C_below C1.out HX14.out) (Kd.C_below CL.out HX14.out)).mono ?_); rintro e w15 ⟨rfl, hb⟩; refine ⟨_, rfl, ?_⟩; have HX15 := Aside0.mk (below_step HX14.out hb); have HXO15 := Aside0.mk (below_step HXO14.out hb); clear hb)
  | ((with_reducible refine gate_dst (N := 88) rfl ?_); refine gate_guard (by rfl) ?_; refine Kg_ (some 88) rfl rfl Try.func24 (by kernel_rfl) rfl #[.slice (some ⟨g23, 0, none⟩) 2 2, .slice (some ⟨g23, 6, none⟩) 1 1] rfl ?_; (with_reducible refine (Go.Proofs.Ythjhkcebcgdeoaa.Jud.exc_sub2 g23 _ (Kd.C_below CL.out HX15.out) (Kd.C_below C1.out HX15.out)).mono ?_); rintro e w16 ⟨rfl, hb⟩; refine ⟨_, rfl, ?_⟩; have HX16 := Aside0.mk (below_step HX15.out hb); have HXO16 := Aside0.mk (below_step HXO15.out hb); clear hb; have HF := Aside0.mk (below_step HB6.out HX16.out); have hO0 := (HXO16.out.cell (World.block_lt_of_cell? _ _ HO0.out)).trans HO0.out))
 go_ret
 exact ⟨rfl, HF.out⟩
def tenementlaw22_Put_write.f (a0 : ByteArray) (a1 : ByteArray) (a2 : ByteArray) (a3 : Bool) (a4 : Bool) (k : Int) : Option (ByteArray × ByteArray × ByteArray × Bool) := if a4 = true then (if a2.size ≤ 9223372036854775807 then (if 224 ≤ k then some ((strOfNums [98, (IntKind.u8.wrap (48 + Int.tmod k 2))]), (strOfNums [(IntKind.u8.wrap (97 + Int.tmod (IntKind.u8.wrap (Int.tdiv k 2)) 4))]), (⟨#[]⟩ : ByteArray), true) else some ((strOfNums [98, (IntKind.u8.wrap (48 + Int.tmod k 2))]), (strOfNums [(IntKind.u8.wrap (97 + Int.tmod (IntKind.u8.wrap (Int.tdiv k 2)) 4))]), (a2.extract 0 (min a2.size 8)), false)) else none) else some (a0, a1, a2, a3)
def tenementlaw22_Put_write.Sp (gb s0 : Nat) (a2 : ByteArray) (k : Int) : Nat → Value → World → Prop
 | 0, v, _ => v = .pointer (some ⟨gb, 5, none⟩)
 | 1, v, _ => v = .int .u8 k
 | 2, v, _ => v = .int .u8 (Int.tmod k 2)
 | 3, v, _ => v = .int .u8 (IntKind.u8.wrap (48 + Int.tmod k 2))
 | 4, v, W => ∃ b, v = .slice (some ⟨b, 0, none⟩) 2 2 ∧ s0 ≤ b ∧ W.heap[b]? = some (.cells #[.int .u8 98, .int .u8 (IntKind.u8.wrap (48 + Int.tmod k 2))] 5 (0, 0))
 | 5, v, _ => v = .string (strOfNums [98, (IntKind.u8.wrap (48 + Int.tmod k 2))])
 | 6, v, _ => v = .pointer (some ⟨gb, 5, none⟩)
 | 7, v, _ => v = .int .u8 k
 | 8, v, _ => v = .int .u8 (IntKind.u8.wrap (Int.tdiv k 2))
 | 9, v, _ => v = .int .u8 (Int.tmod (IntKind.u8.wrap (Int.tdiv k 2)) 4)
 | 10, v, _ => v = .int .u8 (IntKind.u8.wrap (97 + Int.tmod (IntKind.u8.wrap (Int.tdiv k 2)) 4))
 | 11, v, W => ∃ b, v = .slice (some ⟨b, 0, none⟩) 1 1 ∧ s0 ≤ b ∧ W.heap[b]? = some (.cells #[.int .u8 (IntKind.u8.wrap (97 + Int.tmod (IntKind.u8.wrap (Int.tdiv k 2)) 4))] 5 (0, 0))
 | 12, v, _ => v = .string (strOfNums [(IntKind.u8.wrap (97 + Int.tmod (IntKind.u8.wrap (Int.tdiv k 2)) 4))])
 | 13, v, _ => v = .pointer (some ⟨gb, 0, none⟩)
 | 14, v, _ => v = .pointer (some ⟨gb, 2, none⟩)
 | 15, v, _ => v = .string a2
 | 16, v, _ => v = .pointer (some ⟨gb, 0, none⟩)
 | 17, v, _ => v = .pointer (some ⟨gb, 2, none⟩)
 | 18, v, _ => v = .string a2
 | 19, v, _ => v = .int .i64 (a2.size : Int)
 | 20, v, _ => v = .int .i64 ((min a2.size 8 : Nat) : Int)
 | 21, v, _ => v = .string (a2.extract 0 (min a2.size 8))
 | 22, v, _ => v = .pointer (some ⟨gb, 5, none⟩)
 | 23, v, _ => v = .int .u8 k
 | 24, v, _ => v = .bool (decide (224 ≤ k))
 | 25, v, _ => v = .agg #[.string (strOfNums [98, (IntKind.u8.wrap (48 + Int.tmod k 2))]), .string (strOfNums [(IntKind.u8.wrap (97 + Int.tmod (IntKind.u8.wrap (Int.tdiv k 2)) 4))]), .string (a2.extract 0 (min a2.size 8)), .bool (decide (224 ≤ k))]
 | 26, v, W => ∃ b, v = .pointer (some ⟨b, 0, none⟩) ∧ s0 ≤ b ∧ W.heap[b]? = some (.cells #[.string ⟨#[]⟩, .string ⟨#[]⟩, .string ⟨#[]⟩, .bool false] 24 (0, 0))
 | _, _, _ => True
theorem tenementlaw22_Put_write.stay (gb s0 : Nat) (a2 : ByteArray) (k : Int) : ∀ (i : Nat) (v : Value) (W W' : World), Below W.heap.size W W' → tenementlaw22_Put_write.Sp gb s0 a2 k i v W → tenementlaw22_Put_write.Sp gb s0 a2 k i v W'
 | 0, v, W, W', hb, h => h
 | 1, v, W, W', hb, h => h
 | 2, v, W, W', hb, h => h
 | 3, v, W, W', hb, h => h
 | 4, v, W, W', hb, h => by obtain ⟨b, e, hs, h⟩ := h; exact ⟨b, e, hs, blk_below h hb⟩
 | 5, v, W, W', hb, h => h
 | 6, v, W, W', hb, h => h
 | 7, v, W, W', hb, h => h
 | 8, v, W, W', hb, h => h
 | 9, v, W, W', hb, h => h
 | 10, v, W, W', hb, h => h
 | 11, v, W, W', hb, h => by obtain ⟨b, e, hs, h⟩ := h; exact ⟨b, e, hs, blk_below h hb⟩
 | 12, v, W, W', hb, h => h
 | 13, v, W, W', hb, h => h
 | 14, v, W, W', hb, h => h
 | 15, v, W, W', hb, h => h
 | 16, v, W, W', hb, h => h
 | 17, v, W, W', hb, h => h
 | 18, v, W, W', hb, h => h
 | 19, v, W, W', hb, h => h
 | 20, v, W, W', hb, h => h
 | 21, v, W, W', hb, h => h
 | 22, v, W, W', hb, h => h
 | 23, v, W, W', hb, h => h
 | 24, v, W, W', hb, h => h
 | 25, v, W, W', hb, h => h
 | 26, v, W, W', hb, h => by obtain ⟨b, e, hs, h⟩ := h; exact ⟨b, e, hs, blk_below h hb⟩
 | _ + 27, v, W, W', hb, h => trivial
theorem tenementlaw22_Put_write.boxes2 (w : World) (xs ys : Array Value) (t1 t2 : TypeId) (W : World) (h : (w.alloc (.cells xs t1)).alloc (.cells ys t2) = W) :
  W.heap[w.heap.size]? = some (.cells xs t1 (0,0)) ∧ W.heap[w.heap.size+1]? = some (.cells ys t2 (0,0)) ∧ Below w.heap.size w W := by
 subst h
 have s1 : (w.alloc (.cells xs t1)).heap.size = w.heap.size + 1 := by simp [World.alloc, -World.alloc_eq]
 refine ⟨blk_alloc (blk_new _ _) _, ?_, below_alloc (below_alloc (Below.refl _ _) _) _⟩
 rw [← s1]; exact blk_new _ _
def tenementlaw22_Put_write.St (w : World) (gb s0 : Nat) (cs : Array Value) (W : World) : Prop := W.heap[gb]? = some (.cells cs 26 (0, 0)) ∧ W.heap[gb + 1]? = some (.cells #[.string ⟨#[]⟩, .string ⟨#[]⟩, .string ⟨#[]⟩, .bool false] 24 (0, 0)) ∧ Below w.heap.size w W ∧ s0 ≤ W.heap.size
theorem tenementlaw22_Put_write.st_alloc {w : World} {gb s0 : Nat} {cs : Array Value} {W : World} (h : tenementlaw22_Put_write.St w gb s0 cs W) (o : Obj) : tenementlaw22_Put_write.St w gb s0 cs (W.alloc o) :=
 ⟨blk_alloc h.1 o, blk_alloc h.2.1 o, below_alloc h.2.2.1 o, Nat.le_trans h.2.2.2 (by simp [World.alloc, -World.alloc_eq])⟩
theorem tenementlaw22_Put_write.alloc_below (W : World) (o : Obj) : Below W.heap.size W (W.alloc o) := below_alloc (Below.refl _ _) o
theorem tenementlaw22_Put_write.op_some {P : Program} {ops : Array Oper} {Q : Exit → Act → World → Prop} {i : Nat} {o : Oper} {K : Act → World → Prop} {a : Act} {w : World} (hi : ops[i]? = some o) (hg : o.guard.isNone = true) (h : o.wp P a w K Q) : wpOp P ops Q i K a w := by
 unfold wpOp
 rw [hi]
 simp only [Go.Proofs.Ythjhkcebcgdeoaa.Inv.wanted_none hg, if_true]
 exact .inl h
set_option maxHeartbeats 8000000 in
set_option maxRecDepth 100000 in
theorem tenementlaw22_Put_write.calls (a0 : ByteArray) (a1 : ByteArray) (a2 : ByteArray) (a3 : Bool) (a4 : Bool) (k : Int) (r1 r2 r3 : ByteArray) (r4 : Bool) (w : World) (h : tenementlaw22_Put_write.f a0 a1 a2 a3 a4 k = some (r1, r2, r3, r4)) :
  Calls Try.prog 12 #[.agg #[.string a0, .string a1, .string a2, .bool a3, .bool a4, .int .u8 k]] w fun e w' => e = .returned (.agg #[.string r1, .string r2, .string r3, .bool r4]) ∧ Below w.heap.size w w' := by
 have hu23 := Try.underlying24
 unfold tenementlaw22_Put_write.f at h
 cases a4 with
 | false =>
  rw [if_neg (by simp)] at h
  simp only [Option.some.injEq, Prod.mk.injEq] at h
  obtain ⟨rfl, rfl, rfl, rfl⟩ := h
  go_enter Try.func12, Try.ntmps12
  go_wp2
  obtain ⟨hA, hB, HB1⟩ := tenementlaw22_Put_write.boxes2 w #[.string a0, .string a1, .string a2, .bool a3, .bool false, .int .u8 k] #[.string a0, .string a1, .string a2, .bool a3] 26 24 _ rfl
  generalize ((w.alloc (Obj.cells #[.string a0, .string a1, .string a2, .bool a3, .bool false, .int .u8 k] 26)).alloc (Obj.cells #[.string a0, .string a1, .string a2, .bool a3] 24)) = W0 at *
  obtain ⟨f0, f1, f2, f3⟩ := Kc4_ hB
  exact bodyPost_ret (v := .agg #[.string a0, .string a1, .string a2, .bool a3]) (by simp [results, Try.results12, go_sem, hu23, f0, f1, f2, f3]) rfl ⟨rfl, HB1⟩
 | true =>
  rw [if_pos rfl] at h
  by_cases hz : a2.size ≤ 9223372036854775807
  rotate_left
  ·rw [if_neg hz] at h; cases h
  rw [if_pos hz] at h
  have HH := Aside0.mk h
  clear h
  go_enter Try.func12, Try.ntmps12
  go_wp2
  obtain ⟨hA, hB, HB1⟩ := tenementlaw22_Put_write.boxes2 w #[.string a0, .string a1, .string a2, .bool a3, .bool true, .int .u8 k] #[.string ⟨#[]⟩, .string ⟨#[]⟩, .string ⟨#[]⟩, .bool false] 26 24 _ rfl
  generalize ((w.alloc (Obj.cells #[.string a0, .string a1, .string a2, .bool a3, .bool true, .int .u8 k] 26)).alloc (Obj.cells #[.string ⟨#[]⟩, .string ⟨#[]⟩, .string ⟨#[]⟩, .bool false] 24)) = W0 at *
  have HB := Aside0.mk HB1
  have hlt : w.heap.size + 1 < W0.heap.size := blk_lt hB
  have hst : tenementlaw22_Put_write.St w w.heap.size W0.heap.size #[.string a0, .string a1, .string a2, .bool a3, .bool true, .int .u8 k] W0.drew := ⟨hA, hB, below_drew1 HB1, Nat.le_refl _⟩
  clear hA hB HB1
  have hmm : (if 8 < (a2.size : Int) then 8 else (a2.size : Int)) = ((min a2.size 8 : Nat) : Int) := by split <;> omega
  have m0 : (0 : Int) ≤ ((min a2.size 8 : Nat) : Int) := by omega
  have m1 : ((min a2.size 8 : Nat) : Int) ≤ (a2.size : Int) := by omega
  obtain ⟨gb, hgb⟩ : ∃ gb, gb = w.heap.size := ⟨_, rfl⟩
  obtain ⟨s0, hs0⟩ : ∃ s0, s0 = W0.heap.size := ⟨_, rfl⟩
  rw [← hgb, ← hs0] at hst
  rw [← hgb]
  refine Go.Proofs.Ythjhkcebcgdeoaa.Inv.region_ok (by kernel_rfl) 27 [9, 10, 11, 12, 13, 14, 15, 16, 17, 18, 19, 20, 21, 22, 23, 24, 25, 26, 27, 28, 29, 30, 31, 32, 33, 34, 3] (by kernel_rfl) (fun N hN => (show N < 39 from (by decide : ∀ N ∈ ([9, 10, 11, 12, 13, 14, 15, 16, 17, 18, 19, 20, 21, 22, 23, 24, 25, 26, 27, 28, 29, 30, 31, 32, 33, 34, 3] : List Nat), N < 39) N hN)) (tenementlaw22_Put_write.Sp gb s0 a2 k) (tenementlaw22_Put_write.St w gb s0 #[.string a0, .string a1, .string a2, .bool a3, .bool true, .int .u8 k]) hst (fun i v W W' _ hb h => tenementlaw22_Put_write.stay gb s0 a2 k i v W W' hb h) ?hstep ?hend
  case hstep =>
   clear HH
   intro i o hi ho a W hS hL hd
   have q1 : a.tmps.getD 1 undef = .pointer (some ⟨gb, 0, none⟩) := hL.2.2 1 (by decide)
   obtain ⟨c0, c1, c2, c3, c4, c5, z0, z1, z2, z3, z4, z5⟩ := Ke6_ hS.1
   clear hL hgb hs0 hlt hst
   match i, hi, ho, hd with
   | 0, _, ho, hd =>
    obtain rfl := Option.some.inj ho
    clear hd ho
    refine ⟨.pointer (some ⟨gb, 5, none⟩), W, ?_, hS, Below.refl _ _, rfl⟩
    first | (go_simp; done) | (simp only [execOp, Act.eval, q1]; go_simp; done) | (simp only [execOp, Act.eval, q1]; go_simp; rfl) 
   | 1, _, ho, hd =>
    obtain rfl := Option.some.inj ho
    have d0 : a.tmps.getD 9 undef = .pointer (some ⟨gb, 5, none⟩) := hd ⟨0, .data⟩ (by simp) rfl
    clear hd ho
    refine ⟨.int .u8 k, W, ?_, hS, Below.refl _ _, rfl⟩
    first | (go_simp; done) | (simp only [execOp, Act.eval, q1, d0]; go_simp; done) | (simp only [execOp, Act.eval, q1, d0]; go_simp; rfl) 
   | 2, _, ho, hd =>
    obtain rfl := Option.some.inj ho
    have d1 : a.tmps.getD 10 undef = .int .u8 k := hd ⟨1, .data⟩ (by simp) rfl
    clear hd ho
    refine ⟨.int .u8 (Int.tmod k 2), W, ?_, hS, Below.refl _ _, rfl⟩
    first | (go_simp; done) | (simp only [execOp, Act.eval, q1, d1]; go_simp; done) | (simp only [execOp, Act.eval, q1, d1]; go_simp; rfl) 
   | 3, _, ho, hd =>
    obtain rfl := Option.some.inj ho
    have d2 : a.tmps.getD 11 undef = .int .u8 (Int.tmod k 2) := hd ⟨2, .data⟩ (by simp) rfl
    clear hd ho
    refine ⟨.int .u8 (IntKind.u8.wrap (48 + Int.tmod k 2)), W, ?_, hS, Below.refl _ _, rfl⟩
    first | (go_simp; done) | (simp only [execOp, Act.eval, q1, d2]; go_simp; done) | (simp only [execOp, Act.eval, q1, d2]; go_simp; rfl) 
   | 4, _, ho, hd =>
    obtain rfl := Option.some.inj ho
    have d3 : a.tmps.getD 12 undef = .int .u8 (IntKind.u8.wrap (48 + Int.tmod k 2)) := hd ⟨3, .data⟩ (by simp) rfl
    clear hd ho
    refine ⟨.slice (some ⟨W.heap.size, 0, none⟩) 2 2, W.alloc (.cells #[.int .u8 98, .int .u8 (IntKind.u8.wrap (48 + Int.tmod k 2))] 5), ?_, tenementlaw22_Put_write.st_alloc hS _, tenementlaw22_Put_write.alloc_below W _, ⟨_, rfl, hS.2.2.2, blk_new _ _⟩⟩
    have g3 := (Array.getD_eq_getD_getElem? (xs := a.tmps) (i := 12) (d := undef)).symm.trans d3
    go_simp
   | 5, _, ho, hd =>
    obtain rfl := Option.some.inj ho
    obtain ⟨b, d4, hsb, hbk⟩ : tenementlaw22_Put_write.Sp gb s0 a2 k 4 (a.tmps.getD 13 undef) W := hd ⟨4, .data⟩ (by simp) rfl
    clear hd ho
    refine ⟨.string (strOfNums [98, (IntKind.u8.wrap (48 + Int.tmod k 2))]), W, ?_, hS, Below.refl _ _, rfl⟩
    have hcv := run_convert_bytes_arg (P := Try.prog) W 83 5 Try.underlying83 Try.underlying5 b 0 2 2 [98, (IntKind.u8.wrap (48 + Int.tmod k 2))] rfl (fun j hj => by
     have hj2 : j = 0 ∨ j = 1 := by omega
     rcases hj2 with rfl | rfl
     ·exact (blk_cell hbk 0).trans rfl
     ·exact (blk_cell hbk 1).trans rfl) 9 Try.underlying9
    first | (go_simp; done) | (simp only [execOp, Act.eval, q1, d4]; go_simp; done) | (simp only [execOp, Act.eval, q1, d4]; go_simp; rfl) 
   | 6, _, ho, hd =>
    obtain rfl := Option.some.inj ho
    clear hd ho
    refine ⟨.pointer (some ⟨gb, 5, none⟩), W, ?_, hS, Below.refl _ _, rfl⟩
    first | (go_simp; done) | (simp only [execOp, Act.eval, q1]; go_simp; done) | (simp only [execOp, Act.eval, q1]; go_simp; rfl) 
   | 7, _, ho, hd =>
    obtain rfl := Option.some.inj ho
    have d6 : a.tmps.getD 15 undef = .pointer (some ⟨gb, 5, none⟩) := hd ⟨6, .data⟩ (by simp) rfl
    clear hd ho
    refine ⟨.int .u8 k, W, ?_, hS, Below.refl _ _, rfl⟩
    first | (go_simp; done) | (simp only [execOp, Act.eval, q1, d6]; go_simp; done) | (simp only [execOp, Act.eval, q1, d6]; go_simp; rfl) 
   | 8, _, ho, hd =>
    obtain rfl := Option.some.inj ho
    have d7 : a.tmps.getD 16 undef = .int .u8 k := hd ⟨7, .data⟩ (by simp) rfl
    clear hd ho
    refine ⟨.int .u8 (IntKind.u8.wrap (Int.tdiv k 2)), W, ?_, hS, Below.refl _ _, rfl⟩
    first | (go_simp; done) | (simp only [execOp, Act.eval, q1, d7]; go_simp; done) | (simp only [execOp, Act.eval, q1, d7]; go_simp; rfl) 
   | 9, _, ho, hd =>
    obtain rfl := Option.some.inj ho
    have d8 : a.tmps.getD 17 undef = .int .u8 (IntKind.u8.wrap (Int.tdiv k 2)) := hd ⟨8, .data⟩ (by simp) rfl
    clear hd ho
    refine ⟨.int .u8 (Int.tmod (IntKind.u8.wrap (Int.tdiv k 2)) 4), W, ?_, hS, Below.refl _ _, rfl⟩
    first | (go_simp; done) | (simp only [execOp, Act.eval, q1, d8]; go_simp; done) | (simp only [execOp, Act.eval, q1, d8]; go_simp; rfl) 
   | 10, _, ho, hd =>
    obtain rfl := Option.some.inj ho
    have d9 : a.tmps.getD 18 undef = .int .u8 (Int.tmod (IntKind.u8.wrap (Int.tdiv k 2)) 4) := hd ⟨9, .data⟩ (by simp) rfl
    clear hd ho
    refine ⟨.int .u8 (IntKind.u8.wrap (97 + Int.tmod (IntKind.u8.wrap (Int.tdiv k 2)) 4)), W, ?_, hS, Below.refl _ _, rfl⟩
    first | (go_simp; done) | (simp only [execOp, Act.eval, q1, d9]; go_simp; done) | (simp only [execOp, Act.eval, q1, d9]; go_simp; rfl) 
   | 11, _, ho, hd =>
    obtain rfl := Option.some.inj ho
    have d10 : a.tmps.getD 19 undef = .int .u8 (IntKind.u8.wrap (97 + Int.tmod (IntKind.u8.wrap (Int.tdiv k 2)) 4)) := hd ⟨10, .data⟩ (by simp) rfl
    clear hd ho
    refine ⟨.slice (some ⟨W.heap.size, 0, none⟩) 1 1, W.alloc (.cells #[.int .u8 (IntKind.u8.wrap (97 + Int.tmod (IntKind.u8.wrap (Int.tdiv k 2)) 4))] 5), ?_, tenementlaw22_Put_write.st_alloc hS _, tenementlaw22_Put_write.alloc_below W _, ⟨_, rfl, hS.2.2.2, blk_new _ _⟩⟩
    have g10 := (Array.getD_eq_getD_getElem? (xs := a.tmps) (i := 19) (d := undef)).symm.trans d10
    go_simp
   | 12, _, ho, hd =>
    obtain rfl := Option.some.inj ho
    obtain ⟨b, d11, hsb, hbk⟩ : tenementlaw22_Put_write.Sp gb s0 a2 k 11 (a.tmps.getD 20 undef) W := hd ⟨11, .data⟩ (by simp) rfl
    clear hd ho
    refine ⟨.string (strOfNums [(IntKind.u8.wrap (97 + Int.tmod (IntKind.u8.wrap (Int.tdiv k 2)) 4))]), W, ?_, hS, Below.refl _ _, rfl⟩
    have hcv := run_convert_bytes_arg (P := Try.prog) W 83 5 Try.underlying83 Try.underlying5 b 0 1 1 [(IntKind.u8.wrap (97 + Int.tmod (IntKind.u8.wrap (Int.tdiv k 2)) 4))] rfl (fun j hj => by
     have hj2 : j = 0 := by omega
     rcases hj2 with rfl
     exact (blk_cell hbk 0).trans rfl) 9 Try.underlying9
    first | (go_simp; done) | (simp only [execOp, Act.eval, q1, d11]; go_simp; done) | (simp only [execOp, Act.eval, q1, d11]; go_simp; rfl) 
   | 13, _, ho, hd =>
    obtain rfl := Option.some.inj ho
    clear hd ho
    refine ⟨.pointer (some ⟨gb, 0, none⟩), W, ?_, hS, Below.refl _ _, rfl⟩
    first | (go_simp; done) | (simp only [execOp, Act.eval, q1]; go_simp; done) | (simp only [execOp, Act.eval, q1]; go_simp; rfl) 
   | 14, _, ho, hd =>
    obtain rfl := Option.some.inj ho
    have d13 : a.tmps.getD 22 undef = .pointer (some ⟨gb, 0, none⟩) := hd ⟨13, .data⟩ (by simp) rfl
    clear hd ho
    refine ⟨.pointer (some ⟨gb, 2, none⟩), W, ?_, hS, Below.refl _ _, rfl⟩
    first | (go_simp; done) | (simp only [execOp, Act.eval, q1, d13]; go_simp; done) | (simp only [execOp, Act.eval, q1, d13]; go_simp; rfl) 
   | 15, _, ho, hd =>
    obtain rfl := Option.some.inj ho
    have d14 : a.tmps.getD 23 undef = .pointer (some ⟨gb, 2, none⟩) := hd ⟨14, .data⟩ (by simp) rfl
    clear hd ho
    refine ⟨.string a2, W, ?_, hS, Below.refl _ _, rfl⟩
    first | (go_simp; done) | (simp only [execOp, Act.eval, q1, d14]; go_simp; done) | (simp only [execOp, Act.eval, q1, d14]; go_simp; rfl) 
   | 16, _, ho, hd =>
    obtain rfl := Option.some.inj ho
    clear hd ho
    refine ⟨.pointer (some ⟨gb, 0, none⟩), W, ?_, hS, Below.refl _ _, rfl⟩
    first | (go_simp; done) | (simp only [execOp, Act.eval, q1]; go_simp; done) | (simp only [execOp, Act.eval, q1]; go_simp; rfl) 
   | 17, _, ho, hd =>
    obtain rfl := Option.some.inj ho
    have d16 : a.tmps.getD 25 undef = .pointer (some ⟨gb, 0, none⟩) := hd ⟨16, .data⟩ (by simp) rfl
    clear hd ho
    refine ⟨.pointer (some ⟨gb, 2, none⟩), W, ?_, hS, Below.refl _ _, rfl⟩
    first | (go_simp; done) | (simp only [execOp, Act.eval, q1, d16]; go_simp; done) | (simp only [execOp, Act.eval, q1, d16]; go_simp; rfl) 
   | 18, _, ho, hd =>
    obtain rfl := Option.some.inj ho
    have d17 : a.tmps.getD 26 undef = .pointer (some ⟨gb, 2, none⟩) := hd ⟨17, .data⟩ (by simp) rfl
    clear hd ho
    refine ⟨.string a2, W, ?_, hS, Below.refl _ _, rfl⟩
    first | (go_simp; done) | (simp only [execOp, Act.eval, q1, d17]; go_simp; done) | (simp only [execOp, Act.eval, q1, d17]; go_simp; rfl) 
   | 19, _, ho, hd =>
    obtain rfl := Option.some.inj ho
    have d18 : a.tmps.getD 27 undef = .string a2 := hd ⟨18, .data⟩ (by simp) rfl
    clear hd ho
    refine ⟨.int .i64 (a2.size : Int), W, ?_, hS, Below.refl _ _, rfl⟩
    first | (go_simp; done) | (simp only [execOp, Act.eval, q1, d18]; go_simp; done) | (simp only [execOp, Act.eval, q1, d18]; go_simp; rfl) 
   | 20, _, ho, hd =>
    obtain rfl := Option.some.inj ho
    have d19 : a.tmps.getD 28 undef = .int .i64 (a2.size : Int) := hd ⟨19, .data⟩ (by simp) rfl
    clear hd ho
    refine ⟨.int .i64 ((min a2.size 8 : Nat) : Int), W, ?_, hS, Below.refl _ _, rfl⟩
    first | (go_simp; done) | (simp only [execOp, Act.eval, q1, d19]; go_simp; done) | (simp only [execOp, Act.eval, q1, d19]; go_simp; rfl) 
   | 21, _, ho, hd =>
    obtain rfl := Option.some.inj ho
    have d15 : a.tmps.getD 24 undef = .string a2 := hd ⟨15, .data⟩ (by simp) rfl
    have d20 : a.tmps.getD 29 undef = .int .i64 ((min a2.size 8 : Nat) : Int) := hd ⟨20, .data⟩ (by simp) rfl
    clear hd ho
    refine ⟨.string (a2.extract 0 (min a2.size 8)), W, ?_, hS, Below.refl _ _, rfl⟩
    first | (go_simp; done) | (simp only [execOp, Act.eval, q1, d15, d20]; go_simp; done) | (simp only [execOp, Act.eval, q1, d15, d20]; go_simp; rfl) 
   | 22, _, ho, hd =>
    obtain rfl := Option.some.inj ho
    clear hd ho
    refine ⟨.pointer (some ⟨gb, 5, none⟩), W, ?_, hS, Below.refl _ _, rfl⟩
    first | (go_simp; done) | (simp only [execOp, Act.eval, q1]; go_simp; done) | (simp only [execOp, Act.eval, q1]; go_simp; rfl) 
   | 23, _, ho, hd =>
    obtain rfl := Option.some.inj ho
    have d22 : a.tmps.getD 31 undef = .pointer (some ⟨gb, 5, none⟩) := hd ⟨22, .data⟩ (by simp) rfl
    clear hd ho
    refine ⟨.int .u8 k, W, ?_, hS, Below.refl _ _, rfl⟩
    first | (go_simp; done) | (simp only [execOp, Act.eval, q1, d22]; go_simp; done) | (simp only [execOp, Act.eval, q1, d22]; go_simp; rfl) 
   | 24, _, ho, hd =>
    obtain rfl := Option.some.inj ho
    have d23 : a.tmps.getD 32 undef = .int .u8 k := hd ⟨23, .data⟩ (by simp) rfl
    clear hd ho
    refine ⟨.bool (decide (224 ≤ k)), W, ?_, hS, Below.refl _ _, rfl⟩
    first | (go_simp; done) | (simp only [execOp, Act.eval, q1, d23]; go_simp; done) | (simp only [execOp, Act.eval, q1, d23]; go_simp; rfl) 
   | 25, _, ho, hd =>
    obtain rfl := Option.some.inj ho
    have d5 : a.tmps.getD 14 undef = .string (strOfNums [98, (IntKind.u8.wrap (48 + Int.tmod k 2))]) := hd ⟨5, .data⟩ (by simp) rfl
    have d12 : a.tmps.getD 21 undef = .string (strOfNums [(IntKind.u8.wrap (97 + Int.tmod (IntKind.u8.wrap (Int.tdiv k 2)) 4))]) := hd ⟨12, .data⟩ (by simp) rfl
    have d21 : a.tmps.getD 30 undef = .string (a2.extract 0 (min a2.size 8)) := hd ⟨21, .data⟩ (by simp) rfl
    have d24 : a.tmps.getD 33 undef = .bool (decide (224 ≤ k)) := hd ⟨24, .data⟩ (by simp) rfl
    clear hd ho
    refine ⟨.agg #[.string (strOfNums [98, (IntKind.u8.wrap (48 + Int.tmod k 2))]), .string (strOfNums [(IntKind.u8.wrap (97 + Int.tmod (IntKind.u8.wrap (Int.tdiv k 2)) 4))]), .string (a2.extract 0 (min a2.size 8)), .bool (decide (224 ≤ k))], W, ?_, hS, Below.refl _ _, rfl⟩
    have g5 := (Array.getD_eq_getD_getElem? (xs := a.tmps) (i := 14) (d := undef)).symm.trans d5
    have g12 := (Array.getD_eq_getD_getElem? (xs := a.tmps) (i := 21) (d := undef)).symm.trans d12
    have g21 := (Array.getD_eq_getD_getElem? (xs := a.tmps) (i := 30) (d := undef)).symm.trans d21
    have g24 := (Array.getD_eq_getD_getElem? (xs := a.tmps) (i := 33) (d := undef)).symm.trans d24
    go_simp
   | 26, _, ho, hd =>
    obtain rfl := Option.some.inj ho
    clear hd ho
    refine ⟨.pointer (some ⟨W.heap.size, 0, none⟩), W.alloc (.cells #[.string ⟨#[]⟩, .string ⟨#[]⟩, .string ⟨#[]⟩, .bool false] 24), ?_, tenementlaw22_Put_write.st_alloc hS _, tenementlaw22_Put_write.alloc_below W _, ⟨_, rfl, hS.2.2.2, blk_new _ _⟩⟩
    first | (go_simp; done) | (simp only [execOp, Act.eval, q1]; go_simp; done) | (simp only [execOp, Act.eval, q1]; go_simp; rfl) 
   | _ + 27, hi, _, _ => omega
  case hend =>
   intro a W hS hL hA
   have q0 : a.tmps.getD 0 undef = .agg #[.string a0, .string a1, .string a2, .bool a3, .bool true, .int .u8 k] := hL.2.2 0 (by decide)
   have q1 : a.tmps.getD 1 undef = .pointer (some ⟨gb, 0, none⟩) := hL.2.2 1 (by decide)
   have q2 : a.tmps.getD 2 undef = .pointer (some ⟨gb + 1, 0, none⟩) := hL.2.2 2 (by decide)
   have q4 : a.tmps.getD 4 undef = .pointer (some ⟨gb, 4, none⟩) := hL.2.2 4 (by decide)
   have q5 : a.tmps.getD 5 undef = .bool true := hL.2.2 5 (by decide)
   have q6 : a.tmps.getD 6 undef = .bool false := hL.2.2 6 (by decide)
   have q7 : a.tmps.getD 7 undef = undef := hL.2.2 7 (by decide)
   have q8 : a.tmps.getD 8 undef = undef := hL.2.2 8 (by decide)
   have q35 : a.tmps.getD 35 undef = undef := hL.2.2 35 (by decide)
   have q36 : a.tmps.getD 36 undef = undef := hL.2.2 36 (by decide)
   have q37 : a.tmps.getD 37 undef = undef := hL.2.2 37 (by decide)
   have q38 : a.tmps.getD 38 undef = undef := hL.2.2 38 (by decide)
   have q9 : a.tmps.getD 9 undef = .pointer (some ⟨gb, 5, none⟩) := hA 0 (by decide)
   have q10 : a.tmps.getD 10 undef = .int .u8 k := hA 1 (by decide)
   have q11 : a.tmps.getD 11 undef = .int .u8 (Int.tmod k 2) := hA 2 (by decide)
   have q12 : a.tmps.getD 12 undef = .int .u8 (IntKind.u8.wrap (48 + Int.tmod k 2)) := hA 3 (by decide)
   obtain ⟨b13, q13, s13, k13⟩ : tenementlaw22_Put_write.Sp gb s0 a2 k 4 (a.tmps.getD 13 undef) W := hA 4 (by decide)
   have q14 : a.tmps.getD 14 undef = .string (strOfNums [98, (IntKind.u8.wrap (48 + Int.tmod k 2))]) := hA 5 (by decide)
   have q15 : a.tmps.getD 15 undef = .pointer (some ⟨gb, 5, none⟩) := hA 6 (by decide)
   have q16 : a.tmps.getD 16 undef = .int .u8 k := hA 7 (by decide)
   have q17 : a.tmps.getD 17 undef = .int .u8 (IntKind.u8.wrap (Int.tdiv k 2)) := hA 8 (by decide)
   have q18 : a.tmps.getD 18 undef = .int .u8 (Int.tmod (IntKind.u8.wrap (Int.tdiv k 2)) 4) := hA 9 (by decide)
   have q19 : a.tmps.getD 19 undef = .int .u8 (IntKind.u8.wrap (97 + Int.tmod (IntKind.u8.wrap (Int.tdiv k 2)) 4)) := hA 10 (by decide)
   obtain ⟨b20, q20, s20, k20⟩ : tenementlaw22_Put_write.Sp gb s0 a2 k 11 (a.tmps.getD 20 undef) W := hA 11 (by decide)
   have q21 : a.tmps.getD 21 undef = .string (strOfNums [(IntKind.u8.wrap (97 + Int.tmod (IntKind.u8.wrap (Int.tdiv k 2)) 4))]) := hA 12 (by decide)
   have q22 : a.tmps.getD 22 undef = .pointer (some ⟨gb, 0, none⟩) := hA 13 (by decide)
   have q23 : a.tmps.getD 23 undef = .pointer (some ⟨gb, 2, none⟩) := hA 14 (by decide)
   have q24 : a.tmps.getD 24 undef = .string a2 := hA 15 (by decide)
   have q25 : a.tmps.getD 25 undef = .pointer (some ⟨gb, 0, none⟩) := hA 16 (by decide)
   have q26 : a.tmps.getD 26 undef = .pointer (some ⟨gb, 2, none⟩) := hA 17 (by decide)
   have q27 : a.tmps.getD 27 undef = .string a2 := hA 18 (by decide)
   have q28 : a.tmps.getD 28 undef = .int .i64 (a2.size : Int) := hA 19 (by decide)
   have q29 : a.tmps.getD 29 undef = .int .i64 ((min a2.size 8 : Nat) : Int) := hA 20 (by decide)
   have q30 : a.tmps.getD 30 undef = .string (a2.extract 0 (min a2.size 8)) := hA 21 (by decide)
   have q31 : a.tmps.getD 31 undef = .pointer (some ⟨gb, 5, none⟩) := hA 22 (by decide)
   have q32 : a.tmps.getD 32 undef = .int .u8 k := hA 23 (by decide)
   have q33 : a.tmps.getD 33 undef = .bool (decide (224 ≤ k)) := hA 24 (by decide)
   have q34 : a.tmps.getD 34 undef = .agg #[.string (strOfNums [98, (IntKind.u8.wrap (48 + Int.tmod k 2))]), .string (strOfNums [(IntKind.u8.wrap (97 + Int.tmod (IntKind.u8.wrap (Int.tdiv k 2)) 4))]), .string (a2.extract 0 (min a2.size 8)), .bool (decide (224 ≤ k))] := hA 25 (by decide)
   obtain ⟨b3, q3, s3, k3⟩ : tenementlaw22_Put_write.Sp gb s0 a2 k 26 (a.tmps.getD 3 undef) W := hA 26 (by decide)
   have ht : a.tmps = #[.agg #[.string a0, .string a1, .string a2, .bool a3, .bool true, .int .u8 k], .pointer (some ⟨gb, 0, none⟩), .pointer (some ⟨gb + 1, 0, none⟩), .pointer (some ⟨b3, 0, none⟩), .pointer (some ⟨gb, 4, none⟩), .bool true, .bool false, undef, undef, .pointer (some ⟨gb, 5, none⟩), .int .u8 k, .int .u8 (Int.tmod k 2), .int .u8 (IntKind.u8.wrap (48 + Int.tmod k 2)), .slice (some ⟨b13, 0, none⟩) 2 2, .string (strOfNums [98, (IntKind.u8.wrap (48 + Int.tmod k 2))]), .pointer (some ⟨gb, 5, none⟩), .int .u8 k, .int .u8 (IntKind.u8.wrap (Int.tdiv k 2)), .int .u8 (Int.tmod (IntKind.u8.wrap (Int.tdiv k 2)) 4), .int .u8 (IntKind.u8.wrap (97 + Int.tmod (IntKind.u8.wrap (Int.tdiv k 2)) 4)), .slice (some ⟨b20, 0, none⟩) 1 1, .string (strOfNums [(IntKind.u8.wrap (97 + Int.tmod (IntKind.u8.wrap (Int.tdiv k 2)) 4))]), .pointer (some ⟨gb, 0, none⟩), .pointer (some ⟨gb, 2, none⟩), .string a2, .pointer (some ⟨gb, 0, none⟩), .pointer (some ⟨gb, 2, none⟩), .string a2, .int .i64 (a2.size : Int), .int .i64 ((min a2.size 8 : Nat) : Int), .string (a2.extract 0 (min a2.size 8)), .pointer (some ⟨gb, 5, none⟩), .int .u8 k, .bool (decide (224 ≤ k)), .agg #[.string (strOfNums [98, (IntKind.u8.wrap (48 + Int.tmod k 2))]), .string (strOfNums [(IntKind.u8.wrap (97 + Int.tmod (IntKind.u8.wrap (Int.tdiv k 2)) 4))]), .string (a2.extract 0 (min a2.size 8)), .bool (decide (224 ≤ k))], undef, undef, undef, undef] := by
    rw [Go.Proofs.Ythjhkcebcgdeoaa.Inv.tmps_eq a 39 hL.2.1, show List.range 39 = [0, 1, 2, 3, 4, 5, 6, 7, 8, 9, 10, 11, 12, 13, 14, 15, 16, 17, 18, 19, 20, 21, 22, 23, 24, 25, 26, 27, 28, 29, 30, 31, 32, 33, 34, 35, 36, 37, 38] from rfl]
    simp only [List.map_cons, List.map_nil, q0, q1, q2, q3, q4, q5, q6, q7, q8, q9, q10, q11, q12, q13, q14, q15, q16, q17, q18, q19, q20, q21, q22, q23, q24, q25, q26, q27, q28, q29, q30, q31, q32, q33, q34, q35, q36, q37, q38]
   clear q0 q1 q2 q3 q4 q5 q6 q7 q8 q9 q10 q11 q12 q13 q14 q15 q16 q17 q18 q19 q20 q21 q22 q23 q24 q25 q26 q27 q28 q29 q30 q31 q32 q33 q34 q35 q36 q37 q38 k13 k20 s13 s20
   obtain ⟨tm, df⟩ := a
   obtain rfl : df = [] := hL.1
   obtain rfl : tm = _ := ht
   have nb : gb + 1 ≠ b3 := by omega
   have gb3 : w.heap.size ≤ b3 := by omega
   have BK := blk_put (blk_put (blk_put (blk_put k3 0 (.string (strOfNums [98, (IntKind.u8.wrap (48 + Int.tmod k 2))])) (cs' := #[.string (strOfNums [98, (IntKind.u8.wrap (48 + Int.tmod k 2))]), .string ⟨#[]⟩, .string ⟨#[]⟩, .bool false]) rfl) 1 (.string (strOfNums [(IntKind.u8.wrap (97 + Int.tmod (IntKind.u8.wrap (Int.tdiv k 2)) 4))])) (cs' := #[.string (strOfNums [98, (IntKind.u8.wrap (48 + Int.tmod k 2))]), .string (strOfNums [(IntKind.u8.wrap (97 + Int.tmod (IntKind.u8.wrap (Int.tdiv k 2)) 4))]), .string ⟨#[]⟩, .bool false]) rfl) 2 (.string (a2.extract 0 (min a2.size 8))) (cs' := #[.string (strOfNums [98, (IntKind.u8.wrap (48 + Int.tmod k 2))]), .string (strOfNums [(IntKind.u8.wrap (97 + Int.tmod (IntKind.u8.wrap (Int.tdiv k 2)) 4))]), .string (a2.extract 0 (min a2.size 8)), .bool false]) rfl) 3 (.bool (decide (224 ≤ k))) (cs' := #[.string (strOfNums [98, (IntKind.u8.wrap (48 + Int.tmod k 2))]), .string (strOfNums [(IntKind.u8.wrap (97 + Int.tmod (IntKind.u8.wrap (Int.tdiv k 2)) 4))]), .string (a2.extract 0 (min a2.size 8)), .bool (decide (224 ≤ k))]) rfl
   have BR := blk_far (blk_far (blk_far (blk_far (hS.2.1) (p := ⟨b3, 0, none⟩) nb (.string (strOfNums [98, (IntKind.u8.wrap (48 + Int.tmod k 2))]))) (p := ⟨b3, 1, none⟩) nb (.string (strOfNums [(IntKind.u8.wrap (97 + Int.tmod (IntKind.u8.wrap (Int.tdiv k 2)) 4))]))) (p := ⟨b3, 2, none⟩) nb (.string (a2.extract 0 (min a2.size 8)))) (p := ⟨b3, 3, none⟩) nb (.bool (decide (224 ≤ k)))
   have HB1 := Aside0.mk (below_set (j := 3) (v := .bool (decide (224 ≤ k))) (below_set (j := 2) (v := .string (a2.extract 0 (min a2.size 8))) (below_set (j := 1) (v := .string (strOfNums [(IntKind.u8.wrap (97 + Int.tmod (IntKind.u8.wrap (Int.tdiv k 2)) 4))])) (below_set (j := 0) (v := .string (strOfNums [98, (IntKind.u8.wrap (48 + Int.tmod k 2))])) (hS.2.2.1) gb3) gb3) gb3) gb3)
   obtain ⟨x0, x1, x2, x3, z0, z1, z2, z3⟩ := Ke4_ k3
   clear hL hA hst HB
   refine tenementlaw22_Put_write.op_some (i := 27) rfl rfl ?_
   unfold Oper.wp
   go_simp
   clear x0 x1 x2 x3 z0 z1 z2 z3 k3 hS
   subst hgb
   generalize ((((W.setCell ⟨b3, 0, none⟩ (.string (strOfNums [98, (IntKind.u8.wrap (48 + Int.tmod k 2))]))).setCell ⟨b3, 1, none⟩ (.string (strOfNums [(IntKind.u8.wrap (97 + Int.tmod (IntKind.u8.wrap (Int.tdiv k 2)) 4))]))).setCell ⟨b3, 2, none⟩ (.string (a2.extract 0 (min a2.size 8)))).setCell ⟨b3, 3, none⟩ (.bool (decide (224 ≤ k)))) = W2 at *
   clear W hs0 s3 hmm m0 m1
   obtain ⟨x0, x1, x2, x3, z0, z1, z2, z3⟩ := Ke4_ BK
   obtain ⟨y0, y1, y2, y3, t0, t1, t2, t3⟩ := Ke4_ BR
   have HH' := HH.out
   clear HH
   generalize (strOfNums [98, (IntKind.u8.wrap (48 + Int.tmod k 2))]) = T1 at *
   generalize (strOfNums [(IntKind.u8.wrap (97 + Int.tmod (IntKind.u8.wrap (Int.tdiv k 2)) 4))]) = T2 at *
   generalize (a2.extract 0 (min a2.size 8)) = T3 at *
   by_cases c6 : 224 ≤ k
   ·have c6b : decide (224 ≤ k) = true := decide_eq_true c6
    rw [if_pos c6] at HH'
    simp only [Option.some.injEq, Prod.mk.injEq] at HH'
    obtain ⟨rfl, rfl, rfl, rfl⟩ := HH'
    go_wp2
    have BF := blk_put (blk_put (blk_put (blk_put (blk_far BR (p := ⟨b3, 2, none⟩) nb (.string ⟨#[]⟩)) 0 (.string T1) (cs' := #[.string T1, .string ⟨#[]⟩, .string ⟨#[]⟩, .bool false]) rfl) 1 (.string T2) (cs' := #[.string T1, .string T2, .string ⟨#[]⟩, .bool false]) rfl) 2 (.string ⟨#[]⟩) (cs' := #[.string T1, .string T2, .string ⟨#[]⟩, .bool false]) rfl) 3 (.bool true) (cs' := #[.string T1, .string T2, .string ⟨#[]⟩, .bool true]) rfl
    have HF := below_set (j := 3) (v := .bool true) (below_set (j := 2) (v := .string ⟨#[]⟩) (below_set (j := 1) (v := .string T2) (below_set (j := 0) (v := .string T1) (below_set (j := 2) (v := .string ⟨#[]⟩) HB1.out gb3) (show w.heap.size ≤ w.heap.size + 1 by omega)) (show w.heap.size ≤ w.heap.size + 1 by omega)) (show w.heap.size ≤ w.heap.size + 1 by omega)) (show w.heap.size ≤ w.heap.size + 1 by omega)
    obtain ⟨f0, f1, f2, f3⟩ := Kc4_ BF
    clear x0 x1 x2 x3 y0 y1 y2 y3 z0 z1 z2 z3 t0 t1 t2 t3 BR BK BF
    refine bodyPost_ret (v := .agg #[.string T1, .string T2, .string ⟨#[]⟩, .bool true]) (by simp [results, Try.results12, go_sem, hu23, f0, f1, f2, f3]) rfl ⟨rfl, HF⟩
   ·have c6b : decide (224 ≤ k) = false := decide_eq_false c6
    rw [if_neg c6] at HH'
    simp only [Option.some.injEq, Prod.mk.injEq] at HH'
    obtain ⟨rfl, rfl, rfl, rfl⟩ := HH'
    go_wp2
    have BF := blk_put (blk_put (blk_put (blk_put (BR) 0 (.string T1) (cs' := #[.string T1, .string ⟨#[]⟩, .string ⟨#[]⟩, .bool false]) rfl) 1 (.string T2) (cs' := #[.string T1, .string T2, .string ⟨#[]⟩, .bool false]) rfl) 2 (.string T3) (cs' := #[.string T1, .string T2, .string T3, .bool false]) rfl) 3 (.bool false) (cs' := #[.string T1, .string T2, .string T3, .bool false]) rfl
    have HF := below_set (j := 3) (v := .bool false) (below_set (j := 2) (v := .string T3) (below_set (j := 1) (v := .string T2) (below_set (j := 0) (v := .string T1) (HB1.out) (show w.heap.size ≤ w.heap.size + 1 by omega)) (show w.heap.size ≤ w.heap.size + 1 by omega)) (show w.heap.size ≤ w.heap.size + 1 by omega)) (show w.heap.size ≤ w.heap.size + 1 by omega)
    obtain ⟨f0, f1, f2, f3⟩ := Kc4_ BF
    clear x0 x1 x2 x3 y0 y1 y2 y3 z0 z1 z2 z3 t0 t1 t2 t3 BR BK BF
    refine bodyPost_ret (v := .agg #[.string T1, .string T2, .string T3, .bool false]) (by simp [results, Try.results12, go_sem, hu23, f0, f1, f2, f3]) rfl ⟨rfl, HF⟩
end Go.Proofs.Ythjhkcebcgdeoaa.Q
