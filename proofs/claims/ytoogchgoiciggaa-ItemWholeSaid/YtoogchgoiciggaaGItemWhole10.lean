import Derived.Test.YtoogchgoiciggaaGItemWhole2
import Derived.Test.YtoogchgoiciggaaGItemWhole3
import Derived.Test.YtoogchgoiciggaaGItemWhole8
import Derived.Test.YtoogchgoiciggaaGItemWhole9
import Derived.Test.YtoogchgoiciggaaGItemWhole6
import Derived.Deep.LoopGhost
import Derived.Test.YtoogchgoiciggaaGItemWhole0
import Derived.Test.YtoogchgoiciggaaGItemWhole5
namespace Go.Proofs.Ytoogchgoiciggaa.Q
open Go.RowKit Go.Proofs.YtoogchgoiciggaaW.PrintWords Go.Proofs.YtoogchgoiciggaaW.PrintLast Go.Proofs.YtoogchgoiciggaaW.PrintMore
attribute [local go_sem] max2_int min2_int max_two min_two max_three min_three max_four min_four   -- for this text's walks alone
set_option linter.unusedVariables false
set_option linter.unusedSimpArgs false
def tenementlaw08_ItemWhole.nine (i : Nat) : S23 := ⟨⟨#[99]⟩, strOfNums [97 + (i : Int)], ⟨#[]⟩, false⟩
def tenementlaw08_ItemWhole.Bad (q4 : Int) (q5 : List S23) (e : Int) (ys : List S23) : Prop := (e = q4 ∧ (ys = [] ∨ ys = q5 ++ (List.range 9).map tenementlaw08_ItemWhole.nine ∨ ∃ x xs, q5 = x :: xs ∧ (ys = [x, ⟨x.f0, x.f1, ⟨#[]⟩, false⟩] ∨ ys = ⟨x.f0, ⟨#[]⟩, x.f2, x.f3⟩ :: xs ∨ ys = ⟨x.f0, x.f1, ⟨#[118]⟩, true⟩ :: xs))) ∨ (e = 0 ∧ ys = q5)
def tenementlaw08_ItemWhole.ok (a0_0 a0_1 a0_2 a0_3 a0_4 : Int) (a0_5 : Bool) (l0_6 : List S25) (a0_7 : Bool) (a1 : Int) (k : Nat) (q0 q1 q2 q3 q4 : Int) (q5 : List S23) : Prop := (0 ≤ a1 ∧ a1 ≤ 255) ∧ tenementlaw08_examples.f k = some true ∧ tenementlaw08_Deal_deal.f k a0_0 a0_1 a0_2 a0_3 a0_4 a0_5 l0_6 true = some (q0, q1, q2, q3, q4, q5) ∧ item_Whole.f q0 q1 q2 q3 q4 q5 = some true ∧ (1 ≤ q5.length ∧ q5.length ≤ 8) ∧ (∀ (e : Int) (ys : List S23), tenementlaw08_ItemWhole.Bad q4 q5 e ys → item_Bytes.f k q0 q1 q2 q3 e ys = some (⟨#[]⟩, false) ∧ item_Whole.f q0 q1 q2 q3 e ys = some false)
open Classical in
noncomputable def tenementlaw08_ItemWhole.f (a0_0 a0_1 a0_2 a0_3 a0_4 : Int) (a0_5 : Bool) (l0_6 : List S25) (a0_7 : Bool) (a1 : Int) : Option Bool := if ∃ (k : Nat) (q0 q1 q2 q3 q4 : Int) (q5 : List S23), tenementlaw08_ItemWhole.ok a0_0 a0_1 a0_2 a0_3 a0_4 a0_5 l0_6 a0_7 a1 k q0 q1 q2 q3 q4 q5 then some true else none
set_option maxHeartbeats 32000000 in
set_option maxRecDepth 100000 in
theorem tenementlaw08_ItemWhole.calls (a0_0 a0_1 a0_2 a0_3 a0_4 : Int) (a0_5 : Bool) (A0_6 : Option Addr) (c0_6 : Nat) (l0_6 : List S25) (a0_7 : Bool) (a1 : Int) (r_ : Bool) (w : World) (hr0_6 : Kd.C k25 w A0_6 l0_6.length l0_6) (hc0_6 : l0_6.length ≤ c0_6) (h : tenementlaw08_ItemWhole.f a0_0 a0_1 a0_2 a0_3 a0_4 a0_5 l0_6 a0_7 a1 = some r_) :
  Calls Try.prog 8 #[.agg #[.int .u64 a0_0, .int .u64 a0_1, .int .u64 a0_2, .int .u64 a0_3, .int .i64 a0_4, .bool a0_5, .slice A0_6 l0_6.length c0_6, .bool a0_7], .int .u8 a1] w fun e w' => e = .returned (.bool r_) ∧ Below w.heap.size w w' := by
 unfold tenementlaw08_ItemWhole.f at h
 by_cases hw : ∃ (k : Nat) (q0 q1 q2 q3 q4 : Int) (q5 : List S23), tenementlaw08_ItemWhole.ok a0_0 a0_1 a0_2 a0_3 a0_4 a0_5 l0_6 a0_7 a1 k q0 q1 q2 q3 q4 q5
 rotate_left
 ·rw [if_neg hw] at h; cases h
 rw [if_pos hw] at h
 obtain rfl := Option.some.inj h
 clear h
 obtain ⟨k, q0, q1, q2, q3, q4, q5, h1, h2, h3, h4, h5, h6⟩ := hw
 have HU := Aside0.mk h1
 have HEX := Aside0.mk h2
 have HDL := Aside0.mk h3
 have HWH := Aside0.mk h4
 have HLEN := Aside0.mk h5
 have HBAD := Aside0.mk h6
 have HR0 := Aside0.mk hr0_6
 clear h1 h2 h3 h4 h5 h6 hr0_6
 obtain ⟨z, hz⟩ : ∃ z_ : Int, Int.tmod a1 6 = z_ := ⟨_, rfl⟩
 have hz6 : z = 0 ∨ z = 1 ∨ z = 2 ∨ z = 3 ∨ z = 4 ∨ z = 5 := by
  have := HU.out
  rw [Int.tmod_eq_emod_of_nonneg this.1] at hz
  omega
 go_enter Try.func8, Try.ntmps8
 rcases hz6 with rfl | rfl | rfl | rfl | rfl | rfl
 ·obtain ⟨hby, hw2⟩ := HBAD.out q4 [] (.inl ⟨rfl, .inl rfl⟩)
  have HBY := Aside0.mk hby
  have HW2 := Aside0.mk hw2
  clear hby hw2
  go_wp2_with (first
   | ((with_reducible refine gate_dst (N := 2) rfl ?_); refine Ka_ 2 #[.int .u64 a0_0, .int .u64 a0_1, .int .u64 a0_2, .int .u64 a0_3, .int .i64 a0_4, .bool a0_5, .slice A0_6 l0_6.length c0_6, .bool a0_7] 35 ?_; intro g2 hg w1 hbox hb; have GE2 : Aside0 (w.heap.size ≤ g2) := ⟨Nat.le_of_eq hg.symm⟩; have BK2 := Aside0.mk hbox; have HB1 := Aside0.mk hb; clear hb hbox hg)
   | ((with_reducible refine gate_dst (N := 12) rfl ?_); refine Kg_ (some 12) rfl rfl Try.func11 (by kernel_rfl) rfl #[] rfl ?_; (with_reducible refine (tenementlaw08_examples.calls k true _ HEX.out).mono ?_); rintro e_ w2 ⟨rfl, hb⟩; refine ⟨_, rfl, ?_⟩; replace BK2 := Aside0.mk (blk_below BK2.out hb); have HB2 := Aside0.mk (below_step HB1.out hb); clear hb; obtain ⟨hp0, hp1, hp2, hp3, hp4, hp5, hp6, hp7, fp0, fp1, fp2, fp3, fp4, fp5, fp6, fp7⟩ := Ke8_ BK2.out)
   | ((with_reducible refine gate_dst (N := 17) rfl ?_); refine Kg_ (some 17) rfl rfl Try.func14 (by kernel_rfl) rfl #[.agg #[.int .u64 a0_0, .int .u64 a0_1, .int .u64 a0_2, .int .u64 a0_3, .int .i64 a0_4, .bool a0_5, .slice A0_6 l0_6.length c0_6, .bool true]] rfl ?_; (with_reducible refine (tenementlaw08_Deal_deal.calls k a0_0 a0_1 a0_2 a0_3 a0_4 a0_5 _ _ l0_6 true q0 q1 q2 q3 q4 q5 _ ?s1 hc0_6 HDL.out).mono ?_); (case s1 => exact Kd.C_below HR0.out (HB2.out.setCell GE2.out _)); rintro e_ wd ⟨vq, rfl, hR, hb⟩; refine ⟨_, rfl, ?_⟩; obtain ⟨Aq, cq, eq_⟩ := Kd.R_slice hR; subst eq_; have HS1 : Aside0 (Below w.heap.size w (w2.setCell ⟨g2, 7, none⟩ (.bool true))) := ⟨HB2.out.setCell GE2.out _⟩; have HRd := Aside0.mk (Kd.R_lower hR (below_size HS1.out)); have HBd := Aside0.mk (below_step HS1.out hb); clear hb hR hp0 hp1 hp2 hp3 hp4 hp5 hp6 hp7 fp0 fp1 fp2 fp3 fp4 fp5 fp6 fp7)
   | ((with_reducible refine gate_dst (N := 19) rfl ?_); refine Kg_ (some 19) rfl rfl Try.func22 (by kernel_rfl) rfl #[.agg #[.int .u64 q0, .int .u64 q1, .int .u64 q2, .int .u64 q3, .int .i64 q4, .slice Aq q5.length cq]] rfl ?_; (with_reducible refine (item_Whole.calls q0 q1 q2 q3 q4 Aq cq q5 true _ ?s1 ?s2 HWH.out).mono ?_); (case s1 => exact (Kd.R_reads' (Kd.R_below HRd.out (below_alloc (Below.refl _ _) _))).2.2); (case s2 => exact (Kd.R_reads' HRd.out).2.1); rintro e_ w6 ⟨rfl, hb⟩; refine ⟨_, rfl, ?_⟩; have hb2 := below_step (below_alloc (Below.refl _ _) _) hb; have BK6 := Aside0.mk (blk_below (blk_new wd _) hb); have GE6 : Aside0 (w.heap.size ≤ wd.heap.size) := ⟨below_size HBd.out⟩; have HR6 := Aside0.mk (Kd.R_below HRd.out hb2); have HB6 := Aside0.mk (below_step HBd.out hb2); clear hb hb2 HRd; generalize wd.heap.size = g6 at BK6 GE6 ⊢; obtain ⟨ta0, ta1, ta2, ta3, ta4, ta5, -, -, -, -, -, -⟩ := Ke6_ BK6.out)
   | ((with_reducible refine gate_builtin (b := .append) (xs := #[.const (.slice none 0 0), .tmp 21]) rfl ?_); at_builtin; refine Kd.R_append_rows k23 (w0 := w) w.heap.size rfl (.const (.slice none 0 0)) (.tmp 21) 41 23 (.agg #[(.string ⟨#[]⟩), (.string ⟨#[]⟩), (.string ⟨#[]⟩), (.bool false)]) 56 rfl Try.underlying41 Go.Proofs.Ytoogchgoiciggaa.Iw.infoW rfl (by decide) (by omega) (.slice none 0 0) ([] : List S23) q5 Aq q5.length cq (fun _ => True) (fun _ => False) rfl rfl ?aO ?aR (fun _ _ h => h) (fun _ h => h.elim) ?aF ?aB ?aS ?aL ?_; (case aO => exact Kd.R_nil _ _ _ _ _); (case aR => obtain ⟨A_, c_, e_, -, hrow⟩ := OwnRow.reads HR6.out.2; injection e_ with e1_ e2_ e3_; subst e1_; exact ReadsRow.imp_ hrow (Below.refl _ _) (fun p q hp => by have := k23_openM hp; subst this; exact k23_mkM _ _ _ p)); (case aF => exact fun _ _ => trivial); (case aB => exact HB6.out); (case aS => exact below_size HB6.out); (case aL => have := HLEN.out; simp only [List.length_nil]; omega); intro v8 w7 ho hb hg hat; obtain ⟨y0, hy0⟩ : ∃ y_ : List S23, y_ = [] ++ q5 := ⟨_, rfl⟩; rw [← hy0] at ho; have HY0 : Aside0 (y0 = q5) := ⟨hy0⟩; clear hy0; obtain ⟨g8, c8, ev8, gb8, gl8, -⟩ := Kd.R_form ho (by rw [HY0.out]; have := HLEN.out; omega); subst ev8; have HL8 := Aside0.mk ho; have GE8 : Aside0 (w.heap.size ≤ g8) := ⟨gb8⟩; have HB7 := Aside0.mk hb; have BK6b := Aside0.mk (blk_grown BK6.out hg (by simp [Value.ownBlock])); clear ho hb hg hat gb8 gl8 ta0 ta1 ta2 ta3 ta4 ta5; obtain ⟨ta0, ta1, ta2, ta3, ta4, ta5, fa0, fa1, fa2, fa3, fa4, fa5⟩ := Ke6_ BK6b.out; obtain ⟨x, xs, hx⟩ : ∃ x xs, y0 = x :: xs := (by cases y0 with | nil => (have h1 := HLEN.out; have h2 := HY0.out; rw [← h2] at h1; exact absurd h1.1 (by simp)) | cons x xs => exact ⟨x, xs, rfl⟩); have HX := Aside0.mk hx; clear hx; have hr0 : Kd.R k23 23 w7 w.heap.size (fun _ => True) (.slice (some ⟨g8, 0, none⟩) y0.length c8) (x :: xs) := (by rw [← HX.out]; exact HL8.out); have HL0 := Aside0.mk hr0; obtain ⟨hxc, hxf⟩ := Go.Proofs.Ytoogchgoiciggaa.Iw.R_at0 hr0; have hx0 := hxc 0 _ rfl; have hx1 := hxc 1 _ rfl; have hx2 := hxc 2 _ rfl; have hx3 := hxc 3 _ rfl; have hf0 := hxf 0; have hf1 := hxf 1; have hf2 := hxf 2; have hf3 := hxf 3; clear hr0 hxc hxf)
   | ((with_reducible refine gate_dst (N := 81) rfl ?_); refine Kg_ (some 81) rfl rfl Try.func15 (by kernel_rfl) rfl #[.agg #[.int .u64 q0, .int .u64 q1, .int .u64 q2, .int .u64 q3, .int .i64 q4, .slice none 0 0]] rfl ?_; (refine (item_Bytes.calls k q0 q1 q2 q3 q4 none 0 [] ⟨#[]⟩ false _ ?s1 ?s2 HBY.out).mono ?_); (case s1 => exact Kd.C_nil _ _); (case s2 => exact Nat.le_refl _); rintro e_ w8 ⟨rfl, hb⟩; refine ⟨_, rfl, ?_⟩; have BK6c : Aside0 ((w7.setCell ⟨g6, 5, none⟩ (.slice none 0 0)).heap[g6]? = some (.cells #[.int .u64 q0, .int .u64 q1, .int .u64 q2, .int .u64 q3, .int .i64 q4, .slice none 0 0] 43 (0, 0))) := ⟨by refine blk_put (cs := #[.int .u64 q0, .int .u64 q1, .int .u64 q2, .int .u64 q3, .int .i64 q4, .slice Aq q5.length cq]) ?_ 5 _ rfl; exact BK6b.out⟩; have BK6d := Aside0.mk (blk_below BK6c.out hb); have HC8 : Aside0 (Kd.C k23 w8 none ([] : List S23).length []) := ⟨Kd.C_below (Kd.C_nil _ _) hb⟩; have HB8 := Aside0.mk (below_step (HB7.out.setCell GE6.out _) hb); clear hb; (try clear ta0 ta1 ta2 ta3 ta4 ta5 fa0 fa1 fa2 fa3 fa4 fa5); obtain ⟨tb0, tb1, tb2, tb3, tb4, tb5, -, -, -, -, -, -⟩ := Ke6_ BK6d.out)
   | (go_at_call 22; (refine (item_Whole.calls q0 q1 q2 q3 q4 none 0 [] false _ ?s1 ?s2 HW2.out).mono ?_); (case s1 => exact HC8.out); (case s2 => exact Nat.le_refl _); rintro e_ w9 ⟨rfl, hb⟩; have HB9 := Aside0.mk (below_step HB8.out hb); clear hb))
  go_ret
  exact ⟨by first | rfl | simp, HB9.out⟩
 ·go_wp2_with (first
   | ((with_reducible refine gate_dst (N := 2) rfl ?_); refine Ka_ 2 #[.int .u64 a0_0, .int .u64 a0_1, .int .u64 a0_2, .int .u64 a0_3, .int .i64 a0_4, .bool a0_5, .slice A0_6 l0_6.length c0_6, .bool a0_7] 35 ?_; intro g2 hg w1 hbox hb; have GE2 : Aside0 (w.heap.size ≤ g2) := ⟨Nat.le_of_eq hg.symm⟩; have BK2 := Aside0.mk hbox; have HB1 := Aside0.mk hb; clear hb hbox hg)
   | ((with_reducible refine gate_dst (N := 12) rfl ?_); refine Kg_ (some 12) rfl rfl Try.func11 (by kernel_rfl) rfl #[] rfl ?_; (with_reducible refine (tenementlaw08_examples.calls k true _ HEX.out).mono ?_); rintro e_ w2 ⟨rfl, hb⟩; refine ⟨_, rfl, ?_⟩; replace BK2 := Aside0.mk (blk_below BK2.out hb); have HB2 := Aside0.mk (below_step HB1.out hb); clear hb; obtain ⟨hp0, hp1, hp2, hp3, hp4, hp5, hp6, hp7, fp0, fp1, fp2, fp3, fp4, fp5, fp6, fp7⟩ := Ke8_ BK2.out)
   | ((with_reducible refine gate_dst (N := 17) rfl ?_); refine Kg_ (some 17) rfl rfl Try.func14 (by kernel_rfl) rfl #[.agg #[.int .u64 a0_0, .int .u64 a0_1, .int .u64 a0_2, .int .u64 a0_3, .int .i64 a0_4, .bool a0_5, .slice A0_6 l0_6.length c0_6, .bool true]] rfl ?_; (with_reducible refine (tenementlaw08_Deal_deal.calls k a0_0 a0_1 a0_2 a0_3 a0_4 a0_5 _ _ l0_6 true q0 q1 q2 q3 q4 q5 _ ?s1 hc0_6 HDL.out).mono ?_); (case s1 => exact Kd.C_below HR0.out (HB2.out.setCell GE2.out _)); rintro e_ wd ⟨vq, rfl, hR, hb⟩; refine ⟨_, rfl, ?_⟩; obtain ⟨Aq, cq, eq_⟩ := Kd.R_slice hR; subst eq_; have HS1 : Aside0 (Below w.heap.size w (w2.setCell ⟨g2, 7, none⟩ (.bool true))) := ⟨HB2.out.setCell GE2.out _⟩; have HRd := Aside0.mk (Kd.R_lower hR (below_size HS1.out)); have HBd := Aside0.mk (below_step HS1.out hb); clear hb hR hp0 hp1 hp2 hp3 hp4 hp5 hp6 hp7 fp0 fp1 fp2 fp3 fp4 fp5 fp6 fp7)
   | ((with_reducible refine gate_dst (N := 19) rfl ?_); refine Kg_ (some 19) rfl rfl Try.func22 (by kernel_rfl) rfl #[.agg #[.int .u64 q0, .int .u64 q1, .int .u64 q2, .int .u64 q3, .int .i64 q4, .slice Aq q5.length cq]] rfl ?_; (with_reducible refine (item_Whole.calls q0 q1 q2 q3 q4 Aq cq q5 true _ ?s1 ?s2 HWH.out).mono ?_); (case s1 => exact (Kd.R_reads' (Kd.R_below HRd.out (below_alloc (Below.refl _ _) _))).2.2); (case s2 => exact (Kd.R_reads' HRd.out).2.1); rintro e_ w6 ⟨rfl, hb⟩; refine ⟨_, rfl, ?_⟩; have hb2 := below_step (below_alloc (Below.refl _ _) _) hb; have BK6 := Aside0.mk (blk_below (blk_new wd _) hb); have GE6 : Aside0 (w.heap.size ≤ wd.heap.size) := ⟨below_size HBd.out⟩; have HR6 := Aside0.mk (Kd.R_below HRd.out hb2); have HB6 := Aside0.mk (below_step HBd.out hb2); clear hb hb2 HRd; generalize wd.heap.size = g6 at BK6 GE6 ⊢; obtain ⟨ta0, ta1, ta2, ta3, ta4, ta5, -, -, -, -, -, -⟩ := Ke6_ BK6.out)
   | ((with_reducible refine gate_builtin (b := .append) (xs := #[.const (.slice none 0 0), .tmp 21]) rfl ?_); at_builtin; refine Kd.R_append_rows k23 (w0 := w) w.heap.size rfl (.const (.slice none 0 0)) (.tmp 21) 41 23 (.agg #[(.string ⟨#[]⟩), (.string ⟨#[]⟩), (.string ⟨#[]⟩), (.bool false)]) 56 rfl Try.underlying41 Go.Proofs.Ytoogchgoiciggaa.Iw.infoW rfl (by decide) (by omega) (.slice none 0 0) ([] : List S23) q5 Aq q5.length cq (fun _ => True) (fun _ => False) rfl rfl ?aO ?aR (fun _ _ h => h) (fun _ h => h.elim) ?aF ?aB ?aS ?aL ?_; (case aO => exact Kd.R_nil _ _ _ _ _); (case aR => obtain ⟨A_, c_, e_, -, hrow⟩ := OwnRow.reads HR6.out.2; injection e_ with e1_ e2_ e3_; subst e1_; exact ReadsRow.imp_ hrow (Below.refl _ _) (fun p q hp => by have := k23_openM hp; subst this; exact k23_mkM _ _ _ p)); (case aF => exact fun _ _ => trivial); (case aB => exact HB6.out); (case aS => exact below_size HB6.out); (case aL => have := HLEN.out; simp only [List.length_nil]; omega); intro v8 w7 ho hb hg hat; obtain ⟨y0, hy0⟩ : ∃ y_ : List S23, y_ = [] ++ q5 := ⟨_, rfl⟩; rw [← hy0] at ho; have HY0 : Aside0 (y0 = q5) := ⟨hy0⟩; clear hy0; obtain ⟨g8, c8, ev8, gb8, gl8, -⟩ := Kd.R_form ho (by rw [HY0.out]; have := HLEN.out; omega); subst ev8; have HL8 := Aside0.mk ho; have GE8 : Aside0 (w.heap.size ≤ g8) := ⟨gb8⟩; have HB7 := Aside0.mk hb; have BK6b := Aside0.mk (blk_grown BK6.out hg (by simp [Value.ownBlock])); clear ho hb hg hat gb8 gl8 ta0 ta1 ta2 ta3 ta4 ta5; obtain ⟨ta0, ta1, ta2, ta3, ta4, ta5, fa0, fa1, fa2, fa3, fa4, fa5⟩ := Ke6_ BK6b.out; obtain ⟨x, xs, hx⟩ : ∃ x xs, y0 = x :: xs := (by cases y0 with | nil => (have h1 := HLEN.out; have h2 := HY0.out; rw [← h2] at h1; exact absurd h1.1 (by simp)) | cons x xs => exact ⟨x, xs, rfl⟩); have HX := Aside0.mk hx; clear hx; have hr0 : Kd.R k23 23 w7 w.heap.size (fun _ => True) (.slice (some ⟨g8, 0, none⟩) y0.length c8) (x :: xs) := (by rw [← HX.out]; exact HL8.out); have HL0 := Aside0.mk hr0; obtain ⟨hxc, hxf⟩ := Go.Proofs.Ytoogchgoiciggaa.Iw.R_at0 hr0; have hx0 := hxc 0 _ rfl; have hx1 := hxc 1 _ rfl; have hx2 := hxc 2 _ rfl; have hx3 := hxc 3 _ rfl; have hf0 := hxf 0; have hf1 := hxf 1; have hf2 := hxf 2; have hf3 := hxf 3; clear hr0 hxc hxf))
  clear ta0 ta1 ta2 ta3 ta4 ta5 fa0 fa1 fa2 fa3 fa4 fa5 hx0 hx1 hx2 hx3 hf0 hf1 hf2 hf3
  go_loopg [8, 9] 9 (fun kq v8 v9 wr => ∃ (i : Nat), v9 = .int .i64 i ∧ Aside0 (i ≤ 9) ∧ Aside0 (9 - i ≤ kq) ∧ Aside0 (Kd.R k23 23 wr w.heap.size (fun _ => True) v8 (q5 ++ (List.range i).map tenementlaw08_ItemWhole.nine)) ∧ Aside0 (wr.heap[g6]? = some (.cells #[.int .u64 q0, .int .u64 q1, .int .u64 q2, .int .u64 q3, .int .i64 q4, .slice Aq q5.length cq] 43 (0, 0))) ∧ Aside0 (Below w.heap.size w wr))
  case atStart => exact ⟨0, rfl, ⟨by omega⟩, ⟨by omega⟩, ⟨by rw [List.range_zero, List.map_nil, List.append_nil, ← HY0.out]; exact HL8.out⟩, BK6b, HB7⟩
  case round =>
   clear BK6b HB7 HL8 HL0
   obtain ⟨i, rfl, HI, HK, HV, BK, HB⟩ := hrel
   by_cases c1 : i < 9
   ·have hi := HI.out
    have c1b : decide ((i : Int) < 9) = true := decide_eq_true (by omega)
    have hcv := Go.Proofs.Ytoogchgoiciggaa.Iw.conv1 (wr.alloc (Obj.cells #[.int .u8 (97 + (i : Int))] 5)) wr.heap.size (97 + (i : Int)) (blk_new wr (Obj.cells #[.int .u8 (97 + (i : Int))] 5))
    have h97 : IntKind.u8.wrap (97 + (i : Int)) = 97 + (i : Int) := by rw [IntKind.wrap_u8]; omega
    go_wp2_with (first
     | ((with_reducible refine gate_builtin (b := .append) (xs := #[.tmp 33, .tmp 40]) rfl ?_); at_builtin; refine Kd.R_append k23 (w0 := w) (W := wr.alloc (Obj.cells #[.int .u8 (97 + (i : Int))] 5)) w.heap.size rfl (.tmp 33) (.tmp 40) 41 23 (.agg #[(.string ⟨#[]⟩), (.string ⟨#[]⟩), (.string ⟨#[]⟩), (.bool false)]) 56 rfl Try.underlying41 Go.Proofs.Ytoogchgoiciggaa.Iw.infoW rfl (by decide) (by omega) u8 (q5 ++ (List.range i).map tenementlaw08_ItemWhole.nine) (tenementlaw08_ItemWhole.nine i) (Go.Proofs.Ytoogchgoiciggaa.Iw.cl (tenementlaw08_ItemWhole.nine i)) (fun _ => True) (fun _ => False) rfl ?hx (k23_mkM _ _ _ _) (fun _ h => h.elim) (fun _ _ => trivial) ?aO ?aB ?aS ?aL ?_; (case hx => first | rfl | (rw [World.size_alloc]; rfl)); (case aO => exact Kd.R_below HV.out (below_alloc (Below.refl _ _) _)); (case aB => exact below_alloc HB.out _); (case aS => exact below_size (below_alloc HB.out _)); (case aL => have := HLEN.out; have := HI.out; rw [List.length_append, List.length_map, List.length_range]; omega); intro v8_ w8 ho hb hg hat; have HV2 := Aside0.mk ho; have HB2_ := Aside0.mk hb; have BK6w := Aside0.mk (blk_grown (blk_alloc BK.out (Obj.cells #[.int .u8 (97 + (i : Int))] 5)) hg (Kd.R_ne HV.out BK.out (by decide))); clear ho hb hg hat))
    go_roundg (9 - (i + 1))
    case measure => have := HK.out; omega
    case rel => exact ⟨i + 1, by first | rfl | (rw [show ((i + 1 : Nat) : Int) = (i : Int) + 1 by omega]; rfl) | (rw [show ((i + 1 : Nat) : Int) = (i : Int) + 1 by omega]; congr 1; exact Go.Proofs.Ytoogchgoiciggaa.Pure.wrap64_id (by omega) (by omega)), ⟨by omega⟩, ⟨by omega⟩, ⟨by rw [List.range_succ, List.map_append, ← List.append_assoc]; exact HV2.out⟩, BK6w, HB2_⟩
   ·have hi9 : i = 9 := by have := HI.out; omega
    subst hi9
    obtain ⟨ys, hys⟩ : ∃ y_ : List S23, y_ = q5 ++ (List.range 9).map tenementlaw08_ItemWhole.nine := ⟨_, rfl⟩
    rw [← hys] at HV
    obtain ⟨A1, c1, e1⟩ := Kd.R_slice HV.out
    subst e1
    obtain ⟨hby, hw2⟩ := HBAD.out q4 ys (.inl ⟨rfl, .inr (.inl hys)⟩)
    have HBY := Aside0.mk hby
    have HW2 := Aside0.mk hw2
    clear hby hw2
    clear hys
    obtain ⟨ta0, ta1, ta2, ta3, ta4, ta5, fa0, fa1, fa2, fa3, fa4, fa5⟩ := Ke6_ BK.out
    go_wp2_with (first
     | ((with_reducible refine gate_dst (N := 81) rfl ?_); refine Kg_ (some 81) rfl rfl Try.func15 (by kernel_rfl) rfl #[.agg #[.int .u64 q0, .int .u64 q1, .int .u64 q2, .int .u64 q3, .int .i64 q4, .slice A1 ys.length c1]] rfl ?_; (with_reducible refine (item_Bytes.calls k q0 q1 q2 q3 q4 A1 c1 ys ⟨#[]⟩ false _ ?s1 ?s2 HBY.out).mono ?_); (case s1 => exact (Kd.R_reads' (Kd.R_far (p := ⟨g6, 5, none⟩) (Kd.R_types HV.out BK.out (by decide)) (fun _ hk => hk.2) _)).2.2); (case s2 => exact (Kd.R_reads' HV.out).2.1); rintro e_ w8 ⟨rfl, hb⟩; refine ⟨_, rfl, ?_⟩; have BK6c : Aside0 ((wr.setCell ⟨g6, 5, none⟩ (.slice A1 ys.length c1)).heap[g6]? = some (.cells #[.int .u64 q0, .int .u64 q1, .int .u64 q2, .int .u64 q3, .int .i64 q4, .slice A1 ys.length c1] 43 (0, 0))) := ⟨by refine blk_put (cs := #[.int .u64 q0, .int .u64 q1, .int .u64 q2, .int .u64 q3, .int .i64 q4, .slice Aq q5.length cq]) ?_ 5 _ rfl; exact BK.out⟩; have BK6d := Aside0.mk (blk_below BK6c.out hb); have HC8 : Aside0 (Kd.C k23 w8 A1 (ys : List S23).length ys) := ⟨Kd.C_below ((Kd.R_reads' (Kd.R_far (p := ⟨g6, 5, none⟩) (Kd.R_types HV.out BK.out (by decide)) (fun _ hk => hk.2) _)).2.2) hb⟩; have HB8 := Aside0.mk (below_step (HB.out.setCell GE6.out _) hb); clear hb; (try clear ta0 ta1 ta2 ta3 ta4 ta5 fa0 fa1 fa2 fa3 fa4 fa5); obtain ⟨tb0, tb1, tb2, tb3, tb4, tb5, -, -, -, -, -, -⟩ := Ke6_ BK6d.out)
     | (go_at_call 22; (with_reducible refine (item_Whole.calls q0 q1 q2 q3 q4 A1 c1 ys false _ ?s1 ?s2 HW2.out).mono ?_); (case s1 => exact HC8.out); (case s2 => exact (Kd.R_reads' HV.out).2.1); rintro e_ w9 ⟨rfl, hb⟩; have HB9 := Aside0.mk (below_step HB8.out hb); clear hb))
    go_ret
    exact ⟨by first | rfl | simp, HB9.out⟩
 ·go_wp2_with (first
   | ((with_reducible refine gate_dst (N := 2) rfl ?_); refine Ka_ 2 #[.int .u64 a0_0, .int .u64 a0_1, .int .u64 a0_2, .int .u64 a0_3, .int .i64 a0_4, .bool a0_5, .slice A0_6 l0_6.length c0_6, .bool a0_7] 35 ?_; intro g2 hg w1 hbox hb; have GE2 : Aside0 (w.heap.size ≤ g2) := ⟨Nat.le_of_eq hg.symm⟩; have BK2 := Aside0.mk hbox; have HB1 := Aside0.mk hb; clear hb hbox hg)
   | ((with_reducible refine gate_dst (N := 12) rfl ?_); refine Kg_ (some 12) rfl rfl Try.func11 (by kernel_rfl) rfl #[] rfl ?_; (with_reducible refine (tenementlaw08_examples.calls k true _ HEX.out).mono ?_); rintro e_ w2 ⟨rfl, hb⟩; refine ⟨_, rfl, ?_⟩; replace BK2 := Aside0.mk (blk_below BK2.out hb); have HB2 := Aside0.mk (below_step HB1.out hb); clear hb; obtain ⟨hp0, hp1, hp2, hp3, hp4, hp5, hp6, hp7, fp0, fp1, fp2, fp3, fp4, fp5, fp6, fp7⟩ := Ke8_ BK2.out)
   | ((with_reducible refine gate_dst (N := 17) rfl ?_); refine Kg_ (some 17) rfl rfl Try.func14 (by kernel_rfl) rfl #[.agg #[.int .u64 a0_0, .int .u64 a0_1, .int .u64 a0_2, .int .u64 a0_3, .int .i64 a0_4, .bool a0_5, .slice A0_6 l0_6.length c0_6, .bool true]] rfl ?_; (with_reducible refine (tenementlaw08_Deal_deal.calls k a0_0 a0_1 a0_2 a0_3 a0_4 a0_5 _ _ l0_6 true q0 q1 q2 q3 q4 q5 _ ?s1 hc0_6 HDL.out).mono ?_); (case s1 => exact Kd.C_below HR0.out (HB2.out.setCell GE2.out _)); rintro e_ wd ⟨vq, rfl, hR, hb⟩; refine ⟨_, rfl, ?_⟩; obtain ⟨Aq, cq, eq_⟩ := Kd.R_slice hR; subst eq_; have HS1 : Aside0 (Below w.heap.size w (w2.setCell ⟨g2, 7, none⟩ (.bool true))) := ⟨HB2.out.setCell GE2.out _⟩; have HRd := Aside0.mk (Kd.R_lower hR (below_size HS1.out)); have HBd := Aside0.mk (below_step HS1.out hb); clear hb hR hp0 hp1 hp2 hp3 hp4 hp5 hp6 hp7 fp0 fp1 fp2 fp3 fp4 fp5 fp6 fp7)
   | ((with_reducible refine gate_dst (N := 19) rfl ?_); refine Kg_ (some 19) rfl rfl Try.func22 (by kernel_rfl) rfl #[.agg #[.int .u64 q0, .int .u64 q1, .int .u64 q2, .int .u64 q3, .int .i64 q4, .slice Aq q5.length cq]] rfl ?_; (with_reducible refine (item_Whole.calls q0 q1 q2 q3 q4 Aq cq q5 true _ ?s1 ?s2 HWH.out).mono ?_); (case s1 => exact (Kd.R_reads' (Kd.R_below HRd.out (below_alloc (Below.refl _ _) _))).2.2); (case s2 => exact (Kd.R_reads' HRd.out).2.1); rintro e_ w6 ⟨rfl, hb⟩; refine ⟨_, rfl, ?_⟩; have hb2 := below_step (below_alloc (Below.refl _ _) _) hb; have BK6 := Aside0.mk (blk_below (blk_new wd _) hb); have GE6 : Aside0 (w.heap.size ≤ wd.heap.size) := ⟨below_size HBd.out⟩; have HR6 := Aside0.mk (Kd.R_below HRd.out hb2); have HB6 := Aside0.mk (below_step HBd.out hb2); clear hb hb2 HRd; generalize wd.heap.size = g6 at BK6 GE6 ⊢; obtain ⟨ta0, ta1, ta2, ta3, ta4, ta5, -, -, -, -, -, -⟩ := Ke6_ BK6.out)
   | ((with_reducible refine gate_builtin (b := .append) (xs := #[.const (.slice none 0 0), .tmp 21]) rfl ?_); at_builtin; refine Kd.R_append_rows k23 (w0 := w) w.heap.size rfl (.const (.slice none 0 0)) (.tmp 21) 41 23 (.agg #[(.string ⟨#[]⟩), (.string ⟨#[]⟩), (.string ⟨#[]⟩), (.bool false)]) 56 rfl Try.underlying41 Go.Proofs.Ytoogchgoiciggaa.Iw.infoW rfl (by decide) (by omega) (.slice none 0 0) ([] : List S23) q5 Aq q5.length cq (fun _ => True) (fun _ => False) rfl rfl ?aO ?aR (fun _ _ h => h) (fun _ h => h.elim) ?aF ?aB ?aS ?aL ?_; (case aO => exact Kd.R_nil _ _ _ _ _); (case aR => obtain ⟨A_, c_, e_, -, hrow⟩ := OwnRow.reads HR6.out.2; injection e_ with e1_ e2_ e3_; subst e1_; exact ReadsRow.imp_ hrow (Below.refl _ _) (fun p q hp => by have := k23_openM hp; subst this; exact k23_mkM _ _ _ p)); (case aF => exact fun _ _ => trivial); (case aB => exact HB6.out); (case aS => exact below_size HB6.out); (case aL => have := HLEN.out; simp only [List.length_nil]; omega); intro v8 w7 ho hb hg hat; obtain ⟨y0, hy0⟩ : ∃ y_ : List S23, y_ = [] ++ q5 := ⟨_, rfl⟩; rw [← hy0] at ho; have HY0 : Aside0 (y0 = q5) := ⟨hy0⟩; clear hy0; obtain ⟨g8, c8, ev8, gb8, gl8, -⟩ := Kd.R_form ho (by rw [HY0.out]; have := HLEN.out; omega); subst ev8; have HL8 := Aside0.mk ho; have GE8 : Aside0 (w.heap.size ≤ g8) := ⟨gb8⟩; have HB7 := Aside0.mk hb; have BK6b := Aside0.mk (blk_grown BK6.out hg (by simp [Value.ownBlock])); clear ho hb hg hat gb8 gl8 ta0 ta1 ta2 ta3 ta4 ta5; obtain ⟨ta0, ta1, ta2, ta3, ta4, ta5, fa0, fa1, fa2, fa3, fa4, fa5⟩ := Ke6_ BK6b.out; obtain ⟨x, xs, hx⟩ : ∃ x xs, y0 = x :: xs := (by cases y0 with | nil => (have h1 := HLEN.out; have h2 := HY0.out; rw [← h2] at h1; exact absurd h1.1 (by simp)) | cons x xs => exact ⟨x, xs, rfl⟩); have HX := Aside0.mk hx; clear hx; have hr0 : Kd.R k23 23 w7 w.heap.size (fun _ => True) (.slice (some ⟨g8, 0, none⟩) y0.length c8) (x :: xs) := (by rw [← HX.out]; exact HL8.out); have HL0 := Aside0.mk hr0; obtain ⟨hxc, hxf⟩ := Go.Proofs.Ytoogchgoiciggaa.Iw.R_at0 hr0; have hx0 := hxc 0 _ rfl; have hx1 := hxc 1 _ rfl; have hx2 := hxc 2 _ rfl; have hx3 := hxc 3 _ rfl; have hf0 := hxf 0; have hf1 := hxf 1; have hf2 := hxf 2; have hf3 := hxf 3; clear hr0 hxc hxf; have hl0 : 0 < y0.length := (by rw [HX.out]; simp); have hl0b : decide ((0 : Int) < (y0.length : Int)) = true := decide_eq_true (by omega); have hcut := Go.Proofs.Ytoogchgoiciggaa.Iw.cut0 (some ⟨g8, 0, none⟩) y0.length c8))
  clear ta0 ta1 ta2 ta3 ta4 ta5 fa0 fa1 fa2 fa3 fa4 fa5
  have BK6x := Aside0.mk (blk_drew BK6b.out)
  have HBx := Aside0.mk (below_drew1 HB7.out)
  refine start_ (n := 17) (S := fun w' => w'.cell? ⟨g8, 0, none⟩ = some (.string x.f0) ∧ w'.cell? ⟨g8, 1, none⟩ = some (.string x.f1) ∧ w'.cell? ⟨g8, 2, none⟩ = some (.string x.f2) ∧ w'.cell? ⟨g8, 3, none⟩ = some (.bool x.f3)) (ds := []) (mB_ 17 0) (by kernel_rfl) rfl rfl ⟨hx0, hx1, hx2, hx3⟩ (fun hHeld => ?_)
  clear hx0 hx1 hx2 hx3 hf0 hf1 hf2 hf3
  generalize w7.drew = wx at BK6x HBx hHeld ⊢
  have hba := below_alloc (Below.refl wx.heap.size wx) (Obj.cells (Go.Proofs.Ytoogchgoiciggaa.Iw.cl x ++ Go.Proofs.Ytoogchgoiciggaa.Iw.cl (⟨x.f0, x.f1, ⟨#[]⟩, false⟩ : S23)).toArray 23)
  refine Kp_ 0 44 (mB_ 17 1) (by kernel_rfl) ?_
  refine Kp_ 1 45 (mB_ 17 3) (by kernel_rfl) ?_
  refine Kp_ 2 46 (mB_ 17 7) (by kernel_rfl) ?_
  refine Kp_ 3 47 (mB_ 17 15) (by kernel_rfl) ?_
  refine Kp_ 5 49 (mB_ 17 47) (by kernel_rfl) ?_
  refine Kp_ 6 50 (mB_ 17 111) (by kernel_rfl) ?_
  refine Kp_ 7 51 (mB_ 17 239) (by kernel_rfl) ?_
  refine Kp_ 9 53 (mB_ 17 751) (by kernel_rfl) ?_
  refine Kp_ 10 54 (mB_ 17 1775) (by kernel_rfl) ?_
  refine Kp_ 11 55 (mB_ 17 3823) (by kernel_rfl) ?_
  refine Ko_ 4 48 (mB_ 17 3839) (by kernel_rfl) hHeld ?_
  refine Ko_ 8 52 (mB_ 17 4095) (by kernel_rfl) hHeld ?_
  refine Ko_ 12 56 (mB_ 17 8191) (by kernel_rfl) hHeld ?_
  refine Kp_ 13 57 (mB_ 17 16383) (by kernel_rfl) ?_
  refine one_ (i := 14) (N := some 58) (mB_ 17 32767) rfl rfl (by kernel_rfl) (by decide) (fun K hK => ?_)
  refine value_ (w1 := ?_) (v := ?_) (by rfl) rfl ?_ ?_
  rotate_left 2
  ·go_simp
   constructor
   ·rfl
   ·rfl
  refine hK.out _ _ ⟨(hba.cell (World.block_lt_of_cell? _ _ hHeld.1)).trans hHeld.1, (hba.cell (World.block_lt_of_cell? _ _ hHeld.2.1)).trans hHeld.2.1, (hba.cell (World.block_lt_of_cell? _ _ hHeld.2.2.1)).trans hHeld.2.2.1, (hba.cell (World.block_lt_of_cell? _ _ hHeld.2.2.2)).trans hHeld.2.2.2⟩ (fun hHeld2 => ?_)
  clear hK K
  refine Kn_ 58 ?_
  refine one_ (i := 15) (N := some 59) (mB_ 17 65535) rfl rfl (by kernel_rfl) (by decide) (fun K hK => ?_)
  refine Go.Proofs.Ytoogchgoiciggaa.Iw.two_step (W := wx) (by rfl) (.tmp 45) (.tmp 58) rfl ⟨g8, 0, none⟩ x (⟨x.f0, x.f1, ⟨#[]⟩, false⟩ : S23) rfl rfl ?_
  intro A1 c1 wz hC hL hb
  have HCz := Aside0.mk hC
  have HLz := Aside0.mk hL
  have BK6z := Aside0.mk (blk_below BK6x.out hb)
  have HBz := Aside0.mk (below_step HBx.out hb)
  have HLT : Aside0 (g6 < wx.heap.size) := ⟨blk_lt BK6x.out⟩
  refine hK.out _ _ ⟨(hb.cell (World.block_lt_of_cell? _ _ hHeld.1)).trans hHeld.1, (hb.cell (World.block_lt_of_cell? _ _ hHeld.2.1)).trans hHeld.2.1, (hb.cell (World.block_lt_of_cell? _ _ hHeld.2.2.1)).trans hHeld.2.2.1, (hb.cell (World.block_lt_of_cell? _ _ hHeld.2.2.2)).trans hHeld.2.2.2⟩ (fun hHeld3 => ?_)
  clear hK K hC hL hb
  refine Kn_ 59 ?_
  refine Kp_ 16 8 (mB_ 17 131071) (by kernel_rfl) ?_
  refine done_ (by kernel_rfl) ?_
  clear hHeld hHeld2 hHeld3 hba
  obtain ⟨ta0, ta1, ta2, ta3, ta4, ta5, fa0, fa1, fa2, fa3, fa4, fa5⟩ := Ke6_ BK6z.out
  obtain ⟨hby, hw2⟩ := HBAD.out q4 [x, (⟨x.f0, x.f1, ⟨#[]⟩, false⟩ : S23)] (.inl ⟨rfl, .inr (.inr ⟨x, xs, HY0.out.symm.trans HX.out, .inl rfl⟩)⟩)
  have HBY := Aside0.mk hby
  have HW2 := Aside0.mk hw2
  clear hby hw2
  go_wp2_with (first
   | ((with_reducible refine gate_dst (N := 81) rfl ?_); refine Kg_ (some 81) rfl rfl Try.func15 (by kernel_rfl) rfl #[.agg #[.int .u64 q0, .int .u64 q1, .int .u64 q2, .int .u64 q3, .int .i64 q4, .slice A1 2 c1]] rfl ?_; (refine (item_Bytes.calls k q0 q1 q2 q3 q4 A1 c1 [x, (⟨x.f0, x.f1, ⟨#[]⟩, false⟩ : S23)] ⟨#[]⟩ false _ ?s1 ?s2 HBY.out).mono ?_); (case s1 => exact HCz.out ⟨g6, 5, none⟩ _ HLT.out); (case s2 => exact HLz.out); rintro e_ w8 ⟨rfl, hb⟩; refine ⟨_, rfl, ?_⟩; have BK6c : Aside0 ((wz.setCell ⟨g6, 5, none⟩ (.slice A1 2 c1)).heap[g6]? = some (.cells #[.int .u64 q0, .int .u64 q1, .int .u64 q2, .int .u64 q3, .int .i64 q4, .slice A1 2 c1] 43 (0, 0))) := ⟨by refine blk_put (cs := #[.int .u64 q0, .int .u64 q1, .int .u64 q2, .int .u64 q3, .int .i64 q4, .slice Aq q5.length cq]) ?_ 5 _ rfl; exact BK6z.out⟩; have BK6d := Aside0.mk (blk_below BK6c.out hb); have HC8 : Aside0 (Kd.C k23 w8 A1 ([x, (⟨x.f0, x.f1, ⟨#[]⟩, false⟩ : S23)] : List S23).length [x, (⟨x.f0, x.f1, ⟨#[]⟩, false⟩ : S23)]) := ⟨Kd.C_below (HCz.out ⟨g6, 5, none⟩ _ HLT.out) hb⟩; have HB8 := Aside0.mk (below_step (HBz.out.setCell GE6.out _) hb); clear hb; (try clear ta0 ta1 ta2 ta3 ta4 ta5 fa0 fa1 fa2 fa3 fa4 fa5); obtain ⟨tb0, tb1, tb2, tb3, tb4, tb5, -, -, -, -, -, -⟩ := Ke6_ BK6d.out)
   | (go_at_call 22; (refine (item_Whole.calls q0 q1 q2 q3 q4 A1 c1 [x, (⟨x.f0, x.f1, ⟨#[]⟩, false⟩ : S23)] false _ ?s1 ?s2 HW2.out).mono ?_); (case s1 => exact HC8.out); (case s2 => exact HLz.out); rintro e_ w9 ⟨rfl, hb⟩; have HB9 := Aside0.mk (below_step HB8.out hb); clear hb))
  go_ret
  exact ⟨by first | rfl | simp, HB9.out⟩
 ·go_wp2_with (first
   | ((with_reducible refine gate_dst (N := 2) rfl ?_); refine Ka_ 2 #[.int .u64 a0_0, .int .u64 a0_1, .int .u64 a0_2, .int .u64 a0_3, .int .i64 a0_4, .bool a0_5, .slice A0_6 l0_6.length c0_6, .bool a0_7] 35 ?_; intro g2 hg w1 hbox hb; have GE2 : Aside0 (w.heap.size ≤ g2) := ⟨Nat.le_of_eq hg.symm⟩; have BK2 := Aside0.mk hbox; have HB1 := Aside0.mk hb; clear hb hbox hg)
   | ((with_reducible refine gate_dst (N := 12) rfl ?_); refine Kg_ (some 12) rfl rfl Try.func11 (by kernel_rfl) rfl #[] rfl ?_; (with_reducible refine (tenementlaw08_examples.calls k true _ HEX.out).mono ?_); rintro e_ w2 ⟨rfl, hb⟩; refine ⟨_, rfl, ?_⟩; replace BK2 := Aside0.mk (blk_below BK2.out hb); have HB2 := Aside0.mk (below_step HB1.out hb); clear hb; obtain ⟨hp0, hp1, hp2, hp3, hp4, hp5, hp6, hp7, fp0, fp1, fp2, fp3, fp4, fp5, fp6, fp7⟩ := Ke8_ BK2.out)
   | ((with_reducible refine gate_dst (N := 17) rfl ?_); refine Kg_ (some 17) rfl rfl Try.func14 (by kernel_rfl) rfl #[.agg #[.int .u64 a0_0, .int .u64 a0_1, .int .u64 a0_2, .int .u64 a0_3, .int .i64 a0_4, .bool a0_5, .slice A0_6 l0_6.length c0_6, .bool true]] rfl ?_; (with_reducible refine (tenementlaw08_Deal_deal.calls k a0_0 a0_1 a0_2 a0_3 a0_4 a0_5 _ _ l0_6 true q0 q1 q2 q3 q4 q5 _ ?s1 hc0_6 HDL.out).mono ?_); (case s1 => exact Kd.C_below HR0.out (HB2.out.setCell GE2.out _)); rintro e_ wd ⟨vq, rfl, hR, hb⟩; refine ⟨_, rfl, ?_⟩; obtain ⟨Aq, cq, eq_⟩ := Kd.R_slice hR; subst eq_; have HS1 : Aside0 (Below w.heap.size w (w2.setCell ⟨g2, 7, none⟩ (.bool true))) := ⟨HB2.out.setCell GE2.out _⟩; have HRd := Aside0.mk (Kd.R_lower hR (below_size HS1.out)); have HBd := Aside0.mk (below_step HS1.out hb); clear hb hR hp0 hp1 hp2 hp3 hp4 hp5 hp6 hp7 fp0 fp1 fp2 fp3 fp4 fp5 fp6 fp7)
   | ((with_reducible refine gate_dst (N := 19) rfl ?_); refine Kg_ (some 19) rfl rfl Try.func22 (by kernel_rfl) rfl #[.agg #[.int .u64 q0, .int .u64 q1, .int .u64 q2, .int .u64 q3, .int .i64 q4, .slice Aq q5.length cq]] rfl ?_; (with_reducible refine (item_Whole.calls q0 q1 q2 q3 q4 Aq cq q5 true _ ?s1 ?s2 HWH.out).mono ?_); (case s1 => exact (Kd.R_reads' (Kd.R_below HRd.out (below_alloc (Below.refl _ _) _))).2.2); (case s2 => exact (Kd.R_reads' HRd.out).2.1); rintro e_ w6 ⟨rfl, hb⟩; refine ⟨_, rfl, ?_⟩; have hb2 := below_step (below_alloc (Below.refl _ _) _) hb; have BK6 := Aside0.mk (blk_below (blk_new wd _) hb); have GE6 : Aside0 (w.heap.size ≤ wd.heap.size) := ⟨below_size HBd.out⟩; have HR6 := Aside0.mk (Kd.R_below HRd.out hb2); have HB6 := Aside0.mk (below_step HBd.out hb2); clear hb hb2 HRd; generalize wd.heap.size = g6 at BK6 GE6 ⊢; obtain ⟨ta0, ta1, ta2, ta3, ta4, ta5, -, -, -, -, -, -⟩ := Ke6_ BK6.out)
   | ((with_reducible refine gate_builtin (b := .append) (xs := #[.const (.slice none 0 0), .tmp 21]) rfl ?_); at_builtin; refine Kd.R_append_rows k23 (w0 := w) w.heap.size rfl (.const (.slice none 0 0)) (.tmp 21) 41 23 (.agg #[(.string ⟨#[]⟩), (.string ⟨#[]⟩), (.string ⟨#[]⟩), (.bool false)]) 56 rfl Try.underlying41 Go.Proofs.Ytoogchgoiciggaa.Iw.infoW rfl (by decide) (by omega) (.slice none 0 0) ([] : List S23) q5 Aq q5.length cq (fun _ => True) (fun _ => False) rfl rfl ?aO ?aR (fun _ _ h => h) (fun _ h => h.elim) ?aF ?aB ?aS ?aL ?_; (case aO => exact Kd.R_nil _ _ _ _ _); (case aR => obtain ⟨A_, c_, e_, -, hrow⟩ := OwnRow.reads HR6.out.2; injection e_ with e1_ e2_ e3_; subst e1_; exact ReadsRow.imp_ hrow (Below.refl _ _) (fun p q hp => by have := k23_openM hp; subst this; exact k23_mkM _ _ _ p)); (case aF => exact fun _ _ => trivial); (case aB => exact HB6.out); (case aS => exact below_size HB6.out); (case aL => have := HLEN.out; simp only [List.length_nil]; omega); intro v8 w7 ho hb hg hat; obtain ⟨y0, hy0⟩ : ∃ y_ : List S23, y_ = [] ++ q5 := ⟨_, rfl⟩; rw [← hy0] at ho; have HY0 : Aside0 (y0 = q5) := ⟨hy0⟩; clear hy0; obtain ⟨g8, c8, ev8, gb8, gl8, -⟩ := Kd.R_form ho (by rw [HY0.out]; have := HLEN.out; omega); subst ev8; have HL8 := Aside0.mk ho; have GE8 : Aside0 (w.heap.size ≤ g8) := ⟨gb8⟩; have HB7 := Aside0.mk hb; have BK6b := Aside0.mk (blk_grown BK6.out hg (by simp [Value.ownBlock])); clear ho hb hg hat gb8 gl8 ta0 ta1 ta2 ta3 ta4 ta5; obtain ⟨ta0, ta1, ta2, ta3, ta4, ta5, fa0, fa1, fa2, fa3, fa4, fa5⟩ := Ke6_ BK6b.out; obtain ⟨x, xs, hx⟩ : ∃ x xs, y0 = x :: xs := (by cases y0 with | nil => (have h1 := HLEN.out; have h2 := HY0.out; rw [← h2] at h1; exact absurd h1.1 (by simp)) | cons x xs => exact ⟨x, xs, rfl⟩); have HX := Aside0.mk hx; clear hx; have hr0 : Kd.R k23 23 w7 w.heap.size (fun _ => True) (.slice (some ⟨g8, 0, none⟩) y0.length c8) (x :: xs) := (by rw [← HX.out]; exact HL8.out); have HL0 := Aside0.mk hr0; obtain ⟨hxc, hxf⟩ := Go.Proofs.Ytoogchgoiciggaa.Iw.R_at0 hr0; have hx0 := hxc 0 _ rfl; have hx1 := hxc 1 _ rfl; have hx2 := hxc 2 _ rfl; have hx3 := hxc 3 _ rfl; have hf0 := hxf 0; have hf1 := hxf 1; have hf2 := hxf 2; have hf3 := hxf 3; clear hr0 hxc hxf; obtain ⟨ys, hys⟩ : ∃ y_ : List S23, y_ = (⟨x.f0, ⟨#[]⟩, x.f2, x.f3⟩ : S23) :: xs := ⟨_, rfl⟩; have HYS := Aside0.mk hys; have HYL : Aside0 (y0.length = ys.length) := ⟨by rw [HX.out, hys]; rfl⟩; obtain ⟨hby, hw2⟩ := HBAD.out q4 ys (.inl ⟨rfl, .inr (.inr ⟨x, xs, HY0.out.symm.trans HX.out, .inr (.inl hys)⟩)⟩); have HBY := Aside0.mk hby; have HW2 := Aside0.mk hw2; have hne1 : ¬ g6 = g8 := (fun e__ => Kd.R_ne HL8.out BK6b.out (by decide) (by rw [e__]; rfl)); have hne2 : ¬ g8 = g6 := fun e__ => hne1 e__.symm; have hl0 : 0 < y0.length := (by rw [HX.out]; simp); have hl0b : decide ((0 : Int) < (y0.length : Int)) = true := decide_eq_true (by omega); have HRS : Aside0 (Kd.R k23 23 (w7.setCell ⟨g8, 1, none⟩ (.string (⟨#[]⟩ : ByteArray))) w.heap.size (fun _ => True) (.slice (some ⟨g8, 0, none⟩) y0.length c8) ys) := ⟨by rw [hys]; exact (Go.Proofs.Ytoogchgoiciggaa.Iw.R_set0 HL0.out (⟨x.f0, ⟨#[]⟩, x.f2, x.f3⟩ : S23) 1 (.string (⟨#[]⟩ : ByteArray)) (by decide) rfl)⟩; clear hys hby hw2)
   | ((with_reducible refine gate_dst (N := 81) rfl ?_); rw [HYL.out]; refine Kg_ (some 81) rfl rfl Try.func15 (by kernel_rfl) rfl #[.agg #[.int .u64 q0, .int .u64 q1, .int .u64 q2, .int .u64 q3, .int .i64 q4, .slice (some ⟨g8, 0, none⟩) ys.length c8]] rfl ?_; (with_reducible refine (item_Bytes.calls k q0 q1 q2 q3 q4 (some ⟨g8, 0, none⟩) c8 ys ⟨#[]⟩ false _ ?s1 ?s2 HBY.out).mono ?_); (case s1 => exact (by have h__ := HRS.out; rw [HYL.out] at h__; exact (Kd.R_reads' (Kd.R_far (p := ⟨g6, 5, none⟩) (Kd.R_types h__ (blk_far BK6b.out (fun e__ => Kd.R_ne HL8.out BK6b.out (by decide) (by rw [e__]; rfl)) _) (by decide)) (fun _ hk => hk.2) _)).2.2)); (case s2 => exact (by have h__ := (Kd.R_reads' HL8.out).2.1; rw [HYL.out] at h__; exact h__)); rintro e_ w8 ⟨rfl, hb⟩; refine ⟨_, rfl, ?_⟩; have BK6c : Aside0 (((w7.setCell ⟨g8, 1, none⟩ (.string (⟨#[]⟩ : ByteArray))).setCell ⟨g6, 5, none⟩ (.slice (some ⟨g8, 0, none⟩) ys.length c8)).heap[g6]? = some (.cells #[.int .u64 q0, .int .u64 q1, .int .u64 q2, .int .u64 q3, .int .i64 q4, .slice (some ⟨g8, 0, none⟩) ys.length c8] 43 (0, 0))) := ⟨by refine blk_put (cs := #[.int .u64 q0, .int .u64 q1, .int .u64 q2, .int .u64 q3, .int .i64 q4, .slice Aq q5.length cq]) ?_ 5 _ rfl; exact (blk_far BK6b.out (fun e__ => Kd.R_ne HL8.out BK6b.out (by decide) (by rw [e__]; rfl)) _)⟩; have BK6d := Aside0.mk (blk_below BK6c.out hb); have HC8 : Aside0 (Kd.C k23 w8 (some ⟨g8, 0, none⟩) (ys : List S23).length ys) := ⟨Kd.C_below ((by have h__ := HRS.out; rw [HYL.out] at h__; exact (Kd.R_reads' (Kd.R_far (p := ⟨g6, 5, none⟩) (Kd.R_types h__ (blk_far BK6b.out (fun e__ => Kd.R_ne HL8.out BK6b.out (by decide) (by rw [e__]; rfl)) _) (by decide)) (fun _ hk => hk.2) _)).2.2)) hb⟩; have HB8 := Aside0.mk (below_step (((HB7.out).setCell GE8.out _).setCell GE6.out _) hb); clear hb; (try clear ta0 ta1 ta2 ta3 ta4 ta5 fa0 fa1 fa2 fa3 fa4 fa5); obtain ⟨tb0, tb1, tb2, tb3, tb4, tb5, -, -, -, -, -, -⟩ := Ke6_ BK6d.out)
   | (go_at_call 22; (with_reducible refine (item_Whole.calls q0 q1 q2 q3 q4 (some ⟨g8, 0, none⟩) c8 ys false _ ?s1 ?s2 HW2.out).mono ?_); (case s1 => exact HC8.out); (case s2 => exact (by have h__ := (Kd.R_reads' HL8.out).2.1; rw [HYL.out] at h__; exact h__)); rintro e_ w9 ⟨rfl, hb⟩; have HB9 := Aside0.mk (below_step HB8.out hb); clear hb))
  go_ret
  exact ⟨by first | rfl | simp, HB9.out⟩
 ·go_wp2_with (first
   | ((with_reducible refine gate_dst (N := 2) rfl ?_); refine Ka_ 2 #[.int .u64 a0_0, .int .u64 a0_1, .int .u64 a0_2, .int .u64 a0_3, .int .i64 a0_4, .bool a0_5, .slice A0_6 l0_6.length c0_6, .bool a0_7] 35 ?_; intro g2 hg w1 hbox hb; have GE2 : Aside0 (w.heap.size ≤ g2) := ⟨Nat.le_of_eq hg.symm⟩; have BK2 := Aside0.mk hbox; have HB1 := Aside0.mk hb; clear hb hbox hg)
   | ((with_reducible refine gate_dst (N := 12) rfl ?_); refine Kg_ (some 12) rfl rfl Try.func11 (by kernel_rfl) rfl #[] rfl ?_; (with_reducible refine (tenementlaw08_examples.calls k true _ HEX.out).mono ?_); rintro e_ w2 ⟨rfl, hb⟩; refine ⟨_, rfl, ?_⟩; replace BK2 := Aside0.mk (blk_below BK2.out hb); have HB2 := Aside0.mk (below_step HB1.out hb); clear hb; obtain ⟨hp0, hp1, hp2, hp3, hp4, hp5, hp6, hp7, fp0, fp1, fp2, fp3, fp4, fp5, fp6, fp7⟩ := Ke8_ BK2.out)
   | ((with_reducible refine gate_dst (N := 17) rfl ?_); refine Kg_ (some 17) rfl rfl Try.func14 (by kernel_rfl) rfl #[.agg #[.int .u64 a0_0, .int .u64 a0_1, .int .u64 a0_2, .int .u64 a0_3, .int .i64 a0_4, .bool a0_5, .slice A0_6 l0_6.length c0_6, .bool true]] rfl ?_; (with_reducible refine (tenementlaw08_Deal_deal.calls k a0_0 a0_1 a0_2 a0_3 a0_4 a0_5 _ _ l0_6 true q0 q1 q2 q3 q4 q5 _ ?s1 hc0_6 HDL.out).mono ?_); (case s1 => exact Kd.C_below HR0.out (HB2.out.setCell GE2.out _)); rintro e_ wd ⟨vq, rfl, hR, hb⟩; refine ⟨_, rfl, ?_⟩; obtain ⟨Aq, cq, eq_⟩ := Kd.R_slice hR; subst eq_; have HS1 : Aside0 (Below w.heap.size w (w2.setCell ⟨g2, 7, none⟩ (.bool true))) := ⟨HB2.out.setCell GE2.out _⟩; have HRd := Aside0.mk (Kd.R_lower hR (below_size HS1.out)); have HBd := Aside0.mk (below_step HS1.out hb); clear hb hR hp0 hp1 hp2 hp3 hp4 hp5 hp6 hp7 fp0 fp1 fp2 fp3 fp4 fp5 fp6 fp7)
   | ((with_reducible refine gate_dst (N := 19) rfl ?_); refine Kg_ (some 19) rfl rfl Try.func22 (by kernel_rfl) rfl #[.agg #[.int .u64 q0, .int .u64 q1, .int .u64 q2, .int .u64 q3, .int .i64 q4, .slice Aq q5.length cq]] rfl ?_; (with_reducible refine (item_Whole.calls q0 q1 q2 q3 q4 Aq cq q5 true _ ?s1 ?s2 HWH.out).mono ?_); (case s1 => exact (Kd.R_reads' (Kd.R_below HRd.out (below_alloc (Below.refl _ _) _))).2.2); (case s2 => exact (Kd.R_reads' HRd.out).2.1); rintro e_ w6 ⟨rfl, hb⟩; refine ⟨_, rfl, ?_⟩; have hb2 := below_step (below_alloc (Below.refl _ _) _) hb; have BK6 := Aside0.mk (blk_below (blk_new wd _) hb); have GE6 : Aside0 (w.heap.size ≤ wd.heap.size) := ⟨below_size HBd.out⟩; have HR6 := Aside0.mk (Kd.R_below HRd.out hb2); have HB6 := Aside0.mk (below_step HBd.out hb2); clear hb hb2 HRd; generalize wd.heap.size = g6 at BK6 GE6 ⊢; obtain ⟨ta0, ta1, ta2, ta3, ta4, ta5, -, -, -, -, -, -⟩ := Ke6_ BK6.out)
   | ((with_reducible refine gate_builtin (b := .append) (xs := #[.const (.slice none 0 0), .tmp 21]) rfl ?_); at_builtin; refine Kd.R_append_rows k23 (w0 := w) w.heap.size rfl (.const (.slice none 0 0)) (.tmp 21) 41 23 (.agg #[(.string ⟨#[]⟩), (.string ⟨#[]⟩), (.string ⟨#[]⟩), (.bool false)]) 56 rfl Try.underlying41 Go.Proofs.Ytoogchgoiciggaa.Iw.infoW rfl (by decide) (by omega) (.slice none 0 0) ([] : List S23) q5 Aq q5.length cq (fun _ => True) (fun _ => False) rfl rfl ?aO ?aR (fun _ _ h => h) (fun _ h => h.elim) ?aF ?aB ?aS ?aL ?_; (case aO => exact Kd.R_nil _ _ _ _ _); (case aR => obtain ⟨A_, c_, e_, -, hrow⟩ := OwnRow.reads HR6.out.2; injection e_ with e1_ e2_ e3_; subst e1_; exact ReadsRow.imp_ hrow (Below.refl _ _) (fun p q hp => by have := k23_openM hp; subst this; exact k23_mkM _ _ _ p)); (case aF => exact fun _ _ => trivial); (case aB => exact HB6.out); (case aS => exact below_size HB6.out); (case aL => have := HLEN.out; simp only [List.length_nil]; omega); intro v8 w7 ho hb hg hat; obtain ⟨y0, hy0⟩ : ∃ y_ : List S23, y_ = [] ++ q5 := ⟨_, rfl⟩; rw [← hy0] at ho; have HY0 : Aside0 (y0 = q5) := ⟨hy0⟩; clear hy0; obtain ⟨g8, c8, ev8, gb8, gl8, -⟩ := Kd.R_form ho (by rw [HY0.out]; have := HLEN.out; omega); subst ev8; have HL8 := Aside0.mk ho; have GE8 : Aside0 (w.heap.size ≤ g8) := ⟨gb8⟩; have HB7 := Aside0.mk hb; have BK6b := Aside0.mk (blk_grown BK6.out hg (by simp [Value.ownBlock])); clear ho hb hg hat gb8 gl8 ta0 ta1 ta2 ta3 ta4 ta5; obtain ⟨ta0, ta1, ta2, ta3, ta4, ta5, fa0, fa1, fa2, fa3, fa4, fa5⟩ := Ke6_ BK6b.out; obtain ⟨x, xs, hx⟩ : ∃ x xs, y0 = x :: xs := (by cases y0 with | nil => (have h1 := HLEN.out; have h2 := HY0.out; rw [← h2] at h1; exact absurd h1.1 (by simp)) | cons x xs => exact ⟨x, xs, rfl⟩); have HX := Aside0.mk hx; clear hx; have hr0 : Kd.R k23 23 w7 w.heap.size (fun _ => True) (.slice (some ⟨g8, 0, none⟩) y0.length c8) (x :: xs) := (by rw [← HX.out]; exact HL8.out); have HL0 := Aside0.mk hr0; obtain ⟨hxc, hxf⟩ := Go.Proofs.Ytoogchgoiciggaa.Iw.R_at0 hr0; have hx0 := hxc 0 _ rfl; have hx1 := hxc 1 _ rfl; have hx2 := hxc 2 _ rfl; have hx3 := hxc 3 _ rfl; have hf0 := hxf 0; have hf1 := hxf 1; have hf2 := hxf 2; have hf3 := hxf 3; clear hr0 hxc hxf; obtain ⟨ys, hys⟩ : ∃ y_ : List S23, y_ = (⟨x.f0, x.f1, ⟨#[118]⟩, true⟩ : S23) :: xs := ⟨_, rfl⟩; have HYS := Aside0.mk hys; have HYL : Aside0 (y0.length = ys.length) := ⟨by rw [HX.out, hys]; rfl⟩; obtain ⟨hby, hw2⟩ := HBAD.out q4 ys (.inl ⟨rfl, .inr (.inr ⟨x, xs, HY0.out.symm.trans HX.out, .inr (.inr hys)⟩)⟩); have HBY := Aside0.mk hby; have HW2 := Aside0.mk hw2; have hne1 : ¬ g6 = g8 := (fun e__ => Kd.R_ne HL8.out BK6b.out (by decide) (by rw [e__]; rfl)); have hne2 : ¬ g8 = g6 := fun e__ => hne1 e__.symm; have hl0 : 0 < y0.length := (by rw [HX.out]; simp); have hl0b : decide ((0 : Int) < (y0.length : Int)) = true := decide_eq_true (by omega); have HRS : Aside0 (Kd.R k23 23 ((w7.setCell ⟨g8, 2, none⟩ (.string (⟨#[118]⟩ : ByteArray))).setCell ⟨g8, 3, none⟩ (.bool true)) w.heap.size (fun _ => True) (.slice (some ⟨g8, 0, none⟩) y0.length c8) ys) := ⟨by rw [hys]; exact (Go.Proofs.Ytoogchgoiciggaa.Iw.R_set0 (Go.Proofs.Ytoogchgoiciggaa.Iw.R_set0 HL0.out (⟨x.f0, x.f1, ⟨#[118]⟩, x.f3⟩ : S23) 2 (.string (⟨#[118]⟩ : ByteArray)) (by decide) rfl) (⟨x.f0, x.f1, ⟨#[118]⟩, true⟩ : S23) 3 (.bool true) (by decide) rfl)⟩; clear hys hby hw2)
   | ((with_reducible refine gate_dst (N := 81) rfl ?_); rw [HYL.out]; refine Kg_ (some 81) rfl rfl Try.func15 (by kernel_rfl) rfl #[.agg #[.int .u64 q0, .int .u64 q1, .int .u64 q2, .int .u64 q3, .int .i64 q4, .slice (some ⟨g8, 0, none⟩) ys.length c8]] rfl ?_; (with_reducible refine (item_Bytes.calls k q0 q1 q2 q3 q4 (some ⟨g8, 0, none⟩) c8 ys ⟨#[]⟩ false _ ?s1 ?s2 HBY.out).mono ?_); (case s1 => exact (by have h__ := HRS.out; rw [HYL.out] at h__; exact (Kd.R_reads' (Kd.R_far (p := ⟨g6, 5, none⟩) (Kd.R_types h__ (blk_far (blk_far BK6b.out (fun e__ => Kd.R_ne HL8.out BK6b.out (by decide) (by rw [e__]; rfl)) _) (fun e__ => Kd.R_ne HL8.out BK6b.out (by decide) (by rw [e__]; rfl)) _) (by decide)) (fun _ hk => hk.2) _)).2.2)); (case s2 => exact (by have h__ := (Kd.R_reads' HL8.out).2.1; rw [HYL.out] at h__; exact h__)); rintro e_ w8 ⟨rfl, hb⟩; refine ⟨_, rfl, ?_⟩; have BK6c : Aside0 ((((w7.setCell ⟨g8, 2, none⟩ (.string (⟨#[118]⟩ : ByteArray))).setCell ⟨g8, 3, none⟩ (.bool true)).setCell ⟨g6, 5, none⟩ (.slice (some ⟨g8, 0, none⟩) ys.length c8)).heap[g6]? = some (.cells #[.int .u64 q0, .int .u64 q1, .int .u64 q2, .int .u64 q3, .int .i64 q4, .slice (some ⟨g8, 0, none⟩) ys.length c8] 43 (0, 0))) := ⟨by refine blk_put (cs := #[.int .u64 q0, .int .u64 q1, .int .u64 q2, .int .u64 q3, .int .i64 q4, .slice Aq q5.length cq]) ?_ 5 _ rfl; exact (blk_far (blk_far BK6b.out (fun e__ => Kd.R_ne HL8.out BK6b.out (by decide) (by rw [e__]; rfl)) _) (fun e__ => Kd.R_ne HL8.out BK6b.out (by decide) (by rw [e__]; rfl)) _)⟩; have BK6d := Aside0.mk (blk_below BK6c.out hb); have HC8 : Aside0 (Kd.C k23 w8 (some ⟨g8, 0, none⟩) (ys : List S23).length ys) := ⟨Kd.C_below ((by have h__ := HRS.out; rw [HYL.out] at h__; exact (Kd.R_reads' (Kd.R_far (p := ⟨g6, 5, none⟩) (Kd.R_types h__ (blk_far (blk_far BK6b.out (fun e__ => Kd.R_ne HL8.out BK6b.out (by decide) (by rw [e__]; rfl)) _) (fun e__ => Kd.R_ne HL8.out BK6b.out (by decide) (by rw [e__]; rfl)) _) (by decide)) (fun _ hk => hk.2) _)).2.2)) hb⟩; have HB8 := Aside0.mk (below_step ((((HB7.out).setCell GE8.out _).setCell GE8.out _).setCell GE6.out _) hb); clear hb; (try clear ta0 ta1 ta2 ta3 ta4 ta5 fa0 fa1 fa2 fa3 fa4 fa5); obtain ⟨tb0, tb1, tb2, tb3, tb4, tb5, -, -, -, -, -, -⟩ := Ke6_ BK6d.out)
   | (go_at_call 22; (with_reducible refine (item_Whole.calls q0 q1 q2 q3 q4 (some ⟨g8, 0, none⟩) c8 ys false _ ?s1 ?s2 HW2.out).mono ?_); (case s1 => exact HC8.out); (case s2 => exact (by have h__ := (Kd.R_reads' HL8.out).2.1; rw [HYL.out] at h__; exact h__)); rintro e_ w9 ⟨rfl, hb⟩; have HB9 := Aside0.mk (below_step HB8.out hb); clear hb))
  go_ret
  exact ⟨by first | rfl | simp, HB9.out⟩
 ·obtain ⟨hby, hw2⟩ := HBAD.out 0 q5 (.inr ⟨rfl, rfl⟩)
  have HBY := Aside0.mk hby
  have HW2 := Aside0.mk hw2
  clear hby hw2
  go_wp2_with (first
   | ((with_reducible refine gate_dst (N := 2) rfl ?_); refine Ka_ 2 #[.int .u64 a0_0, .int .u64 a0_1, .int .u64 a0_2, .int .u64 a0_3, .int .i64 a0_4, .bool a0_5, .slice A0_6 l0_6.length c0_6, .bool a0_7] 35 ?_; intro g2 hg w1 hbox hb; have GE2 : Aside0 (w.heap.size ≤ g2) := ⟨Nat.le_of_eq hg.symm⟩; have BK2 := Aside0.mk hbox; have HB1 := Aside0.mk hb; clear hb hbox hg)
   | ((with_reducible refine gate_dst (N := 12) rfl ?_); refine Kg_ (some 12) rfl rfl Try.func11 (by kernel_rfl) rfl #[] rfl ?_; (with_reducible refine (tenementlaw08_examples.calls k true _ HEX.out).mono ?_); rintro e_ w2 ⟨rfl, hb⟩; refine ⟨_, rfl, ?_⟩; replace BK2 := Aside0.mk (blk_below BK2.out hb); have HB2 := Aside0.mk (below_step HB1.out hb); clear hb; obtain ⟨hp0, hp1, hp2, hp3, hp4, hp5, hp6, hp7, fp0, fp1, fp2, fp3, fp4, fp5, fp6, fp7⟩ := Ke8_ BK2.out)
   | ((with_reducible refine gate_dst (N := 17) rfl ?_); refine Kg_ (some 17) rfl rfl Try.func14 (by kernel_rfl) rfl #[.agg #[.int .u64 a0_0, .int .u64 a0_1, .int .u64 a0_2, .int .u64 a0_3, .int .i64 a0_4, .bool a0_5, .slice A0_6 l0_6.length c0_6, .bool true]] rfl ?_; (with_reducible refine (tenementlaw08_Deal_deal.calls k a0_0 a0_1 a0_2 a0_3 a0_4 a0_5 _ _ l0_6 true q0 q1 q2 q3 q4 q5 _ ?s1 hc0_6 HDL.out).mono ?_); (case s1 => exact Kd.C_below HR0.out (HB2.out.setCell GE2.out _)); rintro e_ wd ⟨vq, rfl, hR, hb⟩; refine ⟨_, rfl, ?_⟩; obtain ⟨Aq, cq, eq_⟩ := Kd.R_slice hR; subst eq_; have HS1 : Aside0 (Below w.heap.size w (w2.setCell ⟨g2, 7, none⟩ (.bool true))) := ⟨HB2.out.setCell GE2.out _⟩; have HRd := Aside0.mk (Kd.R_lower hR (below_size HS1.out)); have HBd := Aside0.mk (below_step HS1.out hb); clear hb hR hp0 hp1 hp2 hp3 hp4 hp5 hp6 hp7 fp0 fp1 fp2 fp3 fp4 fp5 fp6 fp7)
   | ((with_reducible refine gate_dst (N := 19) rfl ?_); refine Kg_ (some 19) rfl rfl Try.func22 (by kernel_rfl) rfl #[.agg #[.int .u64 q0, .int .u64 q1, .int .u64 q2, .int .u64 q3, .int .i64 q4, .slice Aq q5.length cq]] rfl ?_; (with_reducible refine (item_Whole.calls q0 q1 q2 q3 q4 Aq cq q5 true _ ?s1 ?s2 HWH.out).mono ?_); (case s1 => exact (Kd.R_reads' (Kd.R_below HRd.out (below_alloc (Below.refl _ _) _))).2.2); (case s2 => exact (Kd.R_reads' HRd.out).2.1); rintro e_ w6 ⟨rfl, hb⟩; refine ⟨_, rfl, ?_⟩; have hb2 := below_step (below_alloc (Below.refl _ _) _) hb; have BK6 := Aside0.mk (blk_below (blk_new wd _) hb); have GE6 : Aside0 (w.heap.size ≤ wd.heap.size) := ⟨below_size HBd.out⟩; have HR6 := Aside0.mk (Kd.R_below HRd.out hb2); have HB6 := Aside0.mk (below_step HBd.out hb2); clear hb hb2 HRd; generalize wd.heap.size = g6 at BK6 GE6 ⊢; obtain ⟨ta0, ta1, ta2, ta3, ta4, ta5, -, -, -, -, -, -⟩ := Ke6_ BK6.out)
   | ((with_reducible refine gate_builtin (b := .append) (xs := #[.const (.slice none 0 0), .tmp 21]) rfl ?_); at_builtin; refine Kd.R_append_rows k23 (w0 := w) w.heap.size rfl (.const (.slice none 0 0)) (.tmp 21) 41 23 (.agg #[(.string ⟨#[]⟩), (.string ⟨#[]⟩), (.string ⟨#[]⟩), (.bool false)]) 56 rfl Try.underlying41 Go.Proofs.Ytoogchgoiciggaa.Iw.infoW rfl (by decide) (by omega) (.slice none 0 0) ([] : List S23) q5 Aq q5.length cq (fun _ => True) (fun _ => False) rfl rfl ?aO ?aR (fun _ _ h => h) (fun _ h => h.elim) ?aF ?aB ?aS ?aL ?_; (case aO => exact Kd.R_nil _ _ _ _ _); (case aR => obtain ⟨A_, c_, e_, -, hrow⟩ := OwnRow.reads HR6.out.2; injection e_ with e1_ e2_ e3_; subst e1_; exact ReadsRow.imp_ hrow (Below.refl _ _) (fun p q hp => by have := k23_openM hp; subst this; exact k23_mkM _ _ _ p)); (case aF => exact fun _ _ => trivial); (case aB => exact HB6.out); (case aS => exact below_size HB6.out); (case aL => have := HLEN.out; simp only [List.length_nil]; omega); intro v8 w7 ho hb hg hat; obtain ⟨y0, hy0⟩ : ∃ y_ : List S23, y_ = [] ++ q5 := ⟨_, rfl⟩; rw [← hy0] at ho; have HY0 : Aside0 (y0 = q5) := ⟨hy0⟩; clear hy0; obtain ⟨g8, c8, ev8, gb8, gl8, -⟩ := Kd.R_form ho (by rw [HY0.out]; have := HLEN.out; omega); subst ev8; have HL8 := Aside0.mk ho; have GE8 : Aside0 (w.heap.size ≤ g8) := ⟨gb8⟩; have HB7 := Aside0.mk hb; have BK6b := Aside0.mk (blk_grown BK6.out hg (by simp [Value.ownBlock])); clear ho hb hg hat gb8 gl8 ta0 ta1 ta2 ta3 ta4 ta5; obtain ⟨ta0, ta1, ta2, ta3, ta4, ta5, fa0, fa1, fa2, fa3, fa4, fa5⟩ := Ke6_ BK6b.out; obtain ⟨x, xs, hx⟩ : ∃ x xs, y0 = x :: xs := (by cases y0 with | nil => (have h1 := HLEN.out; have h2 := HY0.out; rw [← h2] at h1; exact absurd h1.1 (by simp)) | cons x xs => exact ⟨x, xs, rfl⟩); have HX := Aside0.mk hx; clear hx; have hr0 : Kd.R k23 23 w7 w.heap.size (fun _ => True) (.slice (some ⟨g8, 0, none⟩) y0.length c8) (x :: xs) := (by rw [← HX.out]; exact HL8.out); have HL0 := Aside0.mk hr0; obtain ⟨hxc, hxf⟩ := Go.Proofs.Ytoogchgoiciggaa.Iw.R_at0 hr0; have hx0 := hxc 0 _ rfl; have hx1 := hxc 1 _ rfl; have hx2 := hxc 2 _ rfl; have hx3 := hxc 3 _ rfl; have hf0 := hxf 0; have hf1 := hxf 1; have hf2 := hxf 2; have hf3 := hxf 3; clear hr0 hxc hxf)
   | ((with_reducible refine gate_dst (N := 81) rfl ?_); refine Kg_ (some 81) rfl rfl Try.func15 (by kernel_rfl) rfl #[.agg #[.int .u64 q0, .int .u64 q1, .int .u64 q2, .int .u64 q3, .int .i64 0, .slice (some ⟨g8, 0, none⟩) y0.length c8]] rfl ?_; (with_reducible refine (item_Bytes.calls k q0 q1 q2 q3 0 (some ⟨g8, 0, none⟩) c8 y0 ⟨#[]⟩ false _ ?s1 ?s2 (HY0.out.symm ▸ HBY.out)).mono ?_); (case s1 => exact (Kd.R_reads' (Kd.R_far (p := ⟨g6, 5, none⟩) (Kd.R_far (p := ⟨g6, 4, none⟩) (Kd.R_types HL8.out BK6b.out (by decide)) (fun _ hk => hk.2) _) (fun _ hk => hk.2) _)).2.2); (case s2 => exact (Kd.R_reads' HL8.out).2.1); rintro e_ w8 ⟨rfl, hb⟩; refine ⟨_, rfl, ?_⟩; have BK6c : Aside0 (((w7.setCell ⟨g6, 4, none⟩ (.int .i64 0)).setCell ⟨g6, 5, none⟩ (.slice (some ⟨g8, 0, none⟩) y0.length c8)).heap[g6]? = some (.cells #[.int .u64 q0, .int .u64 q1, .int .u64 q2, .int .u64 q3, .int .i64 0, .slice (some ⟨g8, 0, none⟩) y0.length c8] 43 (0, 0))) := ⟨by refine blk_put (cs := #[.int .u64 q0, .int .u64 q1, .int .u64 q2, .int .u64 q3, .int .i64 0, .slice Aq q5.length cq]) ?_ 5 _ rfl; exact (blk_put (cs := #[.int .u64 q0, .int .u64 q1, .int .u64 q2, .int .u64 q3, .int .i64 q4, .slice Aq q5.length cq]) BK6b.out 4 _ rfl)⟩; have BK6d := Aside0.mk (blk_below BK6c.out hb); have HC8 : Aside0 (Kd.C k23 w8 (some ⟨g8, 0, none⟩) (y0 : List S23).length y0) := ⟨Kd.C_below ((Kd.R_reads' (Kd.R_far (p := ⟨g6, 5, none⟩) (Kd.R_far (p := ⟨g6, 4, none⟩) (Kd.R_types HL8.out BK6b.out (by decide)) (fun _ hk => hk.2) _) (fun _ hk => hk.2) _)).2.2) hb⟩; have HB8 := Aside0.mk (below_step ((HB7.out.setCell GE6.out _).setCell GE6.out _) hb); clear hb; (try clear ta0 ta1 ta2 ta3 ta4 ta5 fa0 fa1 fa2 fa3 fa4 fa5); obtain ⟨tb0, tb1, tb2, tb3, tb4, tb5, -, -, -, -, -, -⟩ := Ke6_ BK6d.out)
   | (go_at_call 22; (with_reducible refine (item_Whole.calls q0 q1 q2 q3 0 (some ⟨g8, 0, none⟩) c8 y0 false _ ?s1 ?s2 (HY0.out.symm ▸ HW2.out)).mono ?_); (case s1 => exact HC8.out); (case s2 => exact (Kd.R_reads' HL8.out).2.1); rintro e_ w9 ⟨rfl, hb⟩; have HB9 := Aside0.mk (below_step HB8.out hb); clear hb))
  go_ret
  exact ⟨by first | rfl | simp, HB9.out⟩
end Go.Proofs.Ytoogchgoiciggaa.Q

set_option linter.unusedVariables false
namespace Go.Proofs.Ytoogchgoiciggaa.Q
open Go.RowKit Go.Proofs.Ytoogchgoiciggaa.Q Go.Proofs.YtoogchgoiciggaaW.PrintWords Go.Proofs.YtoogchgoiciggaaW.PrintLast Go.Proofs.YtoogchgoiciggaaW.PrintMore
def tenementlaw08_ItemWhole.Pure : Prop := ∀ (x0 : S35) (x1 : Int), (wf35 x0) → ((Lit.int .u8 x1).wf = true) → tenementlaw08_ItemWhole.f (x0.f0.f0.f0.f0) (x0.f0.f0.f0.f1) (x0.f0.f0.f0.f2) (x0.f0.f0.f0.f3) (x0.f0.f0.f1) (x0.f0.f1) (x0.f1) (x0.f2) x1 = some true
end Go.Proofs.Ytoogchgoiciggaa.Q

set_option linter.unusedVariables false
set_option linter.unusedSimpArgs false
namespace Go.Proofs.Ytoogchgoiciggaa.Pure
open Go.RowKit Go.Proofs.Ytoogchgoiciggaa.Q Go.Proofs.YtoogchgoiciggaaW.PrintWords Go.Proofs.YtoogchgoiciggaaW.PrintLast Go.Proofs.YtoogchgoiciggaaW.PrintMore Go.Proofs.Ytoogchgoiciggaa.Plain
abbrev Wr := S23
abbrev Pt := S25
def fits (x : Wr) : Prop := x.f0.size ≤ 140737488351232 ∧ x.f1.size ≤ 140737488351232 ∧ x.f2.size ≤ 140737488351232
theorem str_size (l : List Int) : (strOfNums l).size = l.length := by
 unfold strOfNums
 simp [ByteArray.size]
def wrt (p : Pt) (own : Bool) : Wr :=
 if own = true then (if 224 ≤ p.f2 then ⟨strOfNums [98, IntKind.u8.wrap (48 + Int.tmod p.f2 2)], strOfNums [IntKind.u8.wrap (97 + Int.tmod (IntKind.u8.wrap (Int.tdiv p.f2 2)) 4)], ⟨#[]⟩, true⟩
  else ⟨strOfNums [98, IntKind.u8.wrap (48 + Int.tmod p.f2 2)], strOfNums [IntKind.u8.wrap (97 + Int.tmod (IntKind.u8.wrap (Int.tdiv p.f2 2)) 4)], p.f0.f2.extract 0 (min p.f0.f2.size 8), false⟩)
 else p.f0
theorem wrt_f (p : Pt) (own : Bool) (h : fits p.f0) : tenementlaw08_Put_write.f p.f0.f0 p.f0.f1 p.f0.f2 p.f0.f3 own p.f2 = some ((wrt p own).f0, (wrt p own).f1, (wrt p own).f2, (wrt p own).f3) := by
 unfold tenementlaw08_Put_write.f wrt
 cases own with
 | true =>
  rw [if_pos rfl, if_pos rfl, if_pos (by have := h.2.2; omega)]
  by_cases c : 224 ≤ p.f2
  ·rw [if_pos c, if_pos c]
  ·rw [if_neg c, if_neg c]
 | false => rw [if_neg (by simp), if_neg (by simp)]
theorem wrt_fits (p : Pt) (own : Bool) (h : fits p.f0) : fits (wrt p own) := by
 unfold wrt
 cases own with
 | true =>
  rw [if_pos rfl]
  have z : (⟨#[]⟩ : ByteArray).size = 0 := rfl
  by_cases c : 224 ≤ p.f2
  ·rw [if_pos c]
   refine ⟨?_, ?_, ?_⟩
   ·show (strOfNums _).size ≤ _; rw [str_size]; simp
   ·show (strOfNums _).size ≤ _; rw [str_size]; simp
   ·show (⟨#[]⟩ : ByteArray).size ≤ _; omega
  ·rw [if_neg c]
   refine ⟨?_, ?_, ?_⟩
   ·show (strOfNums _).size ≤ _; rw [str_size]; simp
   ·show (strOfNums _).size ≤ _; rw [str_size]; simp
   ·show (ByteArray.extract _ _ _).size ≤ _; rw [ByteArray.size_extract]; omega
 | false => rw [if_neg (by simp)]; exact h
def same (w y : Wr) : Bool := decide (y.f0 = w.f0) && decide (y.f1 = w.f1)
def wrs (most : Nat) (whole : Bool) : List Pt → List Wr → List Wr
 | [], out => out
 | p :: ps, out => if out.length < most then (if (whole && out.any (same (wrt p (whole || p.f1)))) = true then wrs most whole ps out else wrs most whole ps (out ++ [wrt p (whole || p.f1)])) else out
theorem wrs_len (most : Nat) (whole : Bool) : ∀ l out, out.length ≤ most → (wrs most whole l out).length ≤ most
 | [], out, h => h
 | p :: ps, out, h => by
  unfold wrs
  by_cases c : out.length < most
  ·rw [if_pos c]
   split
   ·exact wrs_len most whole ps out h
   ·exact wrs_len most whole ps _ (by simp; omega)
  ·rw [if_neg c]; exact h
theorem wrs_all (most : Nat) (whole : Bool) (Q : Wr → Prop) : ∀ l out, (∀ p ∈ l, Q (wrt p (whole || p.f1))) → (∀ x ∈ out, Q x) → ∀ x ∈ wrs most whole l out, Q x
 | [], out, _, h => h
 | p :: ps, out, hl, h => by
  unfold wrs
  have hl' : ∀ q ∈ ps, Q (wrt q (whole || q.f1)) := fun q hq => hl q (by simp [hq])
  split
  ·split
   ·exact wrs_all most whole Q ps out hl' h
   ·refine wrs_all most whole Q ps _ hl' (fun x hx => ?_)
    rcases List.mem_append.1 hx with hx | hx
    ·exact h x hx
    ·rw [List.mem_singleton.1 hx]; exact hl p (by simp)
  ·exact h
theorem idx (i : Nat) (h : i ≤ 4611686018427387904) : wrap64 ((i : Int) + 1) = ((i + 1 : Nat) : Int) := by
 rw [wrap64_id (by omega) (by omega)]
 omega
theorem rdW (l : List Wr) (j : Nat) (h : j < l.length) : rd_T23 l (j : Int) = l[j] := by
 unfold rd_T23
 rw [Int.toNat_natCast, List.getD_eq_getElem?_getD, List.getElem?_eq_getElem h]
 rfl
theorem rdP (l : List Pt) (j : Nat) (h : j < l.length) : rd_T25 l (j : Int) = l[j] := by
 unfold rd_T25
 rw [Int.toNat_natCast, List.getD_eq_getElem?_getD, List.getElem?_eq_getElem h]
 rfl
theorem wr_l1 (l : List Pt) (most : Int) (whole : Bool) (out : List Wr) (i : Int) (w : Wr) (h7 : out.length ≤ 1000) (K : Nat) : ∀ d j fl, j + d = out.length →
  tenementlaw08_writes.l1 (K + d + 1) l most whole out i fl (j : Int) w.f0 w.f1 w.f2 w.f3 =
   if (whole && (fl || (out.drop j).any (same w))) = true then tenementlaw08_writes.l0 K l most whole out (wrap64 (i + 1)) else tenementlaw08_writes.l0 K l most whole (out ++ [w]) (wrap64 (i + 1)) := by
 intro d
 induction d with
 | zero =>
  intro j fl hj
  have e : out.drop j = [] := List.drop_eq_nil_of_le (by omega)
  rw [Nat.add_zero, tenementlaw08_writes.l1, if_neg (by omega), e, List.any_nil, Bool.or_false]
  cases whole with
  | true =>
   rw [if_pos rfl]
   cases fl with
   | true => rw [if_pos rfl, if_pos (by rfl)]
   | false => rw [if_neg (by simp), if_pos (by omega), if_neg (by simp)]
  | false => rw [if_neg (by simp), if_pos (by omega), if_neg (by simp)]
 | succ d ih =>
  intro j fl hj
  have hlt : j < out.length := by omega
  have e : out.drop j = out[j] :: out.drop (j + 1) := List.drop_eq_getElem_cons hlt
  rw [show K + (d + 1) + 1 = (K + d + 1) + 1 by omega, tenementlaw08_writes.l1, if_pos (by omega), idx j (by omega), e, List.any_cons]
  cases fl with
  | true =>
   rw [if_pos rfl, ih (j + 1) true (by omega)]
   simp only [Bool.true_or]
  | false =>
   rw [if_neg (by simp), if_pos (by omega), rdW out j hlt, Bool.false_or]
   by_cases c : (out[j].f0).toList = w.f0.toList
   ·rw [if_pos c, ih (j + 1) _ (by omega)]
    have c0 := toList_iff.1 c
    have hs : ((out[j].f1).toList == w.f1.toList) = same w out[j] := by
     unfold same
     rw [decide_eq_true c0, Bool.true_and]
     by_cases c1 : out[j].f1 = w.f1
     ·rw [decide_eq_true c1, c1]; simp
     ·rw [decide_eq_false c1]
      exact beq_eq_false_iff_ne.2 (fun h => c1 (toList_iff.1 h))
    rw [hs]
   ·rw [if_neg c, ih (j + 1) _ (by omega)]
    have hs : same w out[j] = false := by
     unfold same
     rw [decide_eq_false (fun h => c (by rw [h])), Bool.false_and]
    rw [hs, Bool.false_or]
theorem wr_l0 (l : List Pt) (most : Nat) (hm : most ≤ 100) (whole : Bool) (hl : ∀ p ∈ l, fits p.f0) (hz : l.length ≤ 4611686018427387904) : ∀ d i (out : List Wr) K, i + d = l.length → out.length ≤ most → (d + 1) * (most + 5) ≤ K →
  tenementlaw08_writes.l0 K l (most : Int) whole out (i : Int) = some (wrs most whole (l.drop i) out) := by
 intro d
 induction d with
 | zero =>
  intro i out K hi ho hK
  obtain ⟨K, rfl⟩ : ∃ m, K = m + 2 := ⟨K - 2, by omega⟩
  have e : l.drop i = [] := List.drop_eq_nil_of_le (by omega)
  rw [tenementlaw08_writes.l0, if_neg (by omega), tenementlaw08_writes.j1, if_neg (by simp), e]
  rfl
 | succ d ih =>
  intro i out K hi ho hK
  have hlt : i < l.length := by omega
  have e : l.drop i = l[i] :: l.drop (i + 1) := List.drop_eq_getElem_cons hlt
  have hK' : (d + 1) * (most + 5) + (most + 5) ≤ K := by
   rw [show (d + 1 + 1) * (most + 5) = (d + 1) * (most + 5) + (most + 5) by rw [Nat.add_mul, Nat.one_mul]] at hK
   exact hK
  have hf : fits l[i].f0 := hl _ (List.getElem_mem _)
  rw [e]
  unfold wrs
  by_cases c : out.length < most
  ·rw [if_pos c]
   obtain ⟨m, hm'⟩ : ∃ m, K = (m + out.length + 1) + 3 ∧ (d + 1) * (most + 5) ≤ m := ⟨K - out.length - 4, by omega, by omega⟩
   rw [hm'.1, tenementlaw08_writes.l0, if_pos (by omega), decide_eq_true (by omega : (out.length : Int) < (most : Int)), tenementlaw08_writes.j1, if_pos rfl, if_pos (by omega), if_pos (by omega), rdP l i hlt]
   have key : ∀ own : Bool, own = (whole || l[i].f1) → tenementlaw08_writes.j2 (m + out.length + 1 + 1) l (most : Int) whole out (i : Int) l[i].f0.f0 l[i].f0.f1 l[i].f0.f2 l[i].f0.f3 own l[i].f2 =
     some (if (whole && out.any (same (wrt l[i] (whole || l[i].f1)))) = true then wrs most whole (l.drop (i + 1)) out else wrs most whole (l.drop (i + 1)) (out ++ [wrt l[i] (whole || l[i].f1)])) := by
    intro own ho'
    rw [tenementlaw08_writes.j2, wrt_f _ _ hf, Option.bind_some]
    show tenementlaw08_writes.l1 (m + out.length + 1) l (most : Int) whole out (i : Int) false 0 (wrt l[i] own).f0 (wrt l[i] own).f1 (wrt l[i] own).f2 (wrt l[i] own).f3 = _
    have h1 := wr_l1 l (most : Int) whole out (i : Int) (wrt l[i] own) (by omega) m out.length 0 false (by omega)
    rw [show ((0 : Nat) : Int) = 0 from rfl] at h1
    rw [h1, List.drop_zero, Bool.false_or, idx i (by omega), ho']
    split
    ·rw [ih (i + 1) out m (by omega) ho hm'.2]
    ·rw [ih (i + 1) _ m (by omega) (by simp; omega) hm'.2]
   cases whole with
   | true =>
    rw [if_pos rfl, key true rfl]
   | false =>
    rw [if_neg (by simp), key _ (by simp)]
  ·rw [if_neg c]
   obtain ⟨m, rfl⟩ : ∃ m, K = m + 2 := ⟨K - 2, by omega⟩
   rw [tenementlaw08_writes.l0, if_pos (by omega), decide_eq_false (by omega : ¬ (out.length : Int) < (most : Int)), tenementlaw08_writes.j1, if_neg (by simp)]
theorem writes_f (l : List Pt) (most : Nat) (hm : most ≤ 100) (whole : Bool) (hl : ∀ p ∈ l, fits p.f0) (hz : l.length ≤ 4611686018427387904) {K : Nat} (hK : (l.length + 1) * (most + 5) ≤ K) :
  tenementlaw08_writes.f K l (most : Int) whole = some (wrs most whole l []) := by
 unfold tenementlaw08_writes.f
 have := wr_l0 l most hm whole hl hz l.length 0 [] K (by omega) (by simp) hK
 rw [show ((0 : Nat) : Int) = 0 from rfl, List.drop_zero] at this
 exact this
theorem toList_nil {s : ByteArray} : s.toList = ([] : List UInt8) ↔ s.size = 0 := by
 rw [toList_data, ← bl_length, List.length_eq_zero_iff]
 unfold bl
 rw [List.map_eq_nil_iff]
def okW (b k v : ByteArray) (g : Bool) : Prop := (1 ≤ b.size ∧ b.size ≤ 16) ∧ (1 ≤ k.size ∧ k.size ≤ 16) ∧ v.size ≤ 32 ∧ (g = true → v.size = 0)
instance (b k v : ByteArray) (g : Bool) : Decidable (okW b k v g) := by unfold okW; infer_instance
instance (a b c d e : Int) : Decidable (okS a b c d e) := by unfold okS; infer_instance
theorem named_f (s : ByteArray) : item_named.f s = some (decide (1 ≤ s.size ∧ s.size ≤ 16)) := by
 unfold item_named.f
 by_cases c : s.toList = ([] : List UInt8)
 ·rw [if_pos c, decide_eq_false (by have := toList_nil.1 c; omega)]
 ·rw [if_neg c]
  have h : s.size ≠ 0 := fun h => c (toList_nil.2 h)
  congr 1
  rw [decide_eq_decide]
  omega
theorem iright_f (b k v : ByteArray) (g : Bool) : item_Right.f b k v g = some (decide (okW b k v g)) := by
 unfold item_Right.f
 rw [named_f, Option.bind_some]
 by_cases c1 : 1 ≤ b.size ∧ b.size ≤ 16
 ·rw [if_pos (decide_eq_true c1), named_f, Option.bind_some]
  by_cases c2 : 1 ≤ k.size ∧ k.size ≤ 16
  ·rw [if_pos (decide_eq_true c2)]
   by_cases c3 : v.size ≤ 32
   ·rw [if_pos (by omega)]
    by_cases c4 : v.toList = ([] : List UInt8)
    ·rw [if_pos c4, decide_eq_true (p := okW b k v g) ⟨c1, c2, c3, fun _ => toList_nil.1 c4⟩]
    ·rw [if_neg c4]
     cases g with
     | true => rw [decide_eq_false (fun h : okW b k v true => c4 (toList_nil.2 (h.2.2.2 rfl)))]; rfl
     | false => rw [decide_eq_true (p := okW b k v false) ⟨c1, c2, c3, fun h => by cases h⟩]; rfl
   ·rw [if_neg (by omega), decide_eq_false (fun h : okW b k v g => c3 h.2.2.1)]
  ·rw [if_neg (by simpa using c2), decide_eq_false (fun h : okW b k v g => c2 h.2.1)]
 ·rw [if_neg (by simpa using c1), decide_eq_false (fun h : okW b k v g => c1 h.1)]
def okw (x : Wr) : Bool := decide (okW x.f0 x.f1 x.f2 x.f3)
def at1 (x y : Wr) : Bool := decide (x.f0.data.toList = y.f0.data.toList ∧ x.f1.data.toList = y.f1.data.toList)
def wh (a b c d e : Int) (xs : List Wr) : Bool := decide (okS a b c d e) && decide (0 < xs.length) && decide (xs.length ≤ 8) && item_Whole.apart xs && xs.all okw
theorem sright_f (a b c d e : Int) : stamp_Right.f a b c d e = some (decide (okS a b c d e)) := by
 by_cases h : okS a b c d e
 ·rw [sright_true h, decide_eq_true h]
 ·rw [sright_false h, decide_eq_false h]
theorem whole_f (a b c d e : Int) (xs : List Wr) (hx : ∀ x ∈ xs, fits x) (hz : xs.length ≤ 9223372036854775806) : item_Whole.f a b c d e xs = some (wh a b c d e xs) := by
 unfold item_Whole.f wh
 rw [if_pos ⟨fun x h => by have := hx x h; exact ⟨by have := this.1; omega, by have := this.2.1; omega⟩, hz⟩, sright_f, Option.bind_some]
 congr 2
 have hr : ∀ x : Wr, item_Whole.right x = okw x := fun x => by
  unfold item_Whole.right okw
  rw [iright_f]
  rfl
 rw [Bool.eq_iff_iff]
 simp [hr]
def wb (x : Wr) : ByteArray := vs x.f0.size ++ x.f0 ++ (vs x.f1.size ++ x.f1) ++ (if x.f3 = true then (⟨#[1]⟩ : ByteArray) else (⟨#[0]⟩ : ByteArray) ++ (vs x.f2.size ++ x.f2))
def enc (o : ByteArray) (xs : List Wr) : ByteArray := xs.foldl (fun o x => o ++ wb x) o
theorem n1 : pack_Number.f 1 1 = some (⟨#[1]⟩ : ByteArray) := Number_f 1 1 (by omega) (by omega)
theorem n0 : pack_Number.f 0 1 = some (⟨#[0]⟩ : ByteArray) := Number_f 0 1 (by omega) (by omega)
theorem z1 : (⟨#[1]⟩ : ByteArray).size = 1 := rfl
theorem z0 : (⟨#[0]⟩ : ByteArray).size = 1 := rfl
theorem wh_true {a b c d e : Int} {xs : List Wr} (h : wh a b c d e xs = true) : okS a b c d e ∧ 0 < xs.length ∧ xs.length ≤ 8 ∧ item_Whole.apart xs = true ∧ ∀ x ∈ xs, okw x = true := by
 unfold wh at h
 simp only [Bool.and_eq_true, decide_eq_true_eq, List.all_eq_true] at h
 exact ⟨h.1.1.1.1, h.1.1.1.2, h.1.1.2, h.1.2, h.2⟩
theorem apart_cons (x : Wr) (xs : List Wr) : item_Whole.apart (x :: xs) = (xs.all (fun y => !at1 x y) && item_Whole.apart xs) := rfl
theorem apart_snoc (w : Wr) : ∀ xs : List Wr, item_Whole.apart (xs ++ [w]) = (item_Whole.apart xs && xs.all (fun y => !at1 y w))
 | [] => rfl
 | x :: xs => by
  rw [List.cons_append, apart_cons, apart_snoc w xs, apart_cons, List.all_append, List.all_cons, List.all_cons, List.all_nil, Bool.and_true]
  generalize (xs.all fun y => !at1 x y) = A
  generalize (xs.all fun y => !at1 y w) = B
  generalize item_Whole.apart xs = C
  generalize (!at1 x w) = D
  cases A <;> cases B <;> cases C <;> cases D <;> rfl
theorem same_at1 (w y : Wr) (h : at1 y w = true) : same w y = true := by
 unfold at1 at h
 unfold same
 have h := of_decide_eq_true h
 have e0 : y.f0 = w.f0 := bl_inj (by unfold bl; rw [h.1])
 have e1 : y.f1 = w.f1 := bl_inj (by unfold bl; rw [h.2])
 rw [decide_eq_true e0, decide_eq_true e1]
 rfl
theorem apart_wrs : ∀ l out, item_Whole.apart out = true → item_Whole.apart (wrs 8 true l out) = true
 | [], out, h => h
 | p :: ps, out, h => by
  unfold wrs
  split
  ·split
   ·exact apart_wrs ps out h
   ·rename_i c
    refine apart_wrs ps _ ?_
    rw [apart_snoc, h, Bool.true_and, List.all_eq_true]
    intro y hy
    cases e : at1 y (wrt p (true || p.f1)) with
    | false => rfl
    | true =>
     exfalso
     apply c
     rw [Bool.true_and, List.any_eq_true]
     exact ⟨y, hy, same_at1 _ _ e⟩
  ·exact h
theorem wrt_okw (p : Pt) : okw (wrt p true) = true := by
 unfold wrt
 rw [if_pos rfl]
 have z : (⟨#[]⟩ : ByteArray).size = 0 := rfl
 by_cases c : 224 ≤ p.f2
 ·rw [if_pos c]
  refine decide_eq_true ⟨⟨?_, ?_⟩, ⟨?_, ?_⟩, ?_, fun _ => rfl⟩
  ·show 1 ≤ (strOfNums _).size; rw [str_size]; simp
  ·show (strOfNums _).size ≤ _; rw [str_size]; simp
  ·show 1 ≤ (strOfNums _).size; rw [str_size]; simp
  ·show (strOfNums _).size ≤ _; rw [str_size]; simp
  ·show (⟨#[]⟩ : ByteArray).size ≤ _; omega
 ·rw [if_neg c]
  refine decide_eq_true ⟨⟨?_, ?_⟩, ⟨?_, ?_⟩, ?_, fun h => absurd h (by simp)⟩
  ·show 1 ≤ (strOfNums _).size; rw [str_size]; simp
  ·show (strOfNums _).size ≤ _; rw [str_size]; simp
  ·show 1 ≤ (strOfNums _).size; rw [str_size]; simp
  ·show (strOfNums _).size ≤ _; rw [str_size]; simp
  ·show (ByteArray.extract _ _ _).size ≤ _; rw [ByteArray.size_extract]; omega
theorem deal_own4 (v0 v1 v2 v3 d : Int) (h0 : (Lit.int .u64 v0).wf = true) (h1 : (Lit.int .u64 v1).wf = true) (h2 : (Lit.int .u64 v2).wf = true) (o : Bool) (l : List Pt) (hl : ∀ p ∈ l, fits p.f0) (hz : l.length ≤ 4611686018427387904) {K : Nat} (hK : (l.length + 1) * 15 + 10 ≤ K) :
  ∃ (a b c g e : Nat) (xs : List Wr), tenementlaw08_Deal_deal.f K v0 v1 v2 v3 d o l true = some ((a : Int), (b : Int), (c : Int), (g : Int), (e : Int), xs) ∧ wh a b c g e xs = true ∧ (∀ x ∈ xs, fits x) ∧ xs.length ≤ 8 ∧ a ≤ 4 ∧ b ≤ 4 ∧ c ≤ 4 ∧ g ≤ 4 := by
 unfold tenementlaw08_Deal_deal.f
 obtain ⟨n0, n1, n2, n3, dc, em, hn4, _, _, hS⟩ := mark_own (v3 := v3) (d := d) h0 h1 h2 (k := K) (by omega)
 have ew := writes_f l 8 (by omega) true hl hz (K := K) (by omega)
 have hln := wrs_len 8 true l [] (by simp)
 have hap := apart_wrs l [] rfl
 have hok := wrs_all 8 true (fun x => okw x = true) l [] (fun p _ => wrt_okw p) (by simp)
 rw [show ((8 : Nat) : Int) = 8 from rfl] at ew
 rw [if_pos rfl, em, Option.bind_some, ew, Option.bind_some]
 by_cases c : ((wrs 8 true l []).length : Int) = 0
 ·rw [if_pos c]
  have z2 : (⟨#[98, 48]⟩ : ByteArray).size = 2 := rfl
  have z1 : (⟨#[97]⟩ : ByteArray).size = 1 := rfl
  have z3 : (⟨#[118]⟩ : ByteArray).size = 1 := rfl
  refine ⟨n0, n1, n2, n3, dc, _, rfl, ?_, ?_, by simp, hn4⟩
  ·unfold wh
   rw [decide_eq_true hS]
   have : okw (⟨(⟨#[98, 48]⟩ : ByteArray), (⟨#[97]⟩ : ByteArray), (⟨#[118]⟩ : ByteArray), false⟩ : Wr) = true := by
    refine decide_eq_true ⟨⟨?_, ?_⟩, ⟨?_, ?_⟩, ?_, fun h => absurd h (by simp)⟩
    ·show 1 ≤ (⟨#[98, 48]⟩ : ByteArray).size; omega
    ·show (⟨#[98, 48]⟩ : ByteArray).size ≤ _; omega
    ·show 1 ≤ (⟨#[97]⟩ : ByteArray).size; omega
    ·show (⟨#[97]⟩ : ByteArray).size ≤ _; omega
    ·show (⟨#[118]⟩ : ByteArray).size ≤ _; omega
   rw [List.all_cons, this, List.all_nil]
   rfl
  ·intro x hx1
   rw [List.mem_singleton.1 hx1]
   exact ⟨show (⟨#[98, 48]⟩ : ByteArray).size ≤ _ by omega, show (⟨#[97]⟩ : ByteArray).size ≤ _ by omega, show (⟨#[118]⟩ : ByteArray).size ≤ _ by omega⟩
 ·rw [if_neg c]
  refine ⟨n0, n1, n2, n3, dc, _, rfl, ?_, wrs_all 8 true fits l [] (fun p hp => wrt_fits p _ (hl p hp)) (by simp), hln, hn4⟩
  unfold wh
  rw [decide_eq_true hS, decide_eq_true (by omega), decide_eq_true hln, hap, List.all_eq_true.2 hok]
  rfl
theorem deal_own (v0 v1 v2 v3 d : Int) (h0 : (Lit.int .u64 v0).wf = true) (h1 : (Lit.int .u64 v1).wf = true) (h2 : (Lit.int .u64 v2).wf = true) (o : Bool) (l : List Pt) (hl : ∀ p ∈ l, fits p.f0) (hz : l.length ≤ 4611686018427387904) {K : Nat} (hK : (l.length + 1) * 15 + 10 ≤ K) :
  ∃ (a b c g e : Nat) (xs : List Wr), tenementlaw08_Deal_deal.f K v0 v1 v2 v3 d o l true = some ((a : Int), (b : Int), (c : Int), (g : Int), (e : Int), xs) ∧ wh a b c g e xs = true ∧ ∀ x ∈ xs, fits x := by
 obtain ⟨a, b, c, g, e, xs, h, hw, hf, _⟩ := deal_own4 v0 v1 v2 v3 d h0 h1 h2 o l hl hz hK
 exact ⟨a, b, c, g, e, xs, h, hw, hf⟩
theorem examples_60 : tenementlaw08_examples.f 60 = some true := by decide +kernel
theorem examples_f {k : Nat} (hk : 60 ≤ k) : tenementlaw08_examples.f k = some true := at_rounds tenementlaw08_examples.mono hk examples_60
theorem bad_wh {a b c g : Int} {q4 : Int} {q5 : List Wr} (h : wh a b c g q4 q5 = true) (hf : ∀ x ∈ q5, fits x) {e : Int} {ys : List Wr} (hb : tenementlaw08_ItemWhole.Bad q4 q5 e ys) : wh a b c g e ys = false ∧ (∀ x ∈ ys, fits x) ∧ ys.length ≤ 1000 := by
 obtain ⟨hS, h0, h8, hap, hok⟩ := wh_true h
 have hno : ∀ P : Prop, (wh a b c g e ys = true → False) → wh a b c g e ys = false := fun _ h => Bool.eq_false_iff.2 h
 have z0 : (⟨#[]⟩ : ByteArray).size = 0 := rfl
 have z1 : (⟨#[99]⟩ : ByteArray).size = 1 := rfl
 have z2 : (⟨#[118]⟩ : ByteArray).size = 1 := rfl
 rcases hb with ⟨rfl, hb⟩ | ⟨rfl, rfl⟩
 ·rcases hb with rfl | rfl | ⟨x, xs, rfl, hb⟩
  ·refine ⟨hno True (fun h => ?_), fun x hx => (by cases hx), by simp⟩
   have := (wh_true h).2.1
   simp at this
  ·refine ⟨hno True (fun h => ?_), fun x hx => ?_, by rw [List.length_append, List.length_map, List.length_range]; omega⟩
   ·have := (wh_true h).2.2.1
    rw [List.length_append, List.length_map, List.length_range] at this
    omega
   ·rcases List.mem_append.1 hx with hx | hx
    ·exact hf x hx
    ·obtain ⟨i, _, rfl⟩ := List.mem_map.1 hx
     refine ⟨show (⟨#[99]⟩ : ByteArray).size ≤ _ by omega, ?_, show (⟨#[]⟩ : ByteArray).size ≤ _ by omega⟩
     show (strOfNums _).size ≤ _
     rw [str_size]
     simp
  ·have hfx := hf x (by simp)
   rcases hb with rfl | rfl | rfl
   ·refine ⟨hno True (fun h => ?_), fun y hy => ?_, by simp⟩
    ·have := (wh_true h).2.2.2.1
     unfold item_Whole.apart at this
     simp at this
    ·rcases List.mem_cons.1 hy with rfl | hy
     ·exact hfx
     ·rw [List.mem_singleton.1 hy]
      exact ⟨hfx.1, hfx.2.1, show (⟨#[]⟩ : ByteArray).size ≤ _ by omega⟩
   ·refine ⟨hno True (fun h => ?_), fun y hy => ?_, by simp at h8 ⊢; omega⟩
    ·have := of_decide_eq_true ((wh_true h).2.2.2.2 _ (List.mem_cons_self))
     have := this.2.1.1
     simp only at this
     omega
    ·rcases List.mem_cons.1 hy with rfl | hy
     ·exact ⟨hfx.1, show (⟨#[]⟩ : ByteArray).size ≤ _ by omega, hfx.2.2⟩
     ·exact hf y (List.mem_cons_of_mem _ hy)
   ·refine ⟨hno True (fun h => ?_), fun y hy => ?_, by simp at h8 ⊢; omega⟩
    ·have := of_decide_eq_true ((wh_true h).2.2.2.2 _ (List.mem_cons_self))
     have := this.2.2.2 rfl
     simp only at this
     omega
    ·rcases List.mem_cons.1 hy with rfl | hy
     ·exact ⟨hfx.1, hfx.2.1, show (⟨#[118]⟩ : ByteArray).size ≤ _ by omega⟩
     ·exact hf y (List.mem_cons_of_mem _ hy)
 ·refine ⟨hno True (fun h => ?_), hf, by omega⟩
  have := okS_dc (wh_true h).1
  omega
theorem ItemWhole : tenementlaw08_ItemWhole.Pure := by
 intro x n hx hn
 have hn := u8_of hn
 obtain ⟨⟨⟨⟨v0, v1, v2, v3⟩, d⟩, o⟩, l, own⟩ := x
 have hw := hx.1.1
 have hl : ∀ p ∈ l, fits p.f0 := fun p hp => ⟨(hx.2.1.1 p hp).1.1, (hx.2.1.1 p hp).1.2.1, (hx.2.1.1 p hp).1.2.2.1⟩
 have hlen : l.length * 64 ≤ 140737488351232 := hx.2.1.2
 obtain ⟨a, b, c, g, e, xs, ed, hwh, hf⟩ := deal_own v0 v1 v2 v3 d hw.1.1 hw.1.2.1 hw.1.2.2.1 o l hl (by omega) (K := (l.length + 1) * 15 + 5000) (by omega)
 obtain ⟨hS, h0, h8, hap, hok⟩ := wh_true hwh
 unfold tenementlaw08_ItemWhole.f
 refine if_pos ⟨(l.length + 1) * 15 + 5000, a, b, c, g, e, xs, hn, examples_f (by omega), ed, ?_, ⟨h0, h8⟩, fun e' ys hb => ?_⟩
 ·rw [whole_f _ _ _ _ _ xs hf (by omega), hwh]
 ·obtain ⟨h1, h2, h3⟩ := bad_wh hwh hf hb
  refine ⟨?_, by rw [whole_f _ _ _ _ _ ys h2 (by omega), h1]⟩
  unfold item_Bytes.f
  rw [whole_f _ _ _ _ _ ys h2 (by omega), Option.bind_some, h1, if_neg (by simp)]
end Go.Proofs.Ytoogchgoiciggaa.Pure
