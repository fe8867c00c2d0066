import Derived.Test.YtoogchgoiciggaaGItemWhole2
import Derived.Test.YtoogchgoiciggaaGItemWhole3
import Derived.Test.YtoogchgoiciggaaGItemWhole7
namespace Go.Proofs.Ytoogchgoiciggaa.Q
open Go.RowKit Go.Proofs.YtoogchgoiciggaaW.PrintWords Go.Proofs.YtoogchgoiciggaaW.PrintLast Go.Proofs.YtoogchgoiciggaaW.PrintMore
attribute [local go_sem] max2_int min2_int max_two min_two max_three min_three max_four min_four   -- for this text's walks alone
set_option linter.unusedVariables false
set_option linter.unusedSimpArgs false
def tenementlaw08_examples.f (k : Nat)  : Option (Bool) := (some (([(⟨(⟨#[98]⟩ : ByteArray), (⟨#[107]⟩ : ByteArray), (⟨#[118]⟩ : ByteArray), false⟩ : S23)] : List (S23)) : List (S23))).bind fun y220 => ((item_Bytes.f k 1 0 0 0 1 y220).bind fun bt224 => ((item_Read.f k bt224.1).bind fun bt226 => ((item_Right.f (⟨#[98]⟩ : ByteArray) (⟨#[107]⟩ : ByteArray) (⟨#[118]⟩ : ByteArray) false).bind fun t236 => (if t236 = true then ((item_Right.f (⟨#[]⟩ : ByteArray) (⟨#[]⟩ : ByteArray) (⟨#[]⟩ : ByteArray) false).bind fun t237 => (if t237 = true then (none) else ((item_Whole.f 1 0 0 0 1 y220).bind fun t238 => (if t238 = true then ((item_Whole.f 0 0 0 0 0 ([] : List (S23))).bind fun t239 => (if t239 = true then (none) else ((item_Size.f (⟨#[98]⟩ : ByteArray) (⟨#[107]⟩ : ByteArray) (⟨#[118]⟩ : ByteArray) false).bind fun t240 => (if t240 = 3 then ((item_Size.f (⟨#[98]⟩ : ByteArray) (⟨#[107]⟩ : ByteArray) (⟨#[]⟩ : ByteArray) true).bind fun t241 => (if t241 = 0 then (if bt224.2 = true then (if bt226.2.2.2.2.2.2 = true then ((item_Same.f k 1 0 0 0 1 y220 bt226.1 bt226.2.1 bt226.2.2.1 bt226.2.2.2.1 bt226.2.2.2.2.1 bt226.2.2.2.2.2.1).bind fun t242 => (if t242 = true then (if (bt224.1.size : Int) = 13 then ((item_Shard.f k (⟨#[98]⟩ : ByteArray) (⟨#[107]⟩ : ByteArray) 1).bind fun t243 => (if t243 = 1 then ((item_Of.f k 1 0 0 0 1 y220 1 1).bind fun t244 => (if (t244.length : Int) = 1 then ((item_Of.f k 1 0 0 0 1 y220 2 1).bind fun t247 => (if (t247.length : Int) = 0 then (some true) else (none))) else (none))) else (none))) else (none)) else (none))) else (none)) else (none)) else (none))) else (none))))) else (none))))) else (none)))))
theorem tenementlaw08_examples.mono : ∀ k, LeO (tenementlaw08_examples.f k ) (tenementlaw08_examples.f (k + 1) ) := by
 intro  k
 unfold tenementlaw08_examples.f
 repeat' first
   | (with_reducible exact item_Bytes.mono _ _ _ _ _ _ _)
   | (with_reducible exact item_Of.mono _ _ _ _ _ _ _ _ _)
   | (with_reducible exact item_Read.mono _ _)
   | (with_reducible exact item_Same.mono _ _ _ _ _ _ _ _ _ _ _ _ _)
   | (with_reducible exact item_Shard.mono _ _ _ _)
   | (with_reducible exact LeO.refl _)
   | (with_reducible exact LeO.none _)
   | (with_reducible refine LeO.ite ?_ ?_)
   | (with_reducible refine LeO.bind ?_ (fun _ => ?_))
   | exact item_Bytes.mono _ _ _ _ _ _ _
   | exact item_Of.mono _ _ _ _ _ _ _ _ _
   | exact item_Read.mono _ _
   | exact item_Same.mono _ _ _ _ _ _ _ _ _ _ _ _ _
   | exact item_Shard.mono _ _ _ _
   | exact LeO.none _
   | refine LeO.ite ?_ ?_
   | refine LeO.bind ?_ (fun _ => ?_)
set_option maxHeartbeats 8000000 in
set_option maxRecDepth 100000 in
theorem tenementlaw08_examples.calls (k : Nat)  (r : Bool) (w : World) (h : tenementlaw08_examples.f k  = some r) :
  Calls Try.prog 11 #[] w fun e w' => e = .returned (.bool r) ∧ Below w.heap.size w w' := by
 have hu23 := Try.underlying23
 have hu28 := Try.underlying28
 have hu30 := Try.underlying30
 have hu43 := Try.underlying43
 have HB := Aside0.mk (Below.refl w.heap.size w)
 have H : ((some (([(⟨(⟨#[98]⟩ : ByteArray), (⟨#[107]⟩ : ByteArray), (⟨#[118]⟩ : ByteArray), false⟩ : S23)] : List (S23)) : List (S23))).bind fun y220 => ((item_Bytes.f k 1 0 0 0 1 y220).bind fun bt224 => ((item_Read.f k bt224.1).bind fun bt226 => ((item_Right.f (⟨#[98]⟩ : ByteArray) (⟨#[107]⟩ : ByteArray) (⟨#[118]⟩ : ByteArray) false).bind fun t236 => (if t236 = true then ((item_Right.f (⟨#[]⟩ : ByteArray) (⟨#[]⟩ : ByteArray) (⟨#[]⟩ : ByteArray) false).bind fun t237 => (if t237 = true then (none) else ((item_Whole.f 1 0 0 0 1 y220).bind fun t238 => (if t238 = true then ((item_Whole.f 0 0 0 0 0 ([] : List (S23))).bind fun t239 => (if t239 = true then (none) else ((item_Size.f (⟨#[98]⟩ : ByteArray) (⟨#[107]⟩ : ByteArray) (⟨#[118]⟩ : ByteArray) false).bind fun t240 => (if t240 = 3 then ((item_Size.f (⟨#[98]⟩ : ByteArray) (⟨#[107]⟩ : ByteArray) (⟨#[]⟩ : ByteArray) true).bind fun t241 => (if t241 = 0 then (if bt224.2 = true then (if bt226.2.2.2.2.2.2 = true then ((item_Same.f k 1 0 0 0 1 y220 bt226.1 bt226.2.1 bt226.2.2.1 bt226.2.2.2.1 bt226.2.2.2.2.1 bt226.2.2.2.2.2.1).bind fun t242 => (if t242 = true then (if (bt224.1.size : Int) = 13 then ((item_Shard.f k (⟨#[98]⟩ : ByteArray) (⟨#[107]⟩ : ByteArray) 1).bind fun t243 => (if t243 = 1 then ((item_Of.f k 1 0 0 0 1 y220 1 1).bind fun t244 => (if (t244.length : Int) = 1 then ((item_Of.f k 1 0 0 0 1 y220 2 1).bind fun t247 => (if (t247.length : Int) = 0 then (some true) else (none))) else (none))) else (none))) else (none)) else (none))) else (none)) else (none)) else (none))) else (none))))) else (none))))) else (none)))))) = some r := h
 clear h
 obtain ⟨y220, hy220⟩ : ∃ y_ : List (S23), y_ = (([(⟨(⟨#[98]⟩ : ByteArray), (⟨#[107]⟩ : ByteArray), (⟨#[118]⟩ : ByteArray), false⟩ : S23)] : List (S23))) := ⟨_, rfl⟩
 replace H : ((item_Bytes.f k 1 0 0 0 1 y220).bind fun bt224 => ((item_Read.f k bt224.1).bind fun bt226 => ((item_Right.f (⟨#[98]⟩ : ByteArray) (⟨#[107]⟩ : ByteArray) (⟨#[118]⟩ : ByteArray) false).bind fun t236 => (if t236 = true then ((item_Right.f (⟨#[]⟩ : ByteArray) (⟨#[]⟩ : ByteArray) (⟨#[]⟩ : ByteArray) false).bind fun t237 => (if t237 = true then (none) else ((item_Whole.f 1 0 0 0 1 y220).bind fun t238 => (if t238 = true then ((item_Whole.f 0 0 0 0 0 ([] : List (S23))).bind fun t239 => (if t239 = true then (none) else ((item_Size.f (⟨#[98]⟩ : ByteArray) (⟨#[107]⟩ : ByteArray) (⟨#[118]⟩ : ByteArray) false).bind fun t240 => (if t240 = 3 then ((item_Size.f (⟨#[98]⟩ : ByteArray) (⟨#[107]⟩ : ByteArray) (⟨#[]⟩ : ByteArray) true).bind fun t241 => (if t241 = 0 then (if bt224.2 = true then (if bt226.2.2.2.2.2.2 = true then ((item_Same.f k 1 0 0 0 1 y220 bt226.1 bt226.2.1 bt226.2.2.1 bt226.2.2.2.1 bt226.2.2.2.2.1 bt226.2.2.2.2.2.1).bind fun t242 => (if t242 = true then (if (bt224.1.size : Int) = 13 then ((item_Shard.f k (⟨#[98]⟩ : ByteArray) (⟨#[107]⟩ : ByteArray) 1).bind fun t243 => (if t243 = 1 then ((item_Of.f k 1 0 0 0 1 y220 1 1).bind fun t244 => (if (t244.length : Int) = 1 then ((item_Of.f k 1 0 0 0 1 y220 2 1).bind fun t247 => (if (t247.length : Int) = 0 then (some true) else (none))) else (none))) else (none))) else (none)) else (none))) else (none)) else (none)) else (none))) else (none))))) else (none))))) else (none))))) = some r := by first | (rw [hy220]; with_reducible exact H) | (have H2_ := (Option.bind_some _ _).symm.trans H; rw [hy220]; with_reducible exact H2_) | (have H2_ := (Option.bind_some _ _).symm.trans H; with_reducible exact H2_) | with_reducible exact H | (rw [hy220]; exact H) | exact H
 have Ny220 := Aside0.mk hy220
 clear hy220
 replace H := Option.bind_eq_some_iff.mp H
 obtain ⟨⟨t224, t225⟩, A10, H⟩ := H
 replace H : ((item_Read.f k t224).bind fun bt226 => ((item_Right.f (⟨#[98]⟩ : ByteArray) (⟨#[107]⟩ : ByteArray) (⟨#[118]⟩ : ByteArray) false).bind fun t236 => (if t236 = true then ((item_Right.f (⟨#[]⟩ : ByteArray) (⟨#[]⟩ : ByteArray) (⟨#[]⟩ : ByteArray) false).bind fun t237 => (if t237 = true then (none) else ((item_Whole.f 1 0 0 0 1 y220).bind fun t238 => (if t238 = true then ((item_Whole.f 0 0 0 0 0 ([] : List (S23))).bind fun t239 => (if t239 = true then (none) else ((item_Size.f (⟨#[98]⟩ : ByteArray) (⟨#[107]⟩ : ByteArray) (⟨#[118]⟩ : ByteArray) false).bind fun t240 => (if t240 = 3 then ((item_Size.f (⟨#[98]⟩ : ByteArray) (⟨#[107]⟩ : ByteArray) (⟨#[]⟩ : ByteArray) true).bind fun t241 => (if t241 = 0 then (if t225 = true then (if bt226.2.2.2.2.2.2 = true then ((item_Same.f k 1 0 0 0 1 y220 bt226.1 bt226.2.1 bt226.2.2.1 bt226.2.2.2.1 bt226.2.2.2.2.1 bt226.2.2.2.2.2.1).bind fun t242 => (if t242 = true then (if (t224.size : Int) = 13 then ((item_Shard.f k (⟨#[98]⟩ : ByteArray) (⟨#[107]⟩ : ByteArray) 1).bind fun t243 => (if t243 = 1 then ((item_Of.f k 1 0 0 0 1 y220 1 1).bind fun t244 => (if (t244.length : Int) = 1 then ((item_Of.f k 1 0 0 0 1 y220 2 1).bind fun t247 => (if (t247.length : Int) = 0 then (some true) else (none))) else (none))) else (none))) else (none)) else (none))) else (none)) else (none)) else (none))) else (none))))) else (none))))) else (none)))) = some r := H
 have A1 := Aside0.mk A10
 clear A10
 replace H := Option.bind_eq_some_iff.mp H
 obtain ⟨⟨t226, t227, t228, t229, t230, t231, t234⟩, A20, H⟩ := H
 replace H : ((item_Right.f (⟨#[98]⟩ : ByteArray) (⟨#[107]⟩ : ByteArray) (⟨#[118]⟩ : ByteArray) false).bind fun t236 => (if t236 = true then ((item_Right.f (⟨#[]⟩ : ByteArray) (⟨#[]⟩ : ByteArray) (⟨#[]⟩ : ByteArray) false).bind fun t237 => (if t237 = true then (none) else ((item_Whole.f 1 0 0 0 1 y220).bind fun t238 => (if t238 = true then ((item_Whole.f 0 0 0 0 0 ([] : List (S23))).bind fun t239 => (if t239 = true then (none) else ((item_Size.f (⟨#[98]⟩ : ByteArray) (⟨#[107]⟩ : ByteArray) (⟨#[118]⟩ : ByteArray) false).bind fun t240 => (if t240 = 3 then ((item_Size.f (⟨#[98]⟩ : ByteArray) (⟨#[107]⟩ : ByteArray) (⟨#[]⟩ : ByteArray) true).bind fun t241 => (if t241 = 0 then (if t225 = true then (if t234 = true then ((item_Same.f k 1 0 0 0 1 y220 t226 t227 t228 t229 t230 t231).bind fun t242 => (if t242 = true then (if (t224.size : Int) = 13 then ((item_Shard.f k (⟨#[98]⟩ : ByteArray) (⟨#[107]⟩ : ByteArray) 1).bind fun t243 => (if t243 = 1 then ((item_Of.f k 1 0 0 0 1 y220 1 1).bind fun t244 => (if (t244.length : Int) = 1 then ((item_Of.f k 1 0 0 0 1 y220 2 1).bind fun t247 => (if (t247.length : Int) = 0 then (some true) else (none))) else (none))) else (none))) else (none)) else (none))) else (none)) else (none)) else (none))) else (none))))) else (none))))) else (none))) = some r := H
 have A2 := Aside0.mk A20
 clear A20
 replace H := Option.bind_eq_some_iff.mp H
 obtain ⟨t236, A30, H⟩ := H
 replace H : (if t236 = true then ((item_Right.f (⟨#[]⟩ : ByteArray) (⟨#[]⟩ : ByteArray) (⟨#[]⟩ : ByteArray) false).bind fun t237 => (if t237 = true then (none) else ((item_Whole.f 1 0 0 0 1 y220).bind fun t238 => (if t238 = true then ((item_Whole.f 0 0 0 0 0 ([] : List (S23))).bind fun t239 => (if t239 = true then (none) else ((item_Size.f (⟨#[98]⟩ : ByteArray) (⟨#[107]⟩ : ByteArray) (⟨#[118]⟩ : ByteArray) false).bind fun t240 => (if t240 = 3 then ((item_Size.f (⟨#[98]⟩ : ByteArray) (⟨#[107]⟩ : ByteArray) (⟨#[]⟩ : ByteArray) true).bind fun t241 => (if t241 = 0 then (if t225 = true then (if t234 = true then ((item_Same.f k 1 0 0 0 1 y220 t226 t227 t228 t229 t230 t231).bind fun t242 => (if t242 = true then (if (t224.size : Int) = 13 then ((item_Shard.f k (⟨#[98]⟩ : ByteArray) (⟨#[107]⟩ : ByteArray) 1).bind fun t243 => (if t243 = 1 then ((item_Of.f k 1 0 0 0 1 y220 1 1).bind fun t244 => (if (t244.length : Int) = 1 then ((item_Of.f k 1 0 0 0 1 y220 2 1).bind fun t247 => (if (t247.length : Int) = 0 then (some true) else (none))) else (none))) else (none))) else (none)) else (none))) else (none)) else (none)) else (none))) else (none))))) else (none))))) else (none)) = some r := H
 have A3 := Aside0.mk A30
 clear A30
 by_cases c4 : t236 = true
 rotate_left
 ·replace c4 := Bool.eq_false_iff.mpr c4
  subst c4
  have H1 : (none) = some r := by rw [if_neg (show ¬ (false = true) by decide)] at H; exact H
  clear H
  have H := H1
  clear H1
  exact absurd H (by simp)
 subst c4
 have H1 : ((item_Right.f (⟨#[]⟩ : ByteArray) (⟨#[]⟩ : ByteArray) (⟨#[]⟩ : ByteArray) false).bind fun t237 => (if t237 = true then (none) else ((item_Whole.f 1 0 0 0 1 y220).bind fun t238 => (if t238 = true then ((item_Whole.f 0 0 0 0 0 ([] : List (S23))).bind fun t239 => (if t239 = true then (none) else ((item_Size.f (⟨#[98]⟩ : ByteArray) (⟨#[107]⟩ : ByteArray) (⟨#[118]⟩ : ByteArray) false).bind fun t240 => (if t240 = 3 then ((item_Size.f (⟨#[98]⟩ : ByteArray) (⟨#[107]⟩ : ByteArray) (⟨#[]⟩ : ByteArray) true).bind fun t241 => (if t241 = 0 then (if t225 = true then (if t234 = true then ((item_Same.f k 1 0 0 0 1 y220 t226 t227 t228 t229 t230 t231).bind fun t242 => (if t242 = true then (if (t224.size : Int) = 13 then ((item_Shard.f k (⟨#[98]⟩ : ByteArray) (⟨#[107]⟩ : ByteArray) 1).bind fun t243 => (if t243 = 1 then ((item_Of.f k 1 0 0 0 1 y220 1 1).bind fun t244 => (if (t244.length : Int) = 1 then ((item_Of.f k 1 0 0 0 1 y220 2 1).bind fun t247 => (if (t247.length : Int) = 0 then (some true) else (none))) else (none))) else (none))) else (none)) else (none))) else (none)) else (none)) else (none))) else (none))))) else (none))))) = some r := by rw [if_pos rfl] at H; exact H
 clear H
 have H := H1
 clear H1
 replace H := Option.bind_eq_some_iff.mp H
 obtain ⟨t237, A50, H⟩ := H
 replace H : (if t237 = true then (none) else ((item_Whole.f 1 0 0 0 1 y220).bind fun t238 => (if t238 = true then ((item_Whole.f 0 0 0 0 0 ([] : List (S23))).bind fun t239 => (if t239 = true then (none) else ((item_Size.f (⟨#[98]⟩ : ByteArray) (⟨#[107]⟩ : ByteArray) (⟨#[118]⟩ : ByteArray) false).bind fun t240 => (if t240 = 3 then ((item_Size.f (⟨#[98]⟩ : ByteArray) (⟨#[107]⟩ : ByteArray) (⟨#[]⟩ : ByteArray) true).bind fun t241 => (if t241 = 0 then (if t225 = true then (if t234 = true then ((item_Same.f k 1 0 0 0 1 y220 t226 t227 t228 t229 t230 t231).bind fun t242 => (if t242 = true then (if (t224.size : Int) = 13 then ((item_Shard.f k (⟨#[98]⟩ : ByteArray) (⟨#[107]⟩ : ByteArray) 1).bind fun t243 => (if t243 = 1 then ((item_Of.f k 1 0 0 0 1 y220 1 1).bind fun t244 => (if (t244.length : Int) = 1 then ((item_Of.f k 1 0 0 0 1 y220 2 1).bind fun t247 => (if (t247.length : Int) = 0 then (some true) else (none))) else (none))) else (none))) else (none)) else (none))) else (none)) else (none)) else (none))) else (none))))) else (none)))) = some r := H
 have A5 := Aside0.mk A50
 clear A50
 by_cases c6 : t237 = true
 ·subst c6
  have H1 : (none) = some r := by rw [if_pos rfl] at H; exact H
  clear H
  have H := H1
  clear H1
  exact absurd H (by simp)
 replace c6 := Bool.eq_false_iff.mpr c6
 subst c6
 have H1 : ((item_Whole.f 1 0 0 0 1 y220).bind fun t238 => (if t238 = true then ((item_Whole.f 0 0 0 0 0 ([] : List (S23))).bind fun t239 => (if t239 = true then (none) else ((item_Size.f (⟨#[98]⟩ : ByteArray) (⟨#[107]⟩ : ByteArray) (⟨#[118]⟩ : ByteArray) false).bind fun t240 => (if t240 = 3 then ((item_Size.f (⟨#[98]⟩ : ByteArray) (⟨#[107]⟩ : ByteArray) (⟨#[]⟩ : ByteArray) true).bind fun t241 => (if t241 = 0 then (if t225 = true then (if t234 = true then ((item_Same.f k 1 0 0 0 1 y220 t226 t227 t228 t229 t230 t231).bind fun t242 => (if t242 = true then (if (t224.size : Int) = 13 then ((item_Shard.f k (⟨#[98]⟩ : ByteArray) (⟨#[107]⟩ : ByteArray) 1).bind fun t243 => (if t243 = 1 then ((item_Of.f k 1 0 0 0 1 y220 1 1).bind fun t244 => (if (t244.length : Int) = 1 then ((item_Of.f k 1 0 0 0 1 y220 2 1).bind fun t247 => (if (t247.length : Int) = 0 then (some true) else (none))) else (none))) else (none))) else (none)) else (none))) else (none)) else (none)) else (none))) else (none))))) else (none))) = some r := by rw [if_neg (show ¬ (false = true) by decide)] at H; exact H
 clear H
 have H := H1
 clear H1
 replace H := Option.bind_eq_some_iff.mp H
 obtain ⟨t238, A70, H⟩ := H
 replace H : (if t238 = true then ((item_Whole.f 0 0 0 0 0 ([] : List (S23))).bind fun t239 => (if t239 = true then (none) else ((item_Size.f (⟨#[98]⟩ : ByteArray) (⟨#[107]⟩ : ByteArray) (⟨#[118]⟩ : ByteArray) false).bind fun t240 => (if t240 = 3 then ((item_Size.f (⟨#[98]⟩ : ByteArray) (⟨#[107]⟩ : ByteArray) (⟨#[]⟩ : ByteArray) true).bind fun t241 => (if t241 = 0 then (if t225 = true then (if t234 = true then ((item_Same.f k 1 0 0 0 1 y220 t226 t227 t228 t229 t230 t231).bind fun t242 => (if t242 = true then (if (t224.size : Int) = 13 then ((item_Shard.f k (⟨#[98]⟩ : ByteArray) (⟨#[107]⟩ : ByteArray) 1).bind fun t243 => (if t243 = 1 then ((item_Of.f k 1 0 0 0 1 y220 1 1).bind fun t244 => (if (t244.length : Int) = 1 then ((item_Of.f k 1 0 0 0 1 y220 2 1).bind fun t247 => (if (t247.length : Int) = 0 then (some true) else (none))) else (none))) else (none))) else (none)) else (none))) else (none)) else (none)) else (none))) else (none))))) else (none)) = some r := H
 have A7 := Aside0.mk A70
 clear A70
 by_cases c8 : t238 = true
 rotate_left
 ·replace c8 := Bool.eq_false_iff.mpr c8
  subst c8
  have H1 : (none) = some r := by rw [if_neg (show ¬ (false = true) by decide)] at H; exact H
  clear H
  have H := H1
  clear H1
  exact absurd H (by simp)
 subst c8
 have H1 : ((item_Whole.f 0 0 0 0 0 ([] : List (S23))).bind fun t239 => (if t239 = true then (none) else ((item_Size.f (⟨#[98]⟩ : ByteArray) (⟨#[107]⟩ : ByteArray) (⟨#[118]⟩ : ByteArray) false).bind fun t240 => (if t240 = 3 then ((item_Size.f (⟨#[98]⟩ : ByteArray) (⟨#[107]⟩ : ByteArray) (⟨#[]⟩ : ByteArray) true).bind fun t241 => (if t241 = 0 then (if t225 = true then (if t234 = true then ((item_Same.f k 1 0 0 0 1 y220 t226 t227 t228 t229 t230 t231).bind fun t242 => (if t242 = true then (if (t224.size : Int) = 13 then ((item_Shard.f k (⟨#[98]⟩ : ByteArray) (⟨#[107]⟩ : ByteArray) 1).bind fun t243 => (if t243 = 1 then ((item_Of.f k 1 0 0 0 1 y220 1 1).bind fun t244 => (if (t244.length : Int) = 1 then ((item_Of.f k 1 0 0 0 1 y220 2 1).bind fun t247 => (if (t247.length : Int) = 0 then (some true) else (none))) else (none))) else (none))) else (none)) else (none))) else (none)) else (none)) else (none))) else (none))))) = some r := by rw [if_pos rfl] at H; exact H
 clear H
 have H := H1
 clear H1
 replace H := Option.bind_eq_some_iff.mp H
 obtain ⟨t239, A90, H⟩ := H
 replace H : (if t239 = true then (none) else ((item_Size.f (⟨#[98]⟩ : ByteArray) (⟨#[107]⟩ : ByteArray) (⟨#[118]⟩ : ByteArray) false).bind fun t240 => (if t240 = 3 then ((item_Size.f (⟨#[98]⟩ : ByteArray) (⟨#[107]⟩ : ByteArray) (⟨#[]⟩ : ByteArray) true).bind fun t241 => (if t241 = 0 then (if t225 = true then (if t234 = true then ((item_Same.f k 1 0 0 0 1 y220 t226 t227 t228 t229 t230 t231).bind fun t242 => (if t242 = true then (if (t224.size : Int) = 13 then ((item_Shard.f k (⟨#[98]⟩ : ByteArray) (⟨#[107]⟩ : ByteArray) 1).bind fun t243 => (if t243 = 1 then ((item_Of.f k 1 0 0 0 1 y220 1 1).bind fun t244 => (if (t244.length : Int) = 1 then ((item_Of.f k 1 0 0 0 1 y220 2 1).bind fun t247 => (if (t247.length : Int) = 0 then (some true) else (none))) else (none))) else (none))) else (none)) else (none))) else (none)) else (none)) else (none))) else (none)))) = some r := H
 have A9 := Aside0.mk A90
 clear A90
 by_cases c10 : t239 = true
 ·subst c10
  have H1 : (none) = some r := by rw [if_pos rfl] at H; exact H
  clear H
  have H := H1
  clear H1
  exact absurd H (by simp)
 replace c10 := Bool.eq_false_iff.mpr c10
 subst c10
 have H1 : ((item_Size.f (⟨#[98]⟩ : ByteArray) (⟨#[107]⟩ : ByteArray) (⟨#[118]⟩ : ByteArray) false).bind fun t240 => (if t240 = 3 then ((item_Size.f (⟨#[98]⟩ : ByteArray) (⟨#[107]⟩ : ByteArray) (⟨#[]⟩ : ByteArray) true).bind fun t241 => (if t241 = 0 then (if t225 = true then (if t234 = true then ((item_Same.f k 1 0 0 0 1 y220 t226 t227 t228 t229 t230 t231).bind fun t242 => (if t242 = true then (if (t224.size : Int) = 13 then ((item_Shard.f k (⟨#[98]⟩ : ByteArray) (⟨#[107]⟩ : ByteArray) 1).bind fun t243 => (if t243 = 1 then ((item_Of.f k 1 0 0 0 1 y220 1 1).bind fun t244 => (if (t244.length : Int) = 1 then ((item_Of.f k 1 0 0 0 1 y220 2 1).bind fun t247 => (if (t247.length : Int) = 0 then (some true) else (none))) else (none))) else (none))) else (none)) else (none))) else (none)) else (none)) else (none))) else (none))) = some r := by rw [if_neg (show ¬ (false = true) by decide)] at H; exact H
 clear H
 have H := H1
 clear H1
 replace H := Option.bind_eq_some_iff.mp H
 obtain ⟨t240, A110, H⟩ := H
 replace H : (if t240 = 3 then ((item_Size.f (⟨#[98]⟩ : ByteArray) (⟨#[107]⟩ : ByteArray) (⟨#[]⟩ : ByteArray) true).bind fun t241 => (if t241 = 0 then (if t225 = true then (if t234 = true then ((item_Same.f k 1 0 0 0 1 y220 t226 t227 t228 t229 t230 t231).bind fun t242 => (if t242 = true then (if (t224.size : Int) = 13 then ((item_Shard.f k (⟨#[98]⟩ : ByteArray) (⟨#[107]⟩ : ByteArray) 1).bind fun t243 => (if t243 = 1 then ((item_Of.f k 1 0 0 0 1 y220 1 1).bind fun t244 => (if (t244.length : Int) = 1 then ((item_Of.f k 1 0 0 0 1 y220 2 1).bind fun t247 => (if (t247.length : Int) = 0 then (some true) else (none))) else (none))) else (none))) else (none)) else (none))) else (none)) else (none)) else (none))) else (none)) = some r := H
 have A11 := Aside0.mk A110
 clear A110
 by_cases c12 : t240 = 3
 rotate_left
 ·rw [if_neg c12] at H
  exact absurd H (by simp)
 rw [if_pos c12] at H
 have c12b0 : (t240 == 3) = true := beq_iff_eq.mpr c12
 have c12b1 : (t240 != 3) = false := bne_eq_false_iff_eq.mpr c12
 clear c12
 replace H := Option.bind_eq_some_iff.mp H
 obtain ⟨t241, A130, H⟩ := H
 replace H : (if t241 = 0 then (if t225 = true then (if t234 = true then ((item_Same.f k 1 0 0 0 1 y220 t226 t227 t228 t229 t230 t231).bind fun t242 => (if t242 = true then (if (t224.size : Int) = 13 then ((item_Shard.f k (⟨#[98]⟩ : ByteArray) (⟨#[107]⟩ : ByteArray) 1).bind fun t243 => (if t243 = 1 then ((item_Of.f k 1 0 0 0 1 y220 1 1).bind fun t244 => (if (t244.length : Int) = 1 then ((item_Of.f k 1 0 0 0 1 y220 2 1).bind fun t247 => (if (t247.length : Int) = 0 then (some true) else (none))) else (none))) else (none))) else (none)) else (none))) else (none)) else (none)) else (none)) = some r := H
 have A13 := Aside0.mk A130
 clear A130
 by_cases c14 : t241 = 0
 rotate_left
 ·rw [if_neg c14] at H
  exact absurd H (by simp)
 rw [if_pos c14] at H
 have c14b0 : (t241 == 0) = true := beq_iff_eq.mpr c14
 have c14b1 : (t241 != 0) = false := bne_eq_false_iff_eq.mpr c14
 clear c14
 by_cases c15 : t225 = true
 rotate_left
 ·replace c15 := Bool.eq_false_iff.mpr c15
  subst c15
  have H1 : (none) = some r := by rw [if_neg (show ¬ (false = true) by decide)] at H; exact H
  clear H
  have H := H1
  clear H1
  exact absurd H (by simp)
 subst c15
 have H1 : (if t234 = true then ((item_Same.f k 1 0 0 0 1 y220 t226 t227 t228 t229 t230 t231).bind fun t242 => (if t242 = true then (if (t224.size : Int) = 13 then ((item_Shard.f k (⟨#[98]⟩ : ByteArray) (⟨#[107]⟩ : ByteArray) 1).bind fun t243 => (if t243 = 1 then ((item_Of.f k 1 0 0 0 1 y220 1 1).bind fun t244 => (if (t244.length : Int) = 1 then ((item_Of.f k 1 0 0 0 1 y220 2 1).bind fun t247 => (if (t247.length : Int) = 0 then (some true) else (none))) else (none))) else (none))) else (none)) else (none))) else (none)) = some r := by rw [if_pos rfl] at H; exact H
 clear H
 have H := H1
 clear H1
 by_cases c16 : t234 = true
 rotate_left
 ·replace c16 := Bool.eq_false_iff.mpr c16
  subst c16
  have H1 : (none) = some r := by rw [if_neg (show ¬ (false = true) by decide)] at H; exact H
  clear H
  have H := H1
  clear H1
  exact absurd H (by simp)
 subst c16
 have H1 : ((item_Same.f k 1 0 0 0 1 y220 t226 t227 t228 t229 t230 t231).bind fun t242 => (if t242 = true then (if (t224.size : Int) = 13 then ((item_Shard.f k (⟨#[98]⟩ : ByteArray) (⟨#[107]⟩ : ByteArray) 1).bind fun t243 => (if t243 = 1 then ((item_Of.f k 1 0 0 0 1 y220 1 1).bind fun t244 => (if (t244.length : Int) = 1 then ((item_Of.f k 1 0 0 0 1 y220 2 1).bind fun t247 => (if (t247.length : Int) = 0 then (some true) else (none))) else (none))) else (none))) else (none)) else (none))) = some r := by rw [if_pos rfl] at H; exact H
 clear H
 have H := H1
 clear H1
 replace H := Option.bind_eq_some_iff.mp H
 obtain ⟨t242, A170, H⟩ := H
 replace H : (if t242 = true then (if (t224.size : Int) = 13 then ((item_Shard.f k (⟨#[98]⟩ : ByteArray) (⟨#[107]⟩ : ByteArray) 1).bind fun t243 => (if t243 = 1 then ((item_Of.f k 1 0 0 0 1 y220 1 1).bind fun t244 => (if (t244.length : Int) = 1 then ((item_Of.f k 1 0 0 0 1 y220 2 1).bind fun t247 => (if (t247.length : Int) = 0 then (some true) else (none))) else (none))) else (none))) else (none)) else (none)) = some r := H
 have A17 := Aside0.mk A170
 clear A170
 by_cases c18 : t242 = true
 rotate_left
 ·replace c18 := Bool.eq_false_iff.mpr c18
  subst c18
  have H1 : (none) = some r := by rw [if_neg (show ¬ (false = true) by decide)] at H; exact H
  clear H
  have H := H1
  clear H1
  exact absurd H (by simp)
 subst c18
 have H1 : (if (t224.size : Int) = 13 then ((item_Shard.f k (⟨#[98]⟩ : ByteArray) (⟨#[107]⟩ : ByteArray) 1).bind fun t243 => (if t243 = 1 then ((item_Of.f k 1 0 0 0 1 y220 1 1).bind fun t244 => (if (t244.length : Int) = 1 then ((item_Of.f k 1 0 0 0 1 y220 2 1).bind fun t247 => (if (t247.length : Int) = 0 then (some true) else (none))) else (none))) else (none))) else (none)) = some r := by rw [if_pos rfl] at H; exact H
 clear H
 have H := H1
 clear H1
 by_cases c19 : (t224.size : Int) = 13
 rotate_left
 ·rw [if_neg c19] at H
  exact absurd H (by simp)
 rw [if_pos c19] at H
 have c19b0 : ((t224.size : Int) == 13) = true := beq_iff_eq.mpr c19
 have c19b1 : ((t224.size : Int) != 13) = false := bne_eq_false_iff_eq.mpr c19
 clear c19
 replace H := Option.bind_eq_some_iff.mp H
 obtain ⟨t243, A200, H⟩ := H
 replace H : (if t243 = 1 then ((item_Of.f k 1 0 0 0 1 y220 1 1).bind fun t244 => (if (t244.length : Int) = 1 then ((item_Of.f k 1 0 0 0 1 y220 2 1).bind fun t247 => (if (t247.length : Int) = 0 then (some true) else (none))) else (none))) else (none)) = some r := H
 have A20 := Aside0.mk A200
 clear A200
 by_cases c21 : t243 = 1
 rotate_left
 ·rw [if_neg c21] at H
  exact absurd H (by simp)
 rw [if_pos c21] at H
 have c21b0 : (t243 == 1) = true := beq_iff_eq.mpr c21
 have c21b1 : (t243 != 1) = false := bne_eq_false_iff_eq.mpr c21
 clear c21
 replace H := Option.bind_eq_some_iff.mp H
 obtain ⟨t244, A220, H⟩ := H
 replace H : (if (t244.length : Int) = 1 then ((item_Of.f k 1 0 0 0 1 y220 2 1).bind fun t247 => (if (t247.length : Int) = 0 then (some true) else (none))) else (none)) = some r := H
 have A22 := Aside0.mk A220
 clear A220
 by_cases c23 : (t244.length : Int) = 1
 rotate_left
 ·rw [if_neg c23] at H
  exact absurd H (by simp)
 rw [if_pos c23] at H
 have c23b0 : ((t244.length : Int) == 1) = true := beq_iff_eq.mpr c23
 have c23b1 : ((t244.length : Int) != 1) = false := bne_eq_false_iff_eq.mpr c23
 clear c23
 replace H := Option.bind_eq_some_iff.mp H
 obtain ⟨t247, A240, H⟩ := H
 replace H : (if (t247.length : Int) = 0 then (some true) else (none)) = some r := H
 have A24 := Aside0.mk A240
 clear A240
 by_cases c25 : (t247.length : Int) = 0
 rotate_left
 ·rw [if_neg c25] at H
  exact absurd H (by simp)
 rw [if_pos c25] at H
 have c25b0 : ((t247.length : Int) == 0) = true := beq_iff_eq.mpr c25
 have c25b1 : ((t247.length : Int) != 0) = false := bne_eq_false_iff_eq.mpr c25
 clear c25
 obtain rfl := Option.some.inj H
 go_enter Try.func11, Try.ntmps11
 go_wp2_with (first | ((with_reducible refine gate_dst (N := 1) rfl ?_); refine Ka_ 1 #[.string (⟨#[]⟩ : ByteArray), .string (⟨#[]⟩ : ByteArray), .string (⟨#[]⟩ : ByteArray), .bool false] 23 ?_; intro gb219 hg w26 hbox hb; have BK219 := Aside0.mk (hbox); have GW219 := Kw_ HB hg; have GE219 := GW219; replace HB := Ks_ HB hb; clear hb hbox hg; obtain ⟨hcz27_0, hcz27_1, hcz27_2, hcz27_3, hfz27_0, hfz27_1, hfz27_2, hfz27_3⟩ := Ke4_ BK219.out) | ((with_reducible refine gate_dst (N := 11) rfl ?_); refine Kd.R_lit k23 _ 23 ?hg (N := 11) ?hd (xs := ([(⟨(⟨#[98]⟩ : ByteArray), (⟨#[107]⟩ : ByteArray), (⟨#[118]⟩ : ByteArray), false⟩ : S23)] : List (S23))) (inner := [.string (⟨#[98]⟩ : ByteArray), .string (⟨#[107]⟩ : ByteArray), .string (⟨#[118]⟩ : ByteArray), .bool false]) (ok := fun _ => True) (okp := fun _ => True) ?hr ?hp (fun _ hk => hk) trivial (Below.refl _ _) (Nat.le_refl _) (by simp) ?_; (case hd => rfl); (case hg => rfl); (case hr => first | (go_simp; done) | (go_simp; rfl)); (case hp => exact (Reps.c4 (show Kd.M k23 _ _ _ (⟨(⟨#[98]⟩ : ByteArray), (⟨#[107]⟩ : ByteArray), (⟨#[118]⟩ : ByteArray), false⟩ : S23) [.string (⟨#[98]⟩ : ByteArray), .string (⟨#[107]⟩ : ByteArray), .string (⟨#[118]⟩ : ByteArray), .bool false] from (k23_mkM _ _ _ (⟨(⟨#[98]⟩ : ByteArray), (⟨#[107]⟩ : ByteArray), (⟨#[118]⟩ : ByteArray), false⟩ : S23) )) (Reps.none _ _))); intro v221 w28 ho29 hb hg_ hnew_; clear hg_ hnew_; (first | rw [← Ny220.out] at ho29 | (simp only [Int.reduceToNat] at ho29; rw [← Ny220.out] at ho29)); have HO222 := Aside0.mk (Kd.R_lower (Kd.R_newB ho29 (g := gb219) (o := .cells #[.string (⟨#[98]⟩ : ByteArray), .string (⟨#[107]⟩ : ByteArray), .string (⟨#[118]⟩ : ByteArray), .bool false] 23 (0, 0)) (by refine Kv_ ?_; refine blk_put (cs := #[.string (⟨#[98]⟩ : ByteArray), .string (⟨#[107]⟩ : ByteArray), .string (⟨#[118]⟩ : ByteArray), .bool false]) ?_ 3 _ rfl; refine Kv_ ?_; refine blk_put (cs := #[.string (⟨#[98]⟩ : ByteArray), .string (⟨#[107]⟩ : ByteArray), .string (⟨#[]⟩ : ByteArray), .bool false]) ?_ 2 _ rfl; refine Kv_ ?_; refine blk_put (cs := #[.string (⟨#[98]⟩ : ByteArray), .string (⟨#[]⟩ : ByteArray), .string (⟨#[]⟩ : ByteArray), .bool false]) ?_ 1 _ rfl; refine Kv_ ?_; refine blk_put (cs := #[.string (⟨#[]⟩ : ByteArray), .string (⟨#[]⟩ : ByteArray), .string (⟨#[]⟩ : ByteArray), .bool false]) ?_ 0 _ rfl; exact Kq_ BK219)) (below_size (Kz_ HB GE219))); replace BK219 := Aside0.mk (blk_below (g := gb219) (o := .cells #[.string (⟨#[98]⟩ : ByteArray), .string (⟨#[107]⟩ : ByteArray), .string (⟨#[118]⟩ : ByteArray), .bool false] 23 (0, 0)) (by refine Kv_ ?_; refine blk_put (cs := #[.string (⟨#[98]⟩ : ByteArray), .string (⟨#[107]⟩ : ByteArray), .string (⟨#[118]⟩ : ByteArray), .bool false]) ?_ 3 _ rfl; refine Kv_ ?_; refine blk_put (cs := #[.string (⟨#[98]⟩ : ByteArray), .string (⟨#[107]⟩ : ByteArray), .string (⟨#[]⟩ : ByteArray), .bool false]) ?_ 2 _ rfl; refine Kv_ ?_; refine blk_put (cs := #[.string (⟨#[98]⟩ : ByteArray), .string (⟨#[]⟩ : ByteArray), .string (⟨#[]⟩ : ByteArray), .bool false]) ?_ 1 _ rfl; refine Kv_ ?_; refine blk_put (cs := #[.string (⟨#[]⟩ : ByteArray), .string (⟨#[]⟩ : ByteArray), .string (⟨#[]⟩ : ByteArray), .bool false]) ?_ 0 _ rfl; exact Kq_ BK219) hb); replace HB := Kt_ HB GE219 hb; clear hb ho29; obtain ⟨Ao30, co30, eo30⟩ := Kd.R_slice HO222.out; subst eo30) | ((with_reducible refine gate_dst (N := 2) rfl ?_); refine Ka_ 2 #[.int .u64 0, .int .u64 0, .int .u64 0, .int .u64 0, .int .i64 0, .slice none 0 0] 43 ?_; intro gb223 hg w31 hbox hb; have BK223 := Aside0.mk (hbox); have GW223 := Kw_ HB hg; have GE223 := GW223; have NB219_223 := Kl_ BK219 hg; have NB223_219 := Kr_ BK219 hg; replace HO222 := Aside0.mk (Kd.R_below (Ku_ HO222) hb); replace BK219 := Kb_ BK219 hb; replace HB := Ks_ HB hb; clear hb hbox hg; have hnb32 := NB223_219.out; have hnc32 := NB219_223.out; obtain ⟨hcz33_0, hcz33_1, hcz33_2, hcz33_3, hcz33_4, hcz33_5, hfz33_0, hfz33_1, hfz33_2, hfz33_3, hfz33_4, hfz33_5⟩ := Ke6_ BK223.out) | ((with_reducible refine gate_callee (f := 15) rfl ?_); refine Kg_ (some 15) rfl rfl Try.func15 (by kernel_rfl) rfl #[.agg #[.int .u64 1, .int .u64 0, .int .u64 0, .int .u64 0, .int .i64 1, .slice Ao30 y220.length co30]] rfl ?_; (with_reducible refine (item_Bytes.calls k 1 0 0 0 1 _ _ y220 t224 true _ ?side1 ?side2 A1.out).mono ?_); (case side1 => refine (Kd.R_reads' (e := 23) (base := w.heap.size) (ok := fun k_ => (True ∧ k_ ≠ gb219)) (n := y220.length) (c := co30) ?_).2.2; exact (by (with_reducible repeat (first | apply Kd.R_alloc | apply Kd.R_drewN | apply Kd.R_drew)); exact (Kd.R_mono (Kd.R_far (p := ⟨gb223, 5, none⟩) (Kd.R_far (p := ⟨gb223, 4, none⟩) (Kd.R_far (p := ⟨gb223, 3, none⟩) (Kd.R_far (p := ⟨gb223, 2, none⟩) (Kd.R_far (p := ⟨gb223, 1, none⟩) (Kd.R_far (p := ⟨gb223, 0, none⟩) (Kd.R_types HO222.out BK223.out (by decide)) (fun _ hk => hk.2) (.int .u64 1)) (fun _ hk => hk.2) (.int .u64 0)) (fun _ hk => hk.2) (.int .u64 0)) (fun _ hk => hk.2) (.int .u64 0)) (fun _ hk => hk.2) (.int .i64 1)) (fun _ hk => hk.2) (.slice Ao30 y220.length co30)) (fun _ h_ => h_.1)))); (case side2 => exact (Kd.R_reads' HO222.out).2.1); rintro e w34 ⟨rfl, hb⟩; refine ⟨_, rfl, ?_⟩; replace HO222 := Aside0.mk (Kd.R_below (by (with_reducible repeat (first | apply Kd.R_alloc | apply Kd.R_drewN | apply Kd.R_drew)); exact (Kd.R_mono (Kd.R_far (p := ⟨gb223, 5, none⟩) (Kd.R_far (p := ⟨gb223, 4, none⟩) (Kd.R_far (p := ⟨gb223, 3, none⟩) (Kd.R_far (p := ⟨gb223, 2, none⟩) (Kd.R_far (p := ⟨gb223, 1, none⟩) (Kd.R_far (p := ⟨gb223, 0, none⟩) (Kd.R_types HO222.out BK223.out (by decide)) (fun _ hk => hk.2) (.int .u64 1)) (fun _ hk => hk.2) (.int .u64 0)) (fun _ hk => hk.2) (.int .u64 0)) (fun _ hk => hk.2) (.int .u64 0)) (fun _ hk => hk.2) (.int .i64 1)) (fun _ hk => hk.2) (.slice Ao30 y220.length co30)) (fun _ h_ => h_.1))) hb); replace BK219 := Kf_ BK219 NB219_223 hb; replace BK223 := Aside0.mk (blk_below (g := gb223) (o := .cells #[.int .u64 1, .int .u64 0, .int .u64 0, .int .u64 0, .int .i64 1, .slice Ao30 y220.length co30] 43 (0, 0)) (by refine Kv_ ?_; refine blk_put (cs := #[.int .u64 1, .int .u64 0, .int .u64 0, .int .u64 0, .int .i64 1, .slice none 0 0]) ?_ 5 _ rfl; refine Kv_ ?_; refine blk_put (cs := #[.int .u64 1, .int .u64 0, .int .u64 0, .int .u64 0, .int .i64 0, .slice none 0 0]) ?_ 4 _ rfl; refine Kv_ ?_; refine blk_put (cs := #[.int .u64 1, .int .u64 0, .int .u64 0, .int .u64 0, .int .i64 0, .slice none 0 0]) ?_ 3 _ rfl; refine Kv_ ?_; refine blk_put (cs := #[.int .u64 1, .int .u64 0, .int .u64 0, .int .u64 0, .int .i64 0, .slice none 0 0]) ?_ 2 _ rfl; refine Kv_ ?_; refine blk_put (cs := #[.int .u64 1, .int .u64 0, .int .u64 0, .int .u64 0, .int .i64 0, .slice none 0 0]) ?_ 1 _ rfl; refine Kv_ ?_; refine blk_put (cs := #[.int .u64 0, .int .u64 0, .int .u64 0, .int .u64 0, .int .i64 0, .slice none 0 0]) ?_ 0 _ rfl; exact Kq_ BK223) hb); replace HB := Kt_ HB GE223 hb; (try clear hb); (try clear hb2); (try clear hk); (try clear hi)) | ((with_reducible refine gate_callee (f := 31) rfl ?_); refine Kg_ (some 20) rfl rfl Try.func31 (by kernel_rfl) rfl #[.string t224] rfl ?_; (with_reducible refine (item_Read.calls k t224 t226 t227 t228 t229 t230 t231 true _ A2.out).mono ?_); rintro e w35 ⟨v232, rfl, ho0, hb⟩; refine ⟨_, rfl, ?_⟩; have HO233 := Aside0.mk (Kd.R_lower (Kd.R_newB (Kd.R_new' ho0 (Kd.R_lt (Ku_ HO222))) (g := gb219) (o := .cells #[.string (⟨#[98]⟩ : ByteArray), .string (⟨#[107]⟩ : ByteArray), .string (⟨#[118]⟩ : ByteArray), .bool false] 23 (0, 0)) (Kq_ BK219)) (below_size (K2a_ HB GE219 GE223))); replace HO222 := Aside0.mk (Kd.R_elder' (Ku_ HO222) (Kd.R_base ho0) hb); replace BK219 := Kb_ BK219 hb; replace BK223 := Kb_ BK223 hb; replace HB := Ks_ HB hb; (try clear hb); (try clear hb2); (try clear hk); (try clear hi); (try clear ho0)) | ((with_reducible refine gate_dst (N := 5) rfl ?_); refine Ka_ 5 #[.int .u64 0, .int .u64 0, .int .u64 0, .int .u64 0, .int .i64 0, .slice none 0 0] 43 ?_; intro gb235 hg w36 hbox hb; have BK235 := Aside0.mk (hbox); have GW235 := Kw_ HB hg; have GE235 := GW235; have NB219_235 := Kl_ BK219 hg; have NB235_219 := Kr_ BK219 hg; have NB223_235 := Kl_ BK223 hg; have NB235_223 := Kr_ BK223 hg; replace HO222 := Aside0.mk (Kd.R_below (Ku_ HO222) hb); replace HO233 := Aside0.mk (Kd.R_below (Ku_ HO233) hb); replace BK219 := Kb_ BK219 hb; replace BK223 := Kb_ BK223 hb; replace HB := Ks_ HB hb; clear hb hbox hg; have hnb37 := NB235_219.out; have hnc37 := NB219_235.out; have hnb38 := NB235_223.out; have hnc38 := NB223_235.out; obtain ⟨hcz39_0, hcz39_1, hcz39_2, hcz39_3, hcz39_4, hcz39_5, hfz39_0, hfz39_1, hfz39_2, hfz39_3, hfz39_4, hfz39_5⟩ := Ke6_ BK235.out; obtain ⟨Ao40, co40, eo40⟩ := Kd.R_slice HO233.out; subst eo40; obtain ⟨hcz41_0, hcz41_1, hcz41_2, hcz41_3, hfz41_0, hfz41_1, hfz41_2, hfz41_3⟩ := Ke4_ BK219.out) | ((with_reducible refine gate_callee (f := 18) rfl ?_); refine Kg_ (some 24) rfl rfl Try.func18 (by kernel_rfl) rfl #[.agg #[.string (⟨#[98]⟩ : ByteArray), .string (⟨#[107]⟩ : ByteArray), .string (⟨#[118]⟩ : ByteArray), .bool false]] rfl ?_; (with_reducible refine (item_Right.calls (⟨#[98]⟩ : ByteArray) (⟨#[107]⟩ : ByteArray) (⟨#[118]⟩ : ByteArray) false true _ A3.out).mono ?_); rintro e w42 ⟨rfl, hb⟩; refine ⟨_, rfl, ?_⟩; replace HO222 := Aside0.mk (Kd.R_below (by (with_reducible repeat (first | apply Kd.R_alloc | apply Kd.R_drewN | apply Kd.R_drew)); exact (Kd.R_mono (Kd.R_far (p := ⟨gb235, 5, none⟩) (Kd.R_far (p := ⟨gb235, 4, none⟩) (Kd.R_far (p := ⟨gb235, 3, none⟩) (Kd.R_far (p := ⟨gb235, 2, none⟩) (Kd.R_far (p := ⟨gb235, 1, none⟩) (Kd.R_far (p := ⟨gb235, 0, none⟩) (Kd.R_types HO222.out BK235.out (by decide)) (fun _ hk => hk.2) (.int .u64 t226)) (fun _ hk => hk.2) (.int .u64 t227)) (fun _ hk => hk.2) (.int .u64 t228)) (fun _ hk => hk.2) (.int .u64 t229)) (fun _ hk => hk.2) (.int .i64 t230)) (fun _ hk => hk.2) (.slice Ao40 t231.length co40)) (fun _ h_ => h_.1))) hb); replace HO233 := Aside0.mk (Kd.R_below (by (with_reducible repeat (first | apply Kd.R_alloc | apply Kd.R_drewN | apply Kd.R_drew)); exact (Kd.R_mono (Kd.R_far (p := ⟨gb235, 5, none⟩) (Kd.R_far (p := ⟨gb235, 4, none⟩) (Kd.R_far (p := ⟨gb235, 3, none⟩) (Kd.R_far (p := ⟨gb235, 2, none⟩) (Kd.R_far (p := ⟨gb235, 1, none⟩) (Kd.R_far (p := ⟨gb235, 0, none⟩) (Kd.R_types HO233.out BK235.out (by decide)) (fun _ hk => hk.2) (.int .u64 t226)) (fun _ hk => hk.2) (.int .u64 t227)) (fun _ hk => hk.2) (.int .u64 t228)) (fun _ hk => hk.2) (.int .u64 t229)) (fun _ hk => hk.2) (.int .i64 t230)) (fun _ hk => hk.2) (.slice Ao40 t231.length co40)) (fun _ h_ => h_.1))) hb); replace BK219 := Kf_ BK219 NB219_235 hb; replace BK223 := Kf_ BK223 NB223_235 hb; replace BK235 := Aside0.mk (blk_below (g := gb235) (o := .cells #[.int .u64 t226, .int .u64 t227, .int .u64 t228, .int .u64 t229, .int .i64 t230, .slice Ao40 t231.length co40] 43 (0, 0)) (by refine Kv_ ?_; refine blk_put (cs := #[.int .u64 t226, .int .u64 t227, .int .u64 t228, .int .u64 t229, .int .i64 t230, .slice none 0 0]) ?_ 5 _ rfl; refine Kv_ ?_; refine blk_put (cs := #[.int .u64 t226, .int .u64 t227, .int .u64 t228, .int .u64 t229, .int .i64 0, .slice none 0 0]) ?_ 4 _ rfl; refine Kv_ ?_; refine blk_put (cs := #[.int .u64 t226, .int .u64 t227, .int .u64 t228, .int .u64 0, .int .i64 0, .slice none 0 0]) ?_ 3 _ rfl; refine Kv_ ?_; refine blk_put (cs := #[.int .u64 t226, .int .u64 t227, .int .u64 0, .int .u64 0, .int .i64 0, .slice none 0 0]) ?_ 2 _ rfl; refine Kv_ ?_; refine blk_put (cs := #[.int .u64 t226, .int .u64 0, .int .u64 0, .int .u64 0, .int .i64 0, .slice none 0 0]) ?_ 1 _ rfl; refine Kv_ ?_; refine blk_put (cs := #[.int .u64 0, .int .u64 0, .int .u64 0, .int .u64 0, .int .i64 0, .slice none 0 0]) ?_ 0 _ rfl; exact Kq_ BK235) hb); replace HB := Kt_ HB GE235 hb; (try clear hb); (try clear hb2); (try clear hk); (try clear hi)) | (go_at_call 18; (with_reducible refine (item_Right.calls (⟨#[]⟩ : ByteArray) (⟨#[]⟩ : ByteArray) (⟨#[]⟩ : ByteArray) false false _ A5.out).mono ?_); rintro e w43 ⟨rfl, hb⟩; replace HO222 := Aside0.mk (Kd.R_below (Ku_ HO222) hb); replace HO233 := Aside0.mk (Kd.R_below (Ku_ HO233) hb); replace BK219 := Kb_ BK219 hb; replace BK223 := Kb_ BK223 hb; replace BK235 := Kb_ BK235 hb; replace HB := Ks_ HB hb; (try clear hb); (try clear hb2); (try clear hk); (try clear hi); obtain ⟨hcz44_0, hcz44_1, hcz44_2, hcz44_3, hcz44_4, hcz44_5, hfz44_0, hfz44_1, hfz44_2, hfz44_3, hfz44_4, hfz44_5⟩ := Ke6_ BK223.out) | (go_at_call 22; (with_reducible refine (item_Whole.calls 1 0 0 0 1 _ _ y220 true _ ?side1 ?side2 A7.out).mono ?_); (case side1 => repeat (first | exact (Kd.R_reads' HO222.out).2.2 | (with_reducible refine Kd.C_alloc ?_ _) | (with_reducible refine Kd.C_drewN ?_ _) | (with_reducible refine Kd.C_drew ?_))); (case side2 => exact (Kd.R_reads' HO222.out).2.1); rintro e w45 ⟨rfl, hb⟩; replace HO222 := Aside0.mk (Kd.R_below (Ku_ HO222) hb); replace HO233 := Aside0.mk (Kd.R_below (Ku_ HO233) hb); replace BK219 := Kb_ BK219 hb; replace BK223 := Kb_ BK223 hb; replace BK235 := Kb_ BK235 hb; replace HB := Ks_ HB hb; (try clear hb); (try clear hb2); (try clear hk); (try clear hi)) | (go_at_call 22; (refine (item_Whole.calls 0 0 0 0 0 _ _ ([] : List (S23)) false _ ?side1 ?side2 A9.out).mono ?_); (case side1 => exact Kd.C_nil _ _); (case side2 => exact Nat.le_refl _); rintro e w46 ⟨rfl, hb⟩; replace HO222 := Aside0.mk (Kd.R_below (Ku_ HO222) hb); replace HO233 := Aside0.mk (Kd.R_below (Ku_ HO233) hb); replace BK219 := Kb_ BK219 hb; replace BK223 := Kb_ BK223 hb; replace BK235 := Kb_ BK235 hb; replace HB := Ks_ HB hb; (try clear hb); (try clear hb2); (try clear hk); (try clear hi); obtain ⟨hcz47_0, hcz47_1, hcz47_2, hcz47_3, hfz47_0, hfz47_1, hfz47_2, hfz47_3⟩ := Ke4_ BK219.out) | (go_at_call 20; (with_reducible refine (item_Size.calls (⟨#[98]⟩ : ByteArray) (⟨#[107]⟩ : ByteArray) (⟨#[118]⟩ : ByteArray) false t240 _ A11.out).mono ?_); rintro e w48 ⟨rfl, hb⟩; replace HO222 := Aside0.mk (Kd.R_below (Ku_ HO222) hb); replace HO233 := Aside0.mk (Kd.R_below (Ku_ HO233) hb); replace BK219 := Kb_ BK219 hb; replace BK223 := Kb_ BK223 hb; replace BK235 := Kb_ BK235 hb; replace HB := Ks_ HB hb; (try clear hb); (try clear hb2); (try clear hk); (try clear hi)) | (go_at_call 20; (with_reducible refine (item_Size.calls (⟨#[98]⟩ : ByteArray) (⟨#[107]⟩ : ByteArray) (⟨#[]⟩ : ByteArray) true t241 _ A13.out).mono ?_); rintro e w49 ⟨rfl, hb⟩; replace HO222 := Aside0.mk (Kd.R_below (Ku_ HO222) hb); replace HO233 := Aside0.mk (Kd.R_below (Ku_ HO233) hb); replace BK219 := Kb_ BK219 hb; replace BK223 := Kb_ BK223 hb; replace BK235 := Kb_ BK235 hb; replace HB := Ks_ HB hb; (try clear hb); (try clear hb2); (try clear hk); (try clear hi); obtain ⟨hcz50_0, hcz50_1, hcz50_2, hcz50_3, hcz50_4, hcz50_5, hfz50_0, hfz50_1, hfz50_2, hfz50_3, hfz50_4, hfz50_5⟩ := Ke6_ BK223.out; obtain ⟨hcz51_0, hcz51_1, hcz51_2, hcz51_3, hcz51_4, hcz51_5, hfz51_0, hfz51_1, hfz51_2, hfz51_3, hfz51_4, hfz51_5⟩ := Ke6_ BK235.out) | (go_at_call 24; (with_reducible refine (item_Same.calls k 1 0 0 0 1 _ _ y220 t226 t227 t228 t229 t230 _ _ t231 true _ ?side1 ?side2 ?side3 ?side4 A17.out).mono ?_); (case side1 => repeat (first | exact (Kd.R_reads' HO222.out).2.2 | (with_reducible refine Kd.C_alloc ?_ _) | (with_reducible refine Kd.C_drewN ?_ _) | (with_reducible refine Kd.C_drew ?_))); (case side2 => exact (Kd.R_reads' HO222.out).2.1); (case side3 => repeat (first | exact (Kd.R_reads' HO233.out).2.2 | (with_reducible refine Kd.C_alloc ?_ _) | (with_reducible refine Kd.C_drewN ?_ _) | (with_reducible refine Kd.C_drew ?_))); (case side4 => exact (Kd.R_reads' HO233.out).2.1); rintro e w52 ⟨rfl, hb⟩; replace HO222 := Aside0.mk (Kd.R_below (Ku_ HO222) hb); replace HO233 := Aside0.mk (Kd.R_below (Ku_ HO233) hb); replace BK219 := Kb_ BK219 hb; replace BK223 := Kb_ BK223 hb; replace BK235 := Kb_ BK235 hb; replace HB := Ks_ HB hb; (try clear hb); (try clear hb2); (try clear hk); (try clear hi)) | (go_at_call 28; (with_reducible refine (item_Shard.calls k (⟨#[98]⟩ : ByteArray) (⟨#[107]⟩ : ByteArray) 1 t243 _ A20.out).mono ?_); rintro e w53 ⟨rfl, hb⟩; replace HO222 := Aside0.mk (Kd.R_below (Ku_ HO222) hb); replace HO233 := Aside0.mk (Kd.R_below (Ku_ HO233) hb); replace BK219 := Kb_ BK219 hb; replace BK223 := Kb_ BK223 hb; replace BK235 := Kb_ BK235 hb; replace HB := Ks_ HB hb; (try clear hb); (try clear hb2); (try clear hk); (try clear hi); obtain ⟨hcz54_0, hcz54_1, hcz54_2, hcz54_3, hcz54_4, hcz54_5, hfz54_0, hfz54_1, hfz54_2, hfz54_3, hfz54_4, hfz54_5⟩ := Ke6_ BK223.out) | (go_at_call 26; (with_reducible refine (item_Of.calls k 1 0 0 0 1 _ _ y220 1 1 t244 _ ?side1 ?side2 A22.out).mono ?_); (case side1 => repeat (first | exact (Kd.R_reads' HO222.out).2.2 | (with_reducible refine Kd.C_alloc ?_ _) | (with_reducible refine Kd.C_drewN ?_ _) | (with_reducible refine Kd.C_drew ?_))); (case side2 => exact (Kd.R_reads' HO222.out).2.1); rintro e w55 ⟨v245, rfl, ho0, hb⟩; have HO246 := Aside0.mk (Kd.R_lower (Kd.R_newB (Kd.R_new' (Kd.R_new' ho0 (Kd.R_lt (Ku_ HO222))) (Kd.R_lt (Ku_ HO233))) (g := gb219) (o := .cells #[.string (⟨#[98]⟩ : ByteArray), .string (⟨#[107]⟩ : ByteArray), .string (⟨#[118]⟩ : ByteArray), .bool false] 23 (0, 0)) (Kq_ BK219)) (below_size (K3a_ HB GE219 GE223 GE235))); replace HO222 := Aside0.mk (Kd.R_elder' (Ku_ HO222) (Kd.R_base ho0) hb); replace HO233 := Aside0.mk (Kd.R_elder' (Ku_ HO233) (Kd.R_base ho0) hb); replace BK219 := Kb_ BK219 hb; replace BK223 := Kb_ BK223 hb; replace BK235 := Kb_ BK235 hb; replace HB := Ks_ HB hb; (try clear hb); (try clear hb2); (try clear hk); (try clear hi); (try clear ho0); obtain ⟨Ao56, co56, eo56⟩ := Kd.R_slice HO246.out; subst eo56; obtain ⟨hcz57_0, hcz57_1, hcz57_2, hcz57_3, hcz57_4, hcz57_5, hfz57_0, hfz57_1, hfz57_2, hfz57_3, hfz57_4, hfz57_5⟩ := Ke6_ BK223.out) | (go_at_call 26; (with_reducible refine (item_Of.calls k 1 0 0 0 1 _ _ y220 2 1 t247 _ ?side1 ?side2 A24.out).mono ?_); (case side1 => repeat (first | exact (Kd.R_reads' HO222.out).2.2 | (with_reducible refine Kd.C_alloc ?_ _) | (with_reducible refine Kd.C_drewN ?_ _) | (with_reducible refine Kd.C_drew ?_))); (case side2 => exact (Kd.R_reads' HO222.out).2.1); rintro e w58 ⟨v248, rfl, ho0, hb⟩; have HO249 := Aside0.mk (Kd.R_lower (Kd.R_newB (Kd.R_new' (Kd.R_new' (Kd.R_new' ho0 (Kd.R_lt (Ku_ HO222))) (Kd.R_lt (Ku_ HO233))) (Kd.R_lt (Ku_ HO246))) (g := gb219) (o := .cells #[.string (⟨#[98]⟩ : ByteArray), .string (⟨#[107]⟩ : ByteArray), .string (⟨#[118]⟩ : ByteArray), .bool false] 23 (0, 0)) (Kq_ BK219)) (below_size (K3a_ HB GE219 GE223 GE235))); replace HO222 := Aside0.mk (Kd.R_elder' (Ku_ HO222) (Kd.R_base ho0) hb); replace HO233 := Aside0.mk (Kd.R_elder' (Ku_ HO233) (Kd.R_base ho0) hb); replace HO246 := Aside0.mk (Kd.R_elder' (Ku_ HO246) (Kd.R_base ho0) hb); replace BK219 := Kb_ BK219 hb; replace BK223 := Kb_ BK223 hb; replace BK235 := Kb_ BK235 hb; replace HB := Ks_ HB hb; (try clear hb); (try clear hb2); (try clear hk); (try clear hi); (try clear ho0); obtain ⟨Ao59, co59, eo59⟩ := Kd.R_slice HO249.out; subst eo59))
 go_ret
 exact ⟨Kh_, K3a_ HB GE219 GE223 GE235⟩
end Go.Proofs.Ytoogchgoiciggaa.Q
