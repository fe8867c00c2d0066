import Derived.Test.YtoogchgoiciggaaQx0
import Derived.Test.YtoogchgoiciggaaGItemSizes0
import Derived.Test.YtoogchgoiciggaaGItemSizes1
import Derived.Test.YtoogchgoiciggaaGItemSizes4
import Derived.Test.YtoogchgoiciggaaWBMore
import Derived.Test.YtoogchgoiciggaaGItemSizes3
namespace Go.Proofs.Ytoogchgoiciggaa.Q
open Go.RowKit Go.Proofs.YtoogchgoiciggaaW.PrintWords Go.Proofs.YtoogchgoiciggaaW.PrintLast Go.Proofs.YtoogchgoiciggaaW.PrintMore
attribute [local go_sem] max2_int min2_int max_two min_two max_three min_three max_four min_four   -- for this text's walks alone
set_option linter.unusedVariables false
set_option linter.unusedSimpArgs false
/-! ### tenementlaw08_examples: function 11 -/
def tenementlaw08_examples.f (k : Nat)  : Option (Bool) := (some (([(⟨(⟨#[98]⟩ : ByteArray), (⟨#[107]⟩ : ByteArray), (⟨#[118]⟩ : ByteArray), false⟩ : S23)] : List (S23)) : List (S23))).bind fun y220 => ((item_Bytes.f k 1 0 0 0 1 y220).bind fun bt224 => ((item_Read.f k bt224.1).bind fun bt226 => ((item_Right.f (⟨#[98]⟩ : ByteArray) (⟨#[107]⟩ : ByteArray) (⟨#[118]⟩ : ByteArray) false).bind fun t236 => (if t236 = true then ((item_Right.f (⟨#[]⟩ : ByteArray) (⟨#[]⟩ : ByteArray) (⟨#[]⟩ : ByteArray) false).bind fun t237 => (if t237 = true then (none) else ((item_Whole.f 1 0 0 0 1 y220).bind fun t238 => (if t238 = true then ((item_Whole.f 0 0 0 0 0 ([] : List (S23))).bind fun t239 => (if t239 = true then (none) else ((item_Size.f (⟨#[98]⟩ : ByteArray) (⟨#[107]⟩ : ByteArray) (⟨#[118]⟩ : ByteArray) false).bind fun t240 => (if t240 = 3 then ((item_Size.f (⟨#[98]⟩ : ByteArray) (⟨#[107]⟩ : ByteArray) (⟨#[]⟩ : ByteArray) true).bind fun t241 => (if t241 = 0 then (if bt224.2 = true then (if bt226.2.2.2.2.2.2 = true then ((item_Same.f k 1 0 0 0 1 y220 bt226.1 bt226.2.1 bt226.2.2.1 bt226.2.2.2.1 bt226.2.2.2.2.1 bt226.2.2.2.2.2.1).bind fun t242 => (if t242 = true then (if (bt224.1.size : Int) = 13 then ((item_Shard.f k (⟨#[98]⟩ : ByteArray) (⟨#[107]⟩ : ByteArray) 1).bind fun t243 => (if t243 = 1 then ((item_Of.f k 1 0 0 0 1 y220 1 1).bind fun t244 => (if (t244.length : Int) = 1 then ((item_Of.f k 1 0 0 0 1 y220 2 1).bind fun t247 => (if (t247.length : Int) = 0 then (some true) else (none))) else (none))) else (none))) else (none)) else (none))) else (none)) else (none)) else (none))) else (none))))) else (none))))) else (none)))))
theorem tenementlaw08_examples.mono : ∀ k, LeO (tenementlaw08_examples.f k ) (tenementlaw08_examples.f (k + 1) ) := by
  intro  k
  unfold tenementlaw08_examples.f
  repeat' first
      | (with_reducible exact item_Bytes.mono _ _ _ _ _ _ _)
      | (with_reducible exact item_Of.mono _ _ _ _ _ _ _ _ _)
      | (with_reducible exact item_Read.mono _ _)
      | (with_reducible exact item_Same.mono _ _ _ _ _ _ _ _ _ _ _ _ _)
      | (with_reducible exact item_Shard.mono _ _ _ _)
      | (with_reducible exact LeO.refl _)
      | (with_reducible exact LeO.none _)
      | (with_reducible refine LeO.ite ?_ ?_)
      | (with_reducible refine LeO.bind ?_ (fun _ => ?_))
      | exact item_Bytes.mono _ _ _ _ _ _ _
      | exact item_Of.mono _ _ _ _ _ _ _ _ _
      | exact item_Read.mono _ _
      | exact item_Same.mono _ _ _ _ _ _ _ _ _ _ _ _ _
      | exact item_Shard.mono _ _ _ _
      | exact LeO.none _
      | refine LeO.ite ?_ ?_
      | refine LeO.bind ?_ (fun _ => ?_)
set_option maxHeartbeats 8000000 in
set_option maxRecDepth 100000 in
theorem tenementlaw08_examples.calls (k : Nat)  (r : Bool) (w : World) (h : tenementlaw08_examples.f k  = some r) :
    Calls Try.prog 11 #[] w fun e w' => e = .returned (.bool r) ∧ Below w.heap.size w w' := by
  have hu23 := Try.underlying23
  have hu28 := Try.underlying28
  have hu30 := Try.underlying30
  have hu43 := Try.underlying43
  have HB := Aside0.mk (Below.refl w.heap.size w)
  have H : ((some (([(⟨(⟨#[98]⟩ : ByteArray), (⟨#[107]⟩ : ByteArray), (⟨#[118]⟩ : ByteArray), false⟩ : S23)] : List (S23)) : List (S23))).bind fun y220 => ((item_Bytes.f k 1 0 0 0 1 y220).bind fun bt224 => ((item_Read.f k bt224.1).bind fun bt226 => ((item_Right.f (⟨#[98]⟩ : ByteArray) (⟨#[107]⟩ : ByteArray) (⟨#[118]⟩ : ByteArray) false).bind fun t236 => (if t236 = true then ((item_Right.f (⟨#[]⟩ : ByteArray) (⟨#[]⟩ : ByteArray) (⟨#[]⟩ : ByteArray) false).bind fun t237 => (if t237 = true then (none) else ((item_Whole.f 1 0 0 0 1 y220).bind fun t238 => (if t238 = true then ((item_Whole.f 0 0 0 0 0 ([] : List (S23))).bind fun t239 => (if t239 = true then (none) else ((item_Size.f (⟨#[98]⟩ : ByteArray) (⟨#[107]⟩ : ByteArray) (⟨#[118]⟩ : ByteArray) false).bind fun t240 => (if t240 = 3 then ((item_Size.f (⟨#[98]⟩ : ByteArray) (⟨#[107]⟩ : ByteArray) (⟨#[]⟩ : ByteArray) true).bind fun t241 => (if t241 = 0 then (if bt224.2 = true then (if bt226.2.2.2.2.2.2 = true then ((item_Same.f k 1 0 0 0 1 y220 bt226.1 bt226.2.1 bt226.2.2.1 bt226.2.2.2.1 bt226.2.2.2.2.1 bt226.2.2.2.2.2.1).bind fun t242 => (if t242 = true then (if (bt224.1.size : Int) = 13 then ((item_Shard.f k (⟨#[98]⟩ : ByteArray) (⟨#[107]⟩ : ByteArray) 1).bind fun t243 => (if t243 = 1 then ((item_Of.f k 1 0 0 0 1 y220 1 1).bind fun t244 => (if (t244.length : Int) = 1 then ((item_Of.f k 1 0 0 0 1 y220 2 1).bind fun t247 => (if (t247.length : Int) = 0 then (some true) else (none))) else (none))) else (none))) else (none)) else (none))) else (none)) else (none)) else (none))) else (none))))) else (none))))) else (none)))))) = some r := h
  clear h
  obtain ⟨y220, hy220⟩ : ∃ y_ : List (S23), y_ = (([(⟨(⟨#[98]⟩ : ByteArray), (⟨#[107]⟩ : ByteArray), (⟨#[118]⟩ : ByteArray), false⟩ : S23)] : List (S23))) := ⟨_, rfl⟩
  replace H : ((item_Bytes.f k 1 0 0 0 1 y220).bind fun bt224 => ((item_Read.f k bt224.1).bind fun bt226 => ((item_Right.f (⟨#[98]⟩ : ByteArray) (⟨#[107]⟩ : ByteArray) (⟨#[118]⟩ : ByteArray) false).bind fun t236 => (if t236 = true then ((item_Right.f (⟨#[]⟩ : ByteArray) (⟨#[]⟩ : ByteArray) (⟨#[]⟩ : ByteArray) false).bind fun t237 => (if t237 = true then (none) else ((item_Whole.f 1 0 0 0 1 y220).bind fun t238 => (if t238 = true then ((item_Whole.f 0 0 0 0 0 ([] : List (S23))).bind fun t239 => (if t239 = true then (none) else ((item_Size.f (⟨#[98]⟩ : ByteArray) (⟨#[107]⟩ : ByteArray) (⟨#[118]⟩ : ByteArray) false).bind fun t240 => (if t240 = 3 then ((item_Size.f (⟨#[98]⟩ : ByteArray) (⟨#[107]⟩ : ByteArray) (⟨#[]⟩ : ByteArray) true).bind fun t241 => (if t241 = 0 then (if bt224.2 = true then (if bt226.2.2.2.2.2.2 = true then ((item_Same.f k 1 0 0 0 1 y220 bt226.1 bt226.2.1 bt226.2.2.1 bt226.2.2.2.1 bt226.2.2.2.2.1 bt226.2.2.2.2.2.1).bind fun t242 => (if t242 = true then (if (bt224.1.size : Int) = 13 then ((item_Shard.f k (⟨#[98]⟩ : ByteArray) (⟨#[107]⟩ : ByteArray) 1).bind fun t243 => (if t243 = 1 then ((item_Of.f k 1 0 0 0 1 y220 1 1).bind fun t244 => (if (t244.length : Int) = 1 then ((item_Of.f k 1 0 0 0 1 y220 2 1).bind fun t247 => (if (t247.length : Int) = 0 then (some true) else (none))) else (none))) else (none))) else (none)) else (none))) else (none)) else (none)) else (none))) else (none))))) else (none))))) else (none))))) = some r := by first | (rw [hy220]; with_reducible exact H) | (have H2_ := (Option.bind_some _ _).symm.trans H; rw [hy220]; with_reducible exact H2_) | (have H2_ := (Option.bind_some _ _).symm.trans H; with_reducible exact H2_) | with_reducible exact H | (rw [hy220]; exact H) | exact H
  have Ny220 := Aside0.mk hy220
  clear hy220
  replace H := Option.bind_eq_some_iff.mp H
  obtain ⟨⟨t224, t225⟩, A10, H⟩ := H
  replace H : ((item_Read.f k t224).bind fun bt226 => ((item_Right.f (⟨#[98]⟩ : ByteArray) (⟨#[107]⟩ : ByteArray) (⟨#[118]⟩ : ByteArray) false).bind fun t236 => (if t236 = true then ((item_Right.f (⟨#[]⟩ : ByteArray) (⟨#[]⟩ : ByteArray) (⟨#[]⟩ : ByteArray) false).bind fun t237 => (if t237 = true then (none) else ((item_Whole.f 1 0 0 0 1 y220).bind fun t238 => (if t238 = true then ((item_Whole.f 0 0 0 0 0 ([] : List (S23))).bind fun t239 => (if t239 = true then (none) else ((item_Size.f (⟨#[98]⟩ : ByteArray) (⟨#[107]⟩ : ByteArray) (⟨#[118]⟩ : ByteArray) false).bind fun t240 => (if t240 = 3 then ((item_Size.f (⟨#[98]⟩ : ByteArray) (⟨#[107]⟩ : ByteArray) (⟨#[]⟩ : ByteArray) true).bind fun t241 => (if t241 = 0 then (if t225 = true then (if bt226.2.2.2.2.2.2 = true then ((item_Same.f k 1 0 0 0 1 y220 bt226.1 bt226.2.1 bt226.2.2.1 bt226.2.2.2.1 bt226.2.2.2.2.1 bt226.2.2.2.2.2.1).bind fun t242 => (if t242 = true then (if (t224.size : Int) = 13 then ((item_Shard.f k (⟨#[98]⟩ : ByteArray) (⟨#[107]⟩ : ByteArray) 1).bind fun t243 => (if t243 = 1 then ((item_Of.f k 1 0 0 0 1 y220 1 1).bind fun t244 => (if (t244.length : Int) = 1 then ((item_Of.f k 1 0 0 0 1 y220 2 1).bind fun t247 => (if (t247.length : Int) = 0 then (some true) else (none))) else (none))) else (none))) else (none)) else (none))) else (none)) else (none)) else (none))) else (none))))) else (none))))) else (none)))) = some r := H
  have A1 := Aside0.mk A10
  clear A10
  replace H := Option.bind_eq_some_iff.mp H
  obtain ⟨⟨t226, t227, t228, t229, t230, t231, t234⟩, A20, H⟩ := H
  replace H : ((item_Right.f (⟨#[98]⟩ : ByteArray) (⟨#[107]⟩ : ByteArray) (⟨#[118]⟩ : ByteArray) false).bind fun t236 => (if t236 = true then ((item_Right.f (⟨#[]⟩ : ByteArray) (⟨#[]⟩ : ByteArray) (⟨#[]⟩ : ByteArray) false).bind fun t237 => (if t237 = true then (none) else ((item_Whole.f 1 0 0 0 1 y220).bind fun t238 => (if t238 = true then ((item_Whole.f 0 0 0 0 0 ([] : List (S23))).bind fun t239 => (if t239 = true then (none) else ((item_Size.f (⟨#[98]⟩ : ByteArray) (⟨#[107]⟩ : ByteArray) (⟨#[118]⟩ : ByteArray) false).bind fun t240 => (if t240 = 3 then ((item_Size.f (⟨#[98]⟩ : ByteArray) (⟨#[107]⟩ : ByteArray) (⟨#[]⟩ : ByteArray) true).bind fun t241 => (if t241 = 0 then (if t225 = true then (if t234 = true then ((item_Same.f k 1 0 0 0 1 y220 t226 t227 t228 t229 t230 t231).bind fun t242 => (if t242 = true then (if (t224.size : Int) = 13 then ((item_Shard.f k (⟨#[98]⟩ : ByteArray) (⟨#[107]⟩ : ByteArray) 1).bind fun t243 => (if t243 = 1 then ((item_Of.f k 1 0 0 0 1 y220 1 1).bind fun t244 => (if (t244.length : Int) = 1 then ((item_Of.f k 1 0 0 0 1 y220 2 1).bind fun t247 => (if (t247.length : Int) = 0 then (some true) else (none))) else (none))) else (none))) else (none)) else (none))) else (none)) else (none)) else (none))) else (none))))) else (none))))) else (none))) = some r := H
  have A2 := Aside0.mk A20
  clear A20
  replace H := Option.bind_eq_some_iff.mp H
  obtain ⟨t236, A30, H⟩ := H
  replace H : (if t236 = true then ((item_Right.f (⟨#[]⟩ : ByteArray) (⟨#[]⟩ : ByteArray) (⟨#[]⟩ : ByteArray) false).bind fun t237 => (if t237 = true then (none) else ((item_Whole.f 1 0 0 0 1 y220).bind fun t238 => (if t238 = true then ((item_Whole.f 0 0 0 0 0 ([] : List (S23))).bind fun t239 => (if t239 = true then (none) else ((item_Size.f (⟨#[98]⟩ : ByteArray) (⟨#[107]⟩ : ByteArray) (⟨#[118]⟩ : ByteArray) false).bind fun t240 => (if t240 = 3 then ((item_Size.f (⟨#[98]⟩ : ByteArray) (⟨#[107]⟩ : ByteArray) (⟨#[]⟩ : ByteArray) true).bind fun t241 => (if t241 = 0 then (if t225 = true then (if t234 = true then ((item_Same.f k 1 0 0 0 1 y220 t226 t227 t228 t229 t230 t231).bind fun t242 => (if t242 = true then (if (t224.size : Int) = 13 then ((item_Shard.f k (⟨#[98]⟩ : ByteArray) (⟨#[107]⟩ : ByteArray) 1).bind fun t243 => (if t243 = 1 then ((item_Of.f k 1 0 0 0 1 y220 1 1).bind fun t244 => (if (t244.length : Int) = 1 then ((item_Of.f k 1 0 0 0 1 y220 2 1).bind fun t247 => (if (t247.length : Int) = 0 then (some true) else (none))) else (none))) else (none))) else (none)) else (none))) else (none)) else (none)) else (none))) else (none))))) else (none))))) else (none)) = some r := H
  have A3 := Aside0.mk A30
  clear A30
  by_cases c4 : t236 = true
  rotate_left
  · replace c4 := Bool.eq_false_iff.mpr c4
    subst c4
    have H1 : (none) = some r := by rw [if_neg (show ¬ (false = true) by decide)] at H; exact H
    clear H
    have H := H1
    clear H1
    exact absurd H (by simp)
  subst c4
  have H1 : ((item_Right.f (⟨#[]⟩ : ByteArray) (⟨#[]⟩ : ByteArray) (⟨#[]⟩ : ByteArray) false).bind fun t237 => (if t237 = true then (none) else ((item_Whole.f 1 0 0 0 1 y220).bind fun t238 => (if t238 = true then ((item_Whole.f 0 0 0 0 0 ([] : List (S23))).bind fun t239 => (if t239 = true then (none) else ((item_Size.f (⟨#[98]⟩ : ByteArray) (⟨#[107]⟩ : ByteArray) (⟨#[118]⟩ : ByteArray) false).bind fun t240 => (if t240 = 3 then ((item_Size.f (⟨#[98]⟩ : ByteArray) (⟨#[107]⟩ : ByteArray) (⟨#[]⟩ : ByteArray) true).bind fun t241 => (if t241 = 0 then (if t225 = true then (if t234 = true then ((item_Same.f k 1 0 0 0 1 y220 t226 t227 t228 t229 t230 t231).bind fun t242 => (if t242 = true then (if (t224.size : Int) = 13 then ((item_Shard.f k (⟨#[98]⟩ : ByteArray) (⟨#[107]⟩ : ByteArray) 1).bind fun t243 => (if t243 = 1 then ((item_Of.f k 1 0 0 0 1 y220 1 1).bind fun t244 => (if (t244.length : Int) = 1 then ((item_Of.f k 1 0 0 0 1 y220 2 1).bind fun t247 => (if (t247.length : Int) = 0 then (some true) else (none))) else (none))) else (none))) else (none)) else (none))) else (none)) else (none)) else (none))) else (none))))) else (none))))) = some r := by rw [if_pos rfl] at H; exact H
  clear H
  have H := H1
  clear H1
  replace H := Option.bind_eq_some_iff.mp H
  obtain ⟨t237, A50, H⟩ := H
  replace H : (if t237 = true then (none) else ((item_Whole.f 1 0 0 0 1 y220).bind fun t238 => (if t238 = true then ((item_Whole.f 0 0 0 0 0 ([] : List (S23))).bind fun t239 => (if t239 = true then (none) else ((item_Size.f (⟨#[98]⟩ : ByteArray) (⟨#[107]⟩ : ByteArray) (⟨#[118]⟩ : ByteArray) false).bind fun t240 => (if t240 = 3 then ((item_Size.f (⟨#[98]⟩ : ByteArray) (⟨#[107]⟩ : ByteArray) (⟨#[]⟩ : ByteArray) true).bind fun t241 => (if t241 = 0 then (if t225 = true then (if t234 = true then ((item_Same.f k 1 0 0 0 1 y220 t226 t227 t228 t229 t230 t231).bind fun t242 => (if t242 = true then (if (t224.size : Int) = 13 then ((item_Shard.f k (⟨#[98]⟩ : ByteArray) (⟨#[107]⟩ : ByteArray) 1).bind fun t243 => (if t243 = 1 then ((item_Of.f k 1 0 0 0 1 y220 1 1).bind fun t244 => (if (t244.length : Int) = 1 then ((item_Of.f k 1 0 0 0 1 y220 2 1).bind fun t247 => (if (t247.length : Int) = 0 then (some true) else (none))) else (none))) else (none))) else (none)) else (none))) else (none)) else (none)) else (none))) else (none))))) else (none)))) = some r := H
  have A5 := Aside0.mk A50
  clear A50
  by_cases c6 : t237 = true
  · subst c6
    have H1 : (none) = some r := by rw [if_pos rfl] at H; exact H
    clear H
    have H := H1
    clear H1
    exact absurd H (by simp)
  replace c6 := Bool.eq_false_iff.mpr c6
  subst c6
  have H1 : ((item_Whole.f 1 0 0 0 1 y220).bind fun t238 => (if t238 = true then ((item_Whole.f 0 0 0 0 0 ([] : List (S23))).bind fun t239 => (if t239 = true then (none) else ((item_Size.f (⟨#[98]⟩ : ByteArray) (⟨#[107]⟩ : ByteArray) (⟨#[118]⟩ : ByteArray) false).bind fun t240 => (if t240 = 3 then ((item_Size.f (⟨#[98]⟩ : ByteArray) (⟨#[107]⟩ : ByteArray) (⟨#[]⟩ : ByteArray) true).bind fun t241 => (if t241 = 0 then (if t225 = true then (if t234 = true then ((item_Same.f k 1 0 0 0 1 y220 t226 t227 t228 t229 t230 t231).bind fun t242 => (if t242 = true then (if (t224.size : Int) = 13 then ((item_Shard.f k (⟨#[98]⟩ : ByteArray) (⟨#[107]⟩ : ByteArray) 1).bind fun t243 => (if t243 = 1 then ((item_Of.f k 1 0 0 0 1 y220 1 1).bind fun t244 => (if (t244.length : Int) = 1 then ((item_Of.f k 1 0 0 0 1 y220 2 1).bind fun t247 => (if (t247.length : Int) = 0 then (some true) else (none))) else (none))) else (none))) else (none)) else (none))) else (none)) else (none)) else (none))) else (none))))) else (none))) = some r := by rw [if_neg (show ¬ (false = true) by decide)] at H; exact H
  clear H
  have H := H1
  clear H1
  replace H := Option.bind_eq_some_iff.mp H
  obtain ⟨t238, A70, H⟩ := H
  replace H : (if t238 = true then ((item_Whole.f 0 0 0 0 0 ([] : List (S23))).bind fun t239 => (if t239 = true then (none) else ((item_Size.f (⟨#[98]⟩ : ByteArray) (⟨#[107]⟩ : ByteArray) (⟨#[118]⟩ : ByteArray) false).bind fun t240 => (if t240 = 3 then ((item_Size.f (⟨#[98]⟩ : ByteArray) (⟨#[107]⟩ : ByteArray) (⟨#[]⟩ : ByteArray) true).bind fun t241 => (if t241 = 0 then (if t225 = true then (if t234 = true then ((item_Same.f k 1 0 0 0 1 y220 t226 t227 t228 t229 t230 t231).bind fun t242 => (if t242 = true then (if (t224.size : Int) = 13 then ((item_Shard.f k (⟨#[98]⟩ : ByteArray) (⟨#[107]⟩ : ByteArray) 1).bind fun t243 => (if t243 = 1 then ((item_Of.f k 1 0 0 0 1 y220 1 1).bind fun t244 => (if (t244.length : Int) = 1 then ((item_Of.f k 1 0 0 0 1 y220 2 1).bind fun t247 => (if (t247.length : Int) = 0 then (some true) else (none))) else (none))) else (none))) else (none)) else (none))) else (none)) else (none)) else (none))) else (none))))) else (none)) = some r := H
  have A7 := Aside0.mk A70
  clear A70
  by_cases c8 : t238 = true
  rotate_left
  · replace c8 := Bool.eq_false_iff.mpr c8
    subst c8
    have H1 : (none) = some r := by rw [if_neg (show ¬ (false = true) by decide)] at H; exact H
    clear H
    have H := H1
    clear H1
    exact absurd H (by simp)
  subst c8
  have H1 : ((item_Whole.f 0 0 0 0 0 ([] : List (S23))).bind fun t239 => (if t239 = true then (none) else ((item_Size.f (⟨#[98]⟩ : ByteArray) (⟨#[107]⟩ : ByteArray) (⟨#[118]⟩ : ByteArray) false).bind fun t240 => (if t240 = 3 then ((item_Size.f (⟨#[98]⟩ : ByteArray) (⟨#[107]⟩ : ByteArray) (⟨#[]⟩ : ByteArray) true).bind fun t241 => (if t241 = 0 then (if t225 = true then (if t234 = true then ((item_Same.f k 1 0 0 0 1 y220 t226 t227 t228 t229 t230 t231).bind fun t242 => (if t242 = true then (if (t224.size : Int) = 13 then ((item_Shard.f k (⟨#[98]⟩ : ByteArray) (⟨#[107]⟩ : ByteArray) 1).bind fun t243 => (if t243 = 1 then ((item_Of.f k 1 0 0 0 1 y220 1 1).bind fun t244 => (if (t244.length : Int) = 1 then ((item_Of.f k 1 0 0 0 1 y220 2 1).bind fun t247 => (if (t247.length : Int) = 0 then (some true) else (none))) else (none))) else (none))) else (none)) else (none))) else (none)) else (none)) else (none))) else (none))))) = some r := by rw [if_pos rfl] at H; exact H
  clear H
  have H := H1
  clear H1
  replace H := Option.bind_eq_some_iff.mp H
  obtain ⟨t239, A90, H⟩ := H
  replace H : (if t239 = true then (none) else ((item_Size.f (⟨#[98]⟩ : ByteArray) (⟨#[107]⟩ : ByteArray) (⟨#[118]⟩ : ByteArray) false).bind fun t240 => (if t240 = 3 then ((item_Size.f (⟨#[98]⟩ : ByteArray) (⟨#[107]⟩ : ByteArray) (⟨#[]⟩ : ByteArray) true).bind fun t241 => (if t241 = 0 then (if t225 = true then (if t234 = true then ((item_Same.f k 1 0 0 0 1 y220 t226 t227 t228 t229 t230 t231).bind fun t242 => (if t242 = true then (if (t224.size : Int) = 13 then ((item_Shard.f k (⟨#[98]⟩ : ByteArray) (⟨#[107]⟩ : ByteArray) 1).bind fun t243 => (if t243 = 1 then ((item_Of.f k 1 0 0 0 1 y220 1 1).bind fun t244 => (if (t244.length : Int) = 1 then ((item_Of.f k 1 0 0 0 1 y220 2 1).bind fun t247 => (if (t247.length : Int) = 0 then (some true) else (none))) else (none))) else (none))) else (none)) else (none))) else (none)) else (none)) else (none))) else (none)))) = some r := H
  have A9 := Aside0.mk A90
  clear A90
  by_cases c10 : t239 = true
  · subst c10
    have H1 : (none) = some r := by rw [if_pos rfl] at H; exact H
    clear H
    have H := H1
    clear H1
    exact absurd H (by simp)
  replace c10 := Bool.eq_false_iff.mpr c10
  subst c10
  have H1 : ((item_Size.f (⟨#[98]⟩ : ByteArray) (⟨#[107]⟩ : ByteArray) (⟨#[118]⟩ : ByteArray) false).bind fun t240 => (if t240 = 3 then ((item_Size.f (⟨#[98]⟩ : ByteArray) (⟨#[107]⟩ : ByteArray) (⟨#[]⟩ : ByteArray) true).bind fun t241 => (if t241 = 0 then (if t225 = true then (if t234 = true then ((item_Same.f k 1 0 0 0 1 y220 t226 t227 t228 t229 t230 t231).bind fun t242 => (if t242 = true then (if (t224.size : Int) = 13 then ((item_Shard.f k (⟨#[98]⟩ : ByteArray) (⟨#[107]⟩ : ByteArray) 1).bind fun t243 => (if t243 = 1 then ((item_Of.f k 1 0 0 0 1 y220 1 1).bind fun t244 => (if (t244.length : Int) = 1 then ((item_Of.f k 1 0 0 0 1 y220 2 1).bind fun t247 => (if (t247.length : Int) = 0 then (some true) else (none))) else (none))) else (none))) else (none)) else (none))) else (none)) else (none)) else (none))) else (none))) = some r := by rw [if_neg (show ¬ (false = true) by decide)] at H; exact H
  clear H
  have H := H1
  clear H1
  replace H := Option.bind_eq_some_iff.mp H
  obtain ⟨t240, A110, H⟩ := H
  replace H : (if t240 = 3 then ((item_Size.f (⟨#[98]⟩ : ByteArray) (⟨#[107]⟩ : ByteArray) (⟨#[]⟩ : ByteArray) true).bind fun t241 => (if t241 = 0 then (if t225 = true then (if t234 = true then ((item_Same.f k 1 0 0 0 1 y220 t226 t227 t228 t229 t230 t231).bind fun t242 => (if t242 = true then (if (t224.size : Int) = 13 then ((item_Shard.f k (⟨#[98]⟩ : ByteArray) (⟨#[107]⟩ : ByteArray) 1).bind fun t243 => (if t243 = 1 then ((item_Of.f k 1 0 0 0 1 y220 1 1).bind fun t244 => (if (t244.length : Int) = 1 then ((item_Of.f k 1 0 0 0 1 y220 2 1).bind fun t247 => (if (t247.length : Int) = 0 then (some true) else (none))) else (none))) else (none))) else (none)) else (none))) else (none)) else (none)) else (none))) else (none)) = some r := H
  have A11 := Aside0.mk A110
  clear A110
  by_cases c12 : t240 = 3
  rotate_left
  · rw [if_neg c12] at H
    exact absurd H (by simp)
  rw [if_pos c12] at H
  have c12b0 : (t240 == 3) = true := beq_iff_eq.mpr c12
  have c12b1 : (t240 != 3) = false := bne_eq_false_iff_eq.mpr c12
  clear c12
  replace H := Option.bind_eq_some_iff.mp H
  obtain ⟨t241, A130, H⟩ := H
  replace H : (if t241 = 0 then (if t225 = true then (if t234 = true then ((item_Same.f k 1 0 0 0 1 y220 t226 t227 t228 t229 t230 t231).bind fun t242 => (if t242 = true then (if (t224.size : Int) = 13 then ((item_Shard.f k (⟨#[98]⟩ : ByteArray) (⟨#[107]⟩ : ByteArray) 1).bind fun t243 => (if t243 = 1 then ((item_Of.f k 1 0 0 0 1 y220 1 1).bind fun t244 => (if (t244.length : Int) = 1 then ((item_Of.f k 1 0 0 0 1 y220 2 1).bind fun t247 => (if (t247.length : Int) = 0 then (some true) else (none))) else (none))) else (none))) else (none)) else (none))) else (none)) else (none)) else (none)) = some r := H
  have A13 := Aside0.mk A130
  clear A130
  by_cases c14 : t241 = 0
  rotate_left
  · rw [if_neg c14] at H
    exact absurd H (by simp)
  rw [if_pos c14] at H
  have c14b0 : (t241 == 0) = true := beq_iff_eq.mpr c14
  have c14b1 : (t241 != 0) = false := bne_eq_false_iff_eq.mpr c14
  clear c14
  by_cases c15 : t225 = true
  rotate_left
  · replace c15 := Bool.eq_false_iff.mpr c15
    subst c15
    have H1 : (none) = some r := by rw [if_neg (show ¬ (false = true) by decide)] at H; exact H
    clear H
    have H := H1
    clear H1
    exact absurd H (by simp)
  subst c15
  have H1 : (if t234 = true then ((item_Same.f k 1 0 0 0 1 y220 t226 t227 t228 t229 t230 t231).bind fun t242 => (if t242 = true then (if (t224.size : Int) = 13 then ((item_Shard.f k (⟨#[98]⟩ : ByteArray) (⟨#[107]⟩ : ByteArray) 1).bind fun t243 => (if t243 = 1 then ((item_Of.f k 1 0 0 0 1 y220 1 1).bind fun t244 => (if (t244.length : Int) = 1 then ((item_Of.f k 1 0 0 0 1 y220 2 1).bind fun t247 => (if (t247.length : Int) = 0 then (some true) else (none))) else (none))) else (none))) else (none)) else (none))) else (none)) = some r := by rw [if_pos rfl] at H; exact H
  clear H
  have H := H1
  clear H1
  by_cases c16 : t234 = true
  rotate_left
  · replace c16 := Bool.eq_false_iff.mpr c16
    subst c16
    have H1 : (none) = some r := by rw [if_neg (show ¬ (false = true) by decide)] at H; exact H
    clear H
    have H := H1
    clear H1
    exact absurd H (by simp)
  subst c16
  have H1 : ((item_Same.f k 1 0 0 0 1 y220 t226 t227 t228 t229 t230 t231).bind fun t242 => (if t242 = true then (if (t224.size : Int) = 13 then ((item_Shard.f k (⟨#[98]⟩ : ByteArray) (⟨#[107]⟩ : ByteArray) 1).bind fun t243 => (if t243 = 1 then ((item_Of.f k 1 0 0 0 1 y220 1 1).bind fun t244 => (if (t244.length : Int) = 1 then ((item_Of.f k 1 0 0 0 1 y220 2 1).bind fun t247 => (if (t247.length : Int) = 0 then (some true) else (none))) else (none))) else (none))) else (none)) else (none))) = some r := by rw [if_pos rfl] at H; exact H
  clear H
  have H := H1
  clear H1
  replace H := Option.bind_eq_some_iff.mp H
  obtain ⟨t242, A170, H⟩ := H
  replace H : (if t242 = true then (if (t224.size : Int) = 13 then ((item_Shard.f k (⟨#[98]⟩ : ByteArray) (⟨#[107]⟩ : ByteArray) 1).bind fun t243 => (if t243 = 1 then ((item_Of.f k 1 0 0 0 1 y220 1 1).bind fun t244 => (if (t244.length : Int) = 1 then ((item_Of.f k 1 0 0 0 1 y220 2 1).bind fun t247 => (if (t247.length : Int) = 0 then (some true) else (none))) else (none))) else (none))) else (none)) else (none)) = some r := H
  have A17 := Aside0.mk A170
  clear A170
  by_cases c18 : t242 = true
  rotate_left
  · replace c18 := Bool.eq_false_iff.mpr c18
    subst c18
    have H1 : (none) = some r := by rw [if_neg (show ¬ (false = true) by decide)] at H; exact H
    clear H
    have H := H1
    clear H1
    exact absurd H (by simp)
  subst c18
  have H1 : (if (t224.size : Int) = 13 then ((item_Shard.f k (⟨#[98]⟩ : ByteArray) (⟨#[107]⟩ : ByteArray) 1).bind fun t243 => (if t243 = 1 then ((item_Of.f k 1 0 0 0 1 y220 1 1).bind fun t244 => (if (t244.length : Int) = 1 then ((item_Of.f k 1 0 0 0 1 y220 2 1).bind fun t247 => (if (t247.length : Int) = 0 then (some true) else (none))) else (none))) else (none))) else (none)) = some r := by rw [if_pos rfl] at H; exact H
  clear H
  have H := H1
  clear H1
  by_cases c19 : (t224.size : Int) = 13
  rotate_left
  · rw [if_neg c19] at H
    exact absurd H (by simp)
  rw [if_pos c19] at H
  have c19b0 : ((t224.size : Int) == 13) = true := beq_iff_eq.mpr c19
  have c19b1 : ((t224.size : Int) != 13) = false := bne_eq_false_iff_eq.mpr c19
  clear c19
  replace H := Option.bind_eq_some_iff.mp H
  obtain ⟨t243, A200, H⟩ := H
  replace H : (if t243 = 1 then ((item_Of.f k 1 0 0 0 1 y220 1 1).bind fun t244 => (if (t244.length : Int) = 1 then ((item_Of.f k 1 0 0 0 1 y220 2 1).bind fun t247 => (if (t247.length : Int) = 0 then (some true) else (none))) else (none))) else (none)) = some r := H
  have A20 := Aside0.mk A200
  clear A200
  by_cases c21 : t243 = 1
  rotate_left
  · rw [if_neg c21] at H
    exact absurd H (by simp)
  rw [if_pos c21] at H
  have c21b0 : (t243 == 1) = true := beq_iff_eq.mpr c21
  have c21b1 : (t243 != 1) = false := bne_eq_false_iff_eq.mpr c21
  clear c21
  replace H := Option.bind_eq_some_iff.mp H
  obtain ⟨t244, A220, H⟩ := H
  replace H : (if (t244.length : Int) = 1 then ((item_Of.f k 1 0 0 0 1 y220 2 1).bind fun t247 => (if (t247.length : Int) = 0 then (some true) else (none))) else (none)) = some r := H
  have A22 := Aside0.mk A220
  clear A220
  by_cases c23 : (t244.length : Int) = 1
  rotate_left
  · rw [if_neg c23] at H
    exact absurd H (by simp)
  rw [if_pos c23] at H
  have c23b0 : ((t244.length : Int) == 1) = true := beq_iff_eq.mpr c23
  have c23b1 : ((t244.length : Int) != 1) = false := bne_eq_false_iff_eq.mpr c23
  clear c23
  replace H := Option.bind_eq_some_iff.mp H
  obtain ⟨t247, A240, H⟩ := H
  replace H : (if (t247.length : Int) = 0 then (some true) else (none)) = some r := H
  have A24 := Aside0.mk A240
  clear A240
  by_cases c25 : (t247.length : Int) = 0
  rotate_left
  · rw [if_neg c25] at H
    exact absurd H (by simp)
  rw [if_pos c25] at H
  have c25b0 : ((t247.length : Int) == 0) = true := beq_iff_eq.mpr c25
  have c25b1 : ((t247.length : Int) != 0) = false := bne_eq_false_iff_eq.mpr c25
  clear c25
  obtain rfl := Option.some.inj H
  go_enter Try.func11, Try.ntmps11
  go_wp2_with (first | ((with_reducible refine gate_dst (N := 1) rfl ?_); refine box_event ?hg (N := 1) ?hd (cs := #[.string (⟨#[]⟩ : ByteArray), .string (⟨#[]⟩ : ByteArray), .string (⟨#[]⟩ : ByteArray), .bool false]) (t := 23) ?hr ?_; (case hd => rfl); (case hg => rfl); (case hr => first | (go_simp; done) | (go_simp; rfl)); intro gb219 hg w26 hbox hb; have BK219 := Aside0.mk (hbox); have GW219 := Kw_ HB hg; have GE219 := GW219; replace HB := Ks_ HB hb; clear hb hbox hg; obtain ⟨hcz27_0, hcz27_1, hcz27_2, hcz27_3, hfz27_0, hfz27_1, hfz27_2, hfz27_3⟩ := Ke4_ BK219.out) | ((with_reducible refine gate_dst (N := 11) rfl ?_); refine Kd.R_lit k23 _ 23 ?hg (N := 11) ?hd (xs := ([(⟨(⟨#[98]⟩ : ByteArray), (⟨#[107]⟩ : ByteArray), (⟨#[118]⟩ : ByteArray), false⟩ : S23)] : List (S23))) (inner := [.string (⟨#[98]⟩ : ByteArray), .string (⟨#[107]⟩ : ByteArray), .string (⟨#[118]⟩ : ByteArray), .bool false]) (ok := fun _ => True) (okp := fun _ => True) ?hr ?hp (fun _ hk => hk) trivial (Below.refl _ _) (Nat.le_refl _) (by simp) ?_; (case hd => rfl); (case hg => rfl); (case hr => first | (go_simp; done) | (go_simp; rfl)); (case hp => exact (Reps.c4 (show Kd.M k23 _ _ _ (⟨(⟨#[98]⟩ : ByteArray), (⟨#[107]⟩ : ByteArray), (⟨#[118]⟩ : ByteArray), false⟩ : S23) [.string (⟨#[98]⟩ : ByteArray), .string (⟨#[107]⟩ : ByteArray), .string (⟨#[118]⟩ : ByteArray), .bool false] from (k23_mkM _ _ _ (⟨(⟨#[98]⟩ : ByteArray), (⟨#[107]⟩ : ByteArray), (⟨#[118]⟩ : ByteArray), false⟩ : S23) )) (Reps.none _ _))); intro v221 w28 ho29 hb hg_ hnew_; clear hg_ hnew_; (first | rw [← Ny220.out] at ho29 | (simp only [Int.reduceToNat] at ho29; rw [← Ny220.out] at ho29)); have HO222 := Aside0.mk (Kd.R_lower (Kd.R_newB ho29 (g := gb219) (o := .cells #[.string (⟨#[98]⟩ : ByteArray), .string (⟨#[107]⟩ : ByteArray), .string (⟨#[118]⟩ : ByteArray), .bool false] 23 (0, 0)) (by refine Kv_ ?_; refine blk_put (cs := #[.string (⟨#[98]⟩ : ByteArray), .string (⟨#[107]⟩ : ByteArray), .string (⟨#[118]⟩ : ByteArray), .bool false]) ?_ 3 _ rfl; refine Kv_ ?_; refine blk_put (cs := #[.string (⟨#[98]⟩ : ByteArray), .string (⟨#[107]⟩ : ByteArray), .string (⟨#[]⟩ : ByteArray), .bool false]) ?_ 2 _ rfl; refine Kv_ ?_; refine blk_put (cs := #[.string (⟨#[98]⟩ : ByteArray), .string (⟨#[]⟩ : ByteArray), .string (⟨#[]⟩ : ByteArray), .bool false]) ?_ 1 _ rfl; refine Kv_ ?_; refine blk_put (cs := #[.string (⟨#[]⟩ : ByteArray), .string (⟨#[]⟩ : ByteArray), .string (⟨#[]⟩ : ByteArray), .bool false]) ?_ 0 _ rfl; exact Kq_ BK219)) (below_size (Kz_ HB GE219))); replace BK219 := Aside0.mk (blk_below (g := gb219) (o := .cells #[.string (⟨#[98]⟩ : ByteArray), .string (⟨#[107]⟩ : ByteArray), .string (⟨#[118]⟩ : ByteArray), .bool false] 23 (0, 0)) (by refine Kv_ ?_; refine blk_put (cs := #[.string (⟨#[98]⟩ : ByteArray), .string (⟨#[107]⟩ : ByteArray), .string (⟨#[118]⟩ : ByteArray), .bool false]) ?_ 3 _ rfl; refine Kv_ ?_; refine blk_put (cs := #[.string (⟨#[98]⟩ : ByteArray), .string (⟨#[107]⟩ : ByteArray), .string (⟨#[]⟩ : ByteArray), .bool false]) ?_ 2 _ rfl; refine Kv_ ?_; refine blk_put (cs := #[.string (⟨#[98]⟩ : ByteArray), .string (⟨#[]⟩ : ByteArray), .string (⟨#[]⟩ : ByteArray), .bool false]) ?_ 1 _ rfl; refine Kv_ ?_; refine blk_put (cs := #[.string (⟨#[]⟩ : ByteArray), .string (⟨#[]⟩ : ByteArray), .string (⟨#[]⟩ : ByteArray), .bool false]) ?_ 0 _ rfl; exact Kq_ BK219) hb); replace HB := Kt_ HB GE219 hb; clear hb ho29; obtain ⟨Ao30, co30, eo30⟩ := Kd.R_slice HO222.out; subst eo30) | ((with_reducible refine gate_dst (N := 2) rfl ?_); refine box_event ?hg (N := 2) ?hd (cs := #[.int .u64 0, .int .u64 0, .int .u64 0, .int .u64 0, .int .i64 0, .slice none 0 0]) (t := 43) ?hr ?_; (case hd => rfl); (case hg => rfl); (case hr => first | (go_simp; done) | (go_simp; rfl)); intro gb223 hg w31 hbox hb; have BK223 := Aside0.mk (hbox); have GW223 := Kw_ HB hg; have GE223 := GW223; have NB219_223 := Kl_ BK219 hg; have NB223_219 := Kr_ BK219 hg; replace HO222 := Aside0.mk (Kd.R_below (Ku_ HO222) hb); replace BK219 := Kb_ BK219 hb; replace HB := Ks_ HB hb; clear hb hbox hg; have hnb32 := NB223_219.out; have hnc32 := NB219_223.out; obtain ⟨hcz33_0, hcz33_1, hcz33_2, hcz33_3, hcz33_4, hcz33_5, hfz33_0, hfz33_1, hfz33_2, hfz33_3, hfz33_4, hfz33_5⟩ := Ke6_ BK223.out) | ((with_reducible refine gate_callee (f := 15) rfl ?_); refine Kg_ (some 15) rfl rfl Try.func15 (by kernel_rfl) rfl #[.agg #[.int .u64 1, .int .u64 0, .int .u64 0, .int .u64 0, .int .i64 1, .slice Ao30 y220.length co30]] rfl ?_; (with_reducible refine (item_Bytes.calls k 1 0 0 0 1 _ _ y220 t224 true _ ?side1 ?side2 A1.out).mono ?_); (case side1 => refine (Kd.R_reads' (e := 23) (base := w.heap.size) (ok := fun k_ => (True ∧ k_ ≠ gb219)) (n := y220.length) (c := co30) ?_).2.2; exact (by (with_reducible repeat (first | apply Kd.R_alloc | apply Kd.R_drewN | apply Kd.R_drew)); exact (Kd.R_mono (Kd.R_far (p := ⟨gb223, 5, none⟩) (Kd.R_far (p := ⟨gb223, 4, none⟩) (Kd.R_far (p := ⟨gb223, 3, none⟩) (Kd.R_far (p := ⟨gb223, 2, none⟩) (Kd.R_far (p := ⟨gb223, 1, none⟩) (Kd.R_far (p := ⟨gb223, 0, none⟩) (Kd.R_types HO222.out BK223.out (by decide)) (fun _ hk => hk.2) (.int .u64 1)) (fun _ hk => hk.2) (.int .u64 0)) (fun _ hk => hk.2) (.int .u64 0)) (fun _ hk => hk.2) (.int .u64 0)) (fun _ hk => hk.2) (.int .i64 1)) (fun _ hk => hk.2) (.slice Ao30 y220.length co30)) (fun _ h_ => h_.1)))); (case side2 => exact (Kd.R_reads' HO222.out).2.1); rintro e w34 ⟨rfl, hb⟩; refine ⟨_, rfl, ?_⟩; replace HO222 := Aside0.mk (Kd.R_below (by (with_reducible repeat (first | apply Kd.R_alloc | apply Kd.R_drewN | apply Kd.R_drew)); exact (Kd.R_mono (Kd.R_far (p := ⟨gb223, 5, none⟩) (Kd.R_far (p := ⟨gb223, 4, none⟩) (Kd.R_far (p := ⟨gb223, 3, none⟩) (Kd.R_far (p := ⟨gb223, 2, none⟩) (Kd.R_far (p := ⟨gb223, 1, none⟩) (Kd.R_far (p := ⟨gb223, 0, none⟩) (Kd.R_types HO222.out BK223.out (by decide)) (fun _ hk => hk.2) (.int .u64 1)) (fun _ hk => hk.2) (.int .u64 0)) (fun _ hk => hk.2) (.int .u64 0)) (fun _ hk => hk.2) (.int .u64 0)) (fun _ hk => hk.2) (.int .i64 1)) (fun _ hk => hk.2) (.slice Ao30 y220.length co30)) (fun _ h_ => h_.1))) hb); replace BK219 := Kf_ BK219 NB219_223 hb; replace BK223 := Aside0.mk (blk_below (g := gb223) (o := .cells #[.int .u64 1, .int .u64 0, .int .u64 0, .int .u64 0, .int .i64 1, .slice Ao30 y220.length co30] 43 (0, 0)) (by refine Kv_ ?_; refine blk_put (cs := #[.int .u64 1, .int .u64 0, .int .u64 0, .int .u64 0, .int .i64 1, .slice none 0 0]) ?_ 5 _ rfl; refine Kv_ ?_; refine blk_put (cs := #[.int .u64 1, .int .u64 0, .int .u64 0, .int .u64 0, .int .i64 0, .slice none 0 0]) ?_ 4 _ rfl; refine Kv_ ?_; refine blk_put (cs := #[.int .u64 1, .int .u64 0, .int .u64 0, .int .u64 0, .int .i64 0, .slice none 0 0]) ?_ 3 _ rfl; refine Kv_ ?_; refine blk_put (cs := #[.int .u64 1, .int .u64 0, .int .u64 0, .int .u64 0, .int .i64 0, .slice none 0 0]) ?_ 2 _ rfl; refine Kv_ ?_; refine blk_put (cs := #[.int .u64 1, .int .u64 0, .int .u64 0, .int .u64 0, .int .i64 0, .slice none 0 0]) ?_ 1 _ rfl; refine Kv_ ?_; refine blk_put (cs := #[.int .u64 0, .int .u64 0, .int .u64 0, .int .u64 0, .int .i64 0, .slice none 0 0]) ?_ 0 _ rfl; exact Kq_ BK223) hb); replace HB := Kt_ HB GE223 hb; (try clear hb); (try clear hb2); (try clear hk); (try clear hi)) | ((with_reducible refine gate_callee (f := 31) rfl ?_); refine Kg_ (some 20) rfl rfl Try.func31 (by kernel_rfl) rfl #[.string t224] rfl ?_; (with_reducible refine (item_Read.calls k t224 t226 t227 t228 t229 t230 t231 true _ A2.out).mono ?_); rintro e w35 ⟨v232, rfl, ho0, hb⟩; refine ⟨_, rfl, ?_⟩; have HO233 := Aside0.mk (Kd.R_lower (Kd.R_newB (Kd.R_new' ho0 (Kd.R_lt (Ku_ HO222))) (g := gb219) (o := .cells #[.string (⟨#[98]⟩ : ByteArray), .string (⟨#[107]⟩ : ByteArray), .string (⟨#[118]⟩ : ByteArray), .bool false] 23 (0, 0)) (Kq_ BK219)) (below_size (by repeat (first | (with_reducible first | exact HB.out | apply below_alloc | apply pw_below_drewN | apply below_drew1 | refine below_set ?_ GE219.out | refine below_set ?_ GE223.out) | exact HB.out)))); replace HO222 := Aside0.mk (Kd.R_elder' (Ku_ HO222) (Kd.R_base ho0) hb); replace BK219 := Kb_ BK219 hb; replace BK223 := Kb_ BK223 hb; replace HB := Ks_ HB hb; (try clear hb); (try clear hb2); (try clear hk); (try clear hi); (try clear ho0)) | ((with_reducible refine gate_dst (N := 5) rfl ?_); refine box_event ?hg (N := 5) ?hd (cs := #[.int .u64 0, .int .u64 0, .int .u64 0, .int .u64 0, .int .i64 0, .slice none 0 0]) (t := 43) ?hr ?_; (case hd => rfl); (case hg => rfl); (case hr => first | (go_simp; done) | (go_simp; rfl)); intro gb235 hg w36 hbox hb; have BK235 := Aside0.mk (hbox); have GW235 := Kw_ HB hg; have GE235 := GW235; have NB219_235 := Kl_ BK219 hg; have NB235_219 := Kr_ BK219 hg; have NB223_235 := Kl_ BK223 hg; have NB235_223 := Kr_ BK223 hg; replace HO222 := Aside0.mk (Kd.R_below (Ku_ HO222) hb); replace HO233 := Aside0.mk (Kd.R_below (Ku_ HO233) hb); replace BK219 := Kb_ BK219 hb; replace BK223 := Kb_ BK223 hb; replace HB := Ks_ HB hb; clear hb hbox hg; have hnb37 := NB235_219.out; have hnc37 := NB219_235.out; have hnb38 := NB235_223.out; have hnc38 := NB223_235.out; obtain ⟨hcz39_0, hcz39_1, hcz39_2, hcz39_3, hcz39_4, hcz39_5, hfz39_0, hfz39_1, hfz39_2, hfz39_3, hfz39_4, hfz39_5⟩ := Ke6_ BK235.out; obtain ⟨Ao40, co40, eo40⟩ := Kd.R_slice HO233.out; subst eo40; obtain ⟨hcz41_0, hcz41_1, hcz41_2, hcz41_3, hfz41_0, hfz41_1, hfz41_2, hfz41_3⟩ := Ke4_ BK219.out) | ((with_reducible refine gate_callee (f := 18) rfl ?_); refine Kg_ (some 24) rfl rfl Try.func18 (by kernel_rfl) rfl #[.agg #[.string (⟨#[98]⟩ : ByteArray), .string (⟨#[107]⟩ : ByteArray), .string (⟨#[118]⟩ : ByteArray), .bool false]] rfl ?_; (with_reducible refine (item_Right.calls (⟨#[98]⟩ : ByteArray) (⟨#[107]⟩ : ByteArray) (⟨#[118]⟩ : ByteArray) false true _ A3.out).mono ?_); rintro e w42 ⟨rfl, hb⟩; refine ⟨_, rfl, ?_⟩; replace HO222 := Aside0.mk (Kd.R_below (by (with_reducible repeat (first | apply Kd.R_alloc | apply Kd.R_drewN | apply Kd.R_drew)); exact (Kd.R_mono (Kd.R_far (p := ⟨gb235, 5, none⟩) (Kd.R_far (p := ⟨gb235, 4, none⟩) (Kd.R_far (p := ⟨gb235, 3, none⟩) (Kd.R_far (p := ⟨gb235, 2, none⟩) (Kd.R_far (p := ⟨gb235, 1, none⟩) (Kd.R_far (p := ⟨gb235, 0, none⟩) (Kd.R_types HO222.out BK235.out (by decide)) (fun _ hk => hk.2) (.int .u64 t226)) (fun _ hk => hk.2) (.int .u64 t227)) (fun _ hk => hk.2) (.int .u64 t228)) (fun _ hk => hk.2) (.int .u64 t229)) (fun _ hk => hk.2) (.int .i64 t230)) (fun _ hk => hk.2) (.slice Ao40 t231.length co40)) (fun _ h_ => h_.1))) hb); replace HO233 := Aside0.mk (Kd.R_below (by (with_reducible repeat (first | apply Kd.R_alloc | apply Kd.R_drewN | apply Kd.R_drew)); exact (Kd.R_mono (Kd.R_far (p := ⟨gb235, 5, none⟩) (Kd.R_far (p := ⟨gb235, 4, none⟩) (Kd.R_far (p := ⟨gb235, 3, none⟩) (Kd.R_far (p := ⟨gb235, 2, none⟩) (Kd.R_far (p := ⟨gb235, 1, none⟩) (Kd.R_far (p := ⟨gb235, 0, none⟩) (Kd.R_types HO233.out BK235.out (by decide)) (fun _ hk => hk.2) (.int .u64 t226)) (fun _ hk => hk.2) (.int .u64 t227)) (fun _ hk => hk.2) (.int .u64 t228)) (fun _ hk => hk.2) (.int .u64 t229)) (fun _ hk => hk.2) (.int .i64 t230)) (fun _ hk => hk.2) (.slice Ao40 t231.length co40)) (fun _ h_ => h_.1))) hb); replace BK219 := Kf_ BK219 NB219_235 hb; replace BK223 := Kf_ BK223 NB223_235 hb; replace BK235 := Aside0.mk (blk_below (g := gb235) (o := .cells #[.int .u64 t226, .int .u64 t227, .int .u64 t228, .int .u64 t229, .int .i64 t230, .slice Ao40 t231.length co40] 43 (0, 0)) (by refine Kv_ ?_; refine blk_put (cs := #[.int .u64 t226, .int .u64 t227, .int .u64 t228, .int .u64 t229, .int .i64 t230, .slice none 0 0]) ?_ 5 _ rfl; refine Kv_ ?_; refine blk_put (cs := #[.int .u64 t226, .int .u64 t227, .int .u64 t228, .int .u64 t229, .int .i64 0, .slice none 0 0]) ?_ 4 _ rfl; refine Kv_ ?_; refine blk_put (cs := #[.int .u64 t226, .int .u64 t227, .int .u64 t228, .int .u64 0, .int .i64 0, .slice none 0 0]) ?_ 3 _ rfl; refine Kv_ ?_; refine blk_put (cs := #[.int .u64 t226, .int .u64 t227, .int .u64 0, .int .u64 0, .int .i64 0, .slice none 0 0]) ?_ 2 _ rfl; refine Kv_ ?_; refine blk_put (cs := #[.int .u64 t226, .int .u64 0, .int .u64 0, .int .u64 0, .int .i64 0, .slice none 0 0]) ?_ 1 _ rfl; refine Kv_ ?_; refine blk_put (cs := #[.int .u64 0, .int .u64 0, .int .u64 0, .int .u64 0, .int .i64 0, .slice none 0 0]) ?_ 0 _ rfl; exact Kq_ BK235) hb); replace HB := Kt_ HB GE235 hb; (try clear hb); (try clear hb2); (try clear hk); (try clear hi)) | (go_at_call 18; (with_reducible refine (item_Right.calls (⟨#[]⟩ : ByteArray) (⟨#[]⟩ : ByteArray) (⟨#[]⟩ : ByteArray) false false _ A5.out).mono ?_); rintro e w43 ⟨rfl, hb⟩; replace HO222 := Aside0.mk (Kd.R_below (Ku_ HO222) hb); replace HO233 := Aside0.mk (Kd.R_below (Ku_ HO233) hb); replace BK219 := Kb_ BK219 hb; replace BK223 := Kb_ BK223 hb; replace BK235 := Kb_ BK235 hb; replace HB := Ks_ HB hb; (try clear hb); (try clear hb2); (try clear hk); (try clear hi); obtain ⟨hcz44_0, hcz44_1, hcz44_2, hcz44_3, hcz44_4, hcz44_5, hfz44_0, hfz44_1, hfz44_2, hfz44_3, hfz44_4, hfz44_5⟩ := Ke6_ BK223.out) | (go_at_call 22; (with_reducible refine (item_Whole.calls 1 0 0 0 1 _ _ y220 true _ ?side1 ?side2 A7.out).mono ?_); (case side1 => repeat (first | exact (Kd.R_reads' HO222.out).2.2 | (with_reducible refine Kd.C_alloc ?_ _) | (with_reducible refine Kd.C_drewN ?_ _) | (with_reducible refine Kd.C_drew ?_))); (case side2 => exact (Kd.R_reads' HO222.out).2.1); rintro e w45 ⟨rfl, hb⟩; replace HO222 := Aside0.mk (Kd.R_below (Ku_ HO222) hb); replace HO233 := Aside0.mk (Kd.R_below (Ku_ HO233) hb); replace BK219 := Kb_ BK219 hb; replace BK223 := Kb_ BK223 hb; replace BK235 := Kb_ BK235 hb; replace HB := Ks_ HB hb; (try clear hb); (try clear hb2); (try clear hk); (try clear hi)) | (go_at_call 22; (refine (item_Whole.calls 0 0 0 0 0 _ _ ([] : List (S23)) false _ ?side1 ?side2 A9.out).mono ?_); (case side1 => exact Kd.C_nil _ _); (case side2 => exact Nat.le_refl _); rintro e w46 ⟨rfl, hb⟩; replace HO222 := Aside0.mk (Kd.R_below (Ku_ HO222) hb); replace HO233 := Aside0.mk (Kd.R_below (Ku_ HO233) hb); replace BK219 := Kb_ BK219 hb; replace BK223 := Kb_ BK223 hb; replace BK235 := Kb_ BK235 hb; replace HB := Ks_ HB hb; (try clear hb); (try clear hb2); (try clear hk); (try clear hi); obtain ⟨hcz47_0, hcz47_1, hcz47_2, hcz47_3, hfz47_0, hfz47_1, hfz47_2, hfz47_3⟩ := Ke4_ BK219.out) | (go_at_call 20; (with_reducible refine (item_Size.calls (⟨#[98]⟩ : ByteArray) (⟨#[107]⟩ : ByteArray) (⟨#[118]⟩ : ByteArray) false t240 _ A11.out).mono ?_); rintro e w48 ⟨rfl, hb⟩; replace HO222 := Aside0.mk (Kd.R_below (Ku_ HO222) hb); replace HO233 := Aside0.mk (Kd.R_below (Ku_ HO233) hb); replace BK219 := Kb_ BK219 hb; replace BK223 := Kb_ BK223 hb; replace BK235 := Kb_ BK235 hb; replace HB := Ks_ HB hb; (try clear hb); (try clear hb2); (try clear hk); (try clear hi)) | (go_at_call 20; (with_reducible refine (item_Size.calls (⟨#[98]⟩ : ByteArray) (⟨#[107]⟩ : ByteArray) (⟨#[]⟩ : ByteArray) true t241 _ A13.out).mono ?_); rintro e w49 ⟨rfl, hb⟩; replace HO222 := Aside0.mk (Kd.R_below (Ku_ HO222) hb); replace HO233 := Aside0.mk (Kd.R_below (Ku_ HO233) hb); replace BK219 := Kb_ BK219 hb; replace BK223 := Kb_ BK223 hb; replace BK235 := Kb_ BK235 hb; replace HB := Ks_ HB hb; (try clear hb); (try clear hb2); (try clear hk); (try clear hi); obtain ⟨hcz50_0, hcz50_1, hcz50_2, hcz50_3, hcz50_4, hcz50_5, hfz50_0, hfz50_1, hfz50_2, hfz50_3, hfz50_4, hfz50_5⟩ := Ke6_ BK223.out; obtain ⟨hcz51_0, hcz51_1, hcz51_2, hcz51_3, hcz51_4, hcz51_5, hfz51_0, hfz51_1, hfz51_2, hfz51_3, hfz51_4, hfz51_5⟩ := Ke6_ BK235.out) | (go_at_call 24; (with_reducible refine (item_Same.calls k 1 0 0 0 1 _ _ y220 t226 t227 t228 t229 t230 _ _ t231 true _ ?side1 ?side2 ?side3 ?side4 A17.out).mono ?_); (case side1 => repeat (first | exact (Kd.R_reads' HO222.out).2.2 | (with_reducible refine Kd.C_alloc ?_ _) | (with_reducible refine Kd.C_drewN ?_ _) | (with_reducible refine Kd.C_drew ?_))); (case side2 => exact (Kd.R_reads' HO222.out).2.1); (case side3 => repeat (first | exact (Kd.R_reads' HO233.out).2.2 | (with_reducible refine Kd.C_alloc ?_ _) | (with_reducible refine Kd.C_drewN ?_ _) | (with_reducible refine Kd.C_drew ?_))); (case side4 => exact (Kd.R_reads' HO233.out).2.1); rintro e w52 ⟨rfl, hb⟩; replace HO222 := Aside0.mk (Kd.R_below (Ku_ HO222) hb); replace HO233 := Aside0.mk (Kd.R_below (Ku_ HO233) hb); replace BK219 := Kb_ BK219 hb; replace BK223 := Kb_ BK223 hb; replace BK235 := Kb_ BK235 hb; replace HB := Ks_ HB hb; (try clear hb); (try clear hb2); (try clear hk); (try clear hi)) | (go_at_call 28; (with_reducible refine (item_Shard.calls k (⟨#[98]⟩ : ByteArray) (⟨#[107]⟩ : ByteArray) 1 t243 _ A20.out).mono ?_); rintro e w53 ⟨rfl, hb⟩; replace HO222 := Aside0.mk (Kd.R_below (Ku_ HO222) hb); replace HO233 := Aside0.mk (Kd.R_below (Ku_ HO233) hb); replace BK219 := Kb_ BK219 hb; replace BK223 := Kb_ BK223 hb; replace BK235 := Kb_ BK235 hb; replace HB := Ks_ HB hb; (try clear hb); (try clear hb2); (try clear hk); (try clear hi); obtain ⟨hcz54_0, hcz54_1, hcz54_2, hcz54_3, hcz54_4, hcz54_5, hfz54_0, hfz54_1, hfz54_2, hfz54_3, hfz54_4, hfz54_5⟩ := Ke6_ BK223.out) | (go_at_call 26; (with_reducible refine (item_Of.calls k 1 0 0 0 1 _ _ y220 1 1 t244 _ ?side1 ?side2 A22.out).mono ?_); (case side1 => repeat (first | exact (Kd.R_reads' HO222.out).2.2 | (with_reducible refine Kd.C_alloc ?_ _) | (with_reducible refine Kd.C_drewN ?_ _) | (with_reducible refine Kd.C_drew ?_))); (case side2 => exact (Kd.R_reads' HO222.out).2.1); rintro e w55 ⟨v245, rfl, ho0, hb⟩; have HO246 := Aside0.mk (Kd.R_lower (Kd.R_newB (Kd.R_new' (Kd.R_new' ho0 (Kd.R_lt (Ku_ HO222))) (Kd.R_lt (Ku_ HO233))) (g := gb219) (o := .cells #[.string (⟨#[98]⟩ : ByteArray), .string (⟨#[107]⟩ : ByteArray), .string (⟨#[118]⟩ : ByteArray), .bool false] 23 (0, 0)) (Kq_ BK219)) (below_size (by repeat (first | (with_reducible first | exact HB.out | apply below_alloc | apply pw_below_drewN | apply below_drew1 | refine below_set ?_ GE219.out | refine below_set ?_ GE223.out | refine below_set ?_ GE235.out) | exact HB.out)))); replace HO222 := Aside0.mk (Kd.R_elder' (Ku_ HO222) (Kd.R_base ho0) hb); replace HO233 := Aside0.mk (Kd.R_elder' (Ku_ HO233) (Kd.R_base ho0) hb); replace BK219 := Kb_ BK219 hb; replace BK223 := Kb_ BK223 hb; replace BK235 := Kb_ BK235 hb; replace HB := Ks_ HB hb; (try clear hb); (try clear hb2); (try clear hk); (try clear hi); (try clear ho0); obtain ⟨Ao56, co56, eo56⟩ := Kd.R_slice HO246.out; subst eo56; obtain ⟨hcz57_0, hcz57_1, hcz57_2, hcz57_3, hcz57_4, hcz57_5, hfz57_0, hfz57_1, hfz57_2, hfz57_3, hfz57_4, hfz57_5⟩ := Ke6_ BK223.out) | (go_at_call 26; (with_reducible refine (item_Of.calls k 1 0 0 0 1 _ _ y220 2 1 t247 _ ?side1 ?side2 A24.out).mono ?_); (case side1 => repeat (first | exact (Kd.R_reads' HO222.out).2.2 | (with_reducible refine Kd.C_alloc ?_ _) | (with_reducible refine Kd.C_drewN ?_ _) | (with_reducible refine Kd.C_drew ?_))); (case side2 => exact (Kd.R_reads' HO222.out).2.1); rintro e w58 ⟨v248, rfl, ho0, hb⟩; have HO249 := Aside0.mk (Kd.R_lower (Kd.R_newB (Kd.R_new' (Kd.R_new' (Kd.R_new' ho0 (Kd.R_lt (Ku_ HO222))) (Kd.R_lt (Ku_ HO233))) (Kd.R_lt (Ku_ HO246))) (g := gb219) (o := .cells #[.string (⟨#[98]⟩ : ByteArray), .string (⟨#[107]⟩ : ByteArray), .string (⟨#[118]⟩ : ByteArray), .bool false] 23 (0, 0)) (Kq_ BK219)) (below_size (by repeat (first | (with_reducible first | exact HB.out | apply below_alloc | apply pw_below_drewN | apply below_drew1 | refine below_set ?_ GE219.out | refine below_set ?_ GE223.out | refine below_set ?_ GE235.out) | exact HB.out)))); replace HO222 := Aside0.mk (Kd.R_elder' (Ku_ HO222) (Kd.R_base ho0) hb); replace HO233 := Aside0.mk (Kd.R_elder' (Ku_ HO233) (Kd.R_base ho0) hb); replace HO246 := Aside0.mk (Kd.R_elder' (Ku_ HO246) (Kd.R_base ho0) hb); replace BK219 := Kb_ BK219 hb; replace BK223 := Kb_ BK223 hb; replace BK235 := Kb_ BK235 hb; replace HB := Ks_ HB hb; (try clear hb); (try clear hb2); (try clear hk); (try clear hi); (try clear ho0); obtain ⟨Ao59, co59, eo59⟩ := Kd.R_slice HO249.out; subst eo59))
  go_ret
  exact ⟨Kh_, by repeat (first | (with_reducible first | exact HB.out | apply below_alloc | apply pw_below_drewN | apply below_drew1 | refine below_set ?_ GE219.out | refine below_set ?_ GE223.out | refine below_set ?_ GE235.out) | exact HB.out)⟩
/-! ### tenementlaw08_ItemSizes: function 10 -/
-- FOREIGN: a law by hand: a record is made of texts of zeros; the region that draws is told by an invariant
-- import Derived.Test.YtoogchgoiciggaaInv
-- import Derived.Test.YtoogchgoiciggaaBytes
def tenementlaw08_ItemSizes.f (k : Nat) (a0 a1 a2 : Int) (a3 : Bool) : Option Bool := if (0 ≤ a0 ∧ a0 ≤ 255) ∧ (0 ≤ a1 ∧ a1 ≤ 255) ∧ (0 ≤ a2 ∧ a2 ≤ 255) then (tenementlaw08_examples.f k).bind fun t => if t = true then some true else none else none
theorem tenementlaw08_ItemSizes.mono : ∀ a0 a1 a2 a3 k, LeO (tenementlaw08_ItemSizes.f k a0 a1 a2 a3) (tenementlaw08_ItemSizes.f (k + 1) a0 a1 a2 a3) := by
  intro a0 a1 a2 a3 k
  unfold tenementlaw08_ItemSizes.f
  exact LeO.ite (LeO.bind (tenementlaw08_examples.mono _) (fun _ => LeO.refl _)) (LeO.refl _)
theorem tenementlaw08_ItemSizes.nil_ {s : ByteArray} : s.toList = ([] : List UInt8) ↔ s.size = 0 := by
  rw [Go.Proofs.Ytoogchgoiciggaa.Pure.toList_data, ← Go.Proofs.Ytoogchgoiciggaa.Pure.bl_length, List.length_eq_zero_iff]
  unfold Go.Proofs.Ytoogchgoiciggaa.Pure.bl
  rw [List.map_eq_nil_iff]
def tenementlaw08_ItemSizes.okW (b k v : ByteArray) (g : Bool) : Bool := decide (1 ≤ b.size) && (decide (b.size ≤ 16) && (decide (1 ≤ k.size) && (decide (k.size ≤ 16) && (decide (v.size ≤ 32) && (!g || decide (v.size = 0))))))
theorem tenementlaw08_ItemSizes.named_f (s : ByteArray) : item_named.f s = some (decide (1 ≤ s.size) && decide (s.size ≤ 16)) := by
  unfold item_named.f
  by_cases c : s.toList = ([] : List UInt8)
  · have h := tenementlaw08_ItemSizes.nil_.1 c
    rw [if_pos c, decide_eq_false (show ¬ 1 ≤ s.size by omega)]; rfl
  · rw [if_neg c]
    have h : s.size ≠ 0 := fun h => c (tenementlaw08_ItemSizes.nil_.2 h)
    rw [decide_eq_true (show 1 ≤ s.size by omega), Bool.true_and]
    congr 1
    rw [decide_eq_decide]
    omega
theorem tenementlaw08_ItemSizes.right_f (b k v : ByteArray) (g : Bool) : item_Right.f b k v g = some (tenementlaw08_ItemSizes.okW b k v g) := by
  unfold item_Right.f tenementlaw08_ItemSizes.okW
  rw [tenementlaw08_ItemSizes.named_f, Option.bind_some]
  cases decide (1 ≤ b.size) with
  | false => rw [if_neg (by simp)]; rfl
  | true =>
    cases decide (b.size ≤ 16) with
    | false => rw [if_neg (by simp)]; rfl
    | true =>
      rw [if_pos (show (true && true) = true from rfl), tenementlaw08_ItemSizes.named_f, Option.bind_some]
      cases decide (1 ≤ k.size) with
      | false => rw [if_neg (by simp)]; rfl
      | true =>
        cases decide (k.size ≤ 16) with
        | false => rw [if_neg (by simp)]; rfl
        | true =>
          rw [if_pos (show (true && true) = true from rfl)]
          by_cases c3 : v.size ≤ 32
          · rw [if_pos (by omega), decide_eq_true c3]
            by_cases c4 : v.toList = ([] : List UInt8)
            · rw [if_pos c4, decide_eq_true (tenementlaw08_ItemSizes.nil_.1 c4)]
              cases g <;> rfl
            · rw [if_neg c4, decide_eq_false (fun h => c4 (tenementlaw08_ItemSizes.nil_.2 h))]
              cases g <;> rfl
          · rw [if_neg (by omega), decide_eq_false c3]; rfl
theorem tenementlaw08_ItemSizes.made (v : Value) (n i : Nat) (h : i < n) : (madeCells #[v] n)[i]? = some v := by
  unfold madeCells
  simp [h, Nat.mod_one]
def tenementlaw08_ItemSizes.Sp (s0 n0 n1 n2 : Nat) (a0 a1 a2 : Int) (a3 : Bool) : Nat → Value → World → Prop
  | 0, v, _ => v = .int .u8 a0
  | 1, v, _ => v = .int .u8 (n0 : Int)
  | 2, v, _ => v = .int .i64 (n0 : Int)
  | 3, v, W => ∃ b, v = .slice (some ⟨b, 0, none⟩) n0 n0 ∧ s0 ≤ b ∧ W.heap[b]? = some (.cells (madeCells #[.int .u8 0] n0) 5 (0, 0))
  | 4, v, _ => v = .string (strOfNums (List.replicate n0 0))
  | 5, v, _ => v = .int .u8 a1
  | 6, v, _ => v = .int .u8 (n1 : Int)
  | 7, v, _ => v = .int .i64 (n1 : Int)
  | 8, v, W => ∃ b, v = .slice (some ⟨b, 0, none⟩) n1 n1 ∧ s0 ≤ b ∧ W.heap[b]? = some (.cells (madeCells #[.int .u8 0] n1) 5 (0, 0))
  | 9, v, _ => v = .string (strOfNums (List.replicate n1 0))
  | 10, v, _ => v = .int .u8 a2
  | 11, v, _ => v = .int .u8 (n2 : Int)
  | 12, v, _ => v = .int .i64 (n2 : Int)
  | 13, v, W => ∃ b, v = .slice (some ⟨b, 0, none⟩) n2 n2 ∧ s0 ≤ b ∧ W.heap[b]? = some (.cells (madeCells #[.int .u8 0] n2) 5 (0, 0))
  | 14, v, _ => v = .string (strOfNums (List.replicate n2 0))
  | 15, v, _ => v = .bool a3
  | 16, v, _ => v = .agg #[.string (strOfNums (List.replicate n0 0)), .string (strOfNums (List.replicate n1 0)), .string (strOfNums (List.replicate n2 0)), .bool a3]
  | 17, v, W => ∃ b, v = .pointer (some ⟨b, 0, none⟩) ∧ s0 ≤ b ∧ W.heap[b]? = some (.cells #[.string ⟨#[]⟩, .string ⟨#[]⟩, .string ⟨#[]⟩, .bool false] 23 (0, 0))
  | _, _, _ => True
theorem tenementlaw08_ItemSizes.stay (s0 n0 n1 n2 : Nat) (a0 a1 a2 : Int) (a3 : Bool) : ∀ (i : Nat) (v : Value) (W W' : World), Below W.heap.size W W' → tenementlaw08_ItemSizes.Sp s0 n0 n1 n2 a0 a1 a2 a3 i v W → tenementlaw08_ItemSizes.Sp s0 n0 n1 n2 a0 a1 a2 a3 i v W'
  | 0, v, W, W', hb, h => h
  | 1, v, W, W', hb, h => h
  | 2, v, W, W', hb, h => h
  | 3, v, W, W', hb, h => by obtain ⟨b, e, hs, h⟩ := h; exact ⟨b, e, hs, blk_below h hb⟩
  | 4, v, W, W', hb, h => h
  | 5, v, W, W', hb, h => h
  | 6, v, W, W', hb, h => h
  | 7, v, W, W', hb, h => h
  | 8, v, W, W', hb, h => by obtain ⟨b, e, hs, h⟩ := h; exact ⟨b, e, hs, blk_below h hb⟩
  | 9, v, W, W', hb, h => h
  | 10, v, W, W', hb, h => h
  | 11, v, W, W', hb, h => h
  | 12, v, W, W', hb, h => h
  | 13, v, W, W', hb, h => by obtain ⟨b, e, hs, h⟩ := h; exact ⟨b, e, hs, blk_below h hb⟩
  | 14, v, W, W', hb, h => h
  | 15, v, W, W', hb, h => h
  | 16, v, W, W', hb, h => h
  | 17, v, W, W', hb, h => by obtain ⟨b, e, hs, h⟩ := h; exact ⟨b, e, hs, blk_below h hb⟩
  | _ + 18, v, W, W', hb, h => trivial
def tenementlaw08_ItemSizes.St (w : World) (s0 : Nat) (W : World) : Prop := Below w.heap.size w W ∧ s0 ≤ W.heap.size
theorem tenementlaw08_ItemSizes.st_alloc {w : World} {s0 : Nat} {W : World} (h : tenementlaw08_ItemSizes.St w s0 W) (o : Obj) : tenementlaw08_ItemSizes.St w s0 (W.alloc o) := ⟨below_alloc h.1 o, Nat.le_trans h.2 (by simp [World.alloc, -World.alloc_eq])⟩
theorem tenementlaw08_ItemSizes.alloc_below (W : World) (o : Obj) : Below W.heap.size W (W.alloc o) := below_alloc (Below.refl _ _) o
theorem tenementlaw08_ItemSizes.op_some {P : Program} {ops : Array Oper} {Q : Exit → Act → World → Prop} {i : Nat} {o : Oper} {K : Act → World → Prop} {a : Act} {w : World} (hi : ops[i]? = some o) (hg : o.guard.isNone = true) (h : o.wp P a w K Q) : wpOp P ops Q i K a w := by
  unfold wpOp
  rw [hi]
  simp only [Go.Proofs.Ytoogchgoiciggaa.Inv.wanted_none hg, if_true]
  exact .inl h
theorem tenementlaw08_ItemSizes.mk (W : World) (n : Nat) (hn : n ≤ 100) : (Instr.makeSlice 76 (.int .i64 (n : Int)) (.int .i64 (n : Int))).run Try.prog W = .ok (.slice (some ⟨W.heap.size, 0, none⟩) n n) (W.alloc (.cells (madeCells #[.int .u8 0] n) 5)) := by
  obtain ⟨i0, hi0, hz0, hz1, hz2⟩ := info_parts info5
  have h := run_make (P := Try.prog) W 76 5 i0 (.int .u8 0) Try.underlying76 hi0 hz0 .i64 .i64 (n : Int) (n : Int) (by omega) (by omega) (by rw [hz2]; omega) (by omega)
  rw [h, hz1, Int.toNat_natCast, Nat.mul_one]
  rfl
set_option maxHeartbeats 8000000 in
set_option maxRecDepth 100000 in
theorem tenementlaw08_ItemSizes.calls (k : Nat) (a0 a1 a2 : Int) (a3 : Bool) (r : Bool) (w : World) (h : tenementlaw08_ItemSizes.f k a0 a1 a2 a3 = some r) :
    Calls Try.prog 10 #[.int .u8 a0, .int .u8 a1, .int .u8 a2, .bool a3] w fun e w' => e = .returned (.bool r) ∧ Below w.heap.size w w' := by
  have hu23 := Try.underlying23
  unfold tenementlaw08_ItemSizes.f at h
  by_cases hw : (0 ≤ a0 ∧ a0 ≤ 255) ∧ (0 ≤ a1 ∧ a1 ≤ 255) ∧ (0 ≤ a2 ∧ a2 ≤ 255)
  rotate_left
  · rw [if_neg hw] at h; cases h
  rw [if_pos hw] at h
  obtain ⟨t, ht, h⟩ := Option.bind_eq_some_iff.1 h
  cases t with
  | false => rw [if_neg (by simp)] at h; cases h
  | true =>
    rw [if_pos rfl] at h
    obtain rfl := Option.some.inj h
    clear h
    have HX := Aside0.mk ht
    clear ht
    obtain ⟨n0, e0, l0⟩ : ∃ n : Nat, Int.tmod a0 20 = (n : Int) ∧ n < 20 := ⟨(a0 % 20).toNat, by rw [Int.tmod_eq_emod_of_nonneg hw.1.1]; omega, by omega⟩
    obtain ⟨n1, e1, l1⟩ : ∃ n : Nat, Int.tmod a1 20 = (n : Int) ∧ n < 20 := ⟨(a1 % 20).toNat, by rw [Int.tmod_eq_emod_of_nonneg hw.2.1.1]; omega, by omega⟩
    obtain ⟨n2, e2, l2⟩ : ∃ n : Nat, Int.tmod a2 40 = (n : Int) ∧ n < 40 := ⟨(a2 % 40).toNat, by rw [Int.tmod_eq_emod_of_nonneg hw.2.2.1]; omega, by omega⟩
    have w0 : IntKind.i64.wrap (n0 : Int) = (n0 : Int) := by rw [IntKind.wrap_i64]; omega
    have w1 : IntKind.i64.wrap (n1 : Int) = (n1 : Int) := by rw [IntKind.wrap_i64]; omega
    have w2 : IntKind.i64.wrap (n2 : Int) = (n2 : Int) := by rw [IntKind.wrap_i64]; omega
    clear hw
    go_enter Try.func10, Try.ntmps10
    go_wp2_with (go_at_call 11; refine (tenementlaw08_examples.calls k true _ HX.out).mono ?_; rintro e W0 ⟨rfl, hb⟩)
    have HB := Aside0.mk hb
    obtain ⟨s0, hs0⟩ : ∃ s0, s0 = W0.heap.size := ⟨_, rfl⟩
    have hst : tenementlaw08_ItemSizes.St w s0 W0.drew := ⟨below_drew1 hb, by rw [hs0]; exact Nat.le_refl _⟩
    have hws : w.heap.size ≤ s0 := by rw [hs0]; exact below_size hb
    clear hb HX hs0
    refine Go.Proofs.Ytoogchgoiciggaa.Inv.region_ok (by kernel_rfl) 18 [16, 17, 18, 19, 20, 21, 22, 23, 24, 25, 26, 27, 28, 29, 30, 31, 32, 10] (by kernel_rfl) (fun N hN => (show N < 95 from (by decide : ∀ N ∈ ([16, 17, 18, 19, 20, 21, 22, 23, 24, 25, 26, 27, 28, 29, 30, 31, 32, 10] : List Nat), N < 95) N hN)) (tenementlaw08_ItemSizes.Sp s0 n0 n1 n2 a0 a1 a2 a3) (tenementlaw08_ItemSizes.St w s0) hst (fun i v W W' _ hb h => tenementlaw08_ItemSizes.stay s0 n0 n1 n2 a0 a1 a2 a3 i v W W' hb h) ?hstep ?hend
    case hstep =>
      intro i o hi ho a W hS hL hd
      have q0 : a.tmps.getD 0 undef = .int .u8 a0 := hL.2.2 0 (by decide)
      have q1 : a.tmps.getD 1 undef = .int .u8 a1 := hL.2.2 1 (by decide)
      have q2 : a.tmps.getD 2 undef = .int .u8 a2 := hL.2.2 2 (by decide)
      have q3 : a.tmps.getD 3 undef = .bool a3 := hL.2.2 3 (by decide)
      have mk0 := tenementlaw08_ItemSizes.mk W n0 (by omega)
      have mk1 := tenementlaw08_ItemSizes.mk W n1 (by omega)
      have mk2 := tenementlaw08_ItemSizes.mk W n2 (by omega)
      clear hL hws hst
      match i, hi, ho, hd with
      | 0, _, ho, hd =>
        obtain rfl := Option.some.inj ho
        clear hd ho
        refine ⟨.int .u8 a0, W, ?_, hS, Below.refl _ _, rfl⟩
        first | (go_simp; done) | (simp only [execOp, Act.eval, q0, q1, q2, q3]; go_simp; done) | (simp only [execOp, Act.eval, q0, q1, q2, q3]; go_simp; rfl) | (simp only [execOp, Act.eval, q0, q1, q2, q3]; go_simp; trace_state; sorry)
      | 1, _, ho, hd =>
        obtain rfl := Option.some.inj ho
        have d0 : a.tmps.getD 16 undef = .int .u8 a0 := hd ⟨0, .data⟩ (by simp) rfl
        clear hd ho
        refine ⟨.int .u8 (n0 : Int), W, ?_, hS, Below.refl _ _, rfl⟩
        first | (go_simp; done) | (simp only [execOp, Act.eval, q0, q1, q2, q3, d0]; go_simp; done) | (simp only [execOp, Act.eval, q0, q1, q2, q3, d0]; go_simp; rfl) | (simp only [execOp, Act.eval, q0, q1, q2, q3, d0]; go_simp; trace_state; sorry)
      | 2, _, ho, hd =>
        obtain rfl := Option.some.inj ho
        have d1 : a.tmps.getD 17 undef = .int .u8 (n0 : Int) := hd ⟨1, .data⟩ (by simp) rfl
        clear hd ho
        refine ⟨.int .i64 (n0 : Int), W, ?_, hS, Below.refl _ _, rfl⟩
        first | (go_simp; done) | (simp only [execOp, Act.eval, q0, q1, q2, q3, d1]; go_simp; done) | (simp only [execOp, Act.eval, q0, q1, q2, q3, d1]; go_simp; rfl) | (simp only [execOp, Act.eval, q0, q1, q2, q3, d1]; go_simp; trace_state; sorry)
      | 3, _, ho, hd =>
        obtain rfl := Option.some.inj ho
        have d2 : a.tmps.getD 18 undef = .int .i64 (n0 : Int) := hd ⟨2, .data⟩ (by simp) rfl
        clear hd ho
        refine ⟨.slice (some ⟨W.heap.size, 0, none⟩) n0 n0, W.alloc (.cells (madeCells #[.int .u8 0] n0) 5), ?_, tenementlaw08_ItemSizes.st_alloc hS _, tenementlaw08_ItemSizes.alloc_below W _, ⟨_, rfl, hS.2, blk_new _ _⟩⟩
        first | (go_simp; done) | (simp only [execOp, Act.eval, q0, q1, q2, q3, d2]; go_simp; done) | (simp only [execOp, Act.eval, q0, q1, q2, q3, d2]; go_simp; rfl) | (simp only [execOp, Act.eval, q0, q1, q2, q3, d2]; go_simp; trace_state; sorry)
      | 4, _, ho, hd =>
        obtain rfl := Option.some.inj ho
        obtain ⟨b, d3, hsb, hbk⟩ : tenementlaw08_ItemSizes.Sp s0 n0 n1 n2 a0 a1 a2 a3 3 (a.tmps.getD 19 undef) W := hd ⟨3, .data⟩ (by simp) rfl
        clear hd ho
        refine ⟨.string (strOfNums (List.replicate n0 0)), W, ?_, hS, Below.refl _ _, rfl⟩
        have hcv := run_convert_bytes_arg (P := Try.prog) W 76 5 Try.underlying76 Try.underlying5 b 0 n0 n0 (List.replicate n0 0) (by simp) (fun j hj => by
          rw [Nat.zero_add]
          refine ((blk_cell hbk j).trans (tenementlaw08_ItemSizes.made _ _ j hj)).trans ?_
          simp [List.getElem?_replicate, hj]) 9 Try.underlying9
        first | (go_simp; done) | (simp only [execOp, Act.eval, q0, q1, q2, q3, d3]; go_simp; done) | (simp only [execOp, Act.eval, q0, q1, q2, q3, d3]; go_simp; rfl) | (simp only [execOp, Act.eval, q0, q1, q2, q3, d3]; go_simp; trace_state; sorry)
      | 5, _, ho, hd =>
        obtain rfl := Option.some.inj ho
        clear hd ho
        refine ⟨.int .u8 a1, W, ?_, hS, Below.refl _ _, rfl⟩
        first | (go_simp; done) | (simp only [execOp, Act.eval, q0, q1, q2, q3]; go_simp; done) | (simp only [execOp, Act.eval, q0, q1, q2, q3]; go_simp; rfl) | (simp only [execOp, Act.eval, q0, q1, q2, q3]; go_simp; trace_state; sorry)
      | 6, _, ho, hd =>
        obtain rfl := Option.some.inj ho
        have d5 : a.tmps.getD 21 undef = .int .u8 a1 := hd ⟨5, .data⟩ (by simp) rfl
        clear hd ho
        refine ⟨.int .u8 (n1 : Int), W, ?_, hS, Below.refl _ _, rfl⟩
        first | (go_simp; done) | (simp only [execOp, Act.eval, q0, q1, q2, q3, d5]; go_simp; done) | (simp only [execOp, Act.eval, q0, q1, q2, q3, d5]; go_simp; rfl) | (simp only [execOp, Act.eval, q0, q1, q2, q3, d5]; go_simp; trace_state; sorry)
      | 7, _, ho, hd =>
        obtain rfl := Option.some.inj ho
        have d6 : a.tmps.getD 22 undef = .int .u8 (n1 : Int) := hd ⟨6, .data⟩ (by simp) rfl
        clear hd ho
        refine ⟨.int .i64 (n1 : Int), W, ?_, hS, Below.refl _ _, rfl⟩
        first | (go_simp; done) | (simp only [execOp, Act.eval, q0, q1, q2, q3, d6]; go_simp; done) | (simp only [execOp, Act.eval, q0, q1, q2, q3, d6]; go_simp; rfl) | (simp only [execOp, Act.eval, q0, q1, q2, q3, d6]; go_simp; trace_state; sorry)
      | 8, _, ho, hd =>
        obtain rfl := Option.some.inj ho
        have d7 : a.tmps.getD 23 undef = .int .i64 (n1 : Int) := hd ⟨7, .data⟩ (by simp) rfl
        clear hd ho
        refine ⟨.slice (some ⟨W.heap.size, 0, none⟩) n1 n1, W.alloc (.cells (madeCells #[.int .u8 0] n1) 5), ?_, tenementlaw08_ItemSizes.st_alloc hS _, tenementlaw08_ItemSizes.alloc_below W _, ⟨_, rfl, hS.2, blk_new _ _⟩⟩
        first | (go_simp; done) | (simp only [execOp, Act.eval, q0, q1, q2, q3, d7]; go_simp; done) | (simp only [execOp, Act.eval, q0, q1, q2, q3, d7]; go_simp; rfl) | (simp only [execOp, Act.eval, q0, q1, q2, q3, d7]; go_simp; trace_state; sorry)
      | 9, _, ho, hd =>
        obtain rfl := Option.some.inj ho
        obtain ⟨b, d8, hsb, hbk⟩ : tenementlaw08_ItemSizes.Sp s0 n0 n1 n2 a0 a1 a2 a3 8 (a.tmps.getD 24 undef) W := hd ⟨8, .data⟩ (by simp) rfl
        clear hd ho
        refine ⟨.string (strOfNums (List.replicate n1 0)), W, ?_, hS, Below.refl _ _, rfl⟩
        have hcv := run_convert_bytes_arg (P := Try.prog) W 76 5 Try.underlying76 Try.underlying5 b 0 n1 n1 (List.replicate n1 0) (by simp) (fun j hj => by
          rw [Nat.zero_add]
          refine ((blk_cell hbk j).trans (tenementlaw08_ItemSizes.made _ _ j hj)).trans ?_
          simp [List.getElem?_replicate, hj]) 9 Try.underlying9
        first | (go_simp; done) | (simp only [execOp, Act.eval, q0, q1, q2, q3, d8]; go_simp; done) | (simp only [execOp, Act.eval, q0, q1, q2, q3, d8]; go_simp; rfl) | (simp only [execOp, Act.eval, q0, q1, q2, q3, d8]; go_simp; trace_state; sorry)
      | 10, _, ho, hd =>
        obtain rfl := Option.some.inj ho
        clear hd ho
        refine ⟨.int .u8 a2, W, ?_, hS, Below.refl _ _, rfl⟩
        first | (go_simp; done) | (simp only [execOp, Act.eval, q0, q1, q2, q3]; go_simp; done) | (simp only [execOp, Act.eval, q0, q1, q2, q3]; go_simp; rfl) | (simp only [execOp, Act.eval, q0, q1, q2, q3]; go_simp; trace_state; sorry)
      | 11, _, ho, hd =>
        obtain rfl := Option.some.inj ho
        have d10 : a.tmps.getD 26 undef = .int .u8 a2 := hd ⟨10, .data⟩ (by simp) rfl
        clear hd ho
        refine ⟨.int .u8 (n2 : Int), W, ?_, hS, Below.refl _ _, rfl⟩
        first | (go_simp; done) | (simp only [execOp, Act.eval, q0, q1, q2, q3, d10]; go_simp; done) | (simp only [execOp, Act.eval, q0, q1, q2, q3, d10]; go_simp; rfl) | (simp only [execOp, Act.eval, q0, q1, q2, q3, d10]; go_simp; trace_state; sorry)
      | 12, _, ho, hd =>
        obtain rfl := Option.some.inj ho
        have d11 : a.tmps.getD 27 undef = .int .u8 (n2 : Int) := hd ⟨11, .data⟩ (by simp) rfl
        clear hd ho
        refine ⟨.int .i64 (n2 : Int), W, ?_, hS, Below.refl _ _, rfl⟩
        first | (go_simp; done) | (simp only [execOp, Act.eval, q0, q1, q2, q3, d11]; go_simp; done) | (simp only [execOp, Act.eval, q0, q1, q2, q3, d11]; go_simp; rfl) | (simp only [execOp, Act.eval, q0, q1, q2, q3, d11]; go_simp; trace_state; sorry)
      | 13, _, ho, hd =>
        obtain rfl := Option.some.inj ho
        have d12 : a.tmps.getD 28 undef = .int .i64 (n2 : Int) := hd ⟨12, .data⟩ (by simp) rfl
        clear hd ho
        refine ⟨.slice (some ⟨W.heap.size, 0, none⟩) n2 n2, W.alloc (.cells (madeCells #[.int .u8 0] n2) 5), ?_, tenementlaw08_ItemSizes.st_alloc hS _, tenementlaw08_ItemSizes.alloc_below W _, ⟨_, rfl, hS.2, blk_new _ _⟩⟩
        first | (go_simp; done) | (simp only [execOp, Act.eval, q0, q1, q2, q3, d12]; go_simp; done) | (simp only [execOp, Act.eval, q0, q1, q2, q3, d12]; go_simp; rfl) | (simp only [execOp, Act.eval, q0, q1, q2, q3, d12]; go_simp; trace_state; sorry)
      | 14, _, ho, hd =>
        obtain rfl := Option.some.inj ho
        obtain ⟨b, d13, hsb, hbk⟩ : tenementlaw08_ItemSizes.Sp s0 n0 n1 n2 a0 a1 a2 a3 13 (a.tmps.getD 29 undef) W := hd ⟨13, .data⟩ (by simp) rfl
        clear hd ho
        refine ⟨.string (strOfNums (List.replicate n2 0)), W, ?_, hS, Below.refl _ _, rfl⟩
        have hcv := run_convert_bytes_arg (P := Try.prog) W 76 5 Try.underlying76 Try.underlying5 b 0 n2 n2 (List.replicate n2 0) (by simp) (fun j hj => by
          rw [Nat.zero_add]
          refine ((blk_cell hbk j).trans (tenementlaw08_ItemSizes.made _ _ j hj)).trans ?_
          simp [List.getElem?_replicate, hj]) 9 Try.underlying9
        first | (go_simp; done) | (simp only [execOp, Act.eval, q0, q1, q2, q3, d13]; go_simp; done) | (simp only [execOp, Act.eval, q0, q1, q2, q3, d13]; go_simp; rfl) | (simp only [execOp, Act.eval, q0, q1, q2, q3, d13]; go_simp; trace_state; sorry)
      | 15, _, ho, hd =>
        obtain rfl := Option.some.inj ho
        clear hd ho
        refine ⟨.bool a3, W, ?_, hS, Below.refl _ _, rfl⟩
        first | (go_simp; done) | (simp only [execOp, Act.eval, q0, q1, q2, q3]; go_simp; done) | (simp only [execOp, Act.eval, q0, q1, q2, q3]; go_simp; rfl) | (simp only [execOp, Act.eval, q0, q1, q2, q3]; go_simp; trace_state; sorry)
      | 16, _, ho, hd =>
        obtain rfl := Option.some.inj ho
        have d4 : a.tmps.getD 20 undef = .string (strOfNums (List.replicate n0 0)) := hd ⟨4, .data⟩ (by simp) rfl
        have d9 : a.tmps.getD 25 undef = .string (strOfNums (List.replicate n1 0)) := hd ⟨9, .data⟩ (by simp) rfl
        have d14 : a.tmps.getD 30 undef = .string (strOfNums (List.replicate n2 0)) := hd ⟨14, .data⟩ (by simp) rfl
        have d15 : a.tmps.getD 31 undef = .bool a3 := hd ⟨15, .data⟩ (by simp) rfl
        clear hd ho
        refine ⟨.agg #[.string (strOfNums (List.replicate n0 0)), .string (strOfNums (List.replicate n1 0)), .string (strOfNums (List.replicate n2 0)), .bool a3], W, ?_, hS, Below.refl _ _, rfl⟩
        have g4 := (Array.getD_eq_getD_getElem? (xs := a.tmps) (i := 20) (d := undef)).symm.trans d4
        have g9 := (Array.getD_eq_getD_getElem? (xs := a.tmps) (i := 25) (d := undef)).symm.trans d9
        have g14 := (Array.getD_eq_getD_getElem? (xs := a.tmps) (i := 30) (d := undef)).symm.trans d14
        have g15 := (Array.getD_eq_getD_getElem? (xs := a.tmps) (i := 31) (d := undef)).symm.trans d15
        go_simp
      | 17, _, ho, hd =>
        obtain rfl := Option.some.inj ho
        clear hd ho
        refine ⟨.pointer (some ⟨W.heap.size, 0, none⟩), W.alloc (.cells #[.string ⟨#[]⟩, .string ⟨#[]⟩, .string ⟨#[]⟩, .bool false] 23), ?_, tenementlaw08_ItemSizes.st_alloc hS _, tenementlaw08_ItemSizes.alloc_below W _, ⟨_, rfl, hS.2, blk_new _ _⟩⟩
        first | (go_simp; done) | (simp only [execOp, Act.eval, q0, q1, q2, q3]; go_simp; done) | (simp only [execOp, Act.eval, q0, q1, q2, q3]; go_simp; rfl) | (simp only [execOp, Act.eval, q0, q1, q2, q3]; go_simp; trace_state; sorry)
      | _ + 18, hi, _, _ => omega
    case hend =>
      intro a W hS hL hA
      have q0 : a.tmps.getD 0 undef = .int .u8 a0 := hL.2.2 0 (by decide)
      have q1 : a.tmps.getD 1 undef = .int .u8 a1 := hL.2.2 1 (by decide)
      have q2 : a.tmps.getD 2 undef = .int .u8 a2 := hL.2.2 2 (by decide)
      have q3 : a.tmps.getD 3 undef = .bool a3 := hL.2.2 3 (by decide)
      have q4 : a.tmps.getD 4 undef = undef := hL.2.2 4 (by decide)
      have q5 : a.tmps.getD 5 undef = undef := hL.2.2 5 (by decide)
      have q6 : a.tmps.getD 6 undef = undef := hL.2.2 6 (by decide)
      have q7 : a.tmps.getD 7 undef = undef := hL.2.2 7 (by decide)
      have q8 : a.tmps.getD 8 undef = .bool false := hL.2.2 8 (by decide)
      have q9 : a.tmps.getD 9 undef = .bool true := hL.2.2 9 (by decide)
      have q11 : a.tmps.getD 11 undef = undef := hL.2.2 11 (by decide)
      have q12 : a.tmps.getD 12 undef = undef := hL.2.2 12 (by decide)
      have q13 : a.tmps.getD 13 undef = .bool true := hL.2.2 13 (by decide)
      have q14 : a.tmps.getD 14 undef = .bool true := hL.2.2 14 (by decide)
      have q15 : a.tmps.getD 15 undef = .bool false := hL.2.2 15 (by decide)
      have q33 : a.tmps.getD 33 undef = undef := hL.2.2 33 (by decide)
      have q34 : a.tmps.getD 34 undef = undef := hL.2.2 34 (by decide)
      have q35 : a.tmps.getD 35 undef = undef := hL.2.2 35 (by decide)
      have q36 : a.tmps.getD 36 undef = undef := hL.2.2 36 (by decide)
      have q37 : a.tmps.getD 37 undef = undef := hL.2.2 37 (by decide)
      have q38 : a.tmps.getD 38 undef = undef := hL.2.2 38 (by decide)
      have q39 : a.tmps.getD 39 undef = undef := hL.2.2 39 (by decide)
      have q40 : a.tmps.getD 40 undef = undef := hL.2.2 40 (by decide)
      have q41 : a.tmps.getD 41 undef = undef := hL.2.2 41 (by decide)
      have q42 : a.tmps.getD 42 undef = undef := hL.2.2 42 (by decide)
      have q43 : a.tmps.getD 43 undef = undef := hL.2.2 43 (by decide)
      have q44 : a.tmps.getD 44 undef = undef := hL.2.2 44 (by decide)
      have q45 : a.tmps.getD 45 undef = undef := hL.2.2 45 (by decide)
      have q46 : a.tmps.getD 46 undef = undef := hL.2.2 46 (by decide)
      have q47 : a.tmps.getD 47 undef = undef := hL.2.2 47 (by decide)
      have q48 : a.tmps.getD 48 undef = undef := hL.2.2 48 (by decide)
      have q49 : a.tmps.getD 49 undef = undef := hL.2.2 49 (by decide)
      have q50 : a.tmps.getD 50 undef = undef := hL.2.2 50 (by decide)
      have q51 : a.tmps.getD 51 undef = undef := hL.2.2 51 (by decide)
      have q52 : a.tmps.getD 52 undef = undef := hL.2.2 52 (by decide)
      have q53 : a.tmps.getD 53 undef = undef := hL.2.2 53 (by decide)
      have q54 : a.tmps.getD 54 undef = undef := hL.2.2 54 (by decide)
      have q55 : a.tmps.getD 55 undef = undef := hL.2.2 55 (by decide)
      have q56 : a.tmps.getD 56 undef = undef := hL.2.2 56 (by decide)
      have q57 : a.tmps.getD 57 undef = undef := hL.2.2 57 (by decide)
      have q58 : a.tmps.getD 58 undef = undef := hL.2.2 58 (by decide)
      have q59 : a.tmps.getD 59 undef = undef := hL.2.2 59 (by decide)
      have q60 : a.tmps.getD 60 undef = undef := hL.2.2 60 (by decide)
      have q61 : a.tmps.getD 61 undef = undef := hL.2.2 61 (by decide)
      have q62 : a.tmps.getD 62 undef = undef := hL.2.2 62 (by decide)
      have q63 : a.tmps.getD 63 undef = undef := hL.2.2 63 (by decide)
      have q64 : a.tmps.getD 64 undef = undef := hL.2.2 64 (by decide)
      have q65 : a.tmps.getD 65 undef = undef := hL.2.2 65 (by decide)
      have q66 : a.tmps.getD 66 undef = undef := hL.2.2 66 (by decide)
      have q67 : a.tmps.getD 67 undef = undef := hL.2.2 67 (by decide)
      have q68 : a.tmps.getD 68 undef = undef := hL.2.2 68 (by decide)
      have q69 : a.tmps.getD 69 undef = undef := hL.2.2 69 (by decide)
      have q70 : a.tmps.getD 70 undef = undef := hL.2.2 70 (by decide)
      have q71 : a.tmps.getD 71 undef = undef := hL.2.2 71 (by decide)
      have q72 : a.tmps.getD 72 undef = undef := hL.2.2 72 (by decide)
      have q73 : a.tmps.getD 73 undef = undef := hL.2.2 73 (by decide)
      have q74 : a.tmps.getD 74 undef = undef := hL.2.2 74 (by decide)
      have q75 : a.tmps.getD 75 undef = undef := hL.2.2 75 (by decide)
      have q76 : a.tmps.getD 76 undef = undef := hL.2.2 76 (by decide)
      have q77 : a.tmps.getD 77 undef = undef := hL.2.2 77 (by decide)
      have q78 : a.tmps.getD 78 undef = undef := hL.2.2 78 (by decide)
      have q79 : a.tmps.getD 79 undef = undef := hL.2.2 79 (by decide)
      have q80 : a.tmps.getD 80 undef = undef := hL.2.2 80 (by decide)
      have q81 : a.tmps.getD 81 undef = undef := hL.2.2 81 (by decide)
      have q82 : a.tmps.getD 82 undef = undef := hL.2.2 82 (by decide)
      have q83 : a.tmps.getD 83 undef = undef := hL.2.2 83 (by decide)
      have q84 : a.tmps.getD 84 undef = undef := hL.2.2 84 (by decide)
      have q85 : a.tmps.getD 85 undef = undef := hL.2.2 85 (by decide)
      have q86 : a.tmps.getD 86 undef = undef := hL.2.2 86 (by decide)
      have q87 : a.tmps.getD 87 undef = undef := hL.2.2 87 (by decide)
      have q88 : a.tmps.getD 88 undef = undef := hL.2.2 88 (by decide)
      have q89 : a.tmps.getD 89 undef = undef := hL.2.2 89 (by decide)
      have q90 : a.tmps.getD 90 undef = undef := hL.2.2 90 (by decide)
      have q91 : a.tmps.getD 91 undef = undef := hL.2.2 91 (by decide)
      have q92 : a.tmps.getD 92 undef = undef := hL.2.2 92 (by decide)
      have q93 : a.tmps.getD 93 undef = undef := hL.2.2 93 (by decide)
      have q94 : a.tmps.getD 94 undef = undef := hL.2.2 94 (by decide)
      have q16 : a.tmps.getD 16 undef = .int .u8 a0 := hA 0 (by decide)
      have q17 : a.tmps.getD 17 undef = .int .u8 (n0 : Int) := hA 1 (by decide)
      have q18 : a.tmps.getD 18 undef = .int .i64 (n0 : Int) := hA 2 (by decide)
      obtain ⟨b19, q19, s19, k19⟩ : tenementlaw08_ItemSizes.Sp s0 n0 n1 n2 a0 a1 a2 a3 3 (a.tmps.getD 19 undef) W := hA 3 (by decide)
      have q20 : a.tmps.getD 20 undef = .string (strOfNums (List.replicate n0 0)) := hA 4 (by decide)
      have q21 : a.tmps.getD 21 undef = .int .u8 a1 := hA 5 (by decide)
      have q22 : a.tmps.getD 22 undef = .int .u8 (n1 : Int) := hA 6 (by decide)
      have q23 : a.tmps.getD 23 undef = .int .i64 (n1 : Int) := hA 7 (by decide)
      obtain ⟨b24, q24, s24, k24⟩ : tenementlaw08_ItemSizes.Sp s0 n0 n1 n2 a0 a1 a2 a3 8 (a.tmps.getD 24 undef) W := hA 8 (by decide)
      have q25 : a.tmps.getD 25 undef = .string (strOfNums (List.replicate n1 0)) := hA 9 (by decide)
      have q26 : a.tmps.getD 26 undef = .int .u8 a2 := hA 10 (by decide)
      have q27 : a.tmps.getD 27 undef = .int .u8 (n2 : Int) := hA 11 (by decide)
      have q28 : a.tmps.getD 28 undef = .int .i64 (n2 : Int) := hA 12 (by decide)
      obtain ⟨b29, q29, s29, k29⟩ : tenementlaw08_ItemSizes.Sp s0 n0 n1 n2 a0 a1 a2 a3 13 (a.tmps.getD 29 undef) W := hA 13 (by decide)
      have q30 : a.tmps.getD 30 undef = .string (strOfNums (List.replicate n2 0)) := hA 14 (by decide)
      have q31 : a.tmps.getD 31 undef = .bool a3 := hA 15 (by decide)
      have q32 : a.tmps.getD 32 undef = .agg #[.string (strOfNums (List.replicate n0 0)), .string (strOfNums (List.replicate n1 0)), .string (strOfNums (List.replicate n2 0)), .bool a3] := hA 16 (by decide)
      obtain ⟨b10, q10, s10, k10⟩ : tenementlaw08_ItemSizes.Sp s0 n0 n1 n2 a0 a1 a2 a3 17 (a.tmps.getD 10 undef) W := hA 17 (by decide)
      have ht : a.tmps = #[.int .u8 a0, .int .u8 a1, .int .u8 a2, .bool a3, undef, undef, undef, undef, .bool false, .bool true, .pointer (some ⟨b10, 0, none⟩), undef, undef, .bool true, .bool true, .bool false, .int .u8 a0, .int .u8 (n0 : Int), .int .i64 (n0 : Int), .slice (some ⟨b19, 0, none⟩) n0 n0, .string (strOfNums (List.replicate n0 0)), .int .u8 a1, .int .u8 (n1 : Int), .int .i64 (n1 : Int), .slice (some ⟨b24, 0, none⟩) n1 n1, .string (strOfNums (List.replicate n1 0)), .int .u8 a2, .int .u8 (n2 : Int), .int .i64 (n2 : Int), .slice (some ⟨b29, 0, none⟩) n2 n2, .string (strOfNums (List.replicate n2 0)), .bool a3, .agg #[.string (strOfNums (List.replicate n0 0)), .string (strOfNums (List.replicate n1 0)), .string (strOfNums (List.replicate n2 0)), .bool a3], undef, undef, undef, undef, undef, undef, undef, undef, undef, undef, undef, undef, undef, undef, undef, undef, undef, undef, undef, undef, undef, undef, undef, undef, undef, undef, undef, undef, undef, undef, undef, undef, undef, undef, undef, undef, undef, undef, undef, undef, undef, undef, undef, undef, undef, undef, undef, undef, undef, undef, undef, undef, undef, undef, undef, undef, undef, undef, undef, undef, undef, undef] := by
        rw [Go.Proofs.Ytoogchgoiciggaa.Inv.tmps_eq a 95 hL.2.1, show List.range 95 = [0, 1, 2, 3, 4, 5, 6, 7, 8, 9, 10, 11, 12, 13, 14, 15, 16, 17, 18, 19, 20, 21, 22, 23, 24, 25, 26, 27, 28, 29, 30, 31, 32, 33, 34, 35, 36, 37, 38, 39, 40, 41, 42, 43, 44, 45, 46, 47, 48, 49, 50, 51, 52, 53, 54, 55, 56, 57, 58, 59, 60, 61, 62, 63, 64, 65, 66, 67, 68, 69, 70, 71, 72, 73, 74, 75, 76, 77, 78, 79, 80, 81, 82, 83, 84, 85, 86, 87, 88, 89, 90, 91, 92, 93, 94] from rfl]
        simp only [List.map_cons, List.map_nil, q0, q1, q2, q3, q4, q5, q6, q7, q8, q9, q10, q11, q12, q13, q14, q15, q16, q17, q18, q19, q20, q21, q22, q23, q24, q25, q26, q27, q28, q29, q30, q31, q32, q33, q34, q35, q36, q37, q38, q39, q40, q41, q42, q43, q44, q45, q46, q47, q48, q49, q50, q51, q52, q53, q54, q55, q56, q57, q58, q59, q60, q61, q62, q63, q64, q65, q66, q67, q68, q69, q70, q71, q72, q73, q74, q75, q76, q77, q78, q79, q80, q81, q82, q83, q84, q85, q86, q87, q88, q89, q90, q91, q92, q93, q94]
      clear q0 q1 q2 q3 q4 q5 q6 q7 q8 q9 q10 q11 q12 q13 q14 q15 q16 q17 q18 q19 q20 q21 q22 q23 q24 q25 q26 q27 q28 q29 q30 q31 q32 q33 q34 q35 q36 q37 q38 q39 q40 q41 q42 q43 q44 q45 q46 q47 q48 q49 q50 q51 q52 q53 q54 q55 q56 q57 q58 q59 q60 q61 q62 q63 q64 q65 q66 q67 q68 q69 q70 q71 q72 q73 q74 q75 q76 q77 q78 q79 q80 q81 q82 q83 q84 q85 q86 q87 q88 q89 q90 q91 q92 q93 q94 k19 k24 k29 s19 s24 s29
      obtain ⟨tm, df⟩ := a
      obtain rfl : df = [] := hL.1
      obtain rfl : tm = _ := ht
      have gb : w.heap.size ≤ b10 := by omega
      have BK := Aside0.mk (blk_put (blk_put (blk_put (blk_put (k10) 0 (.string (strOfNums (List.replicate n0 0))) (cs' := #[.string (strOfNums (List.replicate n0 0)), .string ⟨#[]⟩, .string ⟨#[]⟩, .bool false]) rfl) 1 (.string (strOfNums (List.replicate n1 0))) (cs' := #[.string (strOfNums (List.replicate n0 0)), .string (strOfNums (List.replicate n1 0)), .string ⟨#[]⟩, .bool false]) rfl) 2 (.string (strOfNums (List.replicate n2 0))) (cs' := #[.string (strOfNums (List.replicate n0 0)), .string (strOfNums (List.replicate n1 0)), .string (strOfNums (List.replicate n2 0)), .bool false]) rfl) 3 (.bool a3) (cs' := #[.string (strOfNums (List.replicate n0 0)), .string (strOfNums (List.replicate n1 0)), .string (strOfNums (List.replicate n2 0)), .bool a3]) rfl)
      have HB := Aside0.mk (below_set (j := 3) (v := .bool a3) (below_set (j := 2) (v := .string (strOfNums (List.replicate n2 0))) (below_set (j := 1) (v := .string (strOfNums (List.replicate n1 0))) (below_set (j := 0) (v := .string (strOfNums (List.replicate n0 0))) (hS.1) gb) gb) gb) gb)
      obtain ⟨x0, x1, x2, x3, z0, z1, z2, z3⟩ := Ke4_ k10
      clear hL hA hst
      refine tenementlaw08_ItemSizes.op_some (i := 18) rfl rfl ?_
      unfold Oper.wp
      go_simp
      clear x0 x1 x2 x3 z0 z1 z2 z3 k10 hS
      generalize ((((W.setCell ⟨b10, 0, none⟩ (.string (strOfNums (List.replicate n0 0)))).setCell ⟨b10, 1, none⟩ (.string (strOfNums (List.replicate n1 0)))).setCell ⟨b10, 2, none⟩ (.string (strOfNums (List.replicate n2 0)))).setCell ⟨b10, 3, none⟩ (.bool a3)) = W2 at *
      have y0 : (strOfNums (List.replicate n0 0)).size = n0 := by unfold strOfNums; simp [ByteArray.size]
      have y1 : (strOfNums (List.replicate n1 0)).size = n1 := by unfold strOfNums; simp [ByteArray.size]
      have y2 : (strOfNums (List.replicate n2 0)).size = n2 := by unfold strOfNums; simp [ByteArray.size]
      generalize (strOfNums (List.replicate n0 0)) = T0 at *
      generalize (strOfNums (List.replicate n1 0)) = T1 at *
      generalize (strOfNums (List.replicate n2 0)) = T2 at *
      clear e0 e1 e2 w0 w1 w2 W s10
      have v1 : IntKind.i64.wrap ((T0.size : Int) + (T1.size : Int)) = (T0.size : Int) + (T1.size : Int) := by rw [IntKind.wrap_i64]; omega
      have v2 : IntKind.i64.wrap ((T0.size : Int) + (T1.size : Int) + (T2.size : Int)) = (T0.size : Int) + (T1.size : Int) + (T2.size : Int) := by rw [IntKind.wrap_i64]; omega
      have hz0 : item_Size.f T0 T1 T2 false = some ((T0.size : Int) + (T1.size : Int) + (T2.size : Int)) := by
        unfold item_Size.f
        rw [if_neg (by simp), Go.Proofs.Ytoogchgoiciggaa.Pure.wrap64_id (x := (T0.size : Int) + (T1.size : Int)) (by omega) (by omega), Go.Proofs.Ytoogchgoiciggaa.Pure.wrap64_id (x := (T0.size : Int) + (T1.size : Int) + (T2.size : Int)) (by omega) (by omega)]
      have hz1 : item_Size.f T0 T1 T2 true = some 0 := by unfold item_Size.f; rw [if_pos rfl]
      obtain ⟨x0, x1, x2, x3, z0, z1, z2, z3⟩ := Ke4_ BK.out
      cases a3 with
      | false =>
        by_cases c0 : 1 ≤ T0.size
        rotate_left
        · have p0 : decide (1 ≤ (T0.size : Int)) = false := decide_eq_false (by omega)
          have hr : tenementlaw08_ItemSizes.okW T0 T1 T2 false = false := by
            unfold tenementlaw08_ItemSizes.okW
            rw [decide_eq_false c0]
            rfl
          go_wp2_with (first | (go_at_call 18; refine (item_Right.calls T0 T1 T2 false false _ (by rw [tenementlaw08_ItemSizes.right_f, hr])).mono ?_; rintro e w1 ⟨rfl, hb⟩; have BK1 := blk_below BK.out hb; replace HB := Aside0.mk (below_step HB.out hb); clear hb x0 x1 x2 x3 z0 z1 z2 z3 BK; obtain ⟨x0, x1, x2, x3, z0, z1, z2, z3⟩ := Ke4_ BK1; clear BK1) | (go_at_call 20; refine (item_Size.calls T0 T1 T2 false ((T0.size : Int) + (T1.size : Int) + (T2.size : Int)) _ hz0).mono ?_; rintro e w2 ⟨rfl, hb⟩; replace HB := Aside0.mk (below_step HB.out hb); clear hb))
          go_ret
          exact ⟨rfl, HB.out⟩
        have p0 : decide (1 ≤ (T0.size : Int)) = true := decide_eq_true (by omega)
        by_cases c1 : T0.size ≤ 16
        rotate_left
        · have p1 : decide ((T0.size : Int) ≤ 16) = false := decide_eq_false (by omega)
          have hr : tenementlaw08_ItemSizes.okW T0 T1 T2 false = false := by
            unfold tenementlaw08_ItemSizes.okW
            rw [decide_eq_true c0, decide_eq_false c1]
            rfl
          go_wp2_with (first | (go_at_call 18; refine (item_Right.calls T0 T1 T2 false false _ (by rw [tenementlaw08_ItemSizes.right_f, hr])).mono ?_; rintro e w1 ⟨rfl, hb⟩; have BK1 := blk_below BK.out hb; replace HB := Aside0.mk (below_step HB.out hb); clear hb x0 x1 x2 x3 z0 z1 z2 z3 BK; obtain ⟨x0, x1, x2, x3, z0, z1, z2, z3⟩ := Ke4_ BK1; clear BK1) | (go_at_call 20; refine (item_Size.calls T0 T1 T2 false ((T0.size : Int) + (T1.size : Int) + (T2.size : Int)) _ hz0).mono ?_; rintro e w2 ⟨rfl, hb⟩; replace HB := Aside0.mk (below_step HB.out hb); clear hb))
          go_ret
          exact ⟨rfl, HB.out⟩
        have p1 : decide ((T0.size : Int) ≤ 16) = true := decide_eq_true (by omega)
        by_cases c2 : 1 ≤ T1.size
        rotate_left
        · have p2 : decide (1 ≤ (T1.size : Int)) = false := decide_eq_false (by omega)
          have hr : tenementlaw08_ItemSizes.okW T0 T1 T2 false = false := by
            unfold tenementlaw08_ItemSizes.okW
            rw [decide_eq_true c0, decide_eq_true c1, decide_eq_false c2]
            rfl
          go_wp2_with (first | (go_at_call 18; refine (item_Right.calls T0 T1 T2 false false _ (by rw [tenementlaw08_ItemSizes.right_f, hr])).mono ?_; rintro e w1 ⟨rfl, hb⟩; have BK1 := blk_below BK.out hb; replace HB := Aside0.mk (below_step HB.out hb); clear hb x0 x1 x2 x3 z0 z1 z2 z3 BK; obtain ⟨x0, x1, x2, x3, z0, z1, z2, z3⟩ := Ke4_ BK1; clear BK1) | (go_at_call 20; refine (item_Size.calls T0 T1 T2 false ((T0.size : Int) + (T1.size : Int) + (T2.size : Int)) _ hz0).mono ?_; rintro e w2 ⟨rfl, hb⟩; replace HB := Aside0.mk (below_step HB.out hb); clear hb))
          go_ret
          exact ⟨rfl, HB.out⟩
        have p2 : decide (1 ≤ (T1.size : Int)) = true := decide_eq_true (by omega)
        by_cases c3 : T1.size ≤ 16
        rotate_left
        · have p3 : decide ((T1.size : Int) ≤ 16) = false := decide_eq_false (by omega)
          have hr : tenementlaw08_ItemSizes.okW T0 T1 T2 false = false := by
            unfold tenementlaw08_ItemSizes.okW
            rw [decide_eq_true c0, decide_eq_true c1, decide_eq_true c2, decide_eq_false c3]
            rfl
          go_wp2_with (first | (go_at_call 18; refine (item_Right.calls T0 T1 T2 false false _ (by rw [tenementlaw08_ItemSizes.right_f, hr])).mono ?_; rintro e w1 ⟨rfl, hb⟩; have BK1 := blk_below BK.out hb; replace HB := Aside0.mk (below_step HB.out hb); clear hb x0 x1 x2 x3 z0 z1 z2 z3 BK; obtain ⟨x0, x1, x2, x3, z0, z1, z2, z3⟩ := Ke4_ BK1; clear BK1) | (go_at_call 20; refine (item_Size.calls T0 T1 T2 false ((T0.size : Int) + (T1.size : Int) + (T2.size : Int)) _ hz0).mono ?_; rintro e w2 ⟨rfl, hb⟩; replace HB := Aside0.mk (below_step HB.out hb); clear hb))
          go_ret
          exact ⟨rfl, HB.out⟩
        have p3 : decide ((T1.size : Int) ≤ 16) = true := decide_eq_true (by omega)
        by_cases c4 : T2.size ≤ 32
        rotate_left
        · have p4 : decide ((T2.size : Int) ≤ 32) = false := decide_eq_false (by omega)
          have hr : tenementlaw08_ItemSizes.okW T0 T1 T2 false = false := by
            unfold tenementlaw08_ItemSizes.okW
            rw [decide_eq_true c0, decide_eq_true c1, decide_eq_true c2, decide_eq_true c3, decide_eq_false c4]
            rfl
          go_wp2_with (first | (go_at_call 18; refine (item_Right.calls T0 T1 T2 false false _ (by rw [tenementlaw08_ItemSizes.right_f, hr])).mono ?_; rintro e w1 ⟨rfl, hb⟩; have BK1 := blk_below BK.out hb; replace HB := Aside0.mk (below_step HB.out hb); clear hb x0 x1 x2 x3 z0 z1 z2 z3 BK; obtain ⟨x0, x1, x2, x3, z0, z1, z2, z3⟩ := Ke4_ BK1; clear BK1) | (go_at_call 20; refine (item_Size.calls T0 T1 T2 false ((T0.size : Int) + (T1.size : Int) + (T2.size : Int)) _ hz0).mono ?_; rintro e w2 ⟨rfl, hb⟩; replace HB := Aside0.mk (below_step HB.out hb); clear hb))
          go_ret
          exact ⟨rfl, HB.out⟩
        have p4 : decide ((T2.size : Int) ≤ 32) = true := decide_eq_true (by omega)
        have hr : tenementlaw08_ItemSizes.okW T0 T1 T2 false = true := by
          unfold tenementlaw08_ItemSizes.okW
          rw [decide_eq_true c0, decide_eq_true c1, decide_eq_true c2, decide_eq_true c3, decide_eq_true c4]
          rfl
        go_wp2_with (first | (go_at_call 18; refine (item_Right.calls T0 T1 T2 false true _ (by rw [tenementlaw08_ItemSizes.right_f, hr])).mono ?_; rintro e w1 ⟨rfl, hb⟩; have BK1 := blk_below BK.out hb; replace HB := Aside0.mk (below_step HB.out hb); clear hb x0 x1 x2 x3 z0 z1 z2 z3 BK; obtain ⟨x0, x1, x2, x3, z0, z1, z2, z3⟩ := Ke4_ BK1; clear BK1) | (go_at_call 20; refine (item_Size.calls T0 T1 T2 false ((T0.size : Int) + (T1.size : Int) + (T2.size : Int)) _ hz0).mono ?_; rintro e w2 ⟨rfl, hb⟩; replace HB := Aside0.mk (below_step HB.out hb); clear hb))
        go_ret
        exact ⟨rfl, HB.out⟩
      | true =>
        by_cases c0 : 1 ≤ T0.size
        rotate_left
        · have p0 : decide (1 ≤ (T0.size : Int)) = false := decide_eq_false (by omega)
          have hr : tenementlaw08_ItemSizes.okW T0 T1 T2 true = false := by
            unfold tenementlaw08_ItemSizes.okW
            rw [decide_eq_false c0]
            rfl
          go_wp2_with (first | (go_at_call 18; refine (item_Right.calls T0 T1 T2 true false _ (by rw [tenementlaw08_ItemSizes.right_f, hr])).mono ?_; rintro e w1 ⟨rfl, hb⟩; have BK1 := blk_below BK.out hb; replace HB := Aside0.mk (below_step HB.out hb); clear hb x0 x1 x2 x3 z0 z1 z2 z3 BK; obtain ⟨x0, x1, x2, x3, z0, z1, z2, z3⟩ := Ke4_ BK1; clear BK1) | (go_at_call 20; refine (item_Size.calls T0 T1 T2 true 0 _ hz1).mono ?_; rintro e w2 ⟨rfl, hb⟩; replace HB := Aside0.mk (below_step HB.out hb); clear hb))
          go_ret
          exact ⟨rfl, HB.out⟩
        have p0 : decide (1 ≤ (T0.size : Int)) = true := decide_eq_true (by omega)
        by_cases c1 : T0.size ≤ 16
        rotate_left
        · have p1 : decide ((T0.size : Int) ≤ 16) = false := decide_eq_false (by omega)
          have hr : tenementlaw08_ItemSizes.okW T0 T1 T2 true = false := by
            unfold tenementlaw08_ItemSizes.okW
            rw [decide_eq_true c0, decide_eq_false c1]
            rfl
          go_wp2_with (first | (go_at_call 18; refine (item_Right.calls T0 T1 T2 true false _ (by rw [tenementlaw08_ItemSizes.right_f, hr])).mono ?_; rintro e w1 ⟨rfl, hb⟩; have BK1 := blk_below BK.out hb; replace HB := Aside0.mk (below_step HB.out hb); clear hb x0 x1 x2 x3 z0 z1 z2 z3 BK; obtain ⟨x0, x1, x2, x3, z0, z1, z2, z3⟩ := Ke4_ BK1; clear BK1) | (go_at_call 20; refine (item_Size.calls T0 T1 T2 true 0 _ hz1).mono ?_; rintro e w2 ⟨rfl, hb⟩; replace HB := Aside0.mk (below_step HB.out hb); clear hb))
          go_ret
          exact ⟨rfl, HB.out⟩
        have p1 : decide ((T0.size : Int) ≤ 16) = true := decide_eq_true (by omega)
        by_cases c2 : 1 ≤ T1.size
        rotate_left
        · have p2 : decide (1 ≤ (T1.size : Int)) = false := decide_eq_false (by omega)
          have hr : tenementlaw08_ItemSizes.okW T0 T1 T2 true = false := by
            unfold tenementlaw08_ItemSizes.okW
            rw [decide_eq_true c0, decide_eq_true c1, decide_eq_false c2]
            rfl
          go_wp2_with (first | (go_at_call 18; refine (item_Right.calls T0 T1 T2 true false _ (by rw [tenementlaw08_ItemSizes.right_f, hr])).mono ?_; rintro e w1 ⟨rfl, hb⟩; have BK1 := blk_below BK.out hb; replace HB := Aside0.mk (below_step HB.out hb); clear hb x0 x1 x2 x3 z0 z1 z2 z3 BK; obtain ⟨x0, x1, x2, x3, z0, z1, z2, z3⟩ := Ke4_ BK1; clear BK1) | (go_at_call 20; refine (item_Size.calls T0 T1 T2 true 0 _ hz1).mono ?_; rintro e w2 ⟨rfl, hb⟩; replace HB := Aside0.mk (below_step HB.out hb); clear hb))
          go_ret
          exact ⟨rfl, HB.out⟩
        have p2 : decide (1 ≤ (T1.size : Int)) = true := decide_eq_true (by omega)
        by_cases c3 : T1.size ≤ 16
        rotate_left
        · have p3 : decide ((T1.size : Int) ≤ 16) = false := decide_eq_false (by omega)
          have hr : tenementlaw08_ItemSizes.okW T0 T1 T2 true = false := by
            unfold tenementlaw08_ItemSizes.okW
            rw [decide_eq_true c0, decide_eq_true c1, decide_eq_true c2, decide_eq_false c3]
            rfl
          go_wp2_with (first | (go_at_call 18; refine (item_Right.calls T0 T1 T2 true false _ (by rw [tenementlaw08_ItemSizes.right_f, hr])).mono ?_; rintro e w1 ⟨rfl, hb⟩; have BK1 := blk_below BK.out hb; replace HB := Aside0.mk (below_step HB.out hb); clear hb x0 x1 x2 x3 z0 z1 z2 z3 BK; obtain ⟨x0, x1, x2, x3, z0, z1, z2, z3⟩ := Ke4_ BK1; clear BK1) | (go_at_call 20; refine (item_Size.calls T0 T1 T2 true 0 _ hz1).mono ?_; rintro e w2 ⟨rfl, hb⟩; replace HB := Aside0.mk (below_step HB.out hb); clear hb))
          go_ret
          exact ⟨rfl, HB.out⟩
        have p3 : decide ((T1.size : Int) ≤ 16) = true := decide_eq_true (by omega)
        by_cases c4 : T2.size ≤ 32
        rotate_left
        · have p4 : decide ((T2.size : Int) ≤ 32) = false := decide_eq_false (by omega)
          have hr : tenementlaw08_ItemSizes.okW T0 T1 T2 true = false := by
            unfold tenementlaw08_ItemSizes.okW
            rw [decide_eq_true c0, decide_eq_true c1, decide_eq_true c2, decide_eq_true c3, decide_eq_false c4]
            rfl
          go_wp2_with (first | (go_at_call 18; refine (item_Right.calls T0 T1 T2 true false _ (by rw [tenementlaw08_ItemSizes.right_f, hr])).mono ?_; rintro e w1 ⟨rfl, hb⟩; have BK1 := blk_below BK.out hb; replace HB := Aside0.mk (below_step HB.out hb); clear hb x0 x1 x2 x3 z0 z1 z2 z3 BK; obtain ⟨x0, x1, x2, x3, z0, z1, z2, z3⟩ := Ke4_ BK1; clear BK1) | (go_at_call 20; refine (item_Size.calls T0 T1 T2 true 0 _ hz1).mono ?_; rintro e w2 ⟨rfl, hb⟩; replace HB := Aside0.mk (below_step HB.out hb); clear hb))
          go_ret
          exact ⟨rfl, HB.out⟩
        have p4 : decide ((T2.size : Int) ≤ 32) = true := decide_eq_true (by omega)
        by_cases c5 : T2.size = 0
        rotate_left
        · have p5 : (T2.toList == ([] : List UInt8)) = false := beq_eq_false_iff_ne.mpr (fun h => c5 (tenementlaw08_ItemSizes.nil_.1 h))
          have hr : tenementlaw08_ItemSizes.okW T0 T1 T2 true = false := by
            unfold tenementlaw08_ItemSizes.okW
            rw [decide_eq_true c0, decide_eq_true c1, decide_eq_true c2, decide_eq_true c3, decide_eq_true c4, decide_eq_false c5]
            rfl
          go_wp2_with (first | (go_at_call 18; refine (item_Right.calls T0 T1 T2 true false _ (by rw [tenementlaw08_ItemSizes.right_f, hr])).mono ?_; rintro e w1 ⟨rfl, hb⟩; have BK1 := blk_below BK.out hb; replace HB := Aside0.mk (below_step HB.out hb); clear hb x0 x1 x2 x3 z0 z1 z2 z3 BK; obtain ⟨x0, x1, x2, x3, z0, z1, z2, z3⟩ := Ke4_ BK1; clear BK1) | (go_at_call 20; refine (item_Size.calls T0 T1 T2 true 0 _ hz1).mono ?_; rintro e w2 ⟨rfl, hb⟩; replace HB := Aside0.mk (below_step HB.out hb); clear hb))
          go_ret
          exact ⟨rfl, HB.out⟩
        have p5 : (T2.toList == ([] : List UInt8)) = true := beq_iff_eq.mpr (tenementlaw08_ItemSizes.nil_.2 c5)
        have hr : tenementlaw08_ItemSizes.okW T0 T1 T2 true = true := by
          unfold tenementlaw08_ItemSizes.okW
          rw [decide_eq_true c0, decide_eq_true c1, decide_eq_true c2, decide_eq_true c3, decide_eq_true c4, decide_eq_true c5]
          rfl
        go_wp2_with (first | (go_at_call 18; refine (item_Right.calls T0 T1 T2 true true _ (by rw [tenementlaw08_ItemSizes.right_f, hr])).mono ?_; rintro e w1 ⟨rfl, hb⟩; have BK1 := blk_below BK.out hb; replace HB := Aside0.mk (below_step HB.out hb); clear hb x0 x1 x2 x3 z0 z1 z2 z3 BK; obtain ⟨x0, x1, x2, x3, z0, z1, z2, z3⟩ := Ke4_ BK1; clear BK1) | (go_at_call 20; refine (item_Size.calls T0 T1 T2 true 0 _ hz1).mono ?_; rintro e w2 ⟨rfl, hb⟩; replace HB := Aside0.mk (below_step HB.out hb); clear hb))
        go_ret
        exact ⟨rfl, HB.out⟩

def tenementlaw08_ItemSizes.Pure : Prop := ∀ (a0 : Int) (a1 : Int) (a2 : Int) (a3 : Bool), (Lit.int .u8 a0).wf = true → (Lit.int .u8 a1).wf = true → (Lit.int .u8 a2).wf = true → ∃ k, tenementlaw08_ItemSizes.f k a0 a1 a2 a3 = some true
theorem tenementlaw08_ItemSizes.walk (P : tenementlaw08_ItemSizes.Pure) (a0 : Int) (a1 : Int) (a2 : Int) (a3 : Bool) (w : World) (w0 : (Lit.int .u8 a0).wf = true) (w1 : (Lit.int .u8 a1).wf = true) (w2 : (Lit.int .u8 a2).wf = true) :
    Calls Try.prog 10 #[.int .u8 a0, .int .u8 a1, .int .u8 a2, .bool a3] w fun e w' => e = .returned (.bool true) ∧ Below w.heap.size w w' := by
  obtain ⟨k, h⟩ := P a0 a1 a2 a3 w0 w1 w2
  refine (tenementlaw08_ItemSizes.calls k a0 a1 a2 a3 true w h).mono ?_
  rintro e w' ⟨rfl, hd⟩
  exact ⟨rfl, hd⟩
end Go.Proofs.Ytoogchgoiciggaa.Q

/- A write's size is how many bytes bucket, key and value have; what is gone has none; what is too long is not right. -/
set_option linter.unusedVariables false
set_option linter.unusedSimpArgs false
namespace Go.Proofs.Ytoogchgoiciggaa.Pure
open Go.RowKit Go.Proofs.Ytoogchgoiciggaa.Q Go.Proofs.YtoogchgoiciggaaW.PrintWords Go.Proofs.YtoogchgoiciggaaW.PrintLast Go.Proofs.YtoogchgoiciggaaW.PrintMore

theorem examples_60 : tenementlaw08_examples.f 60 = some true := by decide +kernel
theorem sizes_u8 {x : Int} (h : (Lit.int .u8 x).wf = true) : 0 ≤ x ∧ x ≤ 255 := by
  have h : IntKind.u8.min ≤ x ∧ x ≤ IntKind.u8.max := by simpa only [Lit.wf, Bool.and_eq_true, decide_eq_true_eq] using h
  exact h
theorem ItemSizes : tenementlaw08_ItemSizes.Pure := by
  intro b k v gone hb hk hv
  refine ⟨60, ?_⟩
  unfold tenementlaw08_ItemSizes.f
  rw [if_pos ⟨sizes_u8 hb, sizes_u8 hk, sizes_u8 hv⟩, examples_60, Option.bind_some, if_pos rfl]
end Go.Proofs.Ytoogchgoiciggaa.Pure
