/- A text with up to four bytes that stand side by side changed has another sum: for every text, place and change. -/
import Derived.Test.YtlngbigddbklpaaCrcA
import Derived.Test.YtlngbigddbklpaaQx11
import Derived.Test.YtlngbigddbklpaaQx5
set_option linter.unusedVariables false
namespace Go.Proofs.Ytlngbigddbklpaa.Pure
open Go.RowKit Go.Proofs.Ytlngbigddbklpaa.Q Go.Proofs.YtlngbigddbklpaaW.PrintWords Go.Proofs.YtlngbigddbklpaaW.PrintLast Go.Proofs.YtlngbigddbklpaaW.PrintMore Go.Proofs.Ytlngbigddbklpaa.CrcN

theorem bursts_examples : tenementlaw01_examples.f 40 = some true := by decide +kernel
theorem bytesOf_bl (s : ByteArray) : bytesOf s = (bl s).map fun n : Nat => (n : Int) := by
  unfold bytesOf bl; simp
theorem turn_at (A C : List Nat) (x b : Nat) (hx : x < 256) (hb : b < 256) (p : Nat) (hp : p = A.length) :
    tenementlaw01_CrcBursts.turn ((A ++ x :: C).map fun n : Nat => (n : Int)) p (b : Int) = (A ++ (x ^^^ b) :: C).map fun n : Nat => (n : Int) := by
  subst hp
  unfold tenementlaw01_CrcBursts.turn
  have e : ((A ++ x :: C).map fun n : Nat => (n : Int)).getD A.length 0 = (x : Int) := by simp [List.getD_eq_getElem?_getD]
  rw [e, u8_xor_nat _ _ hx hb]
  simp
theorem burst_list (A C : List Nat) (x0 x1 x2 x3 b : Nat) (h0 : x0 < 256) (h1 : x1 < 256) (h2 : x2 < 256) (h3 : x3 < 256) :
    tenementlaw01_CrcBursts.burst ((A ++ ([x0, x1, x2, x3] ++ C)).map fun n : Nat => (n : Int)) A.length (b : Int) =
      (A ++ ([x0 ^^^ (b % 256), x1 ^^^ (b / 256 % 256), x2 ^^^ (b / 65536 % 256), x3 ^^^ (b / 16777216 % 256)] ++ C)).map fun n : Nat => (n : Int) := by
  unfold tenementlaw01_CrcBursts.burst
  rw [show (b : Int) % 256 = ((b % 256 : Nat) : Int) by omega, show (b : Int) / 256 % 256 = ((b / 256 % 256 : Nat) : Int) by omega, show (b : Int) / 65536 % 256 = ((b / 65536 % 256 : Nat) : Int) by omega, show (b : Int) / 16777216 % 256 = ((b / 16777216 % 256 : Nat) : Int) by omega]
  generalize e0 : b % 256 = b0
  generalize e1 : b / 256 % 256 = b1
  generalize e2 : b / 65536 % 256 = b2
  generalize e3 : b / 16777216 % 256 = b3
  have s0 := turn_at A (x1 :: x2 :: x3 :: C) x0 b0 h0 (by omega) _ rfl
  have s1 := turn_at (A ++ [x0 ^^^ b0]) (x2 :: x3 :: C) x1 b1 h1 (by omega) (A.length + 1) (by simp)
  have s2 := turn_at (A ++ [x0 ^^^ b0, x1 ^^^ b1]) (x3 :: C) x2 b2 h2 (by omega) (A.length + 2) (by simp)
  have s3 := turn_at (A ++ [x0 ^^^ b0, x1 ^^^ b1, x2 ^^^ b2]) C x3 b3 h3 (by omega) (A.length + 3) (by simp)
  simp only [List.append_assoc, List.cons_append, List.nil_append] at s0 s1 s2 s3 ⊢
  rw [s0, s1, s2, s3]
theorem CrcBursts : tenementlaw01_CrcBursts.Pure := by
  intro s at_ by_ hs ha hb
  have ha' : 0 ≤ at_ ∧ at_ ≤ 65535 := by
    simp only [Lit.wf, Bool.and_eq_true, decide_eq_true_eq] at ha; exact ha
  have hb' : 0 ≤ by_ ∧ by_ ≤ 4294967295 := by
    simp only [Lit.wf, Bool.and_eq_true, decide_eq_true_eq] at hb; exact hb
  obtain ⟨b, rfl⟩ := Int.eq_ofNat_of_zero_le hb'.1
  refine ⟨40, ?_⟩
  unfold tenementlaw01_CrcBursts.f
  rw [if_pos ⟨hs, ha'.1, ha'.2⟩, bursts_examples, Option.bind_some, if_pos rfl]
  have z8 : digits8.size = 8 := rfl
  have hz : (s ++ digits8).size = s.size + 8 := by rw [ByteArray.size_append, z8]
  have hp : tenementlaw01_CrcBursts.place s at_ + 4 ≤ s.size + 8 := by
    unfold tenementlaw01_CrcBursts.place
    have e1 := Int.emod_nonneg at_ (show (s.size : Int) + 4 ≠ 0 by omega)
    have e2 := Int.emod_lt_of_pos at_ (show 0 < (s.size : Int) + 4 by omega)
    omega
  have hlen : (bl (s ++ digits8)).length = s.size + 8 := by rw [bl_length, hz]
  have hbyt := byt_bl (s ++ digits8)
  have hsz : ∀ l : List Nat, (∀ x ∈ l, x < 256) → bl (strOfNums (l.map fun n : Nat => (n : Int))) = l := fun l h => bl_str l h
  obtain ⟨p, hpl⟩ : ∃ p, tenementlaw01_CrcBursts.place s at_ = p := ⟨_, rfl⟩
  rw [hpl] at hp
  obtain ⟨A, x0, x1, x2, x3, C, hL, hA⟩ : ∃ A x0 x1 x2 x3 C, bl (s ++ digits8) = A ++ ([x0, x1, x2, x3] ++ C) ∧ A.length = p := by
    obtain ⟨D, hD⟩ : ∃ D, D = (bl (s ++ digits8)).drop p := ⟨_, rfl⟩
    have hDl : 4 ≤ D.length := by rw [hD, List.length_drop]; omega
    match D, hDl with
    | x0 :: x1 :: x2 :: x3 :: C, _ => exact ⟨(bl (s ++ digits8)).take p, x0, x1, x2, x3, C, by have h := (List.take_append_drop p (bl (s ++ digits8))).symm; rw [← hD] at h; simpa using h, by rw [List.length_take]; omega⟩
  have hx : ∀ x ∈ A ++ ([x0, x1, x2, x3] ++ C), x < 256 := by rw [← hL]; exact hbyt
  have h0 : x0 < 256 := hx x0 (by simp)
  have h1 : x1 < 256 := hx x1 (by simp)
  have h2 : x2 < 256 := hx x2 (by simp)
  have h3 : x3 < 256 := hx x3 (by simp)
  have hbent : bl (tenementlaw01_CrcBursts.bent s at_ (b : Int)) = A ++ ([x0 ^^^ (b % 256), x1 ^^^ (b / 256 % 256), x2 ^^^ (b / 65536 % 256), x3 ^^^ (b / 16777216 % 256)] ++ C) := by
    unfold tenementlaw01_CrcBursts.bent
    rw [hpl, bytesOf_bl, hL, ← hA, burst_list A C x0 x1 x2 x3 b h0 h1 h2 h3]
    refine hsz _ ?_
    intro x hm
    have q : ∀ y z : Nat, y < 256 → z < 256 → y ^^^ z < 256 := fun y z hy hz => Nat.xor_lt_two_pow (n := 8) hy hz
    simp only [List.mem_append, List.mem_cons, List.not_mem_nil, or_false] at hm
    rcases hm with hm | (rfl | rfl | rfl | rfl) | hm
    · exact hx x (by simp [hm])
    · exact q _ _ h0 (by omega)
    · exact q _ _ h1 (by omega)
    · exact q _ _ h2 (by omega)
    · exact q _ _ h3 (by omega)
    · exact hx x (by simp [hm])
  have hbs : (tenementlaw01_CrcBursts.bent s at_ (b : Int)).size = s.size + 8 := by
    rw [← bl_length, hbent, ← hlen, hL]; simp
  rw [Sum_f (s := s ++ digits8) (by omega) (by omega), Option.bind_some, Sum_f (s := tenementlaw01_CrcBursts.bent s at_ (b : Int)) (by omega) (by omega), Option.bind_some, Check_f (by omega) _ (by omega), Option.bind_some]
  have hiff := burst_iff A C x0 x1 x2 x3 b (by omega)
  rw [← hbent, ← hL] at hiff
  have e1 : (((sum (bl (tenementlaw01_CrcBursts.bent s at_ (b : Int))) : Nat) : Int) == ((sum (bl (s ++ digits8)) : Nat) : Int)) = ((b : Int) == 0) := by
    rw [Bool.eq_iff_iff, beq_iff_eq, beq_iff_eq]
    constructor
    · intro h; have := hiff.1 (by omega); omega
    · intro h; have := hiff.2 (by omega); omega
  have e2 : decide (((sum (bl (tenementlaw01_CrcBursts.bent s at_ (b : Int))) : Nat) : Int) = ((sum (bl (s ++ digits8)) : Nat) : Int)) = ((b : Int) == 0) := e1
  rw [e1, e2, if_pos (by simp), if_pos (by simp)]
end Go.Proofs.Ytlngbigddbklpaa.Pure
