namespace Go.Proofs.Ytlngbigddbklpaa.CrcN
def poly : Nat := 0xedb88320
/-- one bit goes through -/
def half (c : Nat) : Nat := if c % 2 = 1 then (c / 2) ^^^ poly else c / 2
def hn : Nat → Nat → Nat
  | 0, c => c
  | n + 1, c => hn n (half c)
theorem half_lt {c : Nat} (h : c < 2 ^ 32) : half c < 2 ^ 32 := by
  unfold half
  split
  · exact Nat.xor_lt_two_pow (by omega) (by decide)
  · omega
theorem hn_lt (n : Nat) : ∀ {c : Nat}, c < 2 ^ 32 → hn n c < 2 ^ 32 := by
  induction n with
  | zero => intro c h; exact h
  | succ n ih => intro c h; exact ih (half_lt h)
theorem hn_add (m n : Nat) : ∀ c, hn (m + n) c = hn n (hn m c) := by
  induction m with
  | zero => intro c; simp [hn]
  | succ m ih => intro c; rw [Nat.succ_add]; simp only [hn]; exact ih _
theorem xor_mod_two (x y : Nat) : (x ^^^ y) % 2 = (x % 2 + y % 2) % 2 := by
  have h : (x ^^^ y) % 2 ^ 1 = x % 2 ^ 1 ^^^ y % 2 ^ 1 := Nat.xor_mod_two_pow
  simp only [Nat.pow_one] at h
  rw [h]
  rcases Nat.mod_two_eq_zero_or_one x with hx | hx <;> rcases Nat.mod_two_eq_zero_or_one y with hy | hy <;> rw [hx, hy] <;> decide
theorem half_xor (x y : Nat) : half (x ^^^ y) = half x ^^^ half y := by
  unfold half
  have hd : (x ^^^ y) / 2 = x / 2 ^^^ y / 2 := Nat.xor_div_two
  have hm := xor_mod_two x y
  have hxx : ∀ a b : Nat, (a ^^^ poly) ^^^ (b ^^^ poly) = a ^^^ b := by
    intro a b
    rw [Nat.xor_assoc, Nat.xor_comm b poly, ← Nat.xor_assoc poly, Nat.xor_self, Nat.zero_xor]
  rcases Nat.mod_two_eq_zero_or_one x with hx | hx <;> rcases Nat.mod_two_eq_zero_or_one y with hy | hy
  · rw [if_neg (by omega), if_neg (by omega), if_neg (by omega), hd]
  · rw [if_pos (by omega), if_neg (by omega), if_pos (by omega), hd, Nat.xor_assoc]
  · rw [if_pos (by omega), if_pos (by omega), if_neg (by omega), hd, Nat.xor_assoc, Nat.xor_assoc, Nat.xor_comm poly]
  · rw [if_neg (by omega), if_pos (by omega), if_pos (by omega), hd, hxx]
theorem hn_xor (n : Nat) : ∀ x y, hn n (x ^^^ y) = hn n x ^^^ hn n y := by
  induction n with
  | zero => intro x y; rfl
  | succ n ih => intro x y; simp only [hn]; rw [half_xor, ih]
theorem half_zero : half 0 = 0 := by decide
theorem hn_zero (n : Nat) : hn n 0 = 0 := by
  induction n with
  | zero => rfl
  | succ n ih => simp only [hn]; rw [half_zero, ih]
theorem half_inj {x : Nat} (hx : x < 2 ^ 32) (h : half x = 0) : x = 0 := by
  unfold half at h
  split at h
  · have h1 : x / 2 = poly := by
      have := congrArg (· ^^^ poly) h
      simpa [Nat.xor_assoc, Nat.xor_self] using this
    have : poly = 0xedb88320 := rfl
    omega
  · omega
theorem hn_inj (n : Nat) : ∀ {x : Nat}, x < 2 ^ 32 → hn n x = 0 → x = 0 := by
  induction n with
  | zero => intro x _ h; exact h
  | succ n ih => intro x hx h; simp only [hn] at h; exact half_inj hx (ih (half_lt hx) h)
theorem half_double (y : Nat) : half (2 * y) = y := by
  unfold half; rw [if_neg (by omega)]; omega
theorem hn_shift (n : Nat) : ∀ y, hn n (2 ^ n * y) = y := by
  induction n with
  | zero => intro y; simp [hn]
  | succ n ih =>
    intro y
    simp only [hn]
    rw [show 2 ^ (n + 1) * y = 2 * (2 ^ n * y) by rw [Nat.pow_succ]; rw [Nat.mul_comm (2 ^ n) 2, Nat.mul_assoc]]
    rw [half_double, ih]
/-- a byte goes through -/
def next (c b : Nat) : Nat := hn 8 (c ^^^ b)
def fold (c : Nat) (l : List Nat) : Nat := l.foldl next c
def Byt (l : List Nat) : Prop := ∀ b ∈ l, b < 256
theorem next_lt {c b : Nat} (hc : c < 2 ^ 32) (hb : b < 256) : next c b < 2 ^ 32 :=
  hn_lt 8 (Nat.xor_lt_two_pow hc (by omega))
theorem fold_lt (l : List Nat) : ∀ {c : Nat}, c < 2 ^ 32 → Byt l → fold c l < 2 ^ 32 := by
  induction l with
  | nil => intro c h _; exact h
  | cons b l ih => intro c h hb; exact ih (next_lt h (hb b (by simp))) (fun x hx => hb x (by simp [hx]))
theorem next_xor (c d b : Nat) : next (c ^^^ d) b = next c b ^^^ hn 8 d := by
  unfold next
  rw [show (c ^^^ d) ^^^ b = (c ^^^ b) ^^^ d by rw [Nat.xor_assoc, Nat.xor_comm d b, ← Nat.xor_assoc], hn_xor]
theorem fold_xor (l : List Nat) : ∀ c d, fold (c ^^^ d) l = fold c l ^^^ hn (8 * l.length) d := by
  induction l with
  | nil => intro c d; simp [fold, hn]
  | cons b l ih =>
    intro c d
    show fold (next (c ^^^ d) b) l = fold (next c b) l ^^^ _
    rw [next_xor, ih, ← hn_add]
    congr 2
    simp; omega
theorem fold_append (c : Nat) (l m : List Nat) : fold c (l ++ m) = fold (fold c l) m := List.foldl_append
def F : Nat := 0xffffffff
def sum (l : List Nat) : Nat := fold F l ^^^ F
def join (a b n : Nat) : Nat := hn (8 * n) a ^^^ b
theorem sum_lt {l : List Nat} (h : Byt l) : sum l < 2 ^ 32 := Nat.xor_lt_two_pow (fold_lt l (by decide) h) (by decide)
theorem xor_FF (x : Nat) : x ^^^ F ^^^ F = x := by rw [Nat.xor_assoc, Nat.xor_self, Nat.xor_zero]
theorem sum_append (l m : List Nat) : sum (l ++ m) = join (sum l) (sum m) m.length := by
  unfold sum join
  rw [fold_append]
  have h : fold F l = F ^^^ (fold F l ^^^ F) := by rw [Nat.xor_comm (fold F l), ← Nat.xor_assoc, Nat.xor_self, Nat.zero_xor]
  rw [h, fold_xor, ← h, Nat.xor_comm (fold F m), Nat.xor_assoc]
theorem join_zero (a b : Nat) : join a b 0 = a ^^^ b := rfl
theorem join_join (x y z m n : Nat) : join (join x y m) z n = join x (join y z n) (m + n) := by
  unfold join
  rw [hn_xor, ← hn_add, Nat.xor_assoc]
  congr 2
  congr 1
  omega
theorem sum_nil : sum [] = 0 := by decide
/-- four bytes that lie side by side -/
theorem next4 (c a b d e : Nat) : fold c [a, b, d, e] = hn 32 (c ^^^ (a ^^^ (2 ^ 8 * b) ^^^ (2 ^ 16 * d) ^^^ (2 ^ 24 * e))) := by
  have h8 : ∀ y, hn 8 (2 ^ 8 * y) = y := hn_shift 8
  have h16 : ∀ y, hn 16 (2 ^ 16 * y) = y := hn_shift 16
  have h24 : ∀ y, hn 24 (2 ^ 24 * y) = y := hn_shift 24
  show next (next (next (next c a) b) d) e = _
  unfold next
  have e1 : ∀ x y, hn 32 (x ^^^ y) = hn 32 x ^^^ hn 32 y := hn_xor 32
  simp only [hn_xor, ← hn_add]
  have k16 : hn 32 (2 ^ 8 * b) = hn 24 b := by rw [show 32 = 8 + 24 from rfl, hn_add, h8]
  have k24 : hn 32 (2 ^ 16 * d) = hn 16 d := by rw [show 32 = 16 + 16 from rfl, hn_add, h16]
  have k32 : hn 32 (2 ^ 24 * e) = hn 8 e := by rw [show 32 = 24 + 8 from rfl, hn_add, h24]
  rw [k16, k24, k32]
  simp only [Nat.xor_assoc]
/-- a number's four bytes, the lowest first -/
def le4 (x : Nat) : List Nat := [x % 256, x / 256 % 256, x / 65536 % 256, x / 16777216 % 256]
theorem le4_xor (x : Nat) (h : x < 2 ^ 32) : (x % 256) ^^^ (2 ^ 8 * (x / 256 % 256)) ^^^ (2 ^ 16 * (x / 65536 % 256)) ^^^ (2 ^ 24 * (x / 16777216 % 256)) = x := by
  have p : ∀ (i a b : Nat), b < 2 ^ i → b ^^^ (2 ^ i * a) = 2 ^ i * a + b := by
    intro i a b hb
    rw [Nat.two_pow_add_eq_or_of_lt hb]
    apply Nat.eq_of_testBit_eq
    intro j
    rw [Nat.testBit_xor, Nat.testBit_or, Nat.testBit_two_pow_mul]
    by_cases hj : i ≤ j
    · have : b.testBit j = false := Nat.testBit_lt_two_pow (Nat.lt_of_lt_of_le hb (Nat.pow_le_pow_right (by omega) hj))
      simp [this]
    · simp [hj]
  rw [p 8 _ _ (by omega), p 16 _ _ (by omega), p 24 _ _ (by omega)]
  omega
theorem next_both (c d x y : Nat) : next (c ^^^ d) (x ^^^ y) = next c x ^^^ next d y := by
  unfold next
  rw [← hn_xor]
  congr 1
  rw [Nat.xor_assoc, ← Nat.xor_assoc d, Nat.xor_comm d x, Nat.xor_assoc, ← Nat.xor_assoc]
theorem fold4_both (c : Nat) (x0 x1 x2 x3 y0 y1 y2 y3 : Nat) : fold c [x0 ^^^ y0, x1 ^^^ y1, x2 ^^^ y2, x3 ^^^ y3] = fold c [x0, x1, x2, x3] ^^^ fold 0 [y0, y1, y2, y3] := by
  show next (next (next (next c (x0 ^^^ y0)) (x1 ^^^ y1)) (x2 ^^^ y2)) (x3 ^^^ y3) = next (next (next (next c x0) x1) x2) x3 ^^^ next (next (next (next 0 y0) y1) y2) y3
  have h := next_both c 0 x0 y0
  rw [Nat.xor_zero] at h
  rw [h, next_both, next_both, next_both]
/-- Four bytes that stand side by side, changed: the sum is another one, but where nothing is changed. -/
theorem sum_burst (A C : List Nat) (x0 x1 x2 x3 b : Nat) (hb : b < 2 ^ 32) :
    sum (A ++ ([x0 ^^^ (b % 256), x1 ^^^ (b / 256 % 256), x2 ^^^ (b / 65536 % 256), x3 ^^^ (b / 16777216 % 256)] ++ C)) = sum (A ++ ([x0, x1, x2, x3] ++ C)) ^^^ hn (8 * C.length) (hn 32 b) := by
  unfold sum
  rw [fold_append, fold_append, fold_append, fold_append, fold4_both, next4 0, le4_xor b hb, Nat.zero_xor, fold_xor]
  rw [Nat.xor_assoc, Nat.xor_assoc, Nat.xor_comm _ F]
theorem burst_iff (A C : List Nat) (x0 x1 x2 x3 b : Nat) (hb : b < 2 ^ 32) :
    sum (A ++ ([x0 ^^^ (b % 256), x1 ^^^ (b / 256 % 256), x2 ^^^ (b / 65536 % 256), x3 ^^^ (b / 16777216 % 256)] ++ C)) = sum (A ++ ([x0, x1, x2, x3] ++ C)) ↔ b = 0 := by
  rw [sum_burst A C x0 x1 x2 x3 b hb]
  generalize sum (A ++ ([x0, x1, x2, x3] ++ C)) = s
  constructor
  · intro h
    have h2 : s ^^^ (s ^^^ hn (8 * C.length) (hn 32 b)) = 0 := by rw [h, Nat.xor_self]
    rw [← Nat.xor_assoc, Nat.xor_self, Nat.zero_xor] at h2
    exact hn_inj 32 hb (hn_inj _ (hn_lt 32 hb) h2)
  · rintro rfl
    rw [hn_zero, hn_zero, Nat.xor_zero]
end Go.Proofs.Ytlngbigddbklpaa.CrcN
