/- Plain arithmetic of numbers as octets: no program in sight. -/
namespace Go.Proofs.Ytihblcljkndpgaa.Oct

/-- the octets of a number, the highest first -/
def be (n : Nat) (w : Nat) : List UInt8 := (List.range w).map fun j => UInt8.ofNat (n / 2 ^ (8 * (w - 1 - j)))
def put (b : List UInt8) (n : Nat) (w : Int) : List UInt8 := if w < 1 ∨ 8 < w then b else b ++ be n w.toNat
theorem be_length (n w : Nat) : (be n w).length = w := by simp [be]
/-- the number of octets -/
def get (l : List UInt8) : Nat := l.foldl (fun n b => n * 256 + b.toNat) 0
theorem get_snoc (l : List UInt8) (b : UInt8) : get (l ++ [b]) = get l * 256 + b.toNat := by simp [get]
theorem get_lt : ∀ l : List UInt8, get l < 256 ^ l.length := by
  have key : ∀ (r : List UInt8), get r.reverse < 256 ^ r.length := by
    intro r; induction r with
    | nil => simp [get]
    | cons x r ih =>
      rw [List.reverse_cons, get_snoc, List.length_cons, Nat.pow_succ]
      have := UInt8.toNat_lt x
      omega
  intro l
  have := key l.reverse
  simpa using this
theorem be_snoc (n w : Nat) : be n (w + 1) = be (n / 256) w ++ [UInt8.ofNat n] := by
  unfold be
  rw [List.range_succ, List.map_append]
  congr 1
  · apply List.map_congr_left
    intro j hj
    have hj := List.mem_range.1 hj
    congr 1
    rw [show (256 : Nat) = 2 ^ 8 by decide, Nat.div_div_eq_div_mul, ← Nat.pow_add]
    congr 2; omega
  · simp
theorem get_be (w : Nat) : ∀ n, get (be n w) = n % 256 ^ w := by
  induction w with
  | zero => intro n; simp [be, get, Nat.mod_one]
  | succ w ih =>
    intro n
    rw [be_snoc, get_snoc, ih, Nat.pow_succ, Nat.mul_comm (256 ^ w) 256, Nat.mod_mul]
    simp
    omega
theorem be_inj (w n m : Nat) (hn : n < 256 ^ w) (hm : m < 256 ^ w) (h : be n w = be m w) : n = m := by
  have := congrArg get h
  rw [get_be, get_be, Nat.mod_eq_of_lt hn, Nat.mod_eq_of_lt hm] at this
  exact this
theorem be_get (l : List UInt8) : be (get l) l.length = l := by
  have key : ∀ (r : List UInt8), be (get r.reverse) r.length = r.reverse := by
    intro r; induction r with
    | nil => rfl
    | cons x r ih =>
      rw [List.reverse_cons, List.length_cons, be_snoc, get_snoc]
      have hx := UInt8.toNat_lt x
      rw [show (get r.reverse * 256 + x.toNat) / 256 = get r.reverse by omega, ih]
      congr 2
      apply UInt8.toNat_inj.1
      simp
  have := key l.reverse
  simpa using this
theorem be_take (n w k : Nat) (h : k < w) : (be n w).take (k + 1) = (be n w).take k ++ [UInt8.ofNat (n / 2 ^ (8 * (w - 1 - k)))] := by
  rw [List.take_succ_eq_append_getElem (by rw [be_length]; exact h)]
  simp [be]
theorem byte_mod (m : Nat) : UInt8.ofNat ((m : Int) % 256).toNat = UInt8.ofNat m := by
  apply UInt8.toNat_inj.1
  simp
  omega
theorem div_pow_cast (n k : Nat) : (n : Int) / 2 ^ k = ((n / 2 ^ k : Nat) : Int) := by simp
end Go.Proofs.Ytihblcljkndpgaa.Oct
