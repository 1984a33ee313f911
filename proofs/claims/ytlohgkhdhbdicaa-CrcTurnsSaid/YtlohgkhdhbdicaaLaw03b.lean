/- The walk of CrcChecks. -/
import Derived.Test.YtlohgkhdhbdicaaLaw03
namespace Go.Proofs.Ytlohgkhdhbdicaa.Crc
open Go.RowKit Go.Proofs.Ytlohgkhdhbdicaa.Mem Go.Proofs.Ytlohgkhdhbdicaa.Oct Go.Proofs.Ytlohgkhdhbdicaa.Reg

theorem okay_sealed (l : List UInt8) : okay (sealed l) = true := by
  have h : (sealed l).length = l.length + 4 := by simp [sealed, be_length]
  unfold okay
  rw [h, show decide (4 ≤ l.length + 4) = true by simp, show l.length + 4 - 4 = l.length by omega, show (sealed l).take l.length = l by simp [sealed]]
  simp
theorem take_sealed (l : List UInt8) : (sealed l).take ((sealed l).length - 4) = l := by
  simp [sealed, be_length]

theorem okay_iff (l : List UInt8) (m : Nat) (h : l.length = m + 4) : okay l = (get (l.drop m) == sum (l.take m)) := by
  unfold okay
  rw [h, show decide (4 ≤ m + 4) = true by simp, show m + 4 - 4 = m by omega, Bool.true_and, Bool.eq_iff_iff, decide_eq_true_eq, beq_iff_eq]
  have hd : (l.drop m).length = 4 := by rw [List.length_drop]; omega
  have hg := be_get (l.drop m)
  rw [hd] at hg
  have hlt : sum (l.take m) < 256 ^ 4 := by have := sum_lt (l.take m); omega
  constructor
  · intro he
    have h2 : (sealed (l.take m)).drop m = be (sum (l.take m)) 4 := by
      unfold sealed
      rw [List.drop_left' (by rw [List.length_take]; omega)]
    rw [he] at h2
    rw [h2, get_be, Nat.mod_eq_of_lt hlt]
  · intro he
    unfold sealed
    rw [← he, hg, List.take_append_drop]

set_option maxHeartbeats 4000000 in
theorem checks_walk (A : Option Addr) (n cap : Nat) (l : List UInt8) (W : World) (hr : Rd octE W W.heap.size A n cap l) (hl : n ≤ 140737488355200) :
    Calls Try.prog 7 #[.slice A n cap] W (True_ W) := by
  have hcap := hr.cap
  unfold maxLen at hcap
  go_enter Try.func7, Try.ntmps7
  go_wp2_with ((with_reducible refine (alive_any _).mono ?_); rintro e w0 ⟨rfl, hb0⟩)
  have hr0 := hr.below hb0
  have e0 : Ext W w0 := hb0
  refine (cput_any A n cap l w0 (hr0.more hb0.size) (by omega)).mono ?_
  rintro e w1 ⟨A1, n1, c1, rfl, hown1, hb1⟩
  have hn1 : n1 = n + 4 := by rw [hown1.len, sealed, List.length_append, be_length, hr.len]
  subst hn1
  go_wp2_with fail
  refine (check_any A1 (n + 4) c1 _ w1 hown1.rd (by omega)).mono ?_
  rintro e w2 ⟨hb2, h⟩
  rw [if_pos (okay_sealed l), take_sealed] at h
  obtain ⟨A2, n2, c2, rfl, hown2⟩ := h
  have e2 : Ext W w2 := (e0.trans hb1).trans hb2
  have hr2 := hr.below e2.below
  have k1 : ∀ u, Ext w2 u → (convert 24 9 (.slice A n cap)).run Try.prog u = .ok (.string (txt l)) u := fun u hu => str_rd (hr.below (e2.trans hu).below)
  have k2 : ∀ u, Ext w2 u → (convert 24 9 (.slice A2 n2 c2)).run Try.prog u = .ok (.string (txt l)) u := fun u hu => str_rd (hown2.rd.below hu)
  have q1 : ((txt l).toList == (txt l).toList) = true := by simp
  go_wp2_with fail
  refine Reg.start (by kernel_rfl) (fun hE => ?_)
  refine Reg.take 0 _ rfl (by kernel_rfl) (by kernel_rfl) (by kernel_rfl) (fun _ _ _ h => h) (by rfl) (v := ?_) ?_ hE ?_
  rotate_left
  · (intro u hu; go_simp; try with_reducible rfl)
  try simp only [Act.put, List.setIfInBounds_toArray, List.set_cons_zero, List.set_cons_succ]
  refine Reg.take 1 _ rfl (by kernel_rfl) (by kernel_rfl) (by kernel_rfl) (fun _ _ _ h => h) (by rfl) (v := ?_) ?_ hE ?_
  rotate_left
  · (intro u hu; go_simp; try with_reducible rfl)
  try simp only [Act.put, List.setIfInBounds_toArray, List.set_cons_zero, List.set_cons_succ]
  refine Reg.take 2 _ rfl (by kernel_rfl) (by kernel_rfl) (by kernel_rfl) (fun _ _ _ h => h) (by rfl) (v := ?_) ?_ hE ?_
  rotate_left
  · (intro u hu; go_simp; try with_reducible rfl)
  try simp only [Act.put, List.setIfInBounds_toArray, List.set_cons_zero, List.set_cons_succ]
  refine Reg.take 3 _ rfl (by kernel_rfl) (by kernel_rfl) (by kernel_rfl) (fun _ _ _ h => h) (by rfl) (v := ?_) ?_ hE ?_
  rotate_left
  · (intro u hu; go_simp; try with_reducible rfl)
  try simp only [Act.put, List.setIfInBounds_toArray, List.set_cons_zero, List.set_cons_succ]
  refine Reg.take 4 _ rfl (by kernel_rfl) (by kernel_rfl) (by kernel_rfl) (fun _ _ _ h => h) (by rfl) (v := ?_) ?_ hE ?_
  rotate_left
  · (intro u hu; go_simp; try with_reducible rfl)
  try simp only [Act.put, List.setIfInBounds_toArray, List.set_cons_zero, List.set_cons_succ]
  refine Reg.take 5 _ rfl (by kernel_rfl) (by kernel_rfl) (by kernel_rfl) (fun _ _ _ h => h) (by rfl) (v := ?_) ?_ hE ?_
  rotate_left
  · (intro u hu; go_simp; try with_reducible rfl)
  try simp only [Act.put, List.setIfInBounds_toArray, List.set_cons_zero, List.set_cons_succ]
  refine Reg.take 6 _ rfl (by kernel_rfl) (by kernel_rfl) (by kernel_rfl) (fun _ _ _ h => h) (by rfl) (v := ?_) ?_ hE ?_
  rotate_left
  · (intro u hu; go_simp; try with_reducible rfl)
  try simp only [Act.put, List.setIfInBounds_toArray, List.set_cons_zero, List.set_cons_succ]
  refine Reg.take 7 _ rfl (by kernel_rfl) (by kernel_rfl) (by kernel_rfl) (fun _ _ _ h => h) (by rfl) (v := ?_) ?_ hE ?_
  rotate_left
  · (intro u hu; go_simp; try with_reducible rfl)
  try simp only [Act.put, List.setIfInBounds_toArray, List.set_cons_zero, List.set_cons_succ]
  refine Reg.take 8 _ rfl (by kernel_rfl) (by kernel_rfl) (by kernel_rfl) (fun _ _ _ h => h) (by rfl) (v := ?_) ?_ hE ?_
  rotate_left
  · (intro u hu; go_simp; try with_reducible rfl)
  try simp only [Act.put, List.setIfInBounds_toArray, List.set_cons_zero, List.set_cons_succ]
  refine Reg.take 9 _ rfl (by kernel_rfl) (by kernel_rfl) (by kernel_rfl) (fun _ _ _ h => h) (by rfl) (v := ?_) ?_ hE ?_
  rotate_left
  · (intro u hu; go_simp; try with_reducible rfl)
  try simp only [Act.put, List.setIfInBounds_toArray, List.set_cons_zero, List.set_cons_succ]
  refine Reg.take 10 _ rfl (by kernel_rfl) (by kernel_rfl) (by kernel_rfl) (fun _ _ _ h => h) (by rfl) (v := ?_) ?_ hE ?_
  rotate_left
  · (intro u hu; go_simp; try with_reducible rfl)
  try simp only [Act.put, List.setIfInBounds_toArray, List.set_cons_zero, List.set_cons_succ]
  refine Reg.take 13 _ rfl (by kernel_rfl) (by kernel_rfl) (by kernel_rfl) (fun _ _ _ h => h) (by rfl) (v := ?_) ?_ hE ?_
  rotate_left
  · (intro u hu; go_simp; try with_reducible rfl)
  try simp only [Act.put, List.setIfInBounds_toArray, List.set_cons_zero, List.set_cons_succ]
  refine Reg.take 14 _ rfl (by kernel_rfl) (by kernel_rfl) (by kernel_rfl) (fun _ _ _ h => h) (by rfl) (v := ?_) ?_ hE ?_
  rotate_left
  · (intro u hu; go_simp; try with_reducible rfl)
  try simp only [Act.put, List.setIfInBounds_toArray, List.set_cons_zero, List.set_cons_succ]
  refine Reg.go 11 _ (by kernel_rfl) rfl (by rfl) hE ?_
  go_simp
  refine (cput_any A n cap l _ ((hr2.drew).more e2.size) (by omega)).mono ?_
  rintro e w3 ⟨A3, n3, c3, rfl, hown3, hb3⟩
  have k3 : ∀ u, Ext w3 u → (convert 24 9 (.slice A3 n3 c3)).run Try.prog u = .ok (.string (txt (sealed l))) u := fun u hu => str_rd (hown3.rd.below hu)
  have e3 : Ext W w3 := e2.drew.trans hb3
  have hr3 := hr.below e3.below
  have hs := sum_lt l
  have hs2 : sum l < 18446744073709551616 := by omega
  have HS2 := Lib.hid hs2
  clear hs2
  have hwr : IntKind.u64.wrap ((sum l : Nat) : Int) = ((sum l : Nat) : Int) := IntWalk.u64_in _ (by omega)
  have hp4 : put l (sum l) 4 = sealed l := put4 l (sum l)
  have HP4 := Lib.hid hp4
  clear hp4
  refine ⟨hb3, ?_⟩
  have hE := Ext.refl w3
  try simp only [Act.put, List.setIfInBounds_toArray, List.set_cons_zero, List.set_cons_succ]
  refine Reg.take 12 _ rfl (by kernel_rfl) (by kernel_rfl) (by kernel_rfl) (fun _ _ _ h => h) (by rfl) (v := ?_) ?_ hE ?_
  rotate_left
  · (intro u hu; go_simp; try with_reducible rfl)
  try simp only [Act.put, List.setIfInBounds_toArray, List.set_cons_zero, List.set_cons_succ]
  refine Reg.go 15 _ (by kernel_rfl) rfl (by rfl) hE ?_
  go_simp
  refine (rsum_any _ _ _ _ l _ hr3).mono ?_
  rintro e w4 ⟨rfl, rfl⟩
  refine ⟨Ext.refl w3, ?_⟩
  have hE := Ext.refl w3
  try simp only [Act.put, List.setIfInBounds_toArray, List.set_cons_zero, List.set_cons_succ]
  refine Reg.take 16 _ rfl (by kernel_rfl) (by kernel_rfl) (by kernel_rfl) (fun _ _ _ h => h) (by rfl) (v := ?_) ?_ hE ?_
  rotate_left
  · (intro u hu; go_simp; try with_reducible rfl)
  try simp only [Act.put, List.setIfInBounds_toArray, List.set_cons_zero, List.set_cons_succ]
  refine Reg.go 17 _ (by kernel_rfl) rfl (by rfl) hE ?_
  go_simp
  refine (rput_in A n cap l (sum l) 4 _ (hr3.more e3.size) HS2.out (by omega) (by omega)).mono ?_
  rintro e w4 ⟨A4, n4, c4, rfl, hown4, hb4⟩
  have k4 : ∀ u, Ext w4 u → (convert 24 9 (.slice A4 n4 c4)).run Try.prog u = .ok (.string (txt (sealed l))) u := fun u hu => by
    have := str_rd (hown4.rd.below hu)
    rw [show ((4 : Nat) : Int) = 4 from rfl, HP4.out] at this
    exact this
  have q2 : ((txt (sealed l)).toList == (txt (sealed l)).toList) = true := by simp
  refine ⟨hb4, ?_⟩
  have hE := Ext.refl w4
  try simp only [Act.put, List.setIfInBounds_toArray, List.set_cons_zero, List.set_cons_succ]
  refine Reg.take 18 _ rfl (by kernel_rfl) (by kernel_rfl) (by kernel_rfl) (fun _ _ _ h => h) (by rfl) (v := ?_) ?_ hE ?_
  rotate_left
  · (intro u hu; go_simp; try with_reducible rfl)
  try simp only [Act.put, List.setIfInBounds_toArray, List.set_cons_zero, List.set_cons_succ]
  refine Reg.take 19 _ rfl (by kernel_rfl) (by kernel_rfl) (by kernel_rfl) (fun _ _ _ h => h) (by rfl) (v := ?_) ?_ hE ?_
  rotate_left
  · (intro u hu; go_simp; try with_reducible rfl)
  try simp only [Act.put, List.setIfInBounds_toArray, List.set_cons_zero, List.set_cons_succ]
  refine Reg.take 20 _ rfl (by kernel_rfl) (by kernel_rfl) (by kernel_rfl) (fun _ _ _ h => h) (by rfl) (v := ?_) ?_ hE ?_
  rotate_left
  · (intro u hu; go_simp; try with_reducible rfl)
  try simp only [Act.put, List.setIfInBounds_toArray, List.set_cons_zero, List.set_cons_succ]
  refine Reg.done (by kernel_rfl) ?_ _
  have e4 : Ext W w4 := e3.trans hb4
  have hr4 := hr.below e4.below
  go_wp2_with fail
  refine (check_any A n cap l w4 (hr4.more e4.size) (by omega)).mono ?_
  rintro e w5 ⟨hb5, h5⟩
  have e5 : Ext W w5 := e4.trans hb5
  have hr5 := hr.below e5.below
  by_cases h4 : 4 ≤ n
  · obtain ⟨m, rfl⟩ : ∃ m, n = m + 4 := ⟨n - 4, by omega⟩
    have hok := okay_iff l m hr.len.symm
    have hm1 : (0 : Int) ≤ m := by omega
    have hm2 : (m : Int) ≤ cap := by omega
    have hm3 : ¬ (m : Int) < 0 := by omega
    have hm4 : (m : Int) ≤ m + 4 := by omega
    have hsm := sum_lt (l.take m)
    have hwr2 : IntKind.u64.wrap ((sum (l.take m) : Nat) : Int) = ((sum (l.take m) : Nat) : Int) := IntWalk.u64_in _ (by omega)
    by_cases hq : get (l.drop m) = sum (l.take m)
    · have hok2 : okay l = true := by rw [hok, hq]; simp
      rw [if_pos hok2, show l.length - 4 = m by have := hr.len; omega] at h5
      obtain ⟨A5, n5, c5, rfl, hown5⟩ := h5
      have kq : (((get (l.drop m) : Nat) : Int) != ((sum (l.take m) : Nat) : Int)) = false := by rw [hq]; simp
      have q5 : ((txt (l.take m)).toList == (txt (l.take m)).toList) = true := by simp
      have hfr := hr5.octs_from (k := m) (m := 4) rfl
      have hup := hr5.upto (k := m) (m := cap) (by omega) (by omega) (Nat.le_refl _)
      clear hok hok2 hq
      go_wp2_with fail
      refine Reg.start (by kernel_rfl) (fun hE => ?_)
      refine Reg.take 0 _ rfl (by kernel_rfl) (by kernel_rfl) (by kernel_rfl) (fun _ _ _ h => h) (by rfl) (v := ?_) ?_ hE ?_
      rotate_left
      · (intro u hu; go_simp; try with_reducible rfl)
      try simp only [Act.put, List.setIfInBounds_toArray, List.set_cons_zero, List.set_cons_succ]
      refine Reg.take 1 _ rfl (by kernel_rfl) (by kernel_rfl) (by kernel_rfl) (fun _ _ _ h => h) (by rfl) (v := ?_) ?_ hE ?_
      rotate_left
      · (intro u hu; go_simp; try with_reducible rfl)
      try simp only [Act.put, List.setIfInBounds_toArray, List.set_cons_zero, List.set_cons_succ]
      refine Reg.take 2 _ rfl (by kernel_rfl) (by kernel_rfl) (by kernel_rfl) (fun _ _ _ h => h) (by rfl) (v := ?_) ?_ hE ?_
      rotate_left
      · (intro u hu; go_simp; try with_reducible rfl)
      try simp only [Act.put, List.setIfInBounds_toArray, List.set_cons_zero, List.set_cons_succ]
      refine Reg.take 3 _ rfl (by kernel_rfl) (by kernel_rfl) (by kernel_rfl) (fun _ _ _ h => h) (by rfl) (v := ?_) ?_ hE ?_
      rotate_left
      · (intro u hu; go_simp; try with_reducible rfl)
      try simp only [Act.put, List.setIfInBounds_toArray, List.set_cons_zero, List.set_cons_succ]
      refine Reg.take 4 _ rfl (by kernel_rfl) (by kernel_rfl) (by kernel_rfl) (fun _ _ _ h => h) (by rfl) (v := ?_) ?_ hE ?_
      rotate_left
      · (intro u hu; go_simp; try with_reducible rfl)
      try simp only [Act.put, List.setIfInBounds_toArray, List.set_cons_zero, List.set_cons_succ]
      refine Reg.take 5 _ rfl (by kernel_rfl) (by kernel_rfl) (by kernel_rfl) (fun _ _ _ h => h) (by rfl) (v := ?_) ?_ hE ?_
      rotate_left
      · (intro u hu; go_simp; try with_reducible rfl)
      try simp only [Act.put, List.setIfInBounds_toArray, List.set_cons_zero, List.set_cons_succ]
      refine Reg.take 7 _ rfl (by kernel_rfl) (by kernel_rfl) (by kernel_rfl) (fun _ _ _ h => h) (by rfl) (v := ?_) ?_ hE ?_
      rotate_left
      · (intro u hu; go_simp; try with_reducible rfl)
      try simp only [Act.put, List.setIfInBounds_toArray, List.set_cons_zero, List.set_cons_succ]
      refine Reg.take 8 _ rfl (by kernel_rfl) (by kernel_rfl) (by kernel_rfl) (fun _ _ _ h => h) (by rfl) (v := ?_) ?_ hE ?_
      rotate_left
      · (intro u hu; go_simp; try with_reducible rfl)
      try simp only [Act.put, List.setIfInBounds_toArray, List.set_cons_zero, List.set_cons_succ]
      refine Reg.take 9 _ rfl (by kernel_rfl) (by kernel_rfl) (by kernel_rfl) (fun _ _ _ h => h) (by rfl) (v := ?_) ?_ hE ?_
      rotate_left
      · (intro u hu; go_simp; try with_reducible rfl)
      try simp only [Act.put, List.setIfInBounds_toArray, List.set_cons_zero, List.set_cons_succ]
      refine Reg.go 6 _ (by kernel_rfl) rfl (by rfl) hE ?_
      go_simp
      refine (rget_any _ _ _ _ _ _ hfr.drew (by omega)).mono ?_
      rintro e w6 ⟨rfl, rfl⟩
      refine ⟨Ext.refl _, ?_⟩
      have hE := Ext.refl w5.drew
      try simp only [Act.put, List.setIfInBounds_toArray, List.set_cons_zero, List.set_cons_succ]
      refine Reg.go 10 _ (by kernel_rfl) rfl (by rfl) hE ?_
      go_simp
      refine (rsum_any _ _ _ _ _ _ hup.drew).mono ?_
      rintro e w6 ⟨rfl, rfl⟩
      refine ⟨Ext.refl _, ?_⟩
      have hE := Ext.refl w5.drew
      try simp only [Act.put, List.setIfInBounds_toArray, List.set_cons_zero, List.set_cons_succ]
      refine Reg.take 11 _ rfl (by kernel_rfl) (by kernel_rfl) (by kernel_rfl) (fun _ _ _ h => h) (by rfl) (v := ?_) ?_ hE ?_
      rotate_left
      · (intro u hu; go_simp; try with_reducible rfl)
      try simp only [Act.put, List.setIfInBounds_toArray, List.set_cons_zero, List.set_cons_succ]
      refine Reg.take 12 _ rfl (by kernel_rfl) (by kernel_rfl) (by kernel_rfl) (fun _ _ _ h => h) (by rfl) (v := ?_) ?_ hE ?_
      rotate_left
      · (intro u hu; go_simp; try with_reducible rfl)
      try simp only [Act.put, List.setIfInBounds_toArray, List.set_cons_zero, List.set_cons_succ]
      refine Reg.take 13 _ rfl (by kernel_rfl) (by kernel_rfl) (by kernel_rfl) (fun _ _ _ h => h) (by rfl) (v := ?_) ?_ hE ?_
      rotate_left
      · (intro u hu; go_simp; try with_reducible rfl)
      try simp only [Act.put, List.setIfInBounds_toArray, List.set_cons_zero, List.set_cons_succ]
      refine Reg.done (by kernel_rfl) ?_ _
      clear hfr
      generalize (if cap = m then A else Option.map (fun x => x.add m) A) = X
      have e6 : Ext W w5.drew := e5.drew
      go_wp2_with fail
      have k5 : ∀ u, Ext w5.drew u → (convert 24 9 (.slice A5 n5 c5)).run Try.prog u = .ok (.string (txt (l.take m))) u := fun u hu => str_rd (hown5.rd.drew.below hu)
      have k6 : ∀ u, Ext w5.drew u → (convert 24 9 (.slice A m cap)).run Try.prog u = .ok (.string (txt (l.take m))) u := fun u hu => str_rd ((hr.upto (by omega) (by omega) (Nat.le_refl _)).below (e5.drew.trans hu).below)
      refine Reg.start (by kernel_rfl) (fun hE => ?_)
      refine Reg.take 0 _ rfl (by kernel_rfl) (by kernel_rfl) (by kernel_rfl) (fun _ _ _ h => h) (by rfl) (v := ?_) ?_ hE ?_
      rotate_left
      · (intro u hu; go_simp; try with_reducible rfl)
      try simp only [Act.put, List.setIfInBounds_toArray, List.set_cons_zero, List.set_cons_succ]
      refine Reg.take 1 _ rfl (by kernel_rfl) (by kernel_rfl) (by kernel_rfl) (fun _ _ _ h => h) (by rfl) (v := ?_) ?_ hE ?_
      rotate_left
      · (intro u hu; go_simp; try with_reducible rfl)
      try simp only [Act.put, List.setIfInBounds_toArray, List.set_cons_zero, List.set_cons_succ]
      refine Reg.take 2 _ rfl (by kernel_rfl) (by kernel_rfl) (by kernel_rfl) (fun _ _ _ h => h) (by rfl) (v := ?_) ?_ hE ?_
      rotate_left
      · (intro u hu; go_simp; try with_reducible rfl)
      try simp only [Act.put, List.setIfInBounds_toArray, List.set_cons_zero, List.set_cons_succ]
      refine Reg.take 3 _ rfl (by kernel_rfl) (by kernel_rfl) (by kernel_rfl) (fun _ _ _ h => h) (by rfl) (v := ?_) ?_ hE ?_
      rotate_left
      · (intro u hu; go_simp; try with_reducible rfl)
      try simp only [Act.put, List.setIfInBounds_toArray, List.set_cons_zero, List.set_cons_succ]
      refine Reg.take 4 _ rfl (by kernel_rfl) (by kernel_rfl) (by kernel_rfl) (fun _ _ _ h => h) (by rfl) (v := ?_) ?_ hE ?_
      rotate_left
      · (intro u hu; go_simp; try with_reducible rfl)
      try simp only [Act.put, List.setIfInBounds_toArray, List.set_cons_zero, List.set_cons_succ]
      refine Reg.take 5 _ rfl (by kernel_rfl) (by kernel_rfl) (by kernel_rfl) (fun _ _ _ h => h) (by rfl) (v := ?_) ?_ hE ?_
      rotate_left
      · (intro u hu; go_simp; try with_reducible rfl)
      try simp only [Act.put, List.setIfInBounds_toArray, List.set_cons_zero, List.set_cons_succ]
      refine Reg.take 6 _ rfl (by kernel_rfl) (by kernel_rfl) (by kernel_rfl) (fun _ _ _ h => h) (by rfl) (v := ?_) ?_ hE ?_
      rotate_left
      · (intro u hu; go_simp; try with_reducible rfl)
      try simp only [Act.put, List.setIfInBounds_toArray, List.set_cons_zero, List.set_cons_succ]
      refine Reg.take 7 _ rfl (by kernel_rfl) (by kernel_rfl) (by kernel_rfl) (fun _ _ _ h => h) (by rfl) (v := ?_) ?_ hE ?_
      rotate_left
      · (intro u hu; go_simp; try with_reducible rfl)
      try simp only [Act.put, List.setIfInBounds_toArray, List.set_cons_zero, List.set_cons_succ]
      refine Reg.take 8 _ rfl (by kernel_rfl) (by kernel_rfl) (by kernel_rfl) (fun _ _ _ h => h) (by rfl) (v := ?_) ?_ hE ?_
      rotate_left
      · (intro u hu; go_simp; try with_reducible rfl)
      try simp only [Act.put, List.setIfInBounds_toArray, List.set_cons_zero, List.set_cons_succ]
      refine Reg.take 9 _ rfl (by kernel_rfl) (by kernel_rfl) (by kernel_rfl) (fun _ _ _ h => h) (by rfl) (v := ?_) ?_ hE ?_
      rotate_left
      · (intro u hu; go_simp; try with_reducible rfl)
      try simp only [Act.put, List.setIfInBounds_toArray, List.set_cons_zero, List.set_cons_succ]
      refine Reg.take 10 _ rfl (by kernel_rfl) (by kernel_rfl) (by kernel_rfl) (fun _ _ _ h => h) (by rfl) (v := ?_) ?_ hE ?_
      rotate_left
      · (intro u hu; go_simp; try with_reducible rfl)
      try simp only [Act.put, List.setIfInBounds_toArray, List.set_cons_zero, List.set_cons_succ]
      refine Reg.done (by kernel_rfl) ?_ _
      go_wp2_with fail
      go_ret
      exact ⟨by simp, by first | exact e5.below | exact e5.drew.below | exact e5.drew.drew.below⟩
    · have hok2 : ¬ okay l = true := by rw [hok]; simpa using hq
      rw [if_neg hok2] at h5
      subst h5
      have kq : (((get (l.drop m) : Nat) : Int) != ((sum (l.take m) : Nat) : Int)) = true := by simp only [bne_iff_ne]; omega
      have hfr := hr5.octs_from (k := m) (m := 4) rfl
      have hup := hr5.upto (k := m) (m := cap) (by omega) (by omega) (Nat.le_refl _)
      clear hok hok2 hq
      go_wp2_with fail
      refine Reg.start (by kernel_rfl) (fun hE => ?_)
      refine Reg.take 0 _ rfl (by kernel_rfl) (by kernel_rfl) (by kernel_rfl) (fun _ _ _ h => h) (by rfl) (v := ?_) ?_ hE ?_
      rotate_left
      · (intro u hu; go_simp; try with_reducible rfl)
      try simp only [Act.put, List.setIfInBounds_toArray, List.set_cons_zero, List.set_cons_succ]
      refine Reg.take 1 _ rfl (by kernel_rfl) (by kernel_rfl) (by kernel_rfl) (fun _ _ _ h => h) (by rfl) (v := ?_) ?_ hE ?_
      rotate_left
      · (intro u hu; go_simp; try with_reducible rfl)
      try simp only [Act.put, List.setIfInBounds_toArray, List.set_cons_zero, List.set_cons_succ]
      refine Reg.take 2 _ rfl (by kernel_rfl) (by kernel_rfl) (by kernel_rfl) (fun _ _ _ h => h) (by rfl) (v := ?_) ?_ hE ?_
      rotate_left
      · (intro u hu; go_simp; try with_reducible rfl)
      try simp only [Act.put, List.setIfInBounds_toArray, List.set_cons_zero, List.set_cons_succ]
      refine Reg.take 3 _ rfl (by kernel_rfl) (by kernel_rfl) (by kernel_rfl) (fun _ _ _ h => h) (by rfl) (v := ?_) ?_ hE ?_
      rotate_left
      · (intro u hu; go_simp; try with_reducible rfl)
      try simp only [Act.put, List.setIfInBounds_toArray, List.set_cons_zero, List.set_cons_succ]
      refine Reg.take 4 _ rfl (by kernel_rfl) (by kernel_rfl) (by kernel_rfl) (fun _ _ _ h => h) (by rfl) (v := ?_) ?_ hE ?_
      rotate_left
      · (intro u hu; go_simp; try with_reducible rfl)
      try simp only [Act.put, List.setIfInBounds_toArray, List.set_cons_zero, List.set_cons_succ]
      refine Reg.take 5 _ rfl (by kernel_rfl) (by kernel_rfl) (by kernel_rfl) (fun _ _ _ h => h) (by rfl) (v := ?_) ?_ hE ?_
      rotate_left
      · (intro u hu; go_simp; try with_reducible rfl)
      try simp only [Act.put, List.setIfInBounds_toArray, List.set_cons_zero, List.set_cons_succ]
      refine Reg.take 7 _ rfl (by kernel_rfl) (by kernel_rfl) (by kernel_rfl) (fun _ _ _ h => h) (by rfl) (v := ?_) ?_ hE ?_
      rotate_left
      · (intro u hu; go_simp; try with_reducible rfl)
      try simp only [Act.put, List.setIfInBounds_toArray, List.set_cons_zero, List.set_cons_succ]
      refine Reg.take 8 _ rfl (by kernel_rfl) (by kernel_rfl) (by kernel_rfl) (fun _ _ _ h => h) (by rfl) (v := ?_) ?_ hE ?_
      rotate_left
      · (intro u hu; go_simp; try with_reducible rfl)
      try simp only [Act.put, List.setIfInBounds_toArray, List.set_cons_zero, List.set_cons_succ]
      refine Reg.take 9 _ rfl (by kernel_rfl) (by kernel_rfl) (by kernel_rfl) (fun _ _ _ h => h) (by rfl) (v := ?_) ?_ hE ?_
      rotate_left
      · (intro u hu; go_simp; try with_reducible rfl)
      try simp only [Act.put, List.setIfInBounds_toArray, List.set_cons_zero, List.set_cons_succ]
      refine Reg.go 6 _ (by kernel_rfl) rfl (by rfl) hE ?_
      go_simp
      refine (rget_any _ _ _ _ _ _ hfr.drew (by omega)).mono ?_
      rintro e w6 ⟨rfl, rfl⟩
      refine ⟨Ext.refl _, ?_⟩
      have hE := Ext.refl w5.drew
      try simp only [Act.put, List.setIfInBounds_toArray, List.set_cons_zero, List.set_cons_succ]
      refine Reg.go 10 _ (by kernel_rfl) rfl (by rfl) hE ?_
      go_simp
      refine (rsum_any _ _ _ _ _ _ hup.drew).mono ?_
      rintro e w6 ⟨rfl, rfl⟩
      refine ⟨Ext.refl _, ?_⟩
      have hE := Ext.refl w5.drew
      try simp only [Act.put, List.setIfInBounds_toArray, List.set_cons_zero, List.set_cons_succ]
      refine Reg.take 11 _ rfl (by kernel_rfl) (by kernel_rfl) (by kernel_rfl) (fun _ _ _ h => h) (by rfl) (v := ?_) ?_ hE ?_
      rotate_left
      · (intro u hu; go_simp; try with_reducible rfl)
      try simp only [Act.put, List.setIfInBounds_toArray, List.set_cons_zero, List.set_cons_succ]
      refine Reg.take 12 _ rfl (by kernel_rfl) (by kernel_rfl) (by kernel_rfl) (fun _ _ _ h => h) (by rfl) (v := ?_) ?_ hE ?_
      rotate_left
      · (intro u hu; go_simp; try with_reducible rfl)
      try simp only [Act.put, List.setIfInBounds_toArray, List.set_cons_zero, List.set_cons_succ]
      refine Reg.take 13 _ rfl (by kernel_rfl) (by kernel_rfl) (by kernel_rfl) (fun _ _ _ h => h) (by rfl) (v := ?_) ?_ hE ?_
      rotate_left
      · (intro u hu; go_simp; try with_reducible rfl)
      try simp only [Act.put, List.setIfInBounds_toArray, List.set_cons_zero, List.set_cons_succ]
      refine Reg.done (by kernel_rfl) ?_ _
      clear hfr
      generalize (if cap = m then A else Option.map (fun x => x.add m) A) = X
      have e6 : Ext W w5.drew := e5.drew
      go_wp2_with fail
      go_ret
      exact ⟨by simp, by first | exact e5.below | exact e5.drew.below | exact e5.drew.drew.below⟩
  · have hok2 : ¬ okay l = true := by
      unfold okay
      rw [show decide (4 ≤ l.length) = false by have := hr.len; simp; omega]
      simp
    rw [if_neg hok2] at h5
    subst h5
    have hn4 : (n : Int) - 4 < 0 := by omega
    go_wp2_with fail
    refine Reg.start (by kernel_rfl) (fun hE => ?_)
    refine Reg.take 0 _ rfl (by kernel_rfl) (by kernel_rfl) (by kernel_rfl) (fun _ _ _ h => h) (by rfl) (v := ?_) ?_ hE ?_
    rotate_left
    · (intro u hu; go_simp; try with_reducible rfl)
    try simp only [Act.put, List.setIfInBounds_toArray, List.set_cons_zero, List.set_cons_succ]
    refine Reg.take 1 _ rfl (by kernel_rfl) (by kernel_rfl) (by kernel_rfl) (fun _ _ _ h => h) (by rfl) (v := ?_) ?_ hE ?_
    rotate_left
    · (intro u hu; go_simp; try with_reducible rfl)
    try simp only [Act.put, List.setIfInBounds_toArray, List.set_cons_zero, List.set_cons_succ]
    refine Reg.take 2 _ rfl (by kernel_rfl) (by kernel_rfl) (by kernel_rfl) (fun _ _ _ h => h) (by rfl) (v := ?_) ?_ hE ?_
    rotate_left
    · (intro u hu; go_simp; try with_reducible rfl)
    try simp only [Act.put, List.setIfInBounds_toArray, List.set_cons_zero, List.set_cons_succ]
    refine Reg.skip 3 _ rfl (by kernel_rfl) (by kernel_rfl) (by kernel_rfl) (fun _ _ _ h => h) (by rfl) hE ?_
    try simp only [Act.put, List.setIfInBounds_toArray, List.set_cons_zero, List.set_cons_succ]
    refine Reg.skip 4 _ rfl (by kernel_rfl) (by kernel_rfl) (by kernel_rfl) (fun _ _ _ h => h) (by rfl) hE ?_
    try simp only [Act.put, List.setIfInBounds_toArray, List.set_cons_zero, List.set_cons_succ]
    refine Reg.skip 5 _ rfl (by kernel_rfl) (by kernel_rfl) (by kernel_rfl) (fun _ _ _ h => h) (by rfl) hE ?_
    try simp only [Act.put, List.setIfInBounds_toArray, List.set_cons_zero, List.set_cons_succ]
    refine Reg.skip 6 _ rfl (by kernel_rfl) (by kernel_rfl) (by kernel_rfl) (fun _ _ _ h => h) (by rfl) hE ?_
    try simp only [Act.put, List.setIfInBounds_toArray, List.set_cons_zero, List.set_cons_succ]
    refine Reg.skip 7 _ rfl (by kernel_rfl) (by kernel_rfl) (by kernel_rfl) (fun _ _ _ h => h) (by rfl) hE ?_
    try simp only [Act.put, List.setIfInBounds_toArray, List.set_cons_zero, List.set_cons_succ]
    refine Reg.skip 8 _ rfl (by kernel_rfl) (by kernel_rfl) (by kernel_rfl) (fun _ _ _ h => h) (by rfl) hE ?_
    try simp only [Act.put, List.setIfInBounds_toArray, List.set_cons_zero, List.set_cons_succ]
    refine Reg.skip 9 _ rfl (by kernel_rfl) (by kernel_rfl) (by kernel_rfl) (fun _ _ _ h => h) (by rfl) hE ?_
    try simp only [Act.put, List.setIfInBounds_toArray, List.set_cons_zero, List.set_cons_succ]
    refine Reg.skip 10 _ rfl (by kernel_rfl) (by kernel_rfl) (by kernel_rfl) (fun _ _ _ h => h) (by rfl) hE ?_
    try simp only [Act.put, List.setIfInBounds_toArray, List.set_cons_zero, List.set_cons_succ]
    refine Reg.skip 11 _ rfl (by kernel_rfl) (by kernel_rfl) (by kernel_rfl) (fun _ _ _ h => h) (by rfl) hE ?_
    try simp only [Act.put, List.setIfInBounds_toArray, List.set_cons_zero, List.set_cons_succ]
    refine Reg.skip 12 _ rfl (by kernel_rfl) (by kernel_rfl) (by kernel_rfl) (fun _ _ _ h => h) (by rfl) hE ?_
    try simp only [Act.put, List.setIfInBounds_toArray, List.set_cons_zero, List.set_cons_succ]
    refine Reg.take 13 _ rfl (by kernel_rfl) (by kernel_rfl) (by kernel_rfl) (fun _ _ _ h => h) (by rfl) (v := ?_) ?_ hE ?_
    rotate_left
    · (intro u hu; go_simp; try with_reducible rfl)
    try simp only [Act.put, List.setIfInBounds_toArray, List.set_cons_zero, List.set_cons_succ]
    refine Reg.done (by kernel_rfl) ?_ _
    go_wp2_with fail
    go_ret
    exact ⟨by simp, by first | exact e5.below | exact e5.drew.below | exact e5.drew.drew.below⟩
end Go.Proofs.Ytlohgkhdhbdicaa.Crc
