/- Slices of slices of octets. -/
import Derived.Test.YtihblcljkndpgaaOps3
import Derived.Test.YtihblcljkndpgaaTyp
namespace Go.Proofs.Ytihblcljkndpgaa.Sep
open Go.RowKit Go.Proofs.Ytihblcljkndpgaa.Reg
open Go.Proofs.Ytihblcljkndpgaa.Mem hiding Rd Own
set_option maxRecDepth 100000
/-- a slice of octets, and what it reads as -/
structure Oc where
  A : Option Addr
  n : Nat
  c : Nat
  b : List UInt8
def slT : Ty Oc where
  val x := .slice x.A x.n x.c
  size := 1
  bytes := 24
  tid := 22
  zero := .slice none 0 0
  hlen _ := rfl
  hone a u h := by simp only [Value.cells, List.mem_singleton] at h; subst h; rfl
  hpos := by decide
  hzero := rfl
  hinfo := by kernel_rfl
  hagg := .inr ⟨by kernel_rfl, fun _ => rfl⟩
def slT_z : Oc := ⟨none, 0, 0, []⟩
/-- each of them reads so -/
def Ins (E : Env) (l : List Oc) : Prop := ∀ x ∈ l, Rd E octT x.A x.n x.c x.b
theorem Ins.sub {E E' : Env} {R : List Asn} {l : List Oc} (hE : Sub E R E') (h : Ins E l) : Ins E' l := fun x hx => (h x hx).sub hE
theorem Ins.at_ {E : Env} {l : List Oc} (h : Ins E l) {i : Nat} {x : Oc} (hx : l[i]? = some x) : Rd E octT x.A x.n x.c x.b := h x (List.mem_of_getElem? hx)
abbrev oOc (x : Oc) : Asn := own octT x.A x.n x.c x.b
/-- what is known of parts: each element of a list reads so -/
def InsH (E : Env) (H : List Asn) (l : List Oc) : Prop := ∀ (i : Nat) (x : Oc), l[i]? = some x → RdH E H octT x.A x.n x.c x.b
theorem InsH.rd {E : Env} {H : List Asn} {l : List Oc} (h : Ins E l) : InsH E H l := fun _ _ hx => RdH.rd (h.at_ hx)
theorem InsH.each {E : Env} {H R : List Asn} {l : List Oc} (h : Has (Sep.each oOc l) H R) : InsH E H l := fun _ _ hx => RdH.each h hx rfl
theorem Ins.each {E E' : Env} {R R' : List Asn} (hE : Sub E R E') {l : List Oc} (h : Has (Sep.each oOc l) R R') : Ins E' l := fun x hx => by
  obtain ⟨i, hi, rfl⟩ := List.getElem_of_mem hx
  exact Sub.each hE h (List.getElem?_eq_getElem hi) rfl
end Go.Proofs.Ytihblcljkndpgaa.Sep
