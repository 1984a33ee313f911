/- Results that are kept in memory. No function in sight. -/
import Derived.Test.YtihblcljkndpgaaFn
namespace Go.Proofs.Ytihblcljkndpgaa.Sep
open Go.RowKit Go.Proofs.Ytihblcljkndpgaa.Reg
open Go.Proofs.Ytihblcljkndpgaa.Mem hiding Rd Own
set_option maxRecDepth 100000
section
variable {P : Program} {E : Env} {F : Nat → Value} {H H' R : List Asn}
/-- a result that is kept in memory -/
theorem run_cellRes {t g : Nat} {ty bt : TypeId} {cs : List Value} {d : TypeDesc} {ti : TypeInfo} (hv : F t = .pointer (some ⟨g, 0, none⟩)) (ht : P.underlying ty = some d) (hd : aggD d = true) (hi : P.info? ty = some ti) (hb : Has (blk g bt cs) H R) (hm : ti.size = cs.length) {w : World} (hw : St E H w) :
    (asAddr (F t)).run P w = .ok ⟨g, 0, none⟩ w ∧ (loadVar ty ⟨g, 0, none⟩).run P w = .ok (.agg cs.toArray) w := by
  have hc : Cells E H ⟨g, 0, none⟩ cs := Cells.blk hb rfl
  rw [hv]
  exact ⟨by simp [asAddr], run_loadVar_agg (u := w) ht hd hi hm (hc w hw)⟩
theorem retC1 {fn : Func} {Q : Ending → List Asn → Prop} {t g : Nat} {ty bt : TypeId} {cs : List Value} {d : TypeDesc} {ti : TypeInfo} (hr : fn.results = #[.cell t ty]) (hv : F t = .pointer (some ⟨g, 0, none⟩)) (ht : P.underlying ty = some d) (hd : aggD d = true) (hi : P.info? ty = some ti) (hb : Has (blk g bt cs) H R) (hm : ti.size = cs.length)
    (hc : Conv E H H') (h : Q (.returned (.agg cs.toArray)) H') : postF P E fn Q .ret F H := by
  refine ⟨.agg cs.toArray, H', fun w hw => ?_, hc, h⟩
  obtain ⟨h1, h2⟩ := run_cellRes hv ht hd hi hb hm hw
  simp [resF, hr, h1, h2]
theorem retC2 {fn : Func} {Q : Ending → List Asn → Prop} {t g u : Nat} {ty bt : TypeId} {cs : List Value} {d : TypeDesc} {ti : TypeInfo} {v : Value} (hr : fn.results = #[.cell t ty, .tmp u]) (hv : F t = .pointer (some ⟨g, 0, none⟩)) (ht : P.underlying ty = some d) (hd : aggD d = true) (hi : P.info? ty = some ti) (hb : Has (blk g bt cs) H R) (hm : ti.size = cs.length)
    (hu : F u = v) (hc : Conv E H H') (h : Q (.returned (.tuple #[.agg cs.toArray, v])) H') : postF P E fn Q .ret F H := by
  refine ⟨.tuple #[.agg cs.toArray, v], H', fun w hw => ?_, hc, h⟩
  subst hu
  obtain ⟨h1, h2⟩ := run_cellRes hv ht hd hi hb hm hw
  simp [resF, hr, h1, h2]
end
end Go.Proofs.Ytihblcljkndpgaa.Sep
