/- What the row's condition on laid variables gives. Written by evgl.py, a program of this session's. -/
import Derived.Test.YtmfhmlhaofpeiaaGreatDoorEvT
import Derived.Test.YtmfhmlhaofpeiaaGreatDoorOp
import Derived.Test.YtmfhmlhaofpeiaaGreatDoorRows
import Derived.Lib.LaidTab
import Derived.LaidLaws
import Derived.Look8
namespace Go.Proofs.YtmfhmlhaofpeiaaGreatDoor.Ev
set_option linter.unusedVariables false
set_option linter.unusedSimpArgs false
open Go Go.RowKit
theorem kB {P : Program} {W : World} : ∀ {laid : List (String × DataW Unit)} {ps : List MemPlace} {nm : String} {d : DataW Unit}, DataW.LaidVars P W laid ps -> (nm, d) ∈ laid ->
  ∃ g t cs fuel p, P.globalNamed nm = some g /\ (P.globals[g]?).map (·.type) = some t /\ W.var? P nm = some cs /\ DataW.trod (fun _ => ()) P W 0 (fun _ => true) false fuel t cs.toList = some (d, p) /\ (∀ x ∈ MemPlace.row ⟨g, 0, none⟩ cs.size, x ∈ ps)
 | [], ps, nm, d, _, hm => by simp at hm
 | (n, e) :: r, ps, nm, d, hl, hm => by
  obtain ⟨g, t, cs, fuel, p, q, h1, h2, h3, h4, h5, h6⟩ := hl
  rcases List.mem_cons.1 hm with hm | hm
  ·injection hm with e1 e2
   subst e1; subst e2
   exact ⟨g, t, cs, fuel, p, h1, h2, h3, h4, fun x hx => by rw [h6]; exact List.mem_append_left _ (List.mem_append_left _ hx)⟩
  ·obtain ⟨g', t', cs', f', p', a1, a2, a3, a4, a5⟩ := kB h5 hm
   exact ⟨g', t', cs', f', p', a1, a2, a3, a4, fun x hx => by rw [h6]; exact List.mem_append_right _ (a5 x hx)⟩
theorem uw {P : Program} {W : World} {nm : String} {g : Nat} {cs : Array Value} (hg : P.globalNamed nm = some g) (h : W.var? P nm = some cs) : ∃ e fz, W.heap[g]? = some (.cells cs e fz) := by
 unfold World.var? at h
 rw [hg] at h
 simp only [Option.bind_some] at h
 split at h
 ·rename_i c e fz ho
  injection h with h; subst h
  exact ⟨_, _, ho⟩
 ·cases h
theorem xi {P : Program} {W : World} {nm : String} {k : IntKind} {zs : List Int} {g : Nat} (hg : P.globalNamed nm = some g) (h : Lib.TabIs P W nm k zs) :
  VR φ0 A0 (S0 W) W (.iptr (zs.map (AV.i k))) (.pointer (some ⟨g, 0, none⟩)) /\ W.cell? ⟨g, (zs.map (AV.i k)).length, none⟩ = none := by
 obtain ⟨e, fz, ho⟩ := uw hg h
 have hlt : g < W.heap.size := (Array.getElem?_eq_some_iff.1 ho).1
 refine ⟨.iptr _ (zs.map fun z => Value.int k z) g 0 (by simp) hlt (fun j v hv => ?_) (fun j c v hc hv => ?_), ?_⟩
 ·simp only [World.cell?, ho, Nat.zero_add]
  simpa using hv
 ·rw [List.getElem?_map] at hc hv
  cases hz : zs[j]? with
  | none => rw [hz] at hc; cases hc
  | some z =>
   rw [hz] at hc hv
   injection hc with hc; injection hv with hv
   subst hc; subst hv; exact .i _ _
 ·simp only [World.cell?, ho]
  simp
theorem gl_err {P : Program} {W : World} {nm ty : String} {text : List UInt8} {laid : List (String × DataW Unit)} {g : Nat} {ti tp te ts : TypeId} {ms : Array (String × TypeId)} {f : Field}
  (hg : P.globalNamed nm = some g) (hty : (P.globals[g]?).map (·.type) = some ti) (hi : P.underlying ti = some (.interface ms)) (hrow : ∀ u, P.typeName? 3 u = some ty -> u = tp)
  (hp : P.underlying tp = some (.pointer te)) (he : P.underlying te = some (.struct #[f])) (hft : f.type = ts) (hfo : f.offset = 0) (hs : P.underlying ts = some .string) (hc : P.cellsOf te = 1) (hcs : P.cellsOf ts = 1)
  (h : laidMet P laid W) (hm : (nm, DataW.iface ty (.ptr (.agg [.lit (.string text)]))) ∈ laid) :
  VR φ0 A0 (S0 W) W (.iptr [.ifc tp (.iptr [.s text])]) (.pointer (some ⟨g, 0, none⟩)) /\ W.cell? ⟨g, 1, none⟩ = none := by
 obtain ⟨ps, hl, _, hok⟩ := h
 obtain ⟨g', t', cs, fuel, p, a1, a2, a3, a4, a5⟩ := kB hl hm
 obtain rfl := Option.some.inj (hg.symm.trans a1)
 obtain rfl := Option.some.inj (hty.symm.trans a2)
 obtain ⟨e, fz, ho⟩ := uw a1 a3
 have hlt : g < W.heap.size := (Array.getElem?_eq_some_iff.1 ho).1
 obtain ⟨a, s, hcells, hcell, htext, hsz, _⟩ := errorString_of_trod hi hrow hp he hft hfo hs hc hcs a4 (fun u v huv => by
  have hcs' : cs = #[.iface u v] := Array.toList_inj.1 huv
  refine (hok g 0 (a5 _ ?_)).2 u v ?_
  ·rw [hcs']; simp [MemPlace.row]
  ·simp [World.cell?, ho, hcs'])
 have hcs' : cs = #[.iface tp (.pointer (some a))] := Array.toList_inj.1 hcells
 have hab : a.block < W.heap.size /\ a = ⟨a.block, a.off, none⟩ := by
  unfold World.cell? at hcell
  split at hcell
  ·rename_i c e' fz' hb
   refine ⟨(Array.getElem?_eq_some_iff.1 hb).1, ?_⟩
   split at hcell
   ·cases hcell
   ·rename_i hsp
    cases a with | mk b o sp =>
    cases sp with
    | none => rfl
    | some x => exact absurd rfl hsp
  ·cases hcell
 obtain ⟨hab1, hab2⟩ := hab
 refine ⟨.iptr _ [.iface tp (.pointer (some a))] g 0 rfl hlt (fun j v hv => ?_) (VRs.nil.cons (.ifc _ _ _ ?_)).2, ?_⟩
 ·simp only [World.cell?, ho, Nat.zero_add, hcs']
  simpa using hv
 ·rw [hab2]
  refine .iptr _ [.string s] _ _ rfl hab1 (fun j v hv => ?_) (VRs.nil.cons (.s _ _ htext)).2
  cases j with
  | zero =>
   simp at hv; subst hv
   rw [Nat.add_zero, <- hab2]; exact hcell
  | succ j => simp at hv
 ·simp [World.cell?, ho, hcs']
abbrev laidAll : List (String × DataW Unit) := [("math/bits.deBruijn32tab", Rows.laid_math_bits_deBruijn32tab), ("math/bits.deBruijn64tab", Rows.laid_math_bits_deBruijn64tab), ("internal/strconv.uint64pow10", Rows.laid_internal_strconv_uint64pow10), ("strconv.ErrRange", Rows.laid_strconv_ErrRange), ("strconv.ErrSyntax", Rows.laid_strconv_ErrSyntax)]
theorem xP : "*" ++ "errors.errorString" = "*errors.errorString" := by decide
theorem rW : ∀ u, Tryz.prog.typeName? 3 u = some "*errors.errorString" -> u = 148 := fun u h => typeName_ptr_named (nm := "errors.errorString") (by rw [xP]; kernel_rfl) (by kernel_rfl) (by decide) u (by rw [xP]; exact h)
set_option maxRecDepth 100000 in
theorem gl_of {W : World} (h : laidMet Tryz.prog laidAll W) : GL T0 φ0 A0 (S0 W) W := by
 intro g cs hg
 have hg' : nS g = some cs := hg
 unfold nS at hg'
 split at hg'
 ·rename_i e; subst e; injection hg' with hg'; subst hg'
  refine xi (P := Tryz.prog) (nm := "math/bits.deBruijn32tab") (by kernel_rfl) ?_
  obtain ⟨ps, hl, _⟩ := h
  obtain ⟨g', t', cs, fuel, p, a1, a2, a3, a4, _⟩ := kB (nm := "math/bits.deBruijn32tab") (d := Lib.tabData .u8 [0, 1, 28, 2, 29, 14, 24, 3, 30, 22, 20, 15, 25, 17, 4, 8, 31, 27, 13, 23, 21, 19, 16, 7, 26, 12, 18, 6, 11, 5, 10, 9]) hl (by unfold laidAll Rows.laid_math_bits_deBruijn32tab Lib.tabData; simp)
  obtain rfl := Option.some.inj ((show Tryz.prog.globalNamed "math/bits.deBruijn32tab" = some 4 by kernel_rfl).symm.trans a1)
  obtain rfl := Option.some.inj ((show (Tryz.prog.globals[4]?).map (·.type) = some 151 by kernel_rfl).symm.trans a2)
  unfold Lib.TabIs
  rw [a3, <- Lib.cells_of_tab Tryz.underlying151 Tryz.underlying5 (by kernel_rfl) (by kernel_rfl) a4]
 split at hg'
 ·rename_i e; subst e; injection hg' with hg'; subst hg'
  refine xi (P := Tryz.prog) (nm := "math/bits.deBruijn64tab") (by kernel_rfl) ?_
  obtain ⟨ps, hl, _⟩ := h
  obtain ⟨g', t', cs, fuel, p, a1, a2, a3, a4, _⟩ := kB (nm := "math/bits.deBruijn64tab") (d := Lib.tabData .u8 [0, 1, 56, 2, 57, 49, 28, 3, 61, 58, 42, 50, 38, 29, 17, 4, 62, 47, 59, 36, 45, 43, 51, 22, 53, 39, 33, 30, 24, 18, 12, 5, 63, 55, 48, 27, 60, 41, 37, 16, 46, 35, 44, 21, 52, 32, 23, 11, 54, 26, 40, 15, 34, 20, 31, 10, 25, 14, 19, 9, 13, 8, 7, 6]) hl (by unfold laidAll Rows.laid_math_bits_deBruijn64tab Lib.tabData; simp)
  obtain rfl := Option.some.inj ((show Tryz.prog.globalNamed "math/bits.deBruijn64tab" = some 5 by kernel_rfl).symm.trans a1)
  obtain rfl := Option.some.inj ((show (Tryz.prog.globals[5]?).map (·.type) = some 152 by kernel_rfl).symm.trans a2)
  unfold Lib.TabIs
  rw [a3, <- Lib.cells_of_tab Tryz.underlying152 Tryz.underlying5 (by kernel_rfl) (by kernel_rfl) a4]
 split at hg'
 ·rename_i e; subst e; injection hg' with hg'; subst hg'
  refine xi (P := Tryz.prog) (nm := "internal/strconv.uint64pow10") (by kernel_rfl) ?_
  obtain ⟨ps, hl, _⟩ := h
  obtain ⟨g', t', cs, fuel, p, a1, a2, a3, a4, _⟩ := kB (nm := "internal/strconv.uint64pow10") (d := Lib.tabData .u64 [1, 10, 100, 1000, 10000, 100000, 1000000, 10000000, 100000000, 1000000000, 10000000000, 100000000000, 1000000000000, 10000000000000, 100000000000000, 1000000000000000, 10000000000000000, 100000000000000000, 1000000000000000000, 10000000000000000000]) hl (by unfold laidAll Rows.laid_internal_strconv_uint64pow10 Lib.tabData; simp)
  obtain rfl := Option.some.inj ((show Tryz.prog.globalNamed "internal/strconv.uint64pow10" = some 0 by kernel_rfl).symm.trans a1)
  obtain rfl := Option.some.inj ((show (Tryz.prog.globals[0]?).map (·.type) = some 134 by kernel_rfl).symm.trans a2)
  unfold Lib.TabIs
  rw [a3, <- Lib.cells_of_tab Tryz.underlying134 Tryz.underlying117 (by kernel_rfl) (by kernel_rfl) a4]
 split at hg'
 ·rename_i e; subst e; injection hg' with hg'; subst hg'
  exact gl_err (nm := "strconv.ErrRange") (ty := "*errors.errorString") (ti := 67) (tp := 148) (te := 150) (by kernel_rfl) (by kernel_rfl) Tryz.underlying67 rW Tryz.underlying148 Tryz.underlying150 rfl rfl (by kernel_rfl) (by kernel_rfl) (by kernel_rfl) h (by unfold laidAll Rows.laid_strconv_ErrRange; simp)
 split at hg'
 ·rename_i e; subst e; injection hg' with hg'; subst hg'
  exact gl_err (nm := "strconv.ErrSyntax") (ty := "*errors.errorString") (ti := 67) (tp := 148) (te := 150) (by kernel_rfl) (by kernel_rfl) Tryz.underlying67 rW Tryz.underlying148 Tryz.underlying150 rfl rfl (by kernel_rfl) (by kernel_rfl) (by kernel_rfl) h (by unfold laidAll Rows.laid_strconv_ErrSyntax; simp)
 cases hg'
theorem gl_top {W : World} (h : laidMetH Tryz.prog laidAll W) : GL T0 φ0 A0 (S0 W) W := gl_of (by
 have e : (laidAll.filter fun x => x.2.handleName?.isSome) = [] := by kernel_rfl
 unfold laidMetH at h
 rw [e] at h
 exact h)
end Go.Proofs.YtmfhmlhaofpeiaaGreatDoor.Ev
