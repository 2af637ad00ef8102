/- The tables of this seat's program, for the evaluator: types and functions. Written by evtab.py, a program of this session's. Not trusted: Lean checks it. -/
import Derived.Test.YtbcikhbepldjhaaDoorEvX
import Derived.Test.YtbcikhbepldjhaaDoorProg
namespace Go.Proofs.YtbcikhbepldjhaaDoor.Ev
open Go Go.RowKit
noncomputable def infos : List TypeInfo := [Tryd.t0, Tryd.t1, Tryd.t2, Tryd.t3, Tryd.t4, Tryd.t5, Tryd.t6, Tryd.t7, Tryd.t8, Tryd.t9, Tryd.t10, Tryd.t11, Tryd.t12, Tryd.t13, Tryd.t14, Tryd.t15, Tryd.t16, Tryd.t17, Tryd.t18, Tryd.t19, Tryd.t20, Tryd.t21, Tryd.t22, Tryd.t23, Tryd.t24, Tryd.t25, Tryd.t26, Tryd.t27, Tryd.t28, Tryd.t29, Tryd.t30, Tryd.t31, Tryd.t32, Tryd.t33, Tryd.t34, Tryd.t35, Tryd.t36, Tryd.t37, Tryd.t38, Tryd.t39, Tryd.t40, Tryd.t41, Tryd.t42, Tryd.t43, Tryd.t44, Tryd.t45, Tryd.t46, Tryd.t47, Tryd.t48, Tryd.t49, Tryd.t50, Tryd.t51, Tryd.t52, Tryd.t53, Tryd.t54, Tryd.t55, Tryd.t56, Tryd.t57, Tryd.t58, Tryd.t59, Tryd.t60, Tryd.t61, Tryd.t62, Tryd.t63, Tryd.t64, Tryd.t65, Tryd.t66, Tryd.t67, Tryd.t68, Tryd.t69, Tryd.t70, Tryd.t71, Tryd.t72, Tryd.t73, Tryd.t74, Tryd.t75, Tryd.t76, Tryd.t77, Tryd.t78, Tryd.t79, Tryd.t80, Tryd.t81, Tryd.t82, Tryd.t83, Tryd.t84, Tryd.t85, Tryd.t86, Tryd.t87, Tryd.t88, Tryd.t89, Tryd.t90, Tryd.t91, Tryd.t92, Tryd.t93, Tryd.t94, Tryd.t95, Tryd.t96, Tryd.t97, Tryd.t98, Tryd.t99, Tryd.t100, Tryd.t101, Tryd.t102, Tryd.t103, Tryd.t104, Tryd.t105, Tryd.t106, Tryd.t107, Tryd.t108, Tryd.t109, Tryd.t110, Tryd.t111, Tryd.t112, Tryd.t113, Tryd.t114, Tryd.t115]
theorem infos_eq : Tryd.prog.types = ⟨infos⟩ := by kernel_rfl
noncomputable def fns : List Func := [Tryd.f0, Tryd.f1, Tryd.f2, Tryd.f3, Tryd.f4, Tryd.f5, Tryd.f6, Tryd.f7, Tryd.f8, Tryd.f9, Tryd.f10, Tryd.f11, Tryd.f12, Tryd.f13, Tryd.f14, Tryd.f15, Tryd.f16, Tryd.f17, Tryd.f18, Tryd.f19, Tryd.f20, Tryd.f21, Tryd.f22, Tryd.f23, Tryd.f24, Tryd.f25, Tryd.f26, Tryd.f27, Tryd.f28, Tryd.f29, Tryd.f30, Tryd.f31, Tryd.f32, Tryd.f33, Tryd.f34, Tryd.f35, Tryd.f36, Tryd.f37, Tryd.f38, Tryd.f39, Tryd.f40, Tryd.f41, Tryd.f42, Tryd.f43, Tryd.f44, Tryd.f45, Tryd.f46, Tryd.f47, Tryd.f48, Tryd.f49, Tryd.f50, Tryd.f51, Tryd.f52, Tryd.f53, Tryd.f54, Tryd.f55, Tryd.f56, Tryd.f57, Tryd.f58, Tryd.f59, Tryd.f60, Tryd.f61, Tryd.f62, Tryd.f63, Tryd.f64, Tryd.f65, Tryd.f66, Tryd.f67, Tryd.f68, Tryd.f69, Tryd.f70]
theorem fns_eq : Tryd.prog.funcs = ⟨fns⟩ := by kernel_rfl
noncomputable def infoTr : Tr TypeInfo := (M Tryd.t0 (M Tryd.t1 (M Tryd.t3 (M Tryd.t7 (M Tryd.t15 (M Tryd.t31 (E Tryd.t63) (E Tryd.t95)) (M Tryd.t47 (E Tryd.t79) (E Tryd.t111))) (M Tryd.t23 (M Tryd.t39 (E Tryd.t71) (E Tryd.t103)) (M Tryd.t55 (E Tryd.t87) L))) (M Tryd.t11 (M Tryd.t19 (M Tryd.t35 (E Tryd.t67) (E Tryd.t99)) (M Tryd.t51 (E Tryd.t83) (E Tryd.t115))) (M Tryd.t27 (M Tryd.t43 (E Tryd.t75) (E Tryd.t107)) (M Tryd.t59 (E Tryd.t91) L)))) (M Tryd.t5 (M Tryd.t9 (M Tryd.t17 (M Tryd.t33 (E Tryd.t65) (E Tryd.t97)) (M Tryd.t49 (E Tryd.t81) (E Tryd.t113))) (M Tryd.t25 (M Tryd.t41 (E Tryd.t73) (E Tryd.t105)) (M Tryd.t57 (E Tryd.t89) L))) (M Tryd.t13 (M Tryd.t21 (M Tryd.t37 (E Tryd.t69) (E Tryd.t101)) (M Tryd.t53 (E Tryd.t85) L)) (M Tryd.t29 (M Tryd.t45 (E Tryd.t77) (E Tryd.t109)) (M Tryd.t61 (E Tryd.t93) L))))) (M Tryd.t2 (M Tryd.t4 (M Tryd.t8 (M Tryd.t16 (M Tryd.t32 (E Tryd.t64) (E Tryd.t96)) (M Tryd.t48 (E Tryd.t80) (E Tryd.t112))) (M Tryd.t24 (M Tryd.t40 (E Tryd.t72) (E Tryd.t104)) (M Tryd.t56 (E Tryd.t88) L))) (M Tryd.t12 (M Tryd.t20 (M Tryd.t36 (E Tryd.t68) (E Tryd.t100)) (M Tryd.t52 (E Tryd.t84) L)) (M Tryd.t28 (M Tryd.t44 (E Tryd.t76) (E Tryd.t108)) (M Tryd.t60 (E Tryd.t92) L)))) (M Tryd.t6 (M Tryd.t10 (M Tryd.t18 (M Tryd.t34 (E Tryd.t66) (E Tryd.t98)) (M Tryd.t50 (E Tryd.t82) (E Tryd.t114))) (M Tryd.t26 (M Tryd.t42 (E Tryd.t74) (E Tryd.t106)) (M Tryd.t58 (E Tryd.t90) L))) (M Tryd.t14 (M Tryd.t22 (M Tryd.t38 (E Tryd.t70) (E Tryd.t102)) (M Tryd.t54 (E Tryd.t86) L)) (M Tryd.t30 (M Tryd.t46 (E Tryd.t78) (E Tryd.t110)) (M Tryd.t62 (E Tryd.t94) L))))))
theorem infoTr_eq : infoTr = Tr.mk' 7 (infos[·]?) := by kernel_rfl
noncomputable def fnTr : Tr Func := (M Tryd.f0 (M Tryd.f1 (M Tryd.f3 (M Tryd.f7 (M Tryd.f15 (M Tryd.f31 (E Tryd.f63) L) (E Tryd.f47)) (M Tryd.f23 (E Tryd.f39) (E Tryd.f55))) (M Tryd.f11 (M Tryd.f19 (M Tryd.f35 (E Tryd.f67) L) (E Tryd.f51)) (M Tryd.f27 (E Tryd.f43) (E Tryd.f59)))) (M Tryd.f5 (M Tryd.f9 (M Tryd.f17 (M Tryd.f33 (E Tryd.f65) L) (E Tryd.f49)) (M Tryd.f25 (E Tryd.f41) (E Tryd.f57))) (M Tryd.f13 (M Tryd.f21 (M Tryd.f37 (E Tryd.f69) L) (E Tryd.f53)) (M Tryd.f29 (E Tryd.f45) (E Tryd.f61))))) (M Tryd.f2 (M Tryd.f4 (M Tryd.f8 (M Tryd.f16 (M Tryd.f32 (E Tryd.f64) L) (E Tryd.f48)) (M Tryd.f24 (E Tryd.f40) (E Tryd.f56))) (M Tryd.f12 (M Tryd.f20 (M Tryd.f36 (E Tryd.f68) L) (E Tryd.f52)) (M Tryd.f28 (E Tryd.f44) (E Tryd.f60)))) (M Tryd.f6 (M Tryd.f10 (M Tryd.f18 (M Tryd.f34 (E Tryd.f66) L) (E Tryd.f50)) (M Tryd.f26 (E Tryd.f42) (E Tryd.f58))) (M Tryd.f14 (M Tryd.f22 (M Tryd.f38 (E Tryd.f70) L) (E Tryd.f54)) (M Tryd.f30 (E Tryd.f46) (E Tryd.f62))))))
theorem fnTr_eq : fnTr = Tr.mk' 7 (fns[·]?) := by kernel_rfl
def opened : List Nat := [12, 29, 30]
def adopts : List Nat := [29, 30]
def gives : List Nat := []
def skipped : List Nat := []
def primOf (_ : Nat) : Option (List AV → Option AV) := none
def eqL : List Nat := []
def eqs (t : Nat) : Bool := memN t eqL
noncomputable def T1 : Tab := tabOf infoTr fnTr skipped opened adopts gives primOf eqs (fun _ => none) (fun _ => none)
def clones : List Nat := [26, 27, 28, 29, 30, 31]
def extAll (f : Nat) : Option (List AV → Option AV) := match memN f clones with | true => some extClone | false => extOf f
noncomputable def T0 : Tab := tabOf infoTr fnTr skipped opened adopts gives primOf eqs glOf extAll
theorem fns_ok : fnsOK fns = true := by kernel_rfl
theorem prims_ok : ∀ f g, primOf f = some g → memN f opened = false ∧ PrimOK Tryd.prog f g := by
  intro f g h
  unfold primOf at h
  cases h
theorem extOf_ok : ∀ f g, extOf f = some g → ExtOK Tryd.prog glOf f g := ext_ok
theorem T1_ok : TabOK Tryd.prog T1 := tabOK infos_eq fns_eq infoTr_eq fnTr_eq fns_ok (by kernel_rfl) (eqs_ok Tryd.prog eqL (by kernel_rfl)) prims_ok (fun _ _ h => by cases h) (fun _ _ h => by cases h)
theorem clone26 : ExtOK Tryd.prog glOf 26 extClone := clone_ok T1_ok (fun _ => rfl) (evCall_ok T1_ok) (fn := Tryd.f26) (by kernel_rfl) (by kernel_rfl)
theorem clone27 : ExtOK Tryd.prog glOf 27 extClone := clone_ok T1_ok (fun _ => rfl) (evCall_ok T1_ok) (fn := Tryd.f27) (by kernel_rfl) (by kernel_rfl)
theorem clone28 : ExtOK Tryd.prog glOf 28 extClone := clone_ok T1_ok (fun _ => rfl) (evCall_ok T1_ok) (fn := Tryd.f28) (by kernel_rfl) (by kernel_rfl)
theorem clone29 : ExtOK Tryd.prog glOf 29 extClone := clone_ok T1_ok (fun _ => rfl) (evCall_ok T1_ok) (fn := Tryd.f29) (by kernel_rfl) (by kernel_rfl)
theorem clone30 : ExtOK Tryd.prog glOf 30 extClone := clone_ok T1_ok (fun _ => rfl) (evCall_ok T1_ok) (fn := Tryd.f30) (by kernel_rfl) (by kernel_rfl)
theorem clone31 : ExtOK Tryd.prog glOf 31 extClone := clone_ok T1_ok (fun _ => rfl) (evCall_ok T1_ok) (fn := Tryd.f31) (by kernel_rfl) (by kernel_rfl)
theorem clones_ok : ∀ f, memN f clones = true → ExtOK Tryd.prog glOf f extClone := by
  intro f h
  have h' : f ∈ clones := memN_in h
  simp only [clones, List.mem_cons, List.not_mem_nil, or_false] at h'
  rcases h' with rfl | rfl | rfl | rfl | rfl | rfl
  · exact clone26
  · exact clone27
  · exact clone28
  · exact clone29
  · exact clone30
  · exact clone31
theorem extAll_ok : ∀ f g, extAll f = some g → ExtOK Tryd.prog glOf f g := by
  intro f g h
  unfold extAll at h
  split at h
  · rename_i hm; injection h with h; subst h; exact clones_ok f hm
  · exact extOf_ok f g h
theorem T0_ok : TabOK Tryd.prog T0 := tabOK infos_eq fns_eq infoTr_eq fnTr_eq fns_ok (by kernel_rfl) (eqs_ok Tryd.prog eqL (by kernel_rfl)) prims_ok glOf_ok extAll_ok
end Go.Proofs.YtbcikhbepldjhaaDoor.Ev
