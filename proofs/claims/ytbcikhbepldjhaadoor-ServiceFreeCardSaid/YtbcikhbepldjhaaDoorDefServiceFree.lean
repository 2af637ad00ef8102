/- The readings of the arguments' types, and the pure statement of ServiceFree: the row's condition on its arguments is that each number is of its kind and each string and row within the reach. -/
import Derived.Test.YtbcikhbepldjhaaDoorXx2
import Derived.Test.YtbcikhbepldjhaaDoorOpen
import Derived.KernelRfl
namespace Go.Proofs.YtbcikhbepldjhaaDoor.X.RServiceFree
open Go.RowKit Go.Proofs.YtbcikhbepldjhaaDoor.X Go.Proofs.YtbcikhbepldjhaaDoorW.PrintWords Go.Proofs.YtbcikhbepldjhaaDoorW.PrintLast Go.Proofs.YtbcikhbepldjhaaDoorW.PrintMore Go.Proofs.YtbcikhbepldjhaaDoorW.Open
set_option linter.unusedVariables false
def ok9 (x : ByteArray) : Prop := x.size ≤ 140737488351232
theorem opn9 : Opn Tryd.prog 9 Kd.string ok9 := Opn.string Tryd.underlying9 (by kernel_rfl)
def ok3 (x : Int) : Prop := (Lit.int .i64 x).wf = true
theorem opn3 : Opn Tryd.prog 3 (Kd.int .i64) ok3 := Opn.int Tryd.underlying3 (by kernel_rfl)
def ok4 (x : Bool) : Prop := True
theorem opn4 : Opn Tryd.prog 4 Kd.bool ok4 := Opn.bool Tryd.underlying4 (by kernel_rfl)
def ok69 (x : S69) : Prop := ok9 x.f0 ∧ ok9 x.f1
theorem opn69 : Opn Tryd.prog 69 k69 ok69 := fun m => (((Opn.struct Tryd.underlying69 (by kernel_rfl) (fun m => (OpnF.cons rfl (opn9 m) (OpnF.one rfl (opn9 m))))) m).iso (fun p => ⟨p.1, p.2⟩) (fun _ => rfl)).imp (fun _ h => h)
def ok24 (x : (List S69)) : Prop := x.length * 32 ≤ 140737488351232 ∧ x.length ≤ 9223372036854775807 ∧ ∀ z ∈ x, ok69 z
theorem opn24 : Opn Tryd.prog 24 (Kd.slice 69 k69) ok24 := Opn.slice (B := 32) Tryd.underlying24 (by kernel_rfl) (by kernel_rfl) opn69
def ok72 (x : S72) : Prop := ok9 x.f0 ∧ ok9 x.f1 ∧ ok3 x.f2 ∧ ok4 x.f3 ∧ ok4 x.f4
theorem opn72 : Opn Tryd.prog 72 k72 ok72 := fun m => (((Opn.struct Tryd.underlying72 (by kernel_rfl) (fun m => (OpnF.cons rfl (opn9 m) (OpnF.cons rfl (opn9 m) (OpnF.cons rfl (opn3 m) (OpnF.cons rfl (opn4 m) (OpnF.one rfl (opn4 m)))))))) m).iso (fun p => ⟨p.1, p.2.1, p.2.2.1, p.2.2.2.1, p.2.2.2.2⟩) (fun _ => rfl)).imp (fun _ h => h)
def ok25 (x : (List S72)) : Prop := x.length * 48 ≤ 140737488351232 ∧ x.length ≤ 9223372036854775807 ∧ ∀ z ∈ x, ok72 z
theorem opn25 : Opn Tryd.prog 25 (Kd.slice 72 k72) ok25 := Opn.slice (B := 48) Tryd.underlying25 (by kernel_rfl) (by kernel_rfl) opn72
def ok26 (x : (List ByteArray)) : Prop := x.length * 16 ≤ 140737488351232 ∧ x.length ≤ 9223372036854775807 ∧ ∀ z ∈ x, ok9 z
theorem opn26 : Opn Tryd.prog 26 (Kd.slice 9 Kd.string) ok26 := Opn.slice (B := 16) Tryd.underlying26 (by kernel_rfl) (by kernel_rfl) opn9
def ok76 (x : S76) : Prop := ok9 x.f0 ∧ ok26 x.f1
theorem opn76 : Opn Tryd.prog 76 k76 ok76 := fun m => (((Opn.struct Tryd.underlying76 (by kernel_rfl) (fun m => (OpnF.cons rfl (opn9 m) (OpnF.one rfl (opn26 m))))) m).iso (fun p => ⟨p.1, p.2⟩) (fun _ => rfl)).imp (fun _ h => h)
def ok27 (x : (List S76)) : Prop := x.length * 40 ≤ 140737488351232 ∧ x.length ≤ 9223372036854775807 ∧ ∀ z ∈ x, ok76 z
theorem opn27 : Opn Tryd.prog 27 (Kd.slice 76 k76) ok27 := Opn.slice (B := 40) Tryd.underlying27 (by kernel_rfl) (by kernel_rfl) opn76
def ok29 (x : S29) : Prop := ok9 x.f0 ∧ ok9 x.f1 ∧ ok9 x.f2 ∧ ok3 x.f3 ∧ ok3 x.f4 ∧ ok3 x.f5 ∧ ok3 x.f6 ∧ ok4 x.f7 ∧ ok3 x.f8 ∧ ok24 x.f9 ∧ ok25 x.f10 ∧ ok26 x.f11 ∧ ok27 x.f12
theorem opn29 : Opn Tryd.prog 29 k29 ok29 := fun m => (((Opn.struct Tryd.underlying29 (by kernel_rfl) (fun m => (OpnF.cons rfl (opn9 m) (OpnF.cons rfl (opn9 m) (OpnF.cons rfl (opn9 m) (OpnF.cons rfl (opn3 m) (OpnF.cons rfl (opn3 m) (OpnF.cons rfl (opn3 m) (OpnF.cons rfl (opn3 m) (OpnF.cons rfl (opn4 m) (OpnF.cons rfl (opn3 m) (OpnF.cons rfl (opn24 m) (OpnF.cons rfl (opn25 m) (OpnF.cons rfl (opn26 m) (OpnF.one rfl (opn27 m)))))))))))))))) m).iso (fun p => ⟨p.1, p.2.1, p.2.2.1, p.2.2.2.1, p.2.2.2.2.1, p.2.2.2.2.2.1, p.2.2.2.2.2.2.1, p.2.2.2.2.2.2.2.1, p.2.2.2.2.2.2.2.2.1, p.2.2.2.2.2.2.2.2.2.1, p.2.2.2.2.2.2.2.2.2.2.1, p.2.2.2.2.2.2.2.2.2.2.2.1, p.2.2.2.2.2.2.2.2.2.2.2.2⟩) (fun _ => rfl)).imp (fun _ h => h)
def ok79 (x : S79) : Prop := ok9 x.f0 ∧ ok3 x.f1 ∧ ok26 x.f2
theorem opn79 : Opn Tryd.prog 79 k79 ok79 := fun m => (((Opn.struct Tryd.underlying79 (by kernel_rfl) (fun m => (OpnF.cons rfl (opn9 m) (OpnF.cons rfl (opn3 m) (OpnF.one rfl (opn26 m)))))) m).iso (fun p => ⟨p.1, p.2.1, p.2.2⟩) (fun _ => rfl)).imp (fun _ h => h)
def ok30 (x : (List S79)) : Prop := x.length * 48 ≤ 140737488351232 ∧ x.length ≤ 9223372036854775807 ∧ ∀ z ∈ x, ok79 z
theorem opn30 : Opn Tryd.prog 30 (Kd.slice 79 k79) ok30 := Opn.slice (B := 48) Tryd.underlying30 (by kernel_rfl) (by kernel_rfl) opn79
def ok56 (x : S56) : Prop := ok9 x.f0 ∧ ok3 x.f1 ∧ ok3 x.f2
theorem opn56 : Opn Tryd.prog 56 k56 ok56 := fun m => (((Opn.struct Tryd.underlying56 (by kernel_rfl) (fun m => (OpnF.cons rfl (opn9 m) (OpnF.cons rfl (opn3 m) (OpnF.one rfl (opn3 m)))))) m).iso (fun p => ⟨p.1, p.2.1, p.2.2⟩) (fun _ => rfl)).imp (fun _ h => h)
def ok31 (x : (List S56)) : Prop := x.length * 32 ≤ 140737488351232 ∧ x.length ≤ 9223372036854775807 ∧ ∀ z ∈ x, ok56 z
theorem opn31 : Opn Tryd.prog 31 (Kd.slice 56 k56) ok31 := Opn.slice (B := 32) Tryd.underlying31 (by kernel_rfl) (by kernel_rfl) opn56
def ok33 (x : S33) : Prop := ok29 x.f0 ∧ ok30 x.f1 ∧ ok31 x.f2 ∧ ok4 x.f3 ∧ ok3 x.f4
theorem opn33 : Opn Tryd.prog 33 k33 ok33 := fun m => (((Opn.struct Tryd.underlying33 (by kernel_rfl) (fun m => (OpnF.cons rfl (opn29 m) (OpnF.cons rfl (opn30 m) (OpnF.cons rfl (opn31 m) (OpnF.cons rfl (opn4 m) (OpnF.one rfl (opn3 m)))))))) m).iso (fun p => ⟨p.1, p.2.1, p.2.2.1, p.2.2.2.1, p.2.2.2.2⟩) (fun _ => rfl)).imp (fun _ h => h)
def ok22 (x : (List S33)) : Prop := x.length * 256 ≤ 140737488351232 ∧ x.length ≤ 9223372036854775807 ∧ ∀ z ∈ x, ok33 z
theorem opn22 : Opn Tryd.prog 22 (Kd.slice 33 k33) ok22 := Opn.slice (B := 256) Tryd.underlying22 (by kernel_rfl) (by kernel_rfl) opn33
def PureAll : Prop := ∀ (l0 : (List S33)) (a1 : Int) (a2 : Int), ok22 l0 → ok3 a1 → ok3 a2 → ∃ k, orchestratorlaw56_ServiceFree.f k l0 a1 a2 = some true
end Go.Proofs.YtbcikhbepldjhaaDoor.X.RServiceFree
