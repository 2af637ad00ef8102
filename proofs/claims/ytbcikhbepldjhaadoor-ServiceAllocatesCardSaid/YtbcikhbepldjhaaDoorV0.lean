/- The chapter's structs, and how the evaluator sees them. Printed by encg.py, a program of this session's. -/
import Derived.Test.YtbcikhbepldjhaaDoorEvF
namespace Go.Proofs.YtbcikhbepldjhaaDoor.Ev
open Go Go.RowKit
structure XLabel where
  key_ : List UInt8
  value_ : List UInt8
  deriving DecidableEq
instance : Inhabited XLabel := ⟨⟨[], []⟩⟩
def encXLabel (x : XLabel) : AV := .agg [.s x.key_, .s x.value_]
def okXLabel (x : XLabel) : Prop := x.key_.length ≤ 140737488351232 ∧ x.value_.length ≤ 140737488351232
theorem clen_XLabel (x : XLabel) : (encXLabel x).cells.length = 2 := rfl
theorem leafs_XLabel (x : XLabel) : allLeaf (encXLabel x).cells = true := rfl
theorem ofc_encXLabel (x : XLabel) : ofCells T0 69 (encXLabel x).cells = some (encXLabel x) := by rw [ofc_69]; rfl
theorem ofc0_encXLabel (x : XLabel) : ofCells T0 69 ((encXLabel x).cells.drop 0) = some (encXLabel x) := ofc_encXLabel x
theorem fld_XLabel_key_ (x : XLabel) : ofCells T0 9 ((encXLabel x).cells.drop 0) = some (.s x.key_) := ofc_9 _ _
theorem prt_XLabel_key_ (x : XLabel) : evPart T0 9 0 (encXLabel x) = some (.s x.key_) := fld_XLabel_key_ x
theorem fld_XLabel_value_ (x : XLabel) : ofCells T0 9 ((encXLabel x).cells.drop 1) = some (.s x.value_) := ofc_9 _ _
theorem prt_XLabel_value_ (x : XLabel) : evPart T0 9 1 (encXLabel x) = some (.s x.value_) := fld_XLabel_value_ x
structure XOwner where
  kind_ : List UInt8
  name_ : List UInt8
  uid_ : Int
  controller_ : Bool
  block_ : Bool
  deriving DecidableEq
instance : Inhabited XOwner := ⟨⟨[], [], 0, false, false⟩⟩
def encXOwner (x : XOwner) : AV := .agg [.s x.kind_, .s x.name_, .i .i64 x.uid_, .b x.controller_, .b x.block_]
def okXOwner (x : XOwner) : Prop := x.kind_.length ≤ 140737488351232 ∧ x.name_.length ≤ 140737488351232 ∧ (Lit.int .i64 x.uid_).wf = true ∧ True ∧ True
theorem clen_XOwner (x : XOwner) : (encXOwner x).cells.length = 5 := rfl
theorem leafs_XOwner (x : XOwner) : allLeaf (encXOwner x).cells = true := rfl
theorem ofc_encXOwner (x : XOwner) : ofCells T0 72 (encXOwner x).cells = some (encXOwner x) := by rw [ofc_72]; rfl
theorem ofc0_encXOwner (x : XOwner) : ofCells T0 72 ((encXOwner x).cells.drop 0) = some (encXOwner x) := ofc_encXOwner x
theorem fld_XOwner_kind_ (x : XOwner) : ofCells T0 9 ((encXOwner x).cells.drop 0) = some (.s x.kind_) := ofc_9 _ _
theorem prt_XOwner_kind_ (x : XOwner) : evPart T0 9 0 (encXOwner x) = some (.s x.kind_) := fld_XOwner_kind_ x
theorem fld_XOwner_name_ (x : XOwner) : ofCells T0 9 ((encXOwner x).cells.drop 1) = some (.s x.name_) := ofc_9 _ _
theorem prt_XOwner_name_ (x : XOwner) : evPart T0 9 1 (encXOwner x) = some (.s x.name_) := fld_XOwner_name_ x
theorem fld_XOwner_uid_ (x : XOwner) : ofCells T0 3 ((encXOwner x).cells.drop 2) = some (.i .i64 x.uid_) := ofc_3 _ _
theorem prt_XOwner_uid_ (x : XOwner) : evPart T0 3 2 (encXOwner x) = some (.i .i64 x.uid_) := fld_XOwner_uid_ x
theorem fld_XOwner_controller_ (x : XOwner) : ofCells T0 4 ((encXOwner x).cells.drop 3) = some (.b x.controller_) := ofc_4 _ _
theorem prt_XOwner_controller_ (x : XOwner) : evPart T0 4 3 (encXOwner x) = some (.b x.controller_) := fld_XOwner_controller_ x
theorem fld_XOwner_block_ (x : XOwner) : ofCells T0 4 ((encXOwner x).cells.drop 4) = some (.b x.block_) := ofc_4 _ _
theorem prt_XOwner_block_ (x : XOwner) : evPart T0 4 4 (encXOwner x) = some (.b x.block_) := fld_XOwner_block_ x
structure XManager where
  name_ : List UInt8
  fields_ : List (List UInt8)
  deriving DecidableEq
instance : Inhabited XManager := ⟨⟨[], []⟩⟩
def encXManager (x : XManager) : AV := .agg [.s x.name_, .lst (x.fields_.map AV.s)]
def okXManager (x : XManager) : Prop := x.name_.length ≤ 140737488351232 ∧ (x.fields_.length * 16 ≤ 140737488351232 ∧ ∀ z ∈ x.fields_, z.length ≤ 140737488351232)
theorem clen_XManager (x : XManager) : (encXManager x).cells.length = 2 := rfl
theorem leafs_XManager (x : XManager) : allLeaf (encXManager x).cells = true := rfl
theorem ofc_encXManager (x : XManager) : ofCells T0 76 (encXManager x).cells = some (encXManager x) := by rw [ofc_76]; rfl
theorem ofc0_encXManager (x : XManager) : ofCells T0 76 ((encXManager x).cells.drop 0) = some (encXManager x) := ofc_encXManager x
theorem fld_XManager_name_ (x : XManager) : ofCells T0 9 ((encXManager x).cells.drop 0) = some (.s x.name_) := ofc_9 _ _
theorem prt_XManager_name_ (x : XManager) : evPart T0 9 0 (encXManager x) = some (.s x.name_) := fld_XManager_name_ x
theorem fld_XManager_fields_ (x : XManager) : ofCells T0 26 ((encXManager x).cells.drop 1) = some (.lst (x.fields_.map AV.s)) := ofc_26 _ _
theorem prt_XManager_fields_ (x : XManager) : evPart T0 26 1 (encXManager x) = some (.lst (x.fields_.map AV.s)) := fld_XManager_fields_ x
structure XMeta where
  kind_ : List UInt8
  namespace_ : List UInt8
  name_ : List UInt8
  uid_ : Int
  version_ : Int
  generation_ : Int
  created_ : Int
  deleting_ : Bool
  deleteAt_ : Int
  labels_ : List (XLabel)
  owners_ : List (XOwner)
  finalizers_ : List (List UInt8)
  managers_ : List (XManager)
  deriving DecidableEq
instance : Inhabited XMeta := ⟨⟨[], [], [], 0, 0, 0, 0, false, 0, [], [], [], []⟩⟩
def encXMeta (x : XMeta) : AV := .agg [.s x.kind_, .s x.namespace_, .s x.name_, .i .i64 x.uid_, .i .i64 x.version_, .i .i64 x.generation_, .i .i64 x.created_, .b x.deleting_, .i .i64 x.deleteAt_, .lst (x.labels_.map encXLabel), .lst (x.owners_.map encXOwner), .lst (x.finalizers_.map AV.s), .lst (x.managers_.map encXManager)]
def okXMeta (x : XMeta) : Prop := x.kind_.length ≤ 140737488351232 ∧ x.namespace_.length ≤ 140737488351232 ∧ x.name_.length ≤ 140737488351232 ∧ (Lit.int .i64 x.uid_).wf = true ∧ (Lit.int .i64 x.version_).wf = true ∧ (Lit.int .i64 x.generation_).wf = true ∧ (Lit.int .i64 x.created_).wf = true ∧ True ∧ (Lit.int .i64 x.deleteAt_).wf = true ∧ (x.labels_.length * 32 ≤ 140737488351232 ∧ ∀ z ∈ x.labels_, okXLabel z) ∧ (x.owners_.length * 48 ≤ 140737488351232 ∧ ∀ z ∈ x.owners_, okXOwner z) ∧ (x.finalizers_.length * 16 ≤ 140737488351232 ∧ ∀ z ∈ x.finalizers_, z.length ≤ 140737488351232) ∧ (x.managers_.length * 40 ≤ 140737488351232 ∧ ∀ z ∈ x.managers_, okXManager z)
theorem clen_XMeta (x : XMeta) : (encXMeta x).cells.length = 13 := rfl
theorem leafs_XMeta (x : XMeta) : allLeaf (encXMeta x).cells = true := rfl
theorem ofc_encXMeta (x : XMeta) : ofCells T0 29 (encXMeta x).cells = some (encXMeta x) := by rw [ofc_29]; rfl
theorem ofc0_encXMeta (x : XMeta) : ofCells T0 29 ((encXMeta x).cells.drop 0) = some (encXMeta x) := ofc_encXMeta x
theorem fld_XMeta_kind_ (x : XMeta) : ofCells T0 9 ((encXMeta x).cells.drop 0) = some (.s x.kind_) := ofc_9 _ _
theorem prt_XMeta_kind_ (x : XMeta) : evPart T0 9 0 (encXMeta x) = some (.s x.kind_) := fld_XMeta_kind_ x
theorem fld_XMeta_namespace_ (x : XMeta) : ofCells T0 9 ((encXMeta x).cells.drop 1) = some (.s x.namespace_) := ofc_9 _ _
theorem prt_XMeta_namespace_ (x : XMeta) : evPart T0 9 1 (encXMeta x) = some (.s x.namespace_) := fld_XMeta_namespace_ x
theorem fld_XMeta_name_ (x : XMeta) : ofCells T0 9 ((encXMeta x).cells.drop 2) = some (.s x.name_) := ofc_9 _ _
theorem prt_XMeta_name_ (x : XMeta) : evPart T0 9 2 (encXMeta x) = some (.s x.name_) := fld_XMeta_name_ x
theorem fld_XMeta_uid_ (x : XMeta) : ofCells T0 3 ((encXMeta x).cells.drop 3) = some (.i .i64 x.uid_) := ofc_3 _ _
theorem prt_XMeta_uid_ (x : XMeta) : evPart T0 3 3 (encXMeta x) = some (.i .i64 x.uid_) := fld_XMeta_uid_ x
theorem fld_XMeta_version_ (x : XMeta) : ofCells T0 3 ((encXMeta x).cells.drop 4) = some (.i .i64 x.version_) := ofc_3 _ _
theorem prt_XMeta_version_ (x : XMeta) : evPart T0 3 4 (encXMeta x) = some (.i .i64 x.version_) := fld_XMeta_version_ x
theorem fld_XMeta_generation_ (x : XMeta) : ofCells T0 3 ((encXMeta x).cells.drop 5) = some (.i .i64 x.generation_) := ofc_3 _ _
theorem prt_XMeta_generation_ (x : XMeta) : evPart T0 3 5 (encXMeta x) = some (.i .i64 x.generation_) := fld_XMeta_generation_ x
theorem fld_XMeta_created_ (x : XMeta) : ofCells T0 3 ((encXMeta x).cells.drop 6) = some (.i .i64 x.created_) := ofc_3 _ _
theorem prt_XMeta_created_ (x : XMeta) : evPart T0 3 6 (encXMeta x) = some (.i .i64 x.created_) := fld_XMeta_created_ x
theorem fld_XMeta_deleting_ (x : XMeta) : ofCells T0 4 ((encXMeta x).cells.drop 7) = some (.b x.deleting_) := ofc_4 _ _
theorem prt_XMeta_deleting_ (x : XMeta) : evPart T0 4 7 (encXMeta x) = some (.b x.deleting_) := fld_XMeta_deleting_ x
theorem fld_XMeta_deleteAt_ (x : XMeta) : ofCells T0 3 ((encXMeta x).cells.drop 8) = some (.i .i64 x.deleteAt_) := ofc_3 _ _
theorem prt_XMeta_deleteAt_ (x : XMeta) : evPart T0 3 8 (encXMeta x) = some (.i .i64 x.deleteAt_) := fld_XMeta_deleteAt_ x
theorem fld_XMeta_labels_ (x : XMeta) : ofCells T0 24 ((encXMeta x).cells.drop 9) = some (.lst (x.labels_.map encXLabel)) := ofc_24 _ _
theorem prt_XMeta_labels_ (x : XMeta) : evPart T0 24 9 (encXMeta x) = some (.lst (x.labels_.map encXLabel)) := fld_XMeta_labels_ x
theorem fld_XMeta_owners_ (x : XMeta) : ofCells T0 25 ((encXMeta x).cells.drop 10) = some (.lst (x.owners_.map encXOwner)) := ofc_25 _ _
theorem prt_XMeta_owners_ (x : XMeta) : evPart T0 25 10 (encXMeta x) = some (.lst (x.owners_.map encXOwner)) := fld_XMeta_owners_ x
theorem fld_XMeta_finalizers_ (x : XMeta) : ofCells T0 26 ((encXMeta x).cells.drop 11) = some (.lst (x.finalizers_.map AV.s)) := ofc_26 _ _
theorem prt_XMeta_finalizers_ (x : XMeta) : evPart T0 26 11 (encXMeta x) = some (.lst (x.finalizers_.map AV.s)) := fld_XMeta_finalizers_ x
theorem fld_XMeta_managers_ (x : XMeta) : ofCells T0 27 ((encXMeta x).cells.drop 12) = some (.lst (x.managers_.map encXManager)) := ofc_27 _ _
theorem prt_XMeta_managers_ (x : XMeta) : evPart T0 27 12 (encXMeta x) = some (.lst (x.managers_.map encXManager)) := fld_XMeta_managers_ x
structure XRequirement where
  key_ : List UInt8
  op_ : Int
  values_ : List (List UInt8)
  deriving DecidableEq
instance : Inhabited XRequirement := ⟨⟨[], 0, []⟩⟩
def encXRequirement (x : XRequirement) : AV := .agg [.s x.key_, .i .i64 x.op_, .lst (x.values_.map AV.s)]
def okXRequirement (x : XRequirement) : Prop := x.key_.length ≤ 140737488351232 ∧ (Lit.int .i64 x.op_).wf = true ∧ (x.values_.length * 16 ≤ 140737488351232 ∧ ∀ z ∈ x.values_, z.length ≤ 140737488351232)
theorem clen_XRequirement (x : XRequirement) : (encXRequirement x).cells.length = 3 := rfl
theorem leafs_XRequirement (x : XRequirement) : allLeaf (encXRequirement x).cells = true := rfl
theorem ofc_encXRequirement (x : XRequirement) : ofCells T0 79 (encXRequirement x).cells = some (encXRequirement x) := by rw [ofc_79]; rfl
theorem ofc0_encXRequirement (x : XRequirement) : ofCells T0 79 ((encXRequirement x).cells.drop 0) = some (encXRequirement x) := ofc_encXRequirement x
theorem fld_XRequirement_key_ (x : XRequirement) : ofCells T0 9 ((encXRequirement x).cells.drop 0) = some (.s x.key_) := ofc_9 _ _
theorem prt_XRequirement_key_ (x : XRequirement) : evPart T0 9 0 (encXRequirement x) = some (.s x.key_) := fld_XRequirement_key_ x
theorem fld_XRequirement_op_ (x : XRequirement) : ofCells T0 3 ((encXRequirement x).cells.drop 1) = some (.i .i64 x.op_) := ofc_3 _ _
theorem prt_XRequirement_op_ (x : XRequirement) : evPart T0 3 1 (encXRequirement x) = some (.i .i64 x.op_) := fld_XRequirement_op_ x
theorem fld_XRequirement_values_ (x : XRequirement) : ofCells T0 26 ((encXRequirement x).cells.drop 2) = some (.lst (x.values_.map AV.s)) := ofc_26 _ _
theorem prt_XRequirement_values_ (x : XRequirement) : evPart T0 26 2 (encXRequirement x) = some (.lst (x.values_.map AV.s)) := fld_XRequirement_values_ x
structure XServicePort where
  name_ : List UInt8
  port_ : Int
  target_ : Int
  deriving DecidableEq
instance : Inhabited XServicePort := ⟨⟨[], 0, 0⟩⟩
def encXServicePort (x : XServicePort) : AV := .agg [.s x.name_, .i .i64 x.port_, .i .i64 x.target_]
def okXServicePort (x : XServicePort) : Prop := x.name_.length ≤ 140737488351232 ∧ (Lit.int .i64 x.port_).wf = true ∧ (Lit.int .i64 x.target_).wf = true
theorem clen_XServicePort (x : XServicePort) : (encXServicePort x).cells.length = 3 := rfl
theorem leafs_XServicePort (x : XServicePort) : allLeaf (encXServicePort x).cells = true := rfl
theorem ofc_encXServicePort (x : XServicePort) : ofCells T0 56 (encXServicePort x).cells = some (encXServicePort x) := by rw [ofc_56]; rfl
theorem ofc0_encXServicePort (x : XServicePort) : ofCells T0 56 ((encXServicePort x).cells.drop 0) = some (encXServicePort x) := ofc_encXServicePort x
theorem fld_XServicePort_name_ (x : XServicePort) : ofCells T0 9 ((encXServicePort x).cells.drop 0) = some (.s x.name_) := ofc_9 _ _
theorem prt_XServicePort_name_ (x : XServicePort) : evPart T0 9 0 (encXServicePort x) = some (.s x.name_) := fld_XServicePort_name_ x
theorem fld_XServicePort_port_ (x : XServicePort) : ofCells T0 3 ((encXServicePort x).cells.drop 1) = some (.i .i64 x.port_) := ofc_3 _ _
theorem prt_XServicePort_port_ (x : XServicePort) : evPart T0 3 1 (encXServicePort x) = some (.i .i64 x.port_) := fld_XServicePort_port_ x
theorem fld_XServicePort_target_ (x : XServicePort) : ofCells T0 3 ((encXServicePort x).cells.drop 2) = some (.i .i64 x.target_) := ofc_3 _ _
theorem prt_XServicePort_target_ (x : XServicePort) : evPart T0 3 2 (encXServicePort x) = some (.i .i64 x.target_) := fld_XServicePort_target_ x
structure XService where
  meta_ : XMeta
  selector_ : List (XRequirement)
  ports_ : List (XServicePort)
  sticky_ : Bool
  address_ : Int
  deriving DecidableEq
instance : Inhabited XService := ⟨⟨default, [], [], false, 0⟩⟩
def encXService (x : XService) : AV := .agg [.s x.meta_.kind_, .s x.meta_.namespace_, .s x.meta_.name_, .i .i64 x.meta_.uid_, .i .i64 x.meta_.version_, .i .i64 x.meta_.generation_, .i .i64 x.meta_.created_, .b x.meta_.deleting_, .i .i64 x.meta_.deleteAt_, .lst (x.meta_.labels_.map encXLabel), .lst (x.meta_.owners_.map encXOwner), .lst (x.meta_.finalizers_.map AV.s), .lst (x.meta_.managers_.map encXManager), .lst (x.selector_.map encXRequirement), .lst (x.ports_.map encXServicePort), .b x.sticky_, .i .i64 x.address_]
def okXService (x : XService) : Prop := okXMeta x.meta_ ∧ (x.selector_.length * 48 ≤ 140737488351232 ∧ ∀ z ∈ x.selector_, okXRequirement z) ∧ (x.ports_.length * 32 ≤ 140737488351232 ∧ ∀ z ∈ x.ports_, okXServicePort z) ∧ True ∧ (Lit.int .i64 x.address_).wf = true
theorem clen_XService (x : XService) : (encXService x).cells.length = 17 := rfl
theorem leafs_XService (x : XService) : allLeaf (encXService x).cells = true := rfl
theorem ofc_encXService (x : XService) : ofCells T0 33 (encXService x).cells = some (encXService x) := by rw [ofc_33]; rfl
theorem ofc0_encXService (x : XService) : ofCells T0 33 ((encXService x).cells.drop 0) = some (encXService x) := ofc_encXService x
theorem fld_XService_meta_ (x : XService) : ofCells T0 29 ((encXService x).cells.drop 0) = some (encXMeta x.meta_) := by rw [ofc_29]; rfl
theorem prt_XService_meta_ (x : XService) : evPart T0 29 0 (encXService x) = some (encXMeta x.meta_) := fld_XService_meta_ x
theorem fld_XService_selector_ (x : XService) : ofCells T0 30 ((encXService x).cells.drop 13) = some (.lst (x.selector_.map encXRequirement)) := ofc_30 _ _
theorem prt_XService_selector_ (x : XService) : evPart T0 30 13 (encXService x) = some (.lst (x.selector_.map encXRequirement)) := fld_XService_selector_ x
theorem fld_XService_ports_ (x : XService) : ofCells T0 31 ((encXService x).cells.drop 14) = some (.lst (x.ports_.map encXServicePort)) := ofc_31 _ _
theorem prt_XService_ports_ (x : XService) : evPart T0 31 14 (encXService x) = some (.lst (x.ports_.map encXServicePort)) := fld_XService_ports_ x
theorem fld_XService_sticky_ (x : XService) : ofCells T0 4 ((encXService x).cells.drop 15) = some (.b x.sticky_) := ofc_4 _ _
theorem prt_XService_sticky_ (x : XService) : evPart T0 4 15 (encXService x) = some (.b x.sticky_) := fld_XService_sticky_ x
theorem fld_XService_address_ (x : XService) : ofCells T0 3 ((encXService x).cells.drop 16) = some (.i .i64 x.address_) := ofc_3 _ _
theorem prt_XService_address_ (x : XService) : evPart T0 3 16 (encXService x) = some (.i .i64 x.address_) := fld_XService_address_ x
structure XEndpoint where
  pod_ : List UInt8
  node_ : List UInt8
  address_ : Int
  ready_ : Bool
  terminating_ : Bool
  deriving DecidableEq
instance : Inhabited XEndpoint := ⟨⟨[], [], 0, false, false⟩⟩
def encXEndpoint (x : XEndpoint) : AV := .agg [.s x.pod_, .s x.node_, .i .i64 x.address_, .b x.ready_, .b x.terminating_]
def okXEndpoint (x : XEndpoint) : Prop := x.pod_.length ≤ 140737488351232 ∧ x.node_.length ≤ 140737488351232 ∧ (Lit.int .i64 x.address_).wf = true ∧ True ∧ True
theorem clen_XEndpoint (x : XEndpoint) : (encXEndpoint x).cells.length = 5 := rfl
theorem leafs_XEndpoint (x : XEndpoint) : allLeaf (encXEndpoint x).cells = true := rfl
theorem ofc_encXEndpoint (x : XEndpoint) : ofCells T0 54 (encXEndpoint x).cells = some (encXEndpoint x) := by rw [ofc_54]; rfl
theorem ofc0_encXEndpoint (x : XEndpoint) : ofCells T0 54 ((encXEndpoint x).cells.drop 0) = some (encXEndpoint x) := ofc_encXEndpoint x
theorem fld_XEndpoint_pod_ (x : XEndpoint) : ofCells T0 9 ((encXEndpoint x).cells.drop 0) = some (.s x.pod_) := ofc_9 _ _
theorem prt_XEndpoint_pod_ (x : XEndpoint) : evPart T0 9 0 (encXEndpoint x) = some (.s x.pod_) := fld_XEndpoint_pod_ x
theorem fld_XEndpoint_node_ (x : XEndpoint) : ofCells T0 9 ((encXEndpoint x).cells.drop 1) = some (.s x.node_) := ofc_9 _ _
theorem prt_XEndpoint_node_ (x : XEndpoint) : evPart T0 9 1 (encXEndpoint x) = some (.s x.node_) := fld_XEndpoint_node_ x
theorem fld_XEndpoint_address_ (x : XEndpoint) : ofCells T0 3 ((encXEndpoint x).cells.drop 2) = some (.i .i64 x.address_) := ofc_3 _ _
theorem prt_XEndpoint_address_ (x : XEndpoint) : evPart T0 3 2 (encXEndpoint x) = some (.i .i64 x.address_) := fld_XEndpoint_address_ x
theorem fld_XEndpoint_ready_ (x : XEndpoint) : ofCells T0 4 ((encXEndpoint x).cells.drop 3) = some (.b x.ready_) := ofc_4 _ _
theorem prt_XEndpoint_ready_ (x : XEndpoint) : evPart T0 4 3 (encXEndpoint x) = some (.b x.ready_) := fld_XEndpoint_ready_ x
theorem fld_XEndpoint_terminating_ (x : XEndpoint) : ofCells T0 4 ((encXEndpoint x).cells.drop 4) = some (.b x.terminating_) := ofc_4 _ _
theorem prt_XEndpoint_terminating_ (x : XEndpoint) : evPart T0 4 4 (encXEndpoint x) = some (.b x.terminating_) := fld_XEndpoint_terminating_ x
structure XEndpointSet where
  meta_ : XMeta
  ports_ : List (XServicePort)
  items_ : List (XEndpoint)
  deriving DecidableEq
instance : Inhabited XEndpointSet := ⟨⟨default, [], []⟩⟩
def encXEndpointSet (x : XEndpointSet) : AV := .agg [.s x.meta_.kind_, .s x.meta_.namespace_, .s x.meta_.name_, .i .i64 x.meta_.uid_, .i .i64 x.meta_.version_, .i .i64 x.meta_.generation_, .i .i64 x.meta_.created_, .b x.meta_.deleting_, .i .i64 x.meta_.deleteAt_, .lst (x.meta_.labels_.map encXLabel), .lst (x.meta_.owners_.map encXOwner), .lst (x.meta_.finalizers_.map AV.s), .lst (x.meta_.managers_.map encXManager), .lst (x.ports_.map encXServicePort), .lst (x.items_.map encXEndpoint)]
def okXEndpointSet (x : XEndpointSet) : Prop := okXMeta x.meta_ ∧ (x.ports_.length * 32 ≤ 140737488351232 ∧ ∀ z ∈ x.ports_, okXServicePort z) ∧ (x.items_.length * 48 ≤ 140737488351232 ∧ ∀ z ∈ x.items_, okXEndpoint z)
theorem clen_XEndpointSet (x : XEndpointSet) : (encXEndpointSet x).cells.length = 15 := rfl
theorem leafs_XEndpointSet (x : XEndpointSet) : allLeaf (encXEndpointSet x).cells = true := rfl
theorem ofc_encXEndpointSet (x : XEndpointSet) : ofCells T0 36 (encXEndpointSet x).cells = some (encXEndpointSet x) := by rw [ofc_36]; rfl
theorem ofc0_encXEndpointSet (x : XEndpointSet) : ofCells T0 36 ((encXEndpointSet x).cells.drop 0) = some (encXEndpointSet x) := ofc_encXEndpointSet x
theorem fld_XEndpointSet_meta_ (x : XEndpointSet) : ofCells T0 29 ((encXEndpointSet x).cells.drop 0) = some (encXMeta x.meta_) := by rw [ofc_29]; rfl
theorem prt_XEndpointSet_meta_ (x : XEndpointSet) : evPart T0 29 0 (encXEndpointSet x) = some (encXMeta x.meta_) := fld_XEndpointSet_meta_ x
theorem fld_XEndpointSet_ports_ (x : XEndpointSet) : ofCells T0 31 ((encXEndpointSet x).cells.drop 13) = some (.lst (x.ports_.map encXServicePort)) := ofc_31 _ _
theorem prt_XEndpointSet_ports_ (x : XEndpointSet) : evPart T0 31 13 (encXEndpointSet x) = some (.lst (x.ports_.map encXServicePort)) := fld_XEndpointSet_ports_ x
theorem fld_XEndpointSet_items_ (x : XEndpointSet) : ofCells T0 34 ((encXEndpointSet x).cells.drop 14) = some (.lst (x.items_.map encXEndpoint)) := ofc_34 _ _
theorem prt_XEndpointSet_items_ (x : XEndpointSet) : evPart T0 34 14 (encXEndpointSet x) = some (.lst (x.items_.map encXEndpoint)) := fld_XEndpointSet_items_ x
theorem scell (s : List UInt8) : (AV.s s).cells.length = 1 := rfl
theorem slen_map {α : Type} (f : α → AV) (l : List α) : (l.map f).length = l.length := List.length_map ..
/-- What a block gives to a load. -/
def loadB (T : Tab) (t off : Nat) (b : Option AB) : Option AV := match b with
  | some (.cells cs _ _) => if off ≤ cs.length then ofCells T t (cs.drop off) else none
  | _ => none
theorem load_get {T : Tab} {h : Tr AB} {t id off : Nat} : evLoad T h t (.ptr id off) = loadB T t off (h.get id) := by
  unfold evLoad lookIn loadB
  simp only
  generalize h.get id = b
  match b with
  | none => rfl
  | some (.cells cs e g) =>
    simp only
    by_cases q : off ≤ cs.length
    · rw [if_pos q, Nat.ble_eq_true_of_le q]
    · rw [if_neg q]
      have : Nat.ble off cs.length = false := by
        cases hb : Nat.ble off cs.length with
        | false => rfl
        | true => exact absurd (Nat.le_of_ble_eq_true hb) q
      rw [this]
  | some (.map _) => rfl
  | some (.siter _ _) => rfl
theorem loadB_some {T : Tab} {t off : Nat} {cs : List AV} {e : TypeId} {g : Bool} (h : off ≤ cs.length) : loadB T t off (some (.cells cs e g)) = ofCells T t (cs.drop off) := by unfold loadB; simp only; rw [if_pos h]
theorem get_put_same {α : Type} (t : Tr α) (k : Nat) (v : Option α) : (t.put k v).get k = v := by rw [Tr.get_put, if_pos rfl]
theorem get_put_ne {α : Type} (t : Tr α) {k j : Nat} (v : Option α) (h : j ≠ k) : (t.put k v).get j = t.get j := by rw [Tr.get_put, if_neg h]
theorem store_all {T : Tab} {h : Tr AB} {t id : Nat} {cs : List AV} {e z : Nat} {g : Bool} {v : AV} (hz : T.sz t = some z) (hl : v.cells.length = z) (hc : cs.length = z) (ha : allLeaf v.cells = true) : evStore T (h.put id (some (.cells cs e g))) t (.ptr id 0) v = some ((h.put id (some (.cells cs e g))).put id (some (.cells v.cells e g))) := by
  refine store_p hz (get_put_same _ _ _) hl ha ?_
  have : ∀ (a b : List AV), a.length = b.length → setN a 0 b = some b := by
    intro a b
    induction b generalizing a with
    | nil => intro q; cases a with | nil => rfl | cons _ _ => simp at q
    | cons x b ih => intro q; cases a with | nil => simp at q | cons y a => simp [setN, ih a (by simpa using q)]
  exact this _ _ (by omega)
theorem storeA_all {T : Tab} {h : Tr AB} {t id e z : Nat} {cs : List AV} {g : Bool} {v : AV} (hz : T.sz t = some z) (hg : h.get id = some (.cells cs e g)) (hl : v.cells.length = z) (hc : cs.length = z) (ha : allLeaf v.cells = true) : evStore T h t (.ptr id 0) v = some (h.put id (some (.cells v.cells e g))) := by
  refine store_p hz hg hl ha ?_
  have : ∀ (a b : List AV), a.length = b.length → setN a 0 b = some b := by
    intro a b
    induction b generalizing a with
    | nil => intro q; cases a with | nil => rfl | cons _ _ => simp at q
    | cons x b ih => intro q; cases a with | nil => simp at q | cons y a => simp [setN, ih a (by simpa using q)]
  exact this _ _ (by omega)
theorem min5 {T : Tab} {h : Tr AB} {k : IntKind} (ts : List Nat) (a b c d e : Int) : evBuiltin T h .min ts [.i k a, .i k b, .i k c, .i k d, .i k e] = some (.i k (min (min (min (min a b) c) d) e)) := by
  simp only [evBuiltin, fold2, if_true]
  congr 2; omega
theorem stA_XLabel {h : Tr AB} {id e : Nat} {g : Bool} {cs : List AV} (x : XLabel) (hg : h.get id = some (.cells cs e g)) (hc : cs.length = 2) : evStore T0 h 69 (.ptr id 0) (encXLabel x) = some (h.put id (some (.cells (encXLabel x).cells e g))) := storeA_all sz_69 hg rfl hc rfl
theorem st_XLabel {h : Tr AB} {id e : Nat} {g : Bool} (x : XLabel) : evStore T0 (h.put id (some (.cells [.s [], .s []] e g))) 69 (.ptr id 0) (encXLabel x) = some ((h.put id (some (.cells [.s [], .s []] e g))).put id (some (.cells (encXLabel x).cells e g))) := stA_XLabel x (get_put_same _ _ _) rfl
theorem stA_XOwner {h : Tr AB} {id e : Nat} {g : Bool} {cs : List AV} (x : XOwner) (hg : h.get id = some (.cells cs e g)) (hc : cs.length = 5) : evStore T0 h 72 (.ptr id 0) (encXOwner x) = some (h.put id (some (.cells (encXOwner x).cells e g))) := storeA_all sz_72 hg rfl hc rfl
theorem st_XOwner {h : Tr AB} {id e : Nat} {g : Bool} (x : XOwner) : evStore T0 (h.put id (some (.cells [.s [], .s [], .i .i64 0, .b false, .b false] e g))) 72 (.ptr id 0) (encXOwner x) = some ((h.put id (some (.cells [.s [], .s [], .i .i64 0, .b false, .b false] e g))).put id (some (.cells (encXOwner x).cells e g))) := stA_XOwner x (get_put_same _ _ _) rfl
theorem stA_XManager {h : Tr AB} {id e : Nat} {g : Bool} {cs : List AV} (x : XManager) (hg : h.get id = some (.cells cs e g)) (hc : cs.length = 2) : evStore T0 h 76 (.ptr id 0) (encXManager x) = some (h.put id (some (.cells (encXManager x).cells e g))) := storeA_all sz_76 hg rfl hc rfl
theorem st_XManager {h : Tr AB} {id e : Nat} {g : Bool} (x : XManager) : evStore T0 (h.put id (some (.cells [.s [], .nils] e g))) 76 (.ptr id 0) (encXManager x) = some ((h.put id (some (.cells [.s [], .nils] e g))).put id (some (.cells (encXManager x).cells e g))) := stA_XManager x (get_put_same _ _ _) rfl
theorem stA_XMeta {h : Tr AB} {id e : Nat} {g : Bool} {cs : List AV} (x : XMeta) (hg : h.get id = some (.cells cs e g)) (hc : cs.length = 13) : evStore T0 h 29 (.ptr id 0) (encXMeta x) = some (h.put id (some (.cells (encXMeta x).cells e g))) := storeA_all sz_29 hg rfl hc rfl
theorem st_XMeta {h : Tr AB} {id e : Nat} {g : Bool} (x : XMeta) : evStore T0 (h.put id (some (.cells [.s [], .s [], .s [], .i .i64 0, .i .i64 0, .i .i64 0, .i .i64 0, .b false, .i .i64 0, .nils, .nils, .nils, .nils] e g))) 29 (.ptr id 0) (encXMeta x) = some ((h.put id (some (.cells [.s [], .s [], .s [], .i .i64 0, .i .i64 0, .i .i64 0, .i .i64 0, .b false, .i .i64 0, .nils, .nils, .nils, .nils] e g))).put id (some (.cells (encXMeta x).cells e g))) := stA_XMeta x (get_put_same _ _ _) rfl
theorem stA_XRequirement {h : Tr AB} {id e : Nat} {g : Bool} {cs : List AV} (x : XRequirement) (hg : h.get id = some (.cells cs e g)) (hc : cs.length = 3) : evStore T0 h 79 (.ptr id 0) (encXRequirement x) = some (h.put id (some (.cells (encXRequirement x).cells e g))) := storeA_all sz_79 hg rfl hc rfl
theorem st_XRequirement {h : Tr AB} {id e : Nat} {g : Bool} (x : XRequirement) : evStore T0 (h.put id (some (.cells [.s [], .i .i64 0, .nils] e g))) 79 (.ptr id 0) (encXRequirement x) = some ((h.put id (some (.cells [.s [], .i .i64 0, .nils] e g))).put id (some (.cells (encXRequirement x).cells e g))) := stA_XRequirement x (get_put_same _ _ _) rfl
theorem stA_XServicePort {h : Tr AB} {id e : Nat} {g : Bool} {cs : List AV} (x : XServicePort) (hg : h.get id = some (.cells cs e g)) (hc : cs.length = 3) : evStore T0 h 56 (.ptr id 0) (encXServicePort x) = some (h.put id (some (.cells (encXServicePort x).cells e g))) := storeA_all sz_56 hg rfl hc rfl
theorem st_XServicePort {h : Tr AB} {id e : Nat} {g : Bool} (x : XServicePort) : evStore T0 (h.put id (some (.cells [.s [], .i .i64 0, .i .i64 0] e g))) 56 (.ptr id 0) (encXServicePort x) = some ((h.put id (some (.cells [.s [], .i .i64 0, .i .i64 0] e g))).put id (some (.cells (encXServicePort x).cells e g))) := stA_XServicePort x (get_put_same _ _ _) rfl
theorem stA_XService {h : Tr AB} {id e : Nat} {g : Bool} {cs : List AV} (x : XService) (hg : h.get id = some (.cells cs e g)) (hc : cs.length = 17) : evStore T0 h 33 (.ptr id 0) (encXService x) = some (h.put id (some (.cells (encXService x).cells e g))) := storeA_all sz_33 hg rfl hc rfl
theorem st_XService {h : Tr AB} {id e : Nat} {g : Bool} (x : XService) : evStore T0 (h.put id (some (.cells [.s [], .s [], .s [], .i .i64 0, .i .i64 0, .i .i64 0, .i .i64 0, .b false, .i .i64 0, .nils, .nils, .nils, .nils, .nils, .nils, .b false, .i .i64 0] e g))) 33 (.ptr id 0) (encXService x) = some ((h.put id (some (.cells [.s [], .s [], .s [], .i .i64 0, .i .i64 0, .i .i64 0, .i .i64 0, .b false, .i .i64 0, .nils, .nils, .nils, .nils, .nils, .nils, .b false, .i .i64 0] e g))).put id (some (.cells (encXService x).cells e g))) := stA_XService x (get_put_same _ _ _) rfl
theorem stA_XEndpoint {h : Tr AB} {id e : Nat} {g : Bool} {cs : List AV} (x : XEndpoint) (hg : h.get id = some (.cells cs e g)) (hc : cs.length = 5) : evStore T0 h 54 (.ptr id 0) (encXEndpoint x) = some (h.put id (some (.cells (encXEndpoint x).cells e g))) := storeA_all sz_54 hg rfl hc rfl
theorem st_XEndpoint {h : Tr AB} {id e : Nat} {g : Bool} (x : XEndpoint) : evStore T0 (h.put id (some (.cells [.s [], .s [], .i .i64 0, .b false, .b false] e g))) 54 (.ptr id 0) (encXEndpoint x) = some ((h.put id (some (.cells [.s [], .s [], .i .i64 0, .b false, .b false] e g))).put id (some (.cells (encXEndpoint x).cells e g))) := stA_XEndpoint x (get_put_same _ _ _) rfl
theorem stA_XEndpointSet {h : Tr AB} {id e : Nat} {g : Bool} {cs : List AV} (x : XEndpointSet) (hg : h.get id = some (.cells cs e g)) (hc : cs.length = 15) : evStore T0 h 36 (.ptr id 0) (encXEndpointSet x) = some (h.put id (some (.cells (encXEndpointSet x).cells e g))) := storeA_all sz_36 hg rfl hc rfl
theorem st_XEndpointSet {h : Tr AB} {id e : Nat} {g : Bool} (x : XEndpointSet) : evStore T0 (h.put id (some (.cells [.s [], .s [], .s [], .i .i64 0, .i .i64 0, .i .i64 0, .i .i64 0, .b false, .i .i64 0, .nils, .nils, .nils, .nils, .nils, .nils] e g))) 36 (.ptr id 0) (encXEndpointSet x) = some ((h.put id (some (.cells [.s [], .s [], .s [], .i .i64 0, .i .i64 0, .i .i64 0, .i .i64 0, .b false, .i .i64 0, .nils, .nils, .nils, .nils, .nils, .nils] e g))).put id (some (.cells (encXEndpointSet x).cells e g))) := stA_XEndpointSet x (get_put_same _ _ _) rfl
theorem bl_total (a b : List UInt8) : (Op.bytesLess a b || a == b) = !Op.bytesLess b a := by
  induction a generalizing b with
  | nil => cases b <;> simp [Op.bytesLess]
  | cons x a ih =>
    cases b with
    | nil => simp [Op.bytesLess]
    | cons y b =>
      have := ih b
      simp only [Op.bytesLess]
      rcases Nat.lt_trichotomy x.toNat y.toNat with q | q | q
      · have h1 : x < y := q
        have h2 : ¬ y < x := fun h => absurd (show y.toNat < x.toNat from h) (by omega)
        have h3 : (y == x) = false := by simp; rintro rfl; omega
        simp [h1, h2, h3]
      · obtain rfl : x = y := UInt8.toNat_inj.1 q
        have h2 : ¬ x < x := fun h => absurd (show x.toNat < x.toNat from h) (by omega)
        simp [h2] at this ⊢
        rw [← this]
      · have h1 : y < x := q
        have h2 : ¬ x < y := fun h => absurd (show x.toNat < y.toNat from h) (by omega)
        have h3 : (x == y) = false := by simp; rintro rfl; omega
        simp [h1, h2, h3]
theorem b_sle {T : Tab} {t : Nat} (a b : List UInt8) (c : Bool) : evBin T .leq t c (.s a) (.s b) = some (.b (!Op.bytesLess b a)) := by rw [bin_sle, bl_total]
theorem b_sgt {T : Tab} {t : Nat} (a b : List UInt8) (c : Bool) : evBin T .gtr t c (.s a) (.s b) = some (.b (Op.bytesLess b a)) := by rw [bin_sgt, bl_total, Bool.not_not]
theorem b_seq {T : Tab} {t : Nat} (a b : List UInt8) (c : Bool) : evBin T .eql t c (.s a) (.s b) = some (.b (decide (a = b))) := by rw [bin_seq]; congr 2; rw [Bool.eq_iff_iff]; simp
theorem b_sne {T : Tab} {t : Nat} (a b : List UInt8) (c : Bool) : evBin T .neq t c (.s a) (.s b) = some (.b (!decide (a = b))) := by rw [bin_sne]; congr 3; rw [Bool.eq_iff_iff]; simp
theorem b_snil {T : Tab} {t : Nat} (a : List UInt8) (c : Bool) : evBin T .eql t c (.s a) (.s []) = some (.b (decide (a.length = 0))) := by rw [b_seq]; congr 2; rw [Bool.eq_iff_iff]; simp [List.length_eq_zero_iff]
theorem b_snnil {T : Tab} {t : Nat} (a : List UInt8) (c : Bool) : evBin T .neq t c (.s a) (.s []) = some (.b (!decide (a.length = 0))) := by rw [b_sne]; congr 3; rw [Bool.eq_iff_iff]; simp [List.length_eq_zero_iff]
theorem ofc_s (x : List UInt8) : ofCells T0 9 (AV.s x).cells = some (.s x) := ofc_9 _ _
/- slices 24:69 25:72 26:9 27:76 30:79 31:56 34:54 22:33 -/
end Go.Proofs.YtbcikhbepldjhaaDoor.Ev
