/- The law ServiceFair. -/
import Derived.Test.YtbcikhbepldjhaaDoorV7
namespace Go.Proofs.YtbcikhbepldjhaaDoor.Ev
open Go Go.RowKit
set_option linter.unusedSimpArgs false
set_option linter.unusedVariables false
set_option maxRecDepth 100000

def z33 : AV := .agg [.s [], .s [], .s [], .i .i64 0, .i .i64 0, .i .i64 0, .i .i64 0, .b false, .i .i64 0, .nilz true, .nilz true, .nilz true, .nilz true, .nilz true, .nilz true, .b false, .i .i64 0]
theorem build_33 : evBuild T0 33 [] = some z33 := by kernel_rfl
theorem e8z {e : XEndpointSet} (he : e.items_.length ≤ 140737488351232) {d : Nat} {σ : AS} {K : AV → AS → Prop} : oC T0 d 8 [.nilz true, z33, encXEndpointSet e] σ K = K (.b (heavyB [] default e)) σ :=
  (R.of_norm (T := T0) (f := 8) (args := [.nilz true, z33, encXEndpointSet e]) (by kernel_rfl) (by kernel_rfl) (by kernel_rfl) rfl rfl rfl (c8 [] default e (by simp) (by decide) he)).eq d σ K
def plainS : XService := { stickyS with sticky_ := false }
theorem stF {h : Tr AB} {id : Nat} : evStore T0 (h.put id (some (.cells (encXService stickyS).cells 33 false))) 4 (.ptr id 15) (.b false) = some ((h.put id (some (.cells (encXService stickyS).cells 33 false))).put id (some (.cells (encXService plainS).cells 33 false))) :=
  store_p sz_4 (get_put_same _ _ _) rfl rfl rfl
theorem repN_one (x : AV) (n : Nat) : repN [x] n = List.replicate n x := by
  induction n with
  | zero => rfl
  | succ n ih => unfold repN; rw [ih]; rfl
theorem mk_50 {n : Nat} (hn : n ≤ 1000000) : evMake T0 50 (.i .i64 (n : Nat)) (.i .i64 (n : Nat)) = some (.cells (List.replicate n (AV.b false)) 4 false, fun id => .sl id 0 n (some n)) := by
  have e1 : T0.ty 50 = some (.slice 4) := by kernel_rfl
  have e3 : T0.zr 4 = some (.b false) := by kernel_rfl
  have e4 : T0.by_ 4 = some 1 := by kernel_rfl
  unfold evMake
  simp only [e1, sz_4, e3, e4]
  rw [if_pos ⟨by omega, by omega, by omega, by omega⟩]
  simp only [Int.toNat_natCast, AV.cells, repN_one]
theorem conv_16 {h : Tr AB} {x : Int} (h0 : 0 ≤ x) (h1 : x ≤ 65535) : evConv T0 h 49 3 (.i .u16 x) = some (.i .i64 x) := by
  have e1 : T0.ty 49 = some (.int .u16) := by kernel_rfl
  have e2 : T0.ty 3 = some (.int .i64) := by kernel_rfl
  have e3 := wr64 (x := x) (by omega) (by omega)
  simp [evConv, e1, e2, e3]
theorem ia_50o {id n : Nat} {cap : Option Nat} {j : Nat} (h : j < n) : evIndexAddr T0 50 (.sl id 0 n cap) (.i .i64 (j : Nat)) = some (.ptr id j) := by
  have e1 : T0.ty 50 = some (.slice 4) := by kernel_rfl
  unfold evIndexAddr
  simp only [e1, sz_4]
  rw [if_pos ⟨by omega, by omega⟩]
  simp
theorem set_one {α : Type} : ∀ (cs : List α) (j : Nat) (v : α), j < cs.length → setN cs j [v] = some (cs.set j v)
  | c :: cs, 0, v, _ => by simp [setN]
  | c :: cs, j + 1, v, h => by simp only [setN, set_one cs j v (by simpa using h)]; rfl
/-- Which addresses were given out. -/
def seenB (f m j a : Nat) : Bool := (List.range j).any (fun i => decide ((f + i) % m + 1 = a))
def seenL (f m j : Nat) : List AV := (List.range (m + 1)).map (fun a => AV.b (seenB f m j a))
theorem seenL_len (f m j : Nat) : (seenL f m j).length = m + 1 := by simp [seenL]
theorem seenB_succ (f m j a : Nat) : seenB f m (j + 1) a = (seenB f m j a || decide ((f + j) % m + 1 = a)) := by
  unfold seenB
  rw [List.range_succ, List.any_append]; simp
theorem seenL_set (f m j : Nat) (hm : 0 < m) : (seenL f m j).set ((f + j) % m + 1) (.b true) = seenL f m (j + 1) := by
  refine List.ext_getElem? fun a => ?_
  rw [List.getElem?_set]
  unfold seenL
  simp only [List.length_map, List.length_range, List.getElem?_map]
  by_cases ha : a < m + 1
  · rw [List.getElem?_range ha]
    simp only [Option.map_some, seenB_succ]
    by_cases e : (f + j) % m + 1 = a
    · rw [if_pos e]; subst e; simp [ha]
    · rw [if_neg e, decide_eq_false e, Bool.or_false]
  · rw [List.getElem?_eq_none (by simp; omega)]
    have := Nat.mod_lt (f + j) hm
    rw [if_neg (by omega)]
    rfl
theorem mod_ne {f m i j : Nat} (hij : i < j) (hj : j < m) (h : (f + i) % m = (f + j) % m) : False := by
  have h1 : (f + j - (f + i)) % m = 0 := Nat.sub_mod_eq_zero_of_mod_eq h.symm
  have h2 : f + j - (f + i) = j - i := by omega
  rw [h2, Nat.mod_eq_of_lt (by omega)] at h1
  omega
theorem seen_no {f m j : Nat} (hj : j < m) : seenB f m j ((f + j) % m + 1) = false := by
  unfold seenB
  rw [List.any_eq_false]
  intro i hi
  rw [List.mem_range] at hi
  simp only [decide_eq_true_eq]
  intro e
  exact mod_ne (f := f) (m := m) hi hj (by omega)
theorem ld_seen {f m j : Nat} (hj : j < m) : ofCells T0 4 ((seenL f m j).drop ((f + j) % m + 1)) = some (.b false) := by
  have hlt := Nat.mod_lt (f + j) (show 0 < m by omega)
  have hg : (seenL f m j)[(f + j) % m + 1]? = some (.b false) := by
    unfold seenL
    rw [List.getElem?_map, List.getElem?_range (by omega)]
    simp only [Option.map_some, seen_no hj]
  obtain ⟨hl, he⟩ := List.getElem?_eq_some_iff.1 hg
  rw [List.drop_eq_getElem_cons hl, he]
  exact ofc_4 _ _
theorem route_fair (pods : List (List UInt8)) (client : Int) (f j : Nat) (hm : 0 < pods.length) :
    routeAV plainS (setOf (readyOf pods)) 1 client ((f : Int) + (j : Int)) = .tup [.i .i64 (((f + j) % pods.length + 1 : Nat) : Int), .i .i64 2, .b true] := by
  have hc : cand (setOf (readyOf pods)).items_ = readyOf pods := cand_ready pods hm
  have hl : (readyOf pods).length = pods.length := readyTo_len pods pods.length
  have hi : idxP 1 plainS.ports_ = 0 := rfl
  have hk : pickK plainS (readyOf pods) client ((f : Int) + (j : Int)) = (f + j) % pods.length := by
    unfold pickK
    rw [if_neg (by decide), hl]
    congr 1
  have hlt := Nat.mod_lt (f + j) hm
  unfold routeAV
  rw [hc, hi, hk, if_pos ⟨by decide, by omega⟩, readyOf_at pods hlt]
  rfl
theorem law_ServiceFair (pods : List (List UInt8)) (fr client : Int) (op : pods.length * 16 ≤ 140737488351232 ∧ ∀ z ∈ pods, z.length ≤ 140737488351232) (o1 : (Lit.int .u16 fr).wf = true) (o2 : (Lit.int .i64 client).wf = true) (hb : pods.length ≤ 1048576) :
    R T0 6 [.lst (pods.map AV.s), .i .u16 fr, .i .i64 client] (.b true) := by
  obtain ⟨c0, c1⟩ := wf64 o2
  obtain ⟨f0, f1⟩ : 0 ≤ fr ∧ fr ≤ 65535 := by
    have h' : (decide ((0 : Int) ≤ fr) && decide (fr ≤ (65535 : Int))) = true := o1
    simpa using h'
  obtain ⟨f, rfl⟩ : ∃ f : Nat, fr = f := ⟨fr.toNat, by omega⟩
  have hl : (readyOf pods).length = pods.length := readyTo_len pods pods.length
  have hil : (setOf (readyOf pods)).items_.length ≤ 140737488351232 := by show (readyOf pods).length ≤ _; omega
  refine r6 _ _ _ rfl rfl ?_
  unfold w6
  dsimp only [prims]
  rw [e16 (by omega) op.2]
  simp (disch := first | omega | assumption | exact scell | exact clen_XLabel | exact clen_XOwner | exact clen_XManager | exact clen_XMeta | exact clen_XRequirement | exact clen_XServicePort | exact clen_XService | exact clen_XEndpoint | exact clen_XEndpointSet | (simp only [clen_XLabel, clen_XOwner, clen_XManager, clen_XMeta, clen_XRequirement, clen_XServicePort, clen_XService, clen_XEndpoint, clen_XEndpointSet]; omega)) only [oN_eq, oV_some', st_XEndpointSet, oH_some, build_33, load_get, get_put_ne, get_put_same, loadB_some, ofc0_encXEndpointSet, Nat.zero_add, Nat.zero_le, e8z]
  cases hh : heavyB [] default (setOf (readyOf pods))
  · obtain ⟨k1, _, _, k4⟩ := heavy_no hh
    have k4' : pods.length ≤ 30 := by rw [← hl]; exact k4
    have m4 : (setOf (readyOf pods)).items_.length ≤ 1000 := by omega
    have k1' : ∀ x ∈ (setOf (readyOf pods)).items_, x.pod_.length ≤ 140737488351232 := fun x hx => by have := k1 x hx; omega
    have m3 : plainS.ports_.length ≤ 1000 := by decide
    rw [oI_false]
    have hm1 : ((pods.length : Nat) : Int) + 1 = ((pods.length + 1 : Nat) : Int) := by omega
    simp (disch := first | omega | assumption | exact scell | exact clen_XLabel | exact clen_XOwner | exact clen_XManager | exact clen_XMeta | exact clen_XRequirement | exact clen_XServicePort | exact clen_XService | exact clen_XEndpoint | exact clen_XEndpointSet | (simp only [clen_XLabel, clen_XOwner, clen_XManager, clen_XMeta, clen_XRequirement, clen_XServicePort, clen_XService, clen_XEndpoint, clen_XEndpointSet]; omega)) only [e17, oN_eq, st_XService, oH_some, off_p, Nat.zero_add, oV_some', stF, len_26, slen_map, bin_add, wr64, hm1, mk_50, oE_some]
    refine loop7 (X := Nat) (fun _ => .sl 2 0 (pods.length + 1) (some (pods.length + 1))) (fun _ => .lst (pods.map AV.s)) (fun _ => .i .u16 (f : Nat)) (fun _ => .i .i64 client) (fun _ => .ptr 0 0) (fun _ => .ptr 1 0) (fun j => .i .i64 (j : Nat))
      (fun j σ => j ≤ pods.length ∧ σ.h.get 0 = some (.cells (encXEndpointSet (setOf (readyOf pods))).cells 36 false) ∧ σ.h.get 1 = some (.cells (encXService plainS).cells 33 false) ∧ σ.h.get 2 = some (.cells (seenL f pods.length j) 4 false)) (fun j => pods.length - j) ?_ 0 _
      ⟨Nat.zero_le _, by simp (disch := omega) only [get_put_ne, get_put_same], by simp (disch := omega) only [get_put_ne, get_put_same], by
        rw [get_put_same]; congr 2
        unfold seenL
        refine List.ext_getElem? fun a => ?_
        rw [List.getElem?_map, List.getElem?_replicate]
        by_cases ha : a < pods.length + 1
        · rw [if_pos ha, List.getElem?_range ha]; rfl
        · rw [if_neg ha, List.getElem?_eq_none (by simp; omega)]; rfl⟩
    rintro R j σ ⟨hj, hb0, hb1, hb2⟩ hR
    simp (disch := first | omega | assumption | exact scell | exact clen_XLabel | exact clen_XOwner | exact clen_XManager | exact clen_XMeta | exact clen_XRequirement | exact clen_XServicePort | exact clen_XService | exact clen_XEndpoint | exact clen_XEndpointSet | (simp only [clen_XLabel, clen_XOwner, clen_XManager, clen_XMeta, clen_XRequirement, clen_XServicePort, clen_XService, clen_XEndpoint, clen_XEndpointSet]; omega)) only [oV_some', len_26, slen_map, bin_lt]
    refine oI_decd (fun h => ?_) (fun h => ?_)
    · have hj' : j < pods.length := by omega
      have hr := route_fair pods client f j (by omega)
      have hlt := Nat.mod_lt (f + j) (show 0 < pods.length by omega)
      simp (disch := first | omega | assumption | exact scell | exact clen_XLabel | exact clen_XOwner | exact clen_XManager | exact clen_XMeta | exact clen_XRequirement | exact clen_XServicePort | exact clen_XService | exact clen_XEndpoint | exact clen_XEndpointSet | (simp only [clen_XLabel, clen_XOwner, clen_XManager, clen_XMeta, clen_XRequirement, clen_XServicePort, clen_XService, clen_XEndpoint, clen_XEndpointSet]; omega)) only [oV_some', load_get, hb0, hb1, loadB_some, ofc0_encXEndpointSet, ofc0_encXService, Nat.zero_le, conv_16, bin_add, wr64, e14, hr]
      generalize ha : (f + j) % pods.length + 1 = a at hlt
      have x0 : evExtract 0 (.tup [.i .i64 (a : Nat), .i .i64 2, .b true]) = some (.i .i64 (a : Nat)) := rfl
      have x1 : evExtract 1 (.tup [.i .i64 (a : Nat), .i .i64 2, .b true]) = some (.i .i64 2) := rfl
      have x2 : evExtract 2 (.tup [.i .i64 (a : Nat), .i .i64 2, .b true]) = some (.b true) := rfl
      have d1 : decide (((a : Nat) : Int) < 1) = false := decide_eq_false (by omega)
      have d2 : decide (((pods.length : Nat) : Int) < (a : Nat)) = false := decide_eq_false (by omega)
      have d3 : decide ((2 : Int) ≠ 2) = false := by decide
      have ld : ofCells T0 4 ((seenL f pods.length j).drop a) = some (.b false) := by rw [← ha]; exact ld_seen hj'
      have hal : a ≤ (seenL f pods.length j).length := by rw [seenL_len]; omega
      have st : evStore T0 σ.h 4 (.ptr 2 a) (.b true) = some (σ.h.put 2 (some (.cells (seenL f pods.length (j + 1)) 4 false))) := by
        rw [← seenL_set f pods.length j (by omega), ha]
        exact store_p sz_4 hb2 rfl rfl (set_one _ a _ (by rw [seenL_len]; omega))
      simp (disch := first | exact hal | first | omega | assumption | exact scell | exact clen_XLabel | exact clen_XOwner | exact clen_XManager | exact clen_XMeta | exact clen_XRequirement | exact clen_XServicePort | exact clen_XService | exact clen_XEndpoint | exact clen_XEndpointSet | (simp only [clen_XLabel, clen_XOwner, clen_XManager, clen_XMeta, clen_XRequirement, clen_XServicePort, clen_XService, clen_XEndpoint, clen_XEndpointSet]; omega)) only [x0, x1, x2, oV_some', un_not, Bool.not_true, gff_2, gff_4, bin_ne, bin_lt, bin_gt, d1, d2, d3, pick_f, len_26, slen_map, ia_50o, load_get, hb2, loadB_some, ld, oI_false, st, oH_some, bin_add, wr64]
      refine hR (j + 1) _ ⟨by omega, ?_, ?_, get_put_same _ _ _⟩ (by omega)
      · rw [get_put_ne _ _ (by decide)]; exact hb0
      · rw [get_put_ne _ _ (by decide)]; exact hb1
    · rw [e9, oZ_b]
  · rw [oI_true, e9, oZ_b]
end Go.Proofs.YtbcikhbepldjhaaDoor.Ev
