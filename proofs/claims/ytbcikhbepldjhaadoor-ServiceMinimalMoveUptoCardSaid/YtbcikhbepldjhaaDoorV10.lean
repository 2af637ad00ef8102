/- The law ServiceMinimalMove. -/
import Derived.Test.YtbcikhbepldjhaaDoorV9
namespace Go.Proofs.YtbcikhbepldjhaaDoor.Ev
open Go Go.RowKit
set_option linter.unusedSimpArgs false
set_option linter.unusedVariables false
set_option maxRecDepth 100000

theorem conv_8 {h : Tr AB} {x : Int} (h0 : 0 ≤ x) (h1 : x ≤ 255) : evConv T0 h 5 3 (.i .u8 x) = some (.i .i64 x) := by
  have e1 : T0.ty 5 = some (.int .u8) := by kernel_rfl
  have e2 : T0.ty 3 = some (.int .i64) := by kernel_rfl
  have e3 := wr64 (x := x) (by omega) (by omega)
  simp [evConv, e1, e2, e3]
theorem sl_take (l : List XEndpoint) {k : Nat} (h : k ≤ l.length) : evSlice T0 34 (.lst (l.map encXEndpoint)) none (some (.i .i64 (k : Nat))) none = some (.lst ((l.take k).map encXEndpoint)) := by
  have ha : allLen 5 (l.map encXEndpoint) = true := allLen_map (enc := encXEndpoint) clen_XEndpoint l
  simp [evSlice, elE.ty, elE.sz, bounds3, bnd0, bnd, h, ha]
theorem sl_drop (l : List XEndpoint) {k : Nat} (h : k ≤ l.length) : evSlice T0 34 (.lst (l.map encXEndpoint)) (some (.i .i64 (k : Nat))) none none = some (.lst ((l.drop k).map encXEndpoint)) := by
  have ha : allLen 5 (l.map encXEndpoint) = true := allLen_map (enc := encXEndpoint) clen_XEndpoint l
  simp [evSlice, elE.ty, elE.sz, bounds3, bnd0, bnd, h, ha]
  rw [List.take_of_length_le (by simp)]
theorem two_app {h : Tr AB} {n : Nat} (x y : List XEndpoint) (hx : x.length ≤ 1000) (hy : y.length ≤ 1000) (hne : 1 ≤ x.length + y.length) (hn : 2 ≤ n) (hg : h.get 1 = some (.cells [] 54 false)) :
    ∃ v1 σ1 id σ2, evAppend T0 ⟨h, n⟩ 34 34 (.sl 1 0 0 (some 0)) (.lst (x.map encXEndpoint)) = some (v1, σ1) ∧ σ1.h.get 0 = h.get 0 ∧ evAppend T0 σ1 34 34 v1 (.lst (y.map encXEndpoint)) = some (.sl id 0 (x.length + y.length) none, σ2) ∧ σ2.h.get 0 = h.get 0 ∧ 2 ≤ σ2.n ∧ Own encXEndpoint 54 σ2.h σ2.n (x ++ y) (some id) := by
  by_cases hx0 : x.length = 0
  · have hxn : x = [] := List.length_eq_zero_iff.1 hx0
    subst hxn
    have a0 := app_first (h := h) (n := n) (id := 1) ([] : List XEndpoint) hg (by simp)
    rw [if_pos (show ([] : List XEndpoint).length = 0 from rfl)] at a0
    have b0 := app_first (h := h) (n := n) (id := 1) y hg hy
    rw [if_neg (by simp at hne; omega)] at b0
    refine ⟨_, _, n, _, a0, rfl, (by rw [List.length_nil, Nat.zero_add]; exact b0), ?_, ?_, ?_⟩
    · rw [get_put_ne _ _ (by omega)]
    · dsimp only; omega
    · refine ⟨?_, by dsimp only; omega, get_put_same _ _ _⟩
      intro e; simp at e; subst e; simp at hne
  · have a1 := app_first (h := h) (n := n) (id := 1) x hg hx
    rw [if_neg hx0] at a1
    by_cases hy0 : y.length = 0
    · have hyn : y = [] := List.length_eq_zero_iff.1 hy0
      subst hyn
      refine ⟨_, _, n, _, a1, by rw [get_put_ne _ _ (by omega)], (by rw [app_more x [] (get_put_same _ _ _) hx (by simp)]; rfl), by rw [get_put_ne _ _ (by omega)], by dsimp only; omega, ?_⟩
      refine ⟨fun e => by rw [List.append_nil] at e; rw [e] at hx0; exact hx0 rfl, by dsimp only; omega, ?_⟩
      rw [get_put_same, List.append_nil]
    · have a2 := app_more (h := h.put n (some (.cells (rowsOf encXEndpoint x) 54 true))) (n := n + 1) (id := n) x y (get_put_same _ _ _) hx hy
      rw [if_neg hy0] at a2
      refine ⟨_, _, n + 1, _, a1, by rw [get_put_ne _ _ (by omega)], a2, ?_, by dsimp only; omega, ?_⟩
      · rw [get_put_ne _ _ (by omega), get_put_ne _ _ (by omega), get_put_ne _ _ (by omega)]
      · refine ⟨fun e => ?_, by dsimp only; omega, get_put_same _ _ _⟩
        have := congrArg List.length e
        rw [List.length_append, List.length_nil] at this; omega
theorem build_36 (id n : Nat) : evBuild T0 36 [(2, .sl id 0 n none)] = some (.agg (z15 (.sl id 0 n none))) := by kernel_rfl
theorem route_sticky (l : List XEndpoint) (c : Int) (hc : cand l = l) (hl : 0 < l.length) : routeAV stickyS (setOf l) 1 c 0 = .tup [.i .i64 (l.getD (bestAt c l (l.length - 1)) default).address_, .i .i64 2, .b true] := by
  have h1 : cand (setOf l).items_ = l := hc
  have hi : idxP 1 stickyS.ports_ = 0 := rfl
  have hk : pickK stickyS l c 0 = bestAt c l (l.length - 1) := by unfold pickK; rw [if_pos (show stickyS.sticky_ = true from rfl)]
  unfold routeAV
  rw [h1, hi, hk, if_pos ⟨by decide, hl⟩]
  rfl
theorem cand_sub (pods : List (List UInt8)) {l : List XEndpoint} (hs : ∀ x ∈ l, x ∈ readyOf pods) (hl : 0 < l.length) : cand l = l := by
  have : readyL l = l := by
    unfold readyL
    rw [List.filter_eq_self]
    intro x hx
    have hx := hs x hx
    unfold readyOf readyTo at hx
    rw [List.mem_map] at hx
    obtain ⟨i, _, rfl⟩ := hx
    rfl
  unfold cand
  rw [this, if_pos hl]
theorem erase_at {α : Type} (l : List α) (g j : Nat) (d : α) : (l.eraseIdx g).getD j d = if j < g then l.getD j d else l.getD (j + 1) d := by
  rw [List.getD_eq_getElem?_getD, List.getElem?_eraseIdx]
  split <;> simp [List.getD_eq_getElem?_getD]
/-- The plain law. -/
theorem move_law (pods : List (List UInt8)) (c : Int) {g : Nat} (hg : g < pods.length) (h2 : 2 ≤ pods.length) :
    ∃ a b : Nat, ((readyOf pods).getD (bestAt c (readyOf pods) ((readyOf pods).length - 1)) default).address_ = (a : Int) ∧ (((readyOf pods).eraseIdx g).getD (bestAt c ((readyOf pods).eraseIdx g) (((readyOf pods).eraseIdx g).length - 1)) default).address_ = (b : Int) ∧ (a = g + 1 ∨ a = b) ∧ b ≠ g + 1 := by
  have hl : (readyOf pods).length = pods.length := readyTo_len pods pods.length
  have hel : ((readyOf pods).eraseIdx g).length = pods.length - 1 := by rw [List.length_eraseIdx_of_lt (by omega), hl]
  have adr : ∀ j, j < pods.length → ((readyOf pods).getD j default).address_ = ((j + 1 : Nat) : Int) := fun j hj => by rw [readyOf_at pods hj]; rfl
  have hb := bestAt_le c (readyOf pods) ((readyOf pods).length - 1)
  have hb2 := bestAt_le c ((readyOf pods).eraseIdx g) (((readyOf pods).eraseIdx g).length - 1)
  by_cases e : bestAt c (readyOf pods) ((readyOf pods).length - 1) = g
  · rw [e, erase_at]
    by_cases q : bestAt c ((readyOf pods).eraseIdx g) (((readyOf pods).eraseIdx g).length - 1) < g
    · rw [if_pos q]
      exact ⟨_, _, adr g hg, adr _ (by omega), .inl rfl, by omega⟩
    · rw [if_neg q]
      exact ⟨_, _, adr g hg, adr _ (by omega), .inl rfl, by omega⟩
  · rw [move_min c (readyOf pods) (by omega) (by omega) e]
    exact ⟨_, _, adr _ (by omega), adr _ (by omega), .inr rfl, by omega⟩
theorem law_ServiceMinimalMove (pods : List (List UInt8)) (gone client : Int) (op : pods.length * 16 ≤ 140737488351232 ∧ ∀ z ∈ pods, z.length ≤ 140737488351232) (o1 : (Lit.int .u8 gone).wf = true) (o2 : (Lit.int .i64 client).wf = true) (hb : pods.length ≤ 1048576) :
    R T0 5 [.lst (pods.map AV.s), .i .u8 gone, .i .i64 client] (.b true) := by
  obtain ⟨c0, c1⟩ := wf64 o2
  obtain ⟨f0, f1⟩ : 0 ≤ gone ∧ gone ≤ 255 := by
    have h' : (decide ((0 : Int) ≤ gone) && decide (gone ≤ (255 : Int))) = true := o1
    simpa using h'
  obtain ⟨gn, rfl⟩ : ∃ f : Nat, gone = f := ⟨gone.toNat, by omega⟩
  have hl : (readyOf pods).length = pods.length := readyTo_len pods pods.length
  have hil : (setOf (readyOf pods)).items_.length ≤ 140737488351232 := by show (readyOf pods).length ≤ _; omega
  have fi : ofCells T0 34 ((encXEndpointSet (setOf (readyOf pods))).cells.drop 14) = some (.lst ((readyOf pods).map encXEndpoint)) := fld_XEndpointSet_items_ (setOf (readyOf pods))
  refine r5 _ _ _ rfl rfl ?_
  unfold w5
  dsimp only [prims]
  rw [e16 (by omega) op.2]
  simp (disch := first | omega | assumption | exact scell | exact clen_XLabel | exact clen_XOwner | exact clen_XManager | exact clen_XMeta | exact clen_XRequirement | exact clen_XServicePort | exact clen_XService | exact clen_XEndpoint | exact clen_XEndpointSet | (simp only [clen_XLabel, clen_XOwner, clen_XManager, clen_XMeta, clen_XRequirement, clen_XServicePort, clen_XService, clen_XEndpoint, clen_XEndpointSet]; omega)) only [oN_eq, oV_some', st_XEndpointSet, oH_some, build_33, load_get, get_put_ne, get_put_same, loadB_some, ofc0_encXEndpointSet, Nat.zero_add, Nat.zero_le, e8z, len_26, slen_map, bin_lt, guard3f, pick_or]
  by_cases hc : (heavyB [] default (setOf (readyOf pods)) || decide (((pods.length : Nat) : Int) < 2)) = true
  · rw [hc, oI_true, e9, oZ_b]
  · have hc : (heavyB [] default (setOf (readyOf pods)) || decide (((pods.length : Nat) : Int) < 2)) = false := by simpa using hc
    rw [hc, oI_false]
    simp only [Bool.or_eq_false_iff, decide_eq_false_iff_not] at hc
    obtain ⟨hh, hm2⟩ := hc
    have hm2 : 2 ≤ pods.length := by omega
    obtain ⟨k1, _, _, k4⟩ := heavy_no hh
    have k4' : pods.length ≤ 30 := by rw [← hl]; exact k4
    have m4 : (setOf (readyOf pods)).items_.length ≤ 1000 := by omega
    have k1' : ∀ x ∈ (setOf (readyOf pods)).items_, x.pod_.length ≤ 140737488351232 := fun x hx => by have := k1 x hx; omega
    have hz : ¬ ((pods.length : Nat) : Int) = 0 := by omega
    have ht : Int.tmod (gn : Int) ((pods.length : Nat) : Int) = ((gn % pods.length : Nat) : Int) := rfl
    have hg := Nat.mod_lt gn (show 0 < pods.length by omega)
    simp (disch := first | exact hz | first | omega | assumption | exact scell | exact clen_XLabel | exact clen_XOwner | exact clen_XManager | exact clen_XMeta | exact clen_XRequirement | exact clen_XServicePort | exact clen_XService | exact clen_XEndpoint | exact clen_XEndpointSet | (simp only [clen_XLabel, clen_XOwner, clen_XManager, clen_XMeta, clen_XRequirement, clen_XServicePort, clen_XService, clen_XEndpoint, clen_XEndpointSet]; omega)) only [conv_8, oV_some', bin_rem, ht, lit_0, oE_some, oN_eq, off_p, Nat.zero_add, load_get, get_put_ne, get_put_same, loadB_some, fi]
    generalize gn % pods.length = g at hg
    have hl1 : ((g : Nat) : Int) + 1 = ((g + 1 : Nat) : Int) := by omega
    rw [sl_take _ (by omega), oV_some']
    obtain ⟨v1, σ1, id, σ2, a1, g1, a2, g2, hn2, ho⟩ := two_app ((readyOf pods).take g) ((readyOf pods).drop (g + 1)) (by simp; omega) (by simp; omega) (by simp; omega) (Nat.le_refl 2) (get_put_same (((Tr.nil : Tr AB).put 0 (some (.cells [.s [], .s [], .s [], .i .i64 0, .i .i64 0, .i .i64 0, .i .i64 0, .b false, .i .i64 0, .nils, .nils, .nils, .nils, .nils, .nils] 36 false))).put 0 (some (.cells (encXEndpointSet (setOf (readyOf pods))).cells 36 false))) 1 (some (.cells [] 54 false)))
    have g0 : σ1.h.get 0 = some (.cells (encXEndpointSet (setOf (readyOf pods))).cells 36 false) := by rw [g1, get_put_ne _ _ (by decide), get_put_same]
    have g0' : σ2.h.get 0 = some (.cells (encXEndpointSet (setOf (readyOf pods))).cells 36 false) := by rw [g2, get_put_ne _ _ (by decide), get_put_same]
    have hap : (readyOf pods).take g ++ (readyOf pods).drop (g + 1) = (readyOf pods).eraseIdx g := (List.eraseIdx_eq_take_drop_succ _ _).symm
    have hlen : ((readyOf pods).take g).length + ((readyOf pods).drop (g + 1)).length = ((readyOf pods).eraseIdx g).length := by rw [← hap, List.length_append]
    rw [hap] at ho
    rw [hlen] at a2
    erw [a1]
    rw [oM_some]
    simp (disch := first | omega | assumption | exact scell | exact clen_XLabel | exact clen_XOwner | exact clen_XManager | exact clen_XMeta | exact clen_XRequirement | exact clen_XServicePort | exact clen_XService | exact clen_XEndpoint | exact clen_XEndpointSet | (simp only [clen_XLabel, clen_XOwner, clen_XManager, clen_XMeta, clen_XRequirement, clen_XServicePort, clen_XService, clen_XEndpoint, clen_XEndpointSet]; omega)) only [oV_some', off_p, Nat.zero_add, load_get, g0, loadB_some, fi, bin_add, wr64, hl1]
    rw [sl_drop _ (by omega), oV_some', a2, oM_some, build_36]
    have m3 : stickyS.ports_.length ≤ 1000 := by decide
    have hcr : cand ((readyOf pods).eraseIdx g) = (readyOf pods).eraseIdx g := cand_sub pods (fun x hx => List.mem_of_mem_eraseIdx hx) (by rw [← hlen]; simp; omega)
    generalize hrest : (readyOf pods).eraseIdx g = rest at *
    have hrl : 0 < rest.length := by rw [← hlen]; simp; omega
    have hrl2 : rest.length ≤ 1000 := by rw [← hlen]; simp; omega
    have hst : ∀ (h : Tr AB) (id2 : Nat), evStore T0 (h.put id2 (some (.cells [.s [], .s [], .s [], .i .i64 0, .i .i64 0, .i .i64 0, .i .i64 0, .b false, .i .i64 0, .nilz true, .nilz true, .nilz true, .nilz true, .nilz true, .nilz true] 36 false))) 36 (.ptr id2 0) (.agg (z15 (.sl id 0 rest.length none))) = some ((h.put id2 (some (.cells [.s [], .s [], .s [], .i .i64 0, .i .i64 0, .i .i64 0, .i .i64 0, .b false, .i .i64 0, .nilz true, .nilz true, .nilz true, .nilz true, .nilz true, .nilz true] 36 false))).put id2 (some (.cells (z15 (.sl id 0 rest.length none)) 36 false))) :=
      fun h id2 => storeA_all sz_36 (get_put_same _ _ _) rfl rfl rfl
    have ld0 : ∀ v, ofCells T0 36 ((z15 v).drop 0) = some (.agg (z15 v)) := fun v => by rw [ofc_36]; rfl
    simp (disch := first | omega | assumption | exact scell | exact clen_XLabel | exact clen_XOwner | exact clen_XManager | exact clen_XMeta | exact clen_XRequirement | exact clen_XServicePort | exact clen_XService | exact clen_XEndpoint | exact clen_XEndpointSet | (simp only [clen_XLabel, clen_XOwner, clen_XManager, clen_XMeta, clen_XRequirement, clen_XServicePort, clen_XService, clen_XEndpoint, clen_XEndpointSet]; omega)) only [oV_some', oN_eq, hst, oH_some, e17, load_get, get_put_same, get_put_ne, g0', loadB_some, ofc0_encXEndpointSet, ld0, Nat.zero_le, e14]
    have ho' : Own encXEndpoint 54 ((σ2.h.put σ2.n (some (.cells [.s [], .s [], .s [], .i .i64 0, .i .i64 0, .i .i64 0, .i .i64 0, .b false, .i .i64 0, .nilz true, .nilz true, .nilz true, .nilz true, .nilz true, .nilz true] 36 false))).put σ2.n (some (.cells (z15 (.sl id 0 rest.length none)) 36 false))) (σ2.n + 1) rest (some id) :=
      ho.same (fun j hj hlt => by simp (disch := omega) only [get_put_ne]) (by omega)
    generalize hS : (⟨_, σ2.n + 1⟩ : AS) = S
    have ho2 : Own encXEndpoint 54 S.h S.n rest (some id) := by rw [← hS]; exact ho'
    obtain ⟨k, r', hk, hr'⟩ := oZ_set (K := fun r => r = encXEndpointSet (setOf rest)) ho2 rfl
    subst hr'
    have hk2 := fz_mono k (k + 1) _ _ (Nat.le_succ k) hk
    have hmp : mapO (fz T0 S.h (k + 1)) [encXService stickyS, .agg (z15 (.sl id 0 rest.length none)), .i .i64 1, .i .i64 client, .i .i64 0] = some [encXService stickyS, encXEndpointSet (setOf rest), .i .i64 1, .i .i64 client, .i .i64 0] := by
      have q1 : fz T0 S.h (k + 1) (encXService stickyS) = some (encXService stickyS) := rfl
      have q2 : ∀ x, fz T0 S.h (k + 1) (.i .i64 x) = some (.i .i64 x) := fun x => rfl
      have hk3 : fz T0 S.h (k + 1) (.agg (z15 (.sl id 0 rest.length none))) = some (encXEndpointSet (setOf rest)) := hk2
      simp only [mapO, q1, q2, hk3]
    obtain ⟨a, b, ha, hb', hab, hbn⟩ := move_law pods client hg hm2
    rw [hrest] at hb'
    have hrm : (setOf rest).items_.length ≤ 1000 := hrl2
    have hrp : ∀ x ∈ (setOf rest).items_, x.pod_.length ≤ 140737488351232 := fun x hx => k1' x (by
      have hx : x ∈ rest := hx
      rw [← hrest] at hx
      exact List.mem_of_mem_eraseIdx hx)
    have x0 : ∀ u : Int, evExtract 0 (.tup [.i .i64 u, .i .i64 2, .b true]) = some (.i .i64 u) := fun u => rfl
    have x1 : ∀ u : Int, evExtract 1 (.tup [.i .i64 u, .i .i64 2, .b true]) = some (.i .i64 2) := fun u => rfl
    have x2 : ∀ u : Int, evExtract 2 (.tup [.i .i64 u, .i .i64 2, .b true]) = some (.b true) := fun u => rfl
    rw [route_sticky (readyOf pods) client (cand_ready pods (by omega)) (by omega), ha]
    simp only [x0, x1, x2, oV_some']
    rw [(R.lent (by kernel_rfl) (by kernel_rfl) (by kernel_rfl) rfl rfl rfl (by rw [route_sticky rest client hcr hrl]; rfl) hmp (c14 stickyS (setOf rest) 1 client 0 m3 hrm hrp c0 c1)).eq]
    rw [route_sticky rest client hcr hrl, hb']
    have d3 : decide (((b : Nat) : Int) ≠ ((g + 1 : Nat) : Int)) = true := decide_eq_true (by omega)
    by_cases e : a = g + 1
    · have d1 : decide (((a : Nat) : Int) = ((g + 1 : Nat) : Int)) = true := decide_eq_true (by omega)
      simp (disch := first | omega | assumption | exact scell | exact clen_XLabel | exact clen_XOwner | exact clen_XManager | exact clen_XMeta | exact clen_XRequirement | exact clen_XServicePort | exact clen_XService | exact clen_XEndpoint | exact clen_XEndpointSet | (simp only [clen_XLabel, clen_XOwner, clen_XManager, clen_XMeta, clen_XRequirement, clen_XServicePort, clen_XService, clen_XEndpoint, clen_XEndpointSet]; omega)) only [x0, x1, x2, oV_some', gtt_1, gtt_5, gtf_3, gtt_4, pick_t, pick_f, bin_add, wr64, hl1, bin_eq, bin_ne, d1, d3, e9, oZ_b]
    · have d1 : decide (((a : Nat) : Int) = ((g + 1 : Nat) : Int)) = false := decide_eq_false (by omega)
      have d2 : decide (((a : Nat) : Int) = ((b : Nat) : Int)) = true := decide_eq_true (by omega)
      simp (disch := first | omega | assumption | exact scell | exact clen_XLabel | exact clen_XOwner | exact clen_XManager | exact clen_XMeta | exact clen_XRequirement | exact clen_XServicePort | exact clen_XService | exact clen_XEndpoint | exact clen_XEndpointSet | (simp only [clen_XLabel, clen_XOwner, clen_XManager, clen_XMeta, clen_XRequirement, clen_XServicePort, clen_XService, clen_XEndpoint, clen_XEndpointSet]; omega)) only [x0, x1, x2, oV_some', gtt_1, gtt_5, gff_3, gtt_4, pick_t, pick_f, bin_add, wr64, hl1, bin_eq, bin_ne, d1, d2, d3, e9, oZ_b]
end Go.Proofs.YtbcikhbepldjhaaDoor.Ev
