/- The evaluator, a part of it. This session's own text. -/
import Derived.Test.YtmfhmlhaofpeiaaGreatDoorEv1
import Derived.Laws.Append
namespace Go.Proofs.YtmfhmlhaofpeiaaGreatDoor.Ev
set_option linter.unusedVariables false
set_option linter.unusedSimpArgs false
open Go Go.RowKit
section
variable {P : Program} {T : Tab} (hT : TabOK P T) {B : Nat} {φ : Nat -> Nat × Nat} {A S : Nat -> Prop} {h : Tr AB} {w : World}
theorem tn (s t : ByteArray) : (s == t) = (s.data.toList == t.data.toList) := by
 rw [beq_toListBytes, ByteArray.toList_eq, ByteArray.toList_eq]
theorem dZ {d : TypeDesc} {a b : AV} (hd : kC d a = true) {x y : Value} (hx : VR φ A S w a x) (hy : VR φ A S w b y) {r : Bool} (h : nY a b = some r) : Instr.sameNow d x y = some r := by
 unfold nY at h
 split at h
 ·injection h with h; subst h; cases hx; cases hy
  cases d <;> simp [kC] at hd
  rfl
 ·split at h
  ·rename_i hkl
   injection h with h; subst h; cases hx; cases hy
   cases d <;> simp [kC] at hd
   simp [Instr.sameNow, hkl]
  ·cases h
 ·injection h with h; subst h
  cases hx with | s _ p hp => cases hy with | s _ q hq =>
  cases d <;> simp [kC] at hd
  subst hp; subst hq
  show some (p == q) = _
  rw [tn]
 ·cases h
theorem ig {r : Nat} {E : Array MapEntry} {c : Nat} (hb : w.heap[r]? = some (.map E c)) : (getObj r).run P w = .ok (.map E c) w := by
 simp [getObj, Sem.run, hb]
theorem iq {d : TypeDesc} {t : TypeId} (hu : P.underlying t = some d) {a : AV} (hd : kC d a = true) {x : Value} (hx : VR φ A S w a x) (e : Bool) : (Instr.checkKey e 10000 t x).run P w = .ok () w := by
 show (Instr.checkKey e (9999 + 1) t x).run P w = _
 unfold Instr.checkKey
 simp only [Sem.run_bind, aq hu, Result.andThen_ok]
 cases hx <;> cases d <;> simp [kC] at hd <;> rfl
theorem rf {d : TypeDesc} {a : AV} (hd : kC d a = true) {x : Value} (hx : VR φ A S w a x) : ∀ {es : List (AV × AV)} {E : List MapEntry} {r : Option AV} (i : Nat),
  VRs φ A S w (es.map (·.1)) (E.map (·.key)) -> VRs φ A S w (es.map (·.2)) (E.map (·.val)) -> wa a es = some r ->
  (r = none /\ Instr.findNow d x E i = some none) ∨ ∃ v u j, r = some v /\ Instr.findNow d x E i = some (some (j, u)) /\ VR φ A S w v u
 | [], E, r, i, h1, h2, h => by
  injection h with h; subst h
  have := h1.1
  cases E with
  | nil => exact .inl ⟨rfl, rfl⟩
  | cons e E => simp at this
 | (k, v) :: es, E, r, i, h1, h2, h => by
  cases E with
  | nil => have := h1.1; simp at this
  | cons e E =>
   have hk := h1.2 0 k e.key rfl rfl
   have hv := h2.2 0 v e.val rfl rfl
   have t1 : VRs φ A S w (es.map (·.1)) (E.map (·.key)) := ⟨by have := h1.1; simpa using this, fun j c' v' q1 q2 => h1.2 (j + 1) c' v' (by simpa using q1) (by simpa using q2)⟩
   have t2 : VRs φ A S w (es.map (·.2)) (E.map (·.val)) := ⟨by have := h2.1; simpa using this, fun j c' v' q1 q2 => h2.2 (j + 1) c' v' (by simpa using q1) (by simpa using q2)⟩
   unfold wa at h
   unfold Instr.findNow
   split at h
   ·rename_i hq
    injection h with h; subst h
    rw [dZ hd hx hk hq]
    exact .inr ⟨v, e.val, i, rfl, rfl, hv⟩
   ·rename_i hq
    rw [dZ hd hx hk hq]
    exact rf hd hx (i + 1) t1 t2 h
   ·cases h
theorem wg (hT : TabOK P T) (inv : Has P φ A S h w) {t : TypeId} {m k : AV} {x ix : Value} (hx : VR φ A S w m x) (hi : VR φ A S w k ix) {ok : Bool} {v : AV} (hv : kG T h t m k ok = some v) :
  ∃ u, (Instr.lookup t x ix ok).run P w = .ok u w /\ VR φ A S w v u := by
 unfold kG at hv
 split at hv
 ·rename_i kt et ht
  have hu := hT.ty _ _ ht
  split at hv
  ·rename_i kd z hkt hzr
   have hku := hT.ty _ _ hkt
   obtain ⟨zi, zv, hz1, hz2, hz3, _⟩ := hT.zr _ _ hzr
   split at hv
   ·rename_i hkd
    have hzv : VR φ A S w z zv := eC hz3
    have fk : ∀ (E : List MapEntry) (r : Option (Nat × Value)), Instr.findNow kd ix E 0 = some r -> (Instr.findKey kt ix E).run P w = .ok r w := by
     intro E r hr
     simp only [Instr.findKey, Sem.run_bind, aq hku, Result.andThen_ok, hr, Sem.run_pure]
    unfold Instr.lookup
    simp only [Sem.run_bind, aq hu, Result.andThen_ok]
    split at hv
    ·rename_i v' hq
     split at hq
     ·cases hq
     ·rename_i id
      split at hq
      ·rename_i es hb
       cases hx
       obtain ⟨E, clk, b1, b2, b3⟩ := inv _ _ hb
       rcases rf hkd hi 0 b2 b3 hq with ⟨e, _⟩ | ⟨v2, u', j, e, hf, hvr⟩
       ·cases e
       ·injection e with e; subst e
        injection hv with hv; subst hv
        refine ⟨if ok = true then .tuple #[u', .bool true] else u', ?_, ?_⟩
        ·simp only [Sem.run_bind, ig b1, Result.andThen_ok, Sem.run_pure, iq hku hkd hi, fk _ _ hf]
        ·cases ok
         ·exact hvr
         ·exact .tup _ _ rfl (VRs.cons hvr (VRs.cons (.b true) VRs.nil)).2
      ·cases hq
     ·cases hq
    ·rename_i hq
     injection hv with hv; subst hv
     have hres : VR φ A S w (if ok = true then .tup [z, .b false] else z) (if ok = true then .tuple #[zv, .bool false] else zv) := by
      cases ok
      ·exact hzv
      ·exact .tup _ _ rfl (VRs.cons hzv (VRs.cons (.b false) VRs.nil)).2
     split at hq
     ·cases hx
      refine ⟨_, ?_, hres⟩
      simp only [Sem.run_bind, Result.andThen_ok, Sem.run_pure, iq hku hkd hi, fk [] none rfl, bP hz1 hz2]
     ·rename_i id
      split at hq
      ·rename_i es hb
       cases hx
       obtain ⟨E, clk, b1, b2, b3⟩ := inv _ _ hb
       rcases rf hkd hi 0 b2 b3 hq with ⟨_, hf⟩ | ⟨v2, u', j, e, hf, hvr⟩
       ·refine ⟨_, ?_, hres⟩
        simp only [Sem.run_bind, ig b1, Result.andThen_ok, Sem.run_pure, iq hku hkd hi, fk _ _ hf, bP hz1 hz2]
       ·cases e
      ·cases hq
     ·cases hq
    ·cases hv
   ·cases hv
  ·cases hv
 ·cases hv
theorem qW {f : Int -> Int -> Int} {g : Value -> Value -> Sem Value} (hg : ∀ (k : IntKind) (x y : Int), g (.int k x) (.int k y) = pure (.int k (f x y))) {k : IntKind} : ∀ {as : List AV} {vs : List Value} {x : Int} {r : AV},
  VRs φ A S w as vs -> vX f k x as = some r -> ∃ u, (vs.foldlM g (.int k x) : Sem Value).run P w = .ok u w /\ VR φ A S w r u
 | [], vs, x, r, hv, hr => by
  injection hr with hr; subst hr
  have := hv.1; cases vs with
  | nil => exact ⟨_, rfl, .i _ _⟩
  | cons v vs => simp at this
 | a :: as, vs, x, r, hv, hr => by
  cases vs with
  | nil => have := hv.1; simp at this
  | cons v vs =>
   have h0 := hv.2 0 a v rfl rfl
   have tl : VRs φ A S w as vs := ⟨by have := hv.1; simpa using this, fun j c' v' q1 q2 => hv.2 (j + 1) c' v' (by simpa using q1) (by simpa using q2)⟩
   unfold vX at hr
   split at hr
   ·rename_i heq; cases heq
   ·rename_i l y r' heq
    injection heq with e1 e2; subst e1; subst e2
    cases h0
    split at hr
    ·rename_i hkl; subst hkl
     rw [List.foldlM_cons, hg]
     obtain ⟨u, q1, q2⟩ := qW hg tl hr
     exact ⟨u, by rw [Sem.run_bind]; exact q1, q2⟩
    ·cases hr
   ·cases hr
theorem ug (hT : TabOK P T) (inv : Has P φ A S h w) {b : Builtin} {ts : Array TypeId} {as : List AV} {xs : List Value} (hx : VRs φ A S w as xs) {ty : TypeId} {consts : Array Bool} {v : AV} (hv : aj T h b ts.toList as = some v) :
  ∃ u, (builtin b ts ty consts ⟨xs⟩).run P w = .ok (.value u) w /\ VR φ A S w v u := by
 have one : ∀ {a : AV}, as = [a] -> ∃ x, xs = [x] /\ VR φ A S w a x := by
  intro a e; subst e
  have h1 := hx.1
  match xs, h1 with
  | [x], _ => exact ⟨x, rfl, hx.2 0 a x rfl rfl⟩
 have wrap : ∀ {s : Sem Value} {u : Value}, s.run P w = .ok u w -> (do pure (Next.value (<- s)) : Sem Next).run P w = .ok (.value u) w := by
  intro s u hs; rw [Sem.run_bind, hs]; rfl
 unfold aj at hv
 split at hv
 ·rename_i a
  obtain ⟨x, rfl, ha⟩ := one rfl
  split at hv
  ·rename_i t hts
   obtain ⟨ts⟩ := ts
   simp only at hts; subst hts
   have len : ∀ {d : TypeDesc} {n : Int}, T.ty t = some d -> ((∃ q, d = .string /\ x = .string q /\ n = q.size) ∨ (∃ e b m c, d = .slice e /\ x = .slice b m c /\ n = m) ∨ (∃ j e, d = .map j e /\ x = .map none /\ n = 0) ∨ (∃ m e, d = .array m e /\ n = m) ∨ (∃ j e r E clk, d = .map j e /\ x = .map (some r) /\ w.heap[r]? = some (.map E clk) /\ n = E.size)) -> (builtin .len #[t] ty consts #[x]).run P w = .ok (.value (.int .i64 n)) w := by
    intro d n ht hr
    refine wrap ?_
    unfold Builtin.len_
    simp only [Sem.run_bind, List.getElem?_toArray, List.getElem?_cons_zero, aq (hT.ty _ _ ht), Result.andThen_ok]
    rcases hr with ⟨q, rfl, rfl, rfl⟩ | ⟨e, b, m, c, rfl, rfl, rfl⟩ | ⟨j, e, rfl, rfl, rfl⟩ | ⟨m, e, rfl, rfl⟩ | ⟨j, e, r, E, clk, rfl, rfl, hw, rfl⟩
    ·rfl
    ·rfl
    ·rfl
    ·cases x <;> rfl
    ·simp [ig hw, goInt]
   split at hv
   ·rename_i s ht
    injection hv with hv; subst hv
    cases ha with | s _ q hq =>
    have : q.size = s.length := by rw [<- hq]; exact (Array.length_toList).symm
    exact ⟨_, len ht (n := s.length) (.inl ⟨q, rfl, rfl, by rw [this]⟩), .i _ _⟩
   ·rename_i ht
    injection hv with hv; subst hv; cases ha
    exact ⟨_, len ht (.inr (.inl ⟨_, _, 0, _, rfl, rfl, rfl⟩)), .i _ _⟩
   ·rename_i ht
    injection hv with hv; subst hv; cases ha
    exact ⟨_, len ht (.inr (.inl ⟨_, _, _, _, rfl, rfl, rfl⟩)), .i _ _⟩
   ·rename_i ht
    injection hv with hv; subst hv
    obtain ⟨p, c, z', rfl, _⟩ := ha.lst_inv
    exact ⟨_, len ht (.inr (.inl ⟨_, _, _, _, rfl, rfl, rfl⟩)), .i _ _⟩
   ·rename_i ht
    injection hv with hv; subst hv
    exact ⟨_, len ht (.inr (.inr (.inr (.inl ⟨_, _, rfl, rfl⟩)))), .i _ _⟩
   ·rename_i ht
    injection hv with hv; subst hv; cases ha
    exact ⟨_, len ht (.inr (.inr (.inl ⟨_, _, rfl, rfl, rfl⟩))), .i _ _⟩
   ·rename_i id ht
    split at hv
    ·rename_i es hb
     injection hv with hv; subst hv; cases ha
     obtain ⟨E, clk, b1, b2, b3⟩ := inv _ _ hb
     have : E.length = es.length := by have := b2.1; simpa using this
     exact ⟨_, len ht (n := es.length) (.inr (.inr (.inr (.inr ⟨_, _, _, _, _, rfl, rfl, b1, by simp [this]⟩)))), .i _ _⟩
    ·cases hv
   ·cases hv
  ·cases hv
 ·rename_i a
  obtain ⟨x, rfl, ha⟩ := one rfl
  split at hv
  ·rename_i t hts
   obtain ⟨ts⟩ := ts
   simp only at hts; subst hts
   have cap : ∀ {e : TypeId} {p : Option Addr} {l c : Nat}, T.ty t = some (.slice e) -> x = .slice p l c -> (builtin .cap #[t] ty consts #[x]).run P w = .ok (.value (.int .i64 c)) w := by
    intro e p l c ht hx; subst hx
    refine wrap ?_
    unfold Builtin.cap_
    simp [aq (hT.ty _ _ ht), goInt]
   split at hv
   ·rename_i ht
    injection hv with hv; subst hv; cases ha
    exact ⟨_, cap ht rfl, .i _ _⟩
   ·rename_i ht
    injection hv with hv; subst hv
    cases ha with | sl _ _ _ _ c q1 q2 q3 q4 =>
    obtain rfl := q3 _ rfl
    exact ⟨_, cap ht rfl, .i _ _⟩
   ·cases hv
  ·cases hv
 ·rename_i a
  obtain ⟨x, rfl, ha⟩ := one rfl
  split at hv
  ·injection hv with hv; subst hv
   cases ha with | nilz _ p hp =>
   obtain rfl := hp rfl
   exact ⟨.pointer none, wrap rfl, .nilp⟩
  ·injection hv with hv; subst hv
   cases ha with | sl _ _ _ _ c q1 q2 q3 q4 =>
   exact ⟨_, wrap (Lib.run_unsafeSliceData_row w _ _ _ _ c (by omega)), .ptr _ _ q1⟩
  ·cases hv
 ·rename_i k x r
  have h1 := hx.1
  match xs, h1, hx with
  | y :: ys, h1, hx =>
   have h0 := hx.2 0 _ y rfl rfl
   cases h0
   have tl : VRs φ A S w r ys := ⟨by simpa using h1, fun j c' v' q1 q2 => hx.2 (j + 1) c' v' (by simpa using q1) (by simpa using q2)⟩
   obtain ⟨u, q1, q2⟩ := qW (P := P) (g := Builtin.max2) (fun k x y => rfl) tl hv
   exact ⟨u, wrap q1, q2⟩
 ·rename_i k x r
  have h1 := hx.1
  match xs, h1, hx with
  | y :: ys, h1, hx =>
   have h0 := hx.2 0 _ y rfl rfl
   cases h0
   have tl : VRs φ A S w r ys := ⟨by simpa using h1, fun j c' v' q1 q2 => hx.2 (j + 1) c' v' (by simpa using q1) (by simpa using q2)⟩
   obtain ⟨u, q1, q2⟩ := qW (P := P) (g := Builtin.min2) (fun k x y => rfl) tl hv
   exact ⟨u, wrap q1, q2⟩
 ·cases hv
theorem vW (off : Nat) : ∀ (vs : List Value) (k : Nat) (C : Array Value), off + k + vs.length <= C.size ->
  ((vs.zipIdx k).foldl (fun cs (p : Value × Nat) => cs.setIfInBounds (off + p.2) p.1) C).toList = C.toList.take (off + k) ++ vs ++ C.toList.drop (off + k + vs.length)
 | [], k, C, _ => by simp
 | v :: vs, k, C, h => by
  rw [List.zipIdx_cons, List.foldl_cons, vW off vs (k + 1) _ (by simp at h |-; omega)]
  simp only [Array.toList_setIfInBounds]
  have hk : off + k < C.toList.length := by simp at h |-; omega
  have hA : (C.toList.take (off + k)).length = off + k := by rw [List.length_take]; omega
  rw [List.set_eq_take_append_cons_drop, if_pos hk, List.take_append, hA, List.drop_append, hA, List.take_of_length_le (by omega), List.drop_of_length_le (l := C.toList.take (off + k)) (by omega)]
  have e1 : off + (k + 1) - (off + k) = 1 := by omega
  have e2 : off + (k + 1) + vs.length - (off + k) = vs.length + 1 := by omega
  have e3 : off + k + (v :: vs).length = off + k + 1 + vs.length := by simp; omega
  rw [e1, e2, e3, List.drop_succ_cons, List.drop_drop]
  simp
theorem mP {pa pc : Nat -> Option (Nat × Nat)} (hp : ∀ i x, pa i = some x -> pc i = some x) : ∀ {ps : List (Nat × AV)} {qs : List (Nat × Value)} {cs ds : List AV} {C : List Value},
  qs.map (·.1) = ps.map (·.1) -> VRs φ A S w (ps.map (·.2)) (qs.map (·.2)) -> VRs φ A S w cs C -> gV pa cs ps = some ds -> ∃ D : List Value, Instr.fill pc ⟨C⟩ qs = some ⟨D⟩ /\ VRs φ A S w ds D
 | [], qs, cs, ds, C, h1, h2, h3, h4 => by
  injection h4 with h4; subst h4
  cases qs with
  | nil => exact ⟨C, rfl, h3⟩
  | cons q qs => simp at h1
 | (i, v) :: ps, qs, cs, ds, C, h1, h2, h3, h4 => by
  cases qs with
  | nil => simp at h1
  | cons q qs =>
   obtain ⟨i', u⟩ := q
   simp only [List.map_cons, List.cons.injEq] at h1
   obtain ⟨rfl, h1⟩ := h1
   have hv : VR φ A S w v u := h2.2 0 v u rfl rfl
   have h2' : VRs φ A S w (ps.map (·.2)) (qs.map (·.2)) := ⟨by have := h2.1; simpa using this, fun j c' v' q1 q2 => h2.2 (j + 1) c' v' (by simpa using q1) (by simpa using q2)⟩
   unfold gV at h4
   split at h4
   ·cases h4
   ·rename_i off size hpi
    split at h4
    ·rename_i hsz
     split at h4
     ·rename_i cs' hset
      obtain ⟨s1, rfl⟩ := kT hset
      have hc := hv.cells
      have hsize : u.cells.size = size := by
       have := Nat.eq_of_beq_eq_true hsz
       rw [<- this, <- hc.1]; exact (Array.length_toList).symm
      have hlen : u.cells.toList.length = v.cells.length := hc.1
      have hle : off + u.cells.size <= C.length := by rw [h3.1, <- Array.length_toList, hlen]; exact s1
      unfold Instr.fill
      rw [hp _ _ hpi]
      simp only
      rw [if_neg (by simp only [ne_eq, hsize, not_true_eq_false, Bool.or_eq_true, decide_eq_true_eq]; simp; rw [<- hsize]; exact hle)]
      have ef : (u.cells.zipIdx.foldl (fun cs (p : Value × Nat) => cs.setIfInBounds (off + p.2) p.1) (⟨C⟩ : Array Value)) = ⟨C.take off ++ u.cells.toList ++ C.drop (off + u.cells.toList.length)⟩ := by
       apply Array.toList_inj.1
       rw [<- Array.foldl_toList, Array.toList_zipIdx]
       have := vW off u.cells.toList 0 ⟨C⟩ (by simp; exact hle)
       simpa using this
      show ∃ D, Instr.fill pc (u.cells.zipIdx.foldl (fun cs (p : Value × Nat) => cs.setIfInBounds (off + p.2) p.1) (⟨C⟩ : Array Value)) qs = some ⟨D⟩ /\ _
      rw [ef]
      refine mP hp h1 h2' ?_ h4
      rw [hlen]
      exact ((h3.take off).append hc).append (h3.drop _)
     ·cases h4
    ·cases h4
theorem qA {ρ : Operand -> Option AV} {ev : Operand -> Value} (hρ : ∀ x a, ρ x = some a -> VR φ A S w a (ev x)) : ∀ {xs : List (Nat × Operand)} {ps : List (Nat × AV)}, gc ρ xs = some ps ->
  (xs.map fun (i, x) => (i, ev x)).map (·.1) = ps.map (·.1) /\ VRs φ A S w (ps.map (·.2)) ((xs.map fun (i, x) => (i, ev x)).map (·.2))
 | [], ps, h => by injection h with h; subst h; exact ⟨rfl, VRs.nil⟩
 | (i, x) :: xs, ps, h => by
  unfold gc at h
  split at h
  ·rename_i a as h1 h2
   injection h with h; subst h
   obtain ⟨q1, q2⟩ := qA hρ h2
   exact ⟨by simp only [List.map_cons, List.cons.injEq, true_and]; exact q1, VRs.cons (hρ _ _ h1) q2⟩
  ·cases h
theorem qy (hT : TabOK P T) : ∀ {fs : List Field} {pl : List (Nat × Nat)}, pG T fs = some pl -> (fs.mapM (fun f => do pure (f.offset, <- sizeOf f.type) : Field -> Sem (Nat × Nat))).run P w = .ok pl w
 | [], pl, h => by injection h with h; subst h; rfl
 | f :: fs, pl, h => by
  unfold pG at h
  split at h
  ·rename_i n ps h1 h2
   injection h with h; subst h
   obtain ⟨i, hi1, hi2⟩ := hT.sz _ _ h1
   rw [List.mapM_cons]
   simp only [Sem.run_bind, aN hi1, hi2, Result.andThen_ok, Sem.run_pure, qy hT h2]
  ·cases h
theorem xz (hT : TabOK P T) {t : TypeId} {ps : List (Nat × AV)} {qs : List (Nat × Value)} (h1 : qs.map (·.1) = ps.map (·.1)) (h2 : VRs φ A S w (ps.map (·.2)) (qs.map (·.2))) {v : AV} (hv : bF T t ps = some v) :
  ∃ u, (Instr.build t ⟨qs⟩).run P w = .ok u w /\ VR φ A S w v u := by
 unfold bF at hv
 split at hv
 ·rename_i fs z ht hz
  have hu := hT.ty _ _ ht
  obtain ⟨zi, zv, hz1, hz2, hz3, _⟩ := hT.zr _ _ hz
  have hzc := (eC (φ := φ) (A := A) (S := S) (w := w) hz3).cells
  split at hv
  ·rename_i pl hpl
   cases hf : gV (pl[·]?) z.cells ps with
   | none => rw [hf] at hv; cases hv
   | some ds =>
    rw [hf] at hv; injection hv with hv; subst hv
    obtain ⟨D, g1, g2⟩ := mP (pc := ((⟨pl⟩ : Array (Nat × Nat))[·]?)) (fun i x hx => by simpa using hx) h1 h2 hzc hf
    refine ⟨.agg ⟨D⟩, ?_, .agg _ _ g2.1 g2.2⟩
    unfold Instr.build
    simp only [Sem.run_bind, bP hz1 hz2, aq hu, Result.andThen_ok, Array.mapM_eq_mapM_toList, Sem.run_map, qy hT hpl]
    have e1 : (⟨zv.cells.toList⟩ : Array Value) = zv.cells := rfl
    rw [e1] at g1
    rw [show pl.toArray = (⟨pl⟩ : Array (Nat × Nat)) from rfl, g1]
    rfl
  ·cases hv
 ·rename_i n e z ht hz
  have hu := hT.ty _ _ ht
  obtain ⟨zi, zv, hz1, hz2, hz3, _⟩ := hT.zr _ _ hz
  have hzc := (eC (φ := φ) (A := A) (S := S) (w := w) hz3).cells
  split at hv
  ·rename_i sz hs
   obtain ⟨i, hi1, hi2⟩ := hT.sz _ _ hs
   cases hf : gV (fun i => some (i * sz, sz)) z.cells ps with
   | none => rw [hf] at hv; cases hv
   | some ds =>
    rw [hf] at hv; injection hv with hv; subst hv
    obtain ⟨D, g1, g2⟩ := mP (pc := fun i => some (i * sz, sz)) (fun i x hx => hx) h1 h2 hzc hf
    refine ⟨.agg ⟨D⟩, ?_, .agg _ _ g2.1 g2.2⟩
    unfold Instr.build
    simp only [Sem.run_bind, bP hz1 hz2, aq hu, Result.andThen_ok, aN hi1, hi2]
    have e1 : (⟨zv.cells.toList⟩ : Array Value) = zv.cells := rfl
    rw [e1] at g1
    rw [g1]
    rfl
  ·cases hv
 ·cases hv
end
section
variable {P : Program} {T : Tab} (hT : TabOK P T) {B : Nat} {φ : Nat -> Nat × Nat} {A S : Nat -> Prop} {h : Tr AB} {w : World}
theorem bW {s : Sem Value} {u : Value} {w' : World} (hs : s.run P w = .ok u w') : (do pure (Next.value (<- s)) : Sem Next).run P w = .ok (.value u) w' := by rw [Sem.run_bind, hs]; rfl
theorem qE {ρ : Operand -> Option AV} {ev : Operand -> Value} (hρ : ∀ x a, ρ x = some a -> VR φ A S w a (ev x)) {x : Option Operand} {a : Option AV} (h : fe ρ x = some a) : OVR φ A S w a (x.map ev) := by
 unfold fe at h
 split at h
 ·injection h with h; subst h; trivial
 ·split at h
  ·rename_i x a hx
   injection h with h; subst h; exact hρ _ _ hx
  ·cases h
theorem wb (hT : TabOK P T) (inv : Has P φ A S h w) {t : TypeId} {x : AV} {ex : Value} {lo hi mx : Option AV} {elo ehi emx : Option Value} (hx : VR φ A S w x ex) (h1 : OVR φ A S w lo elo) (h2 : OVR φ A S w hi ehi) (h3 : OVR φ A S w mx emx)
  {v : AV} (hv : aL T h t x lo hi mx = some v) : ∃ u, (Instr.sliceAt t ex elo ehi emx).run P w = .ok u w /\ VR φ A S w v u := by
 unfold aL at hv
 split at hv
 ·rename_i v' hs
  injection hv with hv; subst hv
  exact rg hT hx h1 h2 h3 hs
 ·unfold mS at hv
  split at hv
  ·rename_i id len k1 l k2 r _
   split at hv
   ·rename_i e cs e' ht hg
    split at hv
    ·rename_i z hz hbe
     split at hv
     ·rename_i hc
      injection hv with hv; subst hv
      obtain rfl := Nat.eq_of_beq_eq_true hbe
      cases hx with | sl _ _ _ _ c hA hle hcap hnone =>
      have hcφ := hnone rfl rfl
      obtain ⟨i, hi1, hi2⟩ := hT.sz _ _ hz
      obtain ⟨C, fz, q1, q2, q3, q4, q5⟩ := inv id _ hg
      have hcell : P.cellsOf e = z + 1 := by unfold Program.cellsOf; rw [hi1]; exact hi2
      have hC := q5 rfl
      rw [hcell, <- hcφ] at hC
      have hrc : r.toNat <= c := by
       have : r.toNat * (z + 1) <= c * (z + 1) := by omega
       exact Nat.le_of_mul_le_mul_right this (by omega)
      have hx' : VR φ A S w (.sl id 0 len (some c)) (.slice (some ⟨(φ id).1, 0, none⟩) len c) := .sl id 0 len (some c) c hA hle (fun x hx => by injection hx) (fun hx => by cases hx)
      have hb : bK len (some c) (some (.i k1 l)) (some (.i k2 r)) none = some (l.toNat, r.toNat, some c) := by
       have b1 : eU c len (some (.i k2 r)) = some r.toNat := by
        simp only [eU, bnd]; rw [if_pos ⟨by omega, by omega⟩]
       have b2 : eU r.toNat 0 (some (.i k1 l)) = some l.toNat := by
        simp only [eU, bnd]; rw [if_pos ⟨by omega, by omega⟩]
       simp only [bK, Option.getD_some, b1, b2]
      have hs : cX T t (.sl id 0 len (some c)) (some (.i k1 l)) (some (.i k2 r)) none = some (.sl id (if c = l.toNat then 0 else 0 + l.toNat * (z + 1)) (r.toNat - l.toNat) (some (c - l.toNat))) := by
       simp only [cX, ht, hz, hb]
      obtain ⟨u, g1, g2⟩ := rg hT hx' h1 h2 h3 hs
      refine ⟨u, g1, ?_⟩
      rw [if_neg (by omega), Nat.zero_add] at g2
      cases g2 with | sl _ _ _ _ c' hA' hle' hcap' hnone' =>
      have hc' := hcap' _ rfl
      exact .sl _ _ _ _ _ hA hle' (fun x hx => by cases hx) (fun _ h0 => by
       have : l.toNat = 0 := by
        rcases Nat.eq_zero_or_pos l.toNat with h | h
        ·exact h
        ·have := Nat.mul_pos h (show 0 < z + 1 by omega); omega
       rw [hc', this, <- hcφ]; rfl)
     ·cases hv
    ·cases hv
   ·cases hv
  ·cases hv
theorem mR (hT : TabOK P T) (inv : Has P φ A S h w) {ρ : Operand -> Option AV} {ev : Operand -> Value} (hρ : ∀ x a, ρ x = some a -> VR φ A S w a (ev x)) (o : Oper) {v : AV} (hv : bk T h ρ o.op = some v) :
  ∃ u, (execOp ev o).run P w = .ok (.value u) w /\ VR φ A S w v u := by
 obtain ⟨dst, op, ty, pos, after, guard⟩ := o
 simp only at hv
 cases op <;> simp only [bk] at hv <;> try (cases hv; done)
 case move x => exact ⟨_, rfl, hρ _ _ hv⟩
 case assign x => exact ⟨_, rfl, hρ _ _ hv⟩
 case pick c a b =>
  split at hv
  ·rename_i hc
   have := hρ _ _ hc
   generalize hec : ev c = ec at this
   cases this
   exact ⟨_, by simp [execOp, hec, asBool], hρ _ _ hv⟩
  ·rename_i hc
   have := hρ _ _ hc
   generalize hec : ev c = ec at this
   cases this
   exact ⟨_, by simp [execOp, hec, asBool], hρ _ _ hv⟩
  ·cases hv
 case build t ps =>
  split at hv
  ·rename_i ps' hp
   obtain ⟨h1, h2⟩ := qA hρ hp
   obtain ⟨u, q1, q2⟩ := xz hT h1 h2 hv
   refine ⟨u, bW ?_, q2⟩
   have e : (ps.map fun (i, x) => (i, ev x)) = ⟨ps.toList.map fun (i, x) => (i, ev x)⟩ := Array.toList_inj.1 (by rw [Array.toList_map])
   rw [e]; exact q1
  ·cases hv
 case load t a =>
  split at hv
  ·rename_i a' ha
   split at hv
   ·rename_i cs hcs
    obtain ⟨b, o, hx, hc⟩ := sD inv (hρ _ _ ha) hcs
    obtain ⟨u, q1, q2⟩ := mo hT hc hv
    refine ⟨u, bW ?_, q2⟩
    unfold Instr.loadAt
    rw [hx]; exact q1
   ·cases hv
  ·cases hv
 case nilCheck x =>
  split at hv
  ·rename_i hx
   injection hv with hv; subst hv
   have := hρ _ _ hx
   generalize hec : ev x = ec at this
   cases this with | ptr _ _ q => exact ⟨_, by simp [execOp, hec], .ptr _ _ q⟩
  ·rename_i hx
   injection hv with hv; subst hv
   have := hρ _ _ hx
   generalize hec : ev x = ec at this
   cases this with | iptr _ vs b o q1 q2 q3 q4 => exact ⟨_, by simp [execOp, hec], .iptr _ vs b o q1 q2 q3 q4⟩
  ·rename_i hx
   injection hv with hv; subst hv
   have := hρ _ _ hx
   generalize hec : ev x = ec at this
   cases this with | fn _ _ _ us vs q1 q2 q3 q4 => exact ⟨_, by simp [execOp, hec], .fn _ _ _ us vs q1 q2 q3 q4⟩
  ·cases hv
 case binOp op t x y yt =>
  split at hv
  ·rename_i a b ha hb
   obtain ⟨u, q1, q2⟩ := evBin_ok hT (hρ _ _ ha) (hρ _ _ hb) hv
   exact ⟨u, bW q1, q2⟩
  ·cases hv
 case unOp op t x =>
  split at hv
  ·rename_i a ha
   obtain ⟨u, q1, q2⟩ := evUn_ok (P := P) (hρ _ _ ha) hv
   exact ⟨u, bW q1, q2⟩
  ·cases hv
 case convert s d x =>
  split at hv
  ·rename_i a ha
   obtain ⟨u, q1, q2⟩ := AD hT inv (hρ _ _ ha) hv
   exact ⟨u, bW q1, q2⟩
  ·cases hv
 case makeInterface t x =>
  split at hv
  ·cases hv
  ·rename_i d hne ht
   cases ha : ρ x with
   | none => rw [ha] at hv; cases hv
   | some a =>
    rw [ha] at hv; injection hv with hv; subst hv
    refine ⟨_, bW ?_, .ifc _ _ _ (hρ _ _ ha)⟩
    unfold Instr.makeInterface
    simp only [Sem.run_bind, aq (hT.ty _ _ ht), Result.andThen_ok]
    cases d <;> first | rfl | (exfalso; exact hne _ ht)
  ·cases hv
 case makeFunc fn fs cs =>
  cases fn <;> simp only at hv <;> try (cases hv; done)
  split at hv
  ·rename_i as bs ha hb
   injection hv with hv; subst hv
   have h1 := gN hρ ha
   have h2 := gN hρ hb
   refine ⟨_, ?_, .fn _ _ _ _ _ h1.1 h2.1 h1.2 h2.2⟩
   have e1 : fs.map ev = ⟨fs.toList.map ev⟩ := Array.toList_inj.1 (by rw [Array.toList_map])
   have e2 : cs.map ev = ⟨cs.toList.map ev⟩ := Array.toList_inj.1 (by rw [Array.toList_map])
   rw [<- e1, <- e2]; rfl
  ·cases hv
 case slice t x lo hi mx =>
  split at hv
  ·rename_i x' lo' hi' mx' hx hlo hhi hmx
   obtain ⟨u, q1, q2⟩ := wb hT inv (hρ _ _ hx) (qE hρ hlo) (qE hρ hhi) (qE hρ hmx) hv
   exact ⟨u, bW q1, q2⟩
  ·cases hv
 case fieldAddr s x f =>
  split at hv
  ·rename_i fs ht
   have hu := hT.ty _ _ ht
   split at hv
   ·rename_i fd hf
    have hf' : fs[f]? = some fd := by unfold lk at hf; simpa using hf
    split at hv
    ·rename_i z hz
     obtain ⟨i, hi1, hi2⟩ := hT.sz _ _ hz
     have place : ∀ b o, (Instr.fieldAt s (.pointer (some ⟨b, o, none⟩)) f).run P w = .ok (.pointer (some ⟨b, o + fd.offset, none⟩)) w := by
      intro b o
      unfold Instr.fieldAt
      simp [aq hu, hf', Instr.sureAddr, fieldPlace, aN hi1, hi2, cK]
     split at hv
     ·rename_i hx
      injection hv with hv; subst hv
      have := hρ _ _ hx
      generalize hec : ev x = ec at this
      cases this with | ptr _ _ q =>
      refine ⟨_, bW (s := Instr.fieldAt s (ev x) f) ?_, .ptr _ _ q⟩
      rw [hec]; exact place _ _
     ·rename_i cs hx
      injection hv with hv; subst hv
      have := hρ _ _ hx
      generalize hec : ev x = ec at this
      cases this with | iptr _ vs b o q1 q2 q3 q4 =>
      obtain ⟨ws, r1, r2⟩ := CellsAt.drop ⟨vs, ⟨q1, q4⟩, q3⟩ fd.offset
      refine ⟨_, bW (s := Instr.fieldAt s (ev x) f) ?_, .iptr _ ws b (o + fd.offset) r1.1 q2 r2 r1.2⟩
      rw [hec]; exact place _ _
     ·cases hv
    ·cases hv
   ·cases hv
  ·cases hv
 case field s x f =>
  split at hv
  ·rename_i fs ht
   have hu := hT.ty _ _ ht
   split at hv
   ·rename_i fd hf
    have hf' : fs[f]? = some fd := by unfold lk at hf; simpa using hf
    split at hv
    ·rename_i cs hx
     have := hρ _ _ hx
     generalize hec : ev x = ec at this
     cases this with | agg _ vs q1 q2 =>
     obtain ⟨u, k1, k2⟩ := eo hT ⟨q1, q2⟩ hv
     refine ⟨u, bW (s := Instr.field s (ev x) f) ?_, k2⟩
     rw [hec]
     simp [Instr.field, aq hu, hf', asAgg, k1]
    ·cases hv
   ·cases hv
  ·cases hv
 case indexAddr t x ix =>
  split at hv
  ·rename_i a b ha hb
   obtain ⟨u, q1, q2⟩ := rm hT (hρ _ _ ha) (hρ _ _ hb) hv
   exact ⟨u, bW q1, q2⟩
  ·cases hv
 case index t x ix =>
  split at hv
  ·rename_i a b ha hb
   obtain ⟨u, q1, q2⟩ := xx hT (hρ _ _ ha) (hρ _ _ hb) hv
   exact ⟨u, bW q1, q2⟩
  ·cases hv
 case lookup t m k ok =>
  split at hv
  ·rename_i a b ha hb
   obtain ⟨u, q1, q2⟩ := wg hT inv (hρ _ _ ha) (hρ _ _ hb) hv
   exact ⟨u, bW q1, q2⟩
  ·cases hv
 case extract t n =>
  split at hv
  ·rename_i vs hx
   have := hρ _ _ hx
   generalize hec : ev t = ec at this
   cases this with | tup _ us q1 q2 =>
   obtain ⟨u, k1, k2⟩ := VRs.at ⟨q1, q2⟩ hv
   refine ⟨u, bW (s := Instr.extract (ev t) n) ?_, k2⟩
   rw [hec]
   simp [Instr.extract, k1]
  ·cases hv
 case call c =>
  split at hv
  ·rename_i b hb
   split at hv
   ·rename_i as ha
    have h1 := gN hρ ha
    obtain ⟨u, q1, q2⟩ := ug hT inv (ts := c.argTypes) (ty := ty) (consts := c.args.map fun | .const _ => true | _ => false) h1 hv
    refine ⟨u, ?_, q2⟩
    have e1 : c.args.map ev = ⟨c.args.toList.map ev⟩ := Array.toList_inj.1 (by rw [Array.toList_map])
    simp only [execOp, resolve, hb, Sem.run_bind, Sem.run_pure, Result.andThen_ok, invoke]
    rw [e1]; exact q1
   ·cases hv
  ·cases hv
end
structure Same (w w' : World) : Prop where
 os : w'.os = w.os
 tape : w'.tape = w.tape
 output : w'.output = w.output
theorem Same.refl (w : World) : Same w w := ⟨rfl, rfl, rfl⟩
theorem Same.trans {a b c : World} (h : Same a b) (k : Same b c) : Same a c := ⟨k.os.trans h.os, k.tape.trans h.tape, k.output.trans h.output⟩
section
variable {P : Program} {T : Tab} (hT : TabOK P T) {B : Nat} {φ φ' : Nat -> Nat × Nat} {A A' S S' : Nat -> Prop} {H : Nat -> Option AB} {w w' : World}
theorem dI {b o : Nat} (h : w'.heap[b]? = w.heap[b]?) : w'.cell? ⟨b, o, none⟩ = w.cell? ⟨b, o, none⟩ := by simp [World.cell?, h]
theorem BR.mono {id : Nat} {blk : AB} (hb : BR P φ A S w id blk) (hid : φ' id = φ id) (hφ : ∀ id, A id -> φ' id = φ id) (hA : ∀ id, A id -> A' id) (hS : ∀ b, S b -> S' b)
  (hw : ∀ b, S b -> w'.heap[b]? = w.heap[b]?) (hh : w'.heap[(φ id).1]? = w.heap[(φ id).1]?) : BR P φ' A' S' w' id blk := by
 have hw' : ∀ b o v, S b -> w.cell? ⟨b, o, none⟩ = some v -> w'.cell? ⟨b, o, none⟩ = some v := fun b o v hs hv => (dI (hw b hs)).trans hv
 cases blk with
 | cells cs e g =>
  obtain ⟨C, fz, h1, h2, h3, h4, h5⟩ := hb
  exact ⟨C, fz, by rw [hid, hh]; exact h1, h2, h3, h4.mono hφ hA hS hw', by rw [hid]; exact h5⟩
 | map es =>
  obtain ⟨E, clk, h1, h2, h3⟩ := hb
  exact ⟨E, clk, by rw [hid, hh]; exact h1, h2.mono hφ hA hS hw', h3.mono hφ hA hS hw'⟩
 | siter s pos =>
  obtain ⟨t, h1, h2⟩ := hb
  exact ⟨t, h1, by rw [hid, hh]; exact h2⟩
def eW (φ : Nat -> Nat × Nat) (n b cap : Nat) : Nat -> Nat × Nat := fun j => if j = n then (b, cap) else φ j
def eX (A : Nat -> Prop) (n : Nat) : Nat -> Prop := fun j => j = n ∨ A j
theorem gR {n b cap : Nat} (hn : ¬ A n) : ∀ id, A id -> eW φ n b cap id = φ id := fun id h => by unfold eW; rw [if_neg]; intro e; exact hn (e ▸ h)
theorem aW {n b cap : Nat} : eW φ n b cap n = (b, cap) := by unfold eW; rw [if_pos rfl]
theorem Inv.new (inv : Inv P B φ A S H w) {n : Nat} (hn : ¬ A n) {cap : Nat} (hsize : w'.heap.size = w.heap.size + 1) (hold : ∀ k, k < w.heap.size -> w'.heap[k]? = w.heap[k]?) {blk : AB}
  (hblk : BR P (eW φ n w.heap.size cap) (eX A n) S w' n blk) : Inv P B (eW φ n w.heap.size cap) (eX A n) S (fun j => if j = n then some blk else H j) w' := by
 have hφ := gR (φ := φ) (b := w.heap.size) (cap := cap) hn
 have hnH : H n = none := by
  cases h : H n with
  | none => rfl
  | some b => exact absurd (inv.dom _ _ h) hn
 have live : ∀ id, H id ≠ none -> A id := fun id h => by
  cases h' : H id with
  | none => exact absurd h' h
  | some b => exact inv.dom _ _ h'
 refine ⟨fun id b hb => ?_, fun id hA => ?_, fun id id' h1 h2 h3 => ?_, fun b hb => ⟨by have := (inv.st b hb).1; omega, fun id hid => ?_⟩, fun id b hb => ?_, by have := inv.hB; omega⟩
 ·split at hb
  ·rename_i e; exact .inl e
  ·exact .inr (inv.dom _ _ hb)
 ·rcases hA with rfl | hA
  ·rw [aW]; exact ⟨inv.hB, by omega⟩
  ·rw [hφ _ hA]; have := inv.lo _ hA; exact ⟨this.1, by omega⟩
 ·by_cases e1 : id = n <;> by_cases e2 : id' = n
  ·rw [e1, e2]
  ·rw [if_neg e2] at h2
   rw [e1, aW, hφ _ (live _ h2)] at h3
   have := (inv.lo _ (live _ h2)).2; simp only at h3; omega
  ·rw [if_neg e1] at h1
   rw [e2, aW, hφ _ (live _ h1)] at h3
   have := (inv.lo _ (live _ h1)).2; simp only at h3; omega
  ·rw [if_neg e1] at h1; rw [if_neg e2] at h2
   rw [hφ _ (live _ h1), hφ _ (live _ h2)] at h3
   exact inv.inj _ _ h1 h2 h3
 ·by_cases e1 : id = n
  ·rw [e1, aW]; have := (inv.st b hb).1; simp only; omega
  ·rw [if_neg e1] at hid
   rw [hφ _ (live _ hid)]; exact (inv.st b hb).2 id hid
 ·split at hb
  ·rename_i e; subst e; injection hb with hb; subst hb; exact hblk
  ·have hA := inv.dom _ _ hb
   exact (inv.blk _ _ hb).mono (hφ _ hA) hφ (fun _ h => .inr h) (fun _ h => h) (fun b hs => hold _ (inv.st b hs).1) (hold _ (inv.lo _ hA).2)
theorem kj {α : Type} (l : List α) : ∀ n, (dm l n).length = n * l.length
 | 0 => by simp [dm]
 | n + 1 => by simp [dm, kj l n, Nat.succ_mul]; omega
theorem uR {α : Type} (l : List α) : ∀ (n j : Nat), j < n * l.length -> (dm l n)[j]? = l[j % l.length]?
 | 0, j, h => by simp at h
 | n + 1, j, h => by
  unfold dm
  rw [List.getElem?_append]
  by_cases hj : j < l.length
  ·rw [if_pos hj, Nat.mod_eq_of_lt hj]
  ·have h' : j - l.length < n * l.length := by rw [Nat.add_mul, Nat.one_mul] at h; omega
   rw [if_neg hj, uR l n _ h', Nat.mod_eq_sub_mod (a := j) (by omega)]
theorem wT {z : AV} {zv : Value} (hz : VR φ A S w z zv) (n : Nat) : VRs φ A S w (dm z.cells n) ((Array.range (n * zv.cells.size)).map (zv.cells[· % zv.cells.size]!)).toList := by
 have hc := hz.cells
 have hl : zv.cells.size = z.cells.length := by rw [<- hc.1]; exact (Array.length_toList).symm
 refine ⟨by simp [kj, hl], fun j c v h1 h2 => ?_⟩
 have hj : j < n * z.cells.length := by
  have := (List.getElem?_eq_some_iff.1 h1).1
  rwa [kj] at this
 rw [uR _ _ _ hj] at h1
 have hpos : 0 < z.cells.length := by
  rcases Nat.eq_zero_or_pos z.cells.length with h0 | h0
  ·rw [h0] at hj; simp at hj
  ·exact h0
 have hm : j % z.cells.length < zv.cells.size := by rw [hl]; exact Nat.mod_lt _ hpos
 simp only [Array.toList_map, Array.toList_range, List.getElem?_map] at h2
 rw [List.getElem?_range (by rw [hl]; exact hj)] at h2
 injection h2 with h2
 rw [hl] at h2
 refine hc.2 _ _ _ h1 ?_
 rw [<- h2]
 simp [hm]
structure NewW (w w' : World) : Prop where
 same : Same w w'
 size : w'.heap.size = w.heap.size + 1
 old : ∀ k, k < w.heap.size -> w'.heap[k]? = w.heap[k]?
theorem NewW.push (w : World) (o : Obj) : NewW w { w with heap := w.heap.push o } := ⟨⟨rfl, rfl, rfl⟩, by simp, fun k hk => by simp [Array.getElem?_push, Nat.ne_of_lt hk]⟩
theorem gL (w : World) (o : Obj) : ({ w with heap := w.heap.push o } : World).heap[w.heap.size]? = some o := by simp
theorem VR.fresh (inv : Inv P B φ A S H w) {n : Nat} (hn : ¬ A n) {cap : Nat} (hw : NewW w w') {a : AV} {v : Value} (h : VR φ A S w a v) : VR (eW φ n w.heap.size cap) (eX A n) S w' a v :=
 h.mono (gR hn) (fun _ h => .inr h) (fun _ h => h) (fun _ _ _ hs hv => (dI (hw.old _ (inv.st _ hs).1)).trans hv)
theorem VRs.fresh (inv : Inv P B φ A S H w) {n : Nat} (hn : ¬ A n) {cap : Nat} (hw : NewW w w') {a : List AV} {v : List Value} (h : VRs φ A S w a v) : VRs (eW φ n w.heap.size cap) (eX A n) S w' a v :=
 h.mono (gR hn) (fun _ h => .inr h) (fun _ h => h) (fun _ _ _ hs hv => (dI (hw.old _ (inv.st _ hs).1)).trans hv)
theorem BR.row (inv : Inv P B φ A S H w) {n : Nat} (hn : ¬ A n) {cap : Nat} (hw : NewW w w') {C : List Value} {e : Nat} {fz : Nat × Nat} (hh : w'.heap[w.heap.size]? = some (.cells ⟨C⟩ e fz)) (hfz : ∀ o, o < C.length -> ¬ (fz.1 <= o /\ o < fz.2))
  {cs : List AV} {g : Bool} (hc : VRs φ A S w cs (C.take cs.length)) (hl : cs.length <= C.length) (hg : g = true -> C.length = cap * P.cellsOf e) :
  BR P (eW φ n w.heap.size cap) (eX A n) S w' n (.cells cs e g) :=
 ⟨C, fz, by rw [aW]; exact hh, hfz, hl, hc.fresh inv hn hw, by rw [aW]; exact hg⟩
theorem sW {pl : Nat -> Option (Nat × Nat)} : ∀ {ps : List (Nat × AV)} {cs ds : List AV}, gV pl cs ps = some ds -> ds.length = cs.length
 | [], cs, ds, h => by injection h with h; rw [h]
 | (i, v) :: rest, cs, ds, h => by
  unfold gV at h
  split at h
  ·cases h
  ·split at h
   ·split at h
    ·rename_i cs' hs
     rw [sW h]
     obtain ⟨h1, h2⟩ := kT hs
     rw [h2]; simp; omega
    ·cases h
   ·cases h
theorem ym (hT : TabOK P T) {ρ : Operand -> Option AV} {ev : Operand -> Value} (hρ : ∀ x a, ρ x = some a -> VR φ A S w a (ev x)) {t len e sz : Nat} {z : AV} {ps : Array (Nat × Operand)} {ps' : List (Nat × AV)} {cs : List AV} (ht : T.ty t = some (.slice e)) (hsz : T.sz e = some sz) (hz : T.zr e = some z)
  (hps : gc ρ ps.toList = some ps') (hsm : Nat.ble (len * sz) 1048576 = true) (hf : gV (fun i => some (i * sz, sz)) (dm z.cells len) ps' = some cs) :
  ∃ D, cs.length = len * sz /\ VRs φ A S w cs D /\ (Instr.buildSlice t len (ps.map fun (i, x) => (i, ev x))).run P w = .ok (.slice (some ⟨w.heap.size, 0, none⟩) len len) { w with heap := w.heap.push (.cells ⟨D⟩ e) } := by
 have hu := hT.ty _ _ ht
 obtain ⟨i, hi1, hi2⟩ := hT.sz _ _ hsz
 obtain ⟨zi, zv, hz1, hz2, hz3, hz4⟩ := hT.zr _ _ hz
 obtain rfl : zi = i := by rw [hz1] at hi1; injection hi1
 have hsm' := Nat.le_of_ble_eq_true hsm
 obtain ⟨p1, p2⟩ := qA hρ hps
 have hrep := wT (eC (φ := φ) (A := A) (S := S) (w := w) hz3) len
 obtain ⟨D, g1, g2⟩ := mP (pc := fun i => some (i * sz, sz)) (fun i x hx => hx) p1 p2 hrep hf
 have hcl : cs.length = len * sz := by
  rw [sW hf, <- hrep.1]
  simp [hz4, hi2]
 rw [hz4, hi2] at g1
 refine ⟨D, hcl, g2, ?_⟩
 have e0 : (ps.map fun (i, x) => (i, ev x)).toList = ps.toList.map fun (i, x) => (i, ev x) := by rw [Array.toList_map]
 have e1 : ∀ zz : Array Value, (len * sz = 0 -> zz = #[]) -> (len * sz ≠ 0 -> zz = zv.cells) -> (Array.range (len * sz)).map (zz[· % zz.size]!) = ⟨((Array.range (len * sz)).map (zv.cells[· % sz]!)).toList⟩ := by
  intro zz k1 k2
  by_cases h0 : len * sz = 0
  ·rw [h0]; simp
  ·rw [k2 h0, hz4, hi2]
 unfold Instr.buildSlice
 simp only [Sem.run_bind, aq hu, aN hi1, Result.andThen_ok, hi2]
 rw [if_neg (by omega)]
 by_cases h0 : len * sz = 0
 ·rw [if_pos h0]
  rw [pure_bind, e1 #[] (fun _ => rfl) (fun h => absurd h0 h), e0, g1]
  simp only [Sem.run_bind, newRow, run_newObj, Result.andThen_ok, Sem.run_pure]
 ·rw [if_neg h0]
  simp only [Sem.run_bind, bP hz1 hz2, Sem.run_pure, Result.andThen_ok]
  rw [e1 zv.cells (fun h => absurd h h0) (fun _ => rfl), e0, g1]
  simp only [Sem.run_bind, newRow, run_newObj, Result.andThen_ok, Sem.run_pure]
theorem wd (hT : TabOK P T) (inv : Inv P B φ A S H w) {ρ : Operand -> Option AV} {ev : Operand -> Value} (hρ : ∀ x a, ρ x = some a -> VR φ A S w a (ev x)) (o : Oper) {blk : AB} {f : Nat -> AV} (hv : eS T ρ o.op = some (blk, f)) :
  ∃ w' cap u, (execOp ev o).run P w = .ok (.value u) w' /\ NewW w w' /\ ∀ n, ¬ A n -> BR P (eW φ n w.heap.size cap) (eX A n) S w' n blk /\ VR (eW φ n w.heap.size cap) (eX A n) S w' (f n) u := by
 obtain ⟨dst, op, ty, pos, after, guard⟩ := o
 simp only at hv
 have ptr : ∀ (n : Nat) (w' : World), VR (eW φ n w.heap.size 0) (eX A n) S w' (.ptr n 0) (.pointer (some ⟨w.heap.size, 0, none⟩)) := fun n w' => by
  have := VR.ptr (φ := eW φ n w.heap.size 0) (A := eX A n) (S := S) (w := w') n 0 (.inl rfl)
  rwa [aW] at this
 have row : ∀ (a : AV) (x : Value) (e : Nat) (n : Nat), ¬ A n -> VR φ A S w a x -> BR P (eW φ n w.heap.size 0) (eX A n) S { w with heap := w.heap.push (.cells x.cells e) } n (.cells a.cells e false) := by
  intro a x e n hn hx
  have hc := hx.cells
  refine BR.row inv hn (NewW.push w _) (C := x.cells.toList) (fz := (0, 0)) (gL w _) (fun o _ h => Nat.not_lt_zero _ h.2) ?_ (by rw [hc.1]; exact Nat.le_refl _) (fun h => by cases h)
  rw [List.take_of_length_le (by rw [hc.1]; exact Nat.le_refl _)]; exact hc
 cases op <;> simp only [eS] at hv <;> try (cases hv; done)
 case alloc e =>
  split at hv
  ·rename_i z hz
   injection hv with hv; simp only [Prod.mk.injEq] at hv; obtain ⟨rfl, rfl⟩ := hv
   obtain ⟨zi, zv, hz1, hz2, hz3, _⟩ := hT.zr _ _ hz
   refine ⟨_, 0, _, bW (s := Instr.alloc e true (.tuple #[])) (by simp only [Instr.alloc, Sem.run_bind, bP hz1 hz2, Result.andThen_ok, newVar, newRow, run_newObj, Sem.run_pure]), NewW.push w _, fun n hn => ⟨row _ _ _ _ hn (eC hz3), ptr _ _⟩⟩
  ·cases hv
 case box e x =>
  split at hv
  ·rename_i a ha
   injection hv with hv; simp only [Prod.mk.injEq] at hv; obtain ⟨rfl, rfl⟩ := hv
   refine ⟨_, 0, _, bW (s := Instr.box e (ev x)) (by simp only [Instr.box, Sem.run_bind, Result.andThen_ok, newVar, newRow, run_newObj, Sem.run_pure]), NewW.push w _, fun n hn => ⟨row _ _ _ _ hn (hρ _ _ ha), ptr _ _⟩⟩
  ·cases hv
 case buildSlice t len ps =>
  split at hv
  ·cases hv
  split at hv
  ·rename_i e ht
   split at hv
   ·rename_i sz z ps' hsz hz hps
    split at hv
    ·rename_i hsm
     split at hv
     ·rename_i cs hf
      injection hv with hv; simp only [Prod.mk.injEq] at hv; obtain ⟨rfl, rfl⟩ := hv
      obtain ⟨D, _, g2, hrun⟩ := ym hT hρ ht hsz hz hps hsm hf
      refine ⟨_, 0, _, bW hrun, NewW.push w _, fun n hn => ⟨?_, ?_⟩⟩
      ·refine BR.row inv hn (NewW.push w _) (C := D) (fz := (0, 0)) (gL w _) (fun o _ h => Nat.not_lt_zero _ h.2) ?_ (by rw [g2.1]; exact Nat.le_refl _) (fun h => by cases h)
       rw [List.take_of_length_le (by rw [g2.1]; exact Nat.le_refl _)]; exact g2
      ·have := VR.sl (φ := eW φ n w.heap.size 0) (A := eX A n) (S := S) (w := { w with heap := w.heap.push (.cells ⟨D⟩ e) }) n 0 len (some len) len (.inl rfl) (Nat.le_refl _) (fun x hx => by injection hx) (fun hx => by cases hx)
       rwa [aW] at this
     ·cases hv
    ·cases hv
   ·cases hv
  ·cases hv
 case makeMap t r =>
  cases r with
  | some x => cases hv
  | none =>
   injection hv with hv; simp only [Prod.mk.injEq] at hv; obtain ⟨rfl, rfl⟩ := hv
   refine ⟨_, 0, .map (some w.heap.size), bW (s := Instr.makeMap t none) (w' := { w with heap := w.heap.push (.map #[] 0) }) (by rfl), NewW.push w _, fun n hn => ⟨⟨[], 0, by rw [aW]; exact gL w _, VRs.nil, VRs.nil⟩, ?_⟩⟩
   have := VR.mp (φ := eW φ n w.heap.size 0) (A := eX A n) (S := S) (w := { w with heap := w.heap.push (.map #[] 0) }) n (.inl rfl)
   rwa [aW] at this
 case range t x =>
  split at hv
  ·rename_i s ht hx
   injection hv with hv; simp only [Prod.mk.injEq] at hv; obtain ⟨rfl, rfl⟩ := hv
   have hu := hT.ty _ _ ht
   have := hρ _ _ hx
   generalize hec : ev x = ec at this
   cases this with | s _ b hb =>
   refine ⟨{ w with heap := w.heap.push (.stringIter b 0) }, 0, .pointer (some ⟨w.heap.size, 0, none⟩), ?_, NewW.push w _, fun n hn => ⟨⟨b, hb, by rw [aW]; exact gL w _⟩, ptr _ _⟩⟩
   refine bW (s := Instr.range t (ev x)) ?_
   rw [hec]
   unfold Instr.range
   simp only [Sem.run_bind, aq hu, Result.andThen_ok, Sem.run_pure, run_newObj]
  ·cases hv
 case makeSlice t l c =>
  split at hv
  ·rename_i e ht
   have hu := hT.ty _ _ ht
   split at hv
   ·rename_i sz z by_ hsz hz hby
    obtain ⟨i, hi1, hi2⟩ := hT.sz _ _ hsz
    obtain ⟨zi, zv, hz1, hz2, hz3, hz4⟩ := hT.zr _ _ hz
    obtain rfl : zi = i := by rw [hz1] at hi1; injection hi1
    obtain ⟨bi, hb1, hb2⟩ := hT.by_ _ _ hby
    obtain rfl : zi = bi := by rw [hi1] at hb1; injection hb1
    split at hv
    ·rename_i kl l' kc c' hl hc
     split at hv
     ·rename_i hb
      obtain ⟨b1, b2, b3, b4⟩ := hb
      injection hv with hv; simp only [Prod.mk.injEq] at hv; obtain ⟨rfl, rfl⟩ := hv
      have el := hρ _ _ hl
      have ec := hρ _ _ hc
      generalize hel : ev l = xl at el
      generalize hec : ev c = xc at ec
      cases el; cases ec
      have wl : IntKind.i64.wrap l' = l' := IntWalk.i64_in _ ⟨by omega, by omega⟩
      have wc : IntKind.i64.wrap c' = c' := IntWalk.i64_in _ ⟨by omega, by omega⟩
      have hrep := wT (eC (φ := φ) (A := A) (S := S) (w := w) hz3) c'.toNat
      rw [hz4, hi2] at hrep
      have hmul : (by_ : Int) * c' <= 281474976710656 := by
       have h1 : (by_ : Int) * c' <= 1048576 * c' := Int.mul_le_mul_of_nonneg_right (by omega) (by omega)
       omega
      have hrun : (Instr.makeSlice t (.int kl l') (.int kc c')).run P w = .ok (.slice (some ⟨w.heap.size, 0, none⟩) l'.toNat c'.toNat) { w with heap := w.heap.push (.cells ((Array.range (c'.toNat * sz)).map (zv.cells[· % sz]!)) e) } := by
       have e1 : ∀ zz : Array Value, (c'.toNat * sz = 0 -> zz = #[]) -> (c'.toNat * sz ≠ 0 -> zz = zv.cells) -> (Array.range (c'.toNat * sz)).map (zz[· % zz.size]!) = (Array.range (c'.toNat * sz)).map (zv.cells[· % sz]!) := by
        intro zz k1 k2
        by_cases h0 : c'.toNat * sz = 0
        ·rw [h0]; simp
        ·rw [k2 h0, hz4, hi2]
       unfold Instr.makeSlice
       simp only [Sem.run_bind, aq hu, Result.andThen_ok, asInt, asIntOf, Sem.run_pure, dG hi1, wl, wc, hb2]
       rw [if_neg (by simp only [Bool.or_eq_true, decide_eq_true_eq, not_or]; omega)]
       simp only [Sem.run_bind, run_askRoom, Result.andThen_ok, aN hi1, hi2]
       by_cases h0 : c'.toNat * sz = 0
       ·rw [if_pos h0]
        rw [pure_bind, e1 #[] (fun _ => rfl) (fun h => absurd h0 h)]
        simp only [Sem.run_bind, newRow, run_newObj, Result.andThen_ok, Sem.run_pure]
       ·rw [if_neg h0]
        simp only [Sem.run_bind, bP hz1 hz2, Sem.run_pure, Result.andThen_ok]
        rw [e1 zv.cells (fun h => absurd h h0) (fun _ => rfl)]
        simp only [Sem.run_bind, newRow, run_newObj, Result.andThen_ok, Sem.run_pure]
      refine ⟨_, 0, _, bW (s := Instr.makeSlice t (ev l) (ev c)) (by rw [hel, hec]; exact hrun), NewW.push w _, fun n hn => ⟨?_, ?_⟩⟩
      ·refine BR.row inv hn (NewW.push w _) (C := ((Array.range (c'.toNat * sz)).map (zv.cells[· % sz]!)).toList) (fz := (0, 0)) (gL w _) (fun o _ h => Nat.not_lt_zero _ h.2) ?_ (by rw [hrep.1]; exact Nat.le_refl _) (fun h => by cases h)
       rw [List.take_of_length_le (by rw [hrep.1]; exact Nat.le_refl _)]; exact hrep
      ·have := VR.sl (φ := eW φ n w.heap.size 0) (A := eX A n) (S := S) (w := { w with heap := w.heap.push (.cells ((Array.range (c'.toNat * sz)).map (zv.cells[· % sz]!)) e) }) n 0 l'.toNat (some c'.toNat) c'.toNat (.inl rfl) (by omega) (fun x hx => by injection hx) (fun hx => by cases hx)
       rwa [aW] at this
     ·cases hv
    ·cases hv
   ·cases hv
  ·cases hv
 case convert s d x =>
  split at hv
  ·rename_i ds e hts ht
   have hus := hT.ty _ _ hts
   have hu := hT.ty _ _ ht
   split at hv
   ·rename_i bs he hsz hz hx
    injection hv with hv; simp only [Prod.mk.injEq] at hv; obtain ⟨rfl, rfl⟩ := hv
    have hue := hT.ty _ _ he
    obtain ⟨i, hi1, hi2⟩ := hT.sz _ _ hsz
    have hcell : P.cellsOf e = 1 := by unfold Program.cellsOf; rw [hi1]; simpa using hi2
    have hxx := hρ _ _ hx
    generalize hec : ev x = ec at hxx
    cases hxx with | s _ b hb =>
    have hbs : b.size = bs.length := by rw [<- hb]; exact (Array.length_toList).symm
    obtain ⟨cap, hcap⟩ : ∃ cap, cap = (Question.appendCap b.size 0 e).cut (w.tape w.drawn (.appendCap b.size 0 e)) := ⟨_, rfl⟩
    have hge : b.size <= cap := by rw [hcap]; simp only [Question.cut]; omega
    let C : List Value := bs.map (fun c => Value.int .u8 c.toNat) ++ List.replicate (cap - b.size) (.int .u8 0)
    have hCl : C.length = cap := by simp [C]; omega
    let w1 : World := { w with drawn := w.drawn + 1, heap := w.heap.push (.cells ⟨C⟩ e) }
    have hmark : (markStringish ⟨w.heap.size, 0, none⟩).run P w1 = .ok () (w1.freeze ⟨w.heap.size, cap, none⟩ 1) := by
     unfold markStringish
     have : w1.shape? w.heap.size = some (e, cap) := by
      unfold World.shape?
      have : w1.heap[w.heap.size]? = some (.cells ⟨C⟩ e) := by simp [w1]
      rw [this]; simp [hCl]
     simp [this]
    have hfr : (w1.freeze ⟨w.heap.size, cap, none⟩ 1).heap[w.heap.size]? = some (.cells ⟨C⟩ e (cap, cap + 1)) := by
     unfold World.freeze
     rw [if_neg (by omega)]
     show (Array.modify (α := Obj) w1.heap w.heap.size _)[(_ : Nat)]? = _
     rw [Array.getElem?_modify, if_pos rfl]
     simp [w1]
    have hnew : NewW w (w1.freeze ⟨w.heap.size, cap, none⟩ 1) := by
     unfold World.freeze
     rw [if_neg (by omega)]
     refine ⟨⟨rfl, rfl, rfl⟩, by simp [w1], fun k hk => ?_⟩
     show (Array.modify (α := Obj) w1.heap w.heap.size _)[(_ : Nat)]? = _
     rw [Array.getElem?_modify, if_neg (by omega)]
     simp [w1, Array.getElem?_push, Nat.ne_of_lt hk]
    have hrun : (convert s d (.string b)).run P w = .ok (.slice (some ⟨w.heap.size, 0, none⟩) b.size cap) (w1.freeze ⟨w.heap.size, cap, none⟩ 1) := by
     unfold convert
     simp only [Sem.run_bind, aq hus, aq hu, Result.andThen_ok]
     have e0 : (Conv.stringToBytes e b).run P w = .ok (.slice (some ⟨w.heap.size, 0, none⟩) b.size cap) (w1.freeze ⟨w.heap.size, cap, none⟩ 1) := by
      unfold Conv.stringToBytes
      have ef : (Question.appendCap b.size 0 e).forced = false := rfl
      simp only [Sem.run_bind, run_choose, ef, Bool.false_eq_true, if_false, Result.andThen_ok, <- hcap, newRow, run_newObj, Sem.run_pure]
      have ec : (b.data.map (fun c => Value.int .u8 c.toNat)) ++ Array.replicate (cap - b.size) (.int .u8 0) = ⟨C⟩ := Array.toList_inj.1 (by simp [C, hb])
      rw [ec]
      show (Result.andThen (Sem.run P (markStringish ⟨w.heap.size, 0, none⟩) w1) _) = _
      rw [hmark]; rfl
     cases ds <;> (simp only [aq hue, Result.andThen_ok]; exact e0)
    refine ⟨_, cap, _, bW (s := convert s d (ev x)) (by rw [hec]; exact hrun), hnew, fun n hn => ⟨?_, ?_⟩⟩
    ·refine BR.row inv hn hnew hfr (fun o ho h => by rw [hCl] at ho; exact absurd h.1 (by simp only; omega)) ?_ (by rw [hCl]; simp; omega) (fun _ => by rw [hCl, hcell]; omega)
     have e1 : C.take (bs.map fun c => AV.i .u8 c.toNat).length = bs.map (fun c => Value.int .u8 c.toNat) := by simp [C]
     rw [e1]
     refine ⟨by simp, fun j c v h1 h2 => ?_⟩
     rw [List.getElem?_map] at h1 h2
     cases hq : bs[j]? with
     | none => rw [hq] at h1; cases h1
     | some q => rw [hq] at h1 h2; injection h1 with h1; injection h2 with h2; subst h1; subst h2; exact .i _ _
    ·have := VR.sl (φ := eW φ n w.heap.size cap) (A := eX A n) (S := S) (w := w1.freeze ⟨w.heap.size, cap, none⟩ 1) n 0 bs.length none cap (.inl rfl) (by omega) (fun x hx => by cases hx) (fun _ _ => by rw [aW])
     rw [aW] at this
     rwa [hbs]
   ·cases hv
  ·cases hv
end
def bp (w : World) (b : Nat) (o : Obj) : World := { w with heap := w.heap.setIfInBounds b o }
section
variable {P : Program} {T : Tab} (hT : TabOK P T) {B : Nat} {φ : Nat -> Nat × Nat} {A S : Nat -> Prop} {H : Nat -> Option AB} {w w' : World}
theorem oQ (w : World) (b : Nat) (o : Obj) : Same w (bp w b o) := ⟨rfl, rfl, rfl⟩
theorem cu (w : World) (b : Nat) (o : Obj) : (bp w b o).heap.size = w.heap.size := by simp [bp]
theorem gA {b : Nat} (h : b < w.heap.size) (o : Obj) : (bp w b o).heap[b]? = some o := by simp [bp, h]
theorem da {b k : Nat} (h : k ≠ b) (o : Obj) : (bp w b o).heap[k]? = w.heap[k]? := by
 simp only [bp]
 rw [Array.getElem?_setIfInBounds, if_neg (fun e => h e.symm)]
theorem wS (w : World) (b : Nat) (o o' : Obj) : bp (bp w b o) b o' = bp w b o' := by simp [bp]
theorem zZ {b : Nat} {o : Obj} (h : w.heap[b]? = some o) : bp w b o = w := by
 unfold bp
 have : w.heap.setIfInBounds b o = w.heap := by
  apply Array.ext_getElem?
  intro k
  rw [Array.getElem?_setIfInBounds]
  split
  ·rename_i e; subst e
   split
   ·exact h.symm
   ·rename_i hk; rw [Array.getElem?_eq_none (by omega)] at h; cases h
  ·rfl
 rw [this]
theorem wR {b o : Nat} {C : List Value} {e : Nat} {fz : Nat × Nat} (h : w.heap[b]? = some (.cells ⟨C⟩ e fz)) (v : Value) : w.setCell ⟨b, o, none⟩ v = bp w b (.cells ⟨C.set o v⟩ e fz) := by
 unfold World.setCell bp
 congr 1
 apply Array.ext_getElem?
 intro k
 rw [Array.getElem?_modify, Array.getElem?_setIfInBounds]
 split
 ·rename_i e; subst e
  have hlt := (Array.getElem?_eq_some_iff.1 h).1
  rw [if_pos hlt, h]
  simp
 ·rfl
theorem setAt {C : List Value} {o : Nat} {v : Value} {vs : List Value} (h : o + 1 + vs.length <= C.length) : (C.set o v).take (o + 1) ++ vs ++ (C.set o v).drop (o + 1 + vs.length) = C.take o ++ (v :: vs) ++ C.drop (o + (v :: vs).length) := by
 have hA : (C.take o).length = o := by rw [List.length_take]; omega
 rw [List.set_eq_take_append_cons_drop, if_pos (by omega), List.take_append, hA, List.drop_append, hA, List.take_of_length_le (by omega), List.drop_of_length_le (l := C.take o) (by omega)]
 have e1 : o + 1 - o = 1 := by omega
 have e2 : o + 1 + vs.length - o = vs.length + 1 := by omega
 have e3 : o + (v :: vs).length = o + 1 + vs.length := by simp; omega
 rw [e1, e2, e3, List.drop_succ_cons, List.drop_drop]
 simp
theorem iu : ∀ (vs : List Value) (b o : Nat) (i : Nat) (C : List Value) (e : Nat) (fz : Nat × Nat) (w : World), w.heap[b]? = some (.cells ⟨C⟩ e fz) -> (∀ o, o < C.length -> ¬ (fz.1 <= o /\ o < fz.2)) -> o + i + vs.length <= C.length ->
  (∀ v ∈ vs, v.oneCell' = true) -> (storeCells ⟨b, o, none⟩ vs i).run P w = .ok () (bp w b (.cells ⟨C.take (o + i) ++ vs ++ C.drop (o + i + vs.length)⟩ e fz))
 | [], b, o, i, C, e, fz, w, h, _, _, _ => by
  simp only [List.append_nil, List.length_nil, Nat.add_zero, List.take_append_drop]
  rw [zZ h]; rfl
 | v :: vs, b, o, i, C, e, fz, w, h, hfz, hl, hleaf => by
  have hl' : o + i + 1 + vs.length <= C.length := by simp at hl; omega
  unfold storeCells
  rw [Sem.run_bind, run_store P w _ v .plain (hleaf v (by simp)), cK, lz h]
  rw [List.getElem?_eq_getElem (show o + i < C.length by omega)]
  have hfr : w.frozen? ⟨b, o + i, none⟩ = false := by
   unfold World.frozen?
   rw [h]
   have := hfz (o + i) (by omega)
   simp only [Bool.and_eq_false_iff, decide_eq_false_iff_not]
   by_cases q : fz.1 <= o + i
   ·right; intro q2; exact this ⟨q, q2⟩
   ·left; exact q
  simp only [hfr, Bool.false_eq_true, if_false, Result.andThen_ok]
  rw [wR h]
  have hb : b < w.heap.size := (Array.getElem?_eq_some_iff.1 h).1
  rw [iu vs b o (i + 1) (C.set (o + i) v) e fz _ (gA hb _) (by simpa using hfz) (by simp; omega) (fun v hv => hleaf v (by simp [hv])), wS]
  have := setAt (v := v) (vs := vs) hl'
  rw [show o + (i + 1) = o + i + 1 by omega, this]
theorem leaf_one {a : AV} {v : Value} (h : VR φ A S w a v) (hl : a.leaf = true) : v.oneCell' = true := by
 cases h <;> first | rfl | (simp [AV.leaf] at hl)
theorem pr : ∀ {cs : List AV}, aO cs = true -> ∀ c ∈ cs, c.leaf = true
 | [], _, c, hc => by cases hc
 | c :: cs, h, d, hd => by
  unfold aO at h
  split at h
  ·rename_i hc
   rcases List.mem_cons.1 hd with rfl | hd
   ·exact hc
   ·exact pr h d hd
  ·cases h
theorem sE {cs : List AV} {vs : List Value} (h : VRs φ A S w cs vs) (hl : aO cs = true) : ∀ v ∈ vs, v.oneCell' = true := by
 intro v hv
 obtain ⟨j, hj⟩ := List.getElem?_of_mem hv
 have hlt : j < cs.length := by rw [<- h.1]; exact (List.getElem?_eq_some_iff.1 hj).1
 have hc := List.getElem?_eq_getElem hlt
 exact leaf_one (h.2 j _ v hc hj) (pr hl _ (List.getElem_mem hlt))
theorem Inv.upd (inv : Inv P B φ A S H w) {id : Nat} {b0 : AB} (hid : H id = some b0) (o : Obj) {blk : AB} (hblk : BR P φ A S (bp w (φ id).1 o) id blk) :
  Inv P B φ A S (fun j => if j = id then some blk else H j) (bp w (φ id).1 o) := by
 have hne : H id ≠ none := by rw [hid]; simp
 refine ⟨fun j b hb => ?_, fun j hA => ?_, fun j k h1 h2 h3 => ?_, fun b hb => ⟨by rw [cu]; exact (inv.st b hb).1, fun j hj => ?_⟩, fun j b hb => ?_, by rw [cu]; exact inv.hB⟩
 ·split at hb
  ·rename_i e; rw [e]; exact inv.dom _ _ hid
  ·exact inv.dom _ _ hb
 ·rw [cu]; exact inv.lo j hA
 ·have g : ∀ j, (if j = id then some blk else H j) ≠ none -> H j ≠ none := fun j h => by
   by_cases e : j = id
   ·rw [e]; exact hne
   ·rwa [if_neg e] at h
  exact inv.inj _ _ (g _ h1) (g _ h2) h3
 ·have : H j ≠ none := by
   by_cases e : j = id
   ·rw [e]; exact hne
   ·rwa [if_neg e] at hj
  exact (inv.st b hb).2 j this
 ·split at hb
  ·rename_i e; subst e; injection hb with hb; subst hb; exact hblk
  ·rename_i e
   have h1 : (φ j).1 ≠ (φ id).1 := fun q => e (inv.inj j id (by rw [hb]; simp) hne q)
   exact (inv.blk _ _ hb).mono rfl (fun _ _ => rfl) (fun _ h => h) (fun _ h => h) (fun b hs => da (fun q => (inv.st b hs).2 id hne q.symm) _) (da h1 _)
theorem VR.upd (inv : Inv P B φ A S H w) {id : Nat} {b0 : AB} (hid : H id = some b0) (o : Obj) {a : AV} {v : Value} (h : VR φ A S w a v) : VR φ A S (bp w (φ id).1 o) a v :=
 h.mono (fun _ _ => rfl) (fun _ h => h) (fun _ h => h) (fun _ _ _ hs hv => (dI (da (fun q => (inv.st _ hs).2 id (by rw [hid]; simp) q.symm) _)).trans hv)
theorem VRs.upd (inv : Inv P B φ A S H w) {id : Nat} {b0 : AB} (hid : H id = some b0) (o : Obj) {a : List AV} {v : List Value} (h : VRs φ A S w a v) : VRs φ A S (bp w (φ id).1 o) a v :=
 h.mono (fun _ _ => rfl) (fun _ h => h) (fun _ h => h) (fun _ _ _ hs hv => (dI (da (fun q => (inv.st _ hs).2 id (by rw [hid]; simp) q.symm) _)).trans hv)
theorem uA {α : Type} {C D : List α} {m o : Nat} (h1 : o + D.length <= m) (h2 : m <= C.length) : (C.take o ++ D ++ C.drop (o + D.length)).take m = (C.take m).take o ++ D ++ (C.take m).drop (o + D.length) := by
 apply List.ext_getElem?
 intro j
 have hA : (C.take o).length = o := by rw [List.length_take]; omega
 have hB : ((C.take m).take o).length = o := by rw [List.length_take, List.length_take]; omega
 rw [List.getElem?_take, List.getElem?_append, List.getElem?_append, List.getElem?_append, List.getElem?_append, List.length_append, List.length_append, hA, hB]
 by_cases c1 : j < o
 ·rw [if_pos (by omega), if_pos (by omega), if_pos c1, if_pos (by omega), if_pos c1, List.getElem?_take, List.getElem?_take, if_pos c1, if_pos c1, List.getElem?_take, if_pos (by omega)]
 ·by_cases c2 : j < o + D.length
  ·rw [if_pos (by omega), if_pos c2, if_neg c1, if_pos c2, if_neg c1]
  ·rw [if_neg c2, if_neg c2, List.getElem?_drop, List.getElem?_drop, List.getElem?_take]
   by_cases c3 : j < m
   ·rw [if_pos c3, if_pos (by omega)]
   ·rw [if_neg c3, if_neg (by omega)]
theorem iJ (inv : Inv P B φ A S H w) {id : Nat} {cs : List AV} {e : Nat} {g : Bool} (hid : H id = some (.cells cs e g)) {off : Nat} {ds : List AV} {D : List Value} (hd : VRs φ A S w ds D) (hl : aO ds = true) {cs' : List AV}
  (hs : bL cs off ds = some cs') : ∃ o, (storeCells ⟨(φ id).1, off, none⟩ D 0).run P w = .ok () (bp w (φ id).1 o) /\ BR P φ A S (bp w (φ id).1 o) id (.cells cs' e g) := by
 obtain ⟨C, fz, h1, h2, h3, h4, h5⟩ := inv.blk _ _ hid
 obtain ⟨s1, rfl⟩ := kT hs
 have hb : (φ id).1 < w.heap.size := (Array.getElem?_eq_some_iff.1 h1).1
 have hdl : D.length = ds.length := hd.1
 refine ⟨_, iu D _ off 0 C e fz w h1 h2 (by omega) (sE hd hl), ?_⟩
 have hlen : (C.take (off + 0) ++ D ++ C.drop (off + 0 + D.length)).length = C.length := by simp; omega
 have hcl : (cs.take off ++ ds ++ cs.drop (off + ds.length)).length = cs.length := by simp; omega
 refine ⟨_, fz, gA hb _, by rw [hlen]; exact h2, by rw [hlen, hcl]; exact h3, ?_, fun hg => by rw [hlen]; exact h5 hg⟩
 rw [hcl, Nat.add_zero, uA (by omega) h3, hdl]
 exact (((h4.take off).append hd).append (h4.drop _)).upd inv hid _
end
structure Step (B : Nat) (φ : Nat -> Nat × Nat) (A S : Nat -> Prop) (w : World) (φ' : Nat -> Nat × Nat) (A' S' : Nat -> Prop) (w' : World) : Prop where
 same : Same w w'
 ph : ∀ id, A id -> φ' id = φ id
 al : ∀ id, A id -> A' id
 st : ∀ b, S b -> S' b
 lowS : ∀ b, S' b -> S b ∨ B <= b
 cell : ∀ b o, S b -> w'.cell? ⟨b, o, none⟩ = w.cell? ⟨b, o, none⟩
 size : w.heap.size <= w'.heap.size
 low : ∀ k, k < B -> w'.heap[k]? = w.heap[k]?
section
variable {P : Program} {T : Tab} (hT : TabOK P T) {B : Nat} {φ φ' φ'' : Nat -> Nat × Nat} {A A' A'' S S' S'' : Nat -> Prop} {H : Nat -> Option AB} {w w' w'' : World}
theorem Step.refl : Step B φ A S w φ A S w := ⟨Same.refl w, fun _ _ => rfl, fun _ h => h, fun _ h => h, fun _ h => .inl h, fun _ _ _ => rfl, Nat.le_refl _, fun _ _ => rfl⟩
theorem Step.trans (h : Step B φ A S w φ' A' S' w') (k : Step B φ' A' S' w' φ'' A'' S'' w'') : Step B φ A S w φ'' A'' S'' w'' :=
 ⟨h.same.trans k.same, fun id a => (k.ph id (h.al id a)).trans (h.ph id a), fun id a => k.al id (h.al id a), fun b s => k.st b (h.st b s), fun b s => (k.lowS b s).elim (h.lowS b) .inr, fun b o s => (k.cell b o (h.st b s)).trans (h.cell b o s), Nat.le_trans h.size k.size,
  fun i hi => (k.low i hi).trans (h.low i hi)⟩
theorem VR.step (h : Step B φ A S w φ' A' S' w') {a : AV} {v : Value} (hv : VR φ A S w a v) : VR φ' A' S' w' a v := hv.mono h.ph h.al h.st fun b o _ s c => (h.cell b o s).trans c
theorem VRs.step (h : Step B φ A S w φ' A' S' w') {a : List AV} {v : List Value} (hv : VRs φ A S w a v) : VRs φ' A' S' w' a v := hv.mono h.ph h.al h.st fun b o _ s c => (h.cell b o s).trans c
theorem Step.new (inv : Inv P B φ A S H w) {n : Nat} (hn : ¬ A n) {cap : Nat} (hw : NewW w w') : Step B φ A S w (eW φ n w.heap.size cap) (eX A n) S w' :=
 ⟨hw.same, gR hn, fun _ h => .inr h, fun _ h => h, fun _ h => .inl h, fun _ _ hs => dI (hw.old _ (inv.st _ hs).1), by rw [hw.size]; omega, fun k hk => hw.old k (by have := inv.hB; omega)⟩
theorem Step.upd (inv : Inv P B φ A S H w) {id : Nat} {b0 : AB} (hid : H id = some b0) (o : Obj) : Step B φ A S w φ A S (bp w (φ id).1 o) :=
 ⟨oQ _ _ _, fun _ _ => rfl, fun _ h => h, fun _ h => h, fun _ h => .inl h, fun _ _ hs => dI (da (fun q => (inv.st _ hs).2 id (by rw [hid]; simp) q.symm) _), by rw [cu]; exact Nat.le_refl _,
  fun k hk => da (by have := (inv.lo _ (inv.dom _ _ hid)).1; omega) _⟩
theorem Inv.ext {H' : Nat -> Option AB} (inv : Inv P B φ A S H w) (h : ∀ j, H' j = H j) : Inv P B φ A S H' w := by
 have : H' = H := funext h
 rw [this]; exact inv
theorem bG (h : Tr AB) (id : Nat) (b : Option AB) : ∀ j, (h.put id b).get j = if j = id then b else h.get j := fun j => Tr.get_put h id b j
theorem xu (hT : TabOK P T) {h h' : Tr AB} (inv : Inv P B φ A S h.get w) {t : TypeId} {a v : AV} {x y : Value} (hx : VR φ A S w a x) (hy : VR φ A S w v y) (hs : az T h t a v = some h') :
  ∃ w', (Instr.storeAt t x y).run P w = .ok () w' /\ Step B φ A S w φ A S w' /\ Inv P B φ A S h'.get w' := by
 unfold az at hs
 split at hs
 ·rename_i n id off hn
  obtain ⟨i, hi1, hi2⟩ := hT.sz _ _ hn
  split at hs
  ·rename_i h1 h2
   split at hs
   ·rename_i cs e g hb
    split at hs
    ·rename_i cs' hset
     injection hs with hs; subst hs
     cases hx with | ptr _ _ hA =>
     have hc := hy.cells
     obtain ⟨o, r1, r2⟩ := iJ (P := P) inv hb hc h2 hset
     refine ⟨_, ?_, Step.upd inv hb o, (inv.upd hb o r2).ext (bG _ _ _)⟩
     unfold Instr.storeAt
     simp only [Instr.sureAddr, Sem.run_bind, Sem.run_pure, Result.andThen_ok, storeVar, aN hi1]
     have hsz : y.cells.size = i.size := by
      rw [hi2, <- Nat.eq_of_beq_eq_true h1, <- hc.1]; exact (Array.length_toList).symm
     rw [if_neg (by simp [hsz])]
     exact r1
    ·cases hs
   ·cases hs
  ·cases hs
 ·cases hs
theorem rK {a b : AV} {x y : Value} (hx : VR φ A S w a x) (hy : VR φ A S w b y) (h : nY a b = some true) (n : Nat) : Instr.sameBits n y x = true := by
 unfold nY at h
 split at h
 ·injection h with h; cases hx; cases hy
  have := eq_of_beq h; subst this
  unfold Instr.sameBits; simp
 ·split at h
  ·rename_i hk
   injection h with h; cases hx; cases hy
   have := eq_of_beq h; subst this; subst hk
   unfold Instr.sameBits; simp
  ·cases h
 ·injection h with h
  cases hx with | s _ p hp => cases hy with | s _ q hq =>
  have := eq_of_beq h; subst this
  have : p = q := ByteArray.ext (Array.toList_inj.1 (hp.trans hq.symm))
  subst this
  unfold Instr.sameBits; rw [tn]; simp
 ·cases h
theorem xO {d : TypeDesc} {k v : AV} (hd : kC d k = true) {x y : Value} (hx : VR φ A S w k x) (hy : VR φ A S w v y) : ∀ {es es' : List (AV × AV)} {E : List MapEntry} (i : Nat),
  VRs φ A S w (es.map (·.1)) (E.map (·.key)) -> VRs φ A S w (es.map (·.2)) (E.map (·.val)) -> updE k v es = some es' ->
  (Instr.findNow d x E i = some none /\ es' = es ++ [(k, v)]) ∨ ∃ j u e, Instr.findNow d x E i = some (some (i + j, u)) /\ E[j]? = some e /\ Instr.sameBits 10000 e.key x = true /\
   VRs φ A S w (es'.map (·.1)) ((E.modify j fun e => { e with key := x, val := y }).map (·.key)) /\ VRs φ A S w (es'.map (·.2)) ((E.modify j fun e => { e with key := x, val := y }).map (·.val))
 | [], es', E, i, h1, h2, h => by
  injection h with h; subst h
  have := h1.1
  cases E with
  | nil => exact .inl ⟨rfl, rfl⟩
  | cons e E => simp at this
 | (k', v') :: es, es', E, i, h1, h2, h => by
  cases E with
  | nil => have := h1.1; simp at this
  | cons e E =>
   have hk := h1.2 0 k' e.key rfl rfl
   have hv := h2.2 0 v' e.val rfl rfl
   have t1 : VRs φ A S w (es.map (·.1)) (E.map (·.key)) := ⟨by have := h1.1; simpa using this, fun j c' v' q1 q2 => h1.2 (j + 1) c' v' (by simpa using q1) (by simpa using q2)⟩
   have t2 : VRs φ A S w (es.map (·.2)) (E.map (·.val)) := ⟨by have := h2.1; simpa using this, fun j c' v' q1 q2 => h2.2 (j + 1) c' v' (by simpa using q1) (by simpa using q2)⟩
   unfold updE at h
   split at h
   ·rename_i hq
    injection h with h; subst h
    refine .inr ⟨0, e.val, e, ?_, rfl, rK hx hk hq _, ?_, ?_⟩
    ·unfold Instr.findNow; rw [dZ hd hx hk hq]; rfl
    ·simpa using VRs.cons hx t1
    ·simpa using VRs.cons hy t2
   ·rename_i hq
    cases hu : updE k v es with
    | none => rw [hu] at h; cases h
    | some es1 =>
     rw [hu] at h; injection h with h; subst h
     rcases xO hd hx hy (i + 1) t1 t2 hu with ⟨f1, rfl⟩ | ⟨j, u, e', f1, f2, f3, f4, f5⟩
     ·refine .inl ⟨?_, rfl⟩
      unfold Instr.findNow; rw [dZ hd hx hk hq]; exact f1
     ·refine .inr ⟨j + 1, u, e', ?_, by simpa using f2, f3, ?_, ?_⟩
      ·unfold Instr.findNow; rw [dZ hd hx hk hq]; rw [show i + (j + 1) = i + 1 + j by omega]; exact f1
      ·simpa using VRs.cons hk f4
      ·simpa using VRs.cons hv f5
   ·cases h
theorem kF (hT : TabOK P T) {h h' : Tr AB} (inv : Inv P B φ A S h.get w) {t : TypeId} {m k v : AV} {xm xk xv : Value} (hm : VR φ A S w m xm) (hk : VR φ A S w k xk) (hv : VR φ A S w v xv) (hs : fi T h t m k v = some h') :
  ∃ w', (Instr.mapUpdate t xm xk xv).run P w = .ok () w' /\ Step B φ A S w φ A S w' /\ Inv P B φ A S h'.get w' := by
 unfold fi at hs
 split at hs
 ·rename_i kt et ht
  have hu := hT.ty _ _ ht
  split at hs
  ·rename_i kd hkt
   have hku := hT.ty _ _ hkt
   split at hs
   ·rename_i id hkd
    split at hs
    ·rename_i es hb
     split at hs
     ·rename_i es' hup
      injection hs with hs; subst hs
      cases hm with | mp _ hA =>
      obtain ⟨E, clk, b1, b2, b3⟩ := inv.blk _ _ hb
      have hlt : (φ id).1 < w.heap.size := (Array.getElem?_eq_some_iff.1 b1).1
      have set : ∀ (E' : Array MapEntry) (c : Nat), (setObj (φ id).1 (.map E' c)).run P w = .ok () (bp w (φ id).1 (.map E' c)) := by
       intro E' c
       simp [setObj, Sem.run, b1, bp]
      unfold Instr.mapUpdate
      simp only [Sem.run_bind, aq hu, Result.andThen_ok, ig b1, iq hku hkd hk]
      rcases xO hkd hk hv 0 b2 b3 hup with ⟨f1, rfl⟩ | ⟨j, u, e, f1, f2, f3, f4, f5⟩
      ·have ff : (Instr.findKey kt xk E).run P w = .ok none w := by
        simp only [Instr.findKey, Sem.run_bind, aq hku, Result.andThen_ok, f1, Sem.run_pure]
       simp only [ff, Result.andThen_ok, set]
       refine ⟨_, rfl, Step.upd inv hb _, (inv.upd hb (.map ((⟨E⟩ : Array MapEntry).push { key := xk, val := xv, born := clk }) (clk + 1)) (blk := .map (es ++ [(k, v)])) ⟨E ++ [{ key := xk, val := xv, born := clk }], clk + 1, ?_, ?_, ?_⟩).ext (bG _ _ _)⟩
       ·rw [gA hlt]; simp
       ·rw [List.map_append, List.map_append]; exact (b2.append (VRs.cons hk VRs.nil)).upd inv hb _
       ·rw [List.map_append, List.map_append]; exact (b3.append (VRs.cons hv VRs.nil)).upd inv hb _
      ·have ff : (Instr.findKey kt xk E).run P w = .ok (some (j, u)) w := by
        simp only [Instr.findKey, Sem.run_bind, aq hku, Result.andThen_ok, f1, Sem.run_pure, Nat.zero_add]
       have f2' : (⟨E⟩ : Array MapEntry)[j]? = some e := by simpa using f2
       simp only [ff, Result.andThen_ok, f2', Option.map_some, Option.getD_some, Instr.keyThatStays, f3, if_true, Sem.run_bind, Sem.run_pure, set]
       refine ⟨_, rfl, Step.upd inv hb _, (inv.upd hb (.map ((⟨E⟩ : Array MapEntry).modify j fun e => { e with key := xk, val := xv }) clk) (blk := .map es') ⟨E.modify j fun e => { e with key := xk, val := xv }, clk, ?_, ?_, ?_⟩).ext (bG _ _ _)⟩
       ·rw [gA hlt]
        have : (⟨E⟩ : Array MapEntry).modify j (fun e => { e with key := xk, val := xv }) = ⟨E.modify j fun e => { e with key := xk, val := xv }⟩ := Array.toList_inj.1 (by simp)
        rw [this]
       ·exact f4.upd inv hb _
       ·exact f5.upd inv hb _
     ·cases hs
    ·cases hs
   ·cases hs
  ·cases hs
 ·cases hs
theorem AA {σ σ' : AS} (inv : Inv P B φ A S σ.h.get w) {it v : AV} {x : Value} (hx : VR φ A S w it x) (ty : TypeId) (hs : gW σ it = some (v, σ')) :
  ∃ w' u, (Instr.next x true ty).run P w = .ok u w' /\ Step B φ A S w φ A S w' /\ Inv P B φ A S σ'.h.get w' /\ σ'.n = σ.n /\ VR φ A S w' v u := by
 unfold gW at hs
 split at hs
 ·rename_i id
  split at hs
  ·rename_i s pos hb
   cases hx with | ptr _ _ hA =>
   obtain ⟨t, b1, b2⟩ := inv.blk _ _ hb
   have hlt : (φ id).1 < w.heap.size := (Array.getElem?_eq_some_iff.1 b2).1
   have hget : (getObj (φ id).1).run P w = .ok (.stringIter t pos) w := by simp [getObj, Sem.run, b2]
   have hsz : t.size = s.length := by rw [<- b1]; exact (Array.length_toList).symm
   have ht : t = ⟨⟨s⟩⟩ := by obtain ⟨⟨l⟩⟩ := t; simp only at b1; rw [b1]
   have hrun : (Instr.next (.pointer (some ⟨(φ id).1, 0, none⟩)) true ty).run P w = (if pos < t.size then (do
       setObj (φ id).1 (.stringIter t (pos + (Utf8.decode t pos).2))
       pure (.tuple #[.bool true, goInt pos, .int .i32 (Utf8.decode t pos).1]))
      else pure (.tuple #[.bool false]) : Sem Value).run P w := by
    unfold Instr.next
    simp only [Sem.run_bind, hget, Result.andThen_ok]
   rw [hrun]
   split at hs
   ·rename_i hl
    have hl' := Nat.le_of_ble_eq_true hl
    rw [if_pos (by omega)]
    cases hd : Utf8.decode ⟨⟨s⟩⟩ pos with
    | mk c width =>
     rw [hd] at hs
     injection hs with hs; simp only [Prod.mk.injEq] at hs; obtain ⟨rfl, rfl⟩ := hs
     rw [<- ht] at hd
     rw [hd]
     have set : (setObj (φ id).1 (.stringIter t (pos + width))).run P w = .ok () (bp w (φ id).1 (.stringIter t (pos + width))) := by simp [setObj, Sem.run, b2, bp]
     simp only [Sem.run_bind, set, Result.andThen_ok, Sem.run_pure]
     exact ⟨_, _, rfl, Step.upd inv hb _, (inv.upd hb (.stringIter t (pos + width)) (blk := .siter s (pos + width)) ⟨t, b1, gA hlt _⟩).ext (bG _ _ _), by first | rfl | trivial, .tup _ _ rfl (VRs.cons (.b true) (VRs.cons (.i .i64 (pos : Int)) (VRs.cons (.i .i32 (c : Int)) VRs.nil))).2⟩
   ·rename_i hl
    injection hs with hs; simp only [Prod.mk.injEq] at hs; obtain ⟨rfl, rfl⟩ := hs
    have : ¬ pos + 1 <= s.length := fun q => by rw [Nat.ble_eq_true_of_le q] at hl; cases hl
    rw [if_neg (by omega)]
    exact ⟨_, _, rfl, Step.refl, inv, rfl, .tup _ _ rfl (VRs.cons (.b false) VRs.nil).2⟩
  ·cases hs
 ·cases hs
end
section
variable {P : Program} {T : Tab} (hT : TabOK P T) {B : Nat} {φ φ' φ'' : Nat -> Nat × Nat} {A A' A'' S S' S'' : Nat -> Prop} {H : Nat -> Option AB} {w w' w'' : World}
theorem yn {a : AV} {x : Value} (hx : VR φ A S w a x) {n : Nat} (h : iW a = some n) (w' : World) : (Builtin.lenOf x).run P w' = .ok n w' := by
 unfold iW at h
 split at h <;> first | (cases h; done) | skip
 all_goals (injection h with h; subst h)
 ·cases hx; rfl
 ·cases hx; rfl
 ·obtain ⟨p, c, z', rfl, _⟩ := hx.lst_inv; rfl
 ·cases hx with | s _ q hq =>
  unfold Builtin.lenOf
  rw [<- hq, Sem.run_pure]; congr 1
theorem tU {h : Tr AB} {z n m : Nat} {a : AV} {cs : List AV} (hl : bM h z n a = some cs) (hm : iW a = some m) (hn : n <= m) : cs.length = n * z := by
 have sc : ∀ {k : Nat} {a : AV} {cs : List AV}, bg h k a = some cs -> cs.length = k := by
  intro k a cs hl
  unfold bg at hl
  split at hl
  ·split at hl
   ·injection hl with hl; subst hl; rfl
   ·cases hl
  ·split at hl
   ·obtain ⟨k1, rfl⟩ := eM hl; rw [List.length_take]; omega
   ·cases hl
  ·obtain ⟨k1, rfl⟩ := eM hl; rw [List.length_take]; omega
  ·cases hl
 unfold bM at hl
 split at hl
 ·split at hl
  ·injection hl with hl; subst hl
   injection hm with hm
   rw [List.length_map, List.length_take]; omega
  ·cases hl
 ·exact sc hl
theorem kK {st xt ty : TypeId} {e : TypeId} {i : TypeInfo} {xd : TypeDesc} (hst : P.underlying st = some (.slice e)) (hi : P.info? e = some i) (hxt : P.underlying xt = some xd) (hxd : (∃ e', xd = .slice e') ∨ xd = .string)
  {base : Option Addr} {l c n : Nat} {ex : Value} (hlen : (Builtin.lenOf ex).run P w = .ok n w) (hle : l + n <= c) {new : Array Value} (hnew : (Builtin.firstCells i.size n ex).run P w = .ok new w)
  (hb : ∀ a, base = some a -> (storeCells (a.add (l * i.size)) new.toList 0).run P w = .ok () w') (hn : base = none -> w' = w) :
  (Builtin.append_ #[st, xt] ty #[.slice base l c, ex]).run P w = .ok (.slice base (l + n) c) w' := by
 rcases hxd with ⟨e', rfl⟩ | rfl
 ·cases base with
  | none => obtain rfl := hn rfl; simp [Builtin.append_, aq hst, aq hxt, aN hi, hlen, hle, hnew]
  | some a => simp [Builtin.append_, aq hst, aq hxt, aN hi, hlen, hle, hnew, hb a rfl]
 ·cases base with
  | none => obtain rfl := hn rfl; simp [Builtin.append_, aq hst, aq hxt, aN hi, hlen, hle, hnew]
  | some a => simp [Builtin.append_, aq hst, aq hxt, aN hi, hlen, hle, hnew, hb a rfl]
theorem nd {st xt ty : TypeId} {e : TypeId} {i : TypeInfo} {z : Value} {xd : TypeDesc} (hst : P.underlying st = some (.slice e)) (hi : P.info? e = some i) (hz : i.zero = some z) (hxt : P.underlying xt = some xd) (hxd : (∃ e', xd = .slice e') ∨ xd = .string)
  {base : Option Addr} {l c n : Nat} {ex : Value} (hlen : (Builtin.lenOf ex).run P w = .ok n w) (hgt : c < l + n) (hs1 : l + n <= 140737488351232) (hs2 : (l + n) * i.bytes <= 140737488351232) {old new : Array Value}
  (hold : (Builtin.firstCells i.size l (.slice base l c)).run P w.drew = .ok old w.drew) (hnew : (Builtin.firstCells i.size n ex).run P w.drew = .ok new w.drew) :
  (Builtin.append_ #[st, xt] ty #[.slice base l c, ex]).run P w = .ok (.slice (some ⟨w.heap.size, 0, none⟩) (l + n) (grownCap w (l + n) c e))
   (w.drew.alloc (.cells (old ++ new ++ Builtin.zeroCells z.cells (grownCap w (l + n) c e - (l + n))) e)) := by
 have hle : ¬ (l + n <= c) := by omega
 have hfit : Builtin.nextslicecap (l + n) c * i.bytes <= 281474976710656 := growslice_fits hgt (by omega)
 have h48 : ¬ (281474976710656 < Builtin.nextslicecap (l + n) c * i.bytes) := by omega
 have h63 : ¬ (9223372036854775807 < ((l : Int) + (n : Int))) := by omega
 rcases hxd with ⟨e', rfl⟩ | rfl
 ·simp [Builtin.append_, aq hst, aq hxt, aN hi, dG hi, bP hi hz, hlen, hle, h48, h63, Question.forced, hold, hnew, newRow, grownCap]
 ·simp [Builtin.append_, aq hst, aq hxt, aN hi, dG hi, bP hi hz, hlen, hle, h48, h63, Question.forced, hold, hnew, newRow, grownCap]
theorem Inv.drew (inv : Inv P B φ A S H w) : Inv P B φ A S H w.drew :=
 ⟨inv.dom, inv.lo, inv.inj, inv.st, fun id b hb => (inv.blk id b hb).mono rfl (fun _ _ => rfl) (fun _ h => h) (fun _ h => h) (fun _ _ => rfl) rfl, inv.hB⟩
theorem VR.drew {a : AV} {v : Value} (h : VR φ A S w a v) : VR φ A S w.drew a v := VR.mono (w := w) (w' := w.drew) (fun _ _ => rfl) (fun _ h => h) (fun _ h => h) (fun _ _ _ _ h => h) h
theorem VRs.undrew {a : List AV} {v : List Value} (h : VRs φ A S w.drew a v) : VRs φ A S w a v := VRs.mono (w := w.drew) (w' := w) (fun _ _ => rfl) (fun _ h => h) (fun _ h => h) (fun _ _ _ _ h => h) h
theorem Inv.kill (inv : Inv P B φ A S H w) (id : Nat) : Inv P B φ A S (fun j => if j = id then none else H j) w := by
 have g : ∀ j, (if j = id then none else H j) ≠ none -> H j ≠ none := fun j h => by
  by_cases e : j = id
  ·rw [if_pos e] at h; exact absurd rfl h
  ·rwa [if_neg e] at h
 refine ⟨fun j b hb => ?_, inv.lo, fun j k h1 h2 h3 => inv.inj _ _ (g _ h1) (g _ h2) h3, fun b hb => ⟨(inv.st b hb).1, fun j hj => (inv.st b hb).2 j (g _ hj)⟩, fun j b hb => ?_, inv.hB⟩
 ·split at hb
  ·cases hb
  ·exact inv.dom _ _ hb
 ·split at hb
  ·cases hb
  ·exact inv.blk _ _ hb
theorem Inv.move (inv : Inv P B φ A S H w) {id : Nat} {b0 : AB} (hid : H id = some b0) {n : Nat} (hn : ¬ A n) (o : Obj) {blk : AB} (hblk : BR P (eW φ n (φ id).1 (φ id).2) (eX A n) S (bp w (φ id).1 o) n blk) :
  Inv P B (eW φ n (φ id).1 (φ id).2) (eX A n) S (fun j => if j = n then some blk else if j = id then none else H j) (bp w (φ id).1 o) := by
 have hφ := gR (φ := φ) (b := (φ id).1) (cap := (φ id).2) hn
 have hne : H id ≠ none := by rw [hid]; simp
 have live : ∀ j, H j ≠ none -> A j := fun j h => by
  cases h' : H j with
  | none => exact absurd h' h
  | some b => exact inv.dom _ _ h'
 have hidA := live id hne
 have hnid : n ≠ id := fun e => hn (e ▸ hidA)
 have g : ∀ j, j ≠ n -> (if j = n then some blk else if j = id then none else H j) ≠ none -> H j ≠ none /\ j ≠ id := fun j e h => by
  rw [if_neg e] at h
  by_cases e2 : j = id
  ·rw [if_pos e2] at h; exact absurd rfl h
  ·rw [if_neg e2] at h; exact ⟨h, e2⟩
 refine ⟨fun j b hb => ?_, fun j hA => ?_, fun j k h1 h2 h3 => ?_, fun b hb => ⟨by rw [cu]; exact (inv.st b hb).1, fun j hj => ?_⟩, fun j b hb => ?_, by rw [cu]; exact inv.hB⟩
 ·split at hb
  ·rename_i e; exact .inl e
  ·split at hb
   ·cases hb
   ·exact .inr (inv.dom _ _ hb)
 ·rw [cu]
  rcases hA with rfl | hA
  ·rw [aW]; exact inv.lo _ hidA
  ·rw [hφ _ hA]; exact inv.lo _ hA
 ·by_cases e1 : j = n <;> by_cases e2 : k = n
  ·rw [e1, e2]
  ·obtain ⟨l2, n2⟩ := g k e2 h2
   rw [e1, aW, hφ _ (live _ l2)] at h3
   exact absurd (inv.inj _ _ hne l2 h3).symm n2
  ·obtain ⟨l1, n1⟩ := g j e1 h1
   rw [e2, aW, hφ _ (live _ l1)] at h3
   exact absurd (inv.inj _ _ l1 hne h3) n1
  ·obtain ⟨l1, _⟩ := g j e1 h1
   obtain ⟨l2, _⟩ := g k e2 h2
   rw [hφ _ (live _ l1), hφ _ (live _ l2)] at h3
   exact inv.inj _ _ l1 l2 h3
 ·by_cases e1 : j = n
  ·rw [e1, aW]; exact (inv.st b hb).2 id hne
  ·obtain ⟨l1, _⟩ := g j e1 hj
   rw [hφ _ (live _ l1)]; exact (inv.st b hb).2 j l1
 ·split at hb
  ·rename_i e; subst e; injection hb with hb; subst hb; exact hblk
  ·split at hb
   ·cases hb
   ·rename_i e1 e2
    have h1 : (φ j).1 ≠ (φ id).1 := fun q => e2 (inv.inj j id (by rw [hb]; simp) hne q)
    exact (inv.blk _ _ hb).mono (hφ _ (inv.dom _ _ hb)) hφ (fun _ h => .inr h) (fun _ h => h) (fun b hs => da (fun q => (inv.st b hs).2 id hne q.symm) _) (da h1 _)
theorem Step.move (inv : Inv P B φ A S H w) {id : Nat} {b0 : AB} (hid : H id = some b0) {n : Nat} (hn : ¬ A n) (o : Obj) : Step B φ A S w (eW φ n (φ id).1 (φ id).2) (eX A n) S (bp w (φ id).1 o) :=
 ⟨oQ _ _ _, gR hn, fun _ h => .inr h, fun _ h => h, fun _ h => .inl h, fun _ _ hs => dI (da (fun q => (inv.st _ hs).2 id (by rw [hid]; simp) q.symm) _), by rw [cu]; exact Nat.le_refl _,
  fun k hk => da (by have := (inv.lo _ (inv.dom _ _ hid)).1; omega) _⟩
theorem yP (inv : Inv P B φ A S H w) {n : Nat} (hn : ¬ A n) {olds news : List AV} {O N : List Value} (ho : VRs φ A S w olds O) (hnw : VRs φ A S w news N) {z : Value} {e : Nat} {i : TypeInfo} (hi : P.info? e = some i) (hz : z.cells.size = i.size)
  {l m need c : Nat} (hO : olds.length = l * i.size) (hN : news.length = m * i.size) (hneed : need = l + m) :
  Step B φ A S w (eW φ n w.heap.size (grownCap w need c e)) (eX A n) S (w.drew.alloc (.cells (O.toArray ++ N.toArray ++ Builtin.zeroCells z.cells (grownCap w need c e - need)) e)) /\
  Inv P B (eW φ n w.heap.size (grownCap w need c e)) (eX A n) S (fun j => if j = n then some (.cells (olds ++ news) e true) else H j) (w.drew.alloc (.cells (O.toArray ++ N.toArray ++ Builtin.zeroCells z.cells (grownCap w need c e - need)) e)) /\
  VR (eW φ n w.heap.size (grownCap w need c e)) (eX A n) S (w.drew.alloc (.cells (O.toArray ++ N.toArray ++ Builtin.zeroCells z.cells (grownCap w need c e - need)) e)) (.sl n 0 need none) (.slice (some ⟨w.heap.size, 0, none⟩) need (grownCap w need c e)) := by
 have hge := grownCap_ge w need c e
 obtain ⟨cap, hcap⟩ : ∃ cap, cap = grownCap w need c e := ⟨_, rfl⟩
 rw [<- hcap] at hge |-
 have hw : NewW w (w.drew.alloc (.cells (O.toArray ++ N.toArray ++ Builtin.zeroCells z.cells (cap - need)) e)) := by
  have := NewW.push w.drew (.cells (O.toArray ++ N.toArray ++ Builtin.zeroCells z.cells (cap - need)) e)
  exact ⟨⟨rfl, rfl, rfl⟩, this.size, this.old⟩
 have hcat := ho.append hnw
 have hC : (O.toArray ++ N.toArray ++ Builtin.zeroCells z.cells (cap - need)) = ⟨O ++ N ++ (Builtin.zeroCells z.cells (cap - need)).toList⟩ := Array.toList_inj.1 (by simp)
 have hzl : (Builtin.zeroCells z.cells (cap - need)).toList.length = (cap - need) * i.size := by rw [Array.length_toList, size_zeroCells, hz]
 have hlen : (O ++ N).length = need * i.size := by rw [hcat.1, List.length_append, hO, hN, <- Nat.add_mul, hneed]
 have hcell : P.cellsOf e = i.size := by unfold Program.cellsOf; rw [hi]; rfl
 refine ⟨Step.new inv hn hw, inv.new hn hw.size hw.old ?_, ?_⟩
 ·refine BR.row inv hn hw (C := O ++ N ++ (Builtin.zeroCells z.cells (cap - need)).toList) (fz := (0, 0)) ?_ (fun o _ h => Nat.not_lt_zero _ h.2) ?_ ?_ (fun _ => ?_)
  ·rw [hC]; exact gL w.drew _
  ·rw [<- hcat.1, List.take_left']
   ·exact hcat
   ·rfl
  ·rw [List.length_append (as := O ++ N), hcat.1]; exact Nat.le_add_right _ _
  ·rw [List.length_append, hlen, hzl, hcell, <- Nat.add_mul]; congr 1; omega
 ·have := VR.sl (φ := eW φ n w.heap.size cap) (A := eX A n) (S := S) (w := w.drew.alloc (.cells (O.toArray ++ N.toArray ++ Builtin.zeroCells z.cells (cap - need)) e)) n 0 need none cap (.inl rfl) hge (fun x hx => by cases hx) (fun _ _ => by rw [aW])
  rwa [aW] at this
theorem mr {n : Nat} (hb : ∀ id, A id -> id < n) : ∀ id, eX A n id -> id < n + 1 := fun id h => by
 rcases h with rfl | h
 ·exact Nat.lt_succ_self _
 ·have := hb id h; omega
theorem not_A {n : Nat} (hb : ∀ id, A id -> id < n) : ¬ A n := fun h => Nat.lt_irrefl _ (hb n h)
def Res (P : Program) (B : Nat) (φ : Nat -> Nat × Nat) (A S : Nat -> Prop) (w : World) (σ' : AS) (v : AV) (r : Result Value) : Prop :=
 ∃ w' φ' A' u, r = .ok u w' /\ Step B φ A S w φ' A' S w' /\ Inv P B φ' A' S σ'.h.get w' /\ (∀ id, A' id -> id < σ'.n) /\ VR φ' A' S w' v u
theorem wj (hT : TabOK P T) {σ σ' : AS} (inv : Inv P B φ A S σ.h.get w) (hb : ∀ id, A id -> id < σ.n) {st xt ty : TypeId} {s x v : AV} {es ex : Value} (hs : VR φ A S w s es) (hx : VR φ A S w x ex) (hv : aG T σ st xt s x = some (v, σ')) :
  Res P B φ A S w σ' v ((Builtin.append_ #[st, xt] ty #[es, ex]).run P w) := by
 unfold aG at hv
 split at hv
 case h_2 => cases hv
 rename_i e hst
 have hst' := hT.ty _ _ hst
 split at hv
 case h_2 => cases hv
 rename_i z by_ xd n zz hsz hby hxt hlx hzr
 have hxt' := hT.ty _ _ hxt
 obtain ⟨i, hi1, hi2⟩ := hT.sz _ _ hsz
 obtain ⟨i', hi1', hi2'⟩ := hT.by_ _ _ hby
 obtain rfl : i' = i := by rw [hi1'] at hi1; injection hi1
 obtain ⟨zi, zv, hz1, hz2, hz3, hz4⟩ := hT.zr _ _ hzr
 obtain rfl : zi = i' := by rw [hz1] at hi1; injection hi1
 replace hi2 : zi.size = z + 1 := hi2
 split at hv
 case h_1 => cases hv
 rename_i hxd
 have hxd' : (∃ e', xd = .slice e') ∨ xd = .string := by
  cases xd <;> simp at hxd |-
 split at hv
 case h_1 => cases hv
 rename_i news hnews
 have hnl : news.length = n * zi.size := by rw [tU hnews hlx (Nat.le_refl _), hi2]
 have hlen := yn (P := P) hx hlx
 obtain ⟨N, hN1, hN2⟩ := eQ (P := P) inv.blk hx hnews
 obtain ⟨N', hN1', hN2'⟩ := eQ (P := P) inv.drew.blk hx.drew hnews
 rw [<- hi2] at hN2 hN2'
 have hn := not_A hb
 have hcell : P.cellsOf e = zi.size := by unfold Program.cellsOf; rw [hz1]; rfl
 have none0 : ∀ (b : Option Addr) (l c : Nat), n = 0 -> l <= c -> (Builtin.append_ #[st, xt] ty #[.slice b l c, ex]).run P w = .ok (.slice b l c) w := by
  intro b l c h0 hlc
  subst h0
  have hN0 : N = [] := by
   have := hN1.1; rw [hnl, Nat.zero_mul] at this
   exact List.eq_nil_of_length_eq_zero this
  subst hN0
  exact kK hst' hi1' hxt' hxd' (hlen w) (n := 0) hlc hN2 (fun a _ => rfl) (fun _ => rfl)
 have grows : ∀ (b : Option Addr) (l c : Nat) (olds : List AV) (O' : List Value), c < l + n -> cq (l + n) by_ = true -> olds.length = l * zi.size -> VRs φ A S w.drew olds O' ->
   (Builtin.firstCells zi.size l (.slice b l c)).run P w.drew = .ok O'.toArray w.drew -> (v, σ') = iD σ olds news e (l + n) -> Res P B φ A S w σ' v ((Builtin.append_ #[st, xt] ty #[.slice b l c, ex]).run P w) := by
  intro b l c olds O' hgt hsm hol hO1 hO2 hvs
  simp only [cq, Bool.and_eq_true] at hsm
  obtain ⟨⟨s1, s2⟩, s3⟩ := hsm
  have s1' := Nat.le_of_ble_eq_true s1
  have s3' := Nat.le_of_ble_eq_true s3
  injection hvs with hv1 hv2; subst hv1; subst hv2
  have hrun := nd (ty := ty) hst' hi1' hz2 hxt' hxd' (hlen w) hgt s1' (by rw [hi2']; exact s3') hO2 hN2'
  obtain ⟨g1, g2, g3⟩ := yP inv hn hO1.undrew hN1'.undrew hi1' hz4 hol hnl (c := c) rfl
  exact ⟨_, _, _, _, hrun, g1, g2.ext (bG _ _ _), mr hb, g3⟩
 have grow : ∀ (l c : Nat) (olds : List AV), c < l + n -> cq (l + n) by_ = true -> bg σ.h (l * (z + 1)) s = some olds -> (∃ b, es = .slice b l c) -> (v, σ') = iD σ olds news e (l + n) ->
   Res P B φ A S w σ' v ((Builtin.append_ #[st, xt] ty #[es, ex]).run P w) := by
  intro l c olds hgt hsm hol hes hvs
  obtain ⟨b, rfl⟩ := hes
  have hne : ∀ q, s ≠ .s q := fun q hq => by subst hq; cases hs
  have hol' : bM σ.h (z + 1) l s = some olds := by
   unfold bM
   split
   ·rename_i q; exact absurd rfl (hne q)
   ·exact hol
  obtain ⟨O', hO1', hO2'⟩ := eQ (P := P) inv.drew.blk hs.drew hol'
  have holl : olds.length = l * (z + 1) := by
   rcases fW inv.blk hs hol with ⟨_, _, _, rfl, h0⟩ | ⟨_, _, _, _, _, hl, _⟩
   ·rw [h0]; rfl
   ·exact hl
  rw [<- hi2] at holl hO2'
  exact grows b l c olds O' hgt hsm holl hO1' hO2' hvs
 have fits : ∀ (id off l c : Nat) (cs : List AV) (e' : Nat) (g : Bool) (cs' : List AV), σ.h.get id = some (.cells cs e' g) -> aO news = true -> bL cs (off + l * (z + 1)) news = some cs' -> l + n <= c -> es = .slice (some ⟨(φ id).1, off, none⟩) l c ->
   ∃ o, (Builtin.append_ #[st, xt] ty #[es, ex]).run P w = .ok (.slice (some ⟨(φ id).1, off, none⟩) (l + n) c) (bp w (φ id).1 o) /\ Step B φ A S w φ A S (bp w (φ id).1 o) /\ Inv P B φ A S (σ.h.put id (some (.cells cs' e' g))).get (bp w (φ id).1 o) := by
  intro id off l c cs e' g cs' hid hleaf hset hle hes
  subst hes
  obtain ⟨o, r1, r2⟩ := iJ (P := P) inv hid hN1 hleaf hset
  refine ⟨o, kK hst' hi1' hxt' hxd' (hlen w) hle hN2 (fun a ha => ?_) (fun h => by cases h), Step.upd inv hid o, (inv.upd hid o r2).ext (bG _ _ _)⟩
  injection ha with ha; subst ha
  rw [cK, hi2]; exact r1
 split at hv
 ·
  cases hs with | nilz _ p hp =>
  split at hv
  ·injection hv with hv; simp only [Prod.mk.injEq] at hv; obtain ⟨rfl, rfl⟩ := hv
   exact ⟨w, φ, A, _, none0 _ 0 0 rfl (Nat.le_refl _), Step.refl, inv, hb, .nilz _ _ hp⟩
  ·rename_i m
   split at hv
   ·rename_i hsm
    injection hv with hv
    refine grow 0 0 [] (by omega) (by rw [Nat.zero_add]; exact hsm) (by rw [Nat.zero_mul]; rfl) ⟨_, rfl⟩ (by rw [Nat.zero_add]; exact hv.symm)
   ·cases hv
 ·
  rename_i id off l c
  cases hs with | sl _ _ _ _ c' q1 q2 q3 q4 =>
  obtain rfl := q3 _ rfl
  split at hv
  ·rename_i hle
   have hle' := Nat.le_of_ble_eq_true hle
   split at hv
   ·injection hv with hv; simp only [Prod.mk.injEq] at hv; obtain ⟨rfl, rfl⟩ := hv
    exact ⟨w, φ, A, _, none0 _ _ _ rfl q2, Step.refl, inv, hb, .sl _ _ _ _ _ q1 q2 q3 q4⟩
   ·split at hv
    ·rename_i cs e' g hid hleaf
     split at hv
     ·rename_i cs' hset
      injection hv with hv; simp only [Prod.mk.injEq] at hv; obtain ⟨rfl, rfl⟩ := hv
      obtain ⟨o, k1, k2, k3⟩ := fits id off l c' cs e' g cs' hid hleaf hset hle' rfl
      exact ⟨_, φ, A, _, k1, k2, k3, hb, .sl _ _ _ _ _ q1 hle' q3 (fun h => by cases h)⟩
     ·cases hv
    ·cases hv
  ·rename_i hle
   have hgt : c' < l + n := by
    rcases Nat.lt_or_ge c' (l + n) with h | h
    ·exact h
    ·rw [Nat.ble_eq_true_of_le h] at hle; cases hle
   split at hv
   ·rename_i olds hsm hol
    injection hv with hv
    exact grow l c' olds hgt hsm hol ⟨_, rfl⟩ hv.symm
   ·cases hv
 ·
  rename_i id off l
  cases hs with | sl _ _ _ _ c q1 q2 q3 q4 =>
  split at hv
  ·injection hv with hv; simp only [Prod.mk.injEq] at hv; obtain ⟨rfl, rfl⟩ := hv
   exact ⟨w, φ, A, _, none0 _ _ _ rfl q2, Step.refl, inv, hb, .sl _ _ _ _ _ q1 q2 q3 q4⟩
  ·rename_i m
   split at hv
   ·rename_i cs e' hid hleaf hsm
    obtain rfl := q4 rfl rfl
    obtain ⟨C, fz, h1, h2, h3, h4, h5⟩ := inv.blk _ _ hid
    split at hv
    ·rename_i hee
     obtain rfl := Nat.eq_of_beq_eq_true hee
     have hCl := h5 rfl
     rw [hcell, hi2] at hCl
     split at hv
     ·rename_i htop
      have htop' := Nat.eq_of_beq_eq_true htop
      injection hv with hv; simp only [Prod.mk.injEq] at hv; obtain ⟨rfl, rfl⟩ := hv
      have hidA : A id := q1
      have hnid : σ.n ≠ id := fun e => hn (e ▸ hidA)
      by_cases hfit : l + (m + 1) <= (φ id).2
      ·
       have hb' : (φ id).1 < w.heap.size := (Array.getElem?_eq_some_iff.1 h1).1
       have hNl : N.length = (m + 1) * (z + 1) := by rw [hN1.1, hnl, hi2]
       have hroom : l * (z + 1) + N.length <= C.length := by rw [hNl, hCl, <- Nat.add_mul]; exact Nat.mul_le_mul_right _ hfit
       have hstore := iu (P := P) N (φ id).1 (l * (z + 1)) 0 C e' fz w h1 h2 (by omega) (sE hN1 hleaf)
       simp only [Nat.add_zero] at hstore
       obtain ⟨o, ho⟩ : ∃ o, o = Obj.cells ⟨C.take (l * (z + 1)) ++ N ++ C.drop (l * (z + 1) + N.length)⟩ e' fz := ⟨_, rfl⟩
       rw [<- ho] at hstore
       have hD : (C.take (l * (z + 1)) ++ N ++ C.drop (l * (z + 1) + N.length)).length = C.length := by simp; omega
       have hblk : BR P (eW φ σ.n (φ id).1 (φ id).2) (eX A σ.n) S (bp w (φ id).1 o) σ.n (.cells (cs ++ news) e' true) := by
        refine ⟨C.take (l * (z + 1)) ++ N ++ C.drop (l * (z + 1) + N.length), fz, by rw [aW, gA hb', ho], by rw [hD]; exact h2, ?_, ?_, fun _ => by rw [hD, aW, hcell, hi2]; exact hCl⟩
        ·rw [hD, List.length_append, <- htop', <- hN1.1]; exact hroom
        ·have e1 : (C.take (l * (z + 1)) ++ N ++ C.drop (l * (z + 1) + N.length)).take (cs ++ news).length = C.take cs.length ++ N := by
          rw [List.length_append, <- hN1.1, <- htop', List.take_left']
          rw [List.length_append, List.length_take]; omega
         rw [e1]
         exact ((h4.append hN1)).step (Step.move inv hid hn o)
       refine ⟨_, _, _, _, kK hst' hi1' hxt' hxd' (hlen w) hfit hN2 (fun a ha => ?_) (fun h => by cases h), Step.move inv hid hn o, (inv.move hid hn o hblk).ext (fun j => ?_), mr hb, ?_⟩
       ·injection ha with ha; subst ha
        rw [cK, hi2, Nat.zero_add]; exact hstore
       ·rw [bG, bG]
       ·have := VR.sl (φ := eW φ σ.n (φ id).1 (φ id).2) (A := eX A σ.n) (S := S) (w := bp w (φ id).1 o) σ.n 0 (l + (m + 1)) none (φ id).2 (.inl rfl) hfit (fun x hx => by cases hx) (fun _ _ => by rw [aW])
        rwa [aW] at this
      ·
       have hol : bg σ.h (l * (z + 1)) (.sl id 0 l none) = some cs := by
        unfold bg
        simp only [hid, List.drop_zero]
        rw [htop']
        have : ∀ (xs : List AV), cO xs.length xs = some xs := fun xs => by
         induction xs with
         | nil => rfl
         | cons x xs ih => simp [cO, ih]
        exact this cs
       have hs' : VR φ A S w (.sl id 0 l none) (.slice (some ⟨(φ id).1, 0, none⟩) l (φ id).2) := .sl _ _ _ _ _ q1 q2 q3 q4
       obtain ⟨O', hO1', hO2'⟩ := eQ (P := P) inv.drew.blk hs'.drew (z := z + 1) (n := l) (cs := cs) hol
       rw [<- hi2] at hO2'
       simp only [cq, Bool.and_eq_true] at hsm
       obtain ⟨⟨s1, s2⟩, s3⟩ := hsm
       have s1' := Nat.le_of_ble_eq_true s1
       have s3' := Nat.le_of_ble_eq_true s3
       have hrun := nd (ty := ty) hst' hi1' hz2 hxt' hxd' (hlen w) (by omega) s1' (by rw [hi2']; exact s3') hO2' hN2'
       have hinv := inv.kill id
       obtain ⟨g1, g2, g3⟩ := yP hinv hn hO1'.undrew hN1'.undrew hi1' hz4 (by rw [hi2]; exact htop'.symm) hnl (c := (φ id).2) (need := l + (m + 1)) rfl
       refine ⟨_, _, _, _, hrun, g1, g2.ext (fun j => ?_), mr hb, g3⟩
       rw [bG, bG]
     ·split at hv
      ·rename_i cs' hset
       injection hv with hv; simp only [Prod.mk.injEq] at hv; obtain ⟨rfl, rfl⟩ := hv
       obtain ⟨s1, _⟩ := kT hset
       have hroom : l + (m + 1) <= (φ id).2 := by
        have h6 : (l + (m + 1)) * (z + 1) <= (φ id).2 * (z + 1) := by
         have hnl' : news.length = (m + 1) * (z + 1) := by rw [hnl, hi2]
         rw [<- hCl, Nat.add_mul, <- hnl']; omega
        exact Nat.le_of_mul_le_mul_right h6 (Nat.succ_pos z)
       obtain ⟨o, k1, k2, k3⟩ := fits id 0 l _ cs e' true cs' hid hleaf (by rw [Nat.zero_add]; exact hset) hroom rfl
       exact ⟨_, φ, A, _, k1, k2, k3, hb, .sl _ _ _ _ _ q1 hroom (fun x hx => by cases hx) q4⟩
      ·cases hv
    ·cases hv
   ·cases hv
 ·
  rename_i l
  split at hv
  ·injection hv with hv; simp only [Prod.mk.injEq] at hv; obtain ⟨rfl, rfl⟩ := hv
   obtain ⟨p, c, z', rfl, hlc, _⟩ := hs.lst_inv
   exact ⟨w, φ, A, _, none0 _ _ _ rfl hlc, Step.refl, inv, hb, hs⟩
  ·cases hv
 ·cases hv
theorem AC (hT : TabOK P T) {σ σ' : AS} (inv : Inv P B φ A S σ.h.get w) (hb : ∀ id, A id -> id < σ.n) {dt ty : TypeId} {rest : List TypeId} {d x v : AV} {ed ex : Value} (hd : VR φ A S w d ed) (hx : VR φ A S w x ex) (hv : lU T σ dt d x = some (v, σ')) :
  Res P B φ A S w σ' v ((Builtin.copy_ ⟨dt :: rest⟩ ty #[ed, ex]).run P w) := by
 unfold lU at hv
 split at hv
 case h_2 => cases hv
 rename_i e hdt
 have hdt' := hT.ty _ _ hdt
 split at hv
 case h_2 => cases hv
 rename_i z n hsz hlx
 obtain ⟨i, hi1, hi2⟩ := hT.sz _ _ hsz
 have hlen := yn (P := P) hx hlx
 have e0 : (⟨dt :: rest⟩ : Array TypeId)[0]? = some dt := rfl
 split at hv
 ·injection hv with hv; simp only [Prod.mk.injEq] at hv; obtain ⟨rfl, rfl⟩ := hv
  cases hd with | nilz _ p hp =>
  have f0 : ∀ (p : Option Addr) (l c : Nat), (Builtin.firstCells i.size 0 (.slice p l c)).run P w = .ok #[] w := by
   intro p l c
   cases p with
   | none => rfl
   | some p => simp [Builtin.firstCells, loadCells, loadCellsFrom]
  have hf0 : (Builtin.firstCells i.size 0 ex).run P w = .ok #[] w := by
   unfold iW at hlx
   split at hlx
   ·cases hx with | nilz _ p hp => exact f0 p _ _
   ·cases hx with | sl _ _ _ _ c q1 q2 q3 q4 => exact f0 _ _ _
   ·obtain ⟨p, c, z', rfl, _⟩ := hx.lst_inv; exact f0 _ _ _
   ·cases hx with | s _ q hq =>
    show Result.ok ((q.extract 0 0).data.map fun b => Value.int .u8 b.toNat) w = _
    have : (q.extract 0 0).data = #[] := Array.toList_inj.1 (by rw [Lib.extract_data]; simp)
    rw [this]; simp
   ·cases hlx
  refine ⟨w, φ, A, .int .i64 0, ?_, Step.refl, inv, hb, .i _ _⟩
  unfold Builtin.copy_
  cases p <;> simp [aq hdt', hlen w, aN hi1, hf0, goInt, storeCells]
 ·rename_i id off l c
  split at hv
  ·rename_i news hnews
   split at hv
   ·rename_i cs e' g hid hleaf
    split at hv
    ·rename_i cs' hset
     injection hv with hv; simp only [Prod.mk.injEq] at hv; obtain ⟨rfl, rfl⟩ := hv
     cases hd with | sl _ _ _ _ c' q1 q2 q3 q4 =>
     obtain ⟨N, hN1, hN2⟩ := eQ (P := P) inv.blk hx hnews
     obtain ⟨o, r1, r2⟩ := iJ (P := P) inv hid hN1 hleaf hset
     refine ⟨_, φ, A, .int .i64 (Nat.min n l : Nat), ?_, Step.upd inv hid o, (inv.upd hid o r2).ext (bG _ _ _), hb, .i _ _⟩
     unfold Builtin.copy_
     rw [<- hi2] at hN2
     simp [aq hdt', hlen w, aN hi1, hN2, goInt, r1]
    ·cases hv
   ·cases hv
  ·cases hv
 ·cases hv
theorem xy (hT : TabOK P T) {σ σ' : AS} (inv : Inv P B φ A S σ.h.get w) (hb : ∀ id, A id -> id < σ.n) {t ty : TypeId} {x v : AV} {ex : Value} (hx : VR φ A S w x ex) (hv : eA T σ t x = some (v, σ')) :
  Res P B φ A S w σ' v ((Builtin.clear_ #[t] ty #[ex]).run P w) := by
 have u0 : ∀ {φ : Nat -> Nat × Nat} {A : Nat -> Prop} {w : World}, VR φ A S w (.tup []) (.tuple #[]) := .tup [] [] rfl (fun j c v h => by simp at h)
 unfold eA at hv
 split at hv
 ·rename_i e ht
  have hu := hT.ty _ _ ht
  split at hv
  ·injection hv with hv; simp only [Prod.mk.injEq] at hv; obtain ⟨rfl, rfl⟩ := hv
   cases hx with | nilz _ p hp =>
   refine ⟨w, φ, A, .tuple #[], ?_, Step.refl, inv, hb, u0⟩
   unfold Builtin.clear_
   cases p <;> simp [aq hu]
  ·rename_i id off len cap
   cases hx with | sl _ _ _ _ c q1 q2 q3 q4 =>
   split at hv
   ·injection hv with hv; simp only [Prod.mk.injEq] at hv; obtain ⟨rfl, rfl⟩ := hv
    refine ⟨w, φ, A, .tuple #[], ?_, Step.refl, inv, hb, u0⟩
    unfold Builtin.clear_
    simp [aq hu]
   ·rename_i l
    split at hv
    ·rename_i z hz
     obtain ⟨i, zv, hz1, hz2, hz3, hz4⟩ := hT.zr _ _ hz
     have hzv := eC (φ := φ) (A := A) (S := S) (w := w) hz3
     split at hv
     ·rename_i cs e' g hid hleaf
      split at hv
      ·rename_i cs' hset
       injection hv with hv; simp only [Prod.mk.injEq] at hv; obtain ⟨rfl, rfl⟩ := hv
       obtain ⟨o, r1, r2⟩ := iJ (P := P) inv hid (wT hzv (l + 1)) hleaf hset
       refine ⟨_, φ, A, .tuple #[], ?_, Step.upd inv hid o, (inv.upd hid o r2).ext (bG _ _ _), hb, u0⟩
       have r1' : (storeCells ⟨(φ id).1, off, none⟩ (Builtin.zeroCells zv.cells (l + 1)).toList).run P w = .ok () (bp w (φ id).1 o) := r1
       unfold Builtin.clear_
       simp [aq hu, bP hz1 hz2, r1']
      ·cases hv
     ·cases hv
    ·cases hv
  ·cases hv
 ·cases hv
theorem rN {w : World} {b n : Nat} {C : Array Value} {e : Nat} {fz : Nat × Nat} (h : w.heap[b]? = some (.cells C e fz)) (hn : n ≠ 0) : ∃ o, w.freeze ⟨b, 0, none⟩ n = bp w b o := by
 obtain ⟨hlt, hb⟩ := Array.getElem?_eq_some_iff.1 h
 refine ⟨.cells C e (if fz.1 == fz.2 then (0, 0 + n) else (min fz.1 0, max fz.2 (0 + n))), ?_⟩
 unfold World.freeze bp
 rw [if_neg hn]
 congr 1
 apply Array.ext
 ·simp
 ·intro i h1 h2
  rw [Array.getElem_modify]
  by_cases q : b = i
  ·subst q; simp [hb]
  ·rw [if_neg (by exact q), Array.getElem_setIfInBounds_ne (by simpa using h1) q]
theorem Inv.drop (inv : Inv P B φ A S H w) {id : Nat} {b0 : AB} (hid : H id = some b0) (o : Obj) : Inv P B φ A S (fun j => if j = id then none else H j) (bp w (φ id).1 o) := by
 have k := inv.kill id
 refine ⟨k.dom, fun j hA => by rw [cu]; exact k.lo j hA, k.inj, fun b hb => ⟨by rw [cu]; exact (k.st b hb).1, (k.st b hb).2⟩, fun j b hb => ?_, by rw [cu]; exact k.hB⟩
 have hne : j ≠ id := fun e => by rw [e, if_pos rfl] at hb; cases hb
 have hj : H j = some b := by rw [if_neg hne] at hb; exact hb
 refine (k.blk j b hb).mono rfl (fun _ _ => rfl) (fun _ h => h) (fun _ h => h) (fun b hs => da (fun q => (inv.st b hs).2 id (by rw [hid]; simp) q.symm) _) (da (fun q => hne (inv.inj j id (by rw [hj]; simp) (by rw [hid]; simp) q)) _)
theorem u8s_at : ∀ {cs : List AV} {ns : List Int} {j : Nat} {n : Int} {φ : Nat -> Nat × Nat} {A S : Nat -> Prop} {w : World}, u8s cs = true -> VRs φ A S w cs (ns.map fun n => Value.int .u8 n) -> ns[j]? = some n -> 0 <= n /\ n < 256 := by
 intro cs
 induction cs with
 | nil =>
  intro ns j n φ A S w _ hv hj
  have := hv.1
  cases ns with
  | nil => simp at hj
  | cons x xs => simp at this
 | cons c cs ih =>
  intro ns j n φ A S w h hv hj
  cases ns with
  | nil => simp at hj
  | cons x xs =>
   have h0 := hv.2 0 c (.int .u8 x) rfl rfl
   cases h0
   simp only [u8s, Bool.and_eq_true, decide_eq_true_eq] at h
   cases j with
   | zero => simp at hj; subst hj; exact h.1
   | succ j => exact ih h.2 ⟨by simpa using hv.1, fun i c' v' q1 q2 => hv.2 (i + 1) c' v' (by simpa using q1) (by simpa using q2)⟩ (by simpa using hj)
theorem Az (hT : TabOK P T) {σ σ' : AS} (inv : Inv P B φ A S σ.h.get w) (hb : ∀ id, A id -> id < σ.n) {pt it ty : TypeId} {p n v : AV} {ep en : Value} (hp : VR φ A S w p ep) (hn : VR φ A S w n en) (hv : gp T σ pt p n = some (v, σ')) :
  Res P B φ A S w σ' v ((Builtin.unsafeString_ #[pt, it] ty #[ep, en]).run P w) := by
 unfold gp at hv
 split at hv
 ·rename_i e m ht
  have hu := hT.ty _ _ ht
  cases hn
  split at hv
  ·split at hv
   ·rename_i hm
    subst hm
    injection hv with hv; simp only [Prod.mk.injEq] at hv; obtain ⟨rfl, rfl⟩ := hv
    cases hp
    exact ⟨w, φ, A, .string .empty, Lib.run_unsafeString_none w _ _ _ _, Step.refl, inv, hb, .s _ _ rfl⟩
   ·cases hv
  ·rename_i id
   cases hp with | ptr _ _ hA =>
   split at hv
   ·rename_i hm
    split at hv
    ·rename_i cs e' g hid hz
     split at hv
     ·rename_i ds he hk
      obtain rfl := Nat.eq_of_beq_eq_true he
      split at hv
      ·rename_i bs hbs hu8
       injection hv with hv; simp only [Prod.mk.injEq] at hv; obtain ⟨rfl, rfl⟩ := hv
       obtain ⟨ti, hi1, hi2⟩ := hT.sz _ _ hz
       obtain ⟨hlen, rfl⟩ := eM hk
       have hblk := inv.blk _ _ hid
       obtain ⟨vs, g1, g2⟩ := (jg (P := P) hblk).take m.toNat
       obtain ⟨ns, hvs, hbytes⟩ := lV g1 hbs
       obtain ⟨C, fz, h1, h2, h3, h4, h5⟩ := hblk
       have hnl : ns.length = m.toNat := by
        have := g1.1
        rw [hvs] at this
        simp only [List.length_map, List.length_take] at this
        omega
       have hbl : bs.length = m.toNat := by rw [hbytes]; simpa using hnl
       have hmb : m = (bs.length : Int) := by omega
       have hne : bs.length ≠ 0 := by omega
       obtain ⟨o, ho⟩ := rN (w := w) h1 hne
       have hcl : P.cellsOf e' = 1 := by simp [Program.cellsOf, hi1, hi2]
       have hrun := Lib.run_unsafeString_row (P := P) w pt it ty e' hu hcl (φ id).1 C.length (by simp [World.shape?, h1]) bs (fun q => hne (by rw [q]; rfl)) (by omega) (by omega) (fun j x hx => by
        have hj : j < bs.length := (List.getElem?_eq_some_iff.1 hx).1
        have hv : vs[j]? = some (.int .u8 x.toNat) := by
         rw [hvs]
         rw [hbytes, List.getElem?_map, Option.map_eq_some_iff] at hx
         obtain ⟨y, hy, rfl⟩ := hx
         rw [hvs] at g1
         have hr := u8s_at hu8 g1 hy
         rw [List.getElem?_map, hy]
         have : ((UInt8.ofNat y.toNat).toNat : Int) = y := by simp; omega
         rw [Option.map_some, this]
        have := g2 j _ hv
        rw [Nat.zero_add] at this
        rw [cK, Nat.zero_add]; exact this)
       rw [hmb]
       refine ⟨_, φ, A, .string ⟨bs.toArray⟩, hrun, by rw [ho]; exact Step.upd inv hid o, ?_, hb, .s _ _ (by simp)⟩
       rw [ho]
       exact (inv.drop hid o).ext (bG _ _ _)
      ·cases hv
     ·cases hv
    ·cases hv
   ·cases hv
  ·cases hv
 ·cases hv
end
end Go.Proofs.YtmfhmlhaofpeiaaGreatDoor.Ev
