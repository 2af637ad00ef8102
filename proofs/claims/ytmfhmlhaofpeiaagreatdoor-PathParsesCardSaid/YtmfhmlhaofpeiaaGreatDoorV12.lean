/- strings.Builder. -/
import Derived.Test.YtmfhmlhaofpeiaaGreatDoorEvFb
import Derived.Test.YtmfhmlhaofpeiaaGreatDoorV11
namespace Go.Proofs.YtmfhmlhaofpeiaaGreatDoor.Ev
open Go Go.RowKit
set_option linter.unusedSimpArgs false
set_option linter.unusedVariables false
set_option maxRecDepth 100000

def bA (c : UInt8) : AV := .i .u8 (c.toNat : Nat)
/-- A row of bytes of the call's own. -/
def OwnB (h : Tr AB) (n : Nat) (l : List UInt8) : Option Nat → Prop
  | none => l = []
  | some b => l ≠ [] ∧ b < n ∧ h.get b = some (.cells (l.map bA) 5 true)
/-- A Builder that holds these bytes. -/
def Bld (h : Tr AB) (n id : Nat) (l : List UInt8) (o : Option Nat) : Prop := id < n ∧ (∃ a g, h.get id = some (.cells [a, vOf o l.length] 65 g) ∧ (a = .nilp ∨ a = .ptr id 0)) ∧ OwnB h n l o ∧ ∀ i, o = some i → i ≠ id
theorem ty63 : T0.ty 63 = some (.slice 5) := by kernel_rfl
theorem leafs_b (l : List UInt8) : allLeaf (l.map bA) = true := by
  induction l with
  | nil => rfl
  | cons c l ih => simp only [List.map_cons, allLeaf]; exact ih
theorem bytes_b (l : List UInt8) : bytesOf (l.map bA) = some l := by
  induction l with
  | nil => rfl
  | cons c l ih =>
    have e : bytesOf ((c :: l).map bA) = (bytesOf (l.map bA)).map (UInt8.ofNat ((c.toNat : Nat) : Int).toNat :: ·) := rfl
    rw [e, ih]
    simp
theorem small1 {n : Nat} (h : n ≤ 140737488351232) : smallN n 1 = true := by
  unfold smallN
  rw [Nat.ble_eq_true_of_le h, Nat.ble_eq_true_of_le (by omega), Nat.ble_eq_true_of_le (by omega)]; rfl
theorem appB {h : Tr AB} {n : Nat} {l xs : List UInt8} {o : Option Nat} {x : AV} {xt : Nat} {xd : TypeDesc} (ho : OwnB h n l o) (hxt : T0.ty xt = some xd) (hxd : xd = .string ∨ ∃ e, xd = .slice e) (hlen : lenA x = some xs.length) (hnew : newCells h 1 xs.length x = some (xs.map bA)) (hs : (l ++ xs).length ≤ 140737488351232) (hne : xs ≠ []) :
    evAppend T0 ⟨h, n⟩ 63 xt (vOf o l.length) x = some (vOf (some n) (l ++ xs).length, ⟨(killO h o).put n (some (.cells ((l ++ xs).map bA) 5 true)), n + 1⟩) := by
  have hz : T0.sz 5 = some 1 := by kernel_rfl
  have hb : T0.by_ 5 = some 1 := by kernel_rfl
  obtain ⟨zv, hzv⟩ : ∃ zv, T0.zr 5 = some zv := Option.isSome_iff_exists.1 (by kernel_rfl)
  obtain ⟨m, hm⟩ : ∃ m, xs.length = m + 1 := by
    cases xs with
    | nil => exact absurd rfl hne
    | cons a b => exact ⟨b.length, rfl⟩
  rw [List.length_append] at hs
  rw [hm] at hlen hnew hs
  have hsm := small1 hs
  unfold evAppend
  rcases hxd with rfl | ⟨e, rfl⟩
  all_goals
    simp only [ty63, hz, hb, hxt, hlen, hzv, Nat.zero_add, hnew]
    cases o with
    | none =>
      have hl : l = [] := ho
      subst hl
      simp only [List.length_nil, Nat.zero_add] at hsm
      simp only [vOf, List.length_nil, hsm, evGrow, killO, List.nil_append, hm]
    | some b =>
      obtain ⟨h1, h2, h3⟩ := ho
      have b1 : Nat.beq 5 5 = true := rfl
      have b2 : Nat.beq (l.length * 1) (l.map bA).length = true := by rw [List.length_map, Nat.mul_one]; exact Nat.beq_refl _
      simp only [vOf, h3, leafs_b, hsm, b1, b2, killO, List.map_append, List.length_append, hm]
theorem appB0 {h : Tr AB} {n : Nat} {l : List UInt8} {o : Option Nat} {x : AV} {xt : Nat} {xd : TypeDesc} (ho : OwnB h n l o) (hxt : T0.ty xt = some xd) (hxd : xd = .string ∨ ∃ e, xd = .slice e) (hlen : lenA x = some 0) (hnew : newCells h 1 0 x = some []) :
    evAppend T0 ⟨h, n⟩ 63 xt (vOf o l.length) x = some (vOf o l.length, ⟨h, n⟩) := by
  have hz : T0.sz 5 = some 1 := by kernel_rfl
  have hb : T0.by_ 5 = some 1 := by kernel_rfl
  obtain ⟨zv, hzv⟩ : ∃ zv, T0.zr 5 = some zv := Option.isSome_iff_exists.1 (by kernel_rfl)
  unfold evAppend
  rcases hxd with rfl | ⟨e, rfl⟩
  all_goals
    simp only [ty63, hz, hb, hxt, hlen, hzv, Nat.zero_add, hnew]
    cases o <;> rfl
/-- What writing a Builder leaves. -/
def BldTo (h : Tr AB) (n id : Nat) (o : Option Nat) (l' : List UInt8) (σ' : AS) : Prop := ∃ o', Bld σ'.h σ'.n id l' o' ∧ n ≤ σ'.n ∧ (∀ j, j < n → j ≠ id → o ≠ some j → σ'.h.get j = h.get j) ∧ (∀ i, o' = some i → o = some i ∨ n ≤ i)
theorem e98 (x : AV) {d : Nat} {σ : AS} {K : AV → AS → Prop} : oC T0 d 98 [x] σ K = K x σ := by
  have hp : T0.prim 98 = some primSame := by kernel_rfl
  have : R T0 98 [x] x := ⟨1, fun σ => by unfold evCall; simp only [hp, primSame]⟩
  exact this.eq d σ K
theorem cv1 {h : Tr AB} {id : Nat} {a b : AV} {e : Nat} {g : Bool} (hg : h.get id = some (.cells [a, b] e g)) : evConv T0 h 62 106 (.ptr id 0) = some (.ptr id 0) := by
  have h1 : T0.ty 62 = some (.pointer 65) := by kernel_rfl
  have h2 : T0.ty 106 = some .unsafePointer := by kernel_rfl
  have h3 : T0.sz 65 = some 2 := by kernel_rfl
  unfold evConv; simp only [h1, h2, hg, h3]
theorem cv2 {h : Tr AB} {id : Nat} {a b : AV} {g : Bool} (hg : h.get id = some (.cells [a, b] 65 g)) : evConv T0 h 106 62 (.ptr id 0) = some (.ptr id 0) := by
  have h1 : T0.ty 62 = some (.pointer 65) := by kernel_rfl
  have h2 : T0.ty 106 = some .unsafePointer := by kernel_rfl
  have h3 : T0.sz 65 = some 2 := by kernel_rfl
  unfold evConv; simp only [h1, h2, hg, h3]; rfl
theorem peq {id : Nat} {c : Bool} : evBin T0 .neq 62 c (.ptr id 0) (.ptr id 0) = some (.b false) := by
  have h1 : T0.ty 62 = some (.pointer 65) := by kernel_rfl
  have h3 : T0.sz 65 = some 2 := by kernel_rfl
  simp only [evBin, Nat.beq_refl, h1, h3, Bool.and_self]
theorem pnil {a : AV} {id : Nat} (ha : a = .nilp ∨ a = .ptr id 0) : evBin T0 .eql 62 true a .nilp = some (.b (match a with | .nilp => true | _ => false)) := by
  have h1 : T0.ty 62 = some (.pointer 65) := by kernel_rfl
  rcases ha with rfl | rfl <;> simp only [evBin, h1, eqNil, isPtr, nilEq, Option.map_some] <;> rfl
/-- copyCheck: the address is noted. -/
theorem c69 {h : Tr AB} {n id : Nat} {l : List UInt8} {o : Option Nat} (hb : Bld h n id l o) : ∃ h', Runs T0 69 [.ptr id 0] ⟨h, n⟩ (.tup []) ⟨h', n⟩ ∧ (∃ g, h'.get id = some (.cells [.ptr id 0, vOf o l.length] 65 g)) ∧ ∀ j, j ≠ id → h'.get j = h.get j := by
  obtain ⟨hid, ⟨a, g, hg, ha⟩, ho, hne⟩ := hb
  have ld : evLoad T0 h 62 (.ptr id 0) = some a := by
    rw [load_p hg (Nat.zero_le _)]
    rcases ha with rfl | rfl <;> exact ofc_62 _ _
  rcases ha with rfl | rfl
  · have st : evStore T0 h 62 (.ptr id 0) (.ptr id 0) = some (h.put id (some (.cells [.ptr id 0, vOf o l.length] 65 g))) := store_p sz_62 hg rfl rfl rfl
    refine ⟨_, r69 _ ?_, ⟨g, get_put_same _ _ _⟩, fun j hj => get_put_ne _ _ hj⟩
    unfold w69
    dsimp only [prims]
    simp only [nilc_p, oV_some', off_p, Nat.zero_add, ld, pnil (id := id) (.inl rfl), oI_true, cv1 hg, e98, cv2 hg, st, oH_some, and_self]
  · refine ⟨h, r69 _ ?_, ⟨g, hg⟩, fun j hj => rfl⟩
    unfold w69
    dsimp only [prims]
    simp only [nilc_p, oV_some', off_p, Nat.zero_add, ld, pnil (id := id) (.inr rfl), oI_false, peq, and_self]
theorem vOf_leaf (o : Option Nat) (k : Nat) : (vOf o k).leaf = true := by cases o <;> rfl
theorem vOf_cells (o : Option Nat) (k : Nat) : (vOf o k).cells = [vOf o k] := by cases o <;> rfl
theorem bld_done {h h' : Tr AB} {n id : Nat} {l xs : List UInt8} {o : Option Nat} {g : Bool} (hb : Bld h n id l o) (hg : h'.get id = some (.cells [.ptr id 0, vOf o l.length] 65 g)) (hs : ∀ j, j ≠ id → h'.get j = h.get j) (hne : xs ≠ []) :
    BldTo h n id o (l ++ xs) ⟨((killO h' o).put n (some (.cells ((l ++ xs).map bA) 5 true))).put id (some (.cells [.ptr id 0, vOf (some n) (l ++ xs).length] 65 g)), n + 1⟩ := by
  have hid := hb.1
  refine ⟨some n, ⟨by dsimp only; omega, ⟨_, g, get_put_same _ _ _, .inr rfl⟩, ⟨by simp [hne], by dsimp only; omega, ?_⟩, fun i e => by injection e with e; omega⟩, by dsimp only; omega, fun j hj hji ho => ?_, fun i e => by injection e with e; right; omega⟩
  · dsimp only; rw [get_put_ne _ _ (by omega), get_put_same]
  · dsimp only; rw [get_put_ne _ _ hji, get_put_ne _ _ (by omega), kill_get ho, hs j hji]
theorem own_same {h h' : Tr AB} {n id : Nat} {l : List UInt8} {o : Option Nat} (hb : Bld h n id l o) (hs : ∀ j, j ≠ id → h'.get j = h.get j) : OwnB h' n l o := by
  obtain ⟨_, _, ho, hne⟩ := hb
  cases o with
  | none => exact ho
  | some b => exact ⟨ho.1, ho.2.1, by rw [hs b (hne b rfl)]; exact ho.2.2⟩
theorem st_buf {h : Tr AB} {n id : Nat} {o : Option Nat} {k k' : Nat} {g : Bool} {blk : AB} (hid : id < n) (ho : o ≠ some id) (hg : h.get id = some (.cells [.ptr id 0, vOf o k] 65 g)) :
    evStore T0 ((killO h o).put n (some blk)) 63 (.ptr id 1) (vOf (some n) k') = some (((killO h o).put n (some blk)).put id (some (.cells [.ptr id 0, vOf (some n) k'] 65 g))) :=
  store_p sz_63 (by rw [get_put_ne _ _ (by omega), kill_get ho]; exact hg) rfl rfl rfl
theorem st_buf0 {h : Tr AB} {id : Nat} {o : Option Nat} {k : Nat} {g : Bool} (hg : h.get id = some (.cells [.ptr id 0, vOf o k] 65 g)) :
    evStore T0 h 63 (.ptr id 1) (vOf o k) = some (h.put id (some (.cells [.ptr id 0, vOf o k] 65 g))) :=
  store_p sz_63 hg (by rw [vOf_cells]; rfl) (by rw [vOf_cells]; simp [allLeaf, vOf_leaf]) (by rw [vOf_cells]; rfl)
theorem ld_buf {h : Tr AB} {id : Nat} {o : Option Nat} {k : Nat} {a : AV} {g : Bool} (hg : h.get id = some (.cells [a, vOf o k] 65 g)) : evLoad T0 h 63 (.ptr id 1) = some (vOf o k) := by
  rw [load_p hg (by show 1 ≤ 2; decide)]; exact ofc_63 _ _
theorem ice63 (x : Int) : evIce T0 63 1 [(0, .i .u8 x)] = some (.lst [.i .u8 x]) := by kernel_rfl
theorem ty9 : T0.ty 9 = some .string := by kernel_rfl
/-- WriteByte. -/
theorem c41 {h : Tr AB} {n id : Nat} {l : List UInt8} {o : Option Nat} (c : UInt8) (hb : Bld h n id l o) (hl : l.length + 1 ≤ 140737488351232) : ∃ σ', Runs T0 41 [.ptr id 0, bA c] ⟨h, n⟩ .nili σ' ∧ BldTo h n id o (l ++ [c]) σ' := by
  obtain ⟨h', hr, ⟨g, hg⟩, hs⟩ := c69 hb
  have hoid : o ≠ some id := fun e => hb.2.2.2 id e rfl
  have ap := appB (x := .lst [bA c]) (xs := [c]) (own_same hb hs) ty63 (.inr ⟨_, rfl⟩) rfl rfl (by rw [List.length_append]; exact hl) (by simp)
  refine ⟨_, r41 _ _ ?_, bld_done hb hg hs (by simp)⟩
  unfold w41
  dsimp only [prims]
  rw [hr.eq]
  simp only [nilc_p, oV_some', off_p, Nat.zero_add, ld_buf hg]
  rw [show bA c = .i .u8 (c.toNat : Nat) from rfl, ice63, oV_some']
  rw [show (AV.i .u8 ((c.toNat : Nat) : Int)) = bA c from rfl, ap, oM_some]
  rw [st_buf hb.1 hoid hg, oH_some]
  first | exact ⟨rfl, rfl⟩ | exact ⟨trivial, rfl⟩
/-- WriteString. -/
theorem c42 {h : Tr AB} {n id : Nat} {l : List UInt8} {o : Option Nat} (s : List UInt8) (hb : Bld h n id l o) (hl : l.length + s.length ≤ 140737488351232) : ∃ σ', Runs T0 42 [.ptr id 0, .s s] ⟨h, n⟩ (.tup [.i .i64 (s.length : Nat), .nili]) σ' ∧ BldTo h n id o (l ++ s) σ' := by
  obtain ⟨h', hr, ⟨g, hg⟩, hs⟩ := c69 hb
  have hoid : o ≠ some id := fun e => hb.2.2.2 id e rfl
  by_cases hne : s = []
  · subst hne
    have ap := appB0 (x := .s []) (xt := 9) (own_same hb hs) ty9 (.inl rfl) rfl rfl
    rw [List.append_nil]
    have hown : OwnB (h'.put id (some (.cells [.ptr id 0, vOf o l.length] 65 g))) n l o := own_same hb (fun j hj => by rw [get_put_ne _ _ hj, hs j hj])
    refine ⟨⟨h'.put id (some (.cells [.ptr id 0, vOf o l.length] 65 g)), n⟩, r42 _ _ ?_, o, ⟨hb.1, ⟨_, g, get_put_same _ _ _, .inr rfl⟩, hown, hb.2.2.2⟩, Nat.le_refl _, fun j hj hji hj2 => ?_, fun i e => .inl e⟩
    · unfold w42
      dsimp only [prims]
      rw [hr.eq]
      simp only [nilc_p, oV_some', off_p, Nat.zero_add, ld_buf hg]
      rw [ap, oM_some, st_buf0 hg, oH_some, len_9, oV_some']
      first | exact ⟨rfl, rfl⟩ | exact ⟨trivial, rfl⟩
    · dsimp only; rw [get_put_ne _ _ hji, hs j hji]
  · have ap := appB (x := .s s) (xs := s) (xt := 9) (own_same hb hs) ty9 (.inl rfl) rfl (by show some ((s.take s.length).map _) = _; rw [List.take_length]; rfl) (by rw [List.length_append]; exact hl) hne
    refine ⟨_, r42 _ _ ?_, bld_done hb hg hs hne⟩
    unfold w42
    dsimp only [prims]
    rw [hr.eq]
    simp only [nilc_p, oV_some', off_p, Nat.zero_add, ld_buf hg]
    rw [ap, oM_some, st_buf hb.1 hoid hg, oH_some, len_9, oV_some']
    first | exact ⟨rfl, rfl⟩ | exact ⟨trivial, rfl⟩
theorem u8s_b (l : List UInt8) : u8s (l.map bA) = true := by
  induction l with
  | nil => rfl
  | cons c l ih =>
    have h1 := c.toNat_lt
    have e : u8s ((c :: l).map bA) = (decide ((0 : Int) ≤ (c.toNat : Nat)) && decide (((c.toNat : Nat) : Int) < 256) && u8s (l.map bA)) := rfl
    rw [e, ih, decide_eq_true (by omega), decide_eq_true (by omega)]; rfl
/-- String: the bytes are given away. -/
theorem c45 {h : Tr AB} {n id : Nat} {l : List UInt8} {o : Option Nat} (hb : Bld h n id l o) (hl : l.length ≤ 140737488351232) : Runs T0 45 [.ptr id 0] ⟨h, n⟩ (.s l) ⟨killO h o, n⟩ := by
  obtain ⟨hid, ⟨a, g, hg, ha⟩, ho, hne⟩ := hb
  have ty87 : T0.ty 87 = some (.pointer 5) := by kernel_rfl
  have hz : T0.sz 5 = some 1 := by kernel_rfl
  refine r45 _ ?_
  unfold w45
  dsimp only [prims]
  simp only [nilc_p, oV_some', off_p, Nat.zero_add, ld_buf hg]
  cases o with
  | none =>
    have hl0 : l = [] := ho
    subst hl0
    have h1 : evBuiltin T0 h .unsafeSliceData [63] [vOf none 0] = some .nilp := rfl
    have h2 : evBuiltin T0 h .len [63] [vOf none 0] = some (.i .i64 0) := by simp [evBuiltin, vOf, ty63]
    have h3 : evUStr T0 ⟨h, n⟩ 87 .nilp (.i .i64 0) = some (.s [], ⟨h, n⟩) := by simp [evUStr, ty87]
    rw [List.length_nil, h1, oV_some', h2, oV_some', h3, oM_some]
    exact ⟨rfl, rfl⟩
  | some b =>
    obtain ⟨h1, h2, h3⟩ := ho
    obtain ⟨m, hm⟩ : ∃ m, l.length = m + 1 := by
      cases l with
      | nil => exact absurd rfl h1
      | cons a b => exact ⟨b.length, rfl⟩
    have g1 : evBuiltin T0 h .unsafeSliceData [63] [vOf (some b) l.length] = some (.ptr b 0) := by rw [hm]; rfl
    have g2 : evBuiltin T0 h .len [63] [vOf (some b) l.length] = some (.i .i64 (l.length : Nat)) := by simp [evBuiltin, vOf, ty63]
    have tk : takeN l.length (l.map bA) = some (l.map bA) := by
      have := takeN_all (l.map bA)
      rwa [List.length_map] at this
    have g3 : evUStr T0 ⟨h, n⟩ 87 (.ptr b 0) (.i .i64 (l.length : Nat)) = some (.s l, ⟨h.put b none, n⟩) := by
      unfold evUStr
      simp only [ty87, h3, hz, Int.toNat_natCast, tk, bytes_b, u8s_b, Nat.beq_refl]
      rw [if_pos ⟨by omega, by omega⟩]
    rw [g1, oV_some', g2, oV_some', g3, oM_some]
    exact ⟨rfl, rfl⟩
theorem bld_new {h : Tr AB} {n : Nat} : Bld (h.put n (some (.cells [.nilp, .nilz true] 65 false))) (n + 1) n [] none := ⟨by omega, ⟨.nilp, false, get_put_same _ _ _, .inl rfl⟩, rfl, fun i e => by cases e⟩
theorem Bld.same {h h' : Tr AB} {n n' id : Nat} {l : List UInt8} {o : Option Nat} (hb : Bld h n id l o) (hn : n ≤ n') (hs : ∀ j, (j = id ∨ o = some j) → h'.get j = h.get j) : Bld h' n' id l o := by
  obtain ⟨h1, ⟨a, g, hg, ha⟩, ho, hne⟩ := hb
  refine ⟨by omega, ⟨a, g, by rw [hs id (.inl rfl)]; exact hg, ha⟩, ?_, hne⟩
  cases o with
  | none => exact ho
  | some b => exact ⟨ho.1, by have := ho.2.1; omega, by rw [hs b (.inr rfl)]; exact ho.2.2⟩
end Go.Proofs.YtmfhmlhaofpeiaaGreatDoor.Ev
