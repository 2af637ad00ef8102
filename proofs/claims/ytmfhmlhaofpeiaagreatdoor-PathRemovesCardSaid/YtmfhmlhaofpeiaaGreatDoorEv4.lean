/- The evaluator, a part of it. This session's own text. -/
import Derived.Test.YtmfhmlhaofpeiaaGreatDoorEv3
namespace Go.Proofs.YtmfhmlhaofpeiaaGreatDoor.Ev
open Go Go.RowKit
def gZ (c d : Nat -> List AV -> AS -> Option (AV × AS)) : Prop := ∀ f args σ r, c f args σ = some r -> d f args σ = some r
section
variable {T : Tab} {c d : Nat -> List AV -> AS -> Option (AV × AS)} {nt : Nat}
theorem xw (hcd : gZ c d) {σ : AS} {ρ : Operand -> Option AV} {op : Op} {r : AV × AS} (h : fM T c σ ρ op = some r) : fM T d σ ρ op = some r := by
 unfold fM at h |-
 split at h
 ·exact h
 ·exact h
 ·exact h
 ·exact h
 ·split at h
  ·exact h
  ·exact h
  ·exact h
  ·exact h
  ·split at h
   ·rename_i f fs cs args hf ha
    split at h
    ·rename_i v σ' hc
     rw [hcd _ _ _ _ hc]; exact h
    ·cases h
   ·cases h
  ·cases h
 ·exact h
 ·cases h
theorem sZ (hcd : gZ c d) {tm : Tr AV} {σ : AS} {o : Oper} {r : AV × AS} (h : rj T c tm σ o = some r) : rj T d tm σ o = some r := by
 unfold rj at h |-
 split at h
 ·exact h
 ·split at h
  ·exact h
  ·exact xw hcd h
theorem dY (hcd : gZ c d) {ops : Array Oper} : ∀ (l : List Oper) (tm : Tr AV) (σ : AS) (r : Tr AV × AS), dQ T c nt ops l tm σ = some r -> dQ T d nt ops l tm σ = some r
 | [], tm, σ, r, h => h
 | o :: os, tm, σ, r, h => by
  unfold dQ at h |-
  split at h
  ·split at h
   ·rename_i v σ' ho
    rw [sZ hcd ho]
    simp only
    split at h
    ·rename_i tm' hp
     exact dY hcd os tm' σ' r h
    ·cases h
   ·cases h
  ·split at h
   ·rename_i tm' hp
    exact dY hcd os tm' σ r h
   ·cases h
  ·cases h
theorem rL (hcd : gZ c d) {h : Tr AB} {n : Nat} {ρ : Operand -> Option AV} {op : Op} {v : AV} (hp : cw T c h n ρ op = some v) : cw T d h n ρ op = some v := by
 unfold cw at hp |-
 split at hp
 ·split at hp
  ·split at hp
   ·rename_i f fs cs args hf ha
    split at hp
    ·cases hp
    ·rename_i ho
     split at hp
     ·rename_i v' σ' hc
      rw [hcd _ _ _ _ hc]; exact hp
     ·cases hp
   ·cases hp
  ·cases hp
 ·exact hp
 ·cases hp
theorem rD (hcd : gZ c d) {n : Nat} {ρ : Operand -> Option AV} {op : Op} {v : AV × Option AB} (hp : bE T c n ρ op = some v) : bE T d n ρ op = some v := by
 unfold bE at hp |-
 split at hp
 ·split at hp
  ·split at hp
   ·split at hp
    ·split at hp
     ·rename_i v' σ' hc
      rw [hcd _ _ _ _ hc]; exact hp
     ·cases hp
    ·cases hp
   ·cases hp
  ·cases hp
 ·cases hp
theorem xG {n m : Nat} {ρ : Operand -> Option AV} {op : Op} {v : AV × Option AB} (hp : bE T d n ρ op = some v) : (∀ h, bk T h ρ op = none) /\ (∀ h, cw T c h m ρ op = none) /\ (∀ h, fr T h ρ op = none) := by
 unfold bE at hp
 split at hp
 ·rename_i cl
  obtain ⟨callee, args, ts⟩ := cl
  split at hp
  ·rename_i fo hcal
   simp only at hcal; subst hcal
   split at hp
   ·rename_i f fs cs as hf ha
    split at hp
    ·rename_i ho
     simp only [Bool.and_eq_true] at ho
     refine ⟨fun h => rfl, fun h => ?_, fun h => rfl⟩
     unfold cw
     have hm := Nat.eq_of_beq_eq_true ho.2
     have hp : gM T f (fs ++ as ++ cs) = false := by
      unfold gM
      rw [ho.1, hm]; rfl
     simp only [hf, ha, hp]
    ·cases hp
   ·cases hp
  ·cases hp
 ·cases hp
theorem cH (hcd : gZ c d) {ops : Array Oper} {h : Tr AB} {n0 : Nat} {bef : Nat -> List Nat} : ∀ (l : List Oper) (i : Nat) (tm : Tr AV) (news : List (Nat × Nat × Option AB)) (rd : List Nat) (n : Nat) (r : Tr AV × List (Nat × Nat × Option AB) × Nat),
  aX T c nt ops h n0 bef l i tm news rd n = some r -> aX T d nt ops h n0 bef l i tm news rd n = some r
 | [], _, _, _, _, _, _, hv => hv
 | o :: os, i, tm, news, rd, n, r, hv => by
  unfold aX at hv |-
  split at hv
  ·split at hv
   ·split at hv
    ·exact cH hcd os _ _ _ _ _ r hv
    ·cases hv
   ·split at hv
    ·split at hv
     ·exact cH hcd os _ _ _ _ _ r hv
     ·cases hv
    ·split at hv
     ·rename_i v b hq
      rw [rD hcd hq]
      simp only
      split at hv
      ·exact cH hcd os _ _ _ _ _ r hv
      ·cases hv
     ·cases hd : bE T d n (ce T tm) o.op with
      | some x =>
       obtain ⟨a1, a2, a3⟩ := xG (c := c) (m := n) hd
       split at hv
       ·cases hv
       ·rw [a1, a2, a3] at hv; cases hv
      | none =>
       simp only
       split at hv
       ·cases hv
       ·split at hv
        ·split at hv
         ·exact cH hcd os _ _ _ _ _ r hv
         ·cases hv
        ·split at hv
         ·rename_i v hp
          rw [rL hcd hp]
          simp only
          split at hv
          ·exact cH hcd os _ _ _ _ _ r hv
          ·cases hv
         ·rename_i hp
          split at hv
          ·rename_i id b hs
           have hq : cw T d (eF h (bef i) news) n (ce T tm) o.op = none := by
            unfold fr at hs
            split at hs
            ·rename_i heq; rw [heq]; rfl
            ·cases hs
           rw [hq]
           simp only
           split at hv
           ·split at hv
            ·exact cH hcd os _ _ _ _ _ r hv
            ·cases hv
           ·cases hv
          ·cases hv
  ·split at hv
   ·exact cH hcd os _ _ _ _ _ r hv
   ·cases hv
  ·cases hv
theorem lO {f g : Tr AV -> AS -> Option (AX × Tr AV × AS)} (hfg : ∀ tm σ r, f tm σ = some r -> g tm σ = some r) : ∀ (n m : Nat) (tm : Tr AV) (σ : AS) (r : AX × Tr AV × AS), n <= m -> mw f n tm σ = some r -> mw g m tm σ = some r
 | 0, _, _, _, _, _, hv => by cases hv
 | n + 1, 0, _, _, _, hm, _ => by omega
 | n + 1, m + 1, tm, σ, r, hm, hv => by
  unfold mw at hv |-
  split at hv
  ·rename_i tm' σ' hs
   rw [hfg _ _ _ hs]
   exact lO hfg n m tm' σ' r (by omega) hv
  ·rename_i hne
   rw [hfg _ _ _ hv]
   obtain ⟨x, tm', σ'⟩ := r
   cases x with
   | norm => exact absurd hv (hne _ _)
   | exit id => rfl
   | ret => rfl
theorem lT (hcd : gZ c d) {ops : Array Oper} {k0 k1 : Nat} {tm : Tr AV} {σ : AS} {r : Tr AV × AS} (h : ly T c nt ops k0 k1 tm σ = some r) : ly T d nt ops k0 k1 tm σ = some r := by
 unfold ly at h |-
 split at h
 ·exact h
 ·split at h
  ·split at h
   ·rename_i tm' news n hs
    rw [cH hcd _ _ _ _ _ _ _ hs]; exact h
   ·cases h
  ·cases h
theorem im (hcd : gZ c d) {ops : Array Oper} : ∀ (bs : List Nat) (k0 : Nat) (tm : Tr AV) (σ : AS) (r : Tr AV × AS), iC T c nt ops bs k0 tm σ = some r -> iC T d nt ops bs k0 tm σ = some r
 | [], k0, tm, σ, r, h => lT hcd h
 | b :: bs, k0, tm, σ, r, h => by
  unfold iC at h |-
  split at h
  ·rename_i tm1 σ1 h1
   rw [lT hcd h1]
   simp only
   split at h
   ·rename_i o ho
    split at h
    ·split at h
     ·rename_i tm2 σ2 h2
      rw [dY hcd _ _ _ _ h2]
      exact im hcd bs _ _ _ _ h
     ·cases h
    ·cases h
   ·cases h
  ·cases h
theorem pp (hcd : gZ c d) {k m : Nat} (hkm : k <= m) : ∀ (co : Code) (tm : Tr AV) (σ : AS) (r : AX × Tr AV × AS), aU T c nt k co tm σ = some r -> aU T d nt m co tm σ = some r := by
 intro co
 induction co with
 | skip => intro tm σ r hv; exact hv
 | label l => intro tm σ r hv; exact hv
 | ret => intro tm σ r hv; exact hv
 | exit id => intro tm σ r hv; exact hv
 | region id ops draw =>
  intro tm σ r hv
  cases draw with
  | false =>
   simp only [aU] at hv |-
   split at hv
   ·rename_i tm' σ' hs
    rw [dY hcd _ _ _ _ hs]; exact hv
   ·cases hv
  | true =>
   simp only [aU] at hv |-
   split at hv
   ·rename_i hb
    split at hv
    ·rename_i tm' news n hs
     rw [cH hcd _ _ _ _ _ _ _ hs]; exact hv
    ·cases hv
   ·rename_i b bs hb
    split at hv
    ·rename_i hf
     split at hv
     ·rename_i tm' σ' hs
      rw [im hcd _ _ _ _ _ hs]; exact hv
     ·cases hv
    ·rename_i j js hf
     split at hv
     ·split at hv
      ·split at hv
       ·rename_i tm' σ' hs
        rw [im hcd _ _ _ _ _ hs]; exact hv
       ·cases hv
      ·cases hv
     ·cases hv
 | seq a b iha ihb =>
  intro tm σ r hv
  simp only [aU] at hv |-
  split at hv
  ·rename_i tm' σ' hs
   rw [iha _ _ _ hs]; exact ihb _ _ _ hv
  ·rename_i hne
   rw [iha _ _ _ hv]
   obtain ⟨x, tm', σ'⟩ := r
   cases x with
   | norm => exact absurd hv (hne _ _)
   | exit id => rfl
   | ret => rfl
 | cond x a b iha ihb =>
  intro tm σ r hv
  simp only [aU] at hv |-
  split at hv
  ·exact iha _ _ _ hv
  ·exact ihb _ _ _ hv
  ·cases hv
 | block id a ih =>
  intro tm σ r hv
  simp only [aU] at hv |-
  split at hv
  ·rename_i j tm' σ' hs
   rw [ih _ _ _ hs]; exact hv
  ·rename_i hne
   rw [ih _ _ _ hv]
   obtain ⟨x, tm', σ'⟩ := r
   cases x with
   | exit id => exact absurd hv (hne _ _ _)
   | norm => rfl
   | ret => rfl
 | scope a ih => intro tm σ r hv; simp only [aU] at hv |-; exact ih _ _ _ hv
 | loop a ih =>
  intro tm σ r hv
  simp only [aU] at hv |-
  exact lO ih _ _ _ _ _ hkm hv
 | rangeFunc f ps a b iha ihb => intro tm σ r hv; cases hv
 | goto l => intro tm σ r hv; cases hv
 | refuse y => intro tm σ r hv; cases hv
theorem io (hcd : gZ c d) {k m : Nat} (hkm : k <= m) {fn : Func} {co : Code} {args : List AV} {σ : AS} {r : AV × AS} (hv : eY T c k fn co args σ = some r) : eY T d m fn co args σ = some r := by
 unfold eY at hv |-
 split at hv
 ·rename_i x tm σ' hs
  rw [pp hcd hkm _ _ _ _ hs]; exact hv
 ·cases hv
end
theorem lb {α β : Type} {f g : α -> Option β} (hfg : ∀ a b, f a = some b -> g a = some b) : ∀ (l : List α) (r : List β), di f l = some r -> di g l = some r
 | [], r, h => h
 | a :: l, r, h => by
  unfold di at h |-
  split at h
  ·rename_i b bs h1 h2
   rw [hfg _ _ h1, lb hfg l _ h2]; exact h
  ·cases h
theorem gw {T : Tab} {h : Tr AB} : ∀ (k m : Nat) (a b : AV), k <= m -> fz T h k a = some b -> fz T h m a = some b
 | 0, _, _, _, _, hv => by cases hv
 | k + 1, 0, _, _, hm, _ => by omega
 | k + 1, m + 1, a, b, hm, hv => by
  have ih := fun a b => gw (T := T) (h := h) k m a b (by omega)
  have ihl := lb ih
  unfold fz at hv |-
  split at hv
  ·exact hv
  ·split at hv
   ·split at hv
    ·split at hv
     ·rw [Option.map_eq_some_iff] at hv |-
      obtain ⟨ds, hd, rfl⟩ := hv
      exact ⟨ds, ihl _ _ hd, rfl⟩
     ·cases hv
    ·cases hv
   ·split at hv
    ·split at hv
     ·split at hv
      ·split at hv
       ·rename_i ds hq
        rw [ihl _ _ hq]; exact hv
       ·cases hv
      ·cases hv
     ·cases hv
    ·cases hv
   ·rw [Option.map_eq_some_iff] at hv |-
    obtain ⟨ds, hd, rfl⟩ := hv
    exact ⟨ds, ih _ _ hd, rfl⟩
   ·rw [Option.map_eq_some_iff] at hv |-
    obtain ⟨ds, hd, rfl⟩ := hv
    exact ⟨ds, ihl _ _ hd, rfl⟩
   ·rw [Option.map_eq_some_iff] at hv |-
    obtain ⟨ds, hd, rfl⟩ := hv
    exact ⟨ds, ihl _ _ hd, rfl⟩
   ·split at hv
    ·rename_i fs cs h1 h2
     rw [ihl _ _ h1, ihl _ _ h2]; exact hv
    ·cases hv
   ·cases hv
theorem nu {T : Tab} {h : Tr AB} : ∀ (k m : Nat) (a b : AV), k <= m -> fz T h k a = some b -> rch T h m a = rch T h k a
 | 0, _, _, _, _, hv => by cases hv
 | k + 1, 0, _, _, hm, _ => by omega
 | k + 1, m + 1, a, b, hm, hv => by
  have list : ∀ (as bs : List AV), di (fz T h k) as = some bs -> as.flatMap (rch T h m) = as.flatMap (rch T h k) := by
   intro as
   induction as with
   | nil => intro bs _; rfl
   | cons a as ih =>
    intro bs ha
    unfold di at ha
    split at ha
    ·rename_i b bs h1 h2
     rw [List.flatMap_cons, List.flatMap_cons, ih _ h2, nu k m a b (by omega) h1]
    ·cases ha
  unfold fz at hv
  unfold rch
  split at hv
  ·rfl
  ·split at hv
   ·rename_i id off _
    cases hb : h.get id with
    | none => rfl
    | some x =>
     cases x with
     | cells cs e g =>
      simp only [hb] at hv |-
      split at hv
      ·rw [Option.map_eq_some_iff] at hv
       obtain ⟨ds, hd, rfl⟩ := hv
       rw [list _ _ hd]
      ·cases hv
     | map es => rfl
     | siter s p => rfl
   ·rename_i id off len cap _
    cases hb : h.get id with
    | none => rfl
    | some x =>
     cases x with
     | cells cs e g =>
      simp only [hb] at hv |-
      split at hv
      ·rename_i z d hz hty
       rw [hz]
       simp only
       split at hv
       ·rename_i cs' hcs
        split at hv
        ·rename_i ds hd
         have : cs' = (cs.drop off).take (len * (z + 1)) := by
          have : ∀ (n : Nat) (l r : List AV), cO n l = some r -> r = l.take n := by
           intro n
           induction n with
           | zero => intro l r h; injection h with h; subst h; simp
           | succ n ih =>
            intro l r h
            cases l with
            | nil => cases h
            | cons a l =>
             simp only [cO, Option.map_eq_some_iff] at h
             obtain ⟨r', h1, rfl⟩ := h
             rw [ih l r' h1]; rfl
          exact this _ _ _ hcs
         rw [<- this, list _ _ hd]
        ·cases hv
       ·cases hv
      ·cases hv
     | map es => rfl
     | siter s p => rfl
   ·rw [Option.map_eq_some_iff] at hv
    obtain ⟨d, hd, rfl⟩ := hv
    exact nu k m _ _ (by omega) hd
   ·rw [Option.map_eq_some_iff] at hv
    obtain ⟨ds, hd, rfl⟩ := hv
    exact list _ _ hd
   ·rw [Option.map_eq_some_iff] at hv
    obtain ⟨ds, hd, rfl⟩ := hv
    exact list _ _ hd
   ·split at hv
    ·rename_i fs cs h1 h2
     rw [list _ _ h1, list _ _ h2]
    ·cases hv
   ·cases hv
theorem rch_mono {T : Tab} {h : Tr AB} {k m : Nat} (hm : k <= m) {args args' : List AV} (ha : di (fz T h k) args = some args') : args.flatMap (rch T h m) = args.flatMap (rch T h k) := by
 induction args generalizing args' with
 | nil => rfl
 | cons a as ih =>
  unfold di at ha
  split at ha
  ·rename_i b bs h1 h2
   rw [List.flatMap_cons, List.flatMap_cons, ih h2, nu k m a b hm h1]
  ·cases ha
theorem aT {T : Tab} : ∀ (k m : Nat), k <= m -> gZ (aE T k) (aE T m)
 | 0, _, _ => fun _ _ _ _ h => by cases h
 | k + 1, 0, h => by omega
 | k + 1, m + 1, hm => by
  intro f args σ r hv
  have ih := aT (T := T) k m (by omega)
  have ihb := fun {fn co args σ r} => io (T := T) ih (show k <= m by omega) (fn := fn) (co := co) (args := args) (σ := σ) (r := r)
  have ihf := fun h a b => gw (T := T) (h := h) (k + 1) (m + 1) a b hm
  unfold aE at hv |-
  split at hv
  ·exact hv
  ·split at hv
   ·exact hv
   ·split at hv
    ·split at hv
     ·split at hv
      ·split at hv
       ·exact ihb hv
       ·split at hv
        ·split at hv
         ·rename_i r1 σ1 hb
          rw [ihb hb]; exact hv
         ·cases hv
        ·cases hv
       ·
        split at hv
        ·split at hv
         ·rename_i r1 σ1 hb
          rw [ihb hb]
          simp only
          split at hv
          ·rename_i r2 hr
           rw [ihf _ _ _ hr]; exact hv
          ·cases hv
         ·cases hv
        ·split at hv
         ·rename_i args' ha
          rw [lb (ihf _) _ _ ha]
          simp only
          split at hv
          ·rename_i r1 σ1 hb
           rw [ihb hb]
           simp only
           split at hv
           ·rename_i r2 hr
            rw [ihf _ _ _ hr]
            rw [rch_mono hm ha]
            exact hv
           ·cases hv
          ·cases hv
         ·cases hv
      ·split at hv
       ·split at hv
        ·rename_i r1 σ1 hb
         rw [ihb hb]
         simp only
         split at hv
         ·rename_i r2 hr
          rw [ihf _ _ _ hr]; exact hv
         ·cases hv
        ·cases hv
       ·split at hv
        ·rename_i args' ha
         rw [lb (ihf _) _ _ ha]
         simp only
         split at hv
         ·rename_i r1 σ1 hb
          rw [ihb hb]
          simp only
          split at hv
          ·rename_i r2 hr
           rw [ihf _ _ _ hr]; exact hv
          ·cases hv
         ·cases hv
        ·cases hv
     ·cases hv
    ·cases hv
def Cur : Nat -> Type
 | 0 => AS -> Prop
 | n + 1 => AV -> Cur n
def leC : (n : Nat) -> Cur n -> Cur n -> Prop
 | 0, p, q => ∀ σ, p σ -> q σ
 | n + 1, p, q => ∀ v, leC n (p v) (q v)
def infC {α : Type} (p : α -> Prop) : (n : Nat) -> (α -> Cur n) -> Cur n
 | 0, g => fun σ => ∀ a, p a -> g a σ
 | n + 1, g => fun v => infC p n fun a => g a v
def oV (_ : Nat) (r : Option AV) (K : AV -> Prop) : Prop := match r with
 | some v => K v
 | none => False
def oN (_ : Nat) (b : AB) (f : Nat -> AV) (σ : AS) (K : AV -> AS -> Prop) : Prop := K (f σ.n) ⟨σ.h.put σ.n (some b), σ.n + 1⟩
def oM (_ : Nat) (r : Option (AV × AS)) (K : AV -> AS -> Prop) : Prop := match r with
 | some (v, σ) => K v σ
 | none => False
def oH (r : Option (Tr AB)) (σ : AS) (K : AS -> Prop) : Prop := match r with
 | some h => K { σ with h := h }
 | none => False
def oC (T : Tab) (_ : Nat) (f : Nat) (args : List AV) (σ : AS) (K : AV -> AS -> Prop) : Prop := ∃ k r σ', aE T k f args σ = some (r, σ') /\ K r σ'
def oI (c : AV) (a b : Prop) : Prop := match c with
 | .b x => (x = true -> a) /\ (x = false -> b)
 | _ => False
def fq : (n : Nat) -> Cur n -> AS -> Prop
 | 0, K => K
 | n + 1, K => fq n (K (.tup []))
def oG (L : List Nat) (c : AV) (want : Bool) (body : Cur L.length -> Prop) (σ : AS) (K : Cur L.length) : Prop := match c with
 | .b x => ((x == want) = true -> body K) /\ ((x == want) = false -> fq L.length K σ)
 | .tup [] => fq L.length K σ
 | _ => False
def oD (r : Option (Nat × AB)) (K : Nat -> AB -> Prop) : Prop := match r with
 | some (id, b) => K id b
 | none => False
def oT (b : Bool) (K : Prop) : Prop := b = true /\ K
def oE (r : Option (AB × (Nat -> AV))) (K : AB -> (Nat -> AV) -> Prop) : Prop := match r with
 | some (b, f) => K b f
 | none => False
def oF (T : Tab) (d : Nat) (f : AV) (args : List AV) (σ : AS) (K : AV -> AS -> Prop) : Prop := match f with
 | .fn f fs cs => oC T d f (fs ++ args ++ cs) σ K
 | _ => False
def oS (σ : AS) (K : AS -> Prop) : Prop := K σ
def oA (T : Tab) (_ : Nat) (f : Nat) (args : List AV) (n : Nat) (K : AV -> Option AB -> Prop) : Prop := ∃ k v σ', aE T k f args ⟨.nil, n⟩ = some (v, σ') /\ K v (σ'.h.get n)
def oJ (L : List Nat) (body : Cur L.length -> Prop) (K : Cur L.length) : Prop := body K
def oL (L : List Nat) (B : Cur L.length -> Cur L.length) : Cur L.length := infC (fun R => leC L.length (B R) R) L.length fun R => R
structure Prims where
 oV : Nat -> Option AV -> (AV -> Prop) -> Prop
 oN : Nat -> AB -> (Nat -> AV) -> AS -> (AV -> AS -> Prop) -> Prop
 oM : Nat -> Option (AV × AS) -> (AV -> AS -> Prop) -> Prop
 oH : Option (Tr AB) -> AS -> (AS -> Prop) -> Prop
 oC : Nat -> Nat -> List AV -> AS -> (AV -> AS -> Prop) -> Prop
 oI : AV -> Prop -> Prop -> Prop
 oG : (L : List Nat) -> AV -> Bool -> (Cur L.length -> Prop) -> AS -> Cur L.length -> Prop
 oD : Option (Nat × AB) -> (Nat -> AB -> Prop) -> Prop
 oT : Bool -> Prop -> Prop
 oJ : (L : List Nat) -> (Cur L.length -> Prop) -> Cur L.length -> Prop
 oL : (L : List Nat) -> (Cur L.length -> Cur L.length) -> Cur L.length
 oS : AS -> (AS -> Prop) -> Prop
 oE : Option (AB × (Nat -> AV)) -> (AB -> (Nat -> AV) -> Prop) -> Prop
 oF : Nat -> AV -> List AV -> AS -> (AV -> AS -> Prop) -> Prop
 oA : Nat -> Nat -> List AV -> Nat -> (AV -> Option AB -> Prop) -> Prop
def av (T : Tab) : Prims := ⟨oV, oN, oM, oH, oC T, oI, oG, oD, oT, oJ, oL, oS, oE, oF T, oA T⟩
def au : AV -> Option AV -> Option AV -> Option AV
 | .b true, a, _ => a
 | .b false, _, b => b
 | _, _, _ => none
def cU : AV -> Option AV
 | .ptr id off => some (.ptr id off)
 | .iptr cs => some (.iptr cs)
 | .fn f fs cs => some (.fn f fs cs)
 | _ => none
def ar (off : Nat) : AV -> Option AV
 | .ptr id o => some (.ptr id (o + off))
 | .iptr cs => some (.iptr (cs.drop off))
 | _ => none
def ri (T : Tab) (t off : Nat) : AV -> Option AV
 | .agg cs => aJ T t (cs.drop off)
 | _ => none
def aI (n : Nat) : AV -> Option AV
 | .tup vs => vs[n]?
 | _ => none
def ac (T : Tab) (h : Tr AB) (t : Nat) (a : AV) : Option AV := match iz h a with
 | some cs => aJ T t cs
 | none => none
def oO {α : Type} (r : Option α) (K : α -> Prop) : Prop := match r with
 | some v => K v
 | none => False
def pY (P : Prims) (T : Tab) (d : Nat) (h : Tr AB) (ρ : Operand -> Option AV) (K : AV -> Prop) : Op -> Prop
 | .move x => oO (ρ x) K
 | .assign x => oO (ρ x) K
 | .pick c a b => oO (ρ c) fun c => P.oV d (au c (ρ a) (ρ b)) K
 | .nilCheck x => oO (ρ x) fun a => P.oV d (cU a) K
 | .binOp op t x y _ => oO (ρ x) fun a => oO (ρ y) fun b => P.oV d (af T op t (fH x || fH y) a b) K
 | .unOp op _ x => oO (ρ x) fun a => P.oV d (cZ op a) K
 | .convert s t x => oO (ρ x) fun a => P.oV d (cV T h s t a) K
 | .makeInterface t x => match T.ty t with
  | some (.interface _) => False
  | some _ => oO (ρ x) fun a => K (.ifc t a)
  | none => False
 | .makeFunc (.func f) fs cs => oO (bH ρ fs.toList) fun fs => oO (bH ρ cs.toList) fun cs => K (.fn f fs cs)
 | .slice t x lo hi mx => oO (ρ x) fun x => oO (fe ρ lo) fun lo => oO (fe ρ hi) fun hi => oO (fe ρ mx) fun mx => P.oV d (aL T h t x lo hi mx) K
 | .fieldAddr s x f => match T.ty s with
  | some (.struct fs) => match lk fs f with
   | some fd => match T.sz fd.type with
    | some (_ + 1) => oO (ρ x) fun a => P.oV d (ar fd.offset a) K
    | _ => False
   | none => False
  | _ => False
 | .field s x f => match T.ty s with
  | some (.struct fs) => match lk fs f with
   | some fd => oO (ρ x) fun a => P.oV d (ri T fd.type fd.offset a) K
   | none => False
  | _ => False
 | .indexAddr t x ix => oO (ρ x) fun x => oO (ρ ix) fun ix => P.oV d (ai T t x ix) K
 | .index t x ix => oO (ρ x) fun x => oO (ρ ix) fun ix => P.oV d (cc T t x ix) K
 | .build t ps => oO (gc ρ ps.toList) fun ps => P.oV d (bF T t ps) K
 | .extract t n => oO (ρ t) fun a => P.oV d (aI n a) K
 | .load t a => oO (ρ a) fun a => P.oV d (ac T h t a) K
 | .lookup t m k ok => oO (ρ m) fun m => oO (ρ k) fun k => P.oV d (kG T h t m k ok) K
 | .call c => match c.callee with
  | .builtin b => oO (bH ρ c.args.toList) fun args => P.oV d (aj T h b c.argTypes.toList args) K
  | _ => False
 | _ => False
def ba (T : Tab) (h : Tr AB) (t : Nat) (a v : AV) : Option (Nat × AB) :=
 match a with
 | .ptr id off => match T.sz t with
  | some n => match Nat.beq v.cells.length n, aO v.cells with
   | true, true => match h.get id with
    | some (.cells cs e g) => match bL cs off v.cells with
     | some cs' => some (id, .cells cs' e g)
     | none => none
    | _ => none
   | _, _ => none
  | none => none
 | _ => none
def qO : Option TypeDesc -> Bool
 | some (.slice _) => true
 | _ => false
def dL (T : Tab) : Op -> Nat
 | .alloc _ => 1
 | .box _ _ => 1
 | .buildSlice t _ _ => match T.ice t with | true => 2 | false => 1
 | .makeSlice _ _ _ => 1
 | .makeMap _ _ => 1
 | .range _ _ => 1
 | .convert _ t _ => match qO (T.ty t) with | true => 1 | false => 0
 | .store _ _ _ => 2
 | .mapUpdate _ _ _ _ => 2
 | .insert _ _ _ _ => 2
 | .next _ _ => 2
 | .call c => match c.callee with
  | .builtin .append => 2
  | .builtin .copy => 2
  | .builtin .clear => 2
  | .builtin .unsafeString => 2
  | .value _ => 2
  | _ => 0
 | _ => 0
def qb (P : Prims) (T : Tab) (d : Nat) (σ : AS) (ρ : Operand -> Option AV) (K : AV -> AS -> Prop) : Op -> Prop
 | .buildSlice t len ps => match T.ice t with
  | true => oO (gc ρ ps.toList) fun ps => P.oV d (eE T t len ps) fun v => K v σ
  | false => False
 | .store t a v => oO (ρ a) fun a => oO (ρ v) fun v => P.oH (az T σ.h t a v) σ fun σ => K (.tup []) σ
 | .mapUpdate t m k v => oO (ρ m) fun m => oO (ρ k) fun k => oO (ρ v) fun v => P.oH (fi T σ.h t m k v) σ fun σ => K (.tup []) σ
 | .insert t m k v => oO (ρ m) fun m => oO (ρ k) fun k => oO (ρ v) fun v => P.oH (fi T σ.h t m k v) σ fun σ => K (.tup []) σ
 | .next it true => oO (ρ it) fun it => P.oM d (gW σ it) K
 | .call c => match c.callee with
  | .builtin .append => match c.argTypes.toList with
   | [st, xt] => oO (bH ρ c.args.toList) fun
    | [s, x] => P.oM d (aG T σ st xt s x) K
    | _ => False
   | _ => False
  | .builtin .copy => match c.argTypes.toList with
   | dt :: _ => oO (bH ρ c.args.toList) fun
    | [a, x] => P.oM d (lU T σ dt a x) K
    | _ => False
   | _ => False
  | .builtin .clear => match c.argTypes.toList with
   | [t] => oO (bH ρ c.args.toList) fun
    | [x] => P.oM d (eA T σ t x) K
    | _ => False
   | _ => False
  | .builtin .unsafeString => match c.argTypes.toList with
   | [pt, _] => oO (bH ρ c.args.toList) fun
    | [p, n] => P.oM d (gp T σ pt p n) K
    | _ => False
   | _ => False
  | .value (.func f) => oO (bH ρ c.args.toList) fun args => P.oC d f args σ K
  | .value f => oO (ρ f) fun f => oO (bH ρ c.args.toList) fun args => P.oF d f args σ K
  | _ => False
 | _ => False
def wi (T : Tab) (t len : Nat) (ps : List (Nat × AV)) : Option (AB × (Nat -> AV)) := match T.ty t with
 | some (.slice e) => match T.sz e, T.zr e with
  | some n, some z => match Nat.ble (len * n) 1048576 with
   | true => match gV (fun i => some (i * n, n)) (dm z.cells len) ps with
    | some cs => some (.cells cs e false, fun id => .sl id 0 len (some len))
    | none => none
   | false => none
  | _, _ => none
 | _ => none
def rk (T : Tab) (t : Nat) (l c : AV) : Option (AB × (Nat -> AV)) := match T.ty t with
 | some (.slice e) => match T.sz e, T.zr e, T.by_ e with
  | some _, some z, some by_ => match l, c with
   | .i _ l, .i _ c => if 0 <= l /\ l <= c /\ c <= 1048576 /\ by_ <= 1048576 then some (.cells (dm z.cells c.toNat) e false, fun id => .sl id 0 l.toNat (some c.toNat)) else none
   | _, _ => none
  | _, _, _ => none
 | _ => none
def zy (T : Tab) (s d : Nat) (x : AV) : Option (AB × (Nat -> AV)) := match T.ty s, T.ty d with
 | some _, some (.slice e) => match T.ty e, T.sz e, T.zr e, x with
  | some (.int .u8), some 1, some (.i .u8 0), .s bs => some (.cells (bs.map fun c => .i .u8 c.toNat) e true, fun id => .sl id 0 bs.length none)
  | _, _, _, _ => none
 | _, _ => none
def mU (T : Tab) (t : Nat) (x : AV) : Option (AB × (Nat -> AV)) := match T.ty t, x with
 | some .string, .s s => some (.siter s 0, fun id => .ptr id 0)
 | _, _ => none
def xM (P : Prims) (T : Tab) (ρ : Operand -> Option AV) (K : AB -> (Nat -> AV) -> Prop) : Op -> Prop
 | .alloc e => oO (T.zr e) fun z => K (.cells z.cells e false) (fun id => .ptr id 0)
 | .box e x => oO (ρ x) fun a => K (.cells a.cells e false) (fun id => .ptr id 0)
 | .makeMap _ none => K (.map []) fun id => .mp id
 | .buildSlice t len ps => match T.ice t with
  | true => False
  | false => oO (gc ρ ps.toList) fun ps => P.oE (wi T t len ps) K
 | .makeSlice t l c => oO (ρ l) fun l => oO (ρ c) fun c => P.oE (rk T t l c) K
 | .convert s d x => oO (ρ x) fun a => P.oE (zy T s d a) K
 | .range t x => oO (ρ x) fun a => P.oE (mU T t a) K
 | _ => False
def vcOp (P : Prims) (T : Tab) (d : Nat) (σ : AS) (ρ : Operand -> Option AV) (op : Op) (K : AV -> AS -> Prop) : Prop :=
 match dL T op with
 | 0 => pY P T d σ.h ρ (fun v => K v σ) op
 | 1 => xM P T ρ (fun b f => P.oN d b f σ K) op
 | _ => qb P T d σ ρ K op
def dN : Option Nat -> Nat
 | some d => d
 | none => 0
abbrev VM := List (Nat × AV)
def ky : VM -> Nat -> Option AV
 | [], _ => none
 | (k, v) :: r, n => match Nat.beq k n with
  | true => some v
  | false => ky r n
def dO (T : Tab) (tm : VM) : Operand -> Option AV
 | .tmp t => ky tm t
 | .const v => om v
 | .global g => (T.gl g).map .iptr
 | .func f => some (.fn f [] [])
def ko (nt : Nat) (tm : VM) (dst : Option Nat) (v : AV) : Option VM :=
 match dst with
 | none => some tm
 | some d => match Nat.ble (d + 1) nt with
  | true => some ((d, v) :: tm)
  | false => none
def argL : List AV -> Nat -> VM
 | [], _ => []
 | a :: as, i => (i, a) :: argL as (i + 1)
def ip : (L : List Nat) -> VM -> (VM -> AS -> Prop) -> Cur L.length
 | [], tm, F => fun σ => F tm σ
 | t :: L, tm, F => fun v => ip L ((t, v) :: tm) F
def gY : (L : List Nat) -> VM -> Cur L.length -> AS -> Prop
 | [], _, R => fun σ => R σ
 | t :: L, tm, R => match ky tm t with
  | some v => gY L tm (R v)
  | none => fun _ => False
inductive AN where
 | leaf
 | seq (j : Option (List Nat)) (a b : AN)
 | two (a b : AN)
 | one (a : AN)
 | loop (l : List Nat) (a : AN)
def sameG : Option (Nat × Bool) -> Option (Nat × Bool) -> Bool
 | none, none => true
 | some (i, a), some (j, b) => Nat.beq i j && (a == b)
 | _, _ => false
def lQ : List Oper -> List (Option (Nat × Bool) × List Oper)
 | [] => []
 | o :: os => match lQ os with
  | (g, l) :: r => match sameG o.guard g with
   | true => (g, o :: l) :: r
   | false => (o.guard, [o]) :: (g, l) :: r
  | [] => [(o.guard, [o])]
def aQ : List Oper -> List Nat
 | [] => []
 | o :: os => match o.dst with
  | some d => d :: aQ os
  | none => aQ os
def oP (T : Tab) : AV -> Bool
 | .fn f _ _ => !T.opened f
 | _ => false
def uu (P : Prims) (T : Tab) (nt : Nat) : List Oper -> VM -> AS -> (VM -> AS -> Prop) -> Prop
 | [], tm, σ, K => K tm σ
 | o :: os, tm, σ, K => vcOp P T (dN o.dst) σ (dO T tm) o.op fun v σ => oO (ko nt tm o.dst v) fun tm => uu P T nt os tm σ K
def mb (P : Prims) (T : Tab) (nt : Nat) (ops : Array Oper) : List (Option (Nat × Bool) × List Oper) -> VM -> AS -> (VM -> AS -> Prop) -> Prop
 | [], tm, σ, K => K tm σ
 | (none, l) :: gs, tm, σ, K => uu P T nt l tm σ fun tm σ => mb P T nt ops gs tm σ K
 | (some (j, want), l) :: gs, tm, σ, K => match ops[j]? with
  | some oj => match oj.dst with
   | some e => match aY e (aQ l), Nat.ble ((aQ l).foldr Nat.max 0 + 1) nt with
    | false, true => oO (ky tm e) fun x => P.oG (aQ l) x want (fun k => uu P T nt l tm σ fun tm σ => gY (aQ l) tm k σ) σ (ip (aQ l) tm fun tm σ => mb P T nt ops gs tm σ K)
    | _, _ => False
   | none => False
  | none => False
def mN (l : List AV) : Bool := AV.idfree.idfrees l
def plainK : Op -> Bool
 | .move _ => true
 | .assign _ => true
 | .pick _ _ _ => true
 | .nilCheck _ => true
 | .binOp _ _ _ _ _ => true
 | .unOp _ _ _ => true
 | .makeInterface _ _ => true
 | .makeFunc _ _ _ => true
 | .slice _ _ _ _ _ => true
 | .fieldAddr _ _ _ => true
 | .field _ _ _ => true
 | .indexAddr _ _ _ => true
 | .index _ _ _ => true
 | .build _ _ => true
 | .extract _ _ => true
 | _ => false
def bT (P : Prims) (T : Tab) (nt : Nat) (h : Tr AB) (n0 : Nat) (bef : Nat -> List Nat) : List Oper -> Nat -> VM -> List (Nat × Nat × Option AB) -> List Nat -> Nat -> (VM -> List (Nat × Nat × Option AB) -> List Nat -> Nat -> Prop) -> Prop
 | [], _, tm, news, rd, n, K => K tm news rd n
 | o :: os, i, tm, news, rd, n, K =>
  match dL T o.op with
  | 0 => match plainK o.op with
   | true => pY P T (dN o.dst) .nil (dO T tm) (fun v => oO (ko nt tm o.dst v) fun tm => bT P T nt h n0 bef os (i + 1) tm news rd n K) o.op
   | false => (match news with | [] => fun q => q | _ => P.oT (bD n0 (bef i) news news)) (pY P T (dN o.dst) (eF h (bef i) news) (dO T tm) (fun v => oO (ko nt tm o.dst v) fun tm => bT P T nt h n0 bef os (i + 1) tm news (i :: rd) n K) o.op)
  | 1 => (fun K => xM P T (dO T tm) K o.op) fun b f => oO (ko nt tm o.dst (f n)) fun tm => bT P T nt h n0 bef os (i + 1) tm ((i, n, some b) :: news) rd (n + 1) K
  | _ => (match news with | [] => fun q => q | _ => P.oT (bD n0 (bef i) news news)) (match o.op with
   | .call c => match c.callee with
    | .value (.func f) => match T.opened f with
     | true => match Nat.beq (T.mode f) 1 with
      | true => oO (bH (dO T tm) c.args.toList) fun args => P.oA (dN o.dst) f args n fun v b => oO (ko nt tm o.dst v) fun tm => bT P T nt h n0 bef os (i + 1) tm ((i, n, b) :: news) rd (n + 1) K
      | false => match Nat.beq (T.mode f) 3 with
       | true => oO (bH (dO T tm) c.args.toList) fun args => P.oT (mN args) (P.oC (dN o.dst) f args ⟨eF h (bef i) news, n⟩ fun v _ => oO (ko nt tm o.dst v) fun tm => bT P T nt h n0 bef os (i + 1) tm news (i :: rd) n K)
       | false => False
     | false => oO (bH (dO T tm) c.args.toList) fun args => P.oC (dN o.dst) f args ⟨eF h (bef i) news, n⟩ fun v _ => oO (ko nt tm o.dst v) fun tm => bT P T nt h n0 bef os (i + 1) tm news (i :: rd) n K
    | .value f => oO (dO T tm f) fun f => P.oT (oP T f) (oO (bH (dO T tm) c.args.toList) fun args => P.oF (dN o.dst) f args ⟨eF h (bef i) news, n⟩ fun v _ => oO (ko nt tm o.dst v) fun tm => bT P T nt h n0 bef os (i + 1) tm news (i :: rd) n K)
    | _ => False
   | .buildSlice t len ps => match T.ice t with
    | true => oO (gc (dO T tm) ps.toList) fun ps => P.oV (dN o.dst) (eE T t len ps) fun v => oO (ko nt tm o.dst v) fun tm => bT P T nt h n0 bef os (i + 1) tm news (i :: rd) n K
    | false => False
   | .store t a v => oO (dO T tm a) fun a => oO (dO T tm v) fun v => P.oD (ba T (eF h (bef i) news) t a v) fun id b => P.oT (cb n0 bef (bef i) news id rd && cE (bef i) id news) (oO (ko nt tm o.dst (.tup [])) fun tm => bT P T nt h n0 bef os (i + 1) tm ((i, id, some b) :: news) rd n K)
   | _ => False)
def ge (T : Tab) : List Oper -> Bool
 | [] => true
 | o :: os => (match dL T o.op with
  | 0 => true
  | 1 => false
  | _ => match o.op with
   | .call c => match c.callee with
    | .value (.func f) => !T.opened f
    | _ => true
   | .buildSlice _ _ _ => true
   | _ => false) && ge T os
def jn (P : Prims) (T : Tab) (nt : Nat) (ops : Array Oper) (h : Tr AB) (n0 : Nat) (bef : Nat -> List Nat) : List (Option (Nat × Bool) × List Oper) -> Nat -> VM -> List (Nat × Nat × Option AB) -> List Nat -> Nat -> (VM -> List (Nat × Nat × Option AB) -> Nat -> Prop) -> Prop
 | [], _, tm, news, _, n, K => K tm news n
 | (none, l) :: gs, i, tm, news, rd, n, K => bT P T nt h n0 bef l i tm news rd n fun tm news rd n => jn P T nt ops h n0 bef gs (i + l.length) tm news rd n K
 | (some (j, want), l) :: gs, i, tm, news, rd, n, K => match ops[j]? with
  | some oj => match oj.dst with
   | some e => match aY e (aQ l), Nat.ble ((aQ l).foldr Nat.max 0 + 1) nt, ge T l with
    | false, true, true => oO (ky tm e) fun x => P.oG (aQ l) x want (fun k => bT P T nt h n0 bef l i tm news rd n fun tm _ _ _ => gY (aQ l) tm k ⟨h, n0⟩) ⟨h, n0⟩
      (ip (aQ l) tm fun tm _ => jn P T nt ops h n0 bef gs (i + l.length) tm news ((List.range' i l.length) ++ rd) n K)
    | _, _, _ => False
   | none => False
  | none => False
def ut (P : Prims) (T : Tab) (nt : Nat) (ops : Array Oper) (k0 k1 : Nat) (tm : VM) (σ : AS) (K : VM -> AS -> Prop) : Prop := match Nat.beq k0 k1 with
 | true => K tm σ
 | false => match uK ops.toList k0 k1 with
  | true => jn P T nt ⟨fP ops.toList k0 k1⟩ σ.h σ.n (oc ⟨fP ops.toList k0 k1⟩) (lQ (fP ops.toList k0 k1)) 0 tm [] [] σ.n fun tm news n => match news with
   | [] => K tm ⟨σ.h, n⟩
   | _ => P.oS ⟨lay σ.h news, n⟩ fun σ => K tm σ
  | false => False
def iE (P : Prims) (T : Tab) (nt : Nat) (ops : Array Oper) : List Nat -> VM -> (VM -> Prop) -> Prop
 | [], tm, K => K tm
 | j :: js, tm, K => match ops[j]? with
  | some o => (fun (K' : AV -> Prop) => match o.op with
   | .move x => oO (dO T tm x) fun a => P.oT (eI a) (K' a)
   | .binOp op t x y _ => oO (dO T tm x) fun a => P.oT (eI a) (oO (dO T tm y) fun b => P.oT (eI b) (P.oV (dN o.dst) (af T op t (fH x || fH y) a b) fun v => P.oT (eI v) (K' v)))
   | .slice t x lo hi mx => oO (dO T tm x) fun x => P.oT (eI x) (oO (fe (dO T tm) lo) fun lo => P.oT (pF lo) (oO (fe (dO T tm) hi) fun hi => P.oT (pF hi) (oO (fe (dO T tm) mx) fun mx => P.oT (pF mx)
     (P.oV (dN o.dst) (cX T t x lo hi mx) fun v => P.oT (eI v) (K' v)))))
   | _ => False) (fun v => oO (ko nt tm o.dst v) fun tm => iE P T nt ops js tm K)
  | none => False
def tz (P : Prims) (T : Tab) (nt : Nat) (ops : Array Oper) : List Nat -> Nat -> VM -> AS -> (VM -> AS -> Prop) -> Prop
 | [], k0, tm, σ, K => ut P T nt ops k0 ops.size tm σ K
 | b :: bs, k0, tm, σ, K => ut P T nt ops k0 b tm σ fun tm σ => match ops[b]? with
  | some o => match barOK ops.size b (oc ops) with
   | true => mb P T nt ops [(o.guard, [o])] tm σ fun tm σ => tz P T nt ops bs (b + 1) tm σ K
   | false => False
  | none => False
def vc (P : Prims) (T : Tab) (nt : Nat) : Code -> AN -> VM -> AS -> (AX -> VM -> AS -> Prop) -> Prop
 | .skip, _, tm, σ, K => K .norm tm σ
 | .label _, _, tm, σ, K => K .norm tm σ
 | .region _ ops false, _, tm, σ, K => mb P T nt ops (lQ ops.toList) tm σ (K .norm)
 | .region _ ops true, _, tm, σ, K => match kJ T ops.toList 0 with
  | [] => jn P T nt ops σ.h σ.n (oc ops) (lQ ops.toList) 0 tm [] [] σ.n fun tm news n => match news with
   | [] => K .norm tm ⟨σ.h, n⟩
   | _ => P.oS ⟨lay σ.h news, n⟩ fun σ => K .norm tm σ
  | b :: bs => match vZ T ops with
   | [] => tz P T nt ops (b :: bs) 0 tm σ (K .norm)
   | j :: js => match nW (j :: js) ops with
    | true => iE P T nt ops (j :: js) tm fun tm => tz P T nt (dU (j :: js) ops) (b :: bs) 0 tm σ (K .norm)
    | false => False
 | .seq a b, .seq none x y, tm, σ, K => vc P T nt a x tm σ fun
  | .norm => fun tm σ => vc P T nt b y tm σ K
  | .exit i => K (.exit i)
  | .ret => K .ret
 | .seq a b, .seq (some L) x y, tm, σ, K => P.oJ L (fun k => vc P T nt a x tm σ fun
  | .norm => fun tm σ => gY L tm k σ
  | .exit i => K (.exit i)
  | .ret => K .ret) (ip L [] fun tm σ => vc P T nt b y tm σ K)
 | .cond c a b, .two x y, tm, σ, K => oO (dO T tm c) fun v => P.oI v (vc P T nt a x tm σ K) (vc P T nt b y tm σ K)
 | .block id c, .one x, tm, σ, K => vc P T nt c x tm σ fun
  | .norm => K .norm
  | .exit j => match Nat.beq j id with
   | true => K .norm
   | false => K (.exit j)
  | .ret => K .ret
 | .loop c, .loop L x, tm, σ, K => gY L tm (P.oL L fun R => ip L [] fun tm σ => vc P T nt c x tm σ fun
  | .norm => fun tm σ => gY L tm R σ
  | .exit i => K (.exit i)
  | .ret => K .ret) σ
 | .exit id, _, tm, σ, K => K (.exit id) tm σ
 | .scope c, .one x, tm, σ, K => vc P T nt c x tm σ K
 | .ret, _, tm, σ, K => K .ret tm σ
 | _, _, _, _, _ => False
def xL (P : Prims) (T : Tab) (tm : VM) (h : Tr AB) : List ResultVar -> (List AV -> Prop) -> Prop
 | [], K => K []
 | .tmp t :: rs, K => oO (ky tm t) fun a => xL P T tm h rs fun as => K (a :: as)
 | .cell a t :: rs, K => oO (ky tm a) fun p => P.oV a (ac T h t p) fun v => xL P T tm h rs fun as => K (v :: as)
def bQ (P : Prims) (T : Tab) (fn : Func) (c : Code) (an : AN) (args : List AV) (σ : AS) (Q : AV -> AS -> Prop) : Prop :=
 vc P T (Nat.max args.length fn.ntmps) c an (argL args 0) σ fun
  | .exit _ => fun _ _ => False
  | _ => fun tm σ => xL P T tm σ.h fn.results.toList fun vs => Q (fD vs) σ
set_option linter.unusedSimpArgs false
set_option linter.unusedVariables false
def Sub (tm : VM) (tm' : Tr AV) : Prop := ∀ t v, ky tm t = some v -> tm'.get t = some v
theorem nH (k : Nat) (v : AV) (r : VM) (n : Nat) : ky ((k, v) :: r) n = if n = k then some v else ky r n := by
 show (match Nat.beq k n with | true => some v | false => ky r n) = _
 by_cases h : n = k
 ·subst h; rw [Nat.beq_refl, if_pos rfl]
 ·have : Nat.beq k n = false := by
   cases hb : Nat.beq k n with
   | false => rfl
   | true => exact absurd (Nat.eq_of_beq_eq_true hb).symm h
  rw [this, if_neg h]
theorem Sub.put {a : VM} {b : Tr AV} (h : Sub a b) (t : Nat) (v : AV) : Sub ((t, v) :: a) (b.put t (some v)) := fun s w q => by
 rw [nH] at q
 rw [Tr.get_put]
 split
 ·rename_i e; rw [if_pos e] at q; exact q
 ·rename_i e; rw [if_neg e] at q; exact h s w q
def Le (ρ ρ' : Operand -> Option AV) : Prop := ∀ x a, ρ x = some a -> ρ' x = some a
theorem Sub.le {T : Tab} {a : VM} {b : Tr AV} (h : Sub a b) : Le (dO T a) (ce T b) := fun x v q => by
 cases x with
 | tmp t => exact h t v q
 | const c => exact q
 | global g => exact q
 | func f => exact q
section
variable {T : Tab} {ρ ρ' : Operand -> Option AV} (hρ : Le ρ ρ')
theorem dd (hρ : Le ρ ρ') : ∀ {xs : List Operand} {as : List AV}, bH ρ xs = some as -> bH ρ' xs = some as
 | [], as, h => h
 | x :: xs, as, h => by
  unfold bH at h |-
  split at h
  ·rename_i a bs h1 h2
   rw [hρ _ _ h1, dd hρ h2]; exact h
  ·cases h
theorem kp (hρ : Le ρ ρ') : ∀ {xs : List (Nat × Operand)} {as : List (Nat × AV)}, gc ρ xs = some as -> gc ρ' xs = some as
 | [], as, h => h
 | (i, x) :: xs, as, h => by
  unfold gc at h |-
  split at h
  ·rename_i a bs h1 h2
   rw [hρ _ _ h1, kp hρ h2]; exact h
  ·cases h
theorem iS (hρ : Le ρ ρ') {x : Option Operand} {a : Option AV} (h : fe ρ x = some a) : fe ρ' x = some a := by
 unfold fe at h |-
 split at h
 ·exact h
 ·split at h
  ·rename_i b h1; simp only [hρ _ _ h1]; exact h
  ·cases h
theorem aB {α : Type} {r : Option α} {K : α -> Prop} (h : oO r K) : ∃ a, r = some a /\ K a := by
 unfold oO at h; split at h
 ·exact ⟨_, rfl, h⟩
 ·exact h.elim
theorem cA {d : Nat} {r : Option AV} {K : AV -> Prop} (h : oV d r K) : ∃ a, r = some a /\ K a := by
 unfold oV at h; split at h
 ·exact ⟨_, rfl, h⟩
 ·exact h.elim
theorem pX (hρ : Le ρ ρ') {d : Nat} {h : Tr AB} {K : AV -> Prop} {op : Op} (hv : pY (av T) T d h ρ K op) : ∃ v, bk T h ρ' op = some v /\ K v := by
 cases op with
 | move x => obtain ⟨a, h1, h2⟩ := aB hv; exact ⟨a, hρ _ _ h1, h2⟩
 | assign x => obtain ⟨a, h1, h2⟩ := aB hv; exact ⟨a, hρ _ _ h1, h2⟩
 | pick c a b =>
  obtain ⟨c', h1, h2⟩ := aB hv
  obtain ⟨v, h3, h4⟩ := cA (d := d) h2
  refine ⟨v, ?_, h4⟩
  unfold au at h3
  split at h3
  ·simp only [bk, hρ _ _ h1]; exact hρ _ _ h3
  ·simp only [bk, hρ _ _ h1]; exact hρ _ _ h3
  ·cases h3
 | nilCheck x =>
  obtain ⟨a, h1, h2⟩ := aB hv
  obtain ⟨v, h3, h4⟩ := cA (d := d) h2
  refine ⟨v, ?_, h4⟩
  simp only [bk, hρ _ _ h1]
  cases a <;> first | exact h3 | cases h3
 | binOp op t x y u =>
  obtain ⟨a, h1, h2⟩ := aB hv
  obtain ⟨b, h3, h4⟩ := aB h2
  obtain ⟨v, h5, h6⟩ := cA (d := d) h4
  exact ⟨v, by simp only [bk, hρ _ _ h1, hρ _ _ h3, h5], h6⟩
 | unOp op t x =>
  obtain ⟨a, h1, h2⟩ := aB hv
  obtain ⟨v, h3, h4⟩ := cA (d := d) h2
  exact ⟨v, by simp only [bk, hρ _ _ h1, h3], h4⟩
 | convert s t x =>
  obtain ⟨a, h1, h2⟩ := aB hv
  obtain ⟨v, h3, h4⟩ := cA (d := d) h2
  exact ⟨v, by simp only [bk, hρ _ _ h1, h3], h4⟩
 | makeInterface t x =>
  simp only [pY] at hv
  split at hv
  ·exact hv.elim
  ·rename_i d' hne hd
   obtain ⟨a, h1, h2⟩ := aB hv
   refine ⟨_, ?_, h2⟩
   simp only [bk, hd, hρ _ _ h1, Option.map_some]
  ·exact hv.elim
 | makeFunc fn fs cs =>
  cases fn with
  | func f =>
   obtain ⟨a, h1, h2⟩ := aB hv
   obtain ⟨b, h3, h4⟩ := aB h2
   exact ⟨_, by simp only [bk, dd hρ h1, dd hρ h3], h4⟩
  | _ => exact hv.elim
 | slice t x lo hi mx =>
  obtain ⟨a, h1, h2⟩ := aB hv
  obtain ⟨l, h3, h4⟩ := aB h2
  obtain ⟨r, h5, h6⟩ := aB h4
  obtain ⟨m, h7, h8⟩ := aB h6
  obtain ⟨v, h9, h10⟩ := cA (d := d) h8
  exact ⟨v, by simp only [bk, hρ _ _ h1, iS hρ h3, iS hρ h5, iS hρ h7, h9], h10⟩
 | fieldAddr s x f =>
  simp only [pY] at hv
  split at hv
  ·rename_i fs hs
   split at hv
   ·rename_i fd hf
    split at hv
    ·rename_i z hz
     obtain ⟨a, h1, h2⟩ := aB hv
     obtain ⟨v, h3, h4⟩ := cA (d := d) h2
     refine ⟨v, ?_, h4⟩
     simp only [bk, hs, hf, hz, hρ _ _ h1]
     cases a <;> first | exact h3 | cases h3
    ·exact hv.elim
   ·exact hv.elim
  ·exact hv.elim
 | field s x f =>
  simp only [pY] at hv
  split at hv
  ·rename_i fs hs
   split at hv
   ·rename_i fd hf
    obtain ⟨a, h1, h2⟩ := aB hv
    obtain ⟨v, h3, h4⟩ := cA (d := d) h2
    refine ⟨v, ?_, h4⟩
    simp only [bk, hs, hf, hρ _ _ h1]
    cases a <;> first | exact h3 | cases h3
   ·exact hv.elim
  ·exact hv.elim
 | indexAddr t x ix =>
  obtain ⟨a, h1, h2⟩ := aB hv
  obtain ⟨b, h3, h4⟩ := aB h2
  obtain ⟨v, h5, h6⟩ := cA (d := d) h4
  exact ⟨v, by simp only [bk, hρ _ _ h1, hρ _ _ h3, h5], h6⟩
 | index t x ix =>
  obtain ⟨a, h1, h2⟩ := aB hv
  obtain ⟨b, h3, h4⟩ := aB h2
  obtain ⟨v, h5, h6⟩ := cA (d := d) h4
  exact ⟨v, by simp only [bk, hρ _ _ h1, hρ _ _ h3, h5], h6⟩
 | build t ps =>
  obtain ⟨a, h1, h2⟩ := aB hv
  obtain ⟨v, h3, h4⟩ := cA (d := d) h2
  exact ⟨v, by simp only [bk, kp hρ h1, h3], h4⟩
 | extract t n =>
  obtain ⟨a, h1, h2⟩ := aB hv
  obtain ⟨v, h3, h4⟩ := cA (d := d) h2
  refine ⟨v, ?_, h4⟩
  simp only [bk, hρ _ _ h1]
  cases a <;> first | exact h3 | cases h3
 | load t a =>
  obtain ⟨a, h1, h2⟩ := aB hv
  obtain ⟨v, h3, h4⟩ := cA (d := d) h2
  refine ⟨v, ?_, h4⟩
  simp only [bk, hρ _ _ h1]
  cases a <;> first | exact h3 | cases h3
 | lookup t m k ok =>
  obtain ⟨a, h1, h2⟩ := aB hv
  obtain ⟨b, h3, h4⟩ := aB h2
  obtain ⟨v, h5, h6⟩ := cA (d := d) h4
  exact ⟨v, by simp only [bk, hρ _ _ h1, hρ _ _ h3, h5], h6⟩
 | call c =>
  obtain ⟨callee, args, ts⟩ := c
  cases callee with
  | builtin b =>
   obtain ⟨a, h1, h2⟩ := aB hv
   obtain ⟨v, h3, h4⟩ := cA (d := d) h2
   exact ⟨v, by simp only [bk, dd hρ h1, h3], h4⟩
  | _ => exact hv.elim
 | _ => exact hv.elim
theorem uv (hρ : Le ρ ρ') {K : AB -> (Nat -> AV) -> Prop} {op : Op} (hv : xM (av T) T ρ K op) : ∃ b f, eS T ρ' op = some (b, f) /\ K b f := by
 have eV : ∀ {r : Option (AB × (Nat -> AV))}, oE r K -> ∃ b f, r = some (b, f) /\ K b f := by
  intro r h; unfold oE at h; split at h
  ·exact ⟨_, _, rfl, h⟩
  ·exact h.elim
 cases op with
 | alloc e => obtain ⟨z, h1, h2⟩ := aB hv; exact ⟨_, _, by simp only [eS, h1], h2⟩
 | box e x => obtain ⟨z, h1, h2⟩ := aB hv; exact ⟨_, _, by simp only [eS, hρ _ _ h1], h2⟩
 | makeMap t r =>
  cases r with
  | none => exact ⟨_, _, rfl, hv⟩
  | some r => exact hv.elim
 | buildSlice t len ps =>
  simp only [xM] at hv
  split at hv
  ·exact hv.elim
  rename_i hice
  obtain ⟨as, h1, h2⟩ := aB hv
  obtain ⟨b, f, h3, h4⟩ := eV h2
  refine ⟨b, f, ?_, h4⟩
  unfold wi at h3
  split at h3
  ·rename_i e he
   split at h3
   ·rename_i n z hn hz
    simp only [eS, hice, he, hn, hz, kp hρ h1]; exact h3
   ·cases h3
  ·cases h3
 | makeSlice t l c =>
  obtain ⟨l', h1, h2⟩ := aB hv
  obtain ⟨c', h3, h4⟩ := aB h2
  obtain ⟨b, f, h5, h6⟩ := eV h4
  refine ⟨b, f, ?_, h6⟩
  unfold rk at h5
  split at h5
  ·rename_i e he
   split at h5
   ·rename_i n z by_ hn hz hb
    split at h5
    ·simp only [eS, he, hn, hz, hb, hρ _ _ h1, hρ _ _ h3]; exact h5
    ·cases h5
   ·cases h5
  ·cases h5
 | convert s d x =>
  obtain ⟨a, h1, h2⟩ := aB hv
  obtain ⟨b, f, h3, h4⟩ := eV h2
  refine ⟨b, f, ?_, h4⟩
  unfold zy at h3
  split at h3
  ·rename_i hs hd
   split at h3
   ·rename_i q1 q2 q3
    simp only [eS, hs, hd, q1, q2, q3, hρ _ _ h1]; exact h3
   ·cases h3
  ·cases h3
 | range t x =>
  obtain ⟨a, h1, h2⟩ := aB hv
  obtain ⟨b, f, h3, h4⟩ := eV h2
  refine ⟨b, f, ?_, h4⟩
  unfold mU at h3
  split at h3
  ·rename_i q1
   simp only [eS, q1, hρ _ _ h1]; exact h3
  ·cases h3
 | _ => exact hv.elim
theorem ue {h : Tr AB} {s d : Nat} {a : AV} (hd : qO (T.ty d) = true) : cV T h s d a = none := by
 unfold qO at hd
 split at hd
 ·rename_i e he
  unfold cV
  rw [he]
  split <;> first | rfl | (rename_i heq; cases heq) | skip
  all_goals (rename_i h1 h2; first | (cases h2) | (cases h1))
 ·cases hd
theorem sG {h : Tr AB} {op : Op} (hk : dL T op = 1) : bk T h ρ op = none := by
 cases op with
 | convert s d x =>
  simp only [dL] at hk
  split at hk
  ·rename_i hd
   simp only [bk]
   split
   ·exact ue hd
   ·rfl
  ·cases hk
 | call c =>
  obtain ⟨callee, args, ts⟩ := c
  cases callee with
  | builtin b => cases b <;> cases hk
  | _ => cases hk
 | _ => first | rfl | cases hk
theorem nL {h : Tr AB} {op : Op} (hk : dL T op = 2) : bk T h ρ op = none /\ eS T ρ op = none := by
 cases op with
 | buildSlice t len ps =>
  simp only [dL] at hk
  split at hk
  ·rename_i hi
   exact ⟨rfl, by simp only [eS, hi]⟩
  ·cases hk
 | convert s d x =>
  simp only [dL] at hk
  split at hk <;> cases hk
 | call c =>
  obtain ⟨callee, args, ts⟩ := c
  cases callee with
  | builtin b =>
   cases b <;> first
    | (cases hk; done)
    | (refine ⟨?_, rfl⟩
       simp only [bk]
       split
       ·rfl
       ·rfl)
  | value f => exact ⟨rfl, rfl⟩
  | invoke a b => cases hk
 | _ => first | exact ⟨rfl, rfl⟩ | cases hk
theorem Aq {op : Op} (hk : dL T op = 0) : eS T ρ op = none := by
 cases op with
 | buildSlice t len ps =>
  simp only [dL] at hk
  split at hk <;> cases hk
 | convert s d x =>
  simp only [dL] at hk
  split at hk
  ·cases hk
  ·rename_i hd
   simp only [eS]
   split
   ·rename_i e he
    rw [he] at hd; cases hd
   ·rfl
 | _ => first | rfl | cases hk
theorem yr (op : Op) : dL T op = 0 ∨ dL T op = 1 ∨ dL T op = 2 := by
 cases op <;> simp only [dL] <;> first | simp | skip
 all_goals split <;> simp
end
section
variable {T : Tab} {nt : Nat}
theorem vcMod_ok {ρ ρ' : Operand -> Option AV} (hρ : Le ρ ρ') (hfn : ∀ f, ρ' (.func f) = some (.fn f [] [])) {d : Nat} {σ : AS} {K : AV -> AS -> Prop} {op : Op} (hv : qb (av T) T d σ ρ K op) : ∃ k v σ', fM T (aE T k) σ ρ' op = some (v, σ') /\ K v σ' := by
 have aP : ∀ {r : Option (AV × AS)}, oM d r K -> ∃ v σ', r = some (v, σ') /\ K v σ' := by
  intro r h; unfold oM at h; split at h
  ·exact ⟨_, _, rfl, h⟩
  ·exact h.elim
 have aH : ∀ {r : Option (Tr AB)} {K : AS -> Prop}, oH r σ K -> ∃ h, r = some h /\ K { σ with h := h } := by
  intro r K h; unfold oH at h; split at h
  ·exact ⟨_, rfl, h⟩
  ·exact h.elim
 cases op with
 | buildSlice t len ps =>
  simp only [qb] at hv
  split at hv
  ·rename_i hice
   obtain ⟨as, h1, h2⟩ := aB hv
   obtain ⟨v, h3, h4⟩ := cA (d := d) h2
   exact ⟨0, v, σ, by simp only [fM, qQ, hice, kp hρ h1, h3], h4⟩
  ·exact hv.elim
 | store t a v =>
  obtain ⟨p, h1, h2⟩ := aB hv
  obtain ⟨q, h3, h4⟩ := aB h2
  obtain ⟨h', h5, h6⟩ := aH h4
  exact ⟨0, _, _, by simp only [fM, hρ _ _ h1, hρ _ _ h3, h5], h6⟩
 | mapUpdate t m k v =>
  obtain ⟨p, h1, h2⟩ := aB hv
  obtain ⟨q, h3, h4⟩ := aB h2
  obtain ⟨r, h5, h6⟩ := aB h4
  obtain ⟨h', h7, h8⟩ := aH h6
  exact ⟨0, _, _, by simp only [fM, hρ _ _ h1, hρ _ _ h3, hρ _ _ h5, h7], h8⟩
 | insert t m k v =>
  obtain ⟨p, h1, h2⟩ := aB hv
  obtain ⟨q, h3, h4⟩ := aB h2
  obtain ⟨r, h5, h6⟩ := aB h4
  obtain ⟨h', h7, h8⟩ := aH h6
  exact ⟨0, _, _, by simp only [fM, hρ _ _ h1, hρ _ _ h3, hρ _ _ h5, h7], h8⟩
 | next it s =>
  cases s with
  | false => exact hv.elim
  | true =>
   obtain ⟨p, h1, h2⟩ := aB hv
   obtain ⟨v, σ', h3, h4⟩ := aP h2
   exact ⟨0, v, σ', by simp only [fM, hρ _ _ h1, h3], h4⟩
 | call c =>
  obtain ⟨callee, args, ts⟩ := c
  cases callee with
  | builtin b =>
   cases b
   case append =>
    simp only [qb] at hv
    split at hv
    ·rename_i st xt hts
     obtain ⟨as, h1, h2⟩ := aB hv
     split at h2
     ·obtain ⟨v, σ', h3, h4⟩ := aP h2
      exact ⟨0, v, σ', by simp only [fM, hts, dd hρ h1, h3], h4⟩
     ·exact h2.elim
    ·exact hv.elim
   case copy =>
    simp only [qb] at hv
    split at hv
    ·rename_i dt r hts
     obtain ⟨as, h1, h2⟩ := aB hv
     split at h2
     ·obtain ⟨v, σ', h3, h4⟩ := aP h2
      exact ⟨0, v, σ', by simp only [fM, hts, dd hρ h1, h3], h4⟩
     ·exact h2.elim
    ·exact hv.elim
   case clear =>
    simp only [qb] at hv
    split at hv
    ·rename_i t hts
     obtain ⟨as, h1, h2⟩ := aB hv
     split at h2
     ·obtain ⟨v, σ', h3, h4⟩ := aP h2
      exact ⟨0, v, σ', by simp only [fM, hts, dd hρ h1, h3], h4⟩
     ·exact h2.elim
    ·exact hv.elim
   case unsafeString =>
    simp only [qb] at hv
    split at hv
    ·rename_i pt it hts
     obtain ⟨as, h1, h2⟩ := aB hv
     split at h2
     ·obtain ⟨v, σ', h3, h4⟩ := aP h2
      exact ⟨0, v, σ', by simp only [fM, hts, dd hρ h1, h3], h4⟩
     ·exact h2.elim
    ·exact hv.elim
   all_goals exact hv.elim
  | value f =>
   have dyn : (oO (ρ f) fun f => oO (bH ρ args.toList) fun args => oF T d f args σ K) -> ∃ k v σ', fM T (aE T k) σ ρ' (.call ⟨.value f, args, ts⟩) = some (v, σ') /\ K v σ' := by
    intro hv
    obtain ⟨p, h1, h2⟩ := aB hv
    obtain ⟨as, h3, h4⟩ := aB h2
    unfold oF at h4
    split at h4
    ·obtain ⟨k, v, σ', h5, h6⟩ := h4
     exact ⟨k, v, σ', by simp only [fM, hρ _ _ h1, dd hρ h3, h5], h6⟩
    ·exact h4.elim
   cases f with
   | func f =>
    obtain ⟨as, h3, h4⟩ := aB hv
    obtain ⟨k, v, σ', h5, h6⟩ := h4
    refine ⟨k, v, σ', ?_, h6⟩
    have e : bH ρ' args.toList = some as := dd hρ h3
    simp only [fM, e, hfn f, List.nil_append, List.append_nil, h5]
   | _ => exact dyn hv
  | invoke a b => exact hv.elim
 | _ => exact hv.elim
theorem vcOp_ok {tm : VM} {tm' : Tr AV} (hs : Sub tm tm') {d : Nat} {σ : AS} {o : Oper} {K : AV -> AS -> Prop} (hv : vcOp (av T) T d σ (dO T tm) o.op K) : ∃ k v σ', rj T (aE T k) tm' σ o = some (v, σ') /\ K v σ' := by
 have hρ := hs.le (T := T)
 unfold vcOp at hv
 rcases yr (T := T) o.op with hk | hk | hk <;> rw [hk] at hv
 ·obtain ⟨v, h1, h2⟩ := pX hρ hv
  exact ⟨0, v, σ, by unfold rj; rw [h1], h2⟩
 ·obtain ⟨b, f, h1, h2⟩ := uv hρ hv
  refine ⟨0, f σ.n, ⟨σ.h.put σ.n (some b), σ.n + 1⟩, ?_, h2⟩
  unfold rj
  rw [sG hk, h1]
 ·obtain ⟨k, v, σ', h1, h2⟩ := vcMod_ok hρ (fun f => rfl) hv
  refine ⟨k, v, σ', ?_, h2⟩
  unfold rj
  rw [(nL (h := σ.h) hk).1, (nL (h := σ.h) hk).2, h1]
theorem fy {tm a : VM} {tm' : Tr AV} (hs : Sub tm tm') {dst : Option Nat} {v : AV} (h : ko nt tm dst v = some a) : ∃ a', dR nt tm' dst v = some a' /\ Sub a a' := by
 unfold ko at h
 unfold dR
 split at h
 ·injection h with h; subst h; exact ⟨_, rfl, hs⟩
 ·rename_i d
  split at h
  ·rename_i hd; injection h with h; subst h; exact ⟨_, by simp only [hd], hs.put d _⟩
  ·cases h
theorem fj {F : VM -> AS -> Prop} {σ : AS} {tm1 : VM} : ∀ (L : List Nat) (tm0 : VM), gY L tm1 (ip L tm0 F) σ -> ∃ tm2, F tm2 σ /\ ∀ t v, ky tm2 t = some v -> (t ∈ L /\ ky tm1 t = some v) ∨ (t ∉ L /\ ky tm0 t = some v)
 | [], tm0, h => ⟨tm0, h, fun t v q => .inr ⟨by simp, q⟩⟩
 | s :: L, tm0, h => by
  cases hw : ky tm1 s with
  | some w =>
   simp only [gY, hw] at h
   obtain ⟨tm2, h1, h2⟩ := fj L ((s, w) :: tm0) h
   refine ⟨tm2, h1, fun t v q => ?_⟩
   rcases h2 t v q with ⟨q1, q2⟩ | ⟨q1, q2⟩
   ·exact .inl ⟨List.mem_cons_of_mem _ q1, q2⟩
   ·rw [nH] at q2
    split at q2
    ·rename_i e; subst e; injection q2 with q2; subst q2
     exact .inl ⟨List.mem_cons_self, hw⟩
    ·rename_i e
     exact .inr ⟨by simp [e, q1], q2⟩
  | none => simp only [gY, hw] at h
theorem sF {F G : VM -> AS -> Prop} (h : ∀ tm σ, F tm σ -> G tm σ) : ∀ (L : List Nat) (tm : VM), leC L.length (ip L tm F) (ip L tm G)
 | [], tm => fun σ hf => h tm σ hf
 | s :: L, tm => fun v => sF h L ((s, v) :: tm)
theorem ry {α : Type} {p : α -> Prop} {σ : AS} {tm : VM} : ∀ (L : List Nat) (g : α -> Cur L.length), gY L tm (infC p L.length g) σ -> ∀ a, p a -> gY L tm (g a) σ
 | [], g, h, a, ha => h a ha
 | s :: L, g, h, a, ha => by
  cases hw : ky tm s with
  | some w => simp only [gY, hw] at h |-; exact ry L _ h a ha
  | none => simp only [gY, hw] at h
def pD : List Nat -> Tr AV -> Tr AV
 | [], tm => tm
 | t :: L, tm => pD L (tm.put t (some (.tup [])))
def qw : List Nat -> VM -> VM
 | [], tm => tm
 | t :: L, tm => qw L ((t, .tup []) :: tm)
theorem jY {F : VM -> AS -> Prop} {σ : AS} : ∀ (L : List Nat) (tm : VM), fq L.length (ip L tm F) σ -> F (qw L tm) σ
 | [], tm, h => h
 | s :: L, tm, h => jY L _ h
theorem kn : ∀ (L : List Nat) {a : VM} {b : Tr AV}, Sub a b -> Sub (qw L a) (pD L b)
 | [], _, _, h => h
 | s :: L, _, _, h => kn L (h.put s _)
theorem rh {c : Nat -> List AV -> AS -> Option (AV × AS)} {ops : Array Oper} (o : Oper) (os : List Oper) (tm : Tr AV) (σ : AS) : dQ T c nt ops (o :: os) tm σ = match cY ops tm o with
  | some true => match rj T c tm σ o with
   | some (v, σ) => match dR nt tm o.dst v with
    | some tm => dQ T c nt ops os tm σ
    | none => none
   | none => none
  | some false => match dR nt tm o.dst (.tup []) with
   | some tm => dQ T c nt ops os tm σ
   | none => none
  | none => none := rfl
theorem nX {c : Nat -> List AV -> AS -> Option (AV × AS)} {ops : Array Oper} : ∀ (l r : List Oper) (tm : Tr AV) (σ : AS), dQ T c nt ops (l ++ r) tm σ = match dQ T c nt ops l tm σ with
  | some (tm, σ) => dQ T c nt ops r tm σ
  | none => none
 | [], r, tm, σ => rfl
 | o :: l, r, tm, σ => by
  rw [List.cons_append, rh, rh]
  split
  ·split
   ·split
    ·exact nX l r _ _
    ·rfl
   ·rfl
  ·split
   ·exact nX l r _ _
   ·rfl
  ·rfl
theorem vm {x : Nat} : ∀ {l : List Nat}, aY x l = true ↔ x ∈ l
 | [] => by simp [aY]
 | y :: l => by
  simp only [aY, Bool.or_eq_true, vm (l := l), List.mem_cons]
  constructor
  ·rintro (h | h)
   ·exact .inl (Nat.eq_of_beq_eq_true h)
   ·exact .inr h
  ·rintro (rfl | h)
   ·exact .inl (Nat.beq_refl _)
   ·exact .inr h
theorem vf {x : Nat} {l : List Nat} (h : aY x l = false) : x ∉ l := fun q => by rw [vm.2 q] at h; cases h
theorem nR : ∀ (l : List Oper), (lQ l).flatMap (·.2) = l /\ ∀ g l', (g, l') ∈ lQ l -> ∀ o ∈ l', o.guard = g
 | [] => ⟨rfl, fun g l' h => by cases h⟩
 | o :: os => by
  obtain ⟨h1, h2⟩ := nR os
  have same : ∀ {a b : Option (Nat × Bool)}, sameG a b = true -> a = b := by
   intro a b h
   unfold sameG at h
   split at h
   ·rfl
   ·simp only [Bool.and_eq_true, beq_iff_eq] at h
    rw [Nat.eq_of_beq_eq_true h.1, h.2]
   ·cases h
  unfold lQ
  split
  ·rename_i g l r hg
   rw [hg] at h1 h2
   split
   ·rename_i hs
    refine ⟨by simpa using h1, fun g' l' hm o' ho => ?_⟩
    rcases List.mem_cons.1 hm with hm | hm
    ·simp only [Prod.mk.injEq] at hm; obtain ⟨rfl, rfl⟩ := hm
     rcases List.mem_cons.1 ho with rfl | ho
     ·exact same hs
     ·exact h2 _ _ List.mem_cons_self _ ho
    ·exact h2 _ _ (List.mem_cons_of_mem _ hm) _ ho
   ·refine ⟨by simpa using h1, fun g' l' hm o' ho => ?_⟩
    rcases List.mem_cons.1 hm with hm | hm
    ·simp only [Prod.mk.injEq] at hm; obtain ⟨rfl, rfl⟩ := hm
     simp only [List.mem_singleton] at ho; subst ho; rfl
    ·exact h2 _ _ hm _ ho
  ·rename_i hg
   rw [hg] at h1 h2
   simp only [List.flatMap_nil] at h1
   subst h1
   refine ⟨rfl, fun g' l' hm o' ho => ?_⟩
   simp only [List.mem_singleton, Prod.mk.injEq] at hm; obtain ⟨rfl, rfl⟩ := hm
   simp only [List.mem_singleton] at ho; subst ho; rfl
theorem qa {ops : Array Oper} (want : Tr AV -> Prop) : ∀ (l : List Oper) (tm : VM) (tm' : Tr AV) (σ : AS) (K : VM -> AS -> Prop), (∀ o ∈ l, ∀ tm, want tm -> cY ops tm o = some true) ->
  (∀ o ∈ l, ∀ tm tm' v, want tm -> dR nt tm o.dst v = some tm' -> want tm') -> want tm' -> Sub tm tm' -> uu (av T) T nt l tm σ K ->
  ∃ k tm1' σ1 tm1, dQ T (aE T k) nt ops l tm' σ = some (tm1', σ1) /\ Sub tm1 tm1' /\ K tm1 σ1 /\ want tm1' /\ ∀ t, t ∉ aQ l -> tm1'.get t = tm'.get t
 | [], tm, tm', σ, K, _, _, hw, hs, hv => ⟨0, tm', σ, tm, rfl, hs, hv, hw, fun _ _ => rfl⟩
 | o :: os, tm, tm', σ, K, h1, h2, hw, hs, hv => by
  obtain ⟨k1, v, σ', e1, e2⟩ := vcOp_ok hs hv
  obtain ⟨a, e3, e4⟩ := aB e2
  obtain ⟨a', e5, e6⟩ := fy hs e3
  obtain ⟨k2, tm1', σ1, tm1, e7, e8, e9, e10, e11⟩ := qa want os a a' σ' K (fun o ho => h1 o (List.mem_cons_of_mem _ ho)) (fun o ho => h2 o (List.mem_cons_of_mem _ ho)) (h2 o List.mem_cons_self _ _ _ hw e5) e6 e4
  refine ⟨max k1 k2, tm1', σ1, tm1, ?_, e8, e9, e10, fun t ht => ?_⟩
  ·unfold dQ
   rw [h1 o List.mem_cons_self _ hw, sZ (aT k1 (max k1 k2) (Nat.le_max_left _ _)) e1]
   simp only
   rw [e5]
   exact dY (aT k2 (max k1 k2) (Nat.le_max_right _ _)) _ _ _ _ e7
  ·have hd : t ∉ aQ os /\ ∀ d, o.dst = some d -> t ≠ d := by
    unfold aQ at ht
    split at ht
    ·rename_i d hd; simp only [List.mem_cons, not_or] at ht; exact ⟨ht.2, fun e he => by rw [hd] at he; injection he with he; subst he; exact ht.1⟩
    ·rename_i hd; exact ⟨ht, fun e he => by rw [hd] at he; cases he⟩
   rw [e11 t hd.1]
   unfold dR at e5
   split at e5
   ·injection e5 with e5; rw [e5]
   ·rename_i d hdd
    split at e5
    ·injection e5 with e5; rw [<- e5, Tr.get_put, if_neg (hd.2 d hdd)]
    ·cases e5
theorem vn {l : List Nat} {nt : Nat} (h : Nat.ble (l.foldr Nat.max 0 + 1) nt = true) : ∀ t ∈ l, t < nt := by
 have h' := Nat.le_of_ble_eq_true h
 have : ∀ (l : List Nat), ∀ t ∈ l, t <= l.foldr Nat.max 0 := by
  intro l
  induction l with
  | nil => intro t ht; cases ht
  | cons a l ih =>
   intro t ht
   simp only [List.foldr_cons]
   rcases List.mem_cons.1 ht with rfl | ht
   ·exact Nat.le_max_left _ _
   ·exact Nat.le_trans (ih t ht) (Nat.le_max_right _ _)
 intro t ht
 have := this l t ht
 omega
theorem tE {c : Nat -> List AV -> AS -> Option (AV × AS)} {ops : Array Oper} (want : Tr AV -> Prop) : ∀ (l : List Oper) (tm' : Tr AV) (σ : AS), (∀ o ∈ l, ∀ tm, want tm -> cY ops tm o = some false) ->
  (∀ o ∈ l, ∀ tm tm' v, want tm -> dR nt tm o.dst v = some tm' -> want tm') -> want tm' -> (∀ t ∈ aQ l, t < nt) -> dQ T c nt ops l tm' σ = some (pD (aQ l) tm', σ)
 | [], tm', σ, _, _, _, _ => rfl
 | o :: os, tm', σ, h1, h2, hw, hn => by
  unfold dQ
  rw [h1 o List.mem_cons_self _ hw]
  simp only
  cases hd : o.dst with
  | none =>
   have e : aQ (o :: os) = aQ os := by simp [aQ, hd]
   rw [e] at hn |-
   exact tE want os tm' σ (fun o ho => h1 o (List.mem_cons_of_mem _ ho)) (fun o ho => h2 o (List.mem_cons_of_mem _ ho)) hw hn
  | some d =>
   have e : aQ (o :: os) = d :: aQ os := by simp [aQ, hd]
   rw [e] at hn |-
   have hp : dR nt tm' (some d) (.tup []) = some (tm'.put d (some (.tup []))) := by
    unfold dR
    have : (d + 1).ble nt = true := Nat.ble_eq_true_of_le (hn d List.mem_cons_self)
    simp only [this]
   rw [hp]
   exact tE want os _ σ (fun o ho => h1 o (List.mem_cons_of_mem _ ho)) (fun o ho => h2 o (List.mem_cons_of_mem _ ho)) (h2 o List.mem_cons_self _ _ _ hw (by rw [hd]; exact hp)) (fun t ht => hn t (List.mem_cons_of_mem _ ht))
theorem xK {ops : Array Oper} {j e : Nat} {want : Bool} {oj : Oper} (hj : ops[j]? = some oj) (he : oj.dst = some e) {o : Oper} (hg : o.guard = some (j, want)) {tm : Tr AV} {x : AV} (hx : tm.get e = some x) :
  (∀ b, x = .b b -> cY ops tm o = some (b == want)) /\ (x = .tup [] -> cY ops tm o = some false) := by
 unfold cY
 rw [hg]
 simp only [hj, he, hx]
 exact ⟨fun b h => by subst h; rfl, fun h => by subst h; rfl⟩
theorem yu {e : Nat} {x : AV} {l : List Oper} (hne : e ∉ aQ l) : ∀ o ∈ l, ∀ (tm tm' : Tr AV) (v : AV), tm.get e = some x -> dR nt tm o.dst v = some tm' -> tm'.get e = some x := by
 intro o ho tm tm' v h1 h2
 unfold dR at h2
 split at h2
 ·injection h2 with h2; rw [<- h2]; exact h1
 ·rename_i d hd
  split at h2
  ·injection h2 with h2
   rw [<- h2, Tr.get_put, if_neg]
   ·exact h1
   ·intro q; subst q
    refine hne ?_
    clear h1 h2
    induction l with
    | nil => cases ho
    | cons a l ih =>
     unfold aQ
     rcases List.mem_cons.1 ho with rfl | ho
     ·rw [hd]; exact List.mem_cons_self
     ·split
      ·rename_i d' hd'
       have : e ∉ aQ l := fun q => hne (by unfold aQ; rw [hd']; exact List.mem_cons_of_mem _ q)
       exact List.mem_cons_of_mem _ (ih this ho)
      ·rename_i hd'
       have : e ∉ aQ l := fun q => hne (by unfold aQ; rw [hd']; exact q)
       exact ih this ho
  ·cases h2
theorem ve {L : List Nat} {c : AV} {w : Bool} {body : Cur L.length -> Prop} {σ : AS} {K : Cur L.length} (h : oG L c w body σ K) : (c = .b w /\ body K) ∨ ((∃ x, c = .b x /\ (x == w) = false) /\ fq L.length K σ) ∨ (c = .tup [] /\ fq L.length K σ) := by
 unfold oG at h
 split at h
 ·rename_i x
  by_cases e : x = w
  ·subst e; exact .inl ⟨rfl, h.1 (by simp)⟩
  ·have : (x == w) = false := by simpa using e
   exact .inr (.inl ⟨⟨x, rfl, this⟩, h.2 this⟩)
 ·exact .inr (.inr ⟨rfl, h⟩)
 ·exact h.elim
theorem pZ {ops : Array Oper} : ∀ (gs : List (Option (Nat × Bool) × List Oper)), (∀ g l, (g, l) ∈ gs -> ∀ o ∈ l, o.guard = g) -> ∀ (tm : VM) (tm' : Tr AV) (σ : AS) (K : VM -> AS -> Prop), Sub tm tm' -> mb (av T) T nt ops gs tm σ K ->
  ∃ k tm1' σ1 tm1, dQ T (aE T k) nt ops (gs.flatMap (·.2)) tm' σ = some (tm1', σ1) /\ Sub tm1 tm1' /\ K tm1 σ1
 | [], _, tm, tm', σ, K, hs, hv => ⟨0, tm', σ, tm, rfl, hs, hv⟩
 | (g, l) :: gs, hg, tm, tm', σ, K, hs, hv => by
  have hl := hg g l List.mem_cons_self
  have rest := pZ (ops := ops) gs fun g' l' h => hg g' l' (List.mem_cons_of_mem _ h)
  have join : ∀ {k1 : Nat} {a' : Tr AV} {σ1 : AS}, dQ T (aE T k1) nt ops l tm' σ = some (a', σ1) -> ∀ {a : VM}, Sub a a' -> mb (av T) T nt ops gs a σ1 K ->
    ∃ k tm1' σ1 tm1, dQ T (aE T k) nt ops (((g, l) :: gs).flatMap (·.2)) tm' σ = some (tm1', σ1) /\ Sub tm1 tm1' /\ K tm1 σ1 := by
   intro k1 a' σ1 h1 a hsa h2
   obtain ⟨k2, tm1', σ2, tm1, e1, e2, e3⟩ := rest a a' σ1 K hsa h2
   refine ⟨max k1 k2, tm1', σ2, tm1, ?_, e2, e3⟩
   rw [List.flatMap_cons, nX, dY (aT k1 (max k1 k2) (Nat.le_max_left _ _)) _ _ _ _ h1]
   exact dY (aT k2 (max k1 k2) (Nat.le_max_right _ _)) _ _ _ _ e1
  cases g with
  | none =>
   obtain ⟨k1, a', σ1, a, e1, e2, e3, _, _⟩ := qa (ops := ops) (fun _ => True) l tm tm' σ _ (fun o ho tm _ => by unfold cY; rw [hl o ho]) (fun _ _ _ _ _ _ _ => trivial) trivial hs hv
   exact join e1 e2 e3
  | some q =>
   obtain ⟨j, want⟩ := q
   simp only [mb] at hv
   split at hv
   ·rename_i oj hj
    split at hv
    ·rename_i e he
     split at hv
     ·rename_i hm hb
      obtain ⟨x, hx, hv⟩ := aB hv
      have hx' := hs _ _ hx
      have hkeep := yu (nt := nt) (x := x) (vf hm)
      have hw : ∀ o ∈ l, ∀ tm : Tr AV, tm.get e = some x -> _ := fun o ho tm h => xK hj he (hl o ho) h
      have void : (∀ o ∈ l, ∀ tm : Tr AV, tm.get e = some x -> cY ops tm o = some false) -> fq (aQ l).length (ip (aQ l) tm fun tm σ => mb (av T) T nt ops gs tm σ K) σ ->
        ∃ k tm1' σ1 tm1, dQ T (aE T k) nt ops (((some (j, want), l) :: gs).flatMap (·.2)) tm' σ = some (tm1', σ1) /\ Sub tm1 tm1' /\ K tm1 σ1 := by
       intro hwant hvoid
       have := jY _ _ hvoid
       exact join (k1 := 0) (tE (c := aE T 0) (ops := ops) (fun tm => tm.get e = some x) l tm' σ hwant hkeep hx' (vn hb)) (kn _ hs) this
      rcases ve (show oG (aQ l) x want (fun k => uu (av T) T nt l tm σ fun tm σ => gY (aQ l) tm k σ) σ (ip (aQ l) tm fun tm σ => mb (av T) T nt ops gs tm σ K) from hv) with ⟨rfl, hb1⟩ | ⟨⟨y, rfl, hy⟩, hvoid⟩ | ⟨rfl, hvoid⟩
      ·obtain ⟨k1, a', σ1, a, e1, e2, e3, _, e5⟩ := qa (ops := ops) (fun tm => tm.get e = some (.b want)) l tm tm' σ _ (fun o ho tm h => by rw [(hw o ho tm h).1 _ rfl]; simp) hkeep hx' hs hb1
       obtain ⟨b, f1, f2⟩ := fj _ _ e3
       refine join e1 (fun t v ht => ?_) f1
       rcases f2 t v ht with ⟨_, q⟩ | ⟨q1, q⟩
       ·exact e2 t v q
       ·rw [e5 t q1]; exact hs t v q
      ·exact void (fun o ho tm h => by rw [(hw o ho tm h).1 _ rfl, hy]) hvoid
      ·exact void (fun o ho tm h => (hw o ho tm h).2 rfl) hvoid
     ·exact hv.elim
    ·exact hv.elim
   ·exact hv.elim
end
section
variable {T : Tab} {nt : Nat}
theorem Aj {h h' : Tr AB} (hh : ∀ id b, h.get id = some b -> h'.get id = some b) {a : AV} {cs : List AV} (q : iz h a = some cs) : iz h' a = some cs := by
 unfold iz at q |-
 split at q
 ·split at q
  ·rename_i hb
   rw [hh _ _ hb]; exact q
  ·cases q
 ·exact q
 ·cases q
theorem lu {h h' : Tr AB} (hh : ∀ id b, h.get id = some b -> h'.get id = some b) {n : Nat} {a : AV} {cs : List AV} (q : bg h n a = some cs) : bg h' n a = some cs := by
 unfold bg at q |-
 split at q
 ·exact q
 ·split at q
  ·rename_i hb
   rw [hh _ _ hb]; exact q
  ·cases q
 ·exact q
 ·cases q
def lookB (T : Tab) (t : Nat) (k : AV) (ok : Bool) (b : Option AB) : Option AV :=
 match T.ty t with
 | some (.map kt et) => match T.ty kt, T.zr et with
  | some kd, some z => match kC kd k with
   | true => match (match b with
      | some (.map es) => wa k es
      | _ => none) with
    | some (some v) => some (if ok then .tup [v, .b true] else v)
    | some none => some (if ok then .tup [z, .b false] else z)
    | none => none
   | false => none
  | _, _ => none
 | _ => none
theorem wh {h : Tr AB} {t id : Nat} {k : AV} {ok : Bool} : kG T h t (.mp id) k ok = lookB T t k ok (h.get id) := rfl
theorem xf {t : Nat} {k : AV} {ok : Bool} : lookB T t k ok none = none := by
 unfold lookB
 split
 ·split
  ·split <;> rfl
  ·rfl
 ·rfl
theorem evVal_le {h h' : Tr AB} (hh : ∀ id b, h.get id = some b -> h'.get id = some b) {ρ : Operand -> Option AV} {op : Op} {v : AV} (q : bk T h ρ op = some v) : bk T h' ρ op = some v := by
 cases op with
 | convert s d x =>
  simp only [bk] at q |-
  split at q
  ·unfold cV at q |-
   split at q
   ·split at q
    ·rename_i h1 h2; rw [hh _ _ h1]; simp only [h2]; exact q
    ·cases q
   ·split at q
    ·rename_i h1 h2; rw [hh _ _ h1]; simp only [h2]; exact q
    ·cases q
   ·exact q
   ·exact q
   ·split at q
    ·split at q
     ·exact q
     ·split at q
      ·rename_i hc; rw [lu hh hc]; exact q
      ·cases q
     ·split at q
      ·rename_i hc; rw [lu hh hc]; exact q
      ·cases q
     ·cases q
    ·cases q
   ·cases q
  ·cases q
 | slice t x lo hi mx =>
  simp only [bk] at q |-
  split at q
  ·unfold aL at q |-
   split at q
   ·exact q
   ·unfold mS at q |-
    split at q
    ·split at q
     ·rename_i h1 h2; simp only [h1, hh _ _ h2]; exact q
     ·cases q
    ·cases q
  ·cases q
 | load t a =>
  simp only [bk] at q |-
  split at q
  ·split at q
   ·rename_i hc; rw [Aj hh hc]; exact q
   ·cases q
  ·cases q
 | lookup t m k ok =>
  simp only [bk] at q |-
  split at q
  ·rename_i m' k' _ _
   cases m' with
   | mp id =>
    rw [wh] at q |-
    cases hq : h.get id with
    | some b => rw [hh _ _ hq]; rw [hq] at q; exact q
    | none => rw [hq, xf] at q; cases q
   | _ => exact q
  ·cases q
 | call c =>
  obtain ⟨callee, args, ts⟩ := c
  cases callee with
  | builtin b =>
   simp only [bk] at q |-
   split at q
   ·unfold aj at q |-
    split at q
    ·split at q
     ·split at q
      ·exact q
      ·exact q
      ·exact q
      ·exact q
      ·exact q
      ·exact q
      ·split at q
       ·rename_i hb
        rw [hh _ _ hb]; exact q
       ·cases q
      ·cases q
     ·cases q
    ·exact q
    ·exact q
    ·exact q
    ·exact q
    ·cases q
   ·cases q
  | _ => exact q
 | makeFunc fn fs cs => cases fn <;> exact q
 | _ => exact q
theorem Ab {n0 : Nat} {bef : Nat -> List Nat} {bs : List Nat} {news : List (Nat × Nat × Option AB)} {id : Nat} : ∀ {rd rd' : List Nat}, (∀ x ∈ rd', x ∈ rd) -> cb n0 bef bs news id rd = true -> cb n0 bef bs news id rd' = true := by
 have at_ : ∀ {rd : List Nat}, cb n0 bef bs news id rd = true -> ∀ i ∈ rd, (!rG n0 (bef i) news id || aY i bs) = true := by
  intro rd
  induction rd with
  | nil => intro _ i hi; cases hi
  | cons a rd ih =>
   intro h i hi
   simp only [cb, Bool.and_eq_true] at h
   rcases List.mem_cons.1 hi with rfl | hi
   ·exact h.1
   ·exact ih h.2 i hi
 intro rd rd' hs h
 induction rd' with
 | nil => rfl
 | cons a rd' ih =>
  simp only [cb, Bool.and_eq_true]
  exact ⟨at_ h a (hs a List.mem_cons_self), ih fun x hx => hs x (List.mem_cons_of_mem _ hx)⟩
section
variable {ops : Array Oper} {h : Tr AB} {n0 : Nat} {bef : Nat -> List Nat}
theorem Ac {dst : Option Nat} {v : AV} {a b : Tr AV} {l : List Oper} {o : Oper} (ho : o.dst = dst) (h : dR nt a dst v = some b) : ∀ t, t ∉ aQ (o :: l) -> b.get t = a.get t /\ t ∉ aQ l := by
 intro t ht
 unfold aQ at ht
 rw [ho] at ht
 unfold dR at h
 cases dst with
 | none => injection h with h; subst h; exact ⟨rfl, ht⟩
 | some d =>
  simp only [List.mem_cons, not_or] at ht
  simp only at h
  split at h
  ·injection h with h; subst h; rw [Tr.get_put, if_neg ht.1]; exact ⟨rfl, ht.2⟩
  ·cases h
theorem vw {c : Nat -> List AV -> AS -> Option (AV × AS)} {n : Nat} {ρ : Operand -> Option AV} {op : Op} (hk : dL T op ≠ 2) : bE T c n ρ op = none := by
 unfold bE
 split
 ·rename_i cl
  obtain ⟨callee, args, ts⟩ := cl
  split
  ·rename_i fo hcal
   simp only at hcal; subst hcal
   exact absurd rfl hk
  ·rfl
 ·rfl
theorem je {c : Nat -> List AV -> AS -> Option (AV × AS)} {o : Oper} {os : List Oper} {i : Nat} {tm a : Tr AV} {news : List (Nat × Nat × Option AB)} {rd : List Nat} {n : Nat} {v : AV} (hw : cY ops tm o = some true) (hp : dR nt tm o.dst v = some a) :
  (bk T .nil (ce T tm) o.op = some v -> aX T c nt ops h n0 bef (o :: os) i tm news rd n = aX T c nt ops h n0 bef os (i + 1) a news rd n) /\
  (bk T .nil (ce T tm) o.op = none -> eS T (ce T tm) o.op = none -> bE T c n (ce T tm) o.op = none -> bD n0 (bef i) news news = true -> bk T (eF h (bef i) news) (ce T tm) o.op = some v -> aX T c nt ops h n0 bef (o :: os) i tm news rd n = aX T c nt ops h n0 bef os (i + 1) a news (i :: rd) n) /\
  (bk T .nil (ce T tm) o.op = none -> eS T (ce T tm) o.op = none -> bE T c n (ce T tm) o.op = none -> bD n0 (bef i) news news = true -> bk T (eF h (bef i) news) (ce T tm) o.op = none -> cw T c (eF h (bef i) news) n (ce T tm) o.op = some v -> aX T c nt ops h n0 bef (o :: os) i tm news rd n = aX T c nt ops h n0 bef os (i + 1) a news (i :: rd) n) := by
 refine ⟨fun h1 => ?_, fun h1 h2 ha h3 h4 => ?_, fun h1 h2 ha h3 h4 h5 => ?_⟩
 ·conv => lhs; unfold aX
  rw [hw, h1]; simp only; rw [hp]
 ·conv => lhs; unfold aX
  rw [hw, h1, h2]; simp only; rw [ha]; simp only; rw [h3]; simp only; rw [h4]; simp only; rw [hp]
 ·conv => lhs; unfold aX
  rw [hw, h1, h2]; simp only; rw [ha]; simp only; rw [h3]; simp only; rw [h4]; simp only; rw [h5]; simp only; rw [hp]
theorem jl (want : Tr AV -> Prop) : ∀ (l : List Oper) (i : Nat) (tm : VM) (tm' : Tr AV) (news : List (Nat × Nat × Option AB)) (rd rd' : List Nat) (n : Nat) (K : VM -> List (Nat × Nat × Option AB) -> List Nat -> Nat -> Prop), (∀ o ∈ l, ∀ tm, want tm -> cY ops tm o = some true) ->
  (∀ o ∈ l, ∀ tm tm' v, want tm -> dR nt tm o.dst v = some tm' -> want tm') -> want tm' -> Sub tm tm' -> (∀ x ∈ rd', x ∈ rd) -> bT (av T) T nt h n0 bef l i tm news rd n K ->
  ∃ tm1 tm1' news1 rd1 rd1' n1, Sub tm1 tm1' /\ (∀ x ∈ rd1', x ∈ rd1) /\ K tm1 news1 rd1 n1 /\ want tm1' /\ (∀ t, t ∉ aQ l -> tm1'.get t = tm'.get t) /\ (ge T l = true -> news1 = news /\ n1 = n /\ ∀ x ∈ rd1', x ∈ List.range' i l.length ++ rd) /\
   ∃ k0, ∀ k, k0 <= k -> ∀ r, aX T (aE T k) nt ops h n0 bef (l ++ r) i tm' news rd' n = aX T (aE T k) nt ops h n0 bef r (i + l.length) tm1' news1 rd1' n1
 | [], i, tm, tm', news, rd, rd', n, K, _, _, hw, hs, hr, hv => ⟨tm, tm', news, rd, rd', n, hs, hr, hv, hw, fun _ _ => rfl, fun _ => ⟨rfl, rfl, fun x hx => by simpa using hr x hx⟩, 0, fun k _ r => rfl⟩
 | o :: os, i, tm, tm', news, rd, rd', n, K, h1, h2, hw, hs, hr, hv => by
  have hρ := hs.le (T := T)
  have hwo := h1 o List.mem_cons_self _ hw
  have rest := fun (a : VM) (a' : Tr AV) (news2 : List (Nat × Nat × Option AB)) (rd2 rd2' : List Nat) (n2 : Nat) => jl want os (i + 1) a a' news2 rd2 rd2' n2 K (fun o ho => h1 o (List.mem_cons_of_mem _ ho)) (fun o ho => h2 o (List.mem_cons_of_mem _ ho))
  have fin : ∀ (v : AV) (a : VM) (a' : Tr AV) (news2 : List (Nat × Nat × Option AB)) (rd2 rd2' : List Nat) (n2 : Nat), dR nt tm' o.dst v = some a' -> Sub a a' -> (∀ x ∈ rd2', x ∈ rd2) -> bT (av T) T nt h n0 bef os (i + 1) a news2 rd2 n2 K ->
    (ge T (o :: os) = true -> ge T os = true /\ news2 = news /\ n2 = n /\ ∀ x ∈ rd2, x = i ∨ x ∈ rd) ->
    (∃ k0, ∀ k, k0 <= k -> ∀ r, aX T (aE T k) nt ops h n0 bef (o :: (os ++ r)) i tm' news rd' n = aX T (aE T k) nt ops h n0 bef (os ++ r) (i + 1) a' news2 rd2' n2) ->
    ∃ tm1 tm1' news1 rd1 rd1' n1, Sub tm1 tm1' /\ (∀ x ∈ rd1', x ∈ rd1) /\ K tm1 news1 rd1 n1 /\ want tm1' /\ (∀ t, t ∉ aQ (o :: os) -> tm1'.get t = tm'.get t) /\ (ge T (o :: os) = true -> news1 = news /\ n1 = n /\ ∀ x ∈ rd1', x ∈ List.range' i (o :: os).length ++ rd) /\
     ∃ k0, ∀ k, k0 <= k -> ∀ r, aX T (aE T k) nt ops h n0 bef ((o :: os) ++ r) i tm' news rd' n = aX T (aE T k) nt ops h n0 bef r (i + (o :: os).length) tm1' news1 rd1' n1 := by
   intro v a a' news2 rd2 rd2' n2 hp hsa hr2 hv2 hnn ⟨k1, hk1⟩
   obtain ⟨tm1, tm1', news1, rd1, rd1', n1, e1, e2, e3, e4, e5, e6, k2, e7⟩ := rest a a' news2 rd2 rd2' n2 (h2 o List.mem_cons_self _ _ _ hw hp) hsa hr2 hv2
   refine ⟨tm1, tm1', news1, rd1, rd1', n1, e1, e2, e3, e4, fun t ht => ?_, fun hn => ?_, max k1 k2, fun k hk r => ?_⟩
   ·obtain ⟨q1, q2⟩ := Ac (l := os) rfl hp t ht
    rw [e5 t q2, q1]
   ·obtain ⟨q1, q2, q3, q4⟩ := hnn hn
    obtain ⟨f1, f2, f3⟩ := e6 q1
    refine ⟨f1.trans q2, f2.trans q3, fun x hx => ?_⟩
    rw [List.length_cons, List.range'_succ, List.cons_append, List.mem_cons]
    rcases List.mem_append.1 (f3 x hx) with q | q
    ·exact .inr (List.mem_append_left _ q)
    ·rcases q4 x q with rfl | q
     ·exact .inl rfl
     ·exact .inr (List.mem_append_right _ q)
   ·show aX T (aE T k) nt ops h n0 bef (o :: (os ++ r)) i tm' news rd' n = _
    rw [hk1 k (by omega) r, e7 k (by omega) r, List.length_cons]
    congr 1; omega
  have hrd : ∀ {A : Prop}, ((match news with | [] => fun q => q | _ => (av T).oT (bD n0 (bef i) news news)) A) -> bD n0 (bef i) news news = true /\ A := by
   intro A hA
   cases news with
   | nil => exact ⟨rfl, hA⟩
   | cons b bs => exact hA
  unfold bT at hv
  rcases yr (T := T) o.op with hk | hk | hk <;> rw [hk] at hv
  ·cases hpk : plainK o.op with
   | true =>
    rw [hpk] at hv
    obtain ⟨v, e1, e2⟩ := pX hρ hv
    obtain ⟨a, e3, e4⟩ := aB e2
    obtain ⟨a', e5, e6⟩ := fy hs e3
    exact fin v a a' news rd rd' n e5 e6 hr e4 (fun hn => by
     simp only [ge, Bool.and_eq_true] at hn
     exact ⟨hn.2, rfl, rfl, fun x hx => .inr hx⟩) ⟨0, fun k _ r => (je hwo e5).1 e1⟩
   | false =>
   rw [hpk] at hv
   obtain ⟨hread, hv⟩ := hrd hv
   obtain ⟨v, e1, e2⟩ := pX hρ hv
   obtain ⟨a, e3, e4⟩ := aB e2
   obtain ⟨a', e5, e6⟩ := fy hs e3
   have hnn : ge T (o :: os) = true -> ge T os = true /\ news = news /\ n = n /\ ∀ x ∈ i :: rd, x = i ∨ x ∈ rd := fun hn => by
    simp only [ge, Bool.and_eq_true] at hn
    exact ⟨hn.2, rfl, rfl, fun x hx => List.mem_cons.1 hx⟩
   cases hq : bk T .nil (ce T tm') o.op with
   | some v0 =>
    have : v0 = v := by
     have := evVal_le (h' := eF h (bef i) news) (fun id b hb => by simp [Tr.get_nil] at hb) hq
     rw [e1] at this; injection this with this; exact this.symm
    subst this
    exact fin v0 a a' news (i :: rd) rd' n e5 e6 (fun x hx => List.mem_cons_of_mem _ (hr x hx)) e4 hnn ⟨0, fun k _ r => (je hwo e5).1 hq⟩
   | none =>
    exact fin v a a' news (i :: rd) (i :: rd') n e5 e6 (fun x hx => by
     rcases List.mem_cons.1 hx with rfl | hx
     ·exact List.mem_cons_self
     ·exact List.mem_cons_of_mem _ (hr x hx)) e4 hnn ⟨0, fun k _ r => (je hwo e5).2.1 hq (Aq hk) (vw (by rw [hk]; decide)) hread e1⟩
  ·obtain ⟨b, f, e1, e2⟩ := uv hρ hv
   obtain ⟨a, e3, e4⟩ := aB e2
   obtain ⟨a', e5, e6⟩ := fy hs e3
   refine fin (f n) a a' ((i, n, some b) :: news) rd rd' (n + 1) e5 e6 hr e4 (fun hn => ?_) ⟨0, fun k _ r => ?_⟩
   ·simp only [ge, hk, Bool.and_eq_true] at hn
    exact absurd hn.1 (by simp)
   ·conv => lhs; unfold aX
    rw [hwo, sG hk, e1]; simp only; rw [e5]
  ·obtain ⟨hread, hv⟩ := hrd hv
   have k2 := fun h => nL (T := T) (ρ := ce T tm') (h := h) hk
   cases hop : o.op with
   | call c =>
    rw [hop] at hv
    obtain ⟨callee, args, ts⟩ := c
    cases callee with
    | value fo =>
     have dyn : ∀ (f : Nat) (fs cs as : List AV), ce T tm' fo = some (.fn f fs cs) -> gM T f (fs ++ as ++ cs) = true -> (T.opened f && Nat.beq (T.mode f) 1) = false -> bH (ce T tm') args.toList = some as ->
       (oC T (dN o.dst) f (fs ++ as ++ cs) ⟨eF h (bef i) news, n⟩ fun v _ => oO (ko nt tm o.dst v) fun tm => bT (av T) T nt h n0 bef os (i + 1) tm news (i :: rd) n K) ->
     ∃ tm1 tm1' news1 rd1 rd1' n1, Sub tm1 tm1' /\ (∀ x ∈ rd1', x ∈ rd1) /\ K tm1 news1 rd1 n1 /\ want tm1' /\ (∀ t, t ∉ aQ (o :: os) -> tm1'.get t = tm'.get t) /\ (ge T (o :: os) = true -> news1 = news /\ n1 = n /\ ∀ x ∈ rd1', x ∈ List.range' i (o :: os).length ++ rd) /\
     ∃ k0, ∀ k, k0 <= k -> ∀ r, aX T (aE T k) nt ops h n0 bef ((o :: os) ++ r) i tm' news rd' n = aX T (aE T k) nt ops h n0 bef r (i + (o :: os).length) tm1' news1 rd1' n1 := by
      intro f fs cs as q1 hopn hadp q3 q4
      obtain ⟨k1, v, σ', q5, q6⟩ := q4
      obtain ⟨a, e3, e4⟩ := aB q6
      obtain ⟨a', e5, e6⟩ := fy hs e3
      refine fin v a a' news (i :: rd) (i :: rd') n e5 e6 (fun x hx => ?_) e4 (fun hn => ?_) ⟨k1, fun k hk1 r => ?_⟩
      ·rcases List.mem_cons.1 hx with rfl | hx
       ·exact List.mem_cons_self
       ·exact List.mem_cons_of_mem _ (hr x hx)
      ·simp only [ge, Bool.and_eq_true] at hn
       exact ⟨hn.2, rfl, rfl, fun x hx => List.mem_cons.1 hx⟩
      ·refine (je hwo e5).2.2 (k2 _).1 (k2 .nil).2 (by rw [hop]; simp only [bE, q1, q3, hadp]) hread (k2 _).1 ?_
       rw [hop]
       simp only [cw, q1, q3, hopn, aT k1 k hk1 _ _ _ _ q5]
     have gen : (oO (dO T tm fo) fun f => oT (oP T f) (oO (bH (dO T tm) args.toList) fun args => oF T (dN o.dst) f args ⟨eF h (bef i) news, n⟩ fun v _ => oO (ko nt tm o.dst v) fun tm => bT (av T) T nt h n0 bef os (i + 1) tm news (i :: rd) n K)) ->
     ∃ tm1 tm1' news1 rd1 rd1' n1, Sub tm1 tm1' /\ (∀ x ∈ rd1', x ∈ rd1) /\ K tm1 news1 rd1 n1 /\ want tm1' /\ (∀ t, t ∉ aQ (o :: os) -> tm1'.get t = tm'.get t) /\ (ge T (o :: os) = true -> news1 = news /\ n1 = n /\ ∀ x ∈ rd1', x ∈ List.range' i (o :: os).length ++ rd) /\
     ∃ k0, ∀ k, k0 <= k -> ∀ r, aX T (aE T k) nt ops h n0 bef ((o :: os) ++ r) i tm' news rd' n = aX T (aE T k) nt ops h n0 bef r (i + (o :: os).length) tm1' news1 rd1' n1 := by
      intro hv
      obtain ⟨p, q1, hsh, q2⟩ := aB hv
      obtain ⟨as, q3, q4⟩ := aB q2
      unfold oF at q4
      split at q4
      ·rename_i f fs cs
       have hsh' : T.opened f = false := by simpa [oP] using hsh
       exact dyn f fs cs as (hρ _ _ q1) (by unfold gM; rw [hsh']; rfl) (by rw [hsh']; rfl) (dd hρ q3) q4
      ·exact q4.elim
     cases fo with
     | func f =>
      simp only at hv
      split at hv
      ·rename_i hopn
       split at hv
       ·rename_i hmode
        obtain ⟨as, q3, q4⟩ := aB hv
        obtain ⟨k1, v, σ', q5, q6⟩ := q4
        obtain ⟨a, e3, e4⟩ := aB q6
        obtain ⟨a', e5, e6⟩ := fy hs e3
        refine fin v a a' ((i, n, σ'.h.get n) :: news) rd rd' (n + 1) e5 e6 hr e4 (fun hn => ?_) ⟨k1, fun k hk1 r => ?_⟩
        ·simp only [ge, hop, dL, hopn, Bool.and_eq_true] at hn
         exact absurd hn.1 (by simp)
        ·have had : bE T (aE T k) n (ce T tm') o.op = some (v, σ'.h.get n) := by
          rw [hop]
          simp only [bE, ce, dd hρ q3, hopn, hmode, Bool.true_and, List.nil_append, List.append_nil, aT k1 k hk1 _ _ _ _ q5]
         conv => lhs; unfold aX
         rw [hwo, (k2 _).1, (k2 .nil).2]; simp only; rw [had]; simp only; rw [e5]
       ·rename_i hmode
        split at hv
        ·rename_i hm3
         obtain ⟨as, q3, hfr, q4⟩ := aB hv
         exact dyn f [] [] as rfl (by unfold gM; rw [hm3, List.nil_append, List.append_nil, show AV.idfree.idfrees as = true from hfr]; simp) (by rw [hmode]; simp) (dd hρ q3) (by rw [List.nil_append, List.append_nil]; exact q4)
        ·exact hv.elim
      ·rename_i hopn
       obtain ⟨as, q3, q4⟩ := aB hv
       exact dyn f [] [] as rfl (by unfold gM; rw [hopn]; rfl) (by rw [hopn]; rfl) (dd hρ q3) (by rw [List.nil_append, List.append_nil]; exact q4)
     | _ => exact gen hv
    | builtin b => exact hv.elim
    | invoke x y => exact hv.elim
   | buildSlice t len ps =>
    rw [hop] at hv
    simp only at hv
    split at hv
    ·rename_i hice
     obtain ⟨as, q1, q2⟩ := aB hv
     obtain ⟨v, q3, q4⟩ := cA (d := dN o.dst) q2
     obtain ⟨a, e3, e4⟩ := aB q4
     obtain ⟨a', e5, e6⟩ := fy hs e3
     refine fin v a a' news (i :: rd) (i :: rd') n e5 e6 (fun x hx => ?_) e4 (fun hn => ?_) ⟨0, fun k _ r => ?_⟩
     ·rcases List.mem_cons.1 hx with rfl | hx
      ·exact List.mem_cons_self
      ·exact List.mem_cons_of_mem _ (hr x hx)
     ·simp only [ge, Bool.and_eq_true] at hn
      exact ⟨hn.2, rfl, rfl, fun x hx => List.mem_cons.1 hx⟩
     ·refine (je hwo e5).2.2 (k2 _).1 (k2 .nil).2 (by rw [hop]; rfl) hread (k2 _).1 ?_
      rw [hop]
      simp only [cw, qQ, hice, kp hρ q1, q3]
    ·exact hv.elim
   | store t p q =>
    rw [hop] at hv
    obtain ⟨pa, q1, q2⟩ := aB hv
    obtain ⟨va, q3, q4⟩ := aB q2
    have q4' : oD (ba T (eF h (bef i) news) t pa va) _ := q4
    unfold oD at q4'
    split at q4'
    ·rename_i id b hst
     obtain ⟨hck, q5⟩ := q4'
     obtain ⟨a, e3, e4⟩ := aB q5
     obtain ⟨a', e5, e6⟩ := fy hs e3
     refine fin (.tup []) a a' ((i, id, some b) :: news) rd rd' n e5 e6 hr e4 (fun hn => ?_) ⟨0, fun k _ r => ?_⟩
     ·simp only [ge, hop, dL, Bool.and_eq_true] at hn
      exact absurd hn.1 (by simp)
     ·have hsd : fr T (eF h (bef i) news) (ce T tm') o.op = some (id, b) := by
       rw [hop]
       simp only [fr, hρ _ _ q1, hρ _ _ q3]
       unfold ba at hst
       cases pa <;> first | exact hst | cases hst
      have hpc : cw T (aE T k) (eF h (bef i) news) n (ce T tm') o.op = none := by rw [hop]; rfl
      simp only [Bool.and_eq_true] at hck
      conv => lhs; unfold aX
      have had : bE T (aE T k) n (ce T tm') o.op = none := by rw [hop]; rfl
      rw [hwo, (k2 _).1, (k2 .nil).2]; simp only; rw [had]; simp only; rw [hread]; simp only; rw [(k2 _).1]; simp only; rw [hpc]; simp only; rw [hsd]; simp only; rw [Ab hr hck.1, hck.2]; simp only [Bool.and_self]; rw [e5]
    ·exact q4'.elim
   | _ => rw [hop] at hv; exact hv.elim
end
end
section
variable {T : Tab} {nt : Nat}
theorem qm {c : Nat -> List AV -> AS -> Option (AV × AS)} {ops : Array Oper} {h : Tr AB} {n0 : Nat} {bef : Nat -> List Nat} {news : List (Nat × Nat × Option AB)} {rd : List Nat} {n : Nat} (want : Tr AV -> Prop) : ∀ (l r : List Oper) (i : Nat) (tm' : Tr AV), (∀ o ∈ l, ∀ tm, want tm -> cY ops tm o = some false) ->
  (∀ o ∈ l, ∀ tm tm' v, want tm -> dR nt tm o.dst v = some tm' -> want tm') -> want tm' -> (∀ t ∈ aQ l, t < nt) ->
  aX T c nt ops h n0 bef (l ++ r) i tm' news rd n = aX T c nt ops h n0 bef r (i + l.length) (pD (aQ l) tm') news rd n
 | [], r, i, tm', _, _, _, _ => rfl
 | o :: os, r, i, tm', h1, h2, hw, hn => by
  rw [List.cons_append]
  conv => lhs; unfold aX
  rw [h1 o List.mem_cons_self _ hw]
  simp only
  have hlen : i + (o :: os).length = i + 1 + os.length := by rw [List.length_cons]; omega
  rw [hlen]
  cases hd : o.dst with
  | none =>
   have e : aQ (o :: os) = aQ os := by simp [aQ, hd]
   rw [e] at hn |-
   exact qm want os r (i + 1) tm' (fun o ho => h1 o (List.mem_cons_of_mem _ ho)) (fun o ho => h2 o (List.mem_cons_of_mem _ ho)) hw hn
  | some d =>
   have e : aQ (o :: os) = d :: aQ os := by simp [aQ, hd]
   rw [e] at hn |-
   have hp : dR nt tm' (some d) (.tup []) = some (tm'.put d (some (.tup []))) := by
    unfold dR
    have : (d + 1).ble nt = true := Nat.ble_eq_true_of_le (hn d List.mem_cons_self)
    simp only [this]
   rw [hp]
   exact qm want os r (i + 1) _ (fun o ho => h1 o (List.mem_cons_of_mem _ ho)) (fun o ho => h2 o (List.mem_cons_of_mem _ ho)) (h2 o List.mem_cons_self _ _ _ hw (by rw [hd]; exact hp)) (fun t ht => hn t (List.mem_cons_of_mem _ ht))
theorem ni {ops : Array Oper} {h : Tr AB} {n0 : Nat} {bef : Nat -> List Nat} : ∀ (gs : List (Option (Nat × Bool) × List Oper)), (∀ g l, (g, l) ∈ gs -> ∀ o ∈ l, o.guard = g) -> ∀ (i : Nat) (tm : VM) (tm' : Tr AV) (news : List (Nat × Nat × Option AB)) (rd rd' : List Nat) (n : Nat) (K : VM -> List (Nat × Nat × Option AB) -> Nat -> Prop),
  Sub tm tm' -> (∀ x ∈ rd', x ∈ rd) -> jn (av T) T nt ops h n0 bef gs i tm news rd n K ->
  ∃ k tm1' news1 n1 tm1, aX T (aE T k) nt ops h n0 bef (gs.flatMap (·.2)) i tm' news rd' n = some (tm1', news1, n1) /\ Sub tm1 tm1' /\ K tm1 news1 n1
 | [], _, i, tm, tm', news, rd, rd', n, K, hs, hr, hv => ⟨0, tm', news, n, tm, rfl, hs, hv⟩
 | (g, l) :: gs, hg, i, tm, tm', news, rd, rd', n, K, hs, hr, hv => by
  have hl := hg g l List.mem_cons_self
  have rest := ni (ops := ops) (h := h) (n0 := n0) (bef := bef) gs fun g' l' h => hg g' l' (List.mem_cons_of_mem _ h)
  have join : ∀ {k1 : Nat} {a : VM} {a' : Tr AV} {news1 : List (Nat × Nat × Option AB)} {rd1 rd1' : List Nat} {n1 : Nat}, (∀ k, k1 <= k -> ∀ r, aX T (aE T k) nt ops h n0 bef (l ++ r) i tm' news rd' n = aX T (aE T k) nt ops h n0 bef r (i + l.length) a' news1 rd1' n1) ->
    Sub a a' -> (∀ x ∈ rd1', x ∈ rd1) -> jn (av T) T nt ops h n0 bef gs (i + l.length) a news1 rd1 n1 K ->
    ∃ k tm1' news1 n1 tm1, aX T (aE T k) nt ops h n0 bef (((g, l) :: gs).flatMap (·.2)) i tm' news rd' n = some (tm1', news1, n1) /\ Sub tm1 tm1' /\ K tm1 news1 n1 := by
   intro k1 a a' news1 rd1 rd1' n1 h1 hsa hr1 h2
   obtain ⟨k2, tm1', news2, n2, tm1, e1, e2, e3⟩ := rest _ a a' news1 rd1 rd1' n1 K hsa hr1 h2
   refine ⟨max k1 k2, tm1', news2, n2, tm1, ?_, e2, e3⟩
   rw [List.flatMap_cons, h1 _ (Nat.le_max_left _ _)]
   exact cH (aT k2 (max k1 k2) (Nat.le_max_right _ _)) _ _ _ _ _ _ _ e1
  cases g with
  | none =>
   obtain ⟨tm1, tm1', news1, rd1, rd1', n1, e1, e2, e3, _, _, _, k0, e7⟩ := jl (ops := ops) (fun _ => True) l i tm tm' news rd rd' n _ (fun o ho tm _ => by unfold cY; rw [hl o ho]) (fun _ _ _ _ _ _ _ => trivial) trivial hs hr hv
   exact join e7 e1 e2 e3
  | some q =>
   obtain ⟨j, want⟩ := q
   simp only [jn] at hv
   split at hv
   ·rename_i oj hj
    split at hv
    ·rename_i e he
     split at hv
     ·rename_i hm hb hnn
      obtain ⟨x, hx, hv⟩ := aB hv
      have hx' := hs _ _ hx
      have hkeep := yu (nt := nt) (x := x) (vf hm)
      have hw : ∀ o ∈ l, ∀ tm : Tr AV, tm.get e = some x -> _ := fun o ho tm h => xK hj he (hl o ho) h
      have void : (∀ o ∈ l, ∀ tm : Tr AV, tm.get e = some x -> cY ops tm o = some false) -> fq (aQ l).length (ip (aQ l) tm fun tm _ => jn (av T) T nt ops h n0 bef gs (i + l.length) tm news (List.range' i l.length ++ rd) n K) ⟨h, n0⟩ ->
        ∃ k tm1' news1 n1 tm1, aX T (aE T k) nt ops h n0 bef (((some (j, want), l) :: gs).flatMap (·.2)) i tm' news rd' n = some (tm1', news1, n1) /\ Sub tm1 tm1' /\ K tm1 news1 n1 := by
       intro hwant hvoid
       have := jY _ _ hvoid
       exact join (k1 := 0) (fun k _ r => qm (fun tm => tm.get e = some x) l r i tm' hwant hkeep hx' (vn hb)) (kn _ hs) (fun x hx => List.mem_append_right _ (hr x hx)) this
      rcases ve (show oG (aQ l) x want (fun k => bT (av T) T nt h n0 bef l i tm news rd n fun tm _ _ _ => gY (aQ l) tm k ⟨h, n0⟩) ⟨h, n0⟩ (ip (aQ l) tm fun tm _ => jn (av T) T nt ops h n0 bef gs (i + l.length) tm news (List.range' i l.length ++ rd) n K) from hv) with ⟨rfl, hb1⟩ | ⟨⟨y, rfl, hy⟩, hvoid⟩ | ⟨rfl, hvoid⟩
      ·obtain ⟨a, a', news1, rd1, rd1', n1, e1, e2, e3, _, e5, e6, k0, e7⟩ := jl (ops := ops) (fun tm => tm.get e = some (.b want)) l i tm tm' news rd rd' n _ (fun o ho tm h => by rw [(hw o ho tm h).1 _ rfl]; simp) hkeep hx' hs hr hb1
       obtain ⟨rfl, rfl, hrr⟩ := e6 hnn
       obtain ⟨b, f1, f2⟩ := fj _ _ e3
       refine join e7 (fun t v ht => ?_) hrr f1
       rcases f2 t v ht with ⟨_, q⟩ | ⟨q1, q⟩
       ·exact e1 t v q
       ·rw [e5 t q1]; exact hs t v q
      ·exact void (fun o ho tm h => by rw [(hw o ho tm h).1 _ rfl, hy]) hvoid
      ·exact void (fun o ho tm h => (hw o ho tm h).2 rfl) hvoid
     ·exact hv.elim
    ·exact hv.elim
   ·exact hv.elim
theorem ur {ops : Array Oper} {k0 k1 : Nat} {tm : VM} {tm' : Tr AV} {σ : AS} {K : VM -> AS -> Prop} (hs : Sub tm tm') (hv : ut (av T) T nt ops k0 k1 tm σ K) :
  ∃ k tm1' σ1 tm1, ly T (aE T k) nt ops k0 k1 tm' σ = some (tm1', σ1) /\ Sub tm1 tm1' /\ K tm1 σ1 := by
 unfold ut at hv
 split at hv
 ·rename_i he
  exact ⟨0, tm', σ, tm, by unfold ly; rw [he], hs, hv⟩
 ·rename_i he
  split at hv
  ·rename_i hseg
   obtain ⟨g1, g2⟩ := nR (fP ops.toList k0 k1)
   obtain ⟨k, tm1', news1, n1, tm1, e1, e2, e3⟩ := ni (ops := ⟨fP ops.toList k0 k1⟩) _ g2 0 tm tm' [] [] [] σ.n _ hs (fun x hx => hx) hv
   rw [g1] at e1
   refine ⟨k, tm1', ⟨lay σ.h news1, n1⟩, tm1, by unfold ly; simp only [he, hseg, e1], e2, ?_⟩
   cases news1 with
   | nil => exact e3
   | cons b bs => exact e3
  ·exact hv.elim
theorem nh {ops : Array Oper} : ∀ (bs : List Nat) (k0 : Nat) (tm : VM) (tm' : Tr AV) (σ : AS) (K : VM -> AS -> Prop), Sub tm tm' -> tz (av T) T nt ops bs k0 tm σ K ->
  ∃ k tm1' σ1 tm1, iC T (aE T k) nt ops bs k0 tm' σ = some (tm1', σ1) /\ Sub tm1 tm1' /\ K tm1 σ1
 | [], k0, tm, tm', σ, K, hs, hv => ur hs hv
 | b :: bs, k0, tm, tm', σ, K, hs, hv => by
  obtain ⟨k1, a', σ1, a, e1, e2, e3⟩ := ur hs (show ut (av T) T nt ops k0 b tm σ _ from hv)
  split at e3
  ·rename_i o ho
   split at e3
   ·rename_i hbar
    obtain ⟨k2, b', σ2, b2, f1, f2, f3⟩ := pZ (ops := ops) [(o.guard, [o])] (fun g l h o' ho' => by
     simp only [List.mem_singleton, Prod.mk.injEq] at h
     obtain ⟨rfl, rfl⟩ := h
     rw [List.mem_singleton.1 ho']) a a' σ1 _ e2 e3
    obtain ⟨k3, c', σ3, c2, h1, h2, h3⟩ := nh bs (b + 1) b2 b' σ2 K f2 f3
    refine ⟨max k1 (max k2 k3), c', σ3, c2, ?_, h2, h3⟩
    have f1' : dQ T (aE T k2) nt ops [o] a' σ1 = some (b', σ2) := f1
    unfold iC
    rw [lT (aT k1 _ (Nat.le_max_left _ _)) e1]
    simp only [ho, hbar]
    rw [dY (aT k2 _ (Nat.le_trans (Nat.le_max_left _ _) (Nat.le_max_right _ _))) _ _ _ _ f1']
    exact im (aT k3 _ (Nat.le_trans (Nat.le_max_right _ _) (Nat.le_max_right _ _))) _ _ _ _ _ h1
   ·exact e3.elim
  ·exact e3.elim
def Goes (T : Tab) (nt : Nat) (c : Code) (tm' : Tr AV) (σ : AS) (K : AX -> VM -> AS -> Prop) : Prop :=
 ∃ k x tm1' σ1, aU T (aE T k) nt k c tm' σ = some (x, tm1', σ1) /\ ∃ tm1, Sub tm1 tm1' /\ K x tm1 σ1
theorem jf {k m : Nat} (h : k <= m) {c : Code} {tm : Tr AV} {σ : AS} {r : AX × Tr AV × AS} (hv : aU T (aE T k) nt k c tm σ = some r) : aU T (aE T m) nt m c tm σ = some r := pp (aT k m h) h c tm σ r hv
theorem Goes.seq {a b : Code} {tm' : Tr AV} {σ : AS} {K K1 : AX -> VM -> AS -> Prop} (h1 : Goes T nt a tm' σ K1) (h2 : ∀ tm1 tm1' σ1, Sub tm1 tm1' -> K1 .norm tm1 σ1 -> Goes T nt b tm1' σ1 K) (h3 : ∀ x tm1 σ1, x ≠ .norm -> K1 x tm1 σ1 -> K x tm1 σ1) : Goes T nt (.seq a b) tm' σ K := by
 obtain ⟨k, x, tm1', σ1, e1, tm1, e2, e3⟩ := h1
 by_cases hx : x = .norm
 ·subst hx
  obtain ⟨k2, x2, tm2', σ2, f1, f2⟩ := h2 tm1 tm1' σ1 e2 e3
  refine ⟨max k k2, x2, tm2', σ2, ?_, f2⟩
  simp only [aU, jf (Nat.le_max_left k k2) e1]
  exact jf (Nat.le_max_right k k2) f1
 ·refine ⟨k, x, tm1', σ1, ?_, tm1, e2, h3 x tm1 σ1 hx e3⟩
  simp only [aU, e1]
  cases x <;> first | rfl | exact absurd rfl hx
theorem iQ {ρ : Operand -> Option AV} {x : Operand} {a : AV} (h : ρ x = some a) (hp : eI a = true) : jw ρ x = some a := by
 unfold jw; simp only [h, hp]
theorem tN {ρ : Operand -> Option AV} {x : Option Operand} {a : Option AV} (h : fe ρ x = some a) (hp : pF a = true) : fe (jw ρ) x = some a := by
 cases x with
 | none => exact h
 | some x =>
  simp only [fe] at h |-
  cases hx : ρ x with
  | none => rw [hx] at h; cases h
  | some b =>
   rw [hx] at h; injection h with h; subst h
   rw [iQ hx hp]
theorem ou {ops : Array Oper} : ∀ (F : List Nat) (tm : VM) (tm' : Tr AV) (K : VM -> Prop), Sub tm tm' -> iE (av T) T nt ops F tm K -> ∃ tm1 tm1', eT T nt ops F tm' = some tm1' /\ Sub tm1 tm1' /\ K tm1
 | [], tm, tm', K, hs, hv => ⟨tm, tm', rfl, hs, hv⟩
 | j :: js, tm, tm', K, hs, hv => by
  have hρ := hs.le (T := T)
  unfold iE at hv
  unfold eT
  split at hv
  ·rename_i o ho
   have fin : ∀ (v : AV), eI v = true -> bk T .nil (jw (ce T tm')) o.op = some v -> (oO (ko nt tm o.dst v) fun tm => iE (av T) T nt ops js tm K) -> ∃ tm1 tm1', eT T nt ops (j :: js) tm' = some tm1' /\ Sub tm1 tm1' /\ K tm1 := by
    intro v hp hev hv
    obtain ⟨a, e3, e4⟩ := aB hv
    obtain ⟨a', e5, e6⟩ := fy hs e3
    obtain ⟨tm1, tm1', f1, f2, f3⟩ := ou js a a' K e6 e4
    exact ⟨tm1, tm1', by unfold eT; simp only [ho, hev, hp, e5, f1], f2, f3⟩
   have fin' : ∀ (v : AV), eI v = true -> bk T .nil (jw (ce T tm')) o.op = some v -> (oO (ko nt tm o.dst v) fun tm => iE (av T) T nt ops js tm K) -> _ := fin
   have goal_eq : (∃ tm1 tm1', eT T nt ops (j :: js) tm' = some tm1' /\ Sub tm1 tm1' /\ K tm1) -> ∃ tm1 tm1', (match ops[j]? with
     | some o => match bk T .nil (jw (ce T tm')) o.op with
      | some v => match eI v with
       | true => match dR nt tm' o.dst v with
        | some tm => eT T nt ops js tm
        | none => none
       | false => none
      | none => none
     | none => none) = some tm1' /\ Sub tm1 tm1' /\ K tm1 := fun h => h
   refine goal_eq ?_
   simp only at hv
   split at hv
   ·rename_i x hop
    obtain ⟨a, h1, hp, h2⟩ := aB hv
    exact fin a hp (by rw [hop]; exact iQ (hρ _ _ h1) hp) h2
   ·rename_i op t x y b hop
    obtain ⟨a, h1, hp, h2⟩ := aB hv
    obtain ⟨c, h3, hq, h4⟩ := aB h2
    obtain ⟨v, h5, hr, h6⟩ := cA (d := dN o.dst) h4
    exact fin v hr (by rw [hop]; simp only [bk, iQ (hρ _ _ h1) hp, iQ (hρ _ _ h3) hq]; exact h5) h6
   ·rename_i t x lo hi mx hop
    obtain ⟨a, h1, hp, h2⟩ := aB hv
    obtain ⟨l, h3, hq, h4⟩ := aB h2
    obtain ⟨h, h5, hr, h6⟩ := aB h4
    obtain ⟨m, h7, hm, h8⟩ := aB h6
    obtain ⟨v, h9, hw, h10⟩ := cA (d := dN o.dst) h8
    exact fin v hw (by rw [hop]; simp only [bk, iQ (hρ _ _ h1) hp, tN (iS hρ h3) hq, tN (iS hρ h5) hr, tN (iS hρ h7) hm, aL, h9]) h10
   ·exact hv.elim
  ·exact hv.elim
theorem vc_sound : ∀ (c : Code) (an : AN) (tm : VM) (σ : AS) (K : AX -> VM -> AS -> Prop), vc (av T) T nt c an tm σ K -> ∀ tm', Sub tm tm' -> Goes T nt c tm' σ K := by
 intro c
 induction c with
 | skip => intro an tm σ K hv tm' hs; exact ⟨0, .norm, tm', σ, rfl, tm, hs, hv⟩
 | label l => intro an tm σ K hv tm' hs; exact ⟨0, .norm, tm', σ, rfl, tm, hs, hv⟩
 | ret => intro an tm σ K hv tm' hs; exact ⟨0, .ret, tm', σ, rfl, tm, hs, hv⟩
 | exit id => intro an tm σ K hv tm' hs; exact ⟨0, .exit id, tm', σ, rfl, tm, hs, hv⟩
 | region id ops draw =>
  intro an tm σ K hv tm' hs
  obtain ⟨g1, g2⟩ := nR ops.toList
  cases draw with
  | false =>
   obtain ⟨k, tm1', σ1, tm1, e1, e2, e3⟩ := pZ (ops := ops) _ g2 tm tm' σ _ hs hv
   rw [g1] at e1
   exact ⟨k, .norm, tm1', σ1, by simp only [aU, e1], tm1, e2, e3⟩
  | true =>
   simp only [vc] at hv
   split at hv
   ·rename_i hb
    obtain ⟨k, tm1', news1, n1, tm1, e1, e2, e3⟩ := ni (ops := ops) _ g2 0 tm tm' [] [] [] σ.n _ hs (fun x hx => hx) hv
    rw [g1] at e1
    refine ⟨k, .norm, tm1', ⟨lay σ.h news1, n1⟩, by simp only [aU, hb, e1], tm1, e2, ?_⟩
    cases news1 with
    | nil => exact e3
    | cons b bs => exact e3
   ·rename_i b bs hb
    split at hv
    ·rename_i hf
     obtain ⟨k, tm1', σ1, tm1, e1, e2, e3⟩ := nh _ 0 tm tm' σ _ hs hv
     exact ⟨k, .norm, tm1', σ1, by simp only [aU, hb, hf, e1], tm1, e2, e3⟩
    ·rename_i j js hf
     split at hv
     ·rename_i hmay
      obtain ⟨tm2, tm2', f1, f2, f3⟩ := ou (j :: js) tm tm' _ hs hv
      obtain ⟨k, tm1', σ1, tm1, e1, e2, e3⟩ := nh _ 0 tm2 tm2' σ _ f2 f3
      exact ⟨k, .norm, tm1', σ1, by simp only [aU, hb, hf, hmay, f1, e1], tm1, e2, e3⟩
     ·exact hv.elim
 | seq a b iha ihb =>
  intro an tm σ K hv tm' hs
  cases an with
  | seq j x y =>
   cases j with
   | none =>
    refine Goes.seq (iha x tm σ _ hv tm' hs) (fun tm1 tm1' σ1 h1 h2 => ihb y tm1 σ1 K h2 tm1' h1) (fun x tm1 σ1 hx h => ?_)
    cases x <;> first | exact h | exact absurd rfl hx
   | some L =>
    refine Goes.seq (iha x tm σ _ hv tm' hs) (fun tm1 tm1' σ1 h1 h2 => ?_) (fun x tm1 σ1 hx h => ?_)
    ·obtain ⟨tm2, f1, f2⟩ := fj _ _ h2
     refine ihb y tm2 σ1 K f1 tm1' (fun t v ht => ?_)
     rcases f2 t v ht with ⟨_, q⟩ | ⟨_, q⟩
     ·exact h1 t v q
     ·cases q
    ·cases x <;> first | exact h | exact absurd rfl hx
  | _ => exact hv.elim
 | cond x a b iha ihb =>
  intro an tm σ K hv tm' hs
  cases an with
  | two u v =>
   obtain ⟨w, h1, h2⟩ := aB hv
   have h1' := hs.le (T := T) _ _ h1
   have h2' : oI w (vc (av T) T nt a u tm σ K) (vc (av T) T nt b v tm σ K) := h2
   unfold oI at h2'
   split at h2'
   ·rename_i y
    cases y with
    | true =>
     obtain ⟨k, x, tm1', σ1, e1, e2⟩ := iha u tm σ K (h2'.1 rfl) tm' hs
     exact ⟨k, x, tm1', σ1, by simp only [aU, h1', e1], e2⟩
    | false =>
     obtain ⟨k, x, tm1', σ1, e1, e2⟩ := ihb v tm σ K (h2'.2 rfl) tm' hs
     exact ⟨k, x, tm1', σ1, by simp only [aU, h1', e1], e2⟩
   ·exact h2'.elim
  | _ => exact hv.elim
 | block id a ih =>
  intro an tm σ K hv tm' hs
  cases an with
  | one u =>
   obtain ⟨k, x, tm1', σ1, e1, tm1, e2, e3⟩ := ih u tm σ _ hv tm' hs
   cases x with
   | norm => exact ⟨k, .norm, tm1', σ1, by simp only [aU, e1], tm1, e2, e3⟩
   | ret => exact ⟨k, .ret, tm1', σ1, by simp only [aU, e1], tm1, e2, e3⟩
   | exit j =>
    cases hj : Nat.beq j id with
    | true =>
     simp only [hj] at e3
     exact ⟨k, .norm, tm1', σ1, by simp only [aU, e1, hj], tm1, e2, e3⟩
    | false =>
     simp only [hj] at e3
     exact ⟨k, .exit j, tm1', σ1, by simp only [aU, e1, hj], tm1, e2, e3⟩
  | _ => exact hv.elim
 | scope a ih =>
  intro an tm σ K hv tm' hs
  cases an with
  | one u =>
   obtain ⟨k, x, tm1', σ1, e1, e2⟩ := ih u tm σ K hv tm' hs
   exact ⟨k, x, tm1', σ1, by simp only [aU, e1], e2⟩
  | _ => exact hv.elim
 | loop a ih =>
  intro an tm σ K hv tm' hs
  cases an with
  | loop L u =>
   have hall := ry L _ hv (ip L [] fun tm σ => ∀ tm', Sub tm tm' -> Goes T nt (.loop a) tm' σ K) ?_
   ·obtain ⟨tm2, f1, f2⟩ := fj _ _ hall
    refine f1 tm' (fun t v ht => ?_)
    rcases f2 t v ht with ⟨_, q⟩ | ⟨_, q⟩
    ·exact hs t v q
    ·cases q
   ·refine sF (fun tm2 σ2 h tm2' hs2 => ?_) L []
    obtain ⟨k, x, tm1', σ1, e1, tm1, e2, e3⟩ := ih u tm2 σ2 _ h tm2' hs2
    by_cases hx : x = .norm
    ·subst hx
     obtain ⟨tm3, f1, f2⟩ := fj _ _ e3
     obtain ⟨k2, x2, tm4', σ4, g1, g2⟩ := f1 tm1' (fun t v ht => by
      rcases f2 t v ht with ⟨_, q⟩ | ⟨_, q⟩
      ·exact e2 t v q
      ·cases q)
     refine ⟨max k k2 + 1, x2, tm4', σ4, ?_, g2⟩
     simp only [aU]
     unfold mw
     rw [jf (show k <= max k k2 + 1 by omega) e1]
     simp only [aU] at g1
     exact lO (fun tm σ r h => jf (show k2 <= max k k2 + 1 by omega) h) _ _ _ _ _ (by omega) g1
    ·refine ⟨k + 1, x, tm1', σ1, ?_, tm1, e2, ?_⟩
     ·simp only [aU]
      unfold mw
      rw [jf (show k <= k + 1 by omega) e1]
      cases x <;> first | rfl | exact absurd rfl hx
     ·cases x <;> first | exact e3 | exact absurd rfl hx
  | _ => exact hv.elim
 | rangeFunc f ps a b iha ihb => intro an tm σ K hv tm' hs; cases an <;> exact hv.elim
 | goto l => intro an tm σ K hv tm' hs; cases an <;> exact hv.elim
 | refuse y => intro an tm σ K hv tm' hs; cases an <;> exact hv.elim
theorem mc {tm : VM} {tm' : Tr AV} (hs : Sub tm tm') {h : Tr AB} : ∀ (rs : List ResultVar) (K : List AV -> Prop), xL (av T) T tm h rs K -> ∃ vs, gq T tm' h rs = some vs /\ K vs
 | [], K, hv => ⟨[], rfl, hv⟩
 | .tmp t :: rs, K, hv => by
  obtain ⟨a, h1, h2⟩ := aB hv
  obtain ⟨as, h3, h4⟩ := mc hs rs _ h2
  exact ⟨a :: as, by simp only [gq, hs _ _ h1, h3], h4⟩
 | .cell a t :: rs, K, hv => by
  obtain ⟨p, h1, h2⟩ := aB hv
  obtain ⟨v, h3, h4⟩ := cA (d := a) h2
  obtain ⟨as, h5, h6⟩ := mc hs rs _ h4
  refine ⟨v :: as, ?_, h6⟩
  unfold ac at h3
  split at h3
  ·rename_i cs hc
   simp only [gq, hs _ _ h1, hc, h3, h5]
  ·cases h3
theorem argL_sub (args : List AV) : Sub (argL args 0) (lC args 0 .nil) := by
 have key : ∀ (as : List AV) (i t : Nat) (v : AV), ky (argL as i) t = some v -> i <= t /\ as[t - i]? = some v := by
  intro as
  induction as with
  | nil => intro i t v h; cases h
  | cons a as ih =>
   intro i t v h
   unfold argL at h
   rw [nH] at h
   split at h
   ·rename_i e; subst e; injection h with h; subst h; exact ⟨Nat.le_refl _, by simp⟩
   ·rename_i e
    obtain ⟨h1, h2⟩ := ih _ _ _ h
    refine ⟨by omega, ?_⟩
    have : t - i = (t - (i + 1)) + 1 := by omega
    rw [this, List.getElem?_cons_succ]; exact h2
 intro t v h
 obtain ⟨_, h2⟩ := key args 0 t v h
 rw [Nat.sub_zero] at h2
 have hlt := (List.getElem?_eq_some_iff.1 h2).1
 rw [od, if_pos ⟨Nat.zero_le _, by omega⟩, Nat.sub_zero]; exact h2
theorem dx {fn : Func} {c : Code} {an : AN} {args : List AV} {σ : AS} {Q : AV -> AS -> Prop} (hv : bQ (av T) T fn c an args σ Q) : ∃ k r σ1, eY T (aE T k) k fn c args σ = some (r, σ1) /\ Q r σ1 := by
 obtain ⟨k, x, tm1', σ1, e1, tm1, e2, e3⟩ := vc_sound c an _ σ _ hv _ (argL_sub args)
 cases x with
 | exit id => exact e3.elim
 | norm =>
  obtain ⟨vs, h1, h2⟩ := mc e2 _ _ e3
  exact ⟨k, fD vs, σ1, by unfold eY; rw [e1]; simp only [h1], h2⟩
 | ret =>
  obtain ⟨vs, h1, h2⟩ := mc e2 _ _ e3
  exact ⟨k, fD vs, σ1, by unfold eY; rw [e1]; simp only [h1], h2⟩
end
def Runs (T : Tab) (f : Nat) (args : List AV) (σ : AS) (r : AV) (σ' : AS) : Prop := ∃ k, aE T k f args σ = some (r, σ')
def R (T : Tab) (f : Nat) (args : List AV) (r : AV) : Prop := ∃ k, ∀ σ, aE T k f args σ = some (r, σ)
section
variable {T : Tab} {f : Nat} {args : List AV} {σ σ' : AS} {r : AV}
theorem R.runs (h : R T f args r) (σ : AS) : Runs T f args σ r σ := h.elim fun k h => ⟨k, h σ⟩
theorem Runs.eq (h : Runs T f args σ r σ') (d : Nat) (K : AV -> AS -> Prop) : oC T d f args σ K = K r σ' := by
 obtain ⟨k, h⟩ := h
 refine propext ⟨fun ⟨m, r2, σ2, h1, h2⟩ => ?_, fun q => ⟨k, r, σ', h, q⟩⟩
 have e1 := aT k (max k m) (Nat.le_max_left _ _) _ _ _ _ h
 have e2 := aT m (max k m) (Nat.le_max_right _ _) _ _ _ _ h1
 rw [e1] at e2; injection e2 with e2; simp only [Prod.mk.injEq] at e2; obtain ⟨rfl, rfl⟩ := e2; exact h2
theorem R.eq (h : R T f args r) (d : Nat) (σ : AS) (K : AV -> AS -> Prop) : oC T d f args σ K = K r σ := (h.runs σ).eq d K
def oZ (T : Tab) (σ : AS) (r : AV) (K : AV -> Prop) : Prop := ∃ k r', fz T σ.h k r = some r' /\ K r'
def bO (fn : Func) : Code := match fn.body with
 | some c => c
 | none => .skip
theorem R.mk {fn : Func} {c : Code} (h1 : T.prim f = none) (h2 : fU T f args = none) (h3 : T.fn f = some fn) (h4 : fn.body = some c) (h5 : T.opened f = false) (h6 : AV.idfree.idfrees args = true) (h7 : AV.norm.norms args = args) {an : AN}
  (hv : bQ (av T) T fn c an args ⟨.nil, 0⟩ (fun r1 σ1 => oZ T σ1 r1 (fun r2 => r2 = r))) : R T f args r := by
 obtain ⟨k, r1, σ1, e1, m, r2, e2, rfl⟩ := dx hv
 refine ⟨max k m + 1, fun σ => ?_⟩
 have e1' := io (m := max k m) (aT k (max k m) (Nat.le_max_left _ _)) (Nat.le_max_left _ _) e1
 have e2' := gw m (max k m + 1) _ _ (by omega) e2
 unfold aE
 simp only [h1, h2, h3, h4, h5, h6, h7, e1', e2']
theorem Runs.mk {fn : Func} {c : Code} (h1 : T.prim f = none) (h2 : fU T f args = none) (h3 : T.fn f = some fn) (h4 : fn.body = some c) (h5 : T.opened f = true) (h6 : T.mode f = 0) {an : AN}
  (hv : bQ (av T) T fn c an args σ (fun r1 σ1 => r1 = r /\ σ1 = σ')) : Runs T f args σ r σ' := by
 obtain ⟨k, r1, σ1, e1, rfl, rfl⟩ := dx hv
 refine ⟨k + 1, ?_⟩
 unfold aE
 simp only [h1, h2, h3, h4, h5, h6, e1]
end
def cnd (c : Bool) (a : AV) : AV := bif c then a else .tup []
theorem wq (a : AV) : cnd true a = a := rfl
theorem td (a : AV) : cnd false a = .tup [] := rfl
def ib (L : List (List Nat)) : Nat -> List Nat := fun i => L.getD i []
theorem aa (d : Nat) (v : AV) (K : AV -> Prop) : oV d (some v) K = K v := propext ⟨id, id⟩
theorem bu (d : Nat) (b : AB) (f : Nat -> AV) (σ : AS) (K : AV -> AS -> Prop) : oN d b f σ K = K (f σ.n) ⟨σ.h.put σ.n (some b), σ.n + 1⟩ := propext ⟨id, id⟩
theorem aP (d : Nat) (v : AV) (σ : AS) (K : AV -> AS -> Prop) : oM d (some (v, σ)) K = K v σ := propext ⟨id, id⟩
theorem aH (h : Tr AB) (σ : AS) (K : AS -> Prop) : oH (some h) σ K = K ⟨h, σ.n⟩ := propext ⟨id, id⟩
theorem bI (id : Nat) (b : AB) (K : Nat -> AB -> Prop) : oD (some (id, b)) K = K id b := propext ⟨fun q => q, fun q => q⟩
theorem eV (b : AB) (f : Nat -> AV) (K : AB -> (Nat -> AV) -> Prop) : oE (some (b, f)) K = K b f := propext ⟨id, id⟩
theorem lv (T : Tab) (d f : Nat) (fs cs args : List AV) (σ : AS) (K : AV -> AS -> Prop) : oF T d (.fn f fs cs) args σ K = oC T d f (fs ++ args ++ cs) σ K := propext ⟨id, id⟩
theorem eD (σ : AS) (K : AS -> Prop) : oS σ K = K σ := propext ⟨id, id⟩
theorem fE (K : Prop) : oT true K = K := by unfold oT; simp
theorem aD (A B : Prop) : oI (.b true) A B = A := by unfold oI; simp
theorem aA (A B : Prop) : oI (.b false) A B = B := by unfold oI; simp
theorem bV {L : List Nat} {x : Bool} {w : Bool} {body : Cur L.length -> Prop} {σ : AS} {K : Cur L.length} (h1 : x = w -> body K) (h2 : x = (!w) -> fq L.length K σ) : oG L (.b x) w body σ K := by
 refine ⟨fun h => h1 (by simpa using h), fun h => h2 ?_⟩
 cases x <;> cases w <;> simp_all
theorem jM {L : List Nat} {body : Cur L.length -> Prop} {σ : AS} {K : Cur L.length} : oG L (.b true) true body σ K = body K := by simp [oG]
theorem jR {L : List Nat} {body : Cur L.length -> Prop} {σ : AS} {K : Cur L.length} : oG L (.b false) false body σ K = body K := by simp [oG]
theorem jN {L : List Nat} {body : Cur L.length -> Prop} {σ : AS} {K : Cur L.length} : oG L (.b true) false body σ K = fq L.length K σ := by simp [oG]
theorem jQ {L : List Nat} {body : Cur L.length -> Prop} {σ : AS} {K : Cur L.length} : oG L (.b false) true body σ K = fq L.length K σ := by simp [oG]
theorem df {L : List Nat} {x y : Bool} {body : Cur L.length -> Prop} {σ : AS} {K : Cur L.length} : oG L (cnd x (.b y)) true body σ K = oG L (.b (x && y)) true body σ K := by
 cases x <;> cases y <;> simp [cnd, oG]
theorem dh {L : List Nat} {x y : Bool} {body : Cur L.length -> Prop} {σ : AS} {K : Cur L.length} : oG L (cnd x (.b y)) false body σ K = oG L (.b (x && !y)) true body σ K := by
 cases x <;> cases y <;> simp [cnd, oG]
theorem yc (c y : Bool) : au (.b c) (some (.b true)) (some (cnd (!c) (.b y))) = some (.b (c || y)) := by cases c <;> rfl
theorem iR (c y : Bool) : au (.b c) (some (cnd c (.b y))) (some (.b false)) = some (.b (c && y)) := by cases c <;> rfl
theorem be (a b : Option AV) : au (.b true) a b = a := rfl
theorem bY (a b : Option AV) : au (.b false) a b = b := rfl
theorem cN (x : Bool) : cZ .not (.b x) = some (.b (!x)) := rfl
theorem dP {T : Tab} {σ : AS} {r : AV} {K : AV -> Prop} (h : r.idfree = true) : oZ T σ r K = K r.norm := by
 have e : fz T σ.h 1 r = some r.norm := by unfold fz; rw [h]
 refine propext ⟨fun ⟨k, r', h1, h2⟩ => ?_, fun q => ⟨1, _, e, q⟩⟩
 have e1 := gw 1 (max 1 k) _ _ (Nat.le_max_left _ _) e
 have e2 := gw k (max 1 k) _ _ (Nat.le_max_right _ _) h1
 rw [e1] at e2; injection e2 with e2; rw [e2]; exact h2
theorem jW {T : Tab} {σ : AS} {x : Bool} {K : AV -> Prop} : oZ T σ (.b x) K = K (.b x) := dP rfl
theorem pu {T : Tab} {σ : AS} {k : IntKind} {x : Int} {K : AV -> Prop} : oZ T σ (.i k x) K = K (.i k x) := dP rfl
theorem wZ {T : Tab} {σ : AS} {x : List UInt8} {K : AV -> Prop} : oZ T σ (.s x) K = K (.s x) := dP rfl
theorem oZ_l {T : Tab} {σ : AS} {x : List AV} {K : AV -> Prop} : oZ T σ (.lst x) K = K (.lst x) := dP rfl
theorem mC {l0 : Nat} {body : (AV -> AS -> Prop) -> Prop} {K : AV -> AS -> Prop} : oJ [l0] body K = body K := propext ⟨id, id⟩
theorem yM {l0 : Nat} {x : Bool} (a0 : AV) {σ : AS} {K : AV -> AS -> Prop} : oG [l0] (.b x) true (fun k : AV -> AS -> Prop => k a0 σ) σ K = K (cnd x a0) σ := by
 cases x
 ·exact propext ⟨fun h => h.2 rfl, fun h => ⟨fun q => (by cases q), fun _ => h⟩⟩
 ·exact propext ⟨fun h => h.1 rfl, fun h => ⟨fun _ => h, fun q => by cases q⟩⟩
theorem yN {l0 : Nat} {x : Bool} (a0 : AV) {σ : AS} {K : AV -> AS -> Prop} : oG [l0] (.b x) false (fun k : AV -> AS -> Prop => k a0 σ) σ K = K (cnd (!x) a0) σ := by
 cases x
 ·exact propext ⟨fun h => h.1 rfl, fun h => ⟨fun _ => h, fun q => by cases q⟩⟩
 ·exact propext ⟨fun h => h.2 rfl, fun h => ⟨fun q => (by cases q), fun _ => h⟩⟩
theorem sC {l0 l1 : Nat} {B : (AV -> AV -> AS -> Prop) -> (AV -> AV -> AS -> Prop)} {X : Type} (e0 e1 : X -> AV) (P : X -> AS -> Prop) (m : X -> Nat) (step : ∀ (R : AV -> AV -> AS -> Prop) (x : X) (σ : AS), P x σ -> (∀ (y : X) (σ' : AS), P y σ' -> m y < m x -> R (e0 y) (e1 y) σ') -> B R (e0 x) (e1 x) σ) (x0 : X) (σ0 : AS) (h0 : P x0 σ0) :
  (oL [l0, l1] B : AV -> AV -> AS -> Prop) (e0 x0) (e1 x0) σ0 := by
 intro (R : AV -> AV -> AS -> Prop) (hR : ∀ (v0 v1 : AV) (σ : AS), B R v0 v1 σ -> R v0 v1 σ)
 have key : ∀ (k : Nat) (x : X) (σ : AS), m x <= k -> P x σ -> R (e0 x) (e1 x) σ := by
  intro k
  induction k with
  | zero => intro x σ hk hp; exact hR _ _ σ (step R x σ hp (fun y σ' _ hlt => by omega))
  | succ k ih => intro x σ hk hp; exact hR _ _ σ (step R x σ hp (fun y σ' hy hlt => ih y σ' (by omega) hy))
 exact key _ x0 σ0 (Nat.le_refl _) h0
theorem fG {l0 l1 : Nat} {body : (AV -> AV -> AS -> Prop) -> Prop} {K : AV -> AV -> AS -> Prop} : oJ [l0, l1] body K = body K := propext ⟨id, id⟩
theorem pM {l0 l1 : Nat} {x : Bool} (a0 a1 : AV) {σ : AS} {K : AV -> AV -> AS -> Prop} : oG [l0, l1] (.b x) true (fun k : AV -> AV -> AS -> Prop => k a0 a1 σ) σ K = K (cnd x a0) (cnd x a1) σ := by
 cases x
 ·exact propext ⟨fun h => h.2 rfl, fun h => ⟨fun q => (by cases q), fun _ => h⟩⟩
 ·exact propext ⟨fun h => h.1 rfl, fun h => ⟨fun _ => h, fun q => by cases q⟩⟩
theorem yL {l0 l1 : Nat} {x : Bool} (a0 a1 : AV) {σ : AS} {K : AV -> AV -> AS -> Prop} : oG [l0, l1] (.b x) false (fun k : AV -> AV -> AS -> Prop => k a0 a1 σ) σ K = K (cnd (!x) a0) (cnd (!x) a1) σ := by
 cases x
 ·exact propext ⟨fun h => h.1 rfl, fun h => ⟨fun _ => h, fun q => by cases q⟩⟩
 ·exact propext ⟨fun h => h.2 rfl, fun h => ⟨fun q => (by cases q), fun _ => h⟩⟩
theorem fL {l0 l1 l2 : Nat} {B : (AV -> AV -> AV -> AS -> Prop) -> (AV -> AV -> AV -> AS -> Prop)} {X : Type} (e0 e1 e2 : X -> AV) (P : X -> AS -> Prop) (m : X -> Nat) (step : ∀ (R : AV -> AV -> AV -> AS -> Prop) (x : X) (σ : AS), P x σ -> (∀ (y : X) (σ' : AS), P y σ' -> m y < m x -> R (e0 y) (e1 y) (e2 y) σ') -> B R (e0 x) (e1 x) (e2 x) σ) (x0 : X) (σ0 : AS) (h0 : P x0 σ0) :
  (oL [l0, l1, l2] B : AV -> AV -> AV -> AS -> Prop) (e0 x0) (e1 x0) (e2 x0) σ0 := by
 intro (R : AV -> AV -> AV -> AS -> Prop) (hR : ∀ (v0 v1 v2 : AV) (σ : AS), B R v0 v1 v2 σ -> R v0 v1 v2 σ)
 have key : ∀ (k : Nat) (x : X) (σ : AS), m x <= k -> P x σ -> R (e0 x) (e1 x) (e2 x) σ := by
  intro k
  induction k with
  | zero => intro x σ hk hp; exact hR _ _ _ σ (step R x σ hp (fun y σ' _ hlt => by omega))
  | succ k ih => intro x σ hk hp; exact hR _ _ _ σ (step R x σ hp (fun y σ' hy hlt => ih y σ' (by omega) hy))
 exact key _ x0 σ0 (Nat.le_refl _) h0
theorem gh {l0 l1 l2 : Nat} {body : (AV -> AV -> AV -> AS -> Prop) -> Prop} {K : AV -> AV -> AV -> AS -> Prop} : oJ [l0, l1, l2] body K = body K := propext ⟨id, id⟩
theorem lh {l0 l1 l2 : Nat} {x : Bool} (a0 a1 a2 : AV) {σ : AS} {K : AV -> AV -> AV -> AS -> Prop} : oG [l0, l1, l2] (.b x) true (fun k : AV -> AV -> AV -> AS -> Prop => k a0 a1 a2 σ) σ K = K (cnd x a0) (cnd x a1) (cnd x a2) σ := by
 cases x
 ·exact propext ⟨fun h => h.2 rfl, fun h => ⟨fun q => (by cases q), fun _ => h⟩⟩
 ·exact propext ⟨fun h => h.1 rfl, fun h => ⟨fun _ => h, fun q => by cases q⟩⟩
theorem mI {l0 l1 l2 : Nat} {x : Bool} (a0 a1 a2 : AV) {σ : AS} {K : AV -> AV -> AV -> AS -> Prop} : oG [l0, l1, l2] (.b x) false (fun k : AV -> AV -> AV -> AS -> Prop => k a0 a1 a2 σ) σ K = K (cnd (!x) a0) (cnd (!x) a1) (cnd (!x) a2) σ := by
 cases x
 ·exact propext ⟨fun h => h.1 rfl, fun h => ⟨fun _ => h, fun q => by cases q⟩⟩
 ·exact propext ⟨fun h => h.2 rfl, fun h => ⟨fun q => (by cases q), fun _ => h⟩⟩
theorem kw {l0 l1 l2 l3 : Nat} {B : (AV -> AV -> AV -> AV -> AS -> Prop) -> (AV -> AV -> AV -> AV -> AS -> Prop)} {X : Type} (e0 e1 e2 e3 : X -> AV) (P : X -> AS -> Prop) (m : X -> Nat) (step : ∀ (R : AV -> AV -> AV -> AV -> AS -> Prop) (x : X) (σ : AS), P x σ -> (∀ (y : X) (σ' : AS), P y σ' -> m y < m x -> R (e0 y) (e1 y) (e2 y) (e3 y) σ') -> B R (e0 x) (e1 x) (e2 x) (e3 x) σ) (x0 : X) (σ0 : AS) (h0 : P x0 σ0) :
  (oL [l0, l1, l2, l3] B : AV -> AV -> AV -> AV -> AS -> Prop) (e0 x0) (e1 x0) (e2 x0) (e3 x0) σ0 := by
 intro (R : AV -> AV -> AV -> AV -> AS -> Prop) (hR : ∀ (v0 v1 v2 v3 : AV) (σ : AS), B R v0 v1 v2 v3 σ -> R v0 v1 v2 v3 σ)
 have key : ∀ (k : Nat) (x : X) (σ : AS), m x <= k -> P x σ -> R (e0 x) (e1 x) (e2 x) (e3 x) σ := by
  intro k
  induction k with
  | zero => intro x σ hk hp; exact hR _ _ _ _ σ (step R x σ hp (fun y σ' _ hlt => by omega))
  | succ k ih => intro x σ hk hp; exact hR _ _ _ _ σ (step R x σ hp (fun y σ' hy hlt => ih y σ' (by omega) hy))
 exact key _ x0 σ0 (Nat.le_refl _) h0
theorem dj {l0 l1 l2 l3 : Nat} {body : (AV -> AV -> AV -> AV -> AS -> Prop) -> Prop} {K : AV -> AV -> AV -> AV -> AS -> Prop} : oJ [l0, l1, l2, l3] body K = body K := propext ⟨id, id⟩
theorem yJ {l0 l1 l2 l3 : Nat} {x : Bool} (a0 a1 a2 a3 : AV) {σ : AS} {K : AV -> AV -> AV -> AV -> AS -> Prop} : oG [l0, l1, l2, l3] (.b x) true (fun k : AV -> AV -> AV -> AV -> AS -> Prop => k a0 a1 a2 a3 σ) σ K = K (cnd x a0) (cnd x a1) (cnd x a2) (cnd x a3) σ := by
 cases x
 ·exact propext ⟨fun h => h.2 rfl, fun h => ⟨fun q => (by cases q), fun _ => h⟩⟩
 ·exact propext ⟨fun h => h.1 rfl, fun h => ⟨fun _ => h, fun q => by cases q⟩⟩
theorem yK {l0 l1 l2 l3 : Nat} {x : Bool} (a0 a1 a2 a3 : AV) {σ : AS} {K : AV -> AV -> AV -> AV -> AS -> Prop} : oG [l0, l1, l2, l3] (.b x) false (fun k : AV -> AV -> AV -> AV -> AS -> Prop => k a0 a1 a2 a3 σ) σ K = K (cnd (!x) a0) (cnd (!x) a1) (cnd (!x) a2) (cnd (!x) a3) σ := by
 cases x
 ·exact propext ⟨fun h => h.1 rfl, fun h => ⟨fun _ => h, fun q => by cases q⟩⟩
 ·exact propext ⟨fun h => h.2 rfl, fun h => ⟨fun q => (by cases q), fun _ => h⟩⟩
theorem ij {l0 l1 l2 l3 l4 : Nat} {B : (AV -> AV -> AV -> AV -> AV -> AS -> Prop) -> (AV -> AV -> AV -> AV -> AV -> AS -> Prop)} {X : Type} (e0 e1 e2 e3 e4 : X -> AV) (P : X -> AS -> Prop) (m : X -> Nat) (step : ∀ (R : AV -> AV -> AV -> AV -> AV -> AS -> Prop) (x : X) (σ : AS), P x σ -> (∀ (y : X) (σ' : AS), P y σ' -> m y < m x -> R (e0 y) (e1 y) (e2 y) (e3 y) (e4 y) σ') -> B R (e0 x) (e1 x) (e2 x) (e3 x) (e4 x) σ) (x0 : X) (σ0 : AS) (h0 : P x0 σ0) :
  (oL [l0, l1, l2, l3, l4] B : AV -> AV -> AV -> AV -> AV -> AS -> Prop) (e0 x0) (e1 x0) (e2 x0) (e3 x0) (e4 x0) σ0 := by
 intro (R : AV -> AV -> AV -> AV -> AV -> AS -> Prop) (hR : ∀ (v0 v1 v2 v3 v4 : AV) (σ : AS), B R v0 v1 v2 v3 v4 σ -> R v0 v1 v2 v3 v4 σ)
 have key : ∀ (k : Nat) (x : X) (σ : AS), m x <= k -> P x σ -> R (e0 x) (e1 x) (e2 x) (e3 x) (e4 x) σ := by
  intro k
  induction k with
  | zero => intro x σ hk hp; exact hR _ _ _ _ _ σ (step R x σ hp (fun y σ' _ hlt => by omega))
  | succ k ih => intro x σ hk hp; exact hR _ _ _ _ _ σ (step R x σ hp (fun y σ' hy hlt => ih y σ' (by omega) hy))
 exact key _ x0 σ0 (Nat.le_refl _) h0
theorem join5 {l0 l1 l2 l3 l4 : Nat} {body : (AV -> AV -> AV -> AV -> AV -> AS -> Prop) -> Prop} {K : AV -> AV -> AV -> AV -> AV -> AS -> Prop} (P : AV -> AV -> AV -> AV -> AV -> AS -> Prop) (h1 : ∀ k : AV -> AV -> AV -> AV -> AV -> AS -> Prop, (∀ (v0 v1 v2 v3 v4 : AV) (σ : AS), P v0 v1 v2 v3 v4 σ -> k v0 v1 v2 v3 v4 σ) -> body k) (h2 : ∀ (v0 v1 v2 v3 v4 : AV) (σ : AS), P v0 v1 v2 v3 v4 σ -> K v0 v1 v2 v3 v4 σ) : oJ [l0, l1, l2, l3, l4] body K := h1 K h2
theorem iY {l0 l1 l2 l3 l4 : Nat} {body : (AV -> AV -> AV -> AV -> AV -> AS -> Prop) -> Prop} {K : AV -> AV -> AV -> AV -> AV -> AS -> Prop} : oJ [l0, l1, l2, l3, l4] body K = body K := propext ⟨id, id⟩
theorem yH {l0 l1 l2 l3 l4 : Nat} {x : Bool} (a0 a1 a2 a3 a4 : AV) {σ : AS} {K : AV -> AV -> AV -> AV -> AV -> AS -> Prop} : oG [l0, l1, l2, l3, l4] (.b x) true (fun k : AV -> AV -> AV -> AV -> AV -> AS -> Prop => k a0 a1 a2 a3 a4 σ) σ K = K (cnd x a0) (cnd x a1) (cnd x a2) (cnd x a3) (cnd x a4) σ := by
 cases x
 ·exact propext ⟨fun h => h.2 rfl, fun h => ⟨fun q => (by cases q), fun _ => h⟩⟩
 ·exact propext ⟨fun h => h.1 rfl, fun h => ⟨fun _ => h, fun q => by cases q⟩⟩
theorem yI {l0 l1 l2 l3 l4 : Nat} {x : Bool} (a0 a1 a2 a3 a4 : AV) {σ : AS} {K : AV -> AV -> AV -> AV -> AV -> AS -> Prop} : oG [l0, l1, l2, l3, l4] (.b x) false (fun k : AV -> AV -> AV -> AV -> AV -> AS -> Prop => k a0 a1 a2 a3 a4 σ) σ K = K (cnd (!x) a0) (cnd (!x) a1) (cnd (!x) a2) (cnd (!x) a3) (cnd (!x) a4) σ := by
 cases x
 ·exact propext ⟨fun h => h.1 rfl, fun h => ⟨fun _ => h, fun q => by cases q⟩⟩
 ·exact propext ⟨fun h => h.2 rfl, fun h => ⟨fun q => (by cases q), fun _ => h⟩⟩
theorem vo {l0 l1 l2 l3 l4 l5 : Nat} {B : (AV -> AV -> AV -> AV -> AV -> AV -> AS -> Prop) -> (AV -> AV -> AV -> AV -> AV -> AV -> AS -> Prop)} {X : Type} (e0 e1 e2 e3 e4 e5 : X -> AV) (P : X -> AS -> Prop) (m : X -> Nat) (step : ∀ (R : AV -> AV -> AV -> AV -> AV -> AV -> AS -> Prop) (x : X) (σ : AS), P x σ -> (∀ (y : X) (σ' : AS), P y σ' -> m y < m x -> R (e0 y) (e1 y) (e2 y) (e3 y) (e4 y) (e5 y) σ') -> B R (e0 x) (e1 x) (e2 x) (e3 x) (e4 x) (e5 x) σ) (x0 : X) (σ0 : AS) (h0 : P x0 σ0) :
  (oL [l0, l1, l2, l3, l4, l5] B : AV -> AV -> AV -> AV -> AV -> AV -> AS -> Prop) (e0 x0) (e1 x0) (e2 x0) (e3 x0) (e4 x0) (e5 x0) σ0 := by
 intro (R : AV -> AV -> AV -> AV -> AV -> AV -> AS -> Prop) (hR : ∀ (v0 v1 v2 v3 v4 v5 : AV) (σ : AS), B R v0 v1 v2 v3 v4 v5 σ -> R v0 v1 v2 v3 v4 v5 σ)
 have key : ∀ (k : Nat) (x : X) (σ : AS), m x <= k -> P x σ -> R (e0 x) (e1 x) (e2 x) (e3 x) (e4 x) (e5 x) σ := by
  intro k
  induction k with
  | zero => intro x σ hk hp; exact hR _ _ _ _ _ _ σ (step R x σ hp (fun y σ' _ hlt => by omega))
  | succ k ih => intro x σ hk hp; exact hR _ _ _ _ _ _ σ (step R x σ hp (fun y σ' hy hlt => ih y σ' (by omega) hy))
 exact key _ x0 σ0 (Nat.le_refl _) h0
theorem join6_eq {l0 l1 l2 l3 l4 l5 : Nat} {body : (AV -> AV -> AV -> AV -> AV -> AV -> AS -> Prop) -> Prop} {K : AV -> AV -> AV -> AV -> AV -> AV -> AS -> Prop} : oJ [l0, l1, l2, l3, l4, l5] body K = body K := propext ⟨id, id⟩
theorem yF {l0 l1 l2 l3 l4 l5 : Nat} {x : Bool} (a0 a1 a2 a3 a4 a5 : AV) {σ : AS} {K : AV -> AV -> AV -> AV -> AV -> AV -> AS -> Prop} : oG [l0, l1, l2, l3, l4, l5] (.b x) true (fun k : AV -> AV -> AV -> AV -> AV -> AV -> AS -> Prop => k a0 a1 a2 a3 a4 a5 σ) σ K = K (cnd x a0) (cnd x a1) (cnd x a2) (cnd x a3) (cnd x a4) (cnd x a5) σ := by
 cases x
 ·exact propext ⟨fun h => h.2 rfl, fun h => ⟨fun q => (by cases q), fun _ => h⟩⟩
 ·exact propext ⟨fun h => h.1 rfl, fun h => ⟨fun _ => h, fun q => by cases q⟩⟩
theorem yG {l0 l1 l2 l3 l4 l5 : Nat} {x : Bool} (a0 a1 a2 a3 a4 a5 : AV) {σ : AS} {K : AV -> AV -> AV -> AV -> AV -> AV -> AS -> Prop} : oG [l0, l1, l2, l3, l4, l5] (.b x) false (fun k : AV -> AV -> AV -> AV -> AV -> AV -> AS -> Prop => k a0 a1 a2 a3 a4 a5 σ) σ K = K (cnd (!x) a0) (cnd (!x) a1) (cnd (!x) a2) (cnd (!x) a3) (cnd (!x) a4) (cnd (!x) a5) σ := by
 cases x
 ·exact propext ⟨fun h => h.1 rfl, fun h => ⟨fun _ => h, fun q => by cases q⟩⟩
 ·exact propext ⟨fun h => h.2 rfl, fun h => ⟨fun q => (by cases q), fun _ => h⟩⟩
theorem join7 {l0 l1 l2 l3 l4 l5 l6 : Nat} {body : (AV -> AV -> AV -> AV -> AV -> AV -> AV -> AS -> Prop) -> Prop} {K : AV -> AV -> AV -> AV -> AV -> AV -> AV -> AS -> Prop} (P : AV -> AV -> AV -> AV -> AV -> AV -> AV -> AS -> Prop) (h1 : ∀ k : AV -> AV -> AV -> AV -> AV -> AV -> AV -> AS -> Prop, (∀ (v0 v1 v2 v3 v4 v5 v6 : AV) (σ : AS), P v0 v1 v2 v3 v4 v5 v6 σ -> k v0 v1 v2 v3 v4 v5 v6 σ) -> body k) (h2 : ∀ (v0 v1 v2 v3 v4 v5 v6 : AV) (σ : AS), P v0 v1 v2 v3 v4 v5 v6 σ -> K v0 v1 v2 v3 v4 v5 v6 σ) : oJ [l0, l1, l2, l3, l4, l5, l6] body K := h1 K h2
theorem yD {l0 l1 l2 l3 l4 l5 l6 : Nat} {x : Bool} (a0 a1 a2 a3 a4 a5 a6 : AV) {σ : AS} {K : AV -> AV -> AV -> AV -> AV -> AV -> AV -> AS -> Prop} : oG [l0, l1, l2, l3, l4, l5, l6] (.b x) true (fun k : AV -> AV -> AV -> AV -> AV -> AV -> AV -> AS -> Prop => k a0 a1 a2 a3 a4 a5 a6 σ) σ K = K (cnd x a0) (cnd x a1) (cnd x a2) (cnd x a3) (cnd x a4) (cnd x a5) (cnd x a6) σ := by
 cases x
 ·exact propext ⟨fun h => h.2 rfl, fun h => ⟨fun q => (by cases q), fun _ => h⟩⟩
 ·exact propext ⟨fun h => h.1 rfl, fun h => ⟨fun _ => h, fun q => by cases q⟩⟩
theorem yE {l0 l1 l2 l3 l4 l5 l6 : Nat} {x : Bool} (a0 a1 a2 a3 a4 a5 a6 : AV) {σ : AS} {K : AV -> AV -> AV -> AV -> AV -> AV -> AV -> AS -> Prop} : oG [l0, l1, l2, l3, l4, l5, l6] (.b x) false (fun k : AV -> AV -> AV -> AV -> AV -> AV -> AV -> AS -> Prop => k a0 a1 a2 a3 a4 a5 a6 σ) σ K = K (cnd (!x) a0) (cnd (!x) a1) (cnd (!x) a2) (cnd (!x) a3) (cnd (!x) a4) (cnd (!x) a5) (cnd (!x) a6) σ := by
 cases x
 ·exact propext ⟨fun h => h.1 rfl, fun h => ⟨fun _ => h, fun q => by cases q⟩⟩
 ·exact propext ⟨fun h => h.2 rfl, fun h => ⟨fun q => (by cases q), fun _ => h⟩⟩
theorem yB {l0 l1 l2 l3 l4 l5 l6 l7 : Nat} {x : Bool} (a0 a1 a2 a3 a4 a5 a6 a7 : AV) {σ : AS} {K : AV -> AV -> AV -> AV -> AV -> AV -> AV -> AV -> AS -> Prop} : oG [l0, l1, l2, l3, l4, l5, l6, l7] (.b x) true (fun k : AV -> AV -> AV -> AV -> AV -> AV -> AV -> AV -> AS -> Prop => k a0 a1 a2 a3 a4 a5 a6 a7 σ) σ K = K (cnd x a0) (cnd x a1) (cnd x a2) (cnd x a3) (cnd x a4) (cnd x a5) (cnd x a6) (cnd x a7) σ := by
 cases x
 ·exact propext ⟨fun h => h.2 rfl, fun h => ⟨fun q => (by cases q), fun _ => h⟩⟩
 ·exact propext ⟨fun h => h.1 rfl, fun h => ⟨fun _ => h, fun q => by cases q⟩⟩
theorem yC {l0 l1 l2 l3 l4 l5 l6 l7 : Nat} {x : Bool} (a0 a1 a2 a3 a4 a5 a6 a7 : AV) {σ : AS} {K : AV -> AV -> AV -> AV -> AV -> AV -> AV -> AV -> AS -> Prop} : oG [l0, l1, l2, l3, l4, l5, l6, l7] (.b x) false (fun k : AV -> AV -> AV -> AV -> AV -> AV -> AV -> AV -> AS -> Prop => k a0 a1 a2 a3 a4 a5 a6 a7 σ) σ K = K (cnd (!x) a0) (cnd (!x) a1) (cnd (!x) a2) (cnd (!x) a3) (cnd (!x) a4) (cnd (!x) a5) (cnd (!x) a6) (cnd (!x) a7) σ := by
 cases x
 ·exact propext ⟨fun h => h.1 rfl, fun h => ⟨fun _ => h, fun q => by cases q⟩⟩
 ·exact propext ⟨fun h => h.2 rfl, fun h => ⟨fun q => (by cases q), fun _ => h⟩⟩
theorem join9 {l0 l1 l2 l3 l4 l5 l6 l7 l8 : Nat} {body : (AV -> AV -> AV -> AV -> AV -> AV -> AV -> AV -> AV -> AS -> Prop) -> Prop} {K : AV -> AV -> AV -> AV -> AV -> AV -> AV -> AV -> AV -> AS -> Prop} (P : AV -> AV -> AV -> AV -> AV -> AV -> AV -> AV -> AV -> AS -> Prop) (h1 : ∀ k : AV -> AV -> AV -> AV -> AV -> AV -> AV -> AV -> AV -> AS -> Prop, (∀ (v0 v1 v2 v3 v4 v5 v6 v7 v8 : AV) (σ : AS), P v0 v1 v2 v3 v4 v5 v6 v7 v8 σ -> k v0 v1 v2 v3 v4 v5 v6 v7 v8 σ) -> body k) (h2 : ∀ (v0 v1 v2 v3 v4 v5 v6 v7 v8 : AV) (σ : AS), P v0 v1 v2 v3 v4 v5 v6 v7 v8 σ -> K v0 v1 v2 v3 v4 v5 v6 v7 v8 σ) : oJ [l0, l1, l2, l3, l4, l5, l6, l7, l8] body K := h1 K h2
theorem yz {l0 l1 l2 l3 l4 l5 l6 l7 l8 : Nat} {x : Bool} (a0 a1 a2 a3 a4 a5 a6 a7 a8 : AV) {σ : AS} {K : AV -> AV -> AV -> AV -> AV -> AV -> AV -> AV -> AV -> AS -> Prop} : oG [l0, l1, l2, l3, l4, l5, l6, l7, l8] (.b x) true (fun k : AV -> AV -> AV -> AV -> AV -> AV -> AV -> AV -> AV -> AS -> Prop => k a0 a1 a2 a3 a4 a5 a6 a7 a8 σ) σ K = K (cnd x a0) (cnd x a1) (cnd x a2) (cnd x a3) (cnd x a4) (cnd x a5) (cnd x a6) (cnd x a7) (cnd x a8) σ := by
 cases x
 ·exact propext ⟨fun h => h.2 rfl, fun h => ⟨fun q => (by cases q), fun _ => h⟩⟩
 ·exact propext ⟨fun h => h.1 rfl, fun h => ⟨fun _ => h, fun q => by cases q⟩⟩
theorem yA {l0 l1 l2 l3 l4 l5 l6 l7 l8 : Nat} {x : Bool} (a0 a1 a2 a3 a4 a5 a6 a7 a8 : AV) {σ : AS} {K : AV -> AV -> AV -> AV -> AV -> AV -> AV -> AV -> AV -> AS -> Prop} : oG [l0, l1, l2, l3, l4, l5, l6, l7, l8] (.b x) false (fun k : AV -> AV -> AV -> AV -> AV -> AV -> AV -> AV -> AV -> AS -> Prop => k a0 a1 a2 a3 a4 a5 a6 a7 a8 σ) σ K = K (cnd (!x) a0) (cnd (!x) a1) (cnd (!x) a2) (cnd (!x) a3) (cnd (!x) a4) (cnd (!x) a5) (cnd (!x) a6) (cnd (!x) a7) (cnd (!x) a8) σ := by
 cases x
 ·exact propext ⟨fun h => h.1 rfl, fun h => ⟨fun _ => h, fun q => by cases q⟩⟩
 ·exact propext ⟨fun h => h.2 rfl, fun h => ⟨fun q => (by cases q), fun _ => h⟩⟩
theorem loop10 {l0 l1 l2 l3 l4 l5 l6 l7 l8 l9 : Nat} {B : (AV -> AV -> AV -> AV -> AV -> AV -> AV -> AV -> AV -> AV -> AS -> Prop) -> (AV -> AV -> AV -> AV -> AV -> AV -> AV -> AV -> AV -> AV -> AS -> Prop)} {X : Type} (e0 e1 e2 e3 e4 e5 e6 e7 e8 e9 : X -> AV) (P : X -> AS -> Prop) (m : X -> Nat) (step : ∀ (R : AV -> AV -> AV -> AV -> AV -> AV -> AV -> AV -> AV -> AV -> AS -> Prop) (x : X) (σ : AS), P x σ -> (∀ (y : X) (σ' : AS), P y σ' -> m y < m x -> R (e0 y) (e1 y) (e2 y) (e3 y) (e4 y) (e5 y) (e6 y) (e7 y) (e8 y) (e9 y) σ') -> B R (e0 x) (e1 x) (e2 x) (e3 x) (e4 x) (e5 x) (e6 x) (e7 x) (e8 x) (e9 x) σ) (x0 : X) (σ0 : AS) (h0 : P x0 σ0) :
  (oL [l0, l1, l2, l3, l4, l5, l6, l7, l8, l9] B : AV -> AV -> AV -> AV -> AV -> AV -> AV -> AV -> AV -> AV -> AS -> Prop) (e0 x0) (e1 x0) (e2 x0) (e3 x0) (e4 x0) (e5 x0) (e6 x0) (e7 x0) (e8 x0) (e9 x0) σ0 := by
 intro (R : AV -> AV -> AV -> AV -> AV -> AV -> AV -> AV -> AV -> AV -> AS -> Prop) (hR : ∀ (v0 v1 v2 v3 v4 v5 v6 v7 v8 v9 : AV) (σ : AS), B R v0 v1 v2 v3 v4 v5 v6 v7 v8 v9 σ -> R v0 v1 v2 v3 v4 v5 v6 v7 v8 v9 σ)
 have key : ∀ (k : Nat) (x : X) (σ : AS), m x <= k -> P x σ -> R (e0 x) (e1 x) (e2 x) (e3 x) (e4 x) (e5 x) (e6 x) (e7 x) (e8 x) (e9 x) σ := by
  intro k
  induction k with
  | zero => intro x σ hk hp; exact hR _ _ _ _ _ _ _ _ _ _ σ (step R x σ hp (fun y σ' _ hlt => by omega))
  | succ k ih => intro x σ hk hp; exact hR _ _ _ _ _ _ _ _ _ _ σ (step R x σ hp (fun y σ' hy hlt => ih y σ' (by omega) hy))
 exact key _ x0 σ0 (Nat.le_refl _) h0
theorem vL {l0 l1 l2 l3 l4 l5 l6 l7 l8 l9 : Nat} {x : Bool} (a0 a1 a2 a3 a4 a5 a6 a7 a8 a9 : AV) {σ : AS} {K : AV -> AV -> AV -> AV -> AV -> AV -> AV -> AV -> AV -> AV -> AS -> Prop} : oG [l0, l1, l2, l3, l4, l5, l6, l7, l8, l9] (.b x) true (fun k : AV -> AV -> AV -> AV -> AV -> AV -> AV -> AV -> AV -> AV -> AS -> Prop => k a0 a1 a2 a3 a4 a5 a6 a7 a8 a9 σ) σ K = K (cnd x a0) (cnd x a1) (cnd x a2) (cnd x a3) (cnd x a4) (cnd x a5) (cnd x a6) (cnd x a7) (cnd x a8) (cnd x a9) σ := by
 cases x
 ·exact propext ⟨fun h => h.2 rfl, fun h => ⟨fun q => (by cases q), fun _ => h⟩⟩
 ·exact propext ⟨fun h => h.1 rfl, fun h => ⟨fun _ => h, fun q => by cases q⟩⟩
theorem vM {l0 l1 l2 l3 l4 l5 l6 l7 l8 l9 : Nat} {x : Bool} (a0 a1 a2 a3 a4 a5 a6 a7 a8 a9 : AV) {σ : AS} {K : AV -> AV -> AV -> AV -> AV -> AV -> AV -> AV -> AV -> AV -> AS -> Prop} : oG [l0, l1, l2, l3, l4, l5, l6, l7, l8, l9] (.b x) false (fun k : AV -> AV -> AV -> AV -> AV -> AV -> AV -> AV -> AV -> AV -> AS -> Prop => k a0 a1 a2 a3 a4 a5 a6 a7 a8 a9 σ) σ K = K (cnd (!x) a0) (cnd (!x) a1) (cnd (!x) a2) (cnd (!x) a3) (cnd (!x) a4) (cnd (!x) a5) (cnd (!x) a6) (cnd (!x) a7) (cnd (!x) a8) (cnd (!x) a9) σ := by
 cases x
 ·exact propext ⟨fun h => h.1 rfl, fun h => ⟨fun _ => h, fun q => by cases q⟩⟩
 ·exact propext ⟨fun h => h.2 rfl, fun h => ⟨fun q => (by cases q), fun _ => h⟩⟩
theorem vJ {l0 l1 l2 l3 l4 l5 l6 l7 l8 l9 l10 : Nat} {x : Bool} (a0 a1 a2 a3 a4 a5 a6 a7 a8 a9 a10 : AV) {σ : AS} {K : AV -> AV -> AV -> AV -> AV -> AV -> AV -> AV -> AV -> AV -> AV -> AS -> Prop} : oG [l0, l1, l2, l3, l4, l5, l6, l7, l8, l9, l10] (.b x) true (fun k : AV -> AV -> AV -> AV -> AV -> AV -> AV -> AV -> AV -> AV -> AV -> AS -> Prop => k a0 a1 a2 a3 a4 a5 a6 a7 a8 a9 a10 σ) σ K = K (cnd x a0) (cnd x a1) (cnd x a2) (cnd x a3) (cnd x a4) (cnd x a5) (cnd x a6) (cnd x a7) (cnd x a8) (cnd x a9) (cnd x a10) σ := by
 cases x
 ·exact propext ⟨fun h => h.2 rfl, fun h => ⟨fun q => (by cases q), fun _ => h⟩⟩
 ·exact propext ⟨fun h => h.1 rfl, fun h => ⟨fun _ => h, fun q => by cases q⟩⟩
theorem vK {l0 l1 l2 l3 l4 l5 l6 l7 l8 l9 l10 : Nat} {x : Bool} (a0 a1 a2 a3 a4 a5 a6 a7 a8 a9 a10 : AV) {σ : AS} {K : AV -> AV -> AV -> AV -> AV -> AV -> AV -> AV -> AV -> AV -> AV -> AS -> Prop} : oG [l0, l1, l2, l3, l4, l5, l6, l7, l8, l9, l10] (.b x) false (fun k : AV -> AV -> AV -> AV -> AV -> AV -> AV -> AV -> AV -> AV -> AV -> AS -> Prop => k a0 a1 a2 a3 a4 a5 a6 a7 a8 a9 a10 σ) σ K = K (cnd (!x) a0) (cnd (!x) a1) (cnd (!x) a2) (cnd (!x) a3) (cnd (!x) a4) (cnd (!x) a5) (cnd (!x) a6) (cnd (!x) a7) (cnd (!x) a8) (cnd (!x) a9) (cnd (!x) a10) σ := by
 cases x
 ·exact propext ⟨fun h => h.1 rfl, fun h => ⟨fun _ => h, fun q => by cases q⟩⟩
 ·exact propext ⟨fun h => h.2 rfl, fun h => ⟨fun q => (by cases q), fun _ => h⟩⟩
theorem vH {l0 l1 l2 l3 l4 l5 l6 l7 l8 l9 l10 l11 : Nat} {x : Bool} (a0 a1 a2 a3 a4 a5 a6 a7 a8 a9 a10 a11 : AV) {σ : AS} {K : AV -> AV -> AV -> AV -> AV -> AV -> AV -> AV -> AV -> AV -> AV -> AV -> AS -> Prop} : oG [l0, l1, l2, l3, l4, l5, l6, l7, l8, l9, l10, l11] (.b x) true (fun k : AV -> AV -> AV -> AV -> AV -> AV -> AV -> AV -> AV -> AV -> AV -> AV -> AS -> Prop => k a0 a1 a2 a3 a4 a5 a6 a7 a8 a9 a10 a11 σ) σ K = K (cnd x a0) (cnd x a1) (cnd x a2) (cnd x a3) (cnd x a4) (cnd x a5) (cnd x a6) (cnd x a7) (cnd x a8) (cnd x a9) (cnd x a10) (cnd x a11) σ := by
 cases x
 ·exact propext ⟨fun h => h.2 rfl, fun h => ⟨fun q => (by cases q), fun _ => h⟩⟩
 ·exact propext ⟨fun h => h.1 rfl, fun h => ⟨fun _ => h, fun q => by cases q⟩⟩
theorem vI {l0 l1 l2 l3 l4 l5 l6 l7 l8 l9 l10 l11 : Nat} {x : Bool} (a0 a1 a2 a3 a4 a5 a6 a7 a8 a9 a10 a11 : AV) {σ : AS} {K : AV -> AV -> AV -> AV -> AV -> AV -> AV -> AV -> AV -> AV -> AV -> AV -> AS -> Prop} : oG [l0, l1, l2, l3, l4, l5, l6, l7, l8, l9, l10, l11] (.b x) false (fun k : AV -> AV -> AV -> AV -> AV -> AV -> AV -> AV -> AV -> AV -> AV -> AV -> AS -> Prop => k a0 a1 a2 a3 a4 a5 a6 a7 a8 a9 a10 a11 σ) σ K = K (cnd (!x) a0) (cnd (!x) a1) (cnd (!x) a2) (cnd (!x) a3) (cnd (!x) a4) (cnd (!x) a5) (cnd (!x) a6) (cnd (!x) a7) (cnd (!x) a8) (cnd (!x) a9) (cnd (!x) a10) (cnd (!x) a11) σ := by
 cases x
 ·exact propext ⟨fun h => h.1 rfl, fun h => ⟨fun _ => h, fun q => by cases q⟩⟩
 ·exact propext ⟨fun h => h.2 rfl, fun h => ⟨fun q => (by cases q), fun _ => h⟩⟩
section
variable {T : Tab} {h : Tr AB} {t e z : Nat} {k : IntKind}
theorem g_len_s (ht : T.ty t = some .string) (s : List UInt8) : aj T h .len [t] [.s s] = some (.i .i64 s.length) := by simp [aj, ht]
theorem pO (ht : T.ty t = some (.slice e)) (l : List AV) : aj T h .len [t] [.lst l] = some (.i .i64 l.length) := by simp [aj, ht]
theorem zj (ht : T.ty t = some (.slice e)) : aj T h .len [t] [.nils] = some (.i .i64 0) := by simp [aj, ht]
theorem gu (ht : T.ty t = some (.slice e)) (id off n : Nat) (cap : Option Nat) : aj T h .len [t] [.sl id off n cap] = some (.i .i64 n) := by simp [aj, ht]
theorem g_idx_s' (ht : T.ty t = some .string) {s : List UInt8} {n : Int} (h0 : 0 <= n) (hj : n < s.length) : cc T t (.s s) (.i k n) = some (.i .u8 (s.getD n.toNat 0).toNat) := by
 have hj' : n.toNat < s.length := by omega
 simp [cc, ht, hj', h0]
theorem g_ia {x : AV} {es : List AV} (ht : T.ty t = some (.slice e)) (hz : T.sz e = some z) {n : Int} (h0 : 0 <= n) (hx : es[n.toNat]? = some x) (hc : x.cells.length = z) : ai T t (.lst es) (.i k n) = some (.iptr x.cells) := by
 have hj : n.toNat < es.length := (List.getElem?_eq_some_iff.1 hx).1
 have hc' : Nat.beq x.cells.length z = true := by rw [hc]; exact Nat.beq_refl z
 simp only [ai, ht, hz]
 rw [if_pos ⟨h0, by omega⟩]
 simp only [hx, hc']
theorem mM {α : Type} [Inhabited α] {enc : α -> AV} {l : List α} (ht : T.ty t = some (.slice e)) (hz : T.sz e = some z) {n : Int} (h0 : 0 <= n) (hj : n < l.length) (hc : ∀ x, (enc x).cells.length = z) : ai T t (.lst (l.map enc)) (.i k n) = some (.iptr (enc (l.getD n.toNat default)).cells) := by
 have hj' : n.toNat < l.length := by omega
 refine g_ia ht hz h0 ?_ (hc _)
 rw [List.getElem?_map, List.getD_eq_getElem?_getD, List.getElem?_eq_getElem hj']; rfl
theorem tQ {d : TypeDesc} (ht : T.ty t = some d) (hd : eJ d = false) (c : AV) (cs : List AV) : aJ T t (c :: cs) = some c := by simp [aJ, ht, hd]
theorem pb {d : TypeDesc} (ht : T.ty t = some d) (hd : eJ d = true) (hz : T.sz t = some z) (cs : List AV) : aJ T t cs = (cO z cs).map .agg := by simp [aJ, ht, hd, hz]
theorem dH (ht : (T.ty t).map eJ = some false) (c : AV) (cs : List AV) : aJ T t (c :: cs) = some c := by
 cases hd : T.ty t with
 | none => rw [hd] at ht; cases ht
 | some d => rw [hd] at ht; exact tQ hd (Option.some.inj ht) c cs
theorem jy (ht : (T.ty t).map eJ = some true) (hz : T.sz t = some z) (cs : List AV) : aJ T t cs = (cO z cs).map .agg := by
 cases hd : T.ty t with
 | none => rw [hd] at ht; cases ht
 | some d => rw [hd] at ht; exact pb hd (Option.some.inj ht) hz cs
theorem fS (cs : List AV) : ac T h t (.iptr cs) = aJ T t cs := rfl
theorem dk {id off : Nat} {cs : List AV} {g : Bool} (hg : h.get id = some (.cells cs e g)) (ho : off <= cs.length) : ac T h t (.ptr id off) = aJ T t (cs.drop off) := by
 unfold ac iz
 simp only [hg, Nat.ble_eq_true_of_le ho]
theorem oX (off : Nat) (cs : List AV) : ar off (.iptr cs) = some (.iptr (cs.drop off)) := rfl
theorem cG (off id o : Nat) : ar off (.ptr id o) = some (.ptr id (o + off)) := rfl
theorem nB (id o : Nat) : cU (.ptr id o) = some (.ptr id o) := rfl
theorem jU (n : Nat) (vs : List AV) : aI n (.tup vs) = vs[n]? := rfl
theorem em {id off : Nat} {cs : List AV} {g : Bool} {v : AV} {cs' : List AV} (hz : T.sz t = some z) (hg : h.get id = some (.cells cs e g)) (hl : v.cells.length = z) (ha : aO v.cells = true) (hs : bL cs off v.cells = some cs') : az T h t (.ptr id off) v = some (h.put id (some (.cells cs' e g))) := by
 unfold az
 have : Nat.beq v.cells.length z = true := by rw [hl]; exact Nat.beq_refl z
 simp only [hz, this, ha, hg, hs]
theorem dl (a b : Int) (c : Bool) : af T .lss t c (.i k a) (.i k b) = some (.b (decide (a < b))) := by simp [af, iop]
theorem gX (a b : Int) (c : Bool) : af T .leq t c (.i k a) (.i k b) = some (.b (decide (a <= b))) := by simp [af, iop]
theorem cy (a b : Int) (c : Bool) : af T .gtr t c (.i k a) (.i k b) = some (.b (decide (b < a))) := by simp [af, iop]
theorem rr (a b : Int) (c : Bool) : af T .geq t c (.i k a) (.i k b) = some (.b (decide (b <= a))) := by simp [af, iop]
theorem bZ (a b : Int) (c : Bool) : af T .eql t c (.i k a) (.i k b) = some (.b (decide (a = b))) := by simp [af, iop]; rfl
theorem eb (a b : Int) (c : Bool) : af T .neq t c (.i k a) (.i k b) = some (.b (decide (a ≠ b))) := by simp [af, iop]; rfl
theorem aC (a b : Int) (c : Bool) : af T .add t c (.i k a) (.i k b) = some (.i k (k.wrap (a + b))) := by simp [af, iop]
theorem bB (a b : Int) (c : Bool) : af T .sub t c (.i k a) (.i k b) = some (.i k (k.wrap (a - b))) := by simp [af, iop]
theorem mZ (a b : Int) (c : Bool) : af T .mul t c (.i k a) (.i k b) = some (.i k (k.wrap (a * b))) := by simp [af, iop]
theorem bin_quo {a b : Int} (hb : b ≠ 0) (c : Bool) : af T .quo t c (.i k a) (.i k b) = some (.i k (k.wrap (a.tdiv b))) := by simp [af, iop, hb]
theorem bin_rem {a b : Int} (hb : b ≠ 0) (c : Bool) : af T .rem t c (.i k a) (.i k b) = some (.i k (a.tmod b)) := by simp [af, iop, hb]
theorem ck (a b : List UInt8) (c : Bool) : af T .eql t c (.s a) (.s b) = some (.b (a == b)) := rfl
theorem uj (a b : List UInt8) (c : Bool) : af T .neq t c (.s a) (.s b) = some (.b (!(a == b))) := rfl
theorem pQ (a b : List UInt8) (c : Bool) : af T .lss t c (.s a) (.s b) = some (.b (Op.bytesLess a b)) := rfl
theorem bin_sle (a b : List UInt8) (c : Bool) : af T .leq t c (.s a) (.s b) = some (.b (Op.bytesLess a b || a == b)) := rfl
theorem bin_sgt (a b : List UInt8) (c : Bool) : af T .gtr t c (.s a) (.s b) = some (.b (!(Op.bytesLess a b || a == b))) := rfl
theorem pR (a b : List UInt8) (c : Bool) : af T .geq t c (.s a) (.s b) = some (.b (!Op.bytesLess a b)) := rfl
theorem kI {a b : List UInt8} (hl : a.length + b.length <= 9223372036854775807) (c : Bool) : af T .add t c (.s a) (.s b) = some (.s (a ++ b)) := by
 simp only [af, sop, Nat.ble_eq_true_of_le hl]
theorem bin_beq (ht : T.ty t = some .bool) (a b : Bool) (c : Bool) : af T .eql t c (.b a) (.b b) = some (.b (a == b)) := by simp [af, ht]
theorem bin_bne (ht : T.ty t = some .bool) (a b : Bool) (c : Bool) : af T .neq t c (.b a) (.b b) = some (.b (!(a == b))) := by simp [af, ht]
theorem cL {x : Int} (h1 : -9223372036854775808 <= x) (h2 : x <= 9223372036854775807) : IntKind.wrap .i64 x = x := by
 have := IntWalk.i64_in x ⟨h1, h2⟩
 exact this
end
abbrev C0 : Type := AS -> Prop
abbrev C1 : Type := AV -> AS -> Prop
abbrev C2 : Type := AV -> AV -> AS -> Prop
abbrev C3 : Type := AV -> AV -> AV -> AS -> Prop
abbrev C4 : Type := AV -> AV -> AV -> AV -> AS -> Prop
abbrev C5 : Type := AV -> AV -> AV -> AV -> AV -> AS -> Prop
abbrev C6 : Type := AV -> AV -> AV -> AV -> AV -> AV -> AS -> Prop
abbrev C7 : Type := AV -> AV -> AV -> AV -> AV -> AV -> AV -> AS -> Prop
abbrev C8 : Type := AV -> AV -> AV -> AV -> AV -> AV -> AV -> AV -> AS -> Prop
abbrev C9 : Type := AV -> AV -> AV -> AV -> AV -> AV -> AV -> AV -> AV -> AS -> Prop
abbrev C10 : Type := AV -> AV -> AV -> AV -> AV -> AV -> AV -> AV -> AV -> AV -> AS -> Prop
abbrev C11 : Type := AV -> AV -> AV -> AV -> AV -> AV -> AV -> AV -> AV -> AV -> AV -> AS -> Prop
abbrev C12 : Type := AV -> AV -> AV -> AV -> AV -> AV -> AV -> AV -> AV -> AV -> AV -> AV -> AS -> Prop
abbrev C13 : Type := AV -> AV -> AV -> AV -> AV -> AV -> AV -> AV -> AV -> AV -> AV -> AV -> AV -> AS -> Prop
abbrev C14 : Type := AV -> AV -> AV -> AV -> AV -> AV -> AV -> AV -> AV -> AV -> AV -> AV -> AV -> AV -> AS -> Prop
abbrev C15 : Type := AV -> AV -> AV -> AV -> AV -> AV -> AV -> AV -> AV -> AV -> AV -> AV -> AV -> AV -> AV -> AS -> Prop
@[congr] theorem oV_cong {d : Nat} {r r' : Option AV} {K : AV -> Prop} (h : r = r') : oV d r K = oV d r' K := by rw [h]
@[congr] theorem oI_cong {c c' : AV} {A B : Prop} (h : c = c') : oI c A B = oI c' A B := by rw [h]
@[congr] theorem oG_cong {L : List Nat} {c c' : AV} {w : Bool} {body : Cur L.length -> Prop} {σ : AS} {K : Cur L.length} (h : c = c') : oG L c w body σ K = oG L c' w body σ K := by rw [h]
@[congr] theorem oC_cong {T : Tab} {d f : Nat} {as as' : List AV} {σ : AS} {K : AV -> AS -> Prop} (h : as = as') : oC T d f as σ K = oC T d f as' σ K := by rw [h]
@[congr] theorem oM_cong {d : Nat} {r r' : Option (AV × AS)} {K : AV -> AS -> Prop} (h : r = r') : oM d r K = oM d r' K := by rw [h]
@[congr] theorem oH_cong {r r' : Option (Tr AB)} {σ : AS} {K : AS -> Prop} (h : r = r') : oH r σ K = oH r' σ K := by rw [h]
@[congr] theorem oD_cong {r r' : Option (Nat × AB)} {K : Nat -> AB -> Prop} (h : r = r') : oD r K = oD r' K := by rw [h]
@[congr] theorem oE_cong {r r' : Option (AB × (Nat -> AV))} {K : AB -> (Nat -> AV) -> Prop} (h : r = r') : oE r K = oE r' K := by rw [h]
@[congr] theorem oT_cong {b b' : Bool} {K : Prop} (h : b = b') : oT b K = oT b' K := by rw [h]
@[congr] theorem oN_cong {d : Nat} {b b' : AB} {f : Nat -> AV} {σ : AS} {K : AV -> AS -> Prop} (h : b = b') : oN d b f σ K = oN d b' f σ K := by rw [h]
@[congr] theorem oS_cong {σ σ' : AS} {K : AS -> Prop} (h : σ = σ') : oS σ K = oS σ' K := by rw [h]
@[congr] theorem oG_cong_0 {c c' : AV} {w : Bool} {body : C0 -> Prop} {σ : AS} {K : C0} (h : c = c') : oG ([] : List Nat) c w body σ K = oG ([] : List Nat) c' w body σ K := by rw [h]
@[congr] theorem oG_cong_1 {l0 : Nat} {c c' : AV} {w : Bool} {body : C1 -> Prop} {σ : AS} {K : C1} (h : c = c') : oG [l0] c w body σ K = oG [l0] c' w body σ K := by rw [h]
@[congr] theorem oG_cong_2 {l0 l1 : Nat} {c c' : AV} {w : Bool} {body : C2 -> Prop} {σ : AS} {K : C2} (h : c = c') : oG [l0, l1] c w body σ K = oG [l0, l1] c' w body σ K := by rw [h]
@[congr] theorem oG_cong_3 {l0 l1 l2 : Nat} {c c' : AV} {w : Bool} {body : C3 -> Prop} {σ : AS} {K : C3} (h : c = c') : oG [l0, l1, l2] c w body σ K = oG [l0, l1, l2] c' w body σ K := by rw [h]
@[congr] theorem oG_cong_4 {l0 l1 l2 l3 : Nat} {c c' : AV} {w : Bool} {body : C4 -> Prop} {σ : AS} {K : C4} (h : c = c') : oG [l0, l1, l2, l3] c w body σ K = oG [l0, l1, l2, l3] c' w body σ K := by rw [h]
@[congr] theorem oG_cong_5 {l0 l1 l2 l3 l4 : Nat} {c c' : AV} {w : Bool} {body : C5 -> Prop} {σ : AS} {K : C5} (h : c = c') : oG [l0, l1, l2, l3, l4] c w body σ K = oG [l0, l1, l2, l3, l4] c' w body σ K := by rw [h]
@[congr] theorem oG_cong_6 {l0 l1 l2 l3 l4 l5 : Nat} {c c' : AV} {w : Bool} {body : C6 -> Prop} {σ : AS} {K : C6} (h : c = c') : oG [l0, l1, l2, l3, l4, l5] c w body σ K = oG [l0, l1, l2, l3, l4, l5] c' w body σ K := by rw [h]
@[congr] theorem oG_cong_7 {l0 l1 l2 l3 l4 l5 l6 : Nat} {c c' : AV} {w : Bool} {body : C7 -> Prop} {σ : AS} {K : C7} (h : c = c') : oG [l0, l1, l2, l3, l4, l5, l6] c w body σ K = oG [l0, l1, l2, l3, l4, l5, l6] c' w body σ K := by rw [h]
@[congr] theorem oG_cong_8 {l0 l1 l2 l3 l4 l5 l6 l7 : Nat} {c c' : AV} {w : Bool} {body : C8 -> Prop} {σ : AS} {K : C8} (h : c = c') : oG [l0, l1, l2, l3, l4, l5, l6, l7] c w body σ K = oG [l0, l1, l2, l3, l4, l5, l6, l7] c' w body σ K := by rw [h]
@[congr] theorem oG_cong_9 {l0 l1 l2 l3 l4 l5 l6 l7 l8 : Nat} {c c' : AV} {w : Bool} {body : C9 -> Prop} {σ : AS} {K : C9} (h : c = c') : oG [l0, l1, l2, l3, l4, l5, l6, l7, l8] c w body σ K = oG [l0, l1, l2, l3, l4, l5, l6, l7, l8] c' w body σ K := by rw [h]
@[congr] theorem oG_cong_10 {l0 l1 l2 l3 l4 l5 l6 l7 l8 l9 : Nat} {c c' : AV} {w : Bool} {body : C10 -> Prop} {σ : AS} {K : C10} (h : c = c') : oG [l0, l1, l2, l3, l4, l5, l6, l7, l8, l9] c w body σ K = oG [l0, l1, l2, l3, l4, l5, l6, l7, l8, l9] c' w body σ K := by rw [h]
@[congr] theorem oG_cong_11 {l0 l1 l2 l3 l4 l5 l6 l7 l8 l9 l10 : Nat} {c c' : AV} {w : Bool} {body : C11 -> Prop} {σ : AS} {K : C11} (h : c = c') : oG [l0, l1, l2, l3, l4, l5, l6, l7, l8, l9, l10] c w body σ K = oG [l0, l1, l2, l3, l4, l5, l6, l7, l8, l9, l10] c' w body σ K := by rw [h]
@[congr] theorem oG_cong_12 {l0 l1 l2 l3 l4 l5 l6 l7 l8 l9 l10 l11 : Nat} {c c' : AV} {w : Bool} {body : C12 -> Prop} {σ : AS} {K : C12} (h : c = c') : oG [l0, l1, l2, l3, l4, l5, l6, l7, l8, l9, l10, l11] c w body σ K = oG [l0, l1, l2, l3, l4, l5, l6, l7, l8, l9, l10, l11] c' w body σ K := by rw [h]
@[congr] theorem oG_cong_13 {l0 l1 l2 l3 l4 l5 l6 l7 l8 l9 l10 l11 l12 : Nat} {c c' : AV} {w : Bool} {body : C13 -> Prop} {σ : AS} {K : C13} (h : c = c') : oG [l0, l1, l2, l3, l4, l5, l6, l7, l8, l9, l10, l11, l12] c w body σ K = oG [l0, l1, l2, l3, l4, l5, l6, l7, l8, l9, l10, l11, l12] c' w body σ K := by rw [h]
@[congr] theorem oG_cong_14 {l0 l1 l2 l3 l4 l5 l6 l7 l8 l9 l10 l11 l12 l13 : Nat} {c c' : AV} {w : Bool} {body : C14 -> Prop} {σ : AS} {K : C14} (h : c = c') : oG [l0, l1, l2, l3, l4, l5, l6, l7, l8, l9, l10, l11, l12, l13] c w body σ K = oG [l0, l1, l2, l3, l4, l5, l6, l7, l8, l9, l10, l11, l12, l13] c' w body σ K := by rw [h]
@[congr] theorem oG_cong_15 {l0 l1 l2 l3 l4 l5 l6 l7 l8 l9 l10 l11 l12 l13 l14 : Nat} {c c' : AV} {w : Bool} {body : C15 -> Prop} {σ : AS} {K : C15} (h : c = c') : oG [l0, l1, l2, l3, l4, l5, l6, l7, l8, l9, l10, l11, l12, l13, l14] c w body σ K = oG [l0, l1, l2, l3, l4, l5, l6, l7, l8, l9, l10, l11, l12, l13, l14] c' w body σ K := by rw [h]
theorem aV {p : Prop} {_ : Decidable p} {A B : Prop} (h1 : p -> A) (h2 : ¬ p -> B) : oI (.b (decide p)) A B := ⟨fun h => h1 (of_decide_eq_true h), fun h => h2 (of_decide_eq_false h)⟩
theorem gr {x : Bool} {A B : Prop} (h1 : x = true -> A) (h2 : x = false -> B) : oI (.b x) A B := ⟨h1, h2⟩
theorem mJ {l0 : Nat} {body : (AV -> AS -> Prop) -> Prop} {σ : AS} {K : AV -> AS -> Prop} : oG [l0] (.b true) true body σ K = body K := jM
theorem lx {l0 : Nat} {body : (AV -> AS -> Prop) -> Prop} {σ : AS} {K : AV -> AS -> Prop} : oG [l0] (.b false) false body σ K = body K := jR
theorem mK {l0 : Nat} {body : (AV -> AS -> Prop) -> Prop} {σ : AS} {K : AV -> AS -> Prop} : oG [l0] (.b true) false body σ K = K (.tup []) σ := jN
theorem pf {l0 : Nat} {body : (AV -> AS -> Prop) -> Prop} {σ : AS} {K : AV -> AS -> Prop} : oG [l0] (.b false) true body σ K = K (.tup []) σ := jQ
theorem yy {l0 : Nat} {body : (AV -> AS -> Prop) -> Prop} {σ : AS} {K : AV -> AS -> Prop} {w : Bool} : oG [l0] (.tup []) w body σ K = K (.tup []) σ := propext ⟨id, id⟩
theorem pg {p : Prop} {_ : Decidable p} {l0 : Nat} {body : (AV -> AS -> Prop) -> Prop} {σ : AS} {K : AV -> AS -> Prop} (h1 : p -> body K) (h2 : ¬ p -> K (.tup []) σ) : oG [l0] (.b (decide p)) true body σ K := bV (fun h => h1 (of_decide_eq_true h)) (fun h => h2 (of_decide_eq_false h))
theorem pi {p : Prop} {_ : Decidable p} {l0 : Nat} {body : (AV -> AS -> Prop) -> Prop} {σ : AS} {K : AV -> AS -> Prop} (h1 : p -> K (.tup []) σ) (h2 : ¬ p -> body K) : oG [l0] (.b (decide p)) false body σ K := bV (fun h => h2 (of_decide_eq_false h)) (fun h => h1 (of_decide_eq_true h))
theorem pj {x : Bool} {l0 : Nat} {body : (AV -> AS -> Prop) -> Prop} {σ : AS} {K : AV -> AS -> Prop} (h1 : x = true -> body K) (h2 : x = false -> K (.tup []) σ) : oG [l0] (.b x) true body σ K := bV h1 h2
theorem pk {x : Bool} {l0 : Nat} {body : (AV -> AS -> Prop) -> Prop} {σ : AS} {K : AV -> AS -> Prop} (h1 : x = true -> K (.tup []) σ) (h2 : x = false -> body K) : oG [l0] (.b x) false body σ K := bV h2 h1
theorem gtt_2 {l0 l1 : Nat} {body : (AV -> AV -> AS -> Prop) -> Prop} {σ : AS} {K : AV -> AV -> AS -> Prop} : oG [l0, l1] (.b true) true body σ K = body K := jM
theorem gff_2 {l0 l1 : Nat} {body : (AV -> AV -> AS -> Prop) -> Prop} {σ : AS} {K : AV -> AV -> AS -> Prop} : oG [l0, l1] (.b false) false body σ K = body K := jR
theorem gtf_2 {l0 l1 : Nat} {body : (AV -> AV -> AS -> Prop) -> Prop} {σ : AS} {K : AV -> AV -> AS -> Prop} : oG [l0, l1] (.b true) false body σ K = K (.tup []) (.tup []) σ := jN
theorem gft_2 {l0 l1 : Nat} {body : (AV -> AV -> AS -> Prop) -> Prop} {σ : AS} {K : AV -> AV -> AS -> Prop} : oG [l0, l1] (.b false) true body σ K = K (.tup []) (.tup []) σ := jQ
theorem gvv_2 {l0 l1 : Nat} {body : (AV -> AV -> AS -> Prop) -> Prop} {σ : AS} {K : AV -> AV -> AS -> Prop} {w : Bool} : oG [l0, l1] (.tup []) w body σ K = K (.tup []) (.tup []) σ := propext ⟨id, id⟩
theorem yZ {p : Prop} {_ : Decidable p} {l0 l1 : Nat} {body : (AV -> AV -> AS -> Prop) -> Prop} {σ : AS} {K : AV -> AV -> AS -> Prop} (h1 : p -> body K) (h2 : ¬ p -> K (.tup []) (.tup []) σ) : oG [l0, l1] (.b (decide p)) true body σ K := bV (fun h => h1 (of_decide_eq_true h)) (fun h => h2 (of_decide_eq_false h))
theorem zb {p : Prop} {_ : Decidable p} {l0 l1 : Nat} {body : (AV -> AV -> AS -> Prop) -> Prop} {σ : AS} {K : AV -> AV -> AS -> Prop} (h1 : p -> K (.tup []) (.tup []) σ) (h2 : ¬ p -> body K) : oG [l0, l1] (.b (decide p)) false body σ K := bV (fun h => h2 (of_decide_eq_false h)) (fun h => h1 (of_decide_eq_true h))
theorem ze {x : Bool} {l0 l1 : Nat} {body : (AV -> AV -> AS -> Prop) -> Prop} {σ : AS} {K : AV -> AV -> AS -> Prop} (h1 : x = true -> body K) (h2 : x = false -> K (.tup []) (.tup []) σ) : oG [l0, l1] (.b x) true body σ K := bV h1 h2
theorem zh {x : Bool} {l0 l1 : Nat} {body : (AV -> AV -> AS -> Prop) -> Prop} {σ : AS} {K : AV -> AV -> AS -> Prop} (h1 : x = true -> K (.tup []) (.tup []) σ) (h2 : x = false -> body K) : oG [l0, l1] (.b x) false body σ K := bV h2 h1
theorem ja {l0 l1 l2 : Nat} {body : (AV -> AV -> AV -> AS -> Prop) -> Prop} {σ : AS} {K : AV -> AV -> AV -> AS -> Prop} : oG [l0, l1, l2] (.b true) true body σ K = body K := jM
theorem lw {l0 l1 l2 : Nat} {body : (AV -> AV -> AV -> AS -> Prop) -> Prop} {σ : AS} {K : AV -> AV -> AV -> AS -> Prop} : oG [l0, l1, l2] (.b false) false body σ K = body K := jR
theorem fJ {l0 l1 l2 : Nat} {body : (AV -> AV -> AV -> AS -> Prop) -> Prop} {σ : AS} {K : AV -> AV -> AV -> AS -> Prop} : oG [l0, l1, l2] (.b true) false body σ K = K (.tup []) (.tup []) (.tup []) σ := jN
theorem mL {l0 l1 l2 : Nat} {body : (AV -> AV -> AV -> AS -> Prop) -> Prop} {σ : AS} {K : AV -> AV -> AV -> AS -> Prop} : oG [l0, l1, l2] (.b false) true body σ K = K (.tup []) (.tup []) (.tup []) σ := jQ
theorem yx {l0 l1 l2 : Nat} {body : (AV -> AV -> AV -> AS -> Prop) -> Prop} {σ : AS} {K : AV -> AV -> AV -> AS -> Prop} {w : Bool} : oG [l0, l1, l2] (.tup []) w body σ K = K (.tup []) (.tup []) (.tup []) σ := propext ⟨id, id⟩
theorem sP {p : Prop} {_ : Decidable p} {l0 l1 l2 : Nat} {body : (AV -> AV -> AV -> AS -> Prop) -> Prop} {σ : AS} {K : AV -> AV -> AV -> AS -> Prop} (h1 : p -> body K) (h2 : ¬ p -> K (.tup []) (.tup []) (.tup []) σ) : oG [l0, l1, l2] (.b (decide p)) true body σ K := bV (fun h => h1 (of_decide_eq_true h)) (fun h => h2 (of_decide_eq_false h))
theorem sQ {p : Prop} {_ : Decidable p} {l0 l1 l2 : Nat} {body : (AV -> AV -> AV -> AS -> Prop) -> Prop} {σ : AS} {K : AV -> AV -> AV -> AS -> Prop} (h1 : p -> K (.tup []) (.tup []) (.tup []) σ) (h2 : ¬ p -> body K) : oG [l0, l1, l2] (.b (decide p)) false body σ K := bV (fun h => h2 (of_decide_eq_false h)) (fun h => h1 (of_decide_eq_true h))
theorem sR {x : Bool} {l0 l1 l2 : Nat} {body : (AV -> AV -> AV -> AS -> Prop) -> Prop} {σ : AS} {K : AV -> AV -> AV -> AS -> Prop} (h1 : x = true -> body K) (h2 : x = false -> K (.tup []) (.tup []) (.tup []) σ) : oG [l0, l1, l2] (.b x) true body σ K := bV h1 h2
theorem sS {x : Bool} {l0 l1 l2 : Nat} {body : (AV -> AV -> AV -> AS -> Prop) -> Prop} {σ : AS} {K : AV -> AV -> AV -> AS -> Prop} (h1 : x = true -> K (.tup []) (.tup []) (.tup []) σ) (h2 : x = false -> body K) : oG [l0, l1, l2] (.b x) false body σ K := bV h2 h1
theorem sL {l0 l1 l2 l3 : Nat} {body : (AV -> AV -> AV -> AV -> AS -> Prop) -> Prop} {σ : AS} {K : AV -> AV -> AV -> AV -> AS -> Prop} : oG [l0, l1, l2, l3] (.b true) true body σ K = body K := jM
theorem sN {l0 l1 l2 l3 : Nat} {body : (AV -> AV -> AV -> AV -> AS -> Prop) -> Prop} {σ : AS} {K : AV -> AV -> AV -> AV -> AS -> Prop} : oG [l0, l1, l2, l3] (.b false) false body σ K = body K := jR
theorem vQ {l0 l1 l2 l3 : Nat} {body : (AV -> AV -> AV -> AV -> AS -> Prop) -> Prop} {σ : AS} {K : AV -> AV -> AV -> AV -> AS -> Prop} : oG [l0, l1, l2, l3] (.b true) false body σ K = K (.tup []) (.tup []) (.tup []) (.tup []) σ := jN
theorem sM {l0 l1 l2 l3 : Nat} {body : (AV -> AV -> AV -> AV -> AS -> Prop) -> Prop} {σ : AS} {K : AV -> AV -> AV -> AV -> AS -> Prop} : oG [l0, l1, l2, l3] (.b false) true body σ K = K (.tup []) (.tup []) (.tup []) (.tup []) σ := jQ
theorem vG {l0 l1 l2 l3 : Nat} {body : (AV -> AV -> AV -> AV -> AS -> Prop) -> Prop} {σ : AS} {K : AV -> AV -> AV -> AV -> AS -> Prop} {w : Bool} : oG [l0, l1, l2, l3] (.tup []) w body σ K = K (.tup []) (.tup []) (.tup []) (.tup []) σ := propext ⟨id, id⟩
theorem yY {p : Prop} {_ : Decidable p} {l0 l1 l2 l3 : Nat} {body : (AV -> AV -> AV -> AV -> AS -> Prop) -> Prop} {σ : AS} {K : AV -> AV -> AV -> AV -> AS -> Prop} (h1 : p -> body K) (h2 : ¬ p -> K (.tup []) (.tup []) (.tup []) (.tup []) σ) : oG [l0, l1, l2, l3] (.b (decide p)) true body σ K := bV (fun h => h1 (of_decide_eq_true h)) (fun h => h2 (of_decide_eq_false h))
theorem za {p : Prop} {_ : Decidable p} {l0 l1 l2 l3 : Nat} {body : (AV -> AV -> AV -> AV -> AS -> Prop) -> Prop} {σ : AS} {K : AV -> AV -> AV -> AV -> AS -> Prop} (h1 : p -> K (.tup []) (.tup []) (.tup []) (.tup []) σ) (h2 : ¬ p -> body K) : oG [l0, l1, l2, l3] (.b (decide p)) false body σ K := bV (fun h => h2 (of_decide_eq_false h)) (fun h => h1 (of_decide_eq_true h))
theorem zd {x : Bool} {l0 l1 l2 l3 : Nat} {body : (AV -> AV -> AV -> AV -> AS -> Prop) -> Prop} {σ : AS} {K : AV -> AV -> AV -> AV -> AS -> Prop} (h1 : x = true -> body K) (h2 : x = false -> K (.tup []) (.tup []) (.tup []) (.tup []) σ) : oG [l0, l1, l2, l3] (.b x) true body σ K := bV h1 h2
theorem zg {x : Bool} {l0 l1 l2 l3 : Nat} {body : (AV -> AV -> AV -> AV -> AS -> Prop) -> Prop} {σ : AS} {K : AV -> AV -> AV -> AV -> AS -> Prop} (h1 : x = true -> K (.tup []) (.tup []) (.tup []) (.tup []) σ) (h2 : x = false -> body K) : oG [l0, l1, l2, l3] (.b x) false body σ K := bV h2 h1
theorem gtt_5 {l0 l1 l2 l3 l4 : Nat} {body : (AV -> AV -> AV -> AV -> AV -> AS -> Prop) -> Prop} {σ : AS} {K : AV -> AV -> AV -> AV -> AV -> AS -> Prop} : oG [l0, l1, l2, l3, l4] (.b true) true body σ K = body K := jM
theorem gff_5 {l0 l1 l2 l3 l4 : Nat} {body : (AV -> AV -> AV -> AV -> AV -> AS -> Prop) -> Prop} {σ : AS} {K : AV -> AV -> AV -> AV -> AV -> AS -> Prop} : oG [l0, l1, l2, l3, l4] (.b false) false body σ K = body K := jR
theorem gtf_5 {l0 l1 l2 l3 l4 : Nat} {body : (AV -> AV -> AV -> AV -> AV -> AS -> Prop) -> Prop} {σ : AS} {K : AV -> AV -> AV -> AV -> AV -> AS -> Prop} : oG [l0, l1, l2, l3, l4] (.b true) false body σ K = K (.tup []) (.tup []) (.tup []) (.tup []) (.tup []) σ := jN
theorem gft_5 {l0 l1 l2 l3 l4 : Nat} {body : (AV -> AV -> AV -> AV -> AV -> AS -> Prop) -> Prop} {σ : AS} {K : AV -> AV -> AV -> AV -> AV -> AS -> Prop} : oG [l0, l1, l2, l3, l4] (.b false) true body σ K = K (.tup []) (.tup []) (.tup []) (.tup []) (.tup []) σ := jQ
theorem gvv_5 {l0 l1 l2 l3 l4 : Nat} {body : (AV -> AV -> AV -> AV -> AV -> AS -> Prop) -> Prop} {σ : AS} {K : AV -> AV -> AV -> AV -> AV -> AS -> Prop} {w : Bool} : oG [l0, l1, l2, l3, l4] (.tup []) w body σ K = K (.tup []) (.tup []) (.tup []) (.tup []) (.tup []) σ := propext ⟨id, id⟩
theorem gdt_5 {p : Prop} {_ : Decidable p} {l0 l1 l2 l3 l4 : Nat} {body : (AV -> AV -> AV -> AV -> AV -> AS -> Prop) -> Prop} {σ : AS} {K : AV -> AV -> AV -> AV -> AV -> AS -> Prop} (h1 : p -> body K) (h2 : ¬ p -> K (.tup []) (.tup []) (.tup []) (.tup []) (.tup []) σ) : oG [l0, l1, l2, l3, l4] (.b (decide p)) true body σ K := bV (fun h => h1 (of_decide_eq_true h)) (fun h => h2 (of_decide_eq_false h))
theorem gdf_5 {p : Prop} {_ : Decidable p} {l0 l1 l2 l3 l4 : Nat} {body : (AV -> AV -> AV -> AV -> AV -> AS -> Prop) -> Prop} {σ : AS} {K : AV -> AV -> AV -> AV -> AV -> AS -> Prop} (h1 : p -> K (.tup []) (.tup []) (.tup []) (.tup []) (.tup []) σ) (h2 : ¬ p -> body K) : oG [l0, l1, l2, l3, l4] (.b (decide p)) false body σ K := bV (fun h => h2 (of_decide_eq_false h)) (fun h => h1 (of_decide_eq_true h))
theorem gbt_5 {x : Bool} {l0 l1 l2 l3 l4 : Nat} {body : (AV -> AV -> AV -> AV -> AV -> AS -> Prop) -> Prop} {σ : AS} {K : AV -> AV -> AV -> AV -> AV -> AS -> Prop} (h1 : x = true -> body K) (h2 : x = false -> K (.tup []) (.tup []) (.tup []) (.tup []) (.tup []) σ) : oG [l0, l1, l2, l3, l4] (.b x) true body σ K := bV h1 h2
theorem gbf_5 {x : Bool} {l0 l1 l2 l3 l4 : Nat} {body : (AV -> AV -> AV -> AV -> AV -> AS -> Prop) -> Prop} {σ : AS} {K : AV -> AV -> AV -> AV -> AV -> AS -> Prop} (h1 : x = true -> K (.tup []) (.tup []) (.tup []) (.tup []) (.tup []) σ) (h2 : x = false -> body K) : oG [l0, l1, l2, l3, l4] (.b x) false body σ K := bV h2 h1
theorem gtt_6 {l0 l1 l2 l3 l4 l5 : Nat} {body : (AV -> AV -> AV -> AV -> AV -> AV -> AS -> Prop) -> Prop} {σ : AS} {K : AV -> AV -> AV -> AV -> AV -> AV -> AS -> Prop} : oG [l0, l1, l2, l3, l4, l5] (.b true) true body σ K = body K := jM
theorem gff_6 {l0 l1 l2 l3 l4 l5 : Nat} {body : (AV -> AV -> AV -> AV -> AV -> AV -> AS -> Prop) -> Prop} {σ : AS} {K : AV -> AV -> AV -> AV -> AV -> AV -> AS -> Prop} : oG [l0, l1, l2, l3, l4, l5] (.b false) false body σ K = body K := jR
theorem gtf_6 {l0 l1 l2 l3 l4 l5 : Nat} {body : (AV -> AV -> AV -> AV -> AV -> AV -> AS -> Prop) -> Prop} {σ : AS} {K : AV -> AV -> AV -> AV -> AV -> AV -> AS -> Prop} : oG [l0, l1, l2, l3, l4, l5] (.b true) false body σ K = K (.tup []) (.tup []) (.tup []) (.tup []) (.tup []) (.tup []) σ := jN
theorem gft_6 {l0 l1 l2 l3 l4 l5 : Nat} {body : (AV -> AV -> AV -> AV -> AV -> AV -> AS -> Prop) -> Prop} {σ : AS} {K : AV -> AV -> AV -> AV -> AV -> AV -> AS -> Prop} : oG [l0, l1, l2, l3, l4, l5] (.b false) true body σ K = K (.tup []) (.tup []) (.tup []) (.tup []) (.tup []) (.tup []) σ := jQ
theorem gvv_6 {l0 l1 l2 l3 l4 l5 : Nat} {body : (AV -> AV -> AV -> AV -> AV -> AV -> AS -> Prop) -> Prop} {σ : AS} {K : AV -> AV -> AV -> AV -> AV -> AV -> AS -> Prop} {w : Bool} : oG [l0, l1, l2, l3, l4, l5] (.tup []) w body σ K = K (.tup []) (.tup []) (.tup []) (.tup []) (.tup []) (.tup []) σ := propext ⟨id, id⟩
theorem vN {l0 l1 l2 l3 l4 l5 l6 : Nat} {body : (AV -> AV -> AV -> AV -> AV -> AV -> AV -> AS -> Prop) -> Prop} {σ : AS} {K : AV -> AV -> AV -> AV -> AV -> AV -> AV -> AS -> Prop} : oG [l0, l1, l2, l3, l4, l5, l6] (.b true) true body σ K = body K := jM
theorem vU {l0 l1 l2 l3 l4 l5 l6 : Nat} {body : (AV -> AV -> AV -> AV -> AV -> AV -> AV -> AS -> Prop) -> Prop} {σ : AS} {K : AV -> AV -> AV -> AV -> AV -> AV -> AV -> AS -> Prop} : oG [l0, l1, l2, l3, l4, l5, l6] (.b false) false body σ K = body K := jR
theorem vP {l0 l1 l2 l3 l4 l5 l6 : Nat} {body : (AV -> AV -> AV -> AV -> AV -> AV -> AV -> AS -> Prop) -> Prop} {σ : AS} {K : AV -> AV -> AV -> AV -> AV -> AV -> AV -> AS -> Prop} : oG [l0, l1, l2, l3, l4, l5, l6] (.b true) false body σ K = K (.tup []) (.tup []) (.tup []) (.tup []) (.tup []) (.tup []) (.tup []) σ := jN
theorem vT {l0 l1 l2 l3 l4 l5 l6 : Nat} {body : (AV -> AV -> AV -> AV -> AV -> AV -> AV -> AS -> Prop) -> Prop} {σ : AS} {K : AV -> AV -> AV -> AV -> AV -> AV -> AV -> AS -> Prop} : oG [l0, l1, l2, l3, l4, l5, l6] (.b false) true body σ K = K (.tup []) (.tup []) (.tup []) (.tup []) (.tup []) (.tup []) (.tup []) σ := jQ
theorem vF {l0 l1 l2 l3 l4 l5 l6 : Nat} {body : (AV -> AV -> AV -> AV -> AV -> AV -> AV -> AS -> Prop) -> Prop} {σ : AS} {K : AV -> AV -> AV -> AV -> AV -> AV -> AV -> AS -> Prop} {w : Bool} : oG [l0, l1, l2, l3, l4, l5, l6] (.tup []) w body σ K = K (.tup []) (.tup []) (.tup []) (.tup []) (.tup []) (.tup []) (.tup []) σ := propext ⟨id, id⟩
theorem gtt_8 {l0 l1 l2 l3 l4 l5 l6 l7 : Nat} {body : (AV -> AV -> AV -> AV -> AV -> AV -> AV -> AV -> AS -> Prop) -> Prop} {σ : AS} {K : AV -> AV -> AV -> AV -> AV -> AV -> AV -> AV -> AS -> Prop} : oG [l0, l1, l2, l3, l4, l5, l6, l7] (.b true) true body σ K = body K := jM
theorem gff_8 {l0 l1 l2 l3 l4 l5 l6 l7 : Nat} {body : (AV -> AV -> AV -> AV -> AV -> AV -> AV -> AV -> AS -> Prop) -> Prop} {σ : AS} {K : AV -> AV -> AV -> AV -> AV -> AV -> AV -> AV -> AS -> Prop} : oG [l0, l1, l2, l3, l4, l5, l6, l7] (.b false) false body σ K = body K := jR
theorem vO {l0 l1 l2 l3 l4 l5 l6 l7 : Nat} {body : (AV -> AV -> AV -> AV -> AV -> AV -> AV -> AV -> AS -> Prop) -> Prop} {σ : AS} {K : AV -> AV -> AV -> AV -> AV -> AV -> AV -> AV -> AS -> Prop} : oG [l0, l1, l2, l3, l4, l5, l6, l7] (.b true) false body σ K = K (.tup []) (.tup []) (.tup []) (.tup []) (.tup []) (.tup []) (.tup []) (.tup []) σ := jN
theorem gft_8 {l0 l1 l2 l3 l4 l5 l6 l7 : Nat} {body : (AV -> AV -> AV -> AV -> AV -> AV -> AV -> AV -> AS -> Prop) -> Prop} {σ : AS} {K : AV -> AV -> AV -> AV -> AV -> AV -> AV -> AV -> AS -> Prop} : oG [l0, l1, l2, l3, l4, l5, l6, l7] (.b false) true body σ K = K (.tup []) (.tup []) (.tup []) (.tup []) (.tup []) (.tup []) (.tup []) (.tup []) σ := jQ
theorem gvv_8 {l0 l1 l2 l3 l4 l5 l6 l7 : Nat} {body : (AV -> AV -> AV -> AV -> AV -> AV -> AV -> AV -> AS -> Prop) -> Prop} {σ : AS} {K : AV -> AV -> AV -> AV -> AV -> AV -> AV -> AV -> AS -> Prop} {w : Bool} : oG [l0, l1, l2, l3, l4, l5, l6, l7] (.tup []) w body σ K = K (.tup []) (.tup []) (.tup []) (.tup []) (.tup []) (.tup []) (.tup []) (.tup []) σ := propext ⟨id, id⟩
theorem gtt_9 {l0 l1 l2 l3 l4 l5 l6 l7 l8 : Nat} {body : (AV -> AV -> AV -> AV -> AV -> AV -> AV -> AV -> AV -> AS -> Prop) -> Prop} {σ : AS} {K : AV -> AV -> AV -> AV -> AV -> AV -> AV -> AV -> AV -> AS -> Prop} : oG [l0, l1, l2, l3, l4, l5, l6, l7, l8] (.b true) true body σ K = body K := jM
theorem yW {l0 l1 l2 l3 l4 l5 l6 l7 l8 : Nat} {body : (AV -> AV -> AV -> AV -> AV -> AV -> AV -> AV -> AV -> AS -> Prop) -> Prop} {σ : AS} {K : AV -> AV -> AV -> AV -> AV -> AV -> AV -> AV -> AV -> AS -> Prop} : oG [l0, l1, l2, l3, l4, l5, l6, l7, l8] (.b false) false body σ K = body K := jR
theorem yO {l0 l1 l2 l3 l4 l5 l6 l7 l8 : Nat} {body : (AV -> AV -> AV -> AV -> AV -> AV -> AV -> AV -> AV -> AS -> Prop) -> Prop} {σ : AS} {K : AV -> AV -> AV -> AV -> AV -> AV -> AV -> AV -> AV -> AS -> Prop} : oG [l0, l1, l2, l3, l4, l5, l6, l7, l8] (.b true) false body σ K = K (.tup []) (.tup []) (.tup []) (.tup []) (.tup []) (.tup []) (.tup []) (.tup []) (.tup []) σ := jN
theorem gft_9 {l0 l1 l2 l3 l4 l5 l6 l7 l8 : Nat} {body : (AV -> AV -> AV -> AV -> AV -> AV -> AV -> AV -> AV -> AS -> Prop) -> Prop} {σ : AS} {K : AV -> AV -> AV -> AV -> AV -> AV -> AV -> AV -> AV -> AS -> Prop} : oG [l0, l1, l2, l3, l4, l5, l6, l7, l8] (.b false) true body σ K = K (.tup []) (.tup []) (.tup []) (.tup []) (.tup []) (.tup []) (.tup []) (.tup []) (.tup []) σ := jQ
theorem gvv_9 {l0 l1 l2 l3 l4 l5 l6 l7 l8 : Nat} {body : (AV -> AV -> AV -> AV -> AV -> AV -> AV -> AV -> AV -> AS -> Prop) -> Prop} {σ : AS} {K : AV -> AV -> AV -> AV -> AV -> AV -> AV -> AV -> AV -> AS -> Prop} {w : Bool} : oG [l0, l1, l2, l3, l4, l5, l6, l7, l8] (.tup []) w body σ K = K (.tup []) (.tup []) (.tup []) (.tup []) (.tup []) (.tup []) (.tup []) (.tup []) (.tup []) σ := propext ⟨id, id⟩
theorem gtt_10 {l0 l1 l2 l3 l4 l5 l6 l7 l8 l9 : Nat} {body : (AV -> AV -> AV -> AV -> AV -> AV -> AV -> AV -> AV -> AV -> AS -> Prop) -> Prop} {σ : AS} {K : AV -> AV -> AV -> AV -> AV -> AV -> AV -> AV -> AV -> AV -> AS -> Prop} : oG [l0, l1, l2, l3, l4, l5, l6, l7, l8, l9] (.b true) true body σ K = body K := jM
theorem gff_10 {l0 l1 l2 l3 l4 l5 l6 l7 l8 l9 : Nat} {body : (AV -> AV -> AV -> AV -> AV -> AV -> AV -> AV -> AV -> AV -> AS -> Prop) -> Prop} {σ : AS} {K : AV -> AV -> AV -> AV -> AV -> AV -> AV -> AV -> AV -> AV -> AS -> Prop} : oG [l0, l1, l2, l3, l4, l5, l6, l7, l8, l9] (.b false) false body σ K = body K := jR
theorem gtf_10 {l0 l1 l2 l3 l4 l5 l6 l7 l8 l9 : Nat} {body : (AV -> AV -> AV -> AV -> AV -> AV -> AV -> AV -> AV -> AV -> AS -> Prop) -> Prop} {σ : AS} {K : AV -> AV -> AV -> AV -> AV -> AV -> AV -> AV -> AV -> AV -> AS -> Prop} : oG [l0, l1, l2, l3, l4, l5, l6, l7, l8, l9] (.b true) false body σ K = K (.tup []) (.tup []) (.tup []) (.tup []) (.tup []) (.tup []) (.tup []) (.tup []) (.tup []) (.tup []) σ := jN
theorem gft_10 {l0 l1 l2 l3 l4 l5 l6 l7 l8 l9 : Nat} {body : (AV -> AV -> AV -> AV -> AV -> AV -> AV -> AV -> AV -> AV -> AS -> Prop) -> Prop} {σ : AS} {K : AV -> AV -> AV -> AV -> AV -> AV -> AV -> AV -> AV -> AV -> AS -> Prop} : oG [l0, l1, l2, l3, l4, l5, l6, l7, l8, l9] (.b false) true body σ K = K (.tup []) (.tup []) (.tup []) (.tup []) (.tup []) (.tup []) (.tup []) (.tup []) (.tup []) (.tup []) σ := jQ
theorem gvv_10 {l0 l1 l2 l3 l4 l5 l6 l7 l8 l9 : Nat} {body : (AV -> AV -> AV -> AV -> AV -> AV -> AV -> AV -> AV -> AV -> AS -> Prop) -> Prop} {σ : AS} {K : AV -> AV -> AV -> AV -> AV -> AV -> AV -> AV -> AV -> AV -> AS -> Prop} {w : Bool} : oG [l0, l1, l2, l3, l4, l5, l6, l7, l8, l9] (.tup []) w body σ K = K (.tup []) (.tup []) (.tup []) (.tup []) (.tup []) (.tup []) (.tup []) (.tup []) (.tup []) (.tup []) σ := propext ⟨id, id⟩
theorem tY {l0 l1 l2 l3 l4 l5 l6 l7 l8 l9 l10 l11 : Nat} {body : (AV -> AV -> AV -> AV -> AV -> AV -> AV -> AV -> AV -> AV -> AV -> AV -> AS -> Prop) -> Prop} {σ : AS} {K : AV -> AV -> AV -> AV -> AV -> AV -> AV -> AV -> AV -> AV -> AV -> AV -> AS -> Prop} : oG [l0, l1, l2, l3, l4, l5, l6, l7, l8, l9, l10, l11] (.b true) true body σ K = body K := jM
theorem gff_12 {l0 l1 l2 l3 l4 l5 l6 l7 l8 l9 l10 l11 : Nat} {body : (AV -> AV -> AV -> AV -> AV -> AV -> AV -> AV -> AV -> AV -> AV -> AV -> AS -> Prop) -> Prop} {σ : AS} {K : AV -> AV -> AV -> AV -> AV -> AV -> AV -> AV -> AV -> AV -> AV -> AV -> AS -> Prop} : oG [l0, l1, l2, l3, l4, l5, l6, l7, l8, l9, l10, l11] (.b false) false body σ K = body K := jR
theorem gtf_12 {l0 l1 l2 l3 l4 l5 l6 l7 l8 l9 l10 l11 : Nat} {body : (AV -> AV -> AV -> AV -> AV -> AV -> AV -> AV -> AV -> AV -> AV -> AV -> AS -> Prop) -> Prop} {σ : AS} {K : AV -> AV -> AV -> AV -> AV -> AV -> AV -> AV -> AV -> AV -> AV -> AV -> AS -> Prop} : oG [l0, l1, l2, l3, l4, l5, l6, l7, l8, l9, l10, l11] (.b true) false body σ K = K (.tup []) (.tup []) (.tup []) (.tup []) (.tup []) (.tup []) (.tup []) (.tup []) (.tup []) (.tup []) (.tup []) (.tup []) σ := jN
theorem tZ {l0 l1 l2 l3 l4 l5 l6 l7 l8 l9 l10 l11 : Nat} {body : (AV -> AV -> AV -> AV -> AV -> AV -> AV -> AV -> AV -> AV -> AV -> AV -> AS -> Prop) -> Prop} {σ : AS} {K : AV -> AV -> AV -> AV -> AV -> AV -> AV -> AV -> AV -> AV -> AV -> AV -> AS -> Prop} : oG [l0, l1, l2, l3, l4, l5, l6, l7, l8, l9, l10, l11] (.b false) true body σ K = K (.tup []) (.tup []) (.tup []) (.tup []) (.tup []) (.tup []) (.tup []) (.tup []) (.tup []) (.tup []) (.tup []) (.tup []) σ := jQ
theorem gvv_12 {l0 l1 l2 l3 l4 l5 l6 l7 l8 l9 l10 l11 : Nat} {body : (AV -> AV -> AV -> AV -> AV -> AV -> AV -> AV -> AV -> AV -> AV -> AV -> AS -> Prop) -> Prop} {σ : AS} {K : AV -> AV -> AV -> AV -> AV -> AV -> AV -> AV -> AV -> AV -> AV -> AV -> AS -> Prop} {w : Bool} : oG [l0, l1, l2, l3, l4, l5, l6, l7, l8, l9, l10, l11] (.tup []) w body σ K = K (.tup []) (.tup []) (.tup []) (.tup []) (.tup []) (.tup []) (.tup []) (.tup []) (.tup []) (.tup []) (.tup []) (.tup []) σ := propext ⟨id, id⟩
theorem gtt_14 {l0 l1 l2 l3 l4 l5 l6 l7 l8 l9 l10 l11 l12 l13 : Nat} {body : (AV -> AV -> AV -> AV -> AV -> AV -> AV -> AV -> AV -> AV -> AV -> AV -> AV -> AV -> AS -> Prop) -> Prop} {σ : AS} {K : AV -> AV -> AV -> AV -> AV -> AV -> AV -> AV -> AV -> AV -> AV -> AV -> AV -> AV -> AS -> Prop} : oG [l0, l1, l2, l3, l4, l5, l6, l7, l8, l9, l10, l11, l12, l13] (.b true) true body σ K = body K := jM
theorem gff_14 {l0 l1 l2 l3 l4 l5 l6 l7 l8 l9 l10 l11 l12 l13 : Nat} {body : (AV -> AV -> AV -> AV -> AV -> AV -> AV -> AV -> AV -> AV -> AV -> AV -> AV -> AV -> AS -> Prop) -> Prop} {σ : AS} {K : AV -> AV -> AV -> AV -> AV -> AV -> AV -> AV -> AV -> AV -> AV -> AV -> AV -> AV -> AS -> Prop} : oG [l0, l1, l2, l3, l4, l5, l6, l7, l8, l9, l10, l11, l12, l13] (.b false) false body σ K = body K := jR
theorem gtf_14 {l0 l1 l2 l3 l4 l5 l6 l7 l8 l9 l10 l11 l12 l13 : Nat} {body : (AV -> AV -> AV -> AV -> AV -> AV -> AV -> AV -> AV -> AV -> AV -> AV -> AV -> AV -> AS -> Prop) -> Prop} {σ : AS} {K : AV -> AV -> AV -> AV -> AV -> AV -> AV -> AV -> AV -> AV -> AV -> AV -> AV -> AV -> AS -> Prop} : oG [l0, l1, l2, l3, l4, l5, l6, l7, l8, l9, l10, l11, l12, l13] (.b true) false body σ K = K (.tup []) (.tup []) (.tup []) (.tup []) (.tup []) (.tup []) (.tup []) (.tup []) (.tup []) (.tup []) (.tup []) (.tup []) (.tup []) (.tup []) σ := jN
theorem gft_14 {l0 l1 l2 l3 l4 l5 l6 l7 l8 l9 l10 l11 l12 l13 : Nat} {body : (AV -> AV -> AV -> AV -> AV -> AV -> AV -> AV -> AV -> AV -> AV -> AV -> AV -> AV -> AS -> Prop) -> Prop} {σ : AS} {K : AV -> AV -> AV -> AV -> AV -> AV -> AV -> AV -> AV -> AV -> AV -> AV -> AV -> AV -> AS -> Prop} : oG [l0, l1, l2, l3, l4, l5, l6, l7, l8, l9, l10, l11, l12, l13] (.b false) true body σ K = K (.tup []) (.tup []) (.tup []) (.tup []) (.tup []) (.tup []) (.tup []) (.tup []) (.tup []) (.tup []) (.tup []) (.tup []) (.tup []) (.tup []) σ := jQ
theorem gvv_14 {l0 l1 l2 l3 l4 l5 l6 l7 l8 l9 l10 l11 l12 l13 : Nat} {body : (AV -> AV -> AV -> AV -> AV -> AV -> AV -> AV -> AV -> AV -> AV -> AV -> AV -> AV -> AS -> Prop) -> Prop} {σ : AS} {K : AV -> AV -> AV -> AV -> AV -> AV -> AV -> AV -> AV -> AV -> AV -> AV -> AV -> AV -> AS -> Prop} {w : Bool} : oG [l0, l1, l2, l3, l4, l5, l6, l7, l8, l9, l10, l11, l12, l13] (.tup []) w body σ K = K (.tup []) (.tup []) (.tup []) (.tup []) (.tup []) (.tup []) (.tup []) (.tup []) (.tup []) (.tup []) (.tup []) (.tup []) (.tup []) (.tup []) σ := propext ⟨id, id⟩
theorem jO {L : List Nat} {x : Bool} {body : Cur L.length -> Prop} {σ : AS} {K : Cur L.length} : oG L (.b (!x)) true body σ K = oG L (.b x) false body σ K := by cases x <;> simp [oG]
theorem jP {L : List Nat} {x : Bool} {body : Cur L.length -> Prop} {σ : AS} {K : Cur L.length} : oG L (.b (!x)) false body σ K = oG L (.b x) true body σ K := by cases x <;> simp [oG]
theorem tR {x : Bool} {A B : Prop} : oI (.b (!x)) A B = oI (.b x) B A := by cases x <;> simp [oI]
theorem jq (n : Nat) : ((n : Int) - 1).toNat = n - 1 := by omega
theorem jr (n : Nat) : ((n : Int) + 1).toNat = n + 1 := by omega
theorem yS {l0 : Nat} {body : (AV -> AS -> Prop) -> Prop} {σ : AS} {K : AV -> AS -> Prop} {x : Bool} : oG [l0] (.b (!x)) true body σ K = oG [l0] (.b x) false body σ K := jO
theorem yV {l0 : Nat} {body : (AV -> AS -> Prop) -> Prop} {σ : AS} {K : AV -> AS -> Prop} {x : Bool} : oG [l0] (.b (!x)) false body σ K = oG [l0] (.b x) true body σ K := jP
theorem gnt_2 {l0 l1 : Nat} {body : (AV -> AV -> AS -> Prop) -> Prop} {σ : AS} {K : AV -> AV -> AS -> Prop} {x : Bool} : oG [l0, l1] (.b (!x)) true body σ K = oG [l0, l1] (.b x) false body σ K := jO
theorem gnf_2 {l0 l1 : Nat} {body : (AV -> AV -> AS -> Prop) -> Prop} {σ : AS} {K : AV -> AV -> AS -> Prop} {x : Bool} : oG [l0, l1] (.b (!x)) false body σ K = oG [l0, l1] (.b x) true body σ K := jP
theorem yR {l0 l1 l2 : Nat} {body : (AV -> AV -> AV -> AS -> Prop) -> Prop} {σ : AS} {K : AV -> AV -> AV -> AS -> Prop} {x : Bool} : oG [l0, l1, l2] (.b (!x)) true body σ K = oG [l0, l1, l2] (.b x) false body σ K := jO
theorem yU {l0 l1 l2 : Nat} {body : (AV -> AV -> AV -> AS -> Prop) -> Prop} {σ : AS} {K : AV -> AV -> AV -> AS -> Prop} {x : Bool} : oG [l0, l1, l2] (.b (!x)) false body σ K = oG [l0, l1, l2] (.b x) true body σ K := jP
theorem yQ {l0 l1 l2 l3 : Nat} {body : (AV -> AV -> AV -> AV -> AS -> Prop) -> Prop} {σ : AS} {K : AV -> AV -> AV -> AV -> AS -> Prop} {x : Bool} : oG [l0, l1, l2, l3] (.b (!x)) true body σ K = oG [l0, l1, l2, l3] (.b x) false body σ K := jO
theorem yT {l0 l1 l2 l3 : Nat} {body : (AV -> AV -> AV -> AV -> AS -> Prop) -> Prop} {σ : AS} {K : AV -> AV -> AV -> AV -> AS -> Prop} {x : Bool} : oG [l0, l1, l2, l3] (.b (!x)) false body σ K = oG [l0, l1, l2, l3] (.b x) true body σ K := jP
theorem gnt_5 {l0 l1 l2 l3 l4 : Nat} {body : (AV -> AV -> AV -> AV -> AV -> AS -> Prop) -> Prop} {σ : AS} {K : AV -> AV -> AV -> AV -> AV -> AS -> Prop} {x : Bool} : oG [l0, l1, l2, l3, l4] (.b (!x)) true body σ K = oG [l0, l1, l2, l3, l4] (.b x) false body σ K := jO
theorem gnf_5 {l0 l1 l2 l3 l4 : Nat} {body : (AV -> AV -> AV -> AV -> AV -> AS -> Prop) -> Prop} {σ : AS} {K : AV -> AV -> AV -> AV -> AV -> AS -> Prop} {x : Bool} : oG [l0, l1, l2, l3, l4] (.b (!x)) false body σ K = oG [l0, l1, l2, l3, l4] (.b x) true body σ K := jP
theorem gnt_6 {l0 l1 l2 l3 l4 l5 : Nat} {body : (AV -> AV -> AV -> AV -> AV -> AV -> AS -> Prop) -> Prop} {σ : AS} {K : AV -> AV -> AV -> AV -> AV -> AV -> AS -> Prop} {x : Bool} : oG [l0, l1, l2, l3, l4, l5] (.b (!x)) true body σ K = oG [l0, l1, l2, l3, l4, l5] (.b x) false body σ K := jO
theorem gnf_6 {l0 l1 l2 l3 l4 l5 : Nat} {body : (AV -> AV -> AV -> AV -> AV -> AV -> AS -> Prop) -> Prop} {σ : AS} {K : AV -> AV -> AV -> AV -> AV -> AV -> AS -> Prop} {x : Bool} : oG [l0, l1, l2, l3, l4, l5] (.b (!x)) false body σ K = oG [l0, l1, l2, l3, l4, l5] (.b x) true body σ K := jP
theorem vR {l0 l1 l2 l3 l4 l5 l6 : Nat} {body : (AV -> AV -> AV -> AV -> AV -> AV -> AV -> AS -> Prop) -> Prop} {σ : AS} {K : AV -> AV -> AV -> AV -> AV -> AV -> AV -> AS -> Prop} {x : Bool} : oG [l0, l1, l2, l3, l4, l5, l6] (.b (!x)) true body σ K = oG [l0, l1, l2, l3, l4, l5, l6] (.b x) false body σ K := jO
theorem vS {l0 l1 l2 l3 l4 l5 l6 : Nat} {body : (AV -> AV -> AV -> AV -> AV -> AV -> AV -> AS -> Prop) -> Prop} {σ : AS} {K : AV -> AV -> AV -> AV -> AV -> AV -> AV -> AS -> Prop} {x : Bool} : oG [l0, l1, l2, l3, l4, l5, l6] (.b (!x)) false body σ K = oG [l0, l1, l2, l3, l4, l5, l6] (.b x) true body σ K := jP
theorem gnt_8 {l0 l1 l2 l3 l4 l5 l6 l7 : Nat} {body : (AV -> AV -> AV -> AV -> AV -> AV -> AV -> AV -> AS -> Prop) -> Prop} {σ : AS} {K : AV -> AV -> AV -> AV -> AV -> AV -> AV -> AV -> AS -> Prop} {x : Bool} : oG [l0, l1, l2, l3, l4, l5, l6, l7] (.b (!x)) true body σ K = oG [l0, l1, l2, l3, l4, l5, l6, l7] (.b x) false body σ K := jO
theorem gnf_8 {l0 l1 l2 l3 l4 l5 l6 l7 : Nat} {body : (AV -> AV -> AV -> AV -> AV -> AV -> AV -> AV -> AS -> Prop) -> Prop} {σ : AS} {K : AV -> AV -> AV -> AV -> AV -> AV -> AV -> AV -> AS -> Prop} {x : Bool} : oG [l0, l1, l2, l3, l4, l5, l6, l7] (.b (!x)) false body σ K = oG [l0, l1, l2, l3, l4, l5, l6, l7] (.b x) true body σ K := jP
theorem gnt_9 {l0 l1 l2 l3 l4 l5 l6 l7 l8 : Nat} {body : (AV -> AV -> AV -> AV -> AV -> AV -> AV -> AV -> AV -> AS -> Prop) -> Prop} {σ : AS} {K : AV -> AV -> AV -> AV -> AV -> AV -> AV -> AV -> AV -> AS -> Prop} {x : Bool} : oG [l0, l1, l2, l3, l4, l5, l6, l7, l8] (.b (!x)) true body σ K = oG [l0, l1, l2, l3, l4, l5, l6, l7, l8] (.b x) false body σ K := jO
theorem gnf_9 {l0 l1 l2 l3 l4 l5 l6 l7 l8 : Nat} {body : (AV -> AV -> AV -> AV -> AV -> AV -> AV -> AV -> AV -> AS -> Prop) -> Prop} {σ : AS} {K : AV -> AV -> AV -> AV -> AV -> AV -> AV -> AV -> AV -> AS -> Prop} {x : Bool} : oG [l0, l1, l2, l3, l4, l5, l6, l7, l8] (.b (!x)) false body σ K = oG [l0, l1, l2, l3, l4, l5, l6, l7, l8] (.b x) true body σ K := jP
theorem gnt_10 {l0 l1 l2 l3 l4 l5 l6 l7 l8 l9 : Nat} {body : (AV -> AV -> AV -> AV -> AV -> AV -> AV -> AV -> AV -> AV -> AS -> Prop) -> Prop} {σ : AS} {K : AV -> AV -> AV -> AV -> AV -> AV -> AV -> AV -> AV -> AV -> AS -> Prop} {x : Bool} : oG [l0, l1, l2, l3, l4, l5, l6, l7, l8, l9] (.b (!x)) true body σ K = oG [l0, l1, l2, l3, l4, l5, l6, l7, l8, l9] (.b x) false body σ K := jO
theorem gnf_10 {l0 l1 l2 l3 l4 l5 l6 l7 l8 l9 : Nat} {body : (AV -> AV -> AV -> AV -> AV -> AV -> AV -> AV -> AV -> AV -> AS -> Prop) -> Prop} {σ : AS} {K : AV -> AV -> AV -> AV -> AV -> AV -> AV -> AV -> AV -> AV -> AS -> Prop} {x : Bool} : oG [l0, l1, l2, l3, l4, l5, l6, l7, l8, l9] (.b (!x)) false body σ K = oG [l0, l1, l2, l3, l4, l5, l6, l7, l8, l9] (.b x) true body σ K := jP
theorem gnt_12 {l0 l1 l2 l3 l4 l5 l6 l7 l8 l9 l10 l11 : Nat} {body : (AV -> AV -> AV -> AV -> AV -> AV -> AV -> AV -> AV -> AV -> AV -> AV -> AS -> Prop) -> Prop} {σ : AS} {K : AV -> AV -> AV -> AV -> AV -> AV -> AV -> AV -> AV -> AV -> AV -> AV -> AS -> Prop} {x : Bool} : oG [l0, l1, l2, l3, l4, l5, l6, l7, l8, l9, l10, l11] (.b (!x)) true body σ K = oG [l0, l1, l2, l3, l4, l5, l6, l7, l8, l9, l10, l11] (.b x) false body σ K := jO
theorem gnf_12 {l0 l1 l2 l3 l4 l5 l6 l7 l8 l9 l10 l11 : Nat} {body : (AV -> AV -> AV -> AV -> AV -> AV -> AV -> AV -> AV -> AV -> AV -> AV -> AS -> Prop) -> Prop} {σ : AS} {K : AV -> AV -> AV -> AV -> AV -> AV -> AV -> AV -> AV -> AV -> AV -> AV -> AS -> Prop} {x : Bool} : oG [l0, l1, l2, l3, l4, l5, l6, l7, l8, l9, l10, l11] (.b (!x)) false body σ K = oG [l0, l1, l2, l3, l4, l5, l6, l7, l8, l9, l10, l11] (.b x) true body σ K := jP
theorem gnt_14 {l0 l1 l2 l3 l4 l5 l6 l7 l8 l9 l10 l11 l12 l13 : Nat} {body : (AV -> AV -> AV -> AV -> AV -> AV -> AV -> AV -> AV -> AV -> AV -> AV -> AV -> AV -> AS -> Prop) -> Prop} {σ : AS} {K : AV -> AV -> AV -> AV -> AV -> AV -> AV -> AV -> AV -> AV -> AV -> AV -> AV -> AV -> AS -> Prop} {x : Bool} : oG [l0, l1, l2, l3, l4, l5, l6, l7, l8, l9, l10, l11, l12, l13] (.b (!x)) true body σ K = oG [l0, l1, l2, l3, l4, l5, l6, l7, l8, l9, l10, l11, l12, l13] (.b x) false body σ K := jO
theorem gnf_14 {l0 l1 l2 l3 l4 l5 l6 l7 l8 l9 l10 l11 l12 l13 : Nat} {body : (AV -> AV -> AV -> AV -> AV -> AV -> AV -> AV -> AV -> AV -> AV -> AV -> AV -> AV -> AS -> Prop) -> Prop} {σ : AS} {K : AV -> AV -> AV -> AV -> AV -> AV -> AV -> AV -> AV -> AV -> AV -> AV -> AV -> AV -> AS -> Prop} {x : Bool} : oG [l0, l1, l2, l3, l4, l5, l6, l7, l8, l9, l10, l11, l12, l13] (.b (!x)) false body σ K = oG [l0, l1, l2, l3, l4, l5, l6, l7, l8, l9, l10, l11, l12, l13] (.b x) true body σ K := jP
section
variable {T : Tab} {α : Type} {enc : α -> AV} {e z t by_ : Nat} {h : Tr AB}
theorem kb {α : Type} (a b : List α) : cO a.length (a ++ b) = some a := by
 induction a with
 | nil => rfl
 | cons x a ih => simp only [List.length_cons, List.cons_append, cO, ih]; rfl
theorem ei {α : Type} (a : List α) : cO a.length a = some a := by
 have := kb a []
 rwa [List.append_nil] at this
structure El (T : Tab) (enc : α -> AV) (t e z by_ : Nat) : Prop where
 ty : T.ty t = some (.slice e)
 sz : T.sz e = some (z + 1)
 bytes : T.by_ e = some by_
 zr : (T.zr e).isSome = true
 de : ∃ d, T.ty e = some d /\ eJ d = true
 len : ∀ x, (enc x).cells.length = z + 1
 leaf : ∀ x, aO (enc x).cells = true
 free : ∀ x, AV.idfree.idfrees (enc x).cells = true
 nrm : ∀ x, AV.norm.norms (enc x).cells = (enc x).cells
 agg : ∀ x, enc x = .agg (enc x).cells
def aw (enc : α -> AV) : List α -> List AV
 | [] => []
 | x :: l => (enc x).cells ++ aw enc l
theorem cP (a b : List α) : aw enc (a ++ b) = aw enc a ++ aw enc b := by
 induction a with
 | nil => rfl
 | cons x a ih => simp only [List.cons_append, aw, ih, List.append_assoc]
theorem fQ (x : α) : aw enc [x] = (enc x).cells := by simp [aw]
theorem bS (E : El T enc t e z by_) (l : List α) : (aw enc l).length = l.length * (z + 1) := by
 induction l with
 | nil => simp [aw]
 | cons x l ih => simp only [aw, List.length_append, E.len, ih, List.length_cons]; rw [Nat.add_mul]; omega
theorem eu (a b : List AV) : AV.idfree.idfrees (a ++ b) = (AV.idfree.idfrees a && AV.idfree.idfrees b) := by
 induction a with
 | nil => simp [AV.idfree.idfrees]
 | cons x a ih => simp only [List.cons_append, AV.idfree.idfrees, ih, Bool.and_assoc]
theorem nA (a b : List AV) : AV.norm.norms (a ++ b) = AV.norm.norms a ++ AV.norm.norms b := by
 induction a with
 | nil => simp [AV.norm.norms]
 | cons x a ih => simp only [List.cons_append, AV.norm.norms, ih]
theorem gb (E : El T enc t e z by_) (l : List α) : AV.idfree.idfrees (aw enc l) = true := by
 induction l with
 | nil => rfl
 | cons x l ih => simp only [aw, eu, E.free, ih, Bool.and_self]
theorem uM (E : El T enc t e z by_) (l : List α) : AV.norm.norms (aw enc l) = aw enc l := by
 induction l with
 | nil => rfl
 | cons x l ih => simp only [aw, nA, E.nrm, ih]
theorem db (k : Nat) : ∀ cs : List AV, AV.idfree.idfrees cs = true -> di (fz T h (k + 1)) cs = some (AV.norm.norms cs)
 | [], _ => rfl
 | c :: cs, hc => by
  simp only [AV.idfree.idfrees, Bool.and_eq_true] at hc
  have h1 : fz T h (k + 1) c = some c.norm := by unfold fz; simp only [hc.1]
  simp only [di, h1, db k cs hc.2, AV.norm.norms]
theorem xE (E : El T enc t e z by_) (l : List α) : jE true (z + 1) l.length (aw enc l) = some (l.map enc) := by
 induction l with
 | nil => rfl
 | cons x l ih =>
  have h1 : cO (z + 1) ((enc x).cells ++ aw enc l) = some (enc x).cells := by
   have := kb (enc x).cells (aw enc l)
   rwa [E.len] at this
  have h2 : ((enc x).cells ++ aw enc l).drop (z + 1) = aw enc l := by
   have := List.drop_left' (l₁ := (enc x).cells) (l₂ := aw enc l) (E.len x)
   exact this
  simp only [List.length_cons, aw, jE, h1, h2, ih, Option.map_some, List.map_cons, <- E.agg x]
def vOf : Option Nat -> Nat -> AV
 | none, _ => .nilz true
 | some id, n => .sl id 0 n none
def gg (h : Tr AB) : Option Nat -> Tr AB
 | none => h
 | some id => h.put id none
def Own (enc : α -> AV) (e : Nat) (h : Tr AB) (n : Nat) (l : List α) : Option Nat -> Prop
 | none => l = []
 | some id => l ≠ [] /\ id < n /\ h.get id = some (.cells (aw enc l) e true)
theorem Own.put {n id : Nat} {b : Option AB} {l : List α} {o : Option Nat} (ho : Own enc e h n l o) (hn : ∀ j, o = some j -> j ≠ id) {n' : Nat} (hle : n <= n') : Own enc e (h.put id b) n' l o := by
 cases o with
 | none => exact ho
 | some j => exact ⟨ho.1, Nat.lt_of_lt_of_le ho.2.1 hle, by rw [Tr.get_put, if_neg (hn j rfl)]; exact ho.2.2⟩
theorem Own.kill {n : Nat} {l : List α} {o o' : Option Nat} (ho : Own enc e h n l o) (hn : ∀ j, o = some j -> o' ≠ some j) : Own enc e (gg h o') n l o := by
 cases o' with
 | none => exact ho
 | some i => exact ho.put (fun j hj e => hn j hj (by rw [e])) (Nat.le_refl _)
theorem vx {o : Option Nat} {j : Nat} (hj : o ≠ some j) : (gg h o).get j = h.get j := by
 cases o with
 | none => rfl
 | some i => exact (by rw [gg, Tr.get_put, if_neg (fun e => hj (by rw [e]))])
theorem app_one (E : El T enc t e z by_) {n lid : Nat} {x : α} {l : List α} {o : Option Nat} {e' : Nat} {g : Bool} (ho : Own enc e h n l o) (hlit : h.get lid = some (.cells (enc x).cells e' g)) (hs : cq (l.length + 1) by_ = true) :
  aG T ⟨h, n⟩ t t (vOf o l.length) (.sl lid 0 1 (some 1)) = some (vOf (some n) (l.length + 1), ⟨(gg h o).put n (some (.cells (aw enc (l ++ [x])) e true)), n + 1⟩) := by
 obtain ⟨zv, hzv⟩ := Option.isSome_iff_exists.1 E.zr
 have hnew : bM h (z + 1) 1 (.sl lid 0 1 (some 1)) = some (enc x).cells := by
  unfold bM bg
  simp only [hlit, List.drop_zero, Nat.one_mul]
  have := ei (enc x).cells
  rwa [E.len] at this
 unfold aG
 simp only [E.ty, E.sz, E.bytes, hzv, iW, hnew]
 cases o with
 | none =>
  have hl : l = [] := ho
  subst hl
  simp only [vOf, List.length_nil, Nat.zero_add] at hs |-
  simp only [hs, iD, gg, List.nil_append, fQ]
 | some id =>
  obtain ⟨h1, h2, h3⟩ := ho
  have hr := bS E l
  simp only [vOf, h3, E.leaf, hs, gg]
  have b1 : Nat.beq e e = true := Nat.beq_refl e
  have b2 : Nat.beq (l.length * (z + 1)) (aw enc l).length = true := by rw [hr]; exact Nat.beq_refl _
  simp only [b1, b2, cP, fQ]
theorem oZ_own (E : El T enc t e z by_) {σ : AS} {n : Nat} {l : List α} {o : Option Nat} {K : AV -> Prop} (ho : Own enc e σ.h n l o) (hK : K (.lst (l.map enc))) : oZ T σ (vOf o l.length) K := by
 cases o with
 | none =>
  have hl : l = [] := ho
  subst hl
  exact Eq.mpr (dP rfl) hK
 | some id =>
  obtain ⟨h1, h2, h3⟩ := ho
  obtain ⟨d, hd, ha⟩ := E.de
  refine ⟨3, _, ?_, hK⟩
  unfold fz
  have hr := ei (aw enc l)
  rw [bS E] at hr
  simp only [vOf, AV.idfree, h3, E.sz, hd, List.drop_zero, hr, db _ _ (gb E l), uM E, ha, xE E, Option.map_some]
theorem len_own (E : El T enc t e z by_) {n : Nat} {l : List α} {o : Option Nat} (ho : Own enc e h n l o) : aj T h .len [t] [vOf o l.length] = some (.i .i64 (l.length : Nat)) := by
 cases o with
 | none =>
  have hl : l = [] := ho
  subst hl
  exact zj E.ty
 | some id => exact gu E.ty id 0 l.length none
end
section
variable {T : Tab} {f : Nat} {args : List AV} {σ σ' : AS} {r : AV}
theorem R.ext (h1 : T.prim f = none) (h2 : fU T f args = some r) : R T f args r := ⟨1, fun σ => by unfold aE; simp only [h1, h2]⟩
def RA (T : Tab) (f : Nat) (args : List AV) (len : Nat) (b : AB) : Prop := ∃ k, ∀ σ, aE T k f args σ = some (.sl σ.n 0 len none, ⟨σ.h.put σ.n (some b), σ.n + 1⟩)
theorem RA.eqC {len : Nat} {b : AB} (h : RA T f args len b) (d : Nat) (σ : AS) (K : AV -> AS -> Prop) : oC T d f args σ K = K (.sl σ.n 0 len none) ⟨σ.h.put σ.n (some b), σ.n + 1⟩ := by
 obtain ⟨k, h⟩ := h
 exact Runs.eq ⟨k, h σ⟩ d K
theorem RA.eqA {len : Nat} {b : AB} (h : RA T f args len b) (d n : Nat) (K : AV -> Option AB -> Prop) : oA T d f args n K = K (.sl n 0 len none) (some b) := by
 obtain ⟨k, h⟩ := h
 have h := h ⟨.nil, n⟩
 refine propext ⟨fun ⟨m, r2, σ2, h1, h2⟩ => ?_, fun q => ⟨k, _, _, h, by rw [Tr.get_put, if_pos rfl]; exact q⟩⟩
 have e1 := aT k (max k m) (Nat.le_max_left _ _) _ _ _ _ h
 have e2 := aT m (max k m) (Nat.le_max_right _ _) _ _ _ _ h1
 rw [e1] at e2; injection e2 with e2; simp only [Prod.mk.injEq] at e2; obtain ⟨rfl, rfl⟩ := e2
 rw [Tr.get_put, if_pos rfl] at h2; exact h2
theorem R.eqA (h : R T f args r) (d n : Nat) (K : AV -> Option AB -> Prop) : oA T d f args n K = K r none := by
 obtain ⟨k, h⟩ := h
 have h := h ⟨.nil, n⟩
 refine propext ⟨fun ⟨m, r2, σ2, h1, h2⟩ => ?_, fun q => ⟨k, _, _, h, by rw [Tr.get_nil]; exact q⟩⟩
 have e1 := aT k (max k m) (Nat.le_max_left _ _) _ _ _ _ h
 have e2 := aT m (max k m) (Nat.le_max_right _ _) _ _ _ _ h1
 rw [e1] at e2; injection e2 with e2; simp only [Prod.mk.injEq] at e2; obtain ⟨rfl, rfl⟩ := e2
 rw [Tr.get_nil] at h2; exact h2
theorem RA.mk {fn : Func} {c : Code} (h1 : T.prim f = none) (h2 : fU T f args = none) (h3 : T.fn f = some fn) (h4 : fn.body = some c) (h5 : T.opened f = true) (hm : T.mode f = 1) (h6 : AV.idfree.idfrees args = true) (h7 : AV.norm.norms args = args) {an : AN} {len e : Nat} {cs : List AV} {g : Bool}
  (hcs : AV.idfree.idfrees cs = true) (hv : bQ (av T) T fn c an args ⟨.nil, 0⟩ (fun r1 σ1 => ∃ id, r1 = .sl id 0 len none /\ σ1.h.get id = some (.cells cs e g))) : RA T f args len (.cells cs e g) := by
 obtain ⟨k, r1, σ1, e1, id, rfl, hg⟩ := dx hv
 refine ⟨k + 1, fun σ => ?_⟩
 unfold aE
 simp only [h1, h2, h3, h4, h5, hm, h6, h7, e1, kN, hg, hcs]
end
def pV (P : Prims) (T : Tab) (t : Nat) (a0 : AV) (Q : AV -> AS -> Prop) : Prop :=
 P.oV 4 (af T .eql t true a0 (.nilz true)) fun t4 =>
 P.oI t4 (Q (.nilz true) ⟨Tr.nil, 0⟩)
 (P.oE (wi T t 0 []) fun b f =>
  P.oN 5 b f ⟨Tr.nil, 0⟩ fun t5 sx1 =>
  P.oM 7 (aG T sx1 t t t5 a0) fun t7 sx2 =>
  Q t7 sx2)
def gz : AN := (.seq none .leaf (.seq none (.seq none .leaf (.two (.seq none .leaf .leaf) .leaf)) (.seq none .leaf .leaf)))
structure RowT (T : Tab) (t e z by_ : Nat) (ag : Bool) : Prop where
 ty : T.ty t = some (.slice e)
 sz : T.sz e = some (z + 1)
 bytes : T.by_ e = some by_
 zr : (T.zr e).isSome = true
 ag : (T.ty e).map eJ = some ag
structure RowE (z : Nat) (ag : Bool) (es : List AV) : Prop where
 len : (aM es).length = es.length * (z + 1)
 leaf : aO (aM es) = true
 free : AV.idfree.idfrees (aM es) = true
 nrm : AV.norm.norms (aM es) = aM es
 ch : jE ag (z + 1) es.length (aM es) = some es
section
variable {T : Tab} {t e z by_ : Nat} {ag : Bool} {es : List AV}
theorem RowE.nil : RowE z ag [] := ⟨by simp [aM], rfl, rfl, rfl, rfl⟩
theorem kM (a b : List AV) : aO (a ++ b) = (aO a && aO b) := by
 induction a with
 | nil => simp [aO]
 | cons x a ih => simp only [List.cons_append, aO]; cases x.leaf <;> simp [ih]
theorem RowE.consA {cs : List AV} (h : RowE z true es) (h1 : cs.length = z + 1) (h2 : aO cs = true) (h3 : AV.idfree.idfrees cs = true) (h4 : AV.norm.norms cs = cs) : RowE z true (.agg cs :: es) where
 len := by simp only [aM, AV.cells, List.length_append, h1, h.len, List.length_cons, Nat.add_mul]; omega
 leaf := by simp only [aM, AV.cells, kM, h2, h.leaf, Bool.and_self]
 free := by simp only [aM, AV.cells, eu, h3, h.free, Bool.and_self]
 nrm := by simp only [aM, AV.cells, nA, h4, h.nrm]
 ch := by
  have q1 : cO (z + 1) (cs ++ aM es) = some cs := by rw [<- h1]; exact kb _ _
  have q2 : (cs ++ aM es).drop (z + 1) = aM es := List.drop_left' h1
  simp only [List.length_cons, aM, AV.cells, jE, q1, q2, h.ch, Option.map_some]
theorem RowE.mapE {α : Type} {enc : α -> AV} (E : El T enc t e z by_) (l : List α) : RowE z true (l.map enc) := by
 induction l with
 | nil => exact RowE.nil
 | cons x l ih => rw [List.map_cons, E.agg x]; exact ih.consA (E.len x) (E.leaf x) (E.free x) (E.nrm x)
theorem El.rowT {α : Type} {enc : α -> AV} (E : El T enc t e z by_) : RowT T t e z by_ true where
 ty := E.ty
 sz := E.sz
 bytes := E.bytes
 zr := E.zr
 ag := by obtain ⟨d, h1, h2⟩ := E.de; rw [h1, Option.map_some, h2]
theorem cg {α : Type} {enc : α -> AV} (l : List α) : aw enc l = aM (l.map enc) := by
 induction l with
 | nil => rfl
 | cons x l ih => simp only [aw, List.map_cons, aM, ih]
theorem xa (E : RowT T t e z by_ ag) (h : RowE z ag es) {σ : AS} {id : Nat} {cap : Option Nat} {g : Bool} (hg : σ.h.get id = some (.cells (aM es) e g)) : fz T σ.h 3 (.sl id 0 es.length cap) = some (.lst es) := by
 obtain ⟨d, hd, ha⟩ : ∃ d, T.ty e = some d /\ eJ d = ag := by
  have := E.ag
  cases hq : T.ty e with
  | none => rw [hq] at this; cases this
  | some d => rw [hq] at this; exact ⟨d, rfl, by simpa using this⟩
 unfold fz
 have hr := ei (aM es)
 rw [h.len] at hr
 simp only [AV.idfree, hg, E.sz, hd, List.drop_zero, hr, db _ _ h.free, h.nrm, ha, h.ch, Option.map_some]
theorem tf (E : RowT T t e z by_ ag) (h : RowE z ag es) (hne : es ≠ []) (hs : cq es.length by_ = true) (K : AV -> AS -> Prop) :
  pV (av T) T t (.lst es) K = K (.sl 1 0 es.length none) ⟨(Tr.nil.put 0 (some (.cells [] e false))).put 1 (some (.cells (aM es) e true)), 2⟩ := by
 obtain ⟨zv, hzv⟩ := Option.isSome_iff_exists.1 E.zr
 obtain ⟨a, l, rfl⟩ : ∃ a l, es = a :: l := by
  cases es with
  | nil => exact absurd rfl hne
  | cons a l => exact ⟨a, l, rfl⟩
 have h1 : af T .eql t true (.lst (a :: l)) (.nilz true) = some (.b false) := by
  simp only [af, E.ty, kH, nM, Option.map_some, Bool.not_true]
 have h2 : wi T t 0 [] = some (.cells [] e false, fun id => .sl id 0 0 (some 0)) := by
  simp only [wi, E.ty, E.sz, hzv, Nat.zero_mul, gV, dm]
 have hr := ei (aM (a :: l))
 rw [h.len] at hr
 have hnew : bM (Tr.nil.put 0 (some (.cells [] e false))) (z + 1) (a :: l).length (.lst (a :: l)) = some (aM (a :: l)) := by
  unfold bM bg; exact hr
 have h3 : aG T ⟨Tr.nil.put 0 (some (.cells [] e false)), 1⟩ t t (.sl 0 0 0 (some 0)) (.lst (a :: l)) = some (.sl 1 0 (a :: l).length none, ⟨(Tr.nil.put 0 (some (.cells [] e false))).put 1 (some (.cells (aM (a :: l)) e true)), 2⟩) := by
  unfold aG
  have hb : Nat.ble (a :: l).length 0 = false := rfl
  have hsl : bg (Tr.nil.put 0 (some (.cells [] e false))) (0 * (z + 1)) (.sl 0 0 0 (some 0)) = some [] := by
   unfold bg; simp only [Tr.get_put, if_true, Nat.zero_mul]; rfl
  simp only [E.ty, E.sz, E.bytes, hzv, iW, hnew, Nat.zero_add, hb, hs, hsl, iD, List.nil_append]
 unfold pV
 dsimp only [av]
 rw [h1, aa, aA, h2, eV, bu]
 dsimp only
 rw [h3, aP]
theorem clone_R {f : Nat} {fn : Func} (E : RowT T t e z by_ ag) (h : RowE z ag es) (hne : es ≠ []) (hs : cq es.length by_ = true) (h1 : T.prim f = none) (h2 : fU T f [.lst es] = none) (h3 : T.fn f = some fn) (h4 : fn.body = some (bO fn)) (h5 : T.opened f = false)
  (hw : ∀ (P : Prims) (a : AV) (Q : AV -> AS -> Prop), pV P T t a Q = bQ P T fn (bO fn) gz [a] ⟨.nil, 0⟩ Q) : R T f [.lst es] (.lst es) := by
 refine R.mk (an := gz) h1 h2 h3 h4 h5 rfl rfl ?_
 rw [<- hw, tf E h hne hs]
 exact ⟨3, _, xa E h (g := true) (by simp [Tr.get_put]), rfl⟩
theorem clone_A {f : Nat} {fn : Func} (E : RowT T t e z by_ ag) (h : RowE z ag es) (hne : es ≠ []) (hs : cq es.length by_ = true) (h1 : T.prim f = none) (h2 : fU T f [.lst es] = none) (h3 : T.fn f = some fn) (h4 : fn.body = some (bO fn)) (h5 : T.opened f = true) (hm : T.mode f = 1)
  (hw : ∀ (P : Prims) (a : AV) (Q : AV -> AS -> Prop), pV P T t a Q = bQ P T fn (bO fn) gz [a] ⟨.nil, 0⟩ Q) : RA T f [.lst es] es.length (.cells (aM es) e true) := by
 refine RA.mk (an := gz) h1 h2 h3 h4 h5 hm rfl rfl h.free ?_
 rw [<- hw, tf E h hne hs]
 exact ⟨1, rfl, by simp [Tr.get_put]⟩
theorem iv {T : Tab} {h : Tr AB} {t : Nat} {x v : AV} {lo hi mx : Option AV} (e : cX T t x lo hi mx = some v) : aL T h t x lo hi mx = some v := by
 unfold aL; rw [e]
def clA (es : List AV) : AV := match es with
 | [] => .nilz false
 | _ :: _ => .lst es
end
def dJ {α : Type} (enc encD : α -> AV) (l : List α) (j : Nat) : List AV := aw encD (l.take j) ++ aw enc (l.drop j)
section
variable {α : Type} {enc encD : α -> AV} {z : Nat}
theorem dW {enc : α -> AV} (h : ∀ x, (enc x).cells.length = z + 1) (l : List α) : (aw enc l).length = l.length * (z + 1) := by
 induction l with
 | nil => simp [aw]
 | cons x l ih => simp only [aw, List.length_append, h, ih, List.length_cons]; rw [Nat.add_mul]; omega
theorem qr {β : Type} (a b c : List β) (k : Nat) : bL (a ++ b) (a.length + k) c = (bL b k c).map (a ++ ·) := by
 induction a with
 | nil => simp only [List.nil_append, List.length_nil, Nat.zero_add]; cases bL b k c <;> rfl
 | cons x a ih =>
  have : (x :: a).length + k = (a.length + k) + 1 := by simp only [List.length_cons]; omega
  rw [this, List.cons_append, bL, ih]
  cases bL b k c <;> rfl
theorem iI {β : Type} : ∀ (a b c d : List β) (k : Nat), bL a k c = some d -> bL (a ++ b) k c = some (d ++ b)
 | [], b, [], d, 0, h => by simp only [bL] at h; injection h with h; subst h; cases b <;> rfl
 | [], b, _ :: _, d, 0, h => by cases h
 | [], b, c, d, k + 1, h => by cases c <;> cases h
 | x :: a, b, [], d, 0, h => by simp only [bL] at h; injection h with h; subst h; rfl
 | x :: a, b, y :: c, d, 0, h => by
  simp only [bL] at h
  cases hq : bL a 0 c with
  | none => rw [hq] at h; cases h
  | some q =>
   rw [hq] at h; injection h with h; subst h
   rw [List.cons_append, bL, iI a b c q 0 hq]; rfl
 | x :: a, b, c, d, k + 1, h => by
  have e1 : bL (x :: a) (k + 1) c = (bL a k c).map (x :: ·) := by cases c <;> rfl
  have e2 : bL (x :: (a ++ b)) (k + 1) c = (bL (a ++ b) k c).map (x :: ·) := by cases c <;> rfl
  rw [e1] at h
  cases hq : bL a k c with
  | none => rw [hq] at h; cases h
  | some q =>
   rw [hq] at h; injection h with h; subst h
   rw [List.cons_append, e2, iI a b c q k hq]; rfl
theorem mt {l : List α} {j : Nat} (h : l.length <= j) : dJ enc encD l j = aw encD l := by
 unfold dJ
 rw [List.take_of_length_le h, List.drop_of_length_le h]; simp [aw]
theorem dc [Inhabited α] {l : List α} {j : Nat} (h : j < l.length) : l.drop j = l.getD j default :: l.drop (j + 1) := by
 rw [List.drop_eq_getElem_cons h, List.getD_eq_getElem?_getD, List.getElem?_eq_getElem h]; rfl
theorem mu [Inhabited α] (hD : ∀ x, (encD x).cells.length = z + 1) {l : List α} {j : Nat} (h : j < l.length) : (dJ enc encD l j).drop (j * (z + 1)) = (enc (l.getD j default)).cells ++ aw enc (l.drop (j + 1)) := by
 unfold dJ
 rw [List.drop_left' (by rw [dW hD, List.length_take]; congr 1; omega), dc h]; rfl
theorem yj (hD : ∀ x, (encD x).cells.length = z + 1) (hE : ∀ x, (enc x).cells.length = z + 1) {l : List α} {j : Nat} : (dJ enc encD l j).length = l.length * (z + 1) := by
 unfold dJ
 rw [List.length_append, dW hD, dW hE, <- Nat.add_mul]; congr 1; rw [List.length_take, List.length_drop]; omega
theorem mix_set [Inhabited α] (hD : ∀ x, (encD x).cells.length = z + 1) {l : List α} {j k : Nat} {c : List AV} (h : j < l.length) (hs : bL (enc (l.getD j default)).cells k c = some (encD (l.getD j default)).cells) :
  bL (dJ enc encD l j) (j * (z + 1) + k) c = some (dJ enc encD l (j + 1)) := by
 have e1 : (aw encD (l.take j)).length = j * (z + 1) := by rw [dW hD, List.length_take]; congr 1; omega
 have e2 : l.take (j + 1) = l.take j ++ [l.getD j default] := by
  rw [List.take_add_one, List.getD_eq_getElem?_getD, List.getElem?_eq_getElem h]; rfl
 unfold dJ
 rw [<- e1, qr, dc h, e2, cP, fQ]
 rw [aw, iI _ _ _ _ _ hs, Option.map_some, List.append_assoc]
theorem tG {enc encD : α -> AV} (h : ∀ x, AV.norm.norms (encD x).cells = (enc x).cells) (l : List α) : AV.norm.norms (aw encD l) = aw enc l := by
 induction l with
 | nil => rfl
 | cons x l ih => simp only [aw, nA, h, ih]
theorem tH {encD : α -> AV} (h : ∀ x, AV.idfree.idfrees (encD x).cells = true) (l : List α) : AV.idfree.idfrees (aw encD l) = true := by
 induction l with
 | nil => rfl
 | cons x l ih => simp only [aw, eu, h, ih, Bool.and_self]
end
def bC {α : Type} (l : List α) (id : Nat) : AV := match l with
 | [] => .nilz false
 | _ :: _ => .sl id 0 l.length none
def ju {α : Type} (enc : α -> AV) (e : Nat) (l : List α) : Option AB := match l with
 | [] => none
 | _ :: _ => some (.cells (aw enc l) e true)
def RowAt {α : Type} (enc encD : α -> AV) (e : Nat) (h : Tr AB) (l : List α) (id j : Nat) : Prop := l ≠ [] -> h.get id = some (.cells (dJ enc encD l j) e true)
section
variable {α : Type} {enc encD : α -> AV} {T : Tab} {t e z by_ : Nat} {h h' : Tr AB} {l : List α} {id j : Nat}
theorem ca : (bC l id).leaf = true := by cases l <;> rfl
theorem fR : (bC l id).cells = [bC l id] := by cases l <;> rfl
theorem iK (ht : T.ty t = some (.slice e)) : aj T h .len [t] [bC l id] = some (.i .i64 (l.length : Nat)) := by
 cases l with
 | nil => simp [aj, bC, ht]
 | cons a l => exact gu ht id 0 _ none
theorem fw (ht : T.ty t = some (.slice e)) (hz : T.sz e = some z) (hj : j < l.length) {k : IntKind} : ai T t (bC l id) (.i k (j : Nat)) = some (.ptr id (j * z)) := by
 cases l with
 | nil => simp at hj
 | cons a l =>
  simp only [ai, bC, ht, hz, Int.toNat_natCast, Nat.zero_add]
  rw [if_pos (by omega)]
theorem RowAt.new (hb : h.get id = ju enc e l) : RowAt enc encD e h l id 0 := fun hne => by
 cases l with
 | nil => exact absurd rfl hne
 | cons a l => rw [hb]; rfl
theorem RowAt.same (r : RowAt enc encD e h l id j) (hs : h'.get id = h.get id) : RowAt enc encD e h' l id j := fun hne => by rw [hs]; exact r hne
theorem RowAt.get (r : RowAt enc encD e h l id j) (hj : j < l.length) : h.get id = some (.cells (dJ enc encD l j) e true) := r (fun e => by rw [e] at hj; simp at hj)
theorem RowAt.load [Inhabited α] (E : El T enc t e z by_) (hD : ∀ x, (encD x).cells.length = z + 1) (r : RowAt enc encD e h l id j) (hj : j < l.length) : ac T h e (.ptr id (j * (z + 1))) = some (enc (l.getD j default)) := by
 obtain ⟨d, hd, ha⟩ := E.de
 rw [dk (r.get hj) (by rw [yj hD E.len]; exact Nat.mul_le_mul_right _ (Nat.le_of_lt hj)), mu hD hj, pb hd ha E.sz]
 have := kb (enc (l.getD j default)).cells (aw enc (l.drop (j + 1)))
 rw [E.len] at this
 rw [this, Option.map_some, <- E.agg]
theorem fu {tt n off : Nat} {cs cs' : List AV} {g : Bool} {v : AV} (hz : T.sz tt = some n) (hg : h.get id = some (.cells cs e g)) (hl : v.cells.length = n) (ha : aO v.cells = true) (hs : bL cs off v.cells = some cs') : ba T h tt (.ptr id off) v = some (id, .cells cs' e g) := by
 have hb : Nat.beq v.cells.length n = true := by rw [hl]; exact Nat.beq_refl n
 simp only [ba, hz, hb, ha, hg, hs]
theorem RowAt.store [Inhabited α] (hD : ∀ x, (encD x).cells.length = z + 1) {tt n k : Nat} {v : AV} (r : RowAt enc encD e h l id j) (hj : j < l.length) (hz : T.sz tt = some n) (hl : v.cells.length = n) (ha : aO v.cells = true)
  (hs : bL (enc (l.getD j default)).cells k v.cells = some (encD (l.getD j default)).cells) : ba T h tt (.ptr id (j * (z + 1) + k)) v = some (id, .cells (dJ enc encD l (j + 1)) e true) :=
 fu hz (r.get hj) hl ha (mix_set hD hj hs)
theorem fz_row {ag : Bool} {es cs : List AV} (E : RowT T t e z by_ ag) (h1 : RowE z ag es) {cap : Option Nat} {g : Bool} (hg : h.get id = some (.cells cs e g)) (hl : cs.length = es.length * (z + 1)) (hf : AV.idfree.idfrees cs = true) (hn : AV.norm.norms cs = aM es) :
  fz T h 3 (.sl id 0 es.length cap) = some (.lst es) := by
 obtain ⟨d, hd, ha⟩ : ∃ d, T.ty e = some d /\ eJ d = ag := by
  have := E.ag
  cases hq : T.ty e with
  | none => rw [hq] at this; cases this
  | some d => rw [hq] at this; exact ⟨d, rfl, by simpa using this⟩
 unfold fz
 have hr := ei cs
 rw [hl] at hr
 simp only [AV.idfree, hg, E.sz, hd, List.drop_zero, hr, db _ _ hf, hn, ha, h1.ch, Option.map_some]
theorem RowAt.fz (E : El T enc t e z by_) (hD : ∀ x, (encD x).cells.length = z + 1) (hf : ∀ x, AV.idfree.idfrees (encD x).cells = true) (hn : ∀ x, AV.norm.norms (encD x).cells = (enc x).cells) (r : RowAt enc encD e h l id j) (hj : l.length <= j) : Go.Proofs.YtmfhmlhaofpeiaaGreatDoor.Ev.fz T h 3 (bC l id) = some (.lst (l.map enc)) := by
 cases hl : l with
 | nil => rfl
 | cons a l' =>
  have hr := r (by rw [hl]; simp)
  rw [mt hj] at hr
  rw [<- hl]
  have e1 : bC l id = .sl id 0 (l.map enc).length none := by rw [hl, List.length_map]; rfl
  rw [e1]
  exact fz_row E.rowT (RowE.mapE E l) hr (by rw [dW hD, List.length_map]) (tH hf l) (by rw [tG hn, cg])
theorem fz_agg (k : Nat) (cs : List AV) : Go.Proofs.YtmfhmlhaofpeiaaGreatDoor.Ev.fz T h (k + 2) (.agg cs) = (di (Go.Proofs.YtmfhmlhaofpeiaaGreatDoor.Ev.fz T h (k + 1)) cs).map .agg := by
 by_cases hi : AV.idfree.idfrees cs = true
 ·rw [db k cs hi]
  conv => lhs; unfold Go.Proofs.YtmfhmlhaofpeiaaGreatDoor.Ev.fz
  have : (AV.agg cs).idfree = true := hi
  simp only [this]; rfl
 ·conv => lhs; unfold Go.Proofs.YtmfhmlhaofpeiaaGreatDoor.Ev.fz
  have : (AV.agg cs).idfree = false := by
   show AV.idfree.idfrees cs = false
   simpa using hi
  simp only [this]
theorem dn (k : Nat) {a : AV} (hi : a.idfree = true) : Go.Proofs.YtmfhmlhaofpeiaaGreatDoor.Ev.fz T h (k + 1) a = some a.norm := by
 unfold Go.Proofs.YtmfhmlhaofpeiaaGreatDoor.Ev.fz; simp only [hi]
theorem clone_oA {f : Nat} {fn : Func} (E : El T enc t e z by_) (hs : cq l.length by_ = true) (h1 : T.prim f = none) (h2 : T.ext f = some eR) (h3 : T.fn f = some fn) (h4 : fn.body = some (bO fn)) (h5 : T.opened f = true) (hm : T.mode f = 1)
  (hw : ∀ (P : Prims) (a : AV) (Q : AV -> AS -> Prop), pV P T t a Q = bQ P T fn (bO fn) gz [a] ⟨.nil, 0⟩ Q) (d n : Nat) (K : AV -> Option AB -> Prop) :
  oA T d f [.lst (l.map enc)] n K = K (bC l n) (ju enc e l) := by
 cases l with
 | nil => exact (R.ext h1 (by unfold fU; rw [h2]; rfl)).eqA d n K
 | cons a l =>
  have := (clone_A (es := (a :: l).map enc) E.rowT (RowE.mapE E _) (by simp) (by rw [List.length_map]; exact hs) h1 (by unfold fU; rw [h2]; rfl) h3 h4 h5 hm hw).eqA d n K
  rw [this, List.length_map, <- cg]; rfl
end
theorem oT_intro {b : Bool} {K : Prop} (h : b = true) (k : K) : oT b K := ⟨h, k⟩
theorem uS {n0 : Nat} {bef : Nat -> List Nat} {bs : List Nat} {news : List (Nat × Nat × Option AB)} {id : Nat} : ∀ {rd : List Nat}, rd.all (fun i => aY i bs) = true -> cb n0 bef bs news id rd = true
 | [], _ => rfl
 | i :: r, h => by
  simp only [List.all_cons, Bool.and_eq_true] at h
  simp only [cb, h.1, Bool.or_true, uS h.2, Bool.and_self]
theorem un {bs : List Nat} {id : Nat} : ∀ {news : List (Nat × Nat × Option AB)}, news.all (fun x => aY x.1 bs) = true -> cE bs id news = true
 | [], _ => rfl
 | (k, id', b) :: r, h => by
  simp only [List.all_cons, Bool.and_eq_true] at h
  simp only [cE, h.1, Bool.or_true, un h.2, Bool.and_self]
theorem sg {n0 : Nat} {bs : List Nat} {news : List (Nat × Nat × Option AB)} : ∀ {L : List (Nat × Nat × Option AB)}, L.all (fun x => aY x.1 bs) = true -> bD n0 bs news L = true
 | [], _ => rfl
 | (k, id', b) :: r, h => by
  simp only [List.all_cons, Bool.and_eq_true] at h
  simp only [bD, h.1, Bool.or_true, sg h.2, Bool.and_self]
theorem eN {n0 : Nat} {bef : Nat -> List Nat} {bs : List Nat} {news : List (Nat × Nat × Option AB)} {id : Nat} {rd : List Nat} {K : Prop} (h1 : rd.all (fun i => aY i bs) = true) (h2 : news.all (fun x => aY x.1 bs) = true) : oT (cb n0 bef bs news id rd && cE bs id news) K = K := by
 rw [uS h1, un h2]; exact fE K
theorem kv {n0 : Nat} {bs : List Nat} {news L : List (Nat × Nat × Option AB)} {K : Prop} (h1 : L.all (fun x => aY x.1 bs) = true) : oT (bD n0 bs news L) K = K := by
 rw [sg h1]; exact fE K
theorem ble_self (n : Nat) : Nat.ble (n + 1) n = false := by
 cases h : Nat.ble (n + 1) n
 ·rfl
 ·have := Nat.le_of_ble_eq_true h; omega
theorem ny {n k : Nat} {bs : List Nat} {b : Option AB} {K : Prop} (h : aY k bs = false) : oT (bD n bs [(k, n, b)] [(k, n, b)]) K = K := by
 have : bD n bs [(k, n, b)] [(k, n, b)] = true := by simp [bD, rG, sa, h, ble_self]
 rw [this]; exact fE K
end Go.Proofs.YtmfhmlhaofpeiaaGreatDoor.Ev
