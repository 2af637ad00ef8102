/- The evaluator, a part of it. This session's own text. -/
import Derived.Test.YtmfhmlhaofpeiaaGreatDoorEv3
namespace Go.Proofs.YtmfhmlhaofpeiaaGreatDoor.Ev
open Go Go.RowKit
def gP (c d : Nat -> List AV -> AS -> Option (AV × AS)) : Prop := ∀ f args σ r, c f args σ = some r -> d f args σ = some r
section
variable {T : Tab} {c d : Nat -> List AV -> AS -> Option (AV × AS)} {nt : Nat}
theorem wG (hcd : gP c d) {σ : AS} {ρ : Operand -> Option AV} {op : Op} {r : AV × AS} (h : fw T c σ ρ op = some r) : fw T d σ ρ op = some r := by
 unfold fw at h |-
 split at h
 ·exact h
 ·exact h
 ·exact h
 ·exact h
 ·split at h
  ·exact h
  ·exact h
  ·exact h
  ·exact h
  ·split at h
   ·rename_i f fs cs args hf ha
    split at h
    ·rename_i v σ' hc
     rw [hcd _ _ _ _ hc]; exact h
    ·cases h
   ·cases h
  ·cases h
 ·exact h
 ·cases h
theorem so (hcd : gP c d) {tm : Tr AV} {σ : AS} {o : Oper} {r : AV × AS} (h : qH T c tm σ o = some r) : qH T d tm σ o = some r := by
 unfold qH at h |-
 split at h
 ·exact h
 ·split at h
  ·exact h
  ·exact wG hcd h
theorem dR (hcd : gP c d) {ops : Array Oper} : ∀ (l : List Oper) (tm : Tr AV) (σ : AS) (r : Tr AV × AS), dJ T c nt ops l tm σ = some r -> dJ T d nt ops l tm σ = some r
 | [], tm, σ, r, h => h
 | o :: os, tm, σ, r, h => by
  unfold dJ at h |-
  split at h
  ·split at h
   ·rename_i v σ' ho
    rw [so hcd ho]
    simp only
    split at h
    ·rename_i tm' hp
     exact dR hcd os tm' σ' r h
    ·cases h
   ·cases h
  ·split at h
   ·rename_i tm' hp
    exact dR hcd os tm' σ r h
   ·cases h
  ·cases h
theorem rg (hcd : gP c d) {h : Tr AB} {n : Nat} {ρ : Operand -> Option AV} {op : Op} {v : AV} (hp : cv T c h n ρ op = some v) : cv T d h n ρ op = some v := by
 unfold cv at hp |-
 split at hp
 ·split at hp
  ·split at hp
   ·rename_i f fs cs args hf ha
    split at hp
    ·cases hp
    ·rename_i ho
     split at hp
     ·rename_i v' σ' hc
      rw [hcd _ _ _ _ hc]; exact hp
     ·cases hp
   ·cases hp
  ·cases hp
 ·exact hp
 ·cases hp
theorem qW (hcd : gP c d) {n : Nat} {ρ : Operand -> Option AV} {op : Op} {v : AV × Option AB} (hp : bD T c n ρ op = some v) : bD T d n ρ op = some v := by
 unfold bD at hp |-
 split at hp
 ·split at hp
  ·split at hp
   ·split at hp
    ·split at hp
     ·rename_i v' σ' hc
      rw [hcd _ _ _ _ hc]; exact hp
     ·cases hp
    ·cases hp
   ·cases hp
  ·cases hp
 ·cases hp
theorem wP {n m : Nat} {ρ : Operand -> Option AV} {op : Op} {v : AV × Option AB} (hp : bD T d n ρ op = some v) : (∀ h, bq T h ρ op = none) /\ (∀ h, cv T c h m ρ op = none) /\ (∀ h, eX T h ρ op = none) := by
 unfold bD at hp
 split at hp
 ·rename_i cl
  obtain ⟨callee, args, ts⟩ := cl
  split at hp
  ·rename_i fo hcal
   simp only at hcal; subst hcal
   split at hp
   ·rename_i f fs cs as hf ha
    split at hp
    ·rename_i ho
     simp only [Bool.and_eq_true] at ho
     refine ⟨fun h => rfl, fun h => ?_, fun h => rfl⟩
     unfold cv
     have hm := Nat.eq_of_beq_eq_true ho.2
     have hp : gC T f (fs ++ as ++ cs) = false := by
      unfold gC
      rw [ho.1, hm]; rfl
     simp only [hf, ha, hp]
    ·cases hp
   ·cases hp
  ·cases hp
 ·cases hp
theorem cH (hcd : gP c d) {ops : Array Oper} {h : Tr AB} {n0 : Nat} {bef : Nat -> List Nat} : ∀ (l : List Oper) (i : Nat) (tm : Tr AV) (news : List (Nat × Nat × Option AB)) (rd : List Nat) (n : Nat) (r : Tr AV × List (Nat × Nat × Option AB) × Nat),
  ba T c nt ops h n0 bef l i tm news rd n = some r -> ba T d nt ops h n0 bef l i tm news rd n = some r
 | [], _, _, _, _, _, _, hv => hv
 | o :: os, i, tm, news, rd, n, r, hv => by
  unfold ba at hv |-
  split at hv
  ·split at hv
   ·split at hv
    ·exact cH hcd os _ _ _ _ _ r hv
    ·cases hv
   ·split at hv
    ·split at hv
     ·exact cH hcd os _ _ _ _ _ r hv
     ·cases hv
    ·split at hv
     ·rename_i v b hq
      rw [qW hcd hq]
      simp only
      split at hv
      ·exact cH hcd os _ _ _ _ _ r hv
      ·cases hv
     ·cases hd : bD T d n (ci T tm) o.op with
      | some x =>
       obtain ⟨a1, a2, a3⟩ := wP (c := c) (m := n) hd
       split at hv
       ·cases hv
       ·rw [a1, a2, a3] at hv; cases hv
      | none =>
       simp only
       split at hv
       ·cases hv
       ·split at hv
        ·split at hv
         ·exact cH hcd os _ _ _ _ _ r hv
         ·cases hv
        ·split at hv
         ·rename_i v hp
          rw [rg hcd hp]
          simp only
          split at hv
          ·exact cH hcd os _ _ _ _ _ r hv
          ·cases hv
         ·rename_i hp
          split at hv
          ·rename_i id b hs
           have hq : cv T d (eb h (bef i) news) n (ci T tm) o.op = none := by
            unfold eX at hs
            split at hs
            ·rename_i heq; rw [heq]; rfl
            ·cases hs
           rw [hq]
           simp only
           split at hv
           ·split at hv
            ·exact cH hcd os _ _ _ _ _ r hv
            ·cases hv
           ·cases hv
          ·cases hv
  ·split at hv
   ·exact cH hcd os _ _ _ _ _ r hv
   ·cases hv
  ·cases hv
theorem lc {f g : Tr AV -> AS -> Option (AX × Tr AV × AS)} (hfg : ∀ tm σ r, f tm σ = some r -> g tm σ = some r) : ∀ (n m : Nat) (tm : Tr AV) (σ : AS) (r : AX × Tr AV × AS), n <= m -> lT f n tm σ = some r -> lT g m tm σ = some r
 | 0, _, _, _, _, _, hv => by cases hv
 | n + 1, 0, _, _, _, hm, _ => by omega
 | n + 1, m + 1, tm, σ, r, hm, hv => by
  unfold lT at hv |-
  split at hv
  ·rename_i tm' σ' hs
   rw [hfg _ _ _ hs]
   exact lc hfg n m tm' σ' r (by omega) hv
  ·rename_i hne
   rw [hfg _ _ _ hv]
   obtain ⟨x, tm', σ'⟩ := r
   cases x with
   | norm => exact absurd hv (hne _ _)
   | exit id => rfl
   | ret => rfl
theorem lm (hcd : gP c d) {ops : Array Oper} {k0 k1 : Nat} {tm : Tr AV} {σ : AS} {r : Tr AV × AS} (h : kO T c nt ops k0 k1 tm σ = some r) : kO T d nt ops k0 k1 tm σ = some r := by
 unfold kO at h |-
 split at h
 ·exact h
 ·split at h
  ·split at h
   ·rename_i tm' news n hs
    rw [cH hcd _ _ _ _ _ _ _ hs]; exact h
   ·cases h
  ·cases h
theorem gZ (hcd : gP c d) {ops : Array Oper} : ∀ (bs : List Nat) (k0 : Nat) (tm : Tr AV) (σ : AS) (r : Tr AV × AS), ik T c nt ops bs k0 tm σ = some r -> ik T d nt ops bs k0 tm σ = some r
 | [], k0, tm, σ, r, h => lm hcd h
 | b :: bs, k0, tm, σ, r, h => by
  unfold ik at h |-
  split at h
  ·rename_i tm1 σ1 h1
   rw [lm hcd h1]
   simp only
   split at h
   ·rename_i o ho
    split at h
    ·split at h
     ·rename_i tm2 σ2 h2
      rw [dR hcd _ _ _ _ h2]
      exact gZ hcd bs _ _ _ _ h
     ·cases h
    ·cases h
   ·cases h
  ·cases h
theorem oq (hcd : gP c d) {k m : Nat} (hkm : k <= m) : ∀ (co : Code) (tm : Tr AV) (σ : AS) (r : AX × Tr AV × AS), aX T c nt k co tm σ = some r -> aX T d nt m co tm σ = some r := by
 intro co
 induction co with
 | skip => intro tm σ r hv; exact hv
 | label l => intro tm σ r hv; exact hv
 | ret => intro tm σ r hv; exact hv
 | exit id => intro tm σ r hv; exact hv
 | region id ops draw =>
  intro tm σ r hv
  cases draw with
  | false =>
   simp only [aX] at hv |-
   split at hv
   ·rename_i tm' σ' hs
    rw [dR hcd _ _ _ _ hs]; exact hv
   ·cases hv
  | true =>
   simp only [aX] at hv |-
   split at hv
   ·rename_i hb
    split at hv
    ·rename_i tm' news n hs
     rw [cH hcd _ _ _ _ _ _ _ hs]; exact hv
    ·cases hv
   ·rename_i b bs hb
    split at hv
    ·rename_i hf
     split at hv
     ·rename_i tm' σ' hs
      rw [gZ hcd _ _ _ _ _ hs]; exact hv
     ·cases hv
    ·rename_i j js hf
     split at hv
     ·split at hv
      ·split at hv
       ·rename_i tm' σ' hs
        rw [gZ hcd _ _ _ _ _ hs]; exact hv
       ·cases hv
      ·cases hv
     ·cases hv
 | seq a b iha ihb =>
  intro tm σ r hv
  simp only [aX] at hv |-
  split at hv
  ·rename_i tm' σ' hs
   rw [iha _ _ _ hs]; exact ihb _ _ _ hv
  ·rename_i hne
   rw [iha _ _ _ hv]
   obtain ⟨x, tm', σ'⟩ := r
   cases x with
   | norm => exact absurd hv (hne _ _)
   | exit id => rfl
   | ret => rfl
 | cond x a b iha ihb =>
  intro tm σ r hv
  simp only [aX] at hv |-
  split at hv
  ·exact iha _ _ _ hv
  ·exact ihb _ _ _ hv
  ·cases hv
 | block id a ih =>
  intro tm σ r hv
  simp only [aX] at hv |-
  split at hv
  ·rename_i j tm' σ' hs
   rw [ih _ _ _ hs]; exact hv
  ·rename_i hne
   rw [ih _ _ _ hv]
   obtain ⟨x, tm', σ'⟩ := r
   cases x with
   | exit id => exact absurd hv (hne _ _ _)
   | norm => rfl
   | ret => rfl
 | scope a ih => intro tm σ r hv; simp only [aX] at hv |-; exact ih _ _ _ hv
 | loop a ih =>
  intro tm σ r hv
  simp only [aX] at hv |-
  exact lc ih _ _ _ _ _ hkm hv
 | rangeFunc f ps a b iha ihb => intro tm σ r hv; cases hv
 | goto l => intro tm σ r hv; cases hv
 | refuse y => intro tm σ r hv; cases hv
theorem hI (hcd : gP c d) {k m : Nat} (hkm : k <= m) {fn : Func} {co : Code} {args : List AV} {σ : AS} {r : AV × AS} (hv : eM T c k fn co args σ = some r) : eM T d m fn co args σ = some r := by
 unfold eM at hv |-
 split at hv
 ·rename_i x tm σ' hs
  rw [oq hcd hkm _ _ _ _ hs]; exact hv
 ·cases hv
end
theorem kx {α β : Type} {f g : α -> Option β} (hfg : ∀ a b, f a = some b -> g a = some b) : ∀ (l : List α) (r : List β), cV f l = some r -> cV g l = some r
 | [], r, h => h
 | a :: l, r, h => by
  unfold cV at h |-
  split at h
  ·rename_i b bs h1 h2
   rw [hfg _ _ h1, kx hfg l _ h2]; exact h
  ·cases h
theorem gj {T : Tab} {h : Tr AB} : ∀ (k m : Nat) (a b : AV), k <= m -> fz T h k a = some b -> fz T h m a = some b
 | 0, _, _, _, _, hv => by cases hv
 | k + 1, 0, _, _, hm, _ => by omega
 | k + 1, m + 1, a, b, hm, hv => by
  have ih := fun a b => gj (T := T) (h := h) k m a b (by omega)
  have ihl := kx ih
  unfold fz at hv |-
  split at hv
  ·exact hv
  ·split at hv
   ·split at hv
    ·split at hv
     ·rw [Option.map_eq_some_iff] at hv |-
      obtain ⟨ds, hd, rfl⟩ := hv
      exact ⟨ds, ihl _ _ hd, rfl⟩
     ·cases hv
    ·cases hv
   ·split at hv
    ·split at hv
     ·split at hv
      ·split at hv
       ·rename_i ds hq
        rw [ihl _ _ hq]; exact hv
       ·cases hv
      ·cases hv
     ·cases hv
    ·cases hv
   ·rw [Option.map_eq_some_iff] at hv |-
    obtain ⟨ds, hd, rfl⟩ := hv
    exact ⟨ds, ih _ _ hd, rfl⟩
   ·rw [Option.map_eq_some_iff] at hv |-
    obtain ⟨ds, hd, rfl⟩ := hv
    exact ⟨ds, ihl _ _ hd, rfl⟩
   ·rw [Option.map_eq_some_iff] at hv |-
    obtain ⟨ds, hd, rfl⟩ := hv
    exact ⟨ds, ihl _ _ hd, rfl⟩
   ·split at hv
    ·rename_i fs cs h1 h2
     rw [ihl _ _ h1, ihl _ _ h2]; exact hv
    ·cases hv
   ·cases hv
theorem mN {T : Tab} {h : Tr AB} : ∀ (k m : Nat) (a b : AV), k <= m -> fz T h k a = some b -> rch T h m a = rch T h k a
 | 0, _, _, _, _, hv => by cases hv
 | k + 1, 0, _, _, hm, _ => by omega
 | k + 1, m + 1, a, b, hm, hv => by
  have list : ∀ (as bs : List AV), cV (fz T h k) as = some bs -> as.flatMap (rch T h m) = as.flatMap (rch T h k) := by
   intro as
   induction as with
   | nil => intro bs _; rfl
   | cons a as ih =>
    intro bs ha
    unfold cV at ha
    split at ha
    ·rename_i b bs h1 h2
     rw [List.flatMap_cons, List.flatMap_cons, ih _ h2, mN k m a b (by omega) h1]
    ·cases ha
  unfold fz at hv
  unfold rch
  split at hv
  ·rfl
  ·split at hv
   ·rename_i id off _
    cases hb : h.get id with
    | none => rfl
    | some x =>
     cases x with
     | cells cs e g =>
      simp only [hb] at hv |-
      split at hv
      ·rw [Option.map_eq_some_iff] at hv
       obtain ⟨ds, hd, rfl⟩ := hv
       rw [list _ _ hd]
      ·cases hv
     | map es => rfl
     | siter s p => rfl
   ·rename_i id off len cap _
    cases hb : h.get id with
    | none => rfl
    | some x =>
     cases x with
     | cells cs e g =>
      simp only [hb] at hv |-
      split at hv
      ·rename_i z d hz hty
       rw [hz]
       simp only
       split at hv
       ·rename_i cs' hcs
        split at hv
        ·rename_i ds hd
         have : cs' = (cs.drop off).take (len * (z + 1)) := by
          have : ∀ (n : Nat) (l r : List AV), cK n l = some r -> r = l.take n := by
           intro n
           induction n with
           | zero => intro l r h; injection h with h; subst h; simp
           | succ n ih =>
            intro l r h
            cases l with
            | nil => cases h
            | cons a l =>
             simp only [cK, Option.map_eq_some_iff] at h
             obtain ⟨r', h1, rfl⟩ := h
             rw [ih l r' h1]; rfl
          exact this _ _ _ hcs
         rw [<- this, list _ _ hd]
        ·cases hv
       ·cases hv
      ·cases hv
     | map es => rfl
     | siter s p => rfl
   ·rw [Option.map_eq_some_iff] at hv
    obtain ⟨d, hd, rfl⟩ := hv
    exact mN k m _ _ (by omega) hd
   ·rw [Option.map_eq_some_iff] at hv
    obtain ⟨ds, hd, rfl⟩ := hv
    exact list _ _ hd
   ·rw [Option.map_eq_some_iff] at hv
    obtain ⟨ds, hd, rfl⟩ := hv
    exact list _ _ hd
   ·split at hv
    ·rename_i fs cs h1 h2
     rw [list _ _ h1, list _ _ h2]
    ·cases hv
   ·cases hv
theorem rch_mono {T : Tab} {h : Tr AB} {k m : Nat} (hm : k <= m) {args args' : List AV} (ha : cV (fz T h k) args = some args') : args.flatMap (rch T h m) = args.flatMap (rch T h k) := by
 induction args generalizing args' with
 | nil => rfl
 | cons a as ih =>
  unfold cV at ha
  split at ha
  ·rename_i b bs h1 h2
   rw [List.flatMap_cons, List.flatMap_cons, ih h2, mN k m a b hm h1]
  ·cases ha
theorem aT {T : Tab} : ∀ (k m : Nat), k <= m -> gP (aJ T k) (aJ T m)
 | 0, _, _ => fun _ _ _ _ h => by cases h
 | k + 1, 0, h => by omega
 | k + 1, m + 1, hm => by
  intro f args σ r hv
  have ih := aT (T := T) k m (by omega)
  have ihb := fun {fn co args σ r} => hI (T := T) ih (show k <= m by omega) (fn := fn) (co := co) (args := args) (σ := σ) (r := r)
  have ihf := fun h a b => gj (T := T) (h := h) (k + 1) (m + 1) a b hm
  unfold aJ at hv |-
  split at hv
  ·exact hv
  ·split at hv
   ·exact hv
   ·split at hv
    ·split at hv
     ·split at hv
      ·split at hv
       ·exact ihb hv
       ·split at hv
        ·split at hv
         ·rename_i r1 σ1 hb
          rw [ihb hb]; exact hv
         ·cases hv
        ·cases hv
       ·
        split at hv
        ·split at hv
         ·rename_i r1 σ1 hb
          rw [ihb hb]
          simp only
          split at hv
          ·rename_i r2 hr
           rw [ihf _ _ _ hr]; exact hv
          ·cases hv
         ·cases hv
        ·split at hv
         ·rename_i args' ha
          rw [kx (ihf _) _ _ ha]
          simp only
          split at hv
          ·rename_i r1 σ1 hb
           rw [ihb hb]
           simp only
           split at hv
           ·rename_i r2 hr
            rw [ihf _ _ _ hr]
            rw [rch_mono hm ha]
            exact hv
           ·cases hv
          ·cases hv
         ·cases hv
      ·split at hv
       ·split at hv
        ·rename_i r1 σ1 hb
         rw [ihb hb]
         simp only
         split at hv
         ·rename_i r2 hr
          rw [ihf _ _ _ hr]; exact hv
         ·cases hv
        ·cases hv
       ·split at hv
        ·rename_i args' ha
         rw [kx (ihf _) _ _ ha]
         simp only
         split at hv
         ·rename_i r1 σ1 hb
          rw [ihb hb]
          simp only
          split at hv
          ·rename_i r2 hr
           rw [ihf _ _ _ hr]; exact hv
          ·cases hv
         ·cases hv
        ·cases hv
     ·cases hv
    ·cases hv
def Cur : Nat -> Type
 | 0 => AS -> Prop
 | n + 1 => AV -> Cur n
def leC : (n : Nat) -> Cur n -> Cur n -> Prop
 | 0, p, q => ∀ σ, p σ -> q σ
 | n + 1, p, q => ∀ v, leC n (p v) (q v)
def infC {α : Type} (p : α -> Prop) : (n : Nat) -> (α -> Cur n) -> Cur n
 | 0, g => fun σ => ∀ a, p a -> g a σ
 | n + 1, g => fun v => infC p n fun a => g a v
def oV (_ : Nat) (r : Option AV) (K : AV -> Prop) : Prop := match r with
 | some v => K v
 | none => False
def oN (_ : Nat) (b : AB) (f : Nat -> AV) (σ : AS) (K : AV -> AS -> Prop) : Prop := K (f σ.n) ⟨σ.h.put σ.n (some b), σ.n + 1⟩
def oM (_ : Nat) (r : Option (AV × AS)) (K : AV -> AS -> Prop) : Prop := match r with
 | some (v, σ) => K v σ
 | none => False
def oH (r : Option (Tr AB)) (σ : AS) (K : AS -> Prop) : Prop := match r with
 | some h => K { σ with h := h }
 | none => False
def oC (T : Tab) (_ : Nat) (f : Nat) (args : List AV) (σ : AS) (K : AV -> AS -> Prop) : Prop := ∃ k r σ', aJ T k f args σ = some (r, σ') /\ K r σ'
def oI (c : AV) (a b : Prop) : Prop := match c with
 | .b x => (x = true -> a) /\ (x = false -> b)
 | _ => False
def eW : (n : Nat) -> Cur n -> AS -> Prop
 | 0, K => K
 | n + 1, K => eW n (K (.tup []))
def oG (L : List Nat) (c : AV) (want : Bool) (body : Cur L.length -> Prop) (σ : AS) (K : Cur L.length) : Prop := match c with
 | .b x => ((x == want) = true -> body K) /\ ((x == want) = false -> eW L.length K σ)
 | .tup [] => eW L.length K σ
 | _ => False
def oD (r : Option (Nat × AB)) (K : Nat -> AB -> Prop) : Prop := match r with
 | some (id, b) => K id b
 | none => False
def oT (b : Bool) (K : Prop) : Prop := b = true /\ K
def oE (r : Option (AB × (Nat -> AV))) (K : AB -> (Nat -> AV) -> Prop) : Prop := match r with
 | some (b, f) => K b f
 | none => False
def oF (T : Tab) (d : Nat) (f : AV) (args : List AV) (σ : AS) (K : AV -> AS -> Prop) : Prop := match f with
 | .fn f fs cs => oC T d f (fs ++ args ++ cs) σ K
 | _ => False
def oS (σ : AS) (K : AS -> Prop) : Prop := K σ
def oA (T : Tab) (_ : Nat) (f : Nat) (args : List AV) (n : Nat) (K : AV -> Option AB -> Prop) : Prop := ∃ k v σ', aJ T k f args ⟨.nil, n⟩ = some (v, σ') /\ K v (σ'.h.get n)
def oJ (L : List Nat) (body : Cur L.length -> Prop) (K : Cur L.length) : Prop := body K
def oL (L : List Nat) (B : Cur L.length -> Cur L.length) : Cur L.length := infC (fun R => leC L.length (B R) R) L.length fun R => R
structure Prims where
 oV : Nat -> Option AV -> (AV -> Prop) -> Prop
 oN : Nat -> AB -> (Nat -> AV) -> AS -> (AV -> AS -> Prop) -> Prop
 oM : Nat -> Option (AV × AS) -> (AV -> AS -> Prop) -> Prop
 oH : Option (Tr AB) -> AS -> (AS -> Prop) -> Prop
 oC : Nat -> Nat -> List AV -> AS -> (AV -> AS -> Prop) -> Prop
 oI : AV -> Prop -> Prop -> Prop
 oG : (L : List Nat) -> AV -> Bool -> (Cur L.length -> Prop) -> AS -> Cur L.length -> Prop
 oD : Option (Nat × AB) -> (Nat -> AB -> Prop) -> Prop
 oT : Bool -> Prop -> Prop
 oJ : (L : List Nat) -> (Cur L.length -> Prop) -> Cur L.length -> Prop
 oL : (L : List Nat) -> (Cur L.length -> Cur L.length) -> Cur L.length
 oS : AS -> (AS -> Prop) -> Prop
 oE : Option (AB × (Nat -> AV)) -> (AB -> (Nat -> AV) -> Prop) -> Prop
 oF : Nat -> AV -> List AV -> AS -> (AV -> AS -> Prop) -> Prop
 oA : Nat -> Nat -> List AV -> Nat -> (AV -> Option AB -> Prop) -> Prop
def av (T : Tab) : Prims := ⟨oV, oN, oM, oH, oC T, oI, oG, oD, oT, oJ, oL, oS, oE, oF T, oA T⟩
def au : AV -> Option AV -> Option AV -> Option AV
 | .b true, a, _ => a
 | .b false, _, b => b
 | _, _, _ => none
def cQ : AV -> Option AV
 | .ptr id off => some (.ptr id off)
 | .iptr cs => some (.iptr cs)
 | .fn f fs cs => some (.fn f fs cs)
 | _ => none
def am (off : Nat) : AV -> Option AV
 | .ptr id o => some (.ptr id (o + off))
 | .iptr cs => some (.iptr (cs.drop off))
 | _ => none
def qG (T : Tab) (t off : Nat) : AV -> Option AV
 | .agg cs => aK T t (cs.drop off)
 | _ => none
def aI (n : Nat) : AV -> Option AV
 | .tup vs => vs[n]?
 | _ => none
def ac (T : Tab) (h : Tr AB) (t : Nat) (a : AV) : Option AV := match ig h a with
 | some cs => aK T t cs
 | none => none
def oO {α : Type} (r : Option α) (K : α -> Prop) : Prop := match r with
 | some v => K v
 | none => False
def pz (P : Prims) (T : Tab) (d : Nat) (h : Tr AB) (ρ : Operand -> Option AV) (K : AV -> Prop) : Op -> Prop
 | .move x => oO (ρ x) K
 | .assign x => oO (ρ x) K
 | .pick c a b => oO (ρ c) fun c => P.oV d (au c (ρ a) (ρ b)) K
 | .nilCheck x => oO (ρ x) fun a => P.oV d (cQ a) K
 | .binOp op t x y _ => oO (ρ x) fun a => oO (ρ y) fun b => P.oV d (ah T op t (fq x || fq y) a b) K
 | .unOp op _ x => oO (ρ x) fun a => P.oV d (cF op a) K
 | .convert s t x => oO (ρ x) fun a => P.oV d (cR T h s t a) K
 | .makeInterface t x => match T.ty t with
  | some (.interface _) => False
  | some _ => oO (ρ x) fun a => K (.ifc t a)
  | none => False
 | .makeFunc (.func f) fs cs => oO (bH ρ fs.toList) fun fs => oO (bH ρ cs.toList) fun cs => K (.fn f fs cs)
 | .slice t x lo hi mx => oO (ρ x) fun x => oO (eQ ρ lo) fun lo => oO (eQ ρ hi) fun hi => oO (eQ ρ mx) fun mx => P.oV d (aL T h t x lo hi mx) K
 | .fieldAddr s x f => match T.ty s with
  | some (.struct fs) => match kE fs f with
   | some fd => match T.sz fd.type with
    | some (_ + 1) => oO (ρ x) fun a => P.oV d (am fd.offset a) K
    | _ => False
   | none => False
  | _ => False
 | .field s x f => match T.ty s with
  | some (.struct fs) => match kE fs f with
   | some fd => oO (ρ x) fun a => P.oV d (qG T fd.type fd.offset a) K
   | none => False
  | _ => False
 | .indexAddr t x ix => oO (ρ x) fun x => oO (ρ ix) fun ix => P.oV d (ai T t x ix) K
 | .index t x ix => oO (ρ x) fun x => oO (ρ ix) fun ix => P.oV d (cd T t x ix) K
 | .build t ps => oO (fR ρ ps.toList) fun ps => P.oV d (aO T t ps) K
 | .extract t n => oO (ρ t) fun a => P.oV d (aI n a) K
 | .load t a => oO (ρ a) fun a => P.oV d (ac T h t a) K
 | .lookup t m k ok => oO (ρ m) fun m => oO (ρ k) fun k => P.oV d (kb T h t m k ok) K
 | .call c => match c.callee with
  | .builtin b => oO (bH ρ c.args.toList) fun args => P.oV d (ak T h b c.argTypes.toList args) K
  | _ => False
 | _ => False
def aY (T : Tab) (h : Tr AB) (t : Nat) (a v : AV) : Option (Nat × AB) :=
 match a with
 | .ptr id off => match T.sz t with
  | some n => match Nat.beq v.cells.length n, aQ v.cells with
   | true, true => match h.get id with
    | some (.cells cs e g) => match bN cs off v.cells with
     | some cs' => some (id, .cells cs' e g)
     | none => none
    | _ => none
   | _, _ => none
  | none => none
 | _ => none
def qp : Option TypeDesc -> Bool
 | some (.slice _) => true
 | _ => false
def dH (T : Tab) : Op -> Nat
 | .alloc _ => 1
 | .box _ _ => 1
 | .buildSlice t _ _ => match T.ice t with | true => 2 | false => 1
 | .makeSlice _ _ _ => 1
 | .makeMap _ _ => 1
 | .range _ _ => 1
 | .convert _ t _ => match qp (T.ty t) with | true => 1 | false => 0
 | .store _ _ _ => 2
 | .mapUpdate _ _ _ _ => 2
 | .insert _ _ _ _ => 2
 | .next _ _ => 2
 | .call c => match c.callee with
  | .builtin .append => 2
  | .builtin .copy => 2
  | .builtin .clear => 2
  | .builtin .unsafeString => 2
  | .value _ => 2
  | _ => 0
 | _ => 0
def pE (P : Prims) (T : Tab) (d : Nat) (σ : AS) (ρ : Operand -> Option AV) (K : AV -> AS -> Prop) : Op -> Prop
 | .buildSlice t len ps => match T.ice t with
  | true => oO (fR ρ ps.toList) fun ps => P.oV d (cE T t len ps) fun v => K v σ
  | false => False
 | .store t a v => oO (ρ a) fun a => oO (ρ v) fun v => P.oH (aB T σ.h t a v) σ fun σ => K (.tup []) σ
 | .mapUpdate t m k v => oO (ρ m) fun m => oO (ρ k) fun k => oO (ρ v) fun v => P.oH (eT T σ.h t m k v) σ fun σ => K (.tup []) σ
 | .insert t m k v => oO (ρ m) fun m => oO (ρ k) fun k => oO (ρ v) fun v => P.oH (eT T σ.h t m k v) σ fun σ => K (.tup []) σ
 | .next it true => oO (ρ it) fun it => P.oM d (gM σ it) K
 | .call c => match c.callee with
  | .builtin .append => match c.argTypes.toList with
   | [st, xt] => oO (bH ρ c.args.toList) fun
    | [s, x] => P.oM d (aD T σ st xt s x) K
    | _ => False
   | _ => False
  | .builtin .copy => match c.argTypes.toList with
   | dt :: _ => oO (bH ρ c.args.toList) fun
    | [a, x] => P.oM d (lp T σ dt a x) K
    | _ => False
   | _ => False
  | .builtin .clear => match c.argTypes.toList with
   | [t] => oO (bH ρ c.args.toList) fun
    | [x] => P.oM d (dY T σ t x) K
    | _ => False
   | _ => False
  | .builtin .unsafeString => match c.argTypes.toList with
   | [pt, _] => oO (bH ρ c.args.toList) fun
    | [p, n] => P.oM d (gc T σ pt p n) K
    | _ => False
   | _ => False
  | .value (.func f) => oO (bH ρ c.args.toList) fun args => P.oC d f args σ K
  | .value f => oO (ρ f) fun f => oO (bH ρ c.args.toList) fun args => P.oF d f args σ K
  | _ => False
 | _ => False
def vx (T : Tab) (t len : Nat) (ps : List (Nat × AV)) : Option (AB × (Nat -> AV)) := match T.ty t with
 | some (.slice e) => match T.sz e, T.zr e with
  | some n, some z => match Nat.ble (len * n) 1048576 with
   | true => match gL (fun i => some (i * n, n)) (di z.cells len) ps with
    | some cs => some (.cells cs e false, fun id => .sl id 0 len (some len))
    | none => none
   | false => none
  | _, _ => none
 | _ => none
def qI (T : Tab) (t : Nat) (l c : AV) : Option (AB × (Nat -> AV)) := match T.ty t with
 | some (.slice e) => match T.sz e, T.zr e, T.by_ e with
  | some _, some z, some by_ => match l, c with
   | .i _ l, .i _ c => if 0 <= l /\ l <= c /\ c <= 1048576 /\ by_ <= 1048576 then some (.cells (di z.cells c.toNat) e false, fun id => .sl id 0 l.toNat (some c.toNat)) else none
   | _, _ => none
  | _, _, _ => none
 | _ => none
def yJ (T : Tab) (s d : Nat) (x : AV) : Option (AB × (Nat -> AV)) := match T.ty s, T.ty d with
 | some _, some (.slice e) => match T.ty e, T.sz e, T.zr e, x with
  | some (.int .u8), some 1, some (.i .u8 0), .s bs => some (.cells (bs.map fun c => .i .u8 c.toNat) e true, fun id => .sl id 0 bs.length none)
  | _, _, _, _ => none
 | _, _ => none
def mt (T : Tab) (t : Nat) (x : AV) : Option (AB × (Nat -> AV)) := match T.ty t, x with
 | some .string, .s s => some (.siter s 0, fun id => .ptr id 0)
 | _, _ => none
def wV (P : Prims) (T : Tab) (ρ : Operand -> Option AV) (K : AB -> (Nat -> AV) -> Prop) : Op -> Prop
 | .alloc e => oO (T.zr e) fun z => K (.cells z.cells e false) (fun id => .ptr id 0)
 | .box e x => oO (ρ x) fun a => K (.cells a.cells e false) (fun id => .ptr id 0)
 | .makeMap _ none => K (.map []) fun id => .mp id
 | .buildSlice t len ps => match T.ice t with
  | true => False
  | false => oO (fR ρ ps.toList) fun ps => P.oE (vx T t len ps) K
 | .makeSlice t l c => oO (ρ l) fun l => oO (ρ c) fun c => P.oE (qI T t l c) K
 | .convert s d x => oO (ρ x) fun a => P.oE (yJ T s d a) K
 | .range t x => oO (ρ x) fun a => P.oE (mt T t a) K
 | _ => False
def vcOp (P : Prims) (T : Tab) (d : Nat) (σ : AS) (ρ : Operand -> Option AV) (op : Op) (K : AV -> AS -> Prop) : Prop :=
 match dH T op with
 | 0 => pz P T d σ.h ρ (fun v => K v σ) op
 | 1 => wV P T ρ (fun b f => P.oN d b f σ K) op
 | _ => pE P T d σ ρ K op
def dN : Option Nat -> Nat
 | some d => d
 | none => 0
abbrev VM := List (Nat × AV)
def jS : VM -> Nat -> Option AV
 | [], _ => none
 | (k, v) :: r, n => match Nat.beq k n with
  | true => some v
  | false => jS r n
def dI (T : Tab) (tm : VM) : Operand -> Option AV
 | .tmp t => jS tm t
 | .const v => nG v
 | .global g => (T.gl g).map .iptr
 | .func f => some (.fn f [] [])
def jN (nt : Nat) (tm : VM) (dst : Option Nat) (v : AV) : Option VM :=
 match dst with
 | none => some tm
 | some d => match Nat.ble (d + 1) nt with
  | true => some ((d, v) :: tm)
  | false => none
def argL : List AV -> Nat -> VM
 | [], _ => []
 | a :: as, i => (i, a) :: argL as (i + 1)
def hJ : (L : List Nat) -> VM -> (VM -> AS -> Prop) -> Cur L.length
 | [], tm, F => fun σ => F tm σ
 | t :: L, tm, F => fun v => hJ L ((t, v) :: tm) F
def gO : (L : List Nat) -> VM -> Cur L.length -> AS -> Prop
 | [], _, R => fun σ => R σ
 | t :: L, tm, R => match jS tm t with
  | some v => gO L tm (R v)
  | none => fun _ => False
inductive AN where
 | leaf
 | seq (j : Option (List Nat)) (a b : AN)
 | two (a b : AN)
 | one (a : AN)
 | loop (l : List Nat) (a : AN)
def sameG : Option (Nat × Bool) -> Option (Nat × Bool) -> Bool
 | none, none => true
 | some (i, a), some (j, b) => Nat.beq i j && (a == b)
 | _, _ => false
def lh : List Oper -> List (Option (Nat × Bool) × List Oper)
 | [] => []
 | o :: os => match lh os with
  | (g, l) :: r => match sameG o.guard g with
   | true => (g, o :: l) :: r
   | false => (o.guard, [o]) :: (g, l) :: r
  | [] => [(o.guard, [o])]
def aR : List Oper -> List Nat
 | [] => []
 | o :: os => match o.dst with
  | some d => d :: aR os
  | none => aR os
def nO (T : Tab) : AV -> Bool
 | .fn f _ _ => !T.opened f
 | _ => false
def tN (P : Prims) (T : Tab) (nt : Nat) : List Oper -> VM -> AS -> (VM -> AS -> Prop) -> Prop
 | [], tm, σ, K => K tm σ
 | o :: os, tm, σ, K => vcOp P T (dN o.dst) σ (dI T tm) o.op fun v σ => oO (jN nt tm o.dst v) fun tm => tN P T nt os tm σ K
def lv (P : Prims) (T : Tab) (nt : Nat) (ops : Array Oper) : List (Option (Nat × Bool) × List Oper) -> VM -> AS -> (VM -> AS -> Prop) -> Prop
 | [], tm, σ, K => K tm σ
 | (none, l) :: gs, tm, σ, K => tN P T nt l tm σ fun tm σ => lv P T nt ops gs tm σ K
 | (some (j, want), l) :: gs, tm, σ, K => match ops[j]? with
  | some oj => match oj.dst with
   | some e => match be e (aR l), Nat.ble ((aR l).foldr Nat.max 0 + 1) nt with
    | false, true => oO (jS tm e) fun x => P.oG (aR l) x want (fun k => tN P T nt l tm σ fun tm σ => gO (aR l) tm k σ) σ (hJ (aR l) tm fun tm σ => lv P T nt ops gs tm σ K)
    | _, _ => False
   | none => False
  | none => False
def mj (l : List AV) : Bool := AV.idfree.idfrees l
def plainK : Op -> Bool
 | .move _ => true
 | .assign _ => true
 | .pick _ _ _ => true
 | .nilCheck _ => true
 | .binOp _ _ _ _ _ => true
 | .unOp _ _ _ => true
 | .makeInterface _ _ => true
 | .makeFunc _ _ _ => true
 | .slice _ _ _ _ _ => true
 | .fieldAddr _ _ _ => true
 | .field _ _ _ => true
 | .indexAddr _ _ _ => true
 | .index _ _ _ => true
 | .build _ _ => true
 | .extract _ _ => true
 | _ => false
def bW (P : Prims) (T : Tab) (nt : Nat) (h : Tr AB) (n0 : Nat) (bef : Nat -> List Nat) : List Oper -> Nat -> VM -> List (Nat × Nat × Option AB) -> List Nat -> Nat -> (VM -> List (Nat × Nat × Option AB) -> List Nat -> Nat -> Prop) -> Prop
 | [], _, tm, news, rd, n, K => K tm news rd n
 | o :: os, i, tm, news, rd, n, K =>
  match dH T o.op with
  | 0 => match plainK o.op with
   | true => pz P T (dN o.dst) .nil (dI T tm) (fun v => oO (jN nt tm o.dst v) fun tm => bW P T nt h n0 bef os (i + 1) tm news rd n K) o.op
   | false => (match news with | [] => fun q => q | _ => P.oT (bC n0 (bef i) news news)) (pz P T (dN o.dst) (eb h (bef i) news) (dI T tm) (fun v => oO (jN nt tm o.dst v) fun tm => bW P T nt h n0 bef os (i + 1) tm news (i :: rd) n K) o.op)
  | 1 => (fun K => wV P T (dI T tm) K o.op) fun b f => oO (jN nt tm o.dst (f n)) fun tm => bW P T nt h n0 bef os (i + 1) tm ((i, n, some b) :: news) rd (n + 1) K
  | _ => (match news with | [] => fun q => q | _ => P.oT (bC n0 (bef i) news news)) (match o.op with
   | .call c => match c.callee with
    | .value (.func f) => match T.opened f with
     | true => match Nat.beq (T.mode f) 1 with
      | true => oO (bH (dI T tm) c.args.toList) fun args => P.oA (dN o.dst) f args n fun v b => oO (jN nt tm o.dst v) fun tm => bW P T nt h n0 bef os (i + 1) tm ((i, n, b) :: news) rd (n + 1) K
      | false => match Nat.beq (T.mode f) 3 with
       | true => oO (bH (dI T tm) c.args.toList) fun args => P.oT (mj args) (P.oC (dN o.dst) f args ⟨eb h (bef i) news, n⟩ fun v _ => oO (jN nt tm o.dst v) fun tm => bW P T nt h n0 bef os (i + 1) tm news (i :: rd) n K)
       | false => False
     | false => oO (bH (dI T tm) c.args.toList) fun args => P.oC (dN o.dst) f args ⟨eb h (bef i) news, n⟩ fun v _ => oO (jN nt tm o.dst v) fun tm => bW P T nt h n0 bef os (i + 1) tm news (i :: rd) n K
    | .value f => oO (dI T tm f) fun f => P.oT (nO T f) (oO (bH (dI T tm) c.args.toList) fun args => P.oF (dN o.dst) f args ⟨eb h (bef i) news, n⟩ fun v _ => oO (jN nt tm o.dst v) fun tm => bW P T nt h n0 bef os (i + 1) tm news (i :: rd) n K)
    | _ => False
   | .buildSlice t len ps => match T.ice t with
    | true => oO (fR (dI T tm) ps.toList) fun ps => P.oV (dN o.dst) (cE T t len ps) fun v => oO (jN nt tm o.dst v) fun tm => bW P T nt h n0 bef os (i + 1) tm news (i :: rd) n K
    | false => False
   | .store t a v => oO (dI T tm a) fun a => oO (dI T tm v) fun v => P.oD (aY T (eb h (bef i) news) t a v) fun id b => P.oT (bU n0 bef (bef i) news id rd && ce (bef i) id news) (oO (jN nt tm o.dst (.tup [])) fun tm => bW P T nt h n0 bef os (i + 1) tm ((i, id, some b) :: news) rd n K)
   | _ => False)
def fT (T : Tab) : List Oper -> Bool
 | [] => true
 | o :: os => (match dH T o.op with
  | 0 => true
  | 1 => false
  | _ => match o.op with
   | .call c => match c.callee with
    | .value (.func f) => !T.opened f
    | _ => true
   | .buildSlice _ _ _ => true
   | _ => false) && fT T os
def iT (P : Prims) (T : Tab) (nt : Nat) (ops : Array Oper) (h : Tr AB) (n0 : Nat) (bef : Nat -> List Nat) : List (Option (Nat × Bool) × List Oper) -> Nat -> VM -> List (Nat × Nat × Option AB) -> List Nat -> Nat -> (VM -> List (Nat × Nat × Option AB) -> Nat -> Prop) -> Prop
 | [], _, tm, news, _, n, K => K tm news n
 | (none, l) :: gs, i, tm, news, rd, n, K => bW P T nt h n0 bef l i tm news rd n fun tm news rd n => iT P T nt ops h n0 bef gs (i + l.length) tm news rd n K
 | (some (j, want), l) :: gs, i, tm, news, rd, n, K => match ops[j]? with
  | some oj => match oj.dst with
   | some e => match be e (aR l), Nat.ble ((aR l).foldr Nat.max 0 + 1) nt, fT T l with
    | false, true, true => oO (jS tm e) fun x => P.oG (aR l) x want (fun k => bW P T nt h n0 bef l i tm news rd n fun tm _ _ _ => gO (aR l) tm k ⟨h, n0⟩) ⟨h, n0⟩
      (hJ (aR l) tm fun tm _ => iT P T nt ops h n0 bef gs (i + l.length) tm news ((List.range' i l.length) ++ rd) n K)
    | _, _, _ => False
   | none => False
  | none => False
def tM (P : Prims) (T : Tab) (nt : Nat) (ops : Array Oper) (k0 k1 : Nat) (tm : VM) (σ : AS) (K : VM -> AS -> Prop) : Prop := match Nat.beq k0 k1 with
 | true => K tm σ
 | false => match uc ops.toList k0 k1 with
  | true => iT P T nt ⟨fx ops.toList k0 k1⟩ σ.h σ.n (nA ⟨fx ops.toList k0 k1⟩) (lh (fx ops.toList k0 k1)) 0 tm [] [] σ.n fun tm news n => match news with
   | [] => K tm ⟨σ.h, n⟩
   | _ => P.oS ⟨lay σ.h news, n⟩ fun σ => K tm σ
  | false => False
def ip (P : Prims) (T : Tab) (nt : Nat) (ops : Array Oper) : List Nat -> VM -> (VM -> Prop) -> Prop
 | [], tm, K => K tm
 | j :: js, tm, K => match ops[j]? with
  | some o => (fun (K' : AV -> Prop) => match o.op with
   | .move x => oO (dI T tm x) fun a => P.oT (ej a) (K' a)
   | .binOp op t x y _ => oO (dI T tm x) fun a => P.oT (ej a) (oO (dI T tm y) fun b => P.oT (ej b) (P.oV (dN o.dst) (ah T op t (fq x || fq y) a b) fun v => P.oT (ej v) (K' v)))
   | .slice t x lo hi mx => oO (dI T tm x) fun x => P.oT (ej x) (oO (eQ (dI T tm) lo) fun lo => P.oT (pf lo) (oO (eQ (dI T tm) hi) fun hi => P.oT (pf hi) (oO (eQ (dI T tm) mx) fun mx => P.oT (pf mx)
     (P.oV (dN o.dst) (cS T t x lo hi mx) fun v => P.oT (ej v) (K' v)))))
   | _ => False) (fun v => oO (jN nt tm o.dst v) fun tm => ip P T nt ops js tm K)
  | none => False
def sK (P : Prims) (T : Tab) (nt : Nat) (ops : Array Oper) : List Nat -> Nat -> VM -> AS -> (VM -> AS -> Prop) -> Prop
 | [], k0, tm, σ, K => tM P T nt ops k0 ops.size tm σ K
 | b :: bs, k0, tm, σ, K => tM P T nt ops k0 b tm σ fun tm σ => match ops[b]? with
  | some o => match barOK ops.size b (nA ops) with
   | true => lv P T nt ops [(o.guard, [o])] tm σ fun tm σ => sK P T nt ops bs (b + 1) tm σ K
   | false => False
  | none => False
def vc (P : Prims) (T : Tab) (nt : Nat) : Code -> AN -> VM -> AS -> (AX -> VM -> AS -> Prop) -> Prop
 | .skip, _, tm, σ, K => K .norm tm σ
 | .label _, _, tm, σ, K => K .norm tm σ
 | .region _ ops false, _, tm, σ, K => lv P T nt ops (lh ops.toList) tm σ (K .norm)
 | .region _ ops true, _, tm, σ, K => match kg T ops.toList 0 with
  | [] => iT P T nt ops σ.h σ.n (nA ops) (lh ops.toList) 0 tm [] [] σ.n fun tm news n => match news with
   | [] => K .norm tm ⟨σ.h, n⟩
   | _ => P.oS ⟨lay σ.h news, n⟩ fun σ => K .norm tm σ
  | b :: bs => match vp T ops with
   | [] => sK P T nt ops (b :: bs) 0 tm σ (K .norm)
   | j :: js => match np (j :: js) ops with
    | true => ip P T nt ops (j :: js) tm fun tm => sK P T nt (dL (j :: js) ops) (b :: bs) 0 tm σ (K .norm)
    | false => False
 | .seq a b, .seq none x y, tm, σ, K => vc P T nt a x tm σ fun
  | .norm => fun tm σ => vc P T nt b y tm σ K
  | .exit i => K (.exit i)
  | .ret => K .ret
 | .seq a b, .seq (some L) x y, tm, σ, K => P.oJ L (fun k => vc P T nt a x tm σ fun
  | .norm => fun tm σ => gO L tm k σ
  | .exit i => K (.exit i)
  | .ret => K .ret) (hJ L [] fun tm σ => vc P T nt b y tm σ K)
 | .cond c a b, .two x y, tm, σ, K => oO (dI T tm c) fun v => P.oI v (vc P T nt a x tm σ K) (vc P T nt b y tm σ K)
 | .block id c, .one x, tm, σ, K => vc P T nt c x tm σ fun
  | .norm => K .norm
  | .exit j => match Nat.beq j id with
   | true => K .norm
   | false => K (.exit j)
  | .ret => K .ret
 | .loop c, .loop L x, tm, σ, K => gO L tm (P.oL L fun R => hJ L [] fun tm σ => vc P T nt c x tm σ fun
  | .norm => fun tm σ => gO L tm R σ
  | .exit i => K (.exit i)
  | .ret => K .ret) σ
 | .exit id, _, tm, σ, K => K (.exit id) tm σ
 | .scope c, .one x, tm, σ, K => vc P T nt c x tm σ K
 | .ret, _, tm, σ, K => K .ret tm σ
 | _, _, _, _, _ => False
def wU (P : Prims) (T : Tab) (tm : VM) (h : Tr AB) : List ResultVar -> (List AV -> Prop) -> Prop
 | [], K => K []
 | .tmp t :: rs, K => oO (jS tm t) fun a => wU P T tm h rs fun as => K (a :: as)
 | .cell a t :: rs, K => oO (jS tm a) fun p => P.oV a (ac T h t p) fun v => wU P T tm h rs fun as => K (v :: as)
def bI (P : Prims) (T : Tab) (fn : Func) (c : Code) (an : AN) (args : List AV) (σ : AS) (Q : AV -> AS -> Prop) : Prop :=
 vc P T (Nat.max args.length fn.ntmps) c an (argL args 0) σ fun
  | .exit _ => fun _ _ => False
  | _ => fun tm σ => wU P T tm σ.h fn.results.toList fun vs => Q (fe vs) σ
set_option linter.unusedSimpArgs false
set_option linter.unusedVariables false
def Sub (tm : VM) (tm' : Tr AV) : Prop := ∀ t v, jS tm t = some v -> tm'.get t = some v
theorem mX (k : Nat) (v : AV) (r : VM) (n : Nat) : jS ((k, v) :: r) n = if n = k then some v else jS r n := by
 show (match Nat.beq k n with | true => some v | false => jS r n) = _
 by_cases h : n = k
 ·subst h; rw [Nat.beq_refl, if_pos rfl]
 ·have : Nat.beq k n = false := by
   cases hb : Nat.beq k n with
   | false => rfl
   | true => exact absurd (Nat.eq_of_beq_eq_true hb).symm h
  rw [this, if_neg h]
theorem Sub.put {a : VM} {b : Tr AV} (h : Sub a b) (t : Nat) (v : AV) : Sub ((t, v) :: a) (b.put t (some v)) := fun s w q => by
 rw [mX] at q
 rw [Tr.get_put]
 split
 ·rename_i e; rw [if_pos e] at q; exact q
 ·rename_i e; rw [if_neg e] at q; exact h s w q
def Le (ρ ρ' : Operand -> Option AV) : Prop := ∀ x a, ρ x = some a -> ρ' x = some a
theorem Sub.le {T : Tab} {a : VM} {b : Tr AV} (h : Sub a b) : Le (dI T a) (ci T b) := fun x v q => by
 cases x with
 | tmp t => exact h t v q
 | const c => exact q
 | global g => exact q
 | func f => exact q
section
variable {T : Tab} {ρ ρ' : Operand -> Option AV} (hρ : Le ρ ρ')
theorem db (hρ : Le ρ ρ') : ∀ {xs : List Operand} {as : List AV}, bH ρ xs = some as -> bH ρ' xs = some as
 | [], as, h => h
 | x :: xs, as, h => by
  unfold bH at h |-
  split at h
  ·rename_i a bs h1 h2
   rw [hρ _ _ h1, db hρ h2]; exact h
  ·cases h
theorem jO (hρ : Le ρ ρ') : ∀ {xs : List (Nat × Operand)} {as : List (Nat × AV)}, fR ρ xs = some as -> fR ρ' xs = some as
 | [], as, h => h
 | (i, x) :: xs, as, h => by
  unfold fR at h |-
  split at h
  ·rename_i a bs h1 h2
   rw [hρ _ _ h1, jO hρ h2]; exact h
  ·cases h
theorem iE (hρ : Le ρ ρ') {x : Option Operand} {a : Option AV} (h : eQ ρ x = some a) : eQ ρ' x = some a := by
 unfold eQ at h |-
 split at h
 ·exact h
 ·split at h
  ·rename_i b h1; simp only [hρ _ _ h1]; exact h
  ·cases h
theorem aE {α : Type} {r : Option α} {K : α -> Prop} (h : oO r K) : ∃ a, r = some a /\ K a := by
 unfold oO at h; split at h
 ·exact ⟨_, rfl, h⟩
 ·exact h.elim
theorem cA {d : Nat} {r : Option AV} {K : AV -> Prop} (h : oV d r K) : ∃ a, r = some a /\ K a := by
 unfold oV at h; split at h
 ·exact ⟨_, rfl, h⟩
 ·exact h.elim
theorem py (hρ : Le ρ ρ') {d : Nat} {h : Tr AB} {K : AV -> Prop} {op : Op} (hv : pz (av T) T d h ρ K op) : ∃ v, bq T h ρ' op = some v /\ K v := by
 cases op with
 | move x => obtain ⟨a, h1, h2⟩ := aE hv; exact ⟨a, hρ _ _ h1, h2⟩
 | assign x => obtain ⟨a, h1, h2⟩ := aE hv; exact ⟨a, hρ _ _ h1, h2⟩
 | pick c a b =>
  obtain ⟨c', h1, h2⟩ := aE hv
  obtain ⟨v, h3, h4⟩ := cA (d := d) h2
  refine ⟨v, ?_, h4⟩
  unfold au at h3
  split at h3
  ·simp only [bq, hρ _ _ h1]; exact hρ _ _ h3
  ·simp only [bq, hρ _ _ h1]; exact hρ _ _ h3
  ·cases h3
 | nilCheck x =>
  obtain ⟨a, h1, h2⟩ := aE hv
  obtain ⟨v, h3, h4⟩ := cA (d := d) h2
  refine ⟨v, ?_, h4⟩
  simp only [bq, hρ _ _ h1]
  cases a <;> first | exact h3 | cases h3
 | binOp op t x y u =>
  obtain ⟨a, h1, h2⟩ := aE hv
  obtain ⟨b, h3, h4⟩ := aE h2
  obtain ⟨v, h5, h6⟩ := cA (d := d) h4
  exact ⟨v, by simp only [bq, hρ _ _ h1, hρ _ _ h3, h5], h6⟩
 | unOp op t x =>
  obtain ⟨a, h1, h2⟩ := aE hv
  obtain ⟨v, h3, h4⟩ := cA (d := d) h2
  exact ⟨v, by simp only [bq, hρ _ _ h1, h3], h4⟩
 | convert s t x =>
  obtain ⟨a, h1, h2⟩ := aE hv
  obtain ⟨v, h3, h4⟩ := cA (d := d) h2
  exact ⟨v, by simp only [bq, hρ _ _ h1, h3], h4⟩
 | makeInterface t x =>
  simp only [pz] at hv
  split at hv
  ·exact hv.elim
  ·rename_i d' hne hd
   obtain ⟨a, h1, h2⟩ := aE hv
   refine ⟨_, ?_, h2⟩
   simp only [bq, hd, hρ _ _ h1, Option.map_some]
  ·exact hv.elim
 | makeFunc fn fs cs =>
  cases fn with
  | func f =>
   obtain ⟨a, h1, h2⟩ := aE hv
   obtain ⟨b, h3, h4⟩ := aE h2
   exact ⟨_, by simp only [bq, db hρ h1, db hρ h3], h4⟩
  | _ => exact hv.elim
 | slice t x lo hi mx =>
  obtain ⟨a, h1, h2⟩ := aE hv
  obtain ⟨l, h3, h4⟩ := aE h2
  obtain ⟨r, h5, h6⟩ := aE h4
  obtain ⟨m, h7, h8⟩ := aE h6
  obtain ⟨v, h9, h10⟩ := cA (d := d) h8
  exact ⟨v, by simp only [bq, hρ _ _ h1, iE hρ h3, iE hρ h5, iE hρ h7, h9], h10⟩
 | fieldAddr s x f =>
  simp only [pz] at hv
  split at hv
  ·rename_i fs hs
   split at hv
   ·rename_i fd hf
    split at hv
    ·rename_i z hz
     obtain ⟨a, h1, h2⟩ := aE hv
     obtain ⟨v, h3, h4⟩ := cA (d := d) h2
     refine ⟨v, ?_, h4⟩
     simp only [bq, hs, hf, hz, hρ _ _ h1]
     cases a <;> first | exact h3 | cases h3
    ·exact hv.elim
   ·exact hv.elim
  ·exact hv.elim
 | field s x f =>
  simp only [pz] at hv
  split at hv
  ·rename_i fs hs
   split at hv
   ·rename_i fd hf
    obtain ⟨a, h1, h2⟩ := aE hv
    obtain ⟨v, h3, h4⟩ := cA (d := d) h2
    refine ⟨v, ?_, h4⟩
    simp only [bq, hs, hf, hρ _ _ h1]
    cases a <;> first | exact h3 | cases h3
   ·exact hv.elim
  ·exact hv.elim
 | indexAddr t x ix =>
  obtain ⟨a, h1, h2⟩ := aE hv
  obtain ⟨b, h3, h4⟩ := aE h2
  obtain ⟨v, h5, h6⟩ := cA (d := d) h4
  exact ⟨v, by simp only [bq, hρ _ _ h1, hρ _ _ h3, h5], h6⟩
 | index t x ix =>
  obtain ⟨a, h1, h2⟩ := aE hv
  obtain ⟨b, h3, h4⟩ := aE h2
  obtain ⟨v, h5, h6⟩ := cA (d := d) h4
  exact ⟨v, by simp only [bq, hρ _ _ h1, hρ _ _ h3, h5], h6⟩
 | build t ps =>
  obtain ⟨a, h1, h2⟩ := aE hv
  obtain ⟨v, h3, h4⟩ := cA (d := d) h2
  exact ⟨v, by simp only [bq, jO hρ h1, h3], h4⟩
 | extract t n =>
  obtain ⟨a, h1, h2⟩ := aE hv
  obtain ⟨v, h3, h4⟩ := cA (d := d) h2
  refine ⟨v, ?_, h4⟩
  simp only [bq, hρ _ _ h1]
  cases a <;> first | exact h3 | cases h3
 | load t a =>
  obtain ⟨a, h1, h2⟩ := aE hv
  obtain ⟨v, h3, h4⟩ := cA (d := d) h2
  refine ⟨v, ?_, h4⟩
  simp only [bq, hρ _ _ h1]
  cases a <;> first | exact h3 | cases h3
 | lookup t m k ok =>
  obtain ⟨a, h1, h2⟩ := aE hv
  obtain ⟨b, h3, h4⟩ := aE h2
  obtain ⟨v, h5, h6⟩ := cA (d := d) h4
  exact ⟨v, by simp only [bq, hρ _ _ h1, hρ _ _ h3, h5], h6⟩
 | call c =>
  obtain ⟨callee, args, ts⟩ := c
  cases callee with
  | builtin b =>
   obtain ⟨a, h1, h2⟩ := aE hv
   obtain ⟨v, h3, h4⟩ := cA (d := d) h2
   exact ⟨v, by simp only [bq, db hρ h1, h3], h4⟩
  | _ => exact hv.elim
 | _ => exact hv.elim
theorem tO (hρ : Le ρ ρ') {K : AB -> (Nat -> AV) -> Prop} {op : Op} (hv : wV (av T) T ρ K op) : ∃ b f, eD T ρ' op = some (b, f) /\ K b f := by
 have eG : ∀ {r : Option (AB × (Nat -> AV))}, oE r K -> ∃ b f, r = some (b, f) /\ K b f := by
  intro r h; unfold oE at h; split at h
  ·exact ⟨_, _, rfl, h⟩
  ·exact h.elim
 cases op with
 | alloc e => obtain ⟨z, h1, h2⟩ := aE hv; exact ⟨_, _, by simp only [eD, h1], h2⟩
 | box e x => obtain ⟨z, h1, h2⟩ := aE hv; exact ⟨_, _, by simp only [eD, hρ _ _ h1], h2⟩
 | makeMap t r =>
  cases r with
  | none => exact ⟨_, _, rfl, hv⟩
  | some r => exact hv.elim
 | buildSlice t len ps =>
  simp only [wV] at hv
  split at hv
  ·exact hv.elim
  rename_i hice
  obtain ⟨as, h1, h2⟩ := aE hv
  obtain ⟨b, f, h3, h4⟩ := eG h2
  refine ⟨b, f, ?_, h4⟩
  unfold vx at h3
  split at h3
  ·rename_i e he
   split at h3
   ·rename_i n z hn hz
    simp only [eD, hice, he, hn, hz, jO hρ h1]; exact h3
   ·cases h3
  ·cases h3
 | makeSlice t l c =>
  obtain ⟨l', h1, h2⟩ := aE hv
  obtain ⟨c', h3, h4⟩ := aE h2
  obtain ⟨b, f, h5, h6⟩ := eG h4
  refine ⟨b, f, ?_, h6⟩
  unfold qI at h5
  split at h5
  ·rename_i e he
   split at h5
   ·rename_i n z by_ hn hz hb
    split at h5
    ·simp only [eD, he, hn, hz, hb, hρ _ _ h1, hρ _ _ h3]; exact h5
    ·cases h5
   ·cases h5
  ·cases h5
 | convert s d x =>
  obtain ⟨a, h1, h2⟩ := aE hv
  obtain ⟨b, f, h3, h4⟩ := eG h2
  refine ⟨b, f, ?_, h4⟩
  unfold yJ at h3
  split at h3
  ·rename_i hs hd
   split at h3
   ·rename_i q1 q2 q3
    simp only [eD, hs, hd, q1, q2, q3, hρ _ _ h1]; exact h3
   ·cases h3
  ·cases h3
 | range t x =>
  obtain ⟨a, h1, h2⟩ := aE hv
  obtain ⟨b, f, h3, h4⟩ := eG h2
  refine ⟨b, f, ?_, h4⟩
  unfold mt at h3
  split at h3
  ·rename_i q1
   simp only [eD, q1, hρ _ _ h1]; exact h3
  ·cases h3
 | _ => exact hv.elim
theorem tA {h : Tr AB} {s d : Nat} {a : AV} (hd : qp (T.ty d) = true) : cR T h s d a = none := by
 unfold qp at hd
 split at hd
 ·rename_i e he
  unfold cR
  rw [he]
  split <;> first | rfl | (rename_i heq; cases heq) | skip
  all_goals (rename_i h1 h2; first | (cases h2) | (cases h1))
 ·cases hd
theorem rM {h : Tr AB} {op : Op} (hk : dH T op = 1) : bq T h ρ op = none := by
 cases op with
 | convert s d x =>
  simp only [dH] at hk
  split at hk
  ·rename_i hd
   simp only [bq]
   split
   ·exact tA hd
   ·rfl
  ·cases hk
 | call c =>
  obtain ⟨callee, args, ts⟩ := c
  cases callee with
  | builtin b => cases b <;> cases hk
  | _ => cases hk
 | _ => first | rfl | cases hk
theorem na {h : Tr AB} {op : Op} (hk : dH T op = 2) : bq T h ρ op = none /\ eD T ρ op = none := by
 cases op with
 | buildSlice t len ps =>
  simp only [dH] at hk
  split at hk
  ·rename_i hi
   exact ⟨rfl, by simp only [eD, hi]⟩
  ·cases hk
 | convert s d x =>
  simp only [dH] at hk
  split at hk <;> cases hk
 | call c =>
  obtain ⟨callee, args, ts⟩ := c
  cases callee with
  | builtin b =>
   cases b <;> first
    | (cases hk; done)
    | (refine ⟨?_, rfl⟩
       simp only [bq]
       split
       ·rfl
       ·rfl)
  | value f => exact ⟨rfl, rfl⟩
  | invoke a b => cases hk
 | _ => first | exact ⟨rfl, rfl⟩ | cases hk
theorem zE {op : Op} (hk : dH T op = 0) : eD T ρ op = none := by
 cases op with
 | buildSlice t len ps =>
  simp only [dH] at hk
  split at hk <;> cases hk
 | convert s d x =>
  simp only [dH] at hk
  split at hk
  ·cases hk
  ·rename_i hd
   simp only [eD]
   split
   ·rename_i e he
    rw [he] at hd; cases hd
   ·rfl
 | _ => first | rfl | cases hk
theorem xH (op : Op) : dH T op = 0 ∨ dH T op = 1 ∨ dH T op = 2 := by
 cases op <;> simp only [dH] <;> first | simp | skip
 all_goals split <;> simp
end
section
variable {T : Tab} {nt : Nat}
theorem vcMod_ok {ρ ρ' : Operand -> Option AV} (hρ : Le ρ ρ') (hfn : ∀ f, ρ' (.func f) = some (.fn f [] [])) {d : Nat} {σ : AS} {K : AV -> AS -> Prop} {op : Op} (hv : pE (av T) T d σ ρ K op) : ∃ k v σ', fw T (aJ T k) σ ρ' op = some (v, σ') /\ K v σ' := by
 have aM : ∀ {r : Option (AV × AS)}, oM d r K -> ∃ v σ', r = some (v, σ') /\ K v σ' := by
  intro r h; unfold oM at h; split at h
  ·exact ⟨_, _, rfl, h⟩
  ·exact h.elim
 have aF : ∀ {r : Option (Tr AB)} {K : AS -> Prop}, oH r σ K -> ∃ h, r = some h /\ K { σ with h := h } := by
  intro r K h; unfold oH at h; split at h
  ·exact ⟨_, rfl, h⟩
  ·exact h.elim
 cases op with
 | buildSlice t len ps =>
  simp only [pE] at hv
  split at hv
  ·rename_i hice
   obtain ⟨as, h1, h2⟩ := aE hv
   obtain ⟨v, h3, h4⟩ := cA (d := d) h2
   exact ⟨0, v, σ, by simp only [fw, qt, hice, jO hρ h1, h3], h4⟩
  ·exact hv.elim
 | store t a v =>
  obtain ⟨p, h1, h2⟩ := aE hv
  obtain ⟨q, h3, h4⟩ := aE h2
  obtain ⟨h', h5, h6⟩ := aF h4
  exact ⟨0, _, _, by simp only [fw, hρ _ _ h1, hρ _ _ h3, h5], h6⟩
 | mapUpdate t m k v =>
  obtain ⟨p, h1, h2⟩ := aE hv
  obtain ⟨q, h3, h4⟩ := aE h2
  obtain ⟨r, h5, h6⟩ := aE h4
  obtain ⟨h', h7, h8⟩ := aF h6
  exact ⟨0, _, _, by simp only [fw, hρ _ _ h1, hρ _ _ h3, hρ _ _ h5, h7], h8⟩
 | insert t m k v =>
  obtain ⟨p, h1, h2⟩ := aE hv
  obtain ⟨q, h3, h4⟩ := aE h2
  obtain ⟨r, h5, h6⟩ := aE h4
  obtain ⟨h', h7, h8⟩ := aF h6
  exact ⟨0, _, _, by simp only [fw, hρ _ _ h1, hρ _ _ h3, hρ _ _ h5, h7], h8⟩
 | next it s =>
  cases s with
  | false => exact hv.elim
  | true =>
   obtain ⟨p, h1, h2⟩ := aE hv
   obtain ⟨v, σ', h3, h4⟩ := aM h2
   exact ⟨0, v, σ', by simp only [fw, hρ _ _ h1, h3], h4⟩
 | call c =>
  obtain ⟨callee, args, ts⟩ := c
  cases callee with
  | builtin b =>
   cases b
   case append =>
    simp only [pE] at hv
    split at hv
    ·rename_i st xt hts
     obtain ⟨as, h1, h2⟩ := aE hv
     split at h2
     ·obtain ⟨v, σ', h3, h4⟩ := aM h2
      exact ⟨0, v, σ', by simp only [fw, hts, db hρ h1, h3], h4⟩
     ·exact h2.elim
    ·exact hv.elim
   case copy =>
    simp only [pE] at hv
    split at hv
    ·rename_i dt r hts
     obtain ⟨as, h1, h2⟩ := aE hv
     split at h2
     ·obtain ⟨v, σ', h3, h4⟩ := aM h2
      exact ⟨0, v, σ', by simp only [fw, hts, db hρ h1, h3], h4⟩
     ·exact h2.elim
    ·exact hv.elim
   case clear =>
    simp only [pE] at hv
    split at hv
    ·rename_i t hts
     obtain ⟨as, h1, h2⟩ := aE hv
     split at h2
     ·obtain ⟨v, σ', h3, h4⟩ := aM h2
      exact ⟨0, v, σ', by simp only [fw, hts, db hρ h1, h3], h4⟩
     ·exact h2.elim
    ·exact hv.elim
   case unsafeString =>
    simp only [pE] at hv
    split at hv
    ·rename_i pt it hts
     obtain ⟨as, h1, h2⟩ := aE hv
     split at h2
     ·obtain ⟨v, σ', h3, h4⟩ := aM h2
      exact ⟨0, v, σ', by simp only [fw, hts, db hρ h1, h3], h4⟩
     ·exact h2.elim
    ·exact hv.elim
   all_goals exact hv.elim
  | value f =>
   have dyn : (oO (ρ f) fun f => oO (bH ρ args.toList) fun args => oF T d f args σ K) -> ∃ k v σ', fw T (aJ T k) σ ρ' (.call ⟨.value f, args, ts⟩) = some (v, σ') /\ K v σ' := by
    intro hv
    obtain ⟨p, h1, h2⟩ := aE hv
    obtain ⟨as, h3, h4⟩ := aE h2
    unfold oF at h4
    split at h4
    ·obtain ⟨k, v, σ', h5, h6⟩ := h4
     exact ⟨k, v, σ', by simp only [fw, hρ _ _ h1, db hρ h3, h5], h6⟩
    ·exact h4.elim
   cases f with
   | func f =>
    obtain ⟨as, h3, h4⟩ := aE hv
    obtain ⟨k, v, σ', h5, h6⟩ := h4
    refine ⟨k, v, σ', ?_, h6⟩
    have e : bH ρ' args.toList = some as := db hρ h3
    simp only [fw, e, hfn f, List.nil_append, List.append_nil, h5]
   | _ => exact dyn hv
  | invoke a b => exact hv.elim
 | _ => exact hv.elim
theorem vcOp_ok {tm : VM} {tm' : Tr AV} (hs : Sub tm tm') {d : Nat} {σ : AS} {o : Oper} {K : AV -> AS -> Prop} (hv : vcOp (av T) T d σ (dI T tm) o.op K) : ∃ k v σ', qH T (aJ T k) tm' σ o = some (v, σ') /\ K v σ' := by
 have hρ := hs.le (T := T)
 unfold vcOp at hv
 rcases xH (T := T) o.op with hk | hk | hk <;> rw [hk] at hv
 ·obtain ⟨v, h1, h2⟩ := py hρ hv
  exact ⟨0, v, σ, by unfold qH; rw [h1], h2⟩
 ·obtain ⟨b, f, h1, h2⟩ := tO hρ hv
  refine ⟨0, f σ.n, ⟨σ.h.put σ.n (some b), σ.n + 1⟩, ?_, h2⟩
  unfold qH
  rw [rM hk, h1]
 ·obtain ⟨k, v, σ', h1, h2⟩ := vcMod_ok hρ (fun f => rfl) hv
  refine ⟨k, v, σ', ?_, h2⟩
  unfold qH
  rw [(na (h := σ.h) hk).1, (na (h := σ.h) hk).2, h1]
theorem fb {tm a : VM} {tm' : Tr AV} (hs : Sub tm tm') {dst : Option Nat} {v : AV} (h : jN nt tm dst v = some a) : ∃ a', dK nt tm' dst v = some a' /\ Sub a a' := by
 unfold jN at h
 unfold dK
 split at h
 ·injection h with h; subst h; exact ⟨_, rfl, hs⟩
 ·rename_i d
  split at h
  ·rename_i hd; injection h with h; subst h; exact ⟨_, by simp only [hd], hs.put d _⟩
  ·cases h
theorem eU {F : VM -> AS -> Prop} {σ : AS} {tm1 : VM} : ∀ (L : List Nat) (tm0 : VM), gO L tm1 (hJ L tm0 F) σ -> ∃ tm2, F tm2 σ /\ ∀ t v, jS tm2 t = some v -> (t ∈ L /\ jS tm1 t = some v) ∨ (t ∉ L /\ jS tm0 t = some v)
 | [], tm0, h => ⟨tm0, h, fun t v q => .inr ⟨by simp, q⟩⟩
 | s :: L, tm0, h => by
  cases hw : jS tm1 s with
  | some w =>
   simp only [gO, hw] at h
   obtain ⟨tm2, h1, h2⟩ := eU L ((s, w) :: tm0) h
   refine ⟨tm2, h1, fun t v q => ?_⟩
   rcases h2 t v q with ⟨q1, q2⟩ | ⟨q1, q2⟩
   ·exact .inl ⟨List.mem_cons_of_mem _ q1, q2⟩
   ·rw [mX] at q2
    split at q2
    ·rename_i e; subst e; injection q2 with q2; subst q2
     exact .inl ⟨List.mem_cons_self, hw⟩
    ·rename_i e
     exact .inr ⟨by simp [e, q1], q2⟩
  | none => simp only [gO, hw] at h
theorem rL {F G : VM -> AS -> Prop} (h : ∀ tm σ, F tm σ -> G tm σ) : ∀ (L : List Nat) (tm : VM), leC L.length (hJ L tm F) (hJ L tm G)
 | [], tm => fun σ hf => h tm σ hf
 | s :: L, tm => fun v => rL h L ((s, v) :: tm)
theorem qR {α : Type} {p : α -> Prop} {σ : AS} {tm : VM} : ∀ (L : List Nat) (g : α -> Cur L.length), gO L tm (infC p L.length g) σ -> ∀ a, p a -> gO L tm (g a) σ
 | [], g, h, a, ha => h a ha
 | s :: L, g, h, a, ha => by
  cases hw : jS tm s with
  | some w => simp only [gO, hw] at h |-; exact qR L _ h a ha
  | none => simp only [gO, hw] at h
def pd : List Nat -> Tr AV -> Tr AV
 | [], tm => tm
 | t :: L, tm => pd L (tm.put t (some (.tup [])))
def pY : List Nat -> VM -> VM
 | [], tm => tm
 | t :: L, tm => pY L ((t, .tup []) :: tm)
theorem jF {F : VM -> AS -> Prop} {σ : AS} : ∀ (L : List Nat) (tm : VM), eW L.length (hJ L tm F) σ -> F (pY L tm) σ
 | [], tm, h => h
 | s :: L, tm, h => jF L _ h
theorem jM : ∀ (L : List Nat) {a : VM} {b : Tr AV}, Sub a b -> Sub (pY L a) (pd L b)
 | [], _, _, h => h
 | s :: L, _, _, h => jM L (h.put s _)
theorem qF {c : Nat -> List AV -> AS -> Option (AV × AS)} {ops : Array Oper} (o : Oper) (os : List Oper) (tm : Tr AV) (σ : AS) : dJ T c nt ops (o :: os) tm σ = match cW ops tm o with
  | some true => match qH T c tm σ o with
   | some (v, σ) => match dK nt tm o.dst v with
    | some tm => dJ T c nt ops os tm σ
    | none => none
   | none => none
  | some false => match dK nt tm o.dst (.tup []) with
   | some tm => dJ T c nt ops os tm σ
   | none => none
  | none => none := rfl
theorem nq {c : Nat -> List AV -> AS -> Option (AV × AS)} {ops : Array Oper} : ∀ (l r : List Oper) (tm : Tr AV) (σ : AS), dJ T c nt ops (l ++ r) tm σ = match dJ T c nt ops l tm σ with
  | some (tm, σ) => dJ T c nt ops r tm σ
  | none => none
 | [], r, tm, σ => rfl
 | o :: l, r, tm, σ => by
  rw [List.cons_append, qF, qF]
  split
  ·split
   ·split
    ·exact nq l r _ _
    ·rfl
   ·rfl
  ·split
   ·exact nq l r _ _
   ·rfl
  ·rfl
theorem uE {x : Nat} : ∀ {l : List Nat}, be x l = true ↔ x ∈ l
 | [] => by simp [be]
 | y :: l => by
  simp only [be, Bool.or_eq_true, uE (l := l), List.mem_cons]
  constructor
  ·rintro (h | h)
   ·exact .inl (Nat.eq_of_beq_eq_true h)
   ·exact .inr h
  ·rintro (rfl | h)
   ·exact .inl (Nat.beq_refl _)
   ·exact .inr h
theorem ux {x : Nat} {l : List Nat} (h : be x l = false) : x ∉ l := fun q => by rw [uE.2 q] at h; cases h
theorem ni : ∀ (l : List Oper), (lh l).flatMap (·.2) = l /\ ∀ g l', (g, l') ∈ lh l -> ∀ o ∈ l', o.guard = g
 | [] => ⟨rfl, fun g l' h => by cases h⟩
 | o :: os => by
  obtain ⟨h1, h2⟩ := ni os
  have same : ∀ {a b : Option (Nat × Bool)}, sameG a b = true -> a = b := by
   intro a b h
   unfold sameG at h
   split at h
   ·rfl
   ·simp only [Bool.and_eq_true, beq_iff_eq] at h
    rw [Nat.eq_of_beq_eq_true h.1, h.2]
   ·cases h
  unfold lh
  split
  ·rename_i g l r hg
   rw [hg] at h1 h2
   split
   ·rename_i hs
    refine ⟨by simpa using h1, fun g' l' hm o' ho => ?_⟩
    rcases List.mem_cons.1 hm with hm | hm
    ·simp only [Prod.mk.injEq] at hm; obtain ⟨rfl, rfl⟩ := hm
     rcases List.mem_cons.1 ho with rfl | ho
     ·exact same hs
     ·exact h2 _ _ List.mem_cons_self _ ho
    ·exact h2 _ _ (List.mem_cons_of_mem _ hm) _ ho
   ·refine ⟨by simpa using h1, fun g' l' hm o' ho => ?_⟩
    rcases List.mem_cons.1 hm with hm | hm
    ·simp only [Prod.mk.injEq] at hm; obtain ⟨rfl, rfl⟩ := hm
     simp only [List.mem_singleton] at ho; subst ho; rfl
    ·exact h2 _ _ hm _ ho
  ·rename_i hg
   rw [hg] at h1 h2
   simp only [List.flatMap_nil] at h1
   subst h1
   refine ⟨rfl, fun g' l' hm o' ho => ?_⟩
   simp only [List.mem_singleton, Prod.mk.injEq] at hm; obtain ⟨rfl, rfl⟩ := hm
   simp only [List.mem_singleton] at ho; subst ho; rfl
theorem pD {ops : Array Oper} (want : Tr AV -> Prop) : ∀ (l : List Oper) (tm : VM) (tm' : Tr AV) (σ : AS) (K : VM -> AS -> Prop), (∀ o ∈ l, ∀ tm, want tm -> cW ops tm o = some true) ->
  (∀ o ∈ l, ∀ tm tm' v, want tm -> dK nt tm o.dst v = some tm' -> want tm') -> want tm' -> Sub tm tm' -> tN (av T) T nt l tm σ K ->
  ∃ k tm1' σ1 tm1, dJ T (aJ T k) nt ops l tm' σ = some (tm1', σ1) /\ Sub tm1 tm1' /\ K tm1 σ1 /\ want tm1' /\ ∀ t, t ∉ aR l -> tm1'.get t = tm'.get t
 | [], tm, tm', σ, K, _, _, hw, hs, hv => ⟨0, tm', σ, tm, rfl, hs, hv, hw, fun _ _ => rfl⟩
 | o :: os, tm, tm', σ, K, h1, h2, hw, hs, hv => by
  obtain ⟨k1, v, σ', e1, e2⟩ := vcOp_ok hs hv
  obtain ⟨a, e3, e4⟩ := aE e2
  obtain ⟨a', e5, e6⟩ := fb hs e3
  obtain ⟨k2, tm1', σ1, tm1, e7, e8, e9, e10, e11⟩ := pD want os a a' σ' K (fun o ho => h1 o (List.mem_cons_of_mem _ ho)) (fun o ho => h2 o (List.mem_cons_of_mem _ ho)) (h2 o List.mem_cons_self _ _ _ hw e5) e6 e4
  refine ⟨max k1 k2, tm1', σ1, tm1, ?_, e8, e9, e10, fun t ht => ?_⟩
  ·unfold dJ
   rw [h1 o List.mem_cons_self _ hw, so (aT k1 (max k1 k2) (Nat.le_max_left _ _)) e1]
   simp only
   rw [e5]
   exact dR (aT k2 (max k1 k2) (Nat.le_max_right _ _)) _ _ _ _ e7
  ·have hd : t ∉ aR os /\ ∀ d, o.dst = some d -> t ≠ d := by
    unfold aR at ht
    split at ht
    ·rename_i d hd; simp only [List.mem_cons, not_or] at ht; exact ⟨ht.2, fun e he => by rw [hd] at he; injection he with he; subst he; exact ht.1⟩
    ·rename_i hd; exact ⟨ht, fun e he => by rw [hd] at he; cases he⟩
   rw [e11 t hd.1]
   unfold dK at e5
   split at e5
   ·injection e5 with e5; rw [e5]
   ·rename_i d hdd
    split at e5
    ·injection e5 with e5; rw [<- e5, Tr.get_put, if_neg (hd.2 d hdd)]
    ·cases e5
theorem uF {l : List Nat} {nt : Nat} (h : Nat.ble (l.foldr Nat.max 0 + 1) nt = true) : ∀ t ∈ l, t < nt := by
 have h' := Nat.le_of_ble_eq_true h
 have : ∀ (l : List Nat), ∀ t ∈ l, t <= l.foldr Nat.max 0 := by
  intro l
  induction l with
  | nil => intro t ht; cases ht
  | cons a l ih =>
   intro t ht
   simp only [List.foldr_cons]
   rcases List.mem_cons.1 ht with rfl | ht
   ·exact Nat.le_max_left _ _
   ·exact Nat.le_trans (ih t ht) (Nat.le_max_right _ _)
 intro t ht
 have := this l t ht
 omega
theorem sQ {c : Nat -> List AV -> AS -> Option (AV × AS)} {ops : Array Oper} (want : Tr AV -> Prop) : ∀ (l : List Oper) (tm' : Tr AV) (σ : AS), (∀ o ∈ l, ∀ tm, want tm -> cW ops tm o = some false) ->
  (∀ o ∈ l, ∀ tm tm' v, want tm -> dK nt tm o.dst v = some tm' -> want tm') -> want tm' -> (∀ t ∈ aR l, t < nt) -> dJ T c nt ops l tm' σ = some (pd (aR l) tm', σ)
 | [], tm', σ, _, _, _, _ => rfl
 | o :: os, tm', σ, h1, h2, hw, hn => by
  unfold dJ
  rw [h1 o List.mem_cons_self _ hw]
  simp only
  cases hd : o.dst with
  | none =>
   have e : aR (o :: os) = aR os := by simp [aR, hd]
   rw [e] at hn |-
   exact sQ want os tm' σ (fun o ho => h1 o (List.mem_cons_of_mem _ ho)) (fun o ho => h2 o (List.mem_cons_of_mem _ ho)) hw hn
  | some d =>
   have e : aR (o :: os) = d :: aR os := by simp [aR, hd]
   rw [e] at hn |-
   have hp : dK nt tm' (some d) (.tup []) = some (tm'.put d (some (.tup []))) := by
    unfold dK
    have : (d + 1).ble nt = true := Nat.ble_eq_true_of_le (hn d List.mem_cons_self)
    simp only [this]
   rw [hp]
   exact sQ want os _ σ (fun o ho => h1 o (List.mem_cons_of_mem _ ho)) (fun o ho => h2 o (List.mem_cons_of_mem _ ho)) (h2 o List.mem_cons_self _ _ _ hw (by rw [hd]; exact hp)) (fun t ht => hn t (List.mem_cons_of_mem _ ht))
theorem wT {ops : Array Oper} {j e : Nat} {want : Bool} {oj : Oper} (hj : ops[j]? = some oj) (he : oj.dst = some e) {o : Oper} (hg : o.guard = some (j, want)) {tm : Tr AV} {x : AV} (hx : tm.get e = some x) :
  (∀ b, x = .b b -> cW ops tm o = some (b == want)) /\ (x = .tup [] -> cW ops tm o = some false) := by
 unfold cW
 rw [hg]
 simp only [hj, he, hx]
 exact ⟨fun b h => by subst h; rfl, fun h => by subst h; rfl⟩
theorem xI {e : Nat} {x : AV} {l : List Oper} (hne : e ∉ aR l) : ∀ o ∈ l, ∀ (tm tm' : Tr AV) (v : AV), tm.get e = some x -> dK nt tm o.dst v = some tm' -> tm'.get e = some x := by
 intro o ho tm tm' v h1 h2
 unfold dK at h2
 split at h2
 ·injection h2 with h2; rw [<- h2]; exact h1
 ·rename_i d hd
  split at h2
  ·injection h2 with h2
   rw [<- h2, Tr.get_put, if_neg]
   ·exact h1
   ·intro q; subst q
    refine hne ?_
    clear h1 h2
    induction l with
    | nil => cases ho
    | cons a l ih =>
     unfold aR
     rcases List.mem_cons.1 ho with rfl | ho
     ·rw [hd]; exact List.mem_cons_self
     ·split
      ·rename_i d' hd'
       have : e ∉ aR l := fun q => hne (by unfold aR; rw [hd']; exact List.mem_cons_of_mem _ q)
       exact List.mem_cons_of_mem _ (ih this ho)
      ·rename_i hd'
       have : e ∉ aR l := fun q => hne (by unfold aR; rw [hd']; exact q)
       exact ih this ho
  ·cases h2
theorem uw {L : List Nat} {c : AV} {w : Bool} {body : Cur L.length -> Prop} {σ : AS} {K : Cur L.length} (h : oG L c w body σ K) : (c = .b w /\ body K) ∨ ((∃ x, c = .b x /\ (x == w) = false) /\ eW L.length K σ) ∨ (c = .tup [] /\ eW L.length K σ) := by
 unfold oG at h
 split at h
 ·rename_i x
  by_cases e : x = w
  ·subst e; exact .inl ⟨rfl, h.1 (by simp)⟩
  ·have : (x == w) = false := by simpa using e
   exact .inr (.inl ⟨⟨x, rfl, this⟩, h.2 this⟩)
 ·exact .inr (.inr ⟨rfl, h⟩)
 ·exact h.elim
theorem pC {ops : Array Oper} : ∀ (gs : List (Option (Nat × Bool) × List Oper)), (∀ g l, (g, l) ∈ gs -> ∀ o ∈ l, o.guard = g) -> ∀ (tm : VM) (tm' : Tr AV) (σ : AS) (K : VM -> AS -> Prop), Sub tm tm' -> lv (av T) T nt ops gs tm σ K ->
  ∃ k tm1' σ1 tm1, dJ T (aJ T k) nt ops (gs.flatMap (·.2)) tm' σ = some (tm1', σ1) /\ Sub tm1 tm1' /\ K tm1 σ1
 | [], _, tm, tm', σ, K, hs, hv => ⟨0, tm', σ, tm, rfl, hs, hv⟩
 | (g, l) :: gs, hg, tm, tm', σ, K, hs, hv => by
  have hl := hg g l List.mem_cons_self
  have rest := pC (ops := ops) gs fun g' l' h => hg g' l' (List.mem_cons_of_mem _ h)
  have join : ∀ {k1 : Nat} {a' : Tr AV} {σ1 : AS}, dJ T (aJ T k1) nt ops l tm' σ = some (a', σ1) -> ∀ {a : VM}, Sub a a' -> lv (av T) T nt ops gs a σ1 K ->
    ∃ k tm1' σ1 tm1, dJ T (aJ T k) nt ops (((g, l) :: gs).flatMap (·.2)) tm' σ = some (tm1', σ1) /\ Sub tm1 tm1' /\ K tm1 σ1 := by
   intro k1 a' σ1 h1 a hsa h2
   obtain ⟨k2, tm1', σ2, tm1, e1, e2, e3⟩ := rest a a' σ1 K hsa h2
   refine ⟨max k1 k2, tm1', σ2, tm1, ?_, e2, e3⟩
   rw [List.flatMap_cons, nq, dR (aT k1 (max k1 k2) (Nat.le_max_left _ _)) _ _ _ _ h1]
   exact dR (aT k2 (max k1 k2) (Nat.le_max_right _ _)) _ _ _ _ e1
  cases g with
  | none =>
   obtain ⟨k1, a', σ1, a, e1, e2, e3, _, _⟩ := pD (ops := ops) (fun _ => True) l tm tm' σ _ (fun o ho tm _ => by unfold cW; rw [hl o ho]) (fun _ _ _ _ _ _ _ => trivial) trivial hs hv
   exact join e1 e2 e3
  | some q =>
   obtain ⟨j, want⟩ := q
   simp only [lv] at hv
   split at hv
   ·rename_i oj hj
    split at hv
    ·rename_i e he
     split at hv
     ·rename_i hm hb
      obtain ⟨x, hx, hv⟩ := aE hv
      have hx' := hs _ _ hx
      have hkeep := xI (nt := nt) (x := x) (ux hm)
      have hw : ∀ o ∈ l, ∀ tm : Tr AV, tm.get e = some x -> _ := fun o ho tm h => wT hj he (hl o ho) h
      have void : (∀ o ∈ l, ∀ tm : Tr AV, tm.get e = some x -> cW ops tm o = some false) -> eW (aR l).length (hJ (aR l) tm fun tm σ => lv (av T) T nt ops gs tm σ K) σ ->
        ∃ k tm1' σ1 tm1, dJ T (aJ T k) nt ops (((some (j, want), l) :: gs).flatMap (·.2)) tm' σ = some (tm1', σ1) /\ Sub tm1 tm1' /\ K tm1 σ1 := by
       intro hwant hvoid
       have := jF _ _ hvoid
       exact join (k1 := 0) (sQ (c := aJ T 0) (ops := ops) (fun tm => tm.get e = some x) l tm' σ hwant hkeep hx' (uF hb)) (jM _ hs) this
      rcases uw (show oG (aR l) x want (fun k => tN (av T) T nt l tm σ fun tm σ => gO (aR l) tm k σ) σ (hJ (aR l) tm fun tm σ => lv (av T) T nt ops gs tm σ K) from hv) with ⟨rfl, hb1⟩ | ⟨⟨y, rfl, hy⟩, hvoid⟩ | ⟨rfl, hvoid⟩
      ·obtain ⟨k1, a', σ1, a, e1, e2, e3, _, e5⟩ := pD (ops := ops) (fun tm => tm.get e = some (.b want)) l tm tm' σ _ (fun o ho tm h => by rw [(hw o ho tm h).1 _ rfl]; simp) hkeep hx' hs hb1
       obtain ⟨b, f1, f2⟩ := eU _ _ e3
       refine join e1 (fun t v ht => ?_) f1
       rcases f2 t v ht with ⟨_, q⟩ | ⟨q1, q⟩
       ·exact e2 t v q
       ·rw [e5 t q1]; exact hs t v q
      ·exact void (fun o ho tm h => by rw [(hw o ho tm h).1 _ rfl, hy]) hvoid
      ·exact void (fun o ho tm h => (hw o ho tm h).2 rfl) hvoid
     ·exact hv.elim
    ·exact hv.elim
   ·exact hv.elim
end
section
variable {T : Tab} {nt : Nat}
theorem zx {h h' : Tr AB} (hh : ∀ id b, h.get id = some b -> h'.get id = some b) {a : AV} {cs : List AV} (q : ig h a = some cs) : ig h' a = some cs := by
 unfold ig at q |-
 split at q
 ·split at q
  ·rename_i hb
   rw [hh _ _ hb]; exact q
  ·cases q
 ·exact q
 ·cases q
theorem kK {h h' : Tr AB} (hh : ∀ id b, h.get id = some b -> h'.get id = some b) {n : Nat} {a : AV} {cs : List AV} (q : bo h n a = some cs) : bo h' n a = some cs := by
 unfold bo at q |-
 split at q
 ·exact q
 ·split at q
  ·rename_i hb
   rw [hh _ _ hb]; exact q
  ·cases q
 ·exact q
 ·cases q
def lookB (T : Tab) (t : Nat) (k : AV) (ok : Bool) (b : Option AB) : Option AV :=
 match T.ty t with
 | some (.map kt et) => match T.ty kt, T.zr et with
  | some kd, some z => match jW kd k with
   | true => match (match b with
      | some (.map es) => vq k es
      | _ => none) with
    | some (some v) => some (if ok then .tup [v, .b true] else v)
    | some none => some (if ok then .tup [z, .b false] else z)
    | none => none
   | false => none
  | _, _ => none
 | _ => none
theorem vw {h : Tr AB} {t id : Nat} {k : AV} {ok : Bool} : kb T h t (.mp id) k ok = lookB T t k ok (h.get id) := rfl
theorem wv {t : Nat} {k : AV} {ok : Bool} : lookB T t k ok none = none := by
 unfold lookB
 split
 ·split
  ·split <;> rfl
  ·rfl
 ·rfl
theorem evVal_le {h h' : Tr AB} (hh : ∀ id b, h.get id = some b -> h'.get id = some b) {ρ : Operand -> Option AV} {op : Op} {v : AV} (q : bq T h ρ op = some v) : bq T h' ρ op = some v := by
 cases op with
 | convert s d x =>
  simp only [bq] at q |-
  split at q
  ·unfold cR at q |-
   split at q
   ·split at q
    ·rename_i h1 h2; rw [hh _ _ h1]; simp only [h2]; exact q
    ·cases q
   ·split at q
    ·rename_i h1 h2; rw [hh _ _ h1]; simp only [h2]; exact q
    ·cases q
   ·exact q
   ·exact q
   ·split at q
    ·split at q
     ·exact q
     ·split at q
      ·rename_i hc; rw [kK hh hc]; exact q
      ·cases q
     ·split at q
      ·rename_i hc; rw [kK hh hc]; exact q
      ·cases q
     ·cases q
    ·cases q
   ·cases q
  ·cases q
 | slice t x lo hi mx =>
  simp only [bq] at q |-
  split at q
  ·unfold aL at q |-
   split at q
   ·exact q
   ·unfold mq at q |-
    split at q
    ·split at q
     ·rename_i h1 h2; simp only [h1, hh _ _ h2]; exact q
     ·cases q
    ·cases q
  ·cases q
 | load t a =>
  simp only [bq] at q |-
  split at q
  ·split at q
   ·rename_i hc; rw [zx hh hc]; exact q
   ·cases q
  ·cases q
 | lookup t m k ok =>
  simp only [bq] at q |-
  split at q
  ·rename_i m' k' _ _
   cases m' with
   | mp id =>
    rw [vw] at q |-
    cases hq : h.get id with
    | some b => rw [hh _ _ hq]; rw [hq] at q; exact q
    | none => rw [hq, wv] at q; cases q
   | _ => exact q
  ·cases q
 | call c =>
  obtain ⟨callee, args, ts⟩ := c
  cases callee with
  | builtin b =>
   simp only [bq] at q |-
   split at q
   ·unfold ak at q |-
    split at q
    ·split at q
     ·split at q
      ·exact q
      ·exact q
      ·exact q
      ·exact q
      ·exact q
      ·exact q
      ·split at q
       ·rename_i hb
        rw [hh _ _ hb]; exact q
       ·cases q
      ·cases q
     ·cases q
    ·exact q
    ·exact q
    ·exact q
    ·exact q
    ·cases q
   ·cases q
  | _ => exact q
 | makeFunc fn fs cs => cases fn <;> exact q
 | _ => exact q
theorem zm {n0 : Nat} {bef : Nat -> List Nat} {bs : List Nat} {news : List (Nat × Nat × Option AB)} {id : Nat} : ∀ {rd rd' : List Nat}, (∀ x ∈ rd', x ∈ rd) -> bU n0 bef bs news id rd = true -> bU n0 bef bs news id rd' = true := by
 have at_ : ∀ {rd : List Nat}, bU n0 bef bs news id rd = true -> ∀ i ∈ rd, (!qZ n0 (bef i) news id || be i bs) = true := by
  intro rd
  induction rd with
  | nil => intro _ i hi; cases hi
  | cons a rd ih =>
   intro h i hi
   simp only [bU, Bool.and_eq_true] at h
   rcases List.mem_cons.1 hi with rfl | hi
   ·exact h.1
   ·exact ih h.2 i hi
 intro rd rd' hs h
 induction rd' with
 | nil => rfl
 | cons a rd' ih =>
  simp only [bU, Bool.and_eq_true]
  exact ⟨at_ h a (hs a List.mem_cons_self), ih fun x hx => hs x (List.mem_cons_of_mem _ hx)⟩
section
variable {ops : Array Oper} {h : Tr AB} {n0 : Nat} {bef : Nat -> List Nat}
theorem zn {dst : Option Nat} {v : AV} {a b : Tr AV} {l : List Oper} {o : Oper} (ho : o.dst = dst) (h : dK nt a dst v = some b) : ∀ t, t ∉ aR (o :: l) -> b.get t = a.get t /\ t ∉ aR l := by
 intro t ht
 unfold aR at ht
 rw [ho] at ht
 unfold dK at h
 cases dst with
 | none => injection h with h; subst h; exact ⟨rfl, ht⟩
 | some d =>
  simp only [List.mem_cons, not_or] at ht
  simp only at h
  split at h
  ·injection h with h; subst h; rw [Tr.get_put, if_neg ht.1]; exact ⟨rfl, ht.2⟩
  ·cases h
theorem uO {c : Nat -> List AV -> AS -> Option (AV × AS)} {n : Nat} {ρ : Operand -> Option AV} {op : Op} (hk : dH T op ≠ 2) : bD T c n ρ op = none := by
 unfold bD
 split
 ·rename_i cl
  obtain ⟨callee, args, ts⟩ := cl
  split
  ·rename_i fo hcal
   simp only at hcal; subst hcal
   exact absurd rfl hk
  ·rfl
 ·rfl
theorem iO {c : Nat -> List AV -> AS -> Option (AV × AS)} {o : Oper} {os : List Oper} {i : Nat} {tm a : Tr AV} {news : List (Nat × Nat × Option AB)} {rd : List Nat} {n : Nat} {v : AV} (hw : cW ops tm o = some true) (hp : dK nt tm o.dst v = some a) :
  (bq T .nil (ci T tm) o.op = some v -> ba T c nt ops h n0 bef (o :: os) i tm news rd n = ba T c nt ops h n0 bef os (i + 1) a news rd n) /\
  (bq T .nil (ci T tm) o.op = none -> eD T (ci T tm) o.op = none -> bD T c n (ci T tm) o.op = none -> bC n0 (bef i) news news = true -> bq T (eb h (bef i) news) (ci T tm) o.op = some v -> ba T c nt ops h n0 bef (o :: os) i tm news rd n = ba T c nt ops h n0 bef os (i + 1) a news (i :: rd) n) /\
  (bq T .nil (ci T tm) o.op = none -> eD T (ci T tm) o.op = none -> bD T c n (ci T tm) o.op = none -> bC n0 (bef i) news news = true -> bq T (eb h (bef i) news) (ci T tm) o.op = none -> cv T c (eb h (bef i) news) n (ci T tm) o.op = some v -> ba T c nt ops h n0 bef (o :: os) i tm news rd n = ba T c nt ops h n0 bef os (i + 1) a news (i :: rd) n) := by
 refine ⟨fun h1 => ?_, fun h1 h2 ha h3 h4 => ?_, fun h1 h2 ha h3 h4 h5 => ?_⟩
 ·conv => lhs; unfold ba
  rw [hw, h1]; simp only; rw [hp]
 ·conv => lhs; unfold ba
  rw [hw, h1, h2]; simp only; rw [ha]; simp only; rw [h3]; simp only; rw [h4]; simp only; rw [hp]
 ·conv => lhs; unfold ba
  rw [hw, h1, h2]; simp only; rw [ha]; simp only; rw [h3]; simp only; rw [h4]; simp only; rw [h5]; simp only; rw [hp]
theorem iS (want : Tr AV -> Prop) : ∀ (l : List Oper) (i : Nat) (tm : VM) (tm' : Tr AV) (news : List (Nat × Nat × Option AB)) (rd rd' : List Nat) (n : Nat) (K : VM -> List (Nat × Nat × Option AB) -> List Nat -> Nat -> Prop), (∀ o ∈ l, ∀ tm, want tm -> cW ops tm o = some true) ->
  (∀ o ∈ l, ∀ tm tm' v, want tm -> dK nt tm o.dst v = some tm' -> want tm') -> want tm' -> Sub tm tm' -> (∀ x ∈ rd', x ∈ rd) -> bW (av T) T nt h n0 bef l i tm news rd n K ->
  ∃ tm1 tm1' news1 rd1 rd1' n1, Sub tm1 tm1' /\ (∀ x ∈ rd1', x ∈ rd1) /\ K tm1 news1 rd1 n1 /\ want tm1' /\ (∀ t, t ∉ aR l -> tm1'.get t = tm'.get t) /\ (fT T l = true -> news1 = news /\ n1 = n /\ ∀ x ∈ rd1', x ∈ List.range' i l.length ++ rd) /\
   ∃ k0, ∀ k, k0 <= k -> ∀ r, ba T (aJ T k) nt ops h n0 bef (l ++ r) i tm' news rd' n = ba T (aJ T k) nt ops h n0 bef r (i + l.length) tm1' news1 rd1' n1
 | [], i, tm, tm', news, rd, rd', n, K, _, _, hw, hs, hr, hv => ⟨tm, tm', news, rd, rd', n, hs, hr, hv, hw, fun _ _ => rfl, fun _ => ⟨rfl, rfl, fun x hx => by simpa using hr x hx⟩, 0, fun k _ r => rfl⟩
 | o :: os, i, tm, tm', news, rd, rd', n, K, h1, h2, hw, hs, hr, hv => by
  have hρ := hs.le (T := T)
  have hwo := h1 o List.mem_cons_self _ hw
  have rest := fun (a : VM) (a' : Tr AV) (news2 : List (Nat × Nat × Option AB)) (rd2 rd2' : List Nat) (n2 : Nat) => iS want os (i + 1) a a' news2 rd2 rd2' n2 K (fun o ho => h1 o (List.mem_cons_of_mem _ ho)) (fun o ho => h2 o (List.mem_cons_of_mem _ ho))
  have fin : ∀ (v : AV) (a : VM) (a' : Tr AV) (news2 : List (Nat × Nat × Option AB)) (rd2 rd2' : List Nat) (n2 : Nat), dK nt tm' o.dst v = some a' -> Sub a a' -> (∀ x ∈ rd2', x ∈ rd2) -> bW (av T) T nt h n0 bef os (i + 1) a news2 rd2 n2 K ->
    (fT T (o :: os) = true -> fT T os = true /\ news2 = news /\ n2 = n /\ ∀ x ∈ rd2, x = i ∨ x ∈ rd) ->
    (∃ k0, ∀ k, k0 <= k -> ∀ r, ba T (aJ T k) nt ops h n0 bef (o :: (os ++ r)) i tm' news rd' n = ba T (aJ T k) nt ops h n0 bef (os ++ r) (i + 1) a' news2 rd2' n2) ->
    ∃ tm1 tm1' news1 rd1 rd1' n1, Sub tm1 tm1' /\ (∀ x ∈ rd1', x ∈ rd1) /\ K tm1 news1 rd1 n1 /\ want tm1' /\ (∀ t, t ∉ aR (o :: os) -> tm1'.get t = tm'.get t) /\ (fT T (o :: os) = true -> news1 = news /\ n1 = n /\ ∀ x ∈ rd1', x ∈ List.range' i (o :: os).length ++ rd) /\
     ∃ k0, ∀ k, k0 <= k -> ∀ r, ba T (aJ T k) nt ops h n0 bef ((o :: os) ++ r) i tm' news rd' n = ba T (aJ T k) nt ops h n0 bef r (i + (o :: os).length) tm1' news1 rd1' n1 := by
   intro v a a' news2 rd2 rd2' n2 hp hsa hr2 hv2 hnn ⟨k1, hk1⟩
   obtain ⟨tm1, tm1', news1, rd1, rd1', n1, e1, e2, e3, e4, e5, e6, k2, e7⟩ := rest a a' news2 rd2 rd2' n2 (h2 o List.mem_cons_self _ _ _ hw hp) hsa hr2 hv2
   refine ⟨tm1, tm1', news1, rd1, rd1', n1, e1, e2, e3, e4, fun t ht => ?_, fun hn => ?_, max k1 k2, fun k hk r => ?_⟩
   ·obtain ⟨q1, q2⟩ := zn (l := os) rfl hp t ht
    rw [e5 t q2, q1]
   ·obtain ⟨q1, q2, q3, q4⟩ := hnn hn
    obtain ⟨f1, f2, f3⟩ := e6 q1
    refine ⟨f1.trans q2, f2.trans q3, fun x hx => ?_⟩
    rw [List.length_cons, List.range'_succ, List.cons_append, List.mem_cons]
    rcases List.mem_append.1 (f3 x hx) with q | q
    ·exact .inr (List.mem_append_left _ q)
    ·rcases q4 x q with rfl | q
     ·exact .inl rfl
     ·exact .inr (List.mem_append_right _ q)
   ·show ba T (aJ T k) nt ops h n0 bef (o :: (os ++ r)) i tm' news rd' n = _
    rw [hk1 k (by omega) r, e7 k (by omega) r, List.length_cons]
    congr 1; omega
  have hrd : ∀ {A : Prop}, ((match news with | [] => fun q => q | _ => (av T).oT (bC n0 (bef i) news news)) A) -> bC n0 (bef i) news news = true /\ A := by
   intro A hA
   cases news with
   | nil => exact ⟨rfl, hA⟩
   | cons b bs => exact hA
  unfold bW at hv
  rcases xH (T := T) o.op with hk | hk | hk <;> rw [hk] at hv
  ·cases hpk : plainK o.op with
   | true =>
    rw [hpk] at hv
    obtain ⟨v, e1, e2⟩ := py hρ hv
    obtain ⟨a, e3, e4⟩ := aE e2
    obtain ⟨a', e5, e6⟩ := fb hs e3
    exact fin v a a' news rd rd' n e5 e6 hr e4 (fun hn => by
     simp only [fT, Bool.and_eq_true] at hn
     exact ⟨hn.2, rfl, rfl, fun x hx => .inr hx⟩) ⟨0, fun k _ r => (iO hwo e5).1 e1⟩
   | false =>
   rw [hpk] at hv
   obtain ⟨hread, hv⟩ := hrd hv
   obtain ⟨v, e1, e2⟩ := py hρ hv
   obtain ⟨a, e3, e4⟩ := aE e2
   obtain ⟨a', e5, e6⟩ := fb hs e3
   have hnn : fT T (o :: os) = true -> fT T os = true /\ news = news /\ n = n /\ ∀ x ∈ i :: rd, x = i ∨ x ∈ rd := fun hn => by
    simp only [fT, Bool.and_eq_true] at hn
    exact ⟨hn.2, rfl, rfl, fun x hx => List.mem_cons.1 hx⟩
   cases hq : bq T .nil (ci T tm') o.op with
   | some v0 =>
    have : v0 = v := by
     have := evVal_le (h' := eb h (bef i) news) (fun id b hb => by simp [Tr.get_nil] at hb) hq
     rw [e1] at this; injection this with this; exact this.symm
    subst this
    exact fin v0 a a' news (i :: rd) rd' n e5 e6 (fun x hx => List.mem_cons_of_mem _ (hr x hx)) e4 hnn ⟨0, fun k _ r => (iO hwo e5).1 hq⟩
   | none =>
    exact fin v a a' news (i :: rd) (i :: rd') n e5 e6 (fun x hx => by
     rcases List.mem_cons.1 hx with rfl | hx
     ·exact List.mem_cons_self
     ·exact List.mem_cons_of_mem _ (hr x hx)) e4 hnn ⟨0, fun k _ r => (iO hwo e5).2.1 hq (zE hk) (uO (by rw [hk]; decide)) hread e1⟩
  ·obtain ⟨b, f, e1, e2⟩ := tO hρ hv
   obtain ⟨a, e3, e4⟩ := aE e2
   obtain ⟨a', e5, e6⟩ := fb hs e3
   refine fin (f n) a a' ((i, n, some b) :: news) rd rd' (n + 1) e5 e6 hr e4 (fun hn => ?_) ⟨0, fun k _ r => ?_⟩
   ·simp only [fT, hk, Bool.and_eq_true] at hn
    exact absurd hn.1 (by simp)
   ·conv => lhs; unfold ba
    rw [hwo, rM hk, e1]; simp only; rw [e5]
  ·obtain ⟨hread, hv⟩ := hrd hv
   have k2 := fun h => na (T := T) (ρ := ci T tm') (h := h) hk
   cases hop : o.op with
   | call c =>
    rw [hop] at hv
    obtain ⟨callee, args, ts⟩ := c
    cases callee with
    | value fo =>
     have dyn : ∀ (f : Nat) (fs cs as : List AV), ci T tm' fo = some (.fn f fs cs) -> gC T f (fs ++ as ++ cs) = true -> (T.opened f && Nat.beq (T.mode f) 1) = false -> bH (ci T tm') args.toList = some as ->
       (oC T (dN o.dst) f (fs ++ as ++ cs) ⟨eb h (bef i) news, n⟩ fun v _ => oO (jN nt tm o.dst v) fun tm => bW (av T) T nt h n0 bef os (i + 1) tm news (i :: rd) n K) ->
     ∃ tm1 tm1' news1 rd1 rd1' n1, Sub tm1 tm1' /\ (∀ x ∈ rd1', x ∈ rd1) /\ K tm1 news1 rd1 n1 /\ want tm1' /\ (∀ t, t ∉ aR (o :: os) -> tm1'.get t = tm'.get t) /\ (fT T (o :: os) = true -> news1 = news /\ n1 = n /\ ∀ x ∈ rd1', x ∈ List.range' i (o :: os).length ++ rd) /\
     ∃ k0, ∀ k, k0 <= k -> ∀ r, ba T (aJ T k) nt ops h n0 bef ((o :: os) ++ r) i tm' news rd' n = ba T (aJ T k) nt ops h n0 bef r (i + (o :: os).length) tm1' news1 rd1' n1 := by
      intro f fs cs as q1 hopn hadp q3 q4
      obtain ⟨k1, v, σ', q5, q6⟩ := q4
      obtain ⟨a, e3, e4⟩ := aE q6
      obtain ⟨a', e5, e6⟩ := fb hs e3
      refine fin v a a' news (i :: rd) (i :: rd') n e5 e6 (fun x hx => ?_) e4 (fun hn => ?_) ⟨k1, fun k hk1 r => ?_⟩
      ·rcases List.mem_cons.1 hx with rfl | hx
       ·exact List.mem_cons_self
       ·exact List.mem_cons_of_mem _ (hr x hx)
      ·simp only [fT, Bool.and_eq_true] at hn
       exact ⟨hn.2, rfl, rfl, fun x hx => List.mem_cons.1 hx⟩
      ·refine (iO hwo e5).2.2 (k2 _).1 (k2 .nil).2 (by rw [hop]; simp only [bD, q1, q3, hadp]) hread (k2 _).1 ?_
       rw [hop]
       simp only [cv, q1, q3, hopn, aT k1 k hk1 _ _ _ _ q5]
     have gen : (oO (dI T tm fo) fun f => oT (nO T f) (oO (bH (dI T tm) args.toList) fun args => oF T (dN o.dst) f args ⟨eb h (bef i) news, n⟩ fun v _ => oO (jN nt tm o.dst v) fun tm => bW (av T) T nt h n0 bef os (i + 1) tm news (i :: rd) n K)) ->
     ∃ tm1 tm1' news1 rd1 rd1' n1, Sub tm1 tm1' /\ (∀ x ∈ rd1', x ∈ rd1) /\ K tm1 news1 rd1 n1 /\ want tm1' /\ (∀ t, t ∉ aR (o :: os) -> tm1'.get t = tm'.get t) /\ (fT T (o :: os) = true -> news1 = news /\ n1 = n /\ ∀ x ∈ rd1', x ∈ List.range' i (o :: os).length ++ rd) /\
     ∃ k0, ∀ k, k0 <= k -> ∀ r, ba T (aJ T k) nt ops h n0 bef ((o :: os) ++ r) i tm' news rd' n = ba T (aJ T k) nt ops h n0 bef r (i + (o :: os).length) tm1' news1 rd1' n1 := by
      intro hv
      obtain ⟨p, q1, hsh, q2⟩ := aE hv
      obtain ⟨as, q3, q4⟩ := aE q2
      unfold oF at q4
      split at q4
      ·rename_i f fs cs
       have hsh' : T.opened f = false := by simpa [nO] using hsh
       exact dyn f fs cs as (hρ _ _ q1) (by unfold gC; rw [hsh']; rfl) (by rw [hsh']; rfl) (db hρ q3) q4
      ·exact q4.elim
     cases fo with
     | func f =>
      simp only at hv
      split at hv
      ·rename_i hopn
       split at hv
       ·rename_i hmode
        obtain ⟨as, q3, q4⟩ := aE hv
        obtain ⟨k1, v, σ', q5, q6⟩ := q4
        obtain ⟨a, e3, e4⟩ := aE q6
        obtain ⟨a', e5, e6⟩ := fb hs e3
        refine fin v a a' ((i, n, σ'.h.get n) :: news) rd rd' (n + 1) e5 e6 hr e4 (fun hn => ?_) ⟨k1, fun k hk1 r => ?_⟩
        ·simp only [fT, hop, dH, hopn, Bool.and_eq_true] at hn
         exact absurd hn.1 (by simp)
        ·have had : bD T (aJ T k) n (ci T tm') o.op = some (v, σ'.h.get n) := by
          rw [hop]
          simp only [bD, ci, db hρ q3, hopn, hmode, Bool.true_and, List.nil_append, List.append_nil, aT k1 k hk1 _ _ _ _ q5]
         conv => lhs; unfold ba
         rw [hwo, (k2 _).1, (k2 .nil).2]; simp only; rw [had]; simp only; rw [e5]
       ·rename_i hmode
        split at hv
        ·rename_i hm3
         obtain ⟨as, q3, hfr, q4⟩ := aE hv
         exact dyn f [] [] as rfl (by unfold gC; rw [hm3, List.nil_append, List.append_nil, show AV.idfree.idfrees as = true from hfr]; simp) (by rw [hmode]; simp) (db hρ q3) (by rw [List.nil_append, List.append_nil]; exact q4)
        ·exact hv.elim
      ·rename_i hopn
       obtain ⟨as, q3, q4⟩ := aE hv
       exact dyn f [] [] as rfl (by unfold gC; rw [hopn]; rfl) (by rw [hopn]; rfl) (db hρ q3) (by rw [List.nil_append, List.append_nil]; exact q4)
     | _ => exact gen hv
    | builtin b => exact hv.elim
    | invoke x y => exact hv.elim
   | buildSlice t len ps =>
    rw [hop] at hv
    simp only at hv
    split at hv
    ·rename_i hice
     obtain ⟨as, q1, q2⟩ := aE hv
     obtain ⟨v, q3, q4⟩ := cA (d := dN o.dst) q2
     obtain ⟨a, e3, e4⟩ := aE q4
     obtain ⟨a', e5, e6⟩ := fb hs e3
     refine fin v a a' news (i :: rd) (i :: rd') n e5 e6 (fun x hx => ?_) e4 (fun hn => ?_) ⟨0, fun k _ r => ?_⟩
     ·rcases List.mem_cons.1 hx with rfl | hx
      ·exact List.mem_cons_self
      ·exact List.mem_cons_of_mem _ (hr x hx)
     ·simp only [fT, Bool.and_eq_true] at hn
      exact ⟨hn.2, rfl, rfl, fun x hx => List.mem_cons.1 hx⟩
     ·refine (iO hwo e5).2.2 (k2 _).1 (k2 .nil).2 (by rw [hop]; rfl) hread (k2 _).1 ?_
      rw [hop]
      simp only [cv, qt, hice, jO hρ q1, q3]
    ·exact hv.elim
   | store t p q =>
    rw [hop] at hv
    obtain ⟨pa, q1, q2⟩ := aE hv
    obtain ⟨va, q3, q4⟩ := aE q2
    have q4' : oD (aY T (eb h (bef i) news) t pa va) _ := q4
    unfold oD at q4'
    split at q4'
    ·rename_i id b hst
     obtain ⟨hck, q5⟩ := q4'
     obtain ⟨a, e3, e4⟩ := aE q5
     obtain ⟨a', e5, e6⟩ := fb hs e3
     refine fin (.tup []) a a' ((i, id, some b) :: news) rd rd' n e5 e6 hr e4 (fun hn => ?_) ⟨0, fun k _ r => ?_⟩
     ·simp only [fT, hop, dH, Bool.and_eq_true] at hn
      exact absurd hn.1 (by simp)
     ·have hsd : eX T (eb h (bef i) news) (ci T tm') o.op = some (id, b) := by
       rw [hop]
       simp only [eX, hρ _ _ q1, hρ _ _ q3]
       unfold aY at hst
       cases pa <;> first | exact hst | cases hst
      have hpc : cv T (aJ T k) (eb h (bef i) news) n (ci T tm') o.op = none := by rw [hop]; rfl
      simp only [Bool.and_eq_true] at hck
      conv => lhs; unfold ba
      have had : bD T (aJ T k) n (ci T tm') o.op = none := by rw [hop]; rfl
      rw [hwo, (k2 _).1, (k2 .nil).2]; simp only; rw [had]; simp only; rw [hread]; simp only; rw [(k2 _).1]; simp only; rw [hpc]; simp only; rw [hsd]; simp only; rw [zm hr hck.1, hck.2]; simp only [Bool.and_self]; rw [e5]
    ·exact q4'.elim
   | _ => rw [hop] at hv; exact hv.elim
end
end
section
variable {T : Tab} {nt : Nat}
theorem pQ {c : Nat -> List AV -> AS -> Option (AV × AS)} {ops : Array Oper} {h : Tr AB} {n0 : Nat} {bef : Nat -> List Nat} {news : List (Nat × Nat × Option AB)} {rd : List Nat} {n : Nat} (want : Tr AV -> Prop) : ∀ (l r : List Oper) (i : Nat) (tm' : Tr AV), (∀ o ∈ l, ∀ tm, want tm -> cW ops tm o = some false) ->
  (∀ o ∈ l, ∀ tm tm' v, want tm -> dK nt tm o.dst v = some tm' -> want tm') -> want tm' -> (∀ t ∈ aR l, t < nt) ->
  ba T c nt ops h n0 bef (l ++ r) i tm' news rd n = ba T c nt ops h n0 bef r (i + l.length) (pd (aR l) tm') news rd n
 | [], r, i, tm', _, _, _, _ => rfl
 | o :: os, r, i, tm', h1, h2, hw, hn => by
  rw [List.cons_append]
  conv => lhs; unfold ba
  rw [h1 o List.mem_cons_self _ hw]
  simp only
  have hlen : i + (o :: os).length = i + 1 + os.length := by rw [List.length_cons]; omega
  rw [hlen]
  cases hd : o.dst with
  | none =>
   have e : aR (o :: os) = aR os := by simp [aR, hd]
   rw [e] at hn |-
   exact pQ want os r (i + 1) tm' (fun o ho => h1 o (List.mem_cons_of_mem _ ho)) (fun o ho => h2 o (List.mem_cons_of_mem _ ho)) hw hn
  | some d =>
   have e : aR (o :: os) = d :: aR os := by simp [aR, hd]
   rw [e] at hn |-
   have hp : dK nt tm' (some d) (.tup []) = some (tm'.put d (some (.tup []))) := by
    unfold dK
    have : (d + 1).ble nt = true := Nat.ble_eq_true_of_le (hn d List.mem_cons_self)
    simp only [this]
   rw [hp]
   exact pQ want os r (i + 1) _ (fun o ho => h1 o (List.mem_cons_of_mem _ ho)) (fun o ho => h2 o (List.mem_cons_of_mem _ ho)) (h2 o List.mem_cons_self _ _ _ hw (by rw [hd]; exact hp)) (fun t ht => hn t (List.mem_cons_of_mem _ ht))
theorem mH {ops : Array Oper} {h : Tr AB} {n0 : Nat} {bef : Nat -> List Nat} : ∀ (gs : List (Option (Nat × Bool) × List Oper)), (∀ g l, (g, l) ∈ gs -> ∀ o ∈ l, o.guard = g) -> ∀ (i : Nat) (tm : VM) (tm' : Tr AV) (news : List (Nat × Nat × Option AB)) (rd rd' : List Nat) (n : Nat) (K : VM -> List (Nat × Nat × Option AB) -> Nat -> Prop),
  Sub tm tm' -> (∀ x ∈ rd', x ∈ rd) -> iT (av T) T nt ops h n0 bef gs i tm news rd n K ->
  ∃ k tm1' news1 n1 tm1, ba T (aJ T k) nt ops h n0 bef (gs.flatMap (·.2)) i tm' news rd' n = some (tm1', news1, n1) /\ Sub tm1 tm1' /\ K tm1 news1 n1
 | [], _, i, tm, tm', news, rd, rd', n, K, hs, hr, hv => ⟨0, tm', news, n, tm, rfl, hs, hv⟩
 | (g, l) :: gs, hg, i, tm, tm', news, rd, rd', n, K, hs, hr, hv => by
  have hl := hg g l List.mem_cons_self
  have rest := mH (ops := ops) (h := h) (n0 := n0) (bef := bef) gs fun g' l' h => hg g' l' (List.mem_cons_of_mem _ h)
  have join : ∀ {k1 : Nat} {a : VM} {a' : Tr AV} {news1 : List (Nat × Nat × Option AB)} {rd1 rd1' : List Nat} {n1 : Nat}, (∀ k, k1 <= k -> ∀ r, ba T (aJ T k) nt ops h n0 bef (l ++ r) i tm' news rd' n = ba T (aJ T k) nt ops h n0 bef r (i + l.length) a' news1 rd1' n1) ->
    Sub a a' -> (∀ x ∈ rd1', x ∈ rd1) -> iT (av T) T nt ops h n0 bef gs (i + l.length) a news1 rd1 n1 K ->
    ∃ k tm1' news1 n1 tm1, ba T (aJ T k) nt ops h n0 bef (((g, l) :: gs).flatMap (·.2)) i tm' news rd' n = some (tm1', news1, n1) /\ Sub tm1 tm1' /\ K tm1 news1 n1 := by
   intro k1 a a' news1 rd1 rd1' n1 h1 hsa hr1 h2
   obtain ⟨k2, tm1', news2, n2, tm1, e1, e2, e3⟩ := rest _ a a' news1 rd1 rd1' n1 K hsa hr1 h2
   refine ⟨max k1 k2, tm1', news2, n2, tm1, ?_, e2, e3⟩
   rw [List.flatMap_cons, h1 _ (Nat.le_max_left _ _)]
   exact cH (aT k2 (max k1 k2) (Nat.le_max_right _ _)) _ _ _ _ _ _ _ e1
  cases g with
  | none =>
   obtain ⟨tm1, tm1', news1, rd1, rd1', n1, e1, e2, e3, _, _, _, k0, e7⟩ := iS (ops := ops) (fun _ => True) l i tm tm' news rd rd' n _ (fun o ho tm _ => by unfold cW; rw [hl o ho]) (fun _ _ _ _ _ _ _ => trivial) trivial hs hr hv
   exact join e7 e1 e2 e3
  | some q =>
   obtain ⟨j, want⟩ := q
   simp only [iT] at hv
   split at hv
   ·rename_i oj hj
    split at hv
    ·rename_i e he
     split at hv
     ·rename_i hm hb hnn
      obtain ⟨x, hx, hv⟩ := aE hv
      have hx' := hs _ _ hx
      have hkeep := xI (nt := nt) (x := x) (ux hm)
      have hw : ∀ o ∈ l, ∀ tm : Tr AV, tm.get e = some x -> _ := fun o ho tm h => wT hj he (hl o ho) h
      have void : (∀ o ∈ l, ∀ tm : Tr AV, tm.get e = some x -> cW ops tm o = some false) -> eW (aR l).length (hJ (aR l) tm fun tm _ => iT (av T) T nt ops h n0 bef gs (i + l.length) tm news (List.range' i l.length ++ rd) n K) ⟨h, n0⟩ ->
        ∃ k tm1' news1 n1 tm1, ba T (aJ T k) nt ops h n0 bef (((some (j, want), l) :: gs).flatMap (·.2)) i tm' news rd' n = some (tm1', news1, n1) /\ Sub tm1 tm1' /\ K tm1 news1 n1 := by
       intro hwant hvoid
       have := jF _ _ hvoid
       exact join (k1 := 0) (fun k _ r => pQ (fun tm => tm.get e = some x) l r i tm' hwant hkeep hx' (uF hb)) (jM _ hs) (fun x hx => List.mem_append_right _ (hr x hx)) this
      rcases uw (show oG (aR l) x want (fun k => bW (av T) T nt h n0 bef l i tm news rd n fun tm _ _ _ => gO (aR l) tm k ⟨h, n0⟩) ⟨h, n0⟩ (hJ (aR l) tm fun tm _ => iT (av T) T nt ops h n0 bef gs (i + l.length) tm news (List.range' i l.length ++ rd) n K) from hv) with ⟨rfl, hb1⟩ | ⟨⟨y, rfl, hy⟩, hvoid⟩ | ⟨rfl, hvoid⟩
      ·obtain ⟨a, a', news1, rd1, rd1', n1, e1, e2, e3, _, e5, e6, k0, e7⟩ := iS (ops := ops) (fun tm => tm.get e = some (.b want)) l i tm tm' news rd rd' n _ (fun o ho tm h => by rw [(hw o ho tm h).1 _ rfl]; simp) hkeep hx' hs hr hb1
       obtain ⟨rfl, rfl, hrr⟩ := e6 hnn
       obtain ⟨b, f1, f2⟩ := eU _ _ e3
       refine join e7 (fun t v ht => ?_) hrr f1
       rcases f2 t v ht with ⟨_, q⟩ | ⟨q1, q⟩
       ·exact e1 t v q
       ·rw [e5 t q1]; exact hs t v q
      ·exact void (fun o ho tm h => by rw [(hw o ho tm h).1 _ rfl, hy]) hvoid
      ·exact void (fun o ho tm h => (hw o ho tm h).2 rfl) hvoid
     ·exact hv.elim
    ·exact hv.elim
   ·exact hv.elim
theorem tL {ops : Array Oper} {k0 k1 : Nat} {tm : VM} {tm' : Tr AV} {σ : AS} {K : VM -> AS -> Prop} (hs : Sub tm tm') (hv : tM (av T) T nt ops k0 k1 tm σ K) :
  ∃ k tm1' σ1 tm1, kO T (aJ T k) nt ops k0 k1 tm' σ = some (tm1', σ1) /\ Sub tm1 tm1' /\ K tm1 σ1 := by
 unfold tM at hv
 split at hv
 ·rename_i he
  exact ⟨0, tm', σ, tm, by unfold kO; rw [he], hs, hv⟩
 ·rename_i he
  split at hv
  ·rename_i hseg
   obtain ⟨g1, g2⟩ := ni (fx ops.toList k0 k1)
   obtain ⟨k, tm1', news1, n1, tm1, e1, e2, e3⟩ := mH (ops := ⟨fx ops.toList k0 k1⟩) _ g2 0 tm tm' [] [] [] σ.n _ hs (fun x hx => hx) hv
   rw [g1] at e1
   refine ⟨k, tm1', ⟨lay σ.h news1, n1⟩, tm1, by unfold kO; simp only [he, hseg, e1], e2, ?_⟩
   cases news1 with
   | nil => exact e3
   | cons b bs => exact e3
  ·exact hv.elim
theorem mG {ops : Array Oper} : ∀ (bs : List Nat) (k0 : Nat) (tm : VM) (tm' : Tr AV) (σ : AS) (K : VM -> AS -> Prop), Sub tm tm' -> sK (av T) T nt ops bs k0 tm σ K ->
  ∃ k tm1' σ1 tm1, ik T (aJ T k) nt ops bs k0 tm' σ = some (tm1', σ1) /\ Sub tm1 tm1' /\ K tm1 σ1
 | [], k0, tm, tm', σ, K, hs, hv => tL hs hv
 | b :: bs, k0, tm, tm', σ, K, hs, hv => by
  obtain ⟨k1, a', σ1, a, e1, e2, e3⟩ := tL hs (show tM (av T) T nt ops k0 b tm σ _ from hv)
  split at e3
  ·rename_i o ho
   split at e3
   ·rename_i hbar
    obtain ⟨k2, b', σ2, b2, f1, f2, f3⟩ := pC (ops := ops) [(o.guard, [o])] (fun g l h o' ho' => by
     simp only [List.mem_singleton, Prod.mk.injEq] at h
     obtain ⟨rfl, rfl⟩ := h
     rw [List.mem_singleton.1 ho']) a a' σ1 _ e2 e3
    obtain ⟨k3, c', σ3, c2, h1, h2, h3⟩ := mG bs (b + 1) b2 b' σ2 K f2 f3
    refine ⟨max k1 (max k2 k3), c', σ3, c2, ?_, h2, h3⟩
    have f1' : dJ T (aJ T k2) nt ops [o] a' σ1 = some (b', σ2) := f1
    unfold ik
    rw [lm (aT k1 _ (Nat.le_max_left _ _)) e1]
    simp only [ho, hbar]
    rw [dR (aT k2 _ (Nat.le_trans (Nat.le_max_left _ _) (Nat.le_max_right _ _))) _ _ _ _ f1']
    exact gZ (aT k3 _ (Nat.le_trans (Nat.le_max_right _ _) (Nat.le_max_right _ _))) _ _ _ _ _ h1
   ·exact e3.elim
  ·exact e3.elim
def Goes (T : Tab) (nt : Nat) (c : Code) (tm' : Tr AV) (σ : AS) (K : AX -> VM -> AS -> Prop) : Prop :=
 ∃ k x tm1' σ1, aX T (aJ T k) nt k c tm' σ = some (x, tm1', σ1) /\ ∃ tm1, Sub tm1 tm1' /\ K x tm1 σ1
theorem iP {k m : Nat} (h : k <= m) {c : Code} {tm : Tr AV} {σ : AS} {r : AX × Tr AV × AS} (hv : aX T (aJ T k) nt k c tm σ = some r) : aX T (aJ T m) nt m c tm σ = some r := oq (aT k m h) h c tm σ r hv
theorem Goes.seq {a b : Code} {tm' : Tr AV} {σ : AS} {K K1 : AX -> VM -> AS -> Prop} (h1 : Goes T nt a tm' σ K1) (h2 : ∀ tm1 tm1' σ1, Sub tm1 tm1' -> K1 .norm tm1 σ1 -> Goes T nt b tm1' σ1 K) (h3 : ∀ x tm1 σ1, x ≠ .norm -> K1 x tm1 σ1 -> K x tm1 σ1) : Goes T nt (.seq a b) tm' σ K := by
 obtain ⟨k, x, tm1', σ1, e1, tm1, e2, e3⟩ := h1
 by_cases hx : x = .norm
 ·subst hx
  obtain ⟨k2, x2, tm2', σ2, f1, f2⟩ := h2 tm1 tm1' σ1 e2 e3
  refine ⟨max k k2, x2, tm2', σ2, ?_, f2⟩
  simp only [aX, iP (Nat.le_max_left k k2) e1]
  exact iP (Nat.le_max_right k k2) f1
 ·refine ⟨k, x, tm1', σ1, ?_, tm1, e2, h3 x tm1 σ1 hx e3⟩
  simp only [aX, e1]
  cases x <;> first | rfl | exact absurd rfl hx
theorem iC {ρ : Operand -> Option AV} {x : Operand} {a : AV} (h : ρ x = some a) (hp : ej a = true) : ja ρ x = some a := by
 unfold ja; simp only [h, hp]
theorem sY {ρ : Operand -> Option AV} {x : Option Operand} {a : Option AV} (h : eQ ρ x = some a) (hp : pf a = true) : eQ (ja ρ) x = some a := by
 cases x with
 | none => exact h
 | some x =>
  simp only [eQ] at h |-
  cases hx : ρ x with
  | none => rw [hx] at h; cases h
  | some b =>
   rw [hx] at h; injection h with h; subst h
   rw [iC hx hp]
theorem nK {ops : Array Oper} : ∀ (F : List Nat) (tm : VM) (tm' : Tr AV) (K : VM -> Prop), Sub tm tm' -> ip (av T) T nt ops F tm K -> ∃ tm1 tm1', eE T nt ops F tm' = some tm1' /\ Sub tm1 tm1' /\ K tm1
 | [], tm, tm', K, hs, hv => ⟨tm, tm', rfl, hs, hv⟩
 | j :: js, tm, tm', K, hs, hv => by
  have hρ := hs.le (T := T)
  unfold ip at hv
  unfold eE
  split at hv
  ·rename_i o ho
   have fin : ∀ (v : AV), ej v = true -> bq T .nil (ja (ci T tm')) o.op = some v -> (oO (jN nt tm o.dst v) fun tm => ip (av T) T nt ops js tm K) -> ∃ tm1 tm1', eE T nt ops (j :: js) tm' = some tm1' /\ Sub tm1 tm1' /\ K tm1 := by
    intro v hp hev hv
    obtain ⟨a, e3, e4⟩ := aE hv
    obtain ⟨a', e5, e6⟩ := fb hs e3
    obtain ⟨tm1, tm1', f1, f2, f3⟩ := nK js a a' K e6 e4
    exact ⟨tm1, tm1', by unfold eE; simp only [ho, hev, hp, e5, f1], f2, f3⟩
   have fin' : ∀ (v : AV), ej v = true -> bq T .nil (ja (ci T tm')) o.op = some v -> (oO (jN nt tm o.dst v) fun tm => ip (av T) T nt ops js tm K) -> _ := fin
   have goal_eq : (∃ tm1 tm1', eE T nt ops (j :: js) tm' = some tm1' /\ Sub tm1 tm1' /\ K tm1) -> ∃ tm1 tm1', (match ops[j]? with
     | some o => match bq T .nil (ja (ci T tm')) o.op with
      | some v => match ej v with
       | true => match dK nt tm' o.dst v with
        | some tm => eE T nt ops js tm
        | none => none
       | false => none
      | none => none
     | none => none) = some tm1' /\ Sub tm1 tm1' /\ K tm1 := fun h => h
   refine goal_eq ?_
   simp only at hv
   split at hv
   ·rename_i x hop
    obtain ⟨a, h1, hp, h2⟩ := aE hv
    exact fin a hp (by rw [hop]; exact iC (hρ _ _ h1) hp) h2
   ·rename_i op t x y b hop
    obtain ⟨a, h1, hp, h2⟩ := aE hv
    obtain ⟨c, h3, hq, h4⟩ := aE h2
    obtain ⟨v, h5, hr, h6⟩ := cA (d := dN o.dst) h4
    exact fin v hr (by rw [hop]; simp only [bq, iC (hρ _ _ h1) hp, iC (hρ _ _ h3) hq]; exact h5) h6
   ·rename_i t x lo hi mx hop
    obtain ⟨a, h1, hp, h2⟩ := aE hv
    obtain ⟨l, h3, hq, h4⟩ := aE h2
    obtain ⟨h, h5, hr, h6⟩ := aE h4
    obtain ⟨m, h7, hm, h8⟩ := aE h6
    obtain ⟨v, h9, hw, h10⟩ := cA (d := dN o.dst) h8
    exact fin v hw (by rw [hop]; simp only [bq, iC (hρ _ _ h1) hp, sY (iE hρ h3) hq, sY (iE hρ h5) hr, sY (iE hρ h7) hm, aL, h9]) h10
   ·exact hv.elim
  ·exact hv.elim
theorem vc_sound : ∀ (c : Code) (an : AN) (tm : VM) (σ : AS) (K : AX -> VM -> AS -> Prop), vc (av T) T nt c an tm σ K -> ∀ tm', Sub tm tm' -> Goes T nt c tm' σ K := by
 intro c
 induction c with
 | skip => intro an tm σ K hv tm' hs; exact ⟨0, .norm, tm', σ, rfl, tm, hs, hv⟩
 | label l => intro an tm σ K hv tm' hs; exact ⟨0, .norm, tm', σ, rfl, tm, hs, hv⟩
 | ret => intro an tm σ K hv tm' hs; exact ⟨0, .ret, tm', σ, rfl, tm, hs, hv⟩
 | exit id => intro an tm σ K hv tm' hs; exact ⟨0, .exit id, tm', σ, rfl, tm, hs, hv⟩
 | region id ops draw =>
  intro an tm σ K hv tm' hs
  obtain ⟨g1, g2⟩ := ni ops.toList
  cases draw with
  | false =>
   obtain ⟨k, tm1', σ1, tm1, e1, e2, e3⟩ := pC (ops := ops) _ g2 tm tm' σ _ hs hv
   rw [g1] at e1
   exact ⟨k, .norm, tm1', σ1, by simp only [aX, e1], tm1, e2, e3⟩
  | true =>
   simp only [vc] at hv
   split at hv
   ·rename_i hb
    obtain ⟨k, tm1', news1, n1, tm1, e1, e2, e3⟩ := mH (ops := ops) _ g2 0 tm tm' [] [] [] σ.n _ hs (fun x hx => hx) hv
    rw [g1] at e1
    refine ⟨k, .norm, tm1', ⟨lay σ.h news1, n1⟩, by simp only [aX, hb, e1], tm1, e2, ?_⟩
    cases news1 with
    | nil => exact e3
    | cons b bs => exact e3
   ·rename_i b bs hb
    split at hv
    ·rename_i hf
     obtain ⟨k, tm1', σ1, tm1, e1, e2, e3⟩ := mG _ 0 tm tm' σ _ hs hv
     exact ⟨k, .norm, tm1', σ1, by simp only [aX, hb, hf, e1], tm1, e2, e3⟩
    ·rename_i j js hf
     split at hv
     ·rename_i hmay
      obtain ⟨tm2, tm2', f1, f2, f3⟩ := nK (j :: js) tm tm' _ hs hv
      obtain ⟨k, tm1', σ1, tm1, e1, e2, e3⟩ := mG _ 0 tm2 tm2' σ _ f2 f3
      exact ⟨k, .norm, tm1', σ1, by simp only [aX, hb, hf, hmay, f1, e1], tm1, e2, e3⟩
     ·exact hv.elim
 | seq a b iha ihb =>
  intro an tm σ K hv tm' hs
  cases an with
  | seq j x y =>
   cases j with
   | none =>
    refine Goes.seq (iha x tm σ _ hv tm' hs) (fun tm1 tm1' σ1 h1 h2 => ihb y tm1 σ1 K h2 tm1' h1) (fun x tm1 σ1 hx h => ?_)
    cases x <;> first | exact h | exact absurd rfl hx
   | some L =>
    refine Goes.seq (iha x tm σ _ hv tm' hs) (fun tm1 tm1' σ1 h1 h2 => ?_) (fun x tm1 σ1 hx h => ?_)
    ·obtain ⟨tm2, f1, f2⟩ := eU _ _ h2
     refine ihb y tm2 σ1 K f1 tm1' (fun t v ht => ?_)
     rcases f2 t v ht with ⟨_, q⟩ | ⟨_, q⟩
     ·exact h1 t v q
     ·cases q
    ·cases x <;> first | exact h | exact absurd rfl hx
  | _ => exact hv.elim
 | cond x a b iha ihb =>
  intro an tm σ K hv tm' hs
  cases an with
  | two u v =>
   obtain ⟨w, h1, h2⟩ := aE hv
   have h1' := hs.le (T := T) _ _ h1
   have h2' : oI w (vc (av T) T nt a u tm σ K) (vc (av T) T nt b v tm σ K) := h2
   unfold oI at h2'
   split at h2'
   ·rename_i y
    cases y with
    | true =>
     obtain ⟨k, x, tm1', σ1, e1, e2⟩ := iha u tm σ K (h2'.1 rfl) tm' hs
     exact ⟨k, x, tm1', σ1, by simp only [aX, h1', e1], e2⟩
    | false =>
     obtain ⟨k, x, tm1', σ1, e1, e2⟩ := ihb v tm σ K (h2'.2 rfl) tm' hs
     exact ⟨k, x, tm1', σ1, by simp only [aX, h1', e1], e2⟩
   ·exact h2'.elim
  | _ => exact hv.elim
 | block id a ih =>
  intro an tm σ K hv tm' hs
  cases an with
  | one u =>
   obtain ⟨k, x, tm1', σ1, e1, tm1, e2, e3⟩ := ih u tm σ _ hv tm' hs
   cases x with
   | norm => exact ⟨k, .norm, tm1', σ1, by simp only [aX, e1], tm1, e2, e3⟩
   | ret => exact ⟨k, .ret, tm1', σ1, by simp only [aX, e1], tm1, e2, e3⟩
   | exit j =>
    cases hj : Nat.beq j id with
    | true =>
     simp only [hj] at e3
     exact ⟨k, .norm, tm1', σ1, by simp only [aX, e1, hj], tm1, e2, e3⟩
    | false =>
     simp only [hj] at e3
     exact ⟨k, .exit j, tm1', σ1, by simp only [aX, e1, hj], tm1, e2, e3⟩
  | _ => exact hv.elim
 | scope a ih =>
  intro an tm σ K hv tm' hs
  cases an with
  | one u =>
   obtain ⟨k, x, tm1', σ1, e1, e2⟩ := ih u tm σ K hv tm' hs
   exact ⟨k, x, tm1', σ1, by simp only [aX, e1], e2⟩
  | _ => exact hv.elim
 | loop a ih =>
  intro an tm σ K hv tm' hs
  cases an with
  | loop L u =>
   have hall := qR L _ hv (hJ L [] fun tm σ => ∀ tm', Sub tm tm' -> Goes T nt (.loop a) tm' σ K) ?_
   ·obtain ⟨tm2, f1, f2⟩ := eU _ _ hall
    refine f1 tm' (fun t v ht => ?_)
    rcases f2 t v ht with ⟨_, q⟩ | ⟨_, q⟩
    ·exact hs t v q
    ·cases q
   ·refine rL (fun tm2 σ2 h tm2' hs2 => ?_) L []
    obtain ⟨k, x, tm1', σ1, e1, tm1, e2, e3⟩ := ih u tm2 σ2 _ h tm2' hs2
    by_cases hx : x = .norm
    ·subst hx
     obtain ⟨tm3, f1, f2⟩ := eU _ _ e3
     obtain ⟨k2, x2, tm4', σ4, g1, g2⟩ := f1 tm1' (fun t v ht => by
      rcases f2 t v ht with ⟨_, q⟩ | ⟨_, q⟩
      ·exact e2 t v q
      ·cases q)
     refine ⟨max k k2 + 1, x2, tm4', σ4, ?_, g2⟩
     simp only [aX]
     unfold lT
     rw [iP (show k <= max k k2 + 1 by omega) e1]
     simp only [aX] at g1
     exact lc (fun tm σ r h => iP (show k2 <= max k k2 + 1 by omega) h) _ _ _ _ _ (by omega) g1
    ·refine ⟨k + 1, x, tm1', σ1, ?_, tm1, e2, ?_⟩
     ·simp only [aX]
      unfold lT
      rw [iP (show k <= k + 1 by omega) e1]
      cases x <;> first | rfl | exact absurd rfl hx
     ·cases x <;> first | exact e3 | exact absurd rfl hx
  | _ => exact hv.elim
 | rangeFunc f ps a b iha ihb => intro an tm σ K hv tm' hs; cases an <;> exact hv.elim
 | goto l => intro an tm σ K hv tm' hs; cases an <;> exact hv.elim
 | refuse y => intro an tm σ K hv tm' hs; cases an <;> exact hv.elim
theorem lw {tm : VM} {tm' : Tr AV} (hs : Sub tm tm') {h : Tr AB} : ∀ (rs : List ResultVar) (K : List AV -> Prop), wU (av T) T tm h rs K -> ∃ vs, gf T tm' h rs = some vs /\ K vs
 | [], K, hv => ⟨[], rfl, hv⟩
 | .tmp t :: rs, K, hv => by
  obtain ⟨a, h1, h2⟩ := aE hv
  obtain ⟨as, h3, h4⟩ := lw hs rs _ h2
  exact ⟨a :: as, by simp only [gf, hs _ _ h1, h3], h4⟩
 | .cell a t :: rs, K, hv => by
  obtain ⟨p, h1, h2⟩ := aE hv
  obtain ⟨v, h3, h4⟩ := cA (d := a) h2
  obtain ⟨as, h5, h6⟩ := lw hs rs _ h4
  refine ⟨v :: as, ?_, h6⟩
  unfold ac at h3
  split at h3
  ·rename_i cs hc
   simp only [gf, hs _ _ h1, hc, h3, h5]
  ·cases h3
theorem argL_sub (args : List AV) : Sub (argL args 0) (kQ args 0 .nil) := by
 have key : ∀ (as : List AV) (i t : Nat) (v : AV), jS (argL as i) t = some v -> i <= t /\ as[t - i]? = some v := by
  intro as
  induction as with
  | nil => intro i t v h; cases h
  | cons a as ih =>
   intro i t v h
   unfold argL at h
   rw [mX] at h
   split at h
   ·rename_i e; subst e; injection h with h; subst h; exact ⟨Nat.le_refl _, by simp⟩
   ·rename_i e
    obtain ⟨h1, h2⟩ := ih _ _ _ h
    refine ⟨by omega, ?_⟩
    have : t - i = (t - (i + 1)) + 1 := by omega
    rw [this, List.getElem?_cons_succ]; exact h2
 intro t v h
 obtain ⟨_, h2⟩ := key args 0 t v h
 rw [Nat.sub_zero] at h2
 have hlt := (List.getElem?_eq_some_iff.1 h2).1
 rw [nB, if_pos ⟨Nat.zero_le _, by omega⟩, Nat.sub_zero]; exact h2
theorem dq {fn : Func} {c : Code} {an : AN} {args : List AV} {σ : AS} {Q : AV -> AS -> Prop} (hv : bI (av T) T fn c an args σ Q) : ∃ k r σ1, eM T (aJ T k) k fn c args σ = some (r, σ1) /\ Q r σ1 := by
 obtain ⟨k, x, tm1', σ1, e1, tm1, e2, e3⟩ := vc_sound c an _ σ _ hv _ (argL_sub args)
 cases x with
 | exit id => exact e3.elim
 | norm =>
  obtain ⟨vs, h1, h2⟩ := lw e2 _ _ e3
  exact ⟨k, fe vs, σ1, by unfold eM; rw [e1]; simp only [h1], h2⟩
 | ret =>
  obtain ⟨vs, h1, h2⟩ := lw e2 _ _ e3
  exact ⟨k, fe vs, σ1, by unfold eM; rw [e1]; simp only [h1], h2⟩
end
def Runs (T : Tab) (f : Nat) (args : List AV) (σ : AS) (r : AV) (σ' : AS) : Prop := ∃ k, aJ T k f args σ = some (r, σ')
def R (T : Tab) (f : Nat) (args : List AV) (r : AV) : Prop := ∃ k, ∀ σ, aJ T k f args σ = some (r, σ)
section
variable {T : Tab} {f : Nat} {args : List AV} {σ σ' : AS} {r : AV}
theorem R.runs (h : R T f args r) (σ : AS) : Runs T f args σ r σ := h.elim fun k h => ⟨k, h σ⟩
theorem Runs.eq (h : Runs T f args σ r σ') (d : Nat) (K : AV -> AS -> Prop) : oC T d f args σ K = K r σ' := by
 obtain ⟨k, h⟩ := h
 refine propext ⟨fun ⟨m, r2, σ2, h1, h2⟩ => ?_, fun q => ⟨k, r, σ', h, q⟩⟩
 have e1 := aT k (max k m) (Nat.le_max_left _ _) _ _ _ _ h
 have e2 := aT m (max k m) (Nat.le_max_right _ _) _ _ _ _ h1
 rw [e1] at e2; injection e2 with e2; simp only [Prod.mk.injEq] at e2; obtain ⟨rfl, rfl⟩ := e2; exact h2
theorem R.eq (h : R T f args r) (d : Nat) (σ : AS) (K : AV -> AS -> Prop) : oC T d f args σ K = K r σ := (h.runs σ).eq d K
def oZ (T : Tab) (σ : AS) (r : AV) (K : AV -> Prop) : Prop := ∃ k r', fz T σ.h k r = some r' /\ K r'
def bx (fn : Func) : Code := match fn.body with
 | some c => c
 | none => .skip
theorem R.mk {fn : Func} {c : Code} (h1 : T.prim f = none) (h2 : fI T f args = none) (h3 : T.fn f = some fn) (h4 : fn.body = some c) (h5 : T.opened f = false) (h6 : AV.idfree.idfrees args = true) (h7 : AV.norm.norms args = args) {an : AN}
  (hv : bI (av T) T fn c an args ⟨.nil, 0⟩ (fun r1 σ1 => oZ T σ1 r1 (fun r2 => r2 = r))) : R T f args r := by
 obtain ⟨k, r1, σ1, e1, m, r2, e2, rfl⟩ := dq hv
 refine ⟨max k m + 1, fun σ => ?_⟩
 have e1' := hI (m := max k m) (aT k (max k m) (Nat.le_max_left _ _)) (Nat.le_max_left _ _) e1
 have e2' := gj m (max k m + 1) _ _ (by omega) e2
 unfold aJ
 simp only [h1, h2, h3, h4, h5, h6, h7, e1', e2']
theorem Runs.mk {fn : Func} {c : Code} (h1 : T.prim f = none) (h2 : fI T f args = none) (h3 : T.fn f = some fn) (h4 : fn.body = some c) (h5 : T.opened f = true) (h6 : T.mode f = 0) {an : AN}
  (hv : bI (av T) T fn c an args σ (fun r1 σ1 => r1 = r /\ σ1 = σ')) : Runs T f args σ r σ' := by
 obtain ⟨k, r1, σ1, e1, rfl, rfl⟩ := dq hv
 refine ⟨k + 1, ?_⟩
 unfold aJ
 simp only [h1, h2, h3, h4, h5, h6, e1]
end
def cnd (c : Bool) (a : AV) : AV := bif c then a else .tup []
theorem vD (a : AV) : cnd true a = a := rfl
theorem sv (a : AV) : cnd false a = .tup [] := rfl
def gb (L : List (List Nat)) : Nat -> List Nat := fun i => L.getD i []
theorem aa (d : Nat) (v : AV) (K : AV -> Prop) : oV d (some v) K = K v := propext ⟨id, id⟩
theorem aS (d : Nat) (b : AB) (f : Nat -> AV) (σ : AS) (K : AV -> AS -> Prop) : oN d b f σ K = K (f σ.n) ⟨σ.h.put σ.n (some b), σ.n + 1⟩ := propext ⟨id, id⟩
theorem aM (d : Nat) (v : AV) (σ : AS) (K : AV -> AS -> Prop) : oM d (some (v, σ)) K = K v σ := propext ⟨id, id⟩
theorem aF (h : Tr AB) (σ : AS) (K : AS -> Prop) : oH (some h) σ K = K ⟨h, σ.n⟩ := propext ⟨id, id⟩
theorem bt (id : Nat) (b : AB) (K : Nat -> AB -> Prop) : oD (some (id, b)) K = K id b := propext ⟨fun q => q, fun q => q⟩
theorem eG (b : AB) (f : Nat -> AV) (K : AB -> (Nat -> AV) -> Prop) : oE (some (b, f)) K = K b f := propext ⟨id, id⟩
theorem kL (T : Tab) (d f : Nat) (fs cs args : List AV) (σ : AS) (K : AV -> AS -> Prop) : oF T d (.fn f fs cs) args σ K = oC T d f (fs ++ args ++ cs) σ K := propext ⟨id, id⟩
theorem dl (σ : AS) (K : AS -> Prop) : oS σ K = K σ := propext ⟨id, id⟩
theorem fg (K : Prop) : oT true K = K := by unfold oT; simp
theorem aG (A B : Prop) : oI (.b true) A B = A := by unfold oI; simp
theorem aA (A B : Prop) : oI (.b false) A B = B := by unfold oI; simp
theorem bX {L : List Nat} {x : Bool} {w : Bool} {body : Cur L.length -> Prop} {σ : AS} {K : Cur L.length} (h1 : x = w -> body K) (h2 : x = (!w) -> eW L.length K σ) : oG L (.b x) w body σ K := by
 refine ⟨fun h => h1 (by simpa using h), fun h => h2 ?_⟩
 cases x <;> cases w <;> simp_all
theorem jt {L : List Nat} {body : Cur L.length -> Prop} {σ : AS} {K : Cur L.length} : oG L (.b true) true body σ K = body K := by simp [oG]
theorem jy {L : List Nat} {body : Cur L.length -> Prop} {σ : AS} {K : Cur L.length} : oG L (.b false) false body σ K = body K := by simp [oG]
theorem ju {L : List Nat} {body : Cur L.length -> Prop} {σ : AS} {K : Cur L.length} : oG L (.b true) false body σ K = eW L.length K σ := by simp [oG]
theorem jx {L : List Nat} {body : Cur L.length -> Prop} {σ : AS} {K : Cur L.length} : oG L (.b false) true body σ K = eW L.length K σ := by simp [oG]
theorem dc {L : List Nat} {x y : Bool} {body : Cur L.length -> Prop} {σ : AS} {K : Cur L.length} : oG L (cnd x (.b y)) true body σ K = oG L (.b (x && y)) true body σ K := by
 cases x <;> cases y <;> simp [cnd, oG]
theorem dd {L : List Nat} {x y : Bool} {body : Cur L.length -> Prop} {σ : AS} {K : Cur L.length} : oG L (cnd x (.b y)) false body σ K = oG L (.b (x && !y)) true body σ K := by
 cases x <;> cases y <;> simp [cnd, oG]
theorem xu (c y : Bool) : au (.b c) (some (.b true)) (some (cnd (!c) (.b y))) = some (.b (c || y)) := by cases c <;> rfl
theorem iD (c y : Bool) : au (.b c) (some (cnd c (.b y))) (some (.b false)) = some (.b (c && y)) := by cases c <;> rfl
theorem bw (a b : Option AV) : au (.b true) a b = a := rfl
theorem bK (a b : Option AV) : au (.b false) a b = b := rfl
theorem cJ (x : Bool) : cF .not (.b x) = some (.b (!x)) := rfl
theorem dv {T : Tab} {σ : AS} {r : AV} {K : AV -> Prop} (h : r.idfree = true) : oZ T σ r K = K r.norm := by
 have e : fz T σ.h 1 r = some r.norm := by unfold fz; rw [h]
 refine propext ⟨fun ⟨k, r', h1, h2⟩ => ?_, fun q => ⟨1, _, e, q⟩⟩
 have e1 := gj 1 (max 1 k) _ _ (Nat.le_max_left _ _) e
 have e2 := gj k (max 1 k) _ _ (Nat.le_max_right _ _) h1
 rw [e1] at e2; injection e2 with e2; rw [e2]; exact h2
theorem ri {T : Tab} {σ : AS} {x : Bool} {K : AV -> Prop} : oZ T σ (.b x) K = K (.b x) := dv rfl
theorem oz {T : Tab} {σ : AS} {k : IntKind} {x : Int} {K : AV -> Prop} : oZ T σ (.i k x) K = K (.i k x) := dv rfl
theorem wo {T : Tab} {σ : AS} {x : List UInt8} {K : AV -> Prop} : oZ T σ (.s x) K = K (.s x) := dv rfl
theorem oZ_l {T : Tab} {σ : AS} {x : List AV} {K : AV -> Prop} : oZ T σ (.lst x) K = K (.lst x) := dv rfl
theorem iL {l0 : Nat} {body : (AV -> AS -> Prop) -> Prop} {K : AV -> AS -> Prop} : oJ [l0] body K = body K := propext ⟨id, id⟩
theorem xZ {l0 : Nat} {x : Bool} (a0 : AV) {σ : AS} {K : AV -> AS -> Prop} : oG [l0] (.b x) true (fun k : AV -> AS -> Prop => k a0 σ) σ K = K (cnd x a0) σ := by
 cases x
 ·exact propext ⟨fun h => h.2 rfl, fun h => ⟨fun q => (by cases q), fun _ => h⟩⟩
 ·exact propext ⟨fun h => h.1 rfl, fun h => ⟨fun _ => h, fun q => by cases q⟩⟩
theorem ya {l0 : Nat} {x : Bool} (a0 : AV) {σ : AS} {K : AV -> AS -> Prop} : oG [l0] (.b x) false (fun k : AV -> AS -> Prop => k a0 σ) σ K = K (cnd (!x) a0) σ := by
 cases x
 ·exact propext ⟨fun h => h.1 rfl, fun h => ⟨fun _ => h, fun q => by cases q⟩⟩
 ·exact propext ⟨fun h => h.2 rfl, fun h => ⟨fun q => (by cases q), fun _ => h⟩⟩
theorem rI {l0 l1 : Nat} {B : (AV -> AV -> AS -> Prop) -> (AV -> AV -> AS -> Prop)} {X : Type} (e0 e1 : X -> AV) (P : X -> AS -> Prop) (m : X -> Nat) (step : ∀ (R : AV -> AV -> AS -> Prop) (x : X) (σ : AS), P x σ -> (∀ (y : X) (σ' : AS), P y σ' -> m y < m x -> R (e0 y) (e1 y) σ') -> B R (e0 x) (e1 x) σ) (x0 : X) (σ0 : AS) (h0 : P x0 σ0) :
  (oL [l0, l1] B : AV -> AV -> AS -> Prop) (e0 x0) (e1 x0) σ0 := by
 intro (R : AV -> AV -> AS -> Prop) (hR : ∀ (v0 v1 : AV) (σ : AS), B R v0 v1 σ -> R v0 v1 σ)
 have key : ∀ (k : Nat) (x : X) (σ : AS), m x <= k -> P x σ -> R (e0 x) (e1 x) σ := by
  intro k
  induction k with
  | zero => intro x σ hk hp; exact hR _ _ σ (step R x σ hp (fun y σ' _ hlt => by omega))
  | succ k ih => intro x σ hk hp; exact hR _ _ σ (step R x σ hp (fun y σ' hy hlt => ih y σ' (by omega) hy))
 exact key _ x0 σ0 (Nat.le_refl _) h0
theorem fp {l0 l1 : Nat} {body : (AV -> AV -> AS -> Prop) -> Prop} {K : AV -> AV -> AS -> Prop} : oJ [l0, l1] body K = body K := propext ⟨id, id⟩
theorem pn {l0 l1 : Nat} {x : Bool} (a0 a1 : AV) {σ : AS} {K : AV -> AV -> AS -> Prop} : oG [l0, l1] (.b x) true (fun k : AV -> AV -> AS -> Prop => k a0 a1 σ) σ K = K (cnd x a0) (cnd x a1) σ := by
 cases x
 ·exact propext ⟨fun h => h.2 rfl, fun h => ⟨fun q => (by cases q), fun _ => h⟩⟩
 ·exact propext ⟨fun h => h.1 rfl, fun h => ⟨fun _ => h, fun q => by cases q⟩⟩
theorem xY {l0 l1 : Nat} {x : Bool} (a0 a1 : AV) {σ : AS} {K : AV -> AV -> AS -> Prop} : oG [l0, l1] (.b x) false (fun k : AV -> AV -> AS -> Prop => k a0 a1 σ) σ K = K (cnd (!x) a0) (cnd (!x) a1) σ := by
 cases x
 ·exact propext ⟨fun h => h.1 rfl, fun h => ⟨fun _ => h, fun q => by cases q⟩⟩
 ·exact propext ⟨fun h => h.2 rfl, fun h => ⟨fun q => (by cases q), fun _ => h⟩⟩
theorem fV {l0 l1 l2 : Nat} {B : (AV -> AV -> AV -> AS -> Prop) -> (AV -> AV -> AV -> AS -> Prop)} {X : Type} (e0 e1 e2 : X -> AV) (P : X -> AS -> Prop) (m : X -> Nat) (step : ∀ (R : AV -> AV -> AV -> AS -> Prop) (x : X) (σ : AS), P x σ -> (∀ (y : X) (σ' : AS), P y σ' -> m y < m x -> R (e0 y) (e1 y) (e2 y) σ') -> B R (e0 x) (e1 x) (e2 x) σ) (x0 : X) (σ0 : AS) (h0 : P x0 σ0) :
  (oL [l0, l1, l2] B : AV -> AV -> AV -> AS -> Prop) (e0 x0) (e1 x0) (e2 x0) σ0 := by
 intro (R : AV -> AV -> AV -> AS -> Prop) (hR : ∀ (v0 v1 v2 : AV) (σ : AS), B R v0 v1 v2 σ -> R v0 v1 v2 σ)
 have key : ∀ (k : Nat) (x : X) (σ : AS), m x <= k -> P x σ -> R (e0 x) (e1 x) (e2 x) σ := by
  intro k
  induction k with
  | zero => intro x σ hk hp; exact hR _ _ _ σ (step R x σ hp (fun y σ' _ hlt => by omega))
  | succ k ih => intro x σ hk hp; exact hR _ _ _ σ (step R x σ hp (fun y σ' hy hlt => ih y σ' (by omega) hy))
 exact key _ x0 σ0 (Nat.le_refl _) h0
theorem fX {l0 l1 l2 : Nat} {body : (AV -> AV -> AV -> AS -> Prop) -> Prop} {K : AV -> AV -> AV -> AS -> Prop} : oJ [l0, l1, l2] body K = body K := propext ⟨id, id⟩
theorem kz {l0 l1 l2 : Nat} {x : Bool} (a0 a1 a2 : AV) {σ : AS} {K : AV -> AV -> AV -> AS -> Prop} : oG [l0, l1, l2] (.b x) true (fun k : AV -> AV -> AV -> AS -> Prop => k a0 a1 a2 σ) σ K = K (cnd x a0) (cnd x a1) (cnd x a2) σ := by
 cases x
 ·exact propext ⟨fun h => h.2 rfl, fun h => ⟨fun q => (by cases q), fun _ => h⟩⟩
 ·exact propext ⟨fun h => h.1 rfl, fun h => ⟨fun _ => h, fun q => by cases q⟩⟩
theorem mc {l0 l1 l2 : Nat} {x : Bool} (a0 a1 a2 : AV) {σ : AS} {K : AV -> AV -> AV -> AS -> Prop} : oG [l0, l1, l2] (.b x) false (fun k : AV -> AV -> AV -> AS -> Prop => k a0 a1 a2 σ) σ K = K (cnd (!x) a0) (cnd (!x) a1) (cnd (!x) a2) σ := by
 cases x
 ·exact propext ⟨fun h => h.1 rfl, fun h => ⟨fun _ => h, fun q => by cases q⟩⟩
 ·exact propext ⟨fun h => h.2 rfl, fun h => ⟨fun q => (by cases q), fun _ => h⟩⟩
theorem gJ {l0 l1 l2 l3 : Nat} {B : (AV -> AV -> AV -> AV -> AS -> Prop) -> (AV -> AV -> AV -> AV -> AS -> Prop)} {X : Type} (e0 e1 e2 e3 : X -> AV) (P : X -> AS -> Prop) (m : X -> Nat) (step : ∀ (R : AV -> AV -> AV -> AV -> AS -> Prop) (x : X) (σ : AS), P x σ -> (∀ (y : X) (σ' : AS), P y σ' -> m y < m x -> R (e0 y) (e1 y) (e2 y) (e3 y) σ') -> B R (e0 x) (e1 x) (e2 x) (e3 x) σ) (x0 : X) (σ0 : AS) (h0 : P x0 σ0) :
  (oL [l0, l1, l2, l3] B : AV -> AV -> AV -> AV -> AS -> Prop) (e0 x0) (e1 x0) (e2 x0) (e3 x0) σ0 := by
 intro (R : AV -> AV -> AV -> AV -> AS -> Prop) (hR : ∀ (v0 v1 v2 v3 : AV) (σ : AS), B R v0 v1 v2 v3 σ -> R v0 v1 v2 v3 σ)
 have key : ∀ (k : Nat) (x : X) (σ : AS), m x <= k -> P x σ -> R (e0 x) (e1 x) (e2 x) (e3 x) σ := by
  intro k
  induction k with
  | zero => intro x σ hk hp; exact hR _ _ _ _ σ (step R x σ hp (fun y σ' _ hlt => by omega))
  | succ k ih => intro x σ hk hp; exact hR _ _ _ _ σ (step R x σ hp (fun y σ' hy hlt => ih y σ' (by omega) hy))
 exact key _ x0 σ0 (Nat.le_refl _) h0
theorem ca {l0 l1 l2 l3 : Nat} {body : (AV -> AV -> AV -> AV -> AS -> Prop) -> Prop} {K : AV -> AV -> AV -> AV -> AS -> Prop} : oJ [l0, l1, l2, l3] body K = body K := propext ⟨id, id⟩
theorem xW {l0 l1 l2 l3 : Nat} {x : Bool} (a0 a1 a2 a3 : AV) {σ : AS} {K : AV -> AV -> AV -> AV -> AS -> Prop} : oG [l0, l1, l2, l3] (.b x) true (fun k : AV -> AV -> AV -> AV -> AS -> Prop => k a0 a1 a2 a3 σ) σ K = K (cnd x a0) (cnd x a1) (cnd x a2) (cnd x a3) σ := by
 cases x
 ·exact propext ⟨fun h => h.2 rfl, fun h => ⟨fun q => (by cases q), fun _ => h⟩⟩
 ·exact propext ⟨fun h => h.1 rfl, fun h => ⟨fun _ => h, fun q => by cases q⟩⟩
theorem xX {l0 l1 l2 l3 : Nat} {x : Bool} (a0 a1 a2 a3 : AV) {σ : AS} {K : AV -> AV -> AV -> AV -> AS -> Prop} : oG [l0, l1, l2, l3] (.b x) false (fun k : AV -> AV -> AV -> AV -> AS -> Prop => k a0 a1 a2 a3 σ) σ K = K (cnd (!x) a0) (cnd (!x) a1) (cnd (!x) a2) (cnd (!x) a3) σ := by
 cases x
 ·exact propext ⟨fun h => h.1 rfl, fun h => ⟨fun _ => h, fun q => by cases q⟩⟩
 ·exact propext ⟨fun h => h.2 rfl, fun h => ⟨fun q => (by cases q), fun _ => h⟩⟩
theorem gW {l0 l1 l2 l3 l4 : Nat} {B : (AV -> AV -> AV -> AV -> AV -> AS -> Prop) -> (AV -> AV -> AV -> AV -> AV -> AS -> Prop)} {X : Type} (e0 e1 e2 e3 e4 : X -> AV) (P : X -> AS -> Prop) (m : X -> Nat) (step : ∀ (R : AV -> AV -> AV -> AV -> AV -> AS -> Prop) (x : X) (σ : AS), P x σ -> (∀ (y : X) (σ' : AS), P y σ' -> m y < m x -> R (e0 y) (e1 y) (e2 y) (e3 y) (e4 y) σ') -> B R (e0 x) (e1 x) (e2 x) (e3 x) (e4 x) σ) (x0 : X) (σ0 : AS) (h0 : P x0 σ0) :
  (oL [l0, l1, l2, l3, l4] B : AV -> AV -> AV -> AV -> AV -> AS -> Prop) (e0 x0) (e1 x0) (e2 x0) (e3 x0) (e4 x0) σ0 := by
 intro (R : AV -> AV -> AV -> AV -> AV -> AS -> Prop) (hR : ∀ (v0 v1 v2 v3 v4 : AV) (σ : AS), B R v0 v1 v2 v3 v4 σ -> R v0 v1 v2 v3 v4 σ)
 have key : ∀ (k : Nat) (x : X) (σ : AS), m x <= k -> P x σ -> R (e0 x) (e1 x) (e2 x) (e3 x) (e4 x) σ := by
  intro k
  induction k with
  | zero => intro x σ hk hp; exact hR _ _ _ _ _ σ (step R x σ hp (fun y σ' _ hlt => by omega))
  | succ k ih => intro x σ hk hp; exact hR _ _ _ _ _ σ (step R x σ hp (fun y σ' hy hlt => ih y σ' (by omega) hy))
 exact key _ x0 σ0 (Nat.le_refl _) h0
theorem join5 {l0 l1 l2 l3 l4 : Nat} {body : (AV -> AV -> AV -> AV -> AV -> AS -> Prop) -> Prop} {K : AV -> AV -> AV -> AV -> AV -> AS -> Prop} (P : AV -> AV -> AV -> AV -> AV -> AS -> Prop) (h1 : ∀ k : AV -> AV -> AV -> AV -> AV -> AS -> Prop, (∀ (v0 v1 v2 v3 v4 : AV) (σ : AS), P v0 v1 v2 v3 v4 σ -> k v0 v1 v2 v3 v4 σ) -> body k) (h2 : ∀ (v0 v1 v2 v3 v4 : AV) (σ : AS), P v0 v1 v2 v3 v4 σ -> K v0 v1 v2 v3 v4 σ) : oJ [l0, l1, l2, l3, l4] body K := h1 K h2
theorem uQ {l0 l1 l2 l3 l4 : Nat} {body : (AV -> AV -> AV -> AV -> AV -> AS -> Prop) -> Prop} {K : AV -> AV -> AV -> AV -> AV -> AS -> Prop} : oJ [l0, l1, l2, l3, l4] body K = body K := propext ⟨id, id⟩
theorem xU {l0 l1 l2 l3 l4 : Nat} {x : Bool} (a0 a1 a2 a3 a4 : AV) {σ : AS} {K : AV -> AV -> AV -> AV -> AV -> AS -> Prop} : oG [l0, l1, l2, l3, l4] (.b x) true (fun k : AV -> AV -> AV -> AV -> AV -> AS -> Prop => k a0 a1 a2 a3 a4 σ) σ K = K (cnd x a0) (cnd x a1) (cnd x a2) (cnd x a3) (cnd x a4) σ := by
 cases x
 ·exact propext ⟨fun h => h.2 rfl, fun h => ⟨fun q => (by cases q), fun _ => h⟩⟩
 ·exact propext ⟨fun h => h.1 rfl, fun h => ⟨fun _ => h, fun q => by cases q⟩⟩
theorem xV {l0 l1 l2 l3 l4 : Nat} {x : Bool} (a0 a1 a2 a3 a4 : AV) {σ : AS} {K : AV -> AV -> AV -> AV -> AV -> AS -> Prop} : oG [l0, l1, l2, l3, l4] (.b x) false (fun k : AV -> AV -> AV -> AV -> AV -> AS -> Prop => k a0 a1 a2 a3 a4 σ) σ K = K (cnd (!x) a0) (cnd (!x) a1) (cnd (!x) a2) (cnd (!x) a3) (cnd (!x) a4) σ := by
 cases x
 ·exact propext ⟨fun h => h.1 rfl, fun h => ⟨fun _ => h, fun q => by cases q⟩⟩
 ·exact propext ⟨fun h => h.2 rfl, fun h => ⟨fun q => (by cases q), fun _ => h⟩⟩
theorem uG {l0 l1 l2 l3 l4 l5 : Nat} {B : (AV -> AV -> AV -> AV -> AV -> AV -> AS -> Prop) -> (AV -> AV -> AV -> AV -> AV -> AV -> AS -> Prop)} {X : Type} (e0 e1 e2 e3 e4 e5 : X -> AV) (P : X -> AS -> Prop) (m : X -> Nat) (step : ∀ (R : AV -> AV -> AV -> AV -> AV -> AV -> AS -> Prop) (x : X) (σ : AS), P x σ -> (∀ (y : X) (σ' : AS), P y σ' -> m y < m x -> R (e0 y) (e1 y) (e2 y) (e3 y) (e4 y) (e5 y) σ') -> B R (e0 x) (e1 x) (e2 x) (e3 x) (e4 x) (e5 x) σ) (x0 : X) (σ0 : AS) (h0 : P x0 σ0) :
  (oL [l0, l1, l2, l3, l4, l5] B : AV -> AV -> AV -> AV -> AV -> AV -> AS -> Prop) (e0 x0) (e1 x0) (e2 x0) (e3 x0) (e4 x0) (e5 x0) σ0 := by
 intro (R : AV -> AV -> AV -> AV -> AV -> AV -> AS -> Prop) (hR : ∀ (v0 v1 v2 v3 v4 v5 : AV) (σ : AS), B R v0 v1 v2 v3 v4 v5 σ -> R v0 v1 v2 v3 v4 v5 σ)
 have key : ∀ (k : Nat) (x : X) (σ : AS), m x <= k -> P x σ -> R (e0 x) (e1 x) (e2 x) (e3 x) (e4 x) (e5 x) σ := by
  intro k
  induction k with
  | zero => intro x σ hk hp; exact hR _ _ _ _ _ _ σ (step R x σ hp (fun y σ' _ hlt => by omega))
  | succ k ih => intro x σ hk hp; exact hR _ _ _ _ _ _ σ (step R x σ hp (fun y σ' hy hlt => ih y σ' (by omega) hy))
 exact key _ x0 σ0 (Nat.le_refl _) h0
theorem join6_eq {l0 l1 l2 l3 l4 l5 : Nat} {body : (AV -> AV -> AV -> AV -> AV -> AV -> AS -> Prop) -> Prop} {K : AV -> AV -> AV -> AV -> AV -> AV -> AS -> Prop} : oJ [l0, l1, l2, l3, l4, l5] body K = body K := propext ⟨id, id⟩
theorem xS {l0 l1 l2 l3 l4 l5 : Nat} {x : Bool} (a0 a1 a2 a3 a4 a5 : AV) {σ : AS} {K : AV -> AV -> AV -> AV -> AV -> AV -> AS -> Prop} : oG [l0, l1, l2, l3, l4, l5] (.b x) true (fun k : AV -> AV -> AV -> AV -> AV -> AV -> AS -> Prop => k a0 a1 a2 a3 a4 a5 σ) σ K = K (cnd x a0) (cnd x a1) (cnd x a2) (cnd x a3) (cnd x a4) (cnd x a5) σ := by
 cases x
 ·exact propext ⟨fun h => h.2 rfl, fun h => ⟨fun q => (by cases q), fun _ => h⟩⟩
 ·exact propext ⟨fun h => h.1 rfl, fun h => ⟨fun _ => h, fun q => by cases q⟩⟩
theorem xT {l0 l1 l2 l3 l4 l5 : Nat} {x : Bool} (a0 a1 a2 a3 a4 a5 : AV) {σ : AS} {K : AV -> AV -> AV -> AV -> AV -> AV -> AS -> Prop} : oG [l0, l1, l2, l3, l4, l5] (.b x) false (fun k : AV -> AV -> AV -> AV -> AV -> AV -> AS -> Prop => k a0 a1 a2 a3 a4 a5 σ) σ K = K (cnd (!x) a0) (cnd (!x) a1) (cnd (!x) a2) (cnd (!x) a3) (cnd (!x) a4) (cnd (!x) a5) σ := by
 cases x
 ·exact propext ⟨fun h => h.1 rfl, fun h => ⟨fun _ => h, fun q => by cases q⟩⟩
 ·exact propext ⟨fun h => h.2 rfl, fun h => ⟨fun q => (by cases q), fun _ => h⟩⟩
theorem join7 {l0 l1 l2 l3 l4 l5 l6 : Nat} {body : (AV -> AV -> AV -> AV -> AV -> AV -> AV -> AS -> Prop) -> Prop} {K : AV -> AV -> AV -> AV -> AV -> AV -> AV -> AS -> Prop} (P : AV -> AV -> AV -> AV -> AV -> AV -> AV -> AS -> Prop) (h1 : ∀ k : AV -> AV -> AV -> AV -> AV -> AV -> AV -> AS -> Prop, (∀ (v0 v1 v2 v3 v4 v5 v6 : AV) (σ : AS), P v0 v1 v2 v3 v4 v5 v6 σ -> k v0 v1 v2 v3 v4 v5 v6 σ) -> body k) (h2 : ∀ (v0 v1 v2 v3 v4 v5 v6 : AV) (σ : AS), P v0 v1 v2 v3 v4 v5 v6 σ -> K v0 v1 v2 v3 v4 v5 v6 σ) : oJ [l0, l1, l2, l3, l4, l5, l6] body K := h1 K h2
theorem xQ {l0 l1 l2 l3 l4 l5 l6 : Nat} {x : Bool} (a0 a1 a2 a3 a4 a5 a6 : AV) {σ : AS} {K : AV -> AV -> AV -> AV -> AV -> AV -> AV -> AS -> Prop} : oG [l0, l1, l2, l3, l4, l5, l6] (.b x) true (fun k : AV -> AV -> AV -> AV -> AV -> AV -> AV -> AS -> Prop => k a0 a1 a2 a3 a4 a5 a6 σ) σ K = K (cnd x a0) (cnd x a1) (cnd x a2) (cnd x a3) (cnd x a4) (cnd x a5) (cnd x a6) σ := by
 cases x
 ·exact propext ⟨fun h => h.2 rfl, fun h => ⟨fun q => (by cases q), fun _ => h⟩⟩
 ·exact propext ⟨fun h => h.1 rfl, fun h => ⟨fun _ => h, fun q => by cases q⟩⟩
theorem xR {l0 l1 l2 l3 l4 l5 l6 : Nat} {x : Bool} (a0 a1 a2 a3 a4 a5 a6 : AV) {σ : AS} {K : AV -> AV -> AV -> AV -> AV -> AV -> AV -> AS -> Prop} : oG [l0, l1, l2, l3, l4, l5, l6] (.b x) false (fun k : AV -> AV -> AV -> AV -> AV -> AV -> AV -> AS -> Prop => k a0 a1 a2 a3 a4 a5 a6 σ) σ K = K (cnd (!x) a0) (cnd (!x) a1) (cnd (!x) a2) (cnd (!x) a3) (cnd (!x) a4) (cnd (!x) a5) (cnd (!x) a6) σ := by
 cases x
 ·exact propext ⟨fun h => h.1 rfl, fun h => ⟨fun _ => h, fun q => by cases q⟩⟩
 ·exact propext ⟨fun h => h.2 rfl, fun h => ⟨fun q => (by cases q), fun _ => h⟩⟩
theorem xO {l0 l1 l2 l3 l4 l5 l6 l7 : Nat} {x : Bool} (a0 a1 a2 a3 a4 a5 a6 a7 : AV) {σ : AS} {K : AV -> AV -> AV -> AV -> AV -> AV -> AV -> AV -> AS -> Prop} : oG [l0, l1, l2, l3, l4, l5, l6, l7] (.b x) true (fun k : AV -> AV -> AV -> AV -> AV -> AV -> AV -> AV -> AS -> Prop => k a0 a1 a2 a3 a4 a5 a6 a7 σ) σ K = K (cnd x a0) (cnd x a1) (cnd x a2) (cnd x a3) (cnd x a4) (cnd x a5) (cnd x a6) (cnd x a7) σ := by
 cases x
 ·exact propext ⟨fun h => h.2 rfl, fun h => ⟨fun q => (by cases q), fun _ => h⟩⟩
 ·exact propext ⟨fun h => h.1 rfl, fun h => ⟨fun _ => h, fun q => by cases q⟩⟩
theorem xP {l0 l1 l2 l3 l4 l5 l6 l7 : Nat} {x : Bool} (a0 a1 a2 a3 a4 a5 a6 a7 : AV) {σ : AS} {K : AV -> AV -> AV -> AV -> AV -> AV -> AV -> AV -> AS -> Prop} : oG [l0, l1, l2, l3, l4, l5, l6, l7] (.b x) false (fun k : AV -> AV -> AV -> AV -> AV -> AV -> AV -> AV -> AS -> Prop => k a0 a1 a2 a3 a4 a5 a6 a7 σ) σ K = K (cnd (!x) a0) (cnd (!x) a1) (cnd (!x) a2) (cnd (!x) a3) (cnd (!x) a4) (cnd (!x) a5) (cnd (!x) a6) (cnd (!x) a7) σ := by
 cases x
 ·exact propext ⟨fun h => h.1 rfl, fun h => ⟨fun _ => h, fun q => by cases q⟩⟩
 ·exact propext ⟨fun h => h.2 rfl, fun h => ⟨fun q => (by cases q), fun _ => h⟩⟩
theorem join9 {l0 l1 l2 l3 l4 l5 l6 l7 l8 : Nat} {body : (AV -> AV -> AV -> AV -> AV -> AV -> AV -> AV -> AV -> AS -> Prop) -> Prop} {K : AV -> AV -> AV -> AV -> AV -> AV -> AV -> AV -> AV -> AS -> Prop} (P : AV -> AV -> AV -> AV -> AV -> AV -> AV -> AV -> AV -> AS -> Prop) (h1 : ∀ k : AV -> AV -> AV -> AV -> AV -> AV -> AV -> AV -> AV -> AS -> Prop, (∀ (v0 v1 v2 v3 v4 v5 v6 v7 v8 : AV) (σ : AS), P v0 v1 v2 v3 v4 v5 v6 v7 v8 σ -> k v0 v1 v2 v3 v4 v5 v6 v7 v8 σ) -> body k) (h2 : ∀ (v0 v1 v2 v3 v4 v5 v6 v7 v8 : AV) (σ : AS), P v0 v1 v2 v3 v4 v5 v6 v7 v8 σ -> K v0 v1 v2 v3 v4 v5 v6 v7 v8 σ) : oJ [l0, l1, l2, l3, l4, l5, l6, l7, l8] body K := h1 K h2
theorem xM {l0 l1 l2 l3 l4 l5 l6 l7 l8 : Nat} {x : Bool} (a0 a1 a2 a3 a4 a5 a6 a7 a8 : AV) {σ : AS} {K : AV -> AV -> AV -> AV -> AV -> AV -> AV -> AV -> AV -> AS -> Prop} : oG [l0, l1, l2, l3, l4, l5, l6, l7, l8] (.b x) true (fun k : AV -> AV -> AV -> AV -> AV -> AV -> AV -> AV -> AV -> AS -> Prop => k a0 a1 a2 a3 a4 a5 a6 a7 a8 σ) σ K = K (cnd x a0) (cnd x a1) (cnd x a2) (cnd x a3) (cnd x a4) (cnd x a5) (cnd x a6) (cnd x a7) (cnd x a8) σ := by
 cases x
 ·exact propext ⟨fun h => h.2 rfl, fun h => ⟨fun q => (by cases q), fun _ => h⟩⟩
 ·exact propext ⟨fun h => h.1 rfl, fun h => ⟨fun _ => h, fun q => by cases q⟩⟩
theorem xN {l0 l1 l2 l3 l4 l5 l6 l7 l8 : Nat} {x : Bool} (a0 a1 a2 a3 a4 a5 a6 a7 a8 : AV) {σ : AS} {K : AV -> AV -> AV -> AV -> AV -> AV -> AV -> AV -> AV -> AS -> Prop} : oG [l0, l1, l2, l3, l4, l5, l6, l7, l8] (.b x) false (fun k : AV -> AV -> AV -> AV -> AV -> AV -> AV -> AV -> AV -> AS -> Prop => k a0 a1 a2 a3 a4 a5 a6 a7 a8 σ) σ K = K (cnd (!x) a0) (cnd (!x) a1) (cnd (!x) a2) (cnd (!x) a3) (cnd (!x) a4) (cnd (!x) a5) (cnd (!x) a6) (cnd (!x) a7) (cnd (!x) a8) σ := by
 cases x
 ·exact propext ⟨fun h => h.1 rfl, fun h => ⟨fun _ => h, fun q => by cases q⟩⟩
 ·exact propext ⟨fun h => h.2 rfl, fun h => ⟨fun q => (by cases q), fun _ => h⟩⟩
theorem loop10 {l0 l1 l2 l3 l4 l5 l6 l7 l8 l9 : Nat} {B : (AV -> AV -> AV -> AV -> AV -> AV -> AV -> AV -> AV -> AV -> AS -> Prop) -> (AV -> AV -> AV -> AV -> AV -> AV -> AV -> AV -> AV -> AV -> AS -> Prop)} {X : Type} (e0 e1 e2 e3 e4 e5 e6 e7 e8 e9 : X -> AV) (P : X -> AS -> Prop) (m : X -> Nat) (step : ∀ (R : AV -> AV -> AV -> AV -> AV -> AV -> AV -> AV -> AV -> AV -> AS -> Prop) (x : X) (σ : AS), P x σ -> (∀ (y : X) (σ' : AS), P y σ' -> m y < m x -> R (e0 y) (e1 y) (e2 y) (e3 y) (e4 y) (e5 y) (e6 y) (e7 y) (e8 y) (e9 y) σ') -> B R (e0 x) (e1 x) (e2 x) (e3 x) (e4 x) (e5 x) (e6 x) (e7 x) (e8 x) (e9 x) σ) (x0 : X) (σ0 : AS) (h0 : P x0 σ0) :
  (oL [l0, l1, l2, l3, l4, l5, l6, l7, l8, l9] B : AV -> AV -> AV -> AV -> AV -> AV -> AV -> AV -> AV -> AV -> AS -> Prop) (e0 x0) (e1 x0) (e2 x0) (e3 x0) (e4 x0) (e5 x0) (e6 x0) (e7 x0) (e8 x0) (e9 x0) σ0 := by
 intro (R : AV -> AV -> AV -> AV -> AV -> AV -> AV -> AV -> AV -> AV -> AS -> Prop) (hR : ∀ (v0 v1 v2 v3 v4 v5 v6 v7 v8 v9 : AV) (σ : AS), B R v0 v1 v2 v3 v4 v5 v6 v7 v8 v9 σ -> R v0 v1 v2 v3 v4 v5 v6 v7 v8 v9 σ)
 have key : ∀ (k : Nat) (x : X) (σ : AS), m x <= k -> P x σ -> R (e0 x) (e1 x) (e2 x) (e3 x) (e4 x) (e5 x) (e6 x) (e7 x) (e8 x) (e9 x) σ := by
  intro k
  induction k with
  | zero => intro x σ hk hp; exact hR _ _ _ _ _ _ _ _ _ _ σ (step R x σ hp (fun y σ' _ hlt => by omega))
  | succ k ih => intro x σ hk hp; exact hR _ _ _ _ _ _ _ _ _ _ σ (step R x σ hp (fun y σ' hy hlt => ih y σ' (by omega) hy))
 exact key _ x0 σ0 (Nat.le_refl _) h0
theorem vf {l0 l1 l2 l3 l4 l5 l6 l7 l8 l9 : Nat} {x : Bool} (a0 a1 a2 a3 a4 a5 a6 a7 a8 a9 : AV) {σ : AS} {K : AV -> AV -> AV -> AV -> AV -> AV -> AV -> AV -> AV -> AV -> AS -> Prop} : oG [l0, l1, l2, l3, l4, l5, l6, l7, l8, l9] (.b x) true (fun k : AV -> AV -> AV -> AV -> AV -> AV -> AV -> AV -> AV -> AV -> AS -> Prop => k a0 a1 a2 a3 a4 a5 a6 a7 a8 a9 σ) σ K = K (cnd x a0) (cnd x a1) (cnd x a2) (cnd x a3) (cnd x a4) (cnd x a5) (cnd x a6) (cnd x a7) (cnd x a8) (cnd x a9) σ := by
 cases x
 ·exact propext ⟨fun h => h.2 rfl, fun h => ⟨fun q => (by cases q), fun _ => h⟩⟩
 ·exact propext ⟨fun h => h.1 rfl, fun h => ⟨fun _ => h, fun q => by cases q⟩⟩
theorem vg {l0 l1 l2 l3 l4 l5 l6 l7 l8 l9 : Nat} {x : Bool} (a0 a1 a2 a3 a4 a5 a6 a7 a8 a9 : AV) {σ : AS} {K : AV -> AV -> AV -> AV -> AV -> AV -> AV -> AV -> AV -> AV -> AS -> Prop} : oG [l0, l1, l2, l3, l4, l5, l6, l7, l8, l9] (.b x) false (fun k : AV -> AV -> AV -> AV -> AV -> AV -> AV -> AV -> AV -> AV -> AS -> Prop => k a0 a1 a2 a3 a4 a5 a6 a7 a8 a9 σ) σ K = K (cnd (!x) a0) (cnd (!x) a1) (cnd (!x) a2) (cnd (!x) a3) (cnd (!x) a4) (cnd (!x) a5) (cnd (!x) a6) (cnd (!x) a7) (cnd (!x) a8) (cnd (!x) a9) σ := by
 cases x
 ·exact propext ⟨fun h => h.1 rfl, fun h => ⟨fun _ => h, fun q => by cases q⟩⟩
 ·exact propext ⟨fun h => h.2 rfl, fun h => ⟨fun q => (by cases q), fun _ => h⟩⟩
theorem vd {l0 l1 l2 l3 l4 l5 l6 l7 l8 l9 l10 : Nat} {x : Bool} (a0 a1 a2 a3 a4 a5 a6 a7 a8 a9 a10 : AV) {σ : AS} {K : AV -> AV -> AV -> AV -> AV -> AV -> AV -> AV -> AV -> AV -> AV -> AS -> Prop} : oG [l0, l1, l2, l3, l4, l5, l6, l7, l8, l9, l10] (.b x) true (fun k : AV -> AV -> AV -> AV -> AV -> AV -> AV -> AV -> AV -> AV -> AV -> AS -> Prop => k a0 a1 a2 a3 a4 a5 a6 a7 a8 a9 a10 σ) σ K = K (cnd x a0) (cnd x a1) (cnd x a2) (cnd x a3) (cnd x a4) (cnd x a5) (cnd x a6) (cnd x a7) (cnd x a8) (cnd x a9) (cnd x a10) σ := by
 cases x
 ·exact propext ⟨fun h => h.2 rfl, fun h => ⟨fun q => (by cases q), fun _ => h⟩⟩
 ·exact propext ⟨fun h => h.1 rfl, fun h => ⟨fun _ => h, fun q => by cases q⟩⟩
theorem ve {l0 l1 l2 l3 l4 l5 l6 l7 l8 l9 l10 : Nat} {x : Bool} (a0 a1 a2 a3 a4 a5 a6 a7 a8 a9 a10 : AV) {σ : AS} {K : AV -> AV -> AV -> AV -> AV -> AV -> AV -> AV -> AV -> AV -> AV -> AS -> Prop} : oG [l0, l1, l2, l3, l4, l5, l6, l7, l8, l9, l10] (.b x) false (fun k : AV -> AV -> AV -> AV -> AV -> AV -> AV -> AV -> AV -> AV -> AV -> AS -> Prop => k a0 a1 a2 a3 a4 a5 a6 a7 a8 a9 a10 σ) σ K = K (cnd (!x) a0) (cnd (!x) a1) (cnd (!x) a2) (cnd (!x) a3) (cnd (!x) a4) (cnd (!x) a5) (cnd (!x) a6) (cnd (!x) a7) (cnd (!x) a8) (cnd (!x) a9) (cnd (!x) a10) σ := by
 cases x
 ·exact propext ⟨fun h => h.1 rfl, fun h => ⟨fun _ => h, fun q => by cases q⟩⟩
 ·exact propext ⟨fun h => h.2 rfl, fun h => ⟨fun q => (by cases q), fun _ => h⟩⟩
theorem uZ {l0 l1 l2 l3 l4 l5 l6 l7 l8 l9 l10 l11 : Nat} {x : Bool} (a0 a1 a2 a3 a4 a5 a6 a7 a8 a9 a10 a11 : AV) {σ : AS} {K : AV -> AV -> AV -> AV -> AV -> AV -> AV -> AV -> AV -> AV -> AV -> AV -> AS -> Prop} : oG [l0, l1, l2, l3, l4, l5, l6, l7, l8, l9, l10, l11] (.b x) true (fun k : AV -> AV -> AV -> AV -> AV -> AV -> AV -> AV -> AV -> AV -> AV -> AV -> AS -> Prop => k a0 a1 a2 a3 a4 a5 a6 a7 a8 a9 a10 a11 σ) σ K = K (cnd x a0) (cnd x a1) (cnd x a2) (cnd x a3) (cnd x a4) (cnd x a5) (cnd x a6) (cnd x a7) (cnd x a8) (cnd x a9) (cnd x a10) (cnd x a11) σ := by
 cases x
 ·exact propext ⟨fun h => h.2 rfl, fun h => ⟨fun q => (by cases q), fun _ => h⟩⟩
 ·exact propext ⟨fun h => h.1 rfl, fun h => ⟨fun _ => h, fun q => by cases q⟩⟩
theorem vb {l0 l1 l2 l3 l4 l5 l6 l7 l8 l9 l10 l11 : Nat} {x : Bool} (a0 a1 a2 a3 a4 a5 a6 a7 a8 a9 a10 a11 : AV) {σ : AS} {K : AV -> AV -> AV -> AV -> AV -> AV -> AV -> AV -> AV -> AV -> AV -> AV -> AS -> Prop} : oG [l0, l1, l2, l3, l4, l5, l6, l7, l8, l9, l10, l11] (.b x) false (fun k : AV -> AV -> AV -> AV -> AV -> AV -> AV -> AV -> AV -> AV -> AV -> AV -> AS -> Prop => k a0 a1 a2 a3 a4 a5 a6 a7 a8 a9 a10 a11 σ) σ K = K (cnd (!x) a0) (cnd (!x) a1) (cnd (!x) a2) (cnd (!x) a3) (cnd (!x) a4) (cnd (!x) a5) (cnd (!x) a6) (cnd (!x) a7) (cnd (!x) a8) (cnd (!x) a9) (cnd (!x) a10) (cnd (!x) a11) σ := by
 cases x
 ·exact propext ⟨fun h => h.1 rfl, fun h => ⟨fun _ => h, fun q => by cases q⟩⟩
 ·exact propext ⟨fun h => h.2 rfl, fun h => ⟨fun q => (by cases q), fun _ => h⟩⟩
section
variable {T : Tab} {h : Tr AB} {t e z : Nat} {k : IntKind}
theorem g_len_s (ht : T.ty t = some .string) (s : List UInt8) : ak T h .len [t] [.s s] = some (.i .i64 s.length) := by simp [ak, ht]
theorem pp (ht : T.ty t = some (.slice e)) (l : List AV) : ak T h .len [t] [.lst l] = some (.i .i64 l.length) := by simp [ak, ht]
theorem yx (ht : T.ty t = some (.slice e)) : ak T h .len [t] [.nils] = some (.i .i64 0) := by simp [ak, ht]
theorem fM (ht : T.ty t = some (.slice e)) (id off n : Nat) (cap : Option Nat) : ak T h .len [t] [.sl id off n cap] = some (.i .i64 n) := by simp [ak, ht]
theorem g_idx_s' (ht : T.ty t = some .string) {s : List UInt8} {n : Int} (h0 : 0 <= n) (hj : n < s.length) : cd T t (.s s) (.i k n) = some (.i .u8 (s.getD n.toNat 0).toNat) := by
 have hj' : n.toNat < s.length := by omega
 simp [cd, ht, hj', h0]
theorem g_ia {x : AV} {es : List AV} (ht : T.ty t = some (.slice e)) (hz : T.sz e = some z) {n : Int} (h0 : 0 <= n) (hx : es[n.toNat]? = some x) (hc : x.cells.length = z) : ai T t (.lst es) (.i k n) = some (.iptr x.cells) := by
 have hj : n.toNat < es.length := (List.getElem?_eq_some_iff.1 hx).1
 have hc' : Nat.beq x.cells.length z = true := by rw [hc]; exact Nat.beq_refl z
 simp only [ai, ht, hz]
 rw [if_pos ⟨h0, by omega⟩]
 simp only [hx, hc']
theorem mg {α : Type} [Inhabited α] {enc : α -> AV} {l : List α} (ht : T.ty t = some (.slice e)) (hz : T.sz e = some z) {n : Int} (h0 : 0 <= n) (hj : n < l.length) (hc : ∀ x, (enc x).cells.length = z) : ai T t (.lst (l.map enc)) (.i k n) = some (.iptr (enc (l.getD n.toNat default)).cells) := by
 have hj' : n.toNat < l.length := by omega
 refine g_ia ht hz h0 ?_ (hc _)
 rw [List.getElem?_map, List.getD_eq_getElem?_getD, List.getElem?_eq_getElem hj']; rfl
theorem tc {d : TypeDesc} (ht : T.ty t = some d) (hd : em d = false) (c : AV) (cs : List AV) : aK T t (c :: cs) = some c := by simp [aK, ht, hd]
theorem nV {d : TypeDesc} (ht : T.ty t = some d) (hd : em d = true) (hz : T.sz t = some z) (cs : List AV) : aK T t cs = (cK z cs).map .agg := by simp [aK, ht, hd, hz]
theorem dD (ht : (T.ty t).map em = some false) (c : AV) (cs : List AV) : aK T t (c :: cs) = some c := by
 cases hd : T.ty t with
 | none => rw [hd] at ht; cases ht
 | some d => rw [hd] at ht; exact tc hd (Option.some.inj ht) c cs
theorem jd (ht : (T.ty t).map em = some true) (hz : T.sz t = some z) (cs : List AV) : aK T t cs = (cK z cs).map .agg := by
 cases hd : T.ty t with
 | none => rw [hd] at ht; cases ht
 | some d => rw [hd] at ht; exact nV hd (Option.some.inj ht) hz cs
theorem dP (cs : List AV) : ac T h t (.iptr cs) = aK T t cs := rfl
theorem cM {id off : Nat} {cs : List AV} {g : Bool} (hg : h.get id = some (.cells cs e g)) (ho : off <= cs.length) : ac T h t (.ptr id off) = aK T t (cs.drop off) := by
 unfold ac ig
 simp only [hg, Nat.ble_eq_true_of_le ho]
theorem nT (off : Nat) (cs : List AV) : am off (.iptr cs) = some (.iptr (cs.drop off)) := rfl
theorem bT (off id o : Nat) : am off (.ptr id o) = some (.ptr id (o + off)) := rfl
theorem mS (id o : Nat) : cQ (.ptr id o) = some (.ptr id o) := rfl
theorem mm (n : Nat) (vs : List AV) : aI n (.tup vs) = vs[n]? := rfl
theorem dU {id off : Nat} {cs : List AV} {g : Bool} {v : AV} {cs' : List AV} (hz : T.sz t = some z) (hg : h.get id = some (.cells cs e g)) (hl : v.cells.length = z) (ha : aQ v.cells = true) (hs : bN cs off v.cells = some cs') : aB T h t (.ptr id off) v = some (h.put id (some (.cells cs' e g))) := by
 unfold aB
 have : Nat.beq v.cells.length z = true := by rw [hl]; exact Nat.beq_refl z
 simp only [hz, this, ha, hg, hs]
theorem cw (a b : Int) (c : Bool) : ah T .lss t c (.i k a) (.i k b) = some (.b (decide (a < b))) := by simp [ah, iop]
theorem gN (a b : Int) (c : Bool) : ah T .leq t c (.i k a) (.i k b) = some (.b (decide (a <= b))) := by simp [ah, iop]
theorem ck (a b : Int) (c : Bool) : ah T .gtr t c (.i k a) (.i k b) = some (.b (decide (b < a))) := by simp [ah, iop]
theorem nz (a b : Int) (c : Bool) : ah T .geq t c (.i k a) (.i k b) = some (.b (decide (b <= a))) := by simp [ah, iop]
theorem bG (a b : Int) (c : Bool) : ah T .eql t c (.i k a) (.i k b) = some (.b (decide (a = b))) := by simp [ah, iop]; rfl
theorem cG (a b : Int) (c : Bool) : ah T .neq t c (.i k a) (.i k b) = some (.b (decide (a ≠ b))) := by simp [ah, iop]; rfl
theorem aC (a b : Int) (c : Bool) : ah T .add t c (.i k a) (.i k b) = some (.i k (k.wrap (a + b))) := by simp [ah, iop]
theorem bE (a b : Int) (c : Bool) : ah T .sub t c (.i k a) (.i k b) = some (.i k (k.wrap (a - b))) := by simp [ah, iop]
theorem mA (a b : Int) (c : Bool) : ah T .mul t c (.i k a) (.i k b) = some (.i k (k.wrap (a * b))) := by simp [ah, iop]
theorem bin_quo {a b : Int} (hb : b ≠ 0) (c : Bool) : ah T .quo t c (.i k a) (.i k b) = some (.i k (k.wrap (a.tdiv b))) := by simp [ah, iop, hb]
theorem bin_rem {a b : Int} (hb : b ≠ 0) (c : Bool) : ah T .rem t c (.i k a) (.i k b) = some (.i k (a.tmod b)) := by simp [ah, iop, hb]
theorem cm (a b : List UInt8) (c : Bool) : ah T .eql t c (.s a) (.s b) = some (.b (a == b)) := rfl
theorem gn (a b : List UInt8) (c : Bool) : ah T .neq t c (.s a) (.s b) = some (.b (!(a == b))) := rfl
theorem pq (a b : List UInt8) (c : Bool) : ah T .lss t c (.s a) (.s b) = some (.b (Op.bytesLess a b)) := rfl
theorem tF (a b : List UInt8) (c : Bool) : ah T .leq t c (.s a) (.s b) = some (.b (Op.bytesLess a b || a == b)) := rfl
theorem bin_sgt (a b : List UInt8) (c : Bool) : ah T .gtr t c (.s a) (.s b) = some (.b (!(Op.bytesLess a b || a == b))) := rfl
theorem pr (a b : List UInt8) (c : Bool) : ah T .geq t c (.s a) (.s b) = some (.b (!Op.bytesLess a b)) := rfl
theorem kf {a b : List UInt8} (hl : a.length + b.length <= 9223372036854775807) (c : Bool) : ah T .add t c (.s a) (.s b) = some (.s (a ++ b)) := by
 simp only [ah, sop, Nat.ble_eq_true_of_le hl]
theorem bin_beq (ht : T.ty t = some .bool) (a b : Bool) (c : Bool) : ah T .eql t c (.b a) (.b b) = some (.b (a == b)) := by simp [ah, ht]
theorem bin_bne (ht : T.ty t = some .bool) (a b : Bool) (c : Bool) : ah T .neq t c (.b a) (.b b) = some (.b (!(a == b))) := by simp [ah, ht]
theorem cx {x : Int} (h1 : -9223372036854775808 <= x) (h2 : x <= 9223372036854775807) : IntKind.wrap .i64 x = x := by
 have := IntWalk.i64_in x ⟨h1, h2⟩
 exact this
end
abbrev C0 : Type := AS -> Prop
abbrev C1 : Type := AV -> AS -> Prop
abbrev C2 : Type := AV -> AV -> AS -> Prop
abbrev C3 : Type := AV -> AV -> AV -> AS -> Prop
abbrev C4 : Type := AV -> AV -> AV -> AV -> AS -> Prop
abbrev C5 : Type := AV -> AV -> AV -> AV -> AV -> AS -> Prop
abbrev C6 : Type := AV -> AV -> AV -> AV -> AV -> AV -> AS -> Prop
abbrev C7 : Type := AV -> AV -> AV -> AV -> AV -> AV -> AV -> AS -> Prop
abbrev C8 : Type := AV -> AV -> AV -> AV -> AV -> AV -> AV -> AV -> AS -> Prop
abbrev C9 : Type := AV -> AV -> AV -> AV -> AV -> AV -> AV -> AV -> AV -> AS -> Prop
abbrev C10 : Type := AV -> AV -> AV -> AV -> AV -> AV -> AV -> AV -> AV -> AV -> AS -> Prop
abbrev C11 : Type := AV -> AV -> AV -> AV -> AV -> AV -> AV -> AV -> AV -> AV -> AV -> AS -> Prop
abbrev C12 : Type := AV -> AV -> AV -> AV -> AV -> AV -> AV -> AV -> AV -> AV -> AV -> AV -> AS -> Prop
abbrev C13 : Type := AV -> AV -> AV -> AV -> AV -> AV -> AV -> AV -> AV -> AV -> AV -> AV -> AV -> AS -> Prop
abbrev C14 : Type := AV -> AV -> AV -> AV -> AV -> AV -> AV -> AV -> AV -> AV -> AV -> AV -> AV -> AV -> AS -> Prop
abbrev C15 : Type := AV -> AV -> AV -> AV -> AV -> AV -> AV -> AV -> AV -> AV -> AV -> AV -> AV -> AV -> AV -> AS -> Prop
@[congr] theorem oV_cong {d : Nat} {r r' : Option AV} {K : AV -> Prop} (h : r = r') : oV d r K = oV d r' K := by rw [h]
@[congr] theorem oI_cong {c c' : AV} {A B : Prop} (h : c = c') : oI c A B = oI c' A B := by rw [h]
@[congr] theorem oG_cong {L : List Nat} {c c' : AV} {w : Bool} {body : Cur L.length -> Prop} {σ : AS} {K : Cur L.length} (h : c = c') : oG L c w body σ K = oG L c' w body σ K := by rw [h]
@[congr] theorem oC_cong {T : Tab} {d f : Nat} {as as' : List AV} {σ : AS} {K : AV -> AS -> Prop} (h : as = as') : oC T d f as σ K = oC T d f as' σ K := by rw [h]
@[congr] theorem oM_cong {d : Nat} {r r' : Option (AV × AS)} {K : AV -> AS -> Prop} (h : r = r') : oM d r K = oM d r' K := by rw [h]
@[congr] theorem oH_cong {r r' : Option (Tr AB)} {σ : AS} {K : AS -> Prop} (h : r = r') : oH r σ K = oH r' σ K := by rw [h]
@[congr] theorem oD_cong {r r' : Option (Nat × AB)} {K : Nat -> AB -> Prop} (h : r = r') : oD r K = oD r' K := by rw [h]
@[congr] theorem oE_cong {r r' : Option (AB × (Nat -> AV))} {K : AB -> (Nat -> AV) -> Prop} (h : r = r') : oE r K = oE r' K := by rw [h]
@[congr] theorem oT_cong {b b' : Bool} {K : Prop} (h : b = b') : oT b K = oT b' K := by rw [h]
@[congr] theorem oN_cong {d : Nat} {b b' : AB} {f : Nat -> AV} {σ : AS} {K : AV -> AS -> Prop} (h : b = b') : oN d b f σ K = oN d b' f σ K := by rw [h]
@[congr] theorem oS_cong {σ σ' : AS} {K : AS -> Prop} (h : σ = σ') : oS σ K = oS σ' K := by rw [h]
@[congr] theorem oG_cong_0 {c c' : AV} {w : Bool} {body : C0 -> Prop} {σ : AS} {K : C0} (h : c = c') : oG ([] : List Nat) c w body σ K = oG ([] : List Nat) c' w body σ K := by rw [h]
@[congr] theorem oG_cong_1 {l0 : Nat} {c c' : AV} {w : Bool} {body : C1 -> Prop} {σ : AS} {K : C1} (h : c = c') : oG [l0] c w body σ K = oG [l0] c' w body σ K := by rw [h]
@[congr] theorem oG_cong_2 {l0 l1 : Nat} {c c' : AV} {w : Bool} {body : C2 -> Prop} {σ : AS} {K : C2} (h : c = c') : oG [l0, l1] c w body σ K = oG [l0, l1] c' w body σ K := by rw [h]
@[congr] theorem oG_cong_3 {l0 l1 l2 : Nat} {c c' : AV} {w : Bool} {body : C3 -> Prop} {σ : AS} {K : C3} (h : c = c') : oG [l0, l1, l2] c w body σ K = oG [l0, l1, l2] c' w body σ K := by rw [h]
@[congr] theorem oG_cong_4 {l0 l1 l2 l3 : Nat} {c c' : AV} {w : Bool} {body : C4 -> Prop} {σ : AS} {K : C4} (h : c = c') : oG [l0, l1, l2, l3] c w body σ K = oG [l0, l1, l2, l3] c' w body σ K := by rw [h]
@[congr] theorem oG_cong_5 {l0 l1 l2 l3 l4 : Nat} {c c' : AV} {w : Bool} {body : C5 -> Prop} {σ : AS} {K : C5} (h : c = c') : oG [l0, l1, l2, l3, l4] c w body σ K = oG [l0, l1, l2, l3, l4] c' w body σ K := by rw [h]
@[congr] theorem oG_cong_6 {l0 l1 l2 l3 l4 l5 : Nat} {c c' : AV} {w : Bool} {body : C6 -> Prop} {σ : AS} {K : C6} (h : c = c') : oG [l0, l1, l2, l3, l4, l5] c w body σ K = oG [l0, l1, l2, l3, l4, l5] c' w body σ K := by rw [h]
@[congr] theorem oG_cong_7 {l0 l1 l2 l3 l4 l5 l6 : Nat} {c c' : AV} {w : Bool} {body : C7 -> Prop} {σ : AS} {K : C7} (h : c = c') : oG [l0, l1, l2, l3, l4, l5, l6] c w body σ K = oG [l0, l1, l2, l3, l4, l5, l6] c' w body σ K := by rw [h]
@[congr] theorem oG_cong_8 {l0 l1 l2 l3 l4 l5 l6 l7 : Nat} {c c' : AV} {w : Bool} {body : C8 -> Prop} {σ : AS} {K : C8} (h : c = c') : oG [l0, l1, l2, l3, l4, l5, l6, l7] c w body σ K = oG [l0, l1, l2, l3, l4, l5, l6, l7] c' w body σ K := by rw [h]
@[congr] theorem oG_cong_9 {l0 l1 l2 l3 l4 l5 l6 l7 l8 : Nat} {c c' : AV} {w : Bool} {body : C9 -> Prop} {σ : AS} {K : C9} (h : c = c') : oG [l0, l1, l2, l3, l4, l5, l6, l7, l8] c w body σ K = oG [l0, l1, l2, l3, l4, l5, l6, l7, l8] c' w body σ K := by rw [h]
@[congr] theorem oG_cong_10 {l0 l1 l2 l3 l4 l5 l6 l7 l8 l9 : Nat} {c c' : AV} {w : Bool} {body : C10 -> Prop} {σ : AS} {K : C10} (h : c = c') : oG [l0, l1, l2, l3, l4, l5, l6, l7, l8, l9] c w body σ K = oG [l0, l1, l2, l3, l4, l5, l6, l7, l8, l9] c' w body σ K := by rw [h]
@[congr] theorem oG_cong_11 {l0 l1 l2 l3 l4 l5 l6 l7 l8 l9 l10 : Nat} {c c' : AV} {w : Bool} {body : C11 -> Prop} {σ : AS} {K : C11} (h : c = c') : oG [l0, l1, l2, l3, l4, l5, l6, l7, l8, l9, l10] c w body σ K = oG [l0, l1, l2, l3, l4, l5, l6, l7, l8, l9, l10] c' w body σ K := by rw [h]
@[congr] theorem oG_cong_12 {l0 l1 l2 l3 l4 l5 l6 l7 l8 l9 l10 l11 : Nat} {c c' : AV} {w : Bool} {body : C12 -> Prop} {σ : AS} {K : C12} (h : c = c') : oG [l0, l1, l2, l3, l4, l5, l6, l7, l8, l9, l10, l11] c w body σ K = oG [l0, l1, l2, l3, l4, l5, l6, l7, l8, l9, l10, l11] c' w body σ K := by rw [h]
@[congr] theorem oG_cong_13 {l0 l1 l2 l3 l4 l5 l6 l7 l8 l9 l10 l11 l12 : Nat} {c c' : AV} {w : Bool} {body : C13 -> Prop} {σ : AS} {K : C13} (h : c = c') : oG [l0, l1, l2, l3, l4, l5, l6, l7, l8, l9, l10, l11, l12] c w body σ K = oG [l0, l1, l2, l3, l4, l5, l6, l7, l8, l9, l10, l11, l12] c' w body σ K := by rw [h]
@[congr] theorem oG_cong_14 {l0 l1 l2 l3 l4 l5 l6 l7 l8 l9 l10 l11 l12 l13 : Nat} {c c' : AV} {w : Bool} {body : C14 -> Prop} {σ : AS} {K : C14} (h : c = c') : oG [l0, l1, l2, l3, l4, l5, l6, l7, l8, l9, l10, l11, l12, l13] c w body σ K = oG [l0, l1, l2, l3, l4, l5, l6, l7, l8, l9, l10, l11, l12, l13] c' w body σ K := by rw [h]
@[congr] theorem oG_cong_15 {l0 l1 l2 l3 l4 l5 l6 l7 l8 l9 l10 l11 l12 l13 l14 : Nat} {c c' : AV} {w : Bool} {body : C15 -> Prop} {σ : AS} {K : C15} (h : c = c') : oG [l0, l1, l2, l3, l4, l5, l6, l7, l8, l9, l10, l11, l12, l13, l14] c w body σ K = oG [l0, l1, l2, l3, l4, l5, l6, l7, l8, l9, l10, l11, l12, l13, l14] c' w body σ K := by rw [h]
theorem aU {p : Prop} {_ : Decidable p} {A B : Prop} (h1 : p -> A) (h2 : ¬ p -> B) : oI (.b (decide p)) A B := ⟨fun h => h1 (of_decide_eq_true h), fun h => h2 (of_decide_eq_false h)⟩
theorem gi {x : Bool} {A B : Prop} (h1 : x = true -> A) (h2 : x = false -> B) : oI (.b x) A B := ⟨h1, h2⟩
theorem md {l0 : Nat} {body : (AV -> AS -> Prop) -> Prop} {σ : AS} {K : AV -> AS -> Prop} : oG [l0] (.b true) true body σ K = body K := jt
theorem jC {l0 : Nat} {body : (AV -> AS -> Prop) -> Prop} {σ : AS} {K : AV -> AS -> Prop} : oG [l0] (.b false) false body σ K = body K := jy
theorem kN {l0 : Nat} {body : (AV -> AS -> Prop) -> Prop} {σ : AS} {K : AV -> AS -> Prop} : oG [l0] (.b true) false body σ K = K (.tup []) σ := ju
theorem nZ {l0 : Nat} {body : (AV -> AS -> Prop) -> Prop} {σ : AS} {K : AV -> AS -> Prop} : oG [l0] (.b false) true body σ K = K (.tup []) σ := jx
theorem xL {l0 : Nat} {body : (AV -> AS -> Prop) -> Prop} {σ : AS} {K : AV -> AS -> Prop} {w : Bool} : oG [l0] (.tup []) w body σ K = K (.tup []) σ := propext ⟨id, id⟩
theorem oe {p : Prop} {_ : Decidable p} {l0 : Nat} {body : (AV -> AS -> Prop) -> Prop} {σ : AS} {K : AV -> AS -> Prop} (h1 : p -> body K) (h2 : ¬ p -> K (.tup []) σ) : oG [l0] (.b (decide p)) true body σ K := bX (fun h => h1 (of_decide_eq_true h)) (fun h => h2 (of_decide_eq_false h))
theorem og {p : Prop} {_ : Decidable p} {l0 : Nat} {body : (AV -> AS -> Prop) -> Prop} {σ : AS} {K : AV -> AS -> Prop} (h1 : p -> K (.tup []) σ) (h2 : ¬ p -> body K) : oG [l0] (.b (decide p)) false body σ K := bX (fun h => h2 (of_decide_eq_false h)) (fun h => h1 (of_decide_eq_true h))
theorem oh {x : Bool} {l0 : Nat} {body : (AV -> AS -> Prop) -> Prop} {σ : AS} {K : AV -> AS -> Prop} (h1 : x = true -> body K) (h2 : x = false -> K (.tup []) σ) : oG [l0] (.b x) true body σ K := bX h1 h2
theorem oi {x : Bool} {l0 : Nat} {body : (AV -> AS -> Prop) -> Prop} {σ : AS} {K : AV -> AS -> Prop} (h1 : x = true -> K (.tup []) σ) (h2 : x = false -> body K) : oG [l0] (.b x) false body σ K := bX h2 h1
theorem gtt_2 {l0 l1 : Nat} {body : (AV -> AV -> AS -> Prop) -> Prop} {σ : AS} {K : AV -> AV -> AS -> Prop} : oG [l0, l1] (.b true) true body σ K = body K := jt
theorem gff_2 {l0 l1 : Nat} {body : (AV -> AV -> AS -> Prop) -> Prop} {σ : AS} {K : AV -> AV -> AS -> Prop} : oG [l0, l1] (.b false) false body σ K = body K := jy
theorem gtf_2 {l0 l1 : Nat} {body : (AV -> AV -> AS -> Prop) -> Prop} {σ : AS} {K : AV -> AV -> AS -> Prop} : oG [l0, l1] (.b true) false body σ K = K (.tup []) (.tup []) σ := ju
theorem gft_2 {l0 l1 : Nat} {body : (AV -> AV -> AS -> Prop) -> Prop} {σ : AS} {K : AV -> AV -> AS -> Prop} : oG [l0, l1] (.b false) true body σ K = K (.tup []) (.tup []) σ := jx
theorem gvv_2 {l0 l1 : Nat} {body : (AV -> AV -> AS -> Prop) -> Prop} {σ : AS} {K : AV -> AV -> AS -> Prop} {w : Bool} : oG [l0, l1] (.tup []) w body σ K = K (.tup []) (.tup []) σ := propext ⟨id, id⟩
theorem yn {p : Prop} {_ : Decidable p} {l0 l1 : Nat} {body : (AV -> AV -> AS -> Prop) -> Prop} {σ : AS} {K : AV -> AV -> AS -> Prop} (h1 : p -> body K) (h2 : ¬ p -> K (.tup []) (.tup []) σ) : oG [l0, l1] (.b (decide p)) true body σ K := bX (fun h => h1 (of_decide_eq_true h)) (fun h => h2 (of_decide_eq_false h))
theorem yp {p : Prop} {_ : Decidable p} {l0 l1 : Nat} {body : (AV -> AV -> AS -> Prop) -> Prop} {σ : AS} {K : AV -> AV -> AS -> Prop} (h1 : p -> K (.tup []) (.tup []) σ) (h2 : ¬ p -> body K) : oG [l0, l1] (.b (decide p)) false body σ K := bX (fun h => h2 (of_decide_eq_false h)) (fun h => h1 (of_decide_eq_true h))
theorem yu {x : Bool} {l0 l1 : Nat} {body : (AV -> AV -> AS -> Prop) -> Prop} {σ : AS} {K : AV -> AV -> AS -> Prop} (h1 : x = true -> body K) (h2 : x = false -> K (.tup []) (.tup []) σ) : oG [l0, l1] (.b x) true body σ K := bX h1 h2
theorem yw {x : Bool} {l0 l1 : Nat} {body : (AV -> AV -> AS -> Prop) -> Prop} {σ : AS} {K : AV -> AV -> AS -> Prop} (h1 : x = true -> K (.tup []) (.tup []) σ) (h2 : x = false -> body K) : oG [l0, l1] (.b x) false body σ K := bX h2 h1
theorem gg {l0 l1 l2 : Nat} {body : (AV -> AV -> AV -> AS -> Prop) -> Prop} {σ : AS} {K : AV -> AV -> AV -> AS -> Prop} : oG [l0, l1, l2] (.b true) true body σ K = body K := jt
theorem od {l0 l1 l2 : Nat} {body : (AV -> AV -> AV -> AS -> Prop) -> Prop} {σ : AS} {K : AV -> AV -> AV -> AS -> Prop} : oG [l0, l1, l2] (.b false) false body σ K = body K := jy
theorem kM {l0 l1 l2 : Nat} {body : (AV -> AV -> AV -> AS -> Prop) -> Prop} {σ : AS} {K : AV -> AV -> AV -> AS -> Prop} : oG [l0, l1, l2] (.b true) false body σ K = K (.tup []) (.tup []) (.tup []) σ := ju
theorem jB {l0 l1 l2 : Nat} {body : (AV -> AV -> AV -> AS -> Prop) -> Prop} {σ : AS} {K : AV -> AV -> AV -> AS -> Prop} : oG [l0, l1, l2] (.b false) true body σ K = K (.tup []) (.tup []) (.tup []) σ := jx
theorem uY {l0 l1 l2 : Nat} {body : (AV -> AV -> AV -> AS -> Prop) -> Prop} {σ : AS} {K : AV -> AV -> AV -> AS -> Prop} {w : Bool} : oG [l0, l1, l2] (.tup []) w body σ K = K (.tup []) (.tup []) (.tup []) σ := propext ⟨id, id⟩
theorem rX {p : Prop} {_ : Decidable p} {l0 l1 l2 : Nat} {body : (AV -> AV -> AV -> AS -> Prop) -> Prop} {σ : AS} {K : AV -> AV -> AV -> AS -> Prop} (h1 : p -> body K) (h2 : ¬ p -> K (.tup []) (.tup []) (.tup []) σ) : oG [l0, l1, l2] (.b (decide p)) true body σ K := bX (fun h => h1 (of_decide_eq_true h)) (fun h => h2 (of_decide_eq_false h))
theorem rY {p : Prop} {_ : Decidable p} {l0 l1 l2 : Nat} {body : (AV -> AV -> AV -> AS -> Prop) -> Prop} {σ : AS} {K : AV -> AV -> AV -> AS -> Prop} (h1 : p -> K (.tup []) (.tup []) (.tup []) σ) (h2 : ¬ p -> body K) : oG [l0, l1, l2] (.b (decide p)) false body σ K := bX (fun h => h2 (of_decide_eq_false h)) (fun h => h1 (of_decide_eq_true h))
theorem rZ {x : Bool} {l0 l1 l2 : Nat} {body : (AV -> AV -> AV -> AS -> Prop) -> Prop} {σ : AS} {K : AV -> AV -> AV -> AS -> Prop} (h1 : x = true -> body K) (h2 : x = false -> K (.tup []) (.tup []) (.tup []) σ) : oG [l0, l1, l2] (.b x) true body σ K := bX h1 h2
theorem sa {x : Bool} {l0 l1 l2 : Nat} {body : (AV -> AV -> AV -> AS -> Prop) -> Prop} {σ : AS} {K : AV -> AV -> AV -> AS -> Prop} (h1 : x = true -> K (.tup []) (.tup []) (.tup []) σ) (h2 : x = false -> body K) : oG [l0, l1, l2] (.b x) false body σ K := bX h2 h1
theorem rS {l0 l1 l2 l3 : Nat} {body : (AV -> AV -> AV -> AV -> AS -> Prop) -> Prop} {σ : AS} {K : AV -> AV -> AV -> AV -> AS -> Prop} : oG [l0, l1, l2, l3] (.b true) true body σ K = body K := jt
theorem oc {l0 l1 l2 l3 : Nat} {body : (AV -> AV -> AV -> AV -> AS -> Prop) -> Prop} {σ : AS} {K : AV -> AV -> AV -> AV -> AS -> Prop} : oG [l0, l1, l2, l3] (.b false) false body σ K = body K := jy
theorem rT {l0 l1 l2 l3 : Nat} {body : (AV -> AV -> AV -> AV -> AS -> Prop) -> Prop} {σ : AS} {K : AV -> AV -> AV -> AV -> AS -> Prop} : oG [l0, l1, l2, l3] (.b true) false body σ K = K (.tup []) (.tup []) (.tup []) (.tup []) σ := ju
theorem rV {l0 l1 l2 l3 : Nat} {body : (AV -> AV -> AV -> AV -> AS -> Prop) -> Prop} {σ : AS} {K : AV -> AV -> AV -> AV -> AS -> Prop} : oG [l0, l1, l2, l3] (.b false) true body σ K = K (.tup []) (.tup []) (.tup []) (.tup []) σ := jx
theorem uX {l0 l1 l2 l3 : Nat} {body : (AV -> AV -> AV -> AV -> AS -> Prop) -> Prop} {σ : AS} {K : AV -> AV -> AV -> AV -> AS -> Prop} {w : Bool} : oG [l0, l1, l2, l3] (.tup []) w body σ K = K (.tup []) (.tup []) (.tup []) (.tup []) σ := propext ⟨id, id⟩
theorem ym {p : Prop} {_ : Decidable p} {l0 l1 l2 l3 : Nat} {body : (AV -> AV -> AV -> AV -> AS -> Prop) -> Prop} {σ : AS} {K : AV -> AV -> AV -> AV -> AS -> Prop} (h1 : p -> body K) (h2 : ¬ p -> K (.tup []) (.tup []) (.tup []) (.tup []) σ) : oG [l0, l1, l2, l3] (.b (decide p)) true body σ K := bX (fun h => h1 (of_decide_eq_true h)) (fun h => h2 (of_decide_eq_false h))
theorem yo {p : Prop} {_ : Decidable p} {l0 l1 l2 l3 : Nat} {body : (AV -> AV -> AV -> AV -> AS -> Prop) -> Prop} {σ : AS} {K : AV -> AV -> AV -> AV -> AS -> Prop} (h1 : p -> K (.tup []) (.tup []) (.tup []) (.tup []) σ) (h2 : ¬ p -> body K) : oG [l0, l1, l2, l3] (.b (decide p)) false body σ K := bX (fun h => h2 (of_decide_eq_false h)) (fun h => h1 (of_decide_eq_true h))
theorem yr {x : Bool} {l0 l1 l2 l3 : Nat} {body : (AV -> AV -> AV -> AV -> AS -> Prop) -> Prop} {σ : AS} {K : AV -> AV -> AV -> AV -> AS -> Prop} (h1 : x = true -> body K) (h2 : x = false -> K (.tup []) (.tup []) (.tup []) (.tup []) σ) : oG [l0, l1, l2, l3] (.b x) true body σ K := bX h1 h2
theorem yv {x : Bool} {l0 l1 l2 l3 : Nat} {body : (AV -> AV -> AV -> AV -> AS -> Prop) -> Prop} {σ : AS} {K : AV -> AV -> AV -> AV -> AS -> Prop} (h1 : x = true -> K (.tup []) (.tup []) (.tup []) (.tup []) σ) (h2 : x = false -> body K) : oG [l0, l1, l2, l3] (.b x) false body σ K := bX h2 h1
theorem gtt_5 {l0 l1 l2 l3 l4 : Nat} {body : (AV -> AV -> AV -> AV -> AV -> AS -> Prop) -> Prop} {σ : AS} {K : AV -> AV -> AV -> AV -> AV -> AS -> Prop} : oG [l0, l1, l2, l3, l4] (.b true) true body σ K = body K := jt
theorem gff_5 {l0 l1 l2 l3 l4 : Nat} {body : (AV -> AV -> AV -> AV -> AV -> AS -> Prop) -> Prop} {σ : AS} {K : AV -> AV -> AV -> AV -> AV -> AS -> Prop} : oG [l0, l1, l2, l3, l4] (.b false) false body σ K = body K := jy
theorem gtf_5 {l0 l1 l2 l3 l4 : Nat} {body : (AV -> AV -> AV -> AV -> AV -> AS -> Prop) -> Prop} {σ : AS} {K : AV -> AV -> AV -> AV -> AV -> AS -> Prop} : oG [l0, l1, l2, l3, l4] (.b true) false body σ K = K (.tup []) (.tup []) (.tup []) (.tup []) (.tup []) σ := ju
theorem gft_5 {l0 l1 l2 l3 l4 : Nat} {body : (AV -> AV -> AV -> AV -> AV -> AS -> Prop) -> Prop} {σ : AS} {K : AV -> AV -> AV -> AV -> AV -> AS -> Prop} : oG [l0, l1, l2, l3, l4] (.b false) true body σ K = K (.tup []) (.tup []) (.tup []) (.tup []) (.tup []) σ := jx
theorem gvv_5 {l0 l1 l2 l3 l4 : Nat} {body : (AV -> AV -> AV -> AV -> AV -> AS -> Prop) -> Prop} {σ : AS} {K : AV -> AV -> AV -> AV -> AV -> AS -> Prop} {w : Bool} : oG [l0, l1, l2, l3, l4] (.tup []) w body σ K = K (.tup []) (.tup []) (.tup []) (.tup []) (.tup []) σ := propext ⟨id, id⟩
theorem gdt_5 {p : Prop} {_ : Decidable p} {l0 l1 l2 l3 l4 : Nat} {body : (AV -> AV -> AV -> AV -> AV -> AS -> Prop) -> Prop} {σ : AS} {K : AV -> AV -> AV -> AV -> AV -> AS -> Prop} (h1 : p -> body K) (h2 : ¬ p -> K (.tup []) (.tup []) (.tup []) (.tup []) (.tup []) σ) : oG [l0, l1, l2, l3, l4] (.b (decide p)) true body σ K := bX (fun h => h1 (of_decide_eq_true h)) (fun h => h2 (of_decide_eq_false h))
theorem gdf_5 {p : Prop} {_ : Decidable p} {l0 l1 l2 l3 l4 : Nat} {body : (AV -> AV -> AV -> AV -> AV -> AS -> Prop) -> Prop} {σ : AS} {K : AV -> AV -> AV -> AV -> AV -> AS -> Prop} (h1 : p -> K (.tup []) (.tup []) (.tup []) (.tup []) (.tup []) σ) (h2 : ¬ p -> body K) : oG [l0, l1, l2, l3, l4] (.b (decide p)) false body σ K := bX (fun h => h2 (of_decide_eq_false h)) (fun h => h1 (of_decide_eq_true h))
theorem gbt_5 {x : Bool} {l0 l1 l2 l3 l4 : Nat} {body : (AV -> AV -> AV -> AV -> AV -> AS -> Prop) -> Prop} {σ : AS} {K : AV -> AV -> AV -> AV -> AV -> AS -> Prop} (h1 : x = true -> body K) (h2 : x = false -> K (.tup []) (.tup []) (.tup []) (.tup []) (.tup []) σ) : oG [l0, l1, l2, l3, l4] (.b x) true body σ K := bX h1 h2
theorem gbf_5 {x : Bool} {l0 l1 l2 l3 l4 : Nat} {body : (AV -> AV -> AV -> AV -> AV -> AS -> Prop) -> Prop} {σ : AS} {K : AV -> AV -> AV -> AV -> AV -> AS -> Prop} (h1 : x = true -> K (.tup []) (.tup []) (.tup []) (.tup []) (.tup []) σ) (h2 : x = false -> body K) : oG [l0, l1, l2, l3, l4] (.b x) false body σ K := bX h2 h1
theorem yb {l0 l1 l2 l3 l4 l5 : Nat} {body : (AV -> AV -> AV -> AV -> AV -> AV -> AS -> Prop) -> Prop} {σ : AS} {K : AV -> AV -> AV -> AV -> AV -> AV -> AS -> Prop} : oG [l0, l1, l2, l3, l4, l5] (.b true) true body σ K = body K := jt
theorem gff_6 {l0 l1 l2 l3 l4 l5 : Nat} {body : (AV -> AV -> AV -> AV -> AV -> AV -> AS -> Prop) -> Prop} {σ : AS} {K : AV -> AV -> AV -> AV -> AV -> AV -> AS -> Prop} : oG [l0, l1, l2, l3, l4, l5] (.b false) false body σ K = body K := jy
theorem gtf_6 {l0 l1 l2 l3 l4 l5 : Nat} {body : (AV -> AV -> AV -> AV -> AV -> AV -> AS -> Prop) -> Prop} {σ : AS} {K : AV -> AV -> AV -> AV -> AV -> AV -> AS -> Prop} : oG [l0, l1, l2, l3, l4, l5] (.b true) false body σ K = K (.tup []) (.tup []) (.tup []) (.tup []) (.tup []) (.tup []) σ := ju
theorem yk {l0 l1 l2 l3 l4 l5 : Nat} {body : (AV -> AV -> AV -> AV -> AV -> AV -> AS -> Prop) -> Prop} {σ : AS} {K : AV -> AV -> AV -> AV -> AV -> AV -> AS -> Prop} : oG [l0, l1, l2, l3, l4, l5] (.b false) true body σ K = K (.tup []) (.tup []) (.tup []) (.tup []) (.tup []) (.tup []) σ := jx
theorem gvv_6 {l0 l1 l2 l3 l4 l5 : Nat} {body : (AV -> AV -> AV -> AV -> AV -> AV -> AS -> Prop) -> Prop} {σ : AS} {K : AV -> AV -> AV -> AV -> AV -> AV -> AS -> Prop} {w : Bool} : oG [l0, l1, l2, l3, l4, l5] (.tup []) w body σ K = K (.tup []) (.tup []) (.tup []) (.tup []) (.tup []) (.tup []) σ := propext ⟨id, id⟩
theorem rR {l0 l1 l2 l3 l4 l5 l6 : Nat} {body : (AV -> AV -> AV -> AV -> AV -> AV -> AV -> AS -> Prop) -> Prop} {σ : AS} {K : AV -> AV -> AV -> AV -> AV -> AV -> AV -> AS -> Prop} : oG [l0, l1, l2, l3, l4, l5, l6] (.b true) true body σ K = body K := jt
theorem vk {l0 l1 l2 l3 l4 l5 l6 : Nat} {body : (AV -> AV -> AV -> AV -> AV -> AV -> AV -> AS -> Prop) -> Prop} {σ : AS} {K : AV -> AV -> AV -> AV -> AV -> AV -> AV -> AS -> Prop} : oG [l0, l1, l2, l3, l4, l5, l6] (.b false) false body σ K = body K := jy
theorem vh {l0 l1 l2 l3 l4 l5 l6 : Nat} {body : (AV -> AV -> AV -> AV -> AV -> AV -> AV -> AS -> Prop) -> Prop} {σ : AS} {K : AV -> AV -> AV -> AV -> AV -> AV -> AV -> AS -> Prop} : oG [l0, l1, l2, l3, l4, l5, l6] (.b true) false body σ K = K (.tup []) (.tup []) (.tup []) (.tup []) (.tup []) (.tup []) (.tup []) σ := ju
theorem rU {l0 l1 l2 l3 l4 l5 l6 : Nat} {body : (AV -> AV -> AV -> AV -> AV -> AV -> AV -> AS -> Prop) -> Prop} {σ : AS} {K : AV -> AV -> AV -> AV -> AV -> AV -> AV -> AS -> Prop} : oG [l0, l1, l2, l3, l4, l5, l6] (.b false) true body σ K = K (.tup []) (.tup []) (.tup []) (.tup []) (.tup []) (.tup []) (.tup []) σ := jx
theorem uW {l0 l1 l2 l3 l4 l5 l6 : Nat} {body : (AV -> AV -> AV -> AV -> AV -> AV -> AV -> AS -> Prop) -> Prop} {σ : AS} {K : AV -> AV -> AV -> AV -> AV -> AV -> AV -> AS -> Prop} {w : Bool} : oG [l0, l1, l2, l3, l4, l5, l6] (.tup []) w body σ K = K (.tup []) (.tup []) (.tup []) (.tup []) (.tup []) (.tup []) (.tup []) σ := propext ⟨id, id⟩
theorem gtt_8 {l0 l1 l2 l3 l4 l5 l6 l7 : Nat} {body : (AV -> AV -> AV -> AV -> AV -> AV -> AV -> AV -> AS -> Prop) -> Prop} {σ : AS} {K : AV -> AV -> AV -> AV -> AV -> AV -> AV -> AV -> AS -> Prop} : oG [l0, l1, l2, l3, l4, l5, l6, l7] (.b true) true body σ K = body K := jt
theorem gff_8 {l0 l1 l2 l3 l4 l5 l6 l7 : Nat} {body : (AV -> AV -> AV -> AV -> AV -> AV -> AV -> AV -> AS -> Prop) -> Prop} {σ : AS} {K : AV -> AV -> AV -> AV -> AV -> AV -> AV -> AV -> AS -> Prop} : oG [l0, l1, l2, l3, l4, l5, l6, l7] (.b false) false body σ K = body K := jy
theorem gtf_8 {l0 l1 l2 l3 l4 l5 l6 l7 : Nat} {body : (AV -> AV -> AV -> AV -> AV -> AV -> AV -> AV -> AS -> Prop) -> Prop} {σ : AS} {K : AV -> AV -> AV -> AV -> AV -> AV -> AV -> AV -> AS -> Prop} : oG [l0, l1, l2, l3, l4, l5, l6, l7] (.b true) false body σ K = K (.tup []) (.tup []) (.tup []) (.tup []) (.tup []) (.tup []) (.tup []) (.tup []) σ := ju
theorem gft_8 {l0 l1 l2 l3 l4 l5 l6 l7 : Nat} {body : (AV -> AV -> AV -> AV -> AV -> AV -> AV -> AV -> AS -> Prop) -> Prop} {σ : AS} {K : AV -> AV -> AV -> AV -> AV -> AV -> AV -> AV -> AS -> Prop} : oG [l0, l1, l2, l3, l4, l5, l6, l7] (.b false) true body σ K = K (.tup []) (.tup []) (.tup []) (.tup []) (.tup []) (.tup []) (.tup []) (.tup []) σ := jx
theorem gvv_8 {l0 l1 l2 l3 l4 l5 l6 l7 : Nat} {body : (AV -> AV -> AV -> AV -> AV -> AV -> AV -> AV -> AS -> Prop) -> Prop} {σ : AS} {K : AV -> AV -> AV -> AV -> AV -> AV -> AV -> AV -> AS -> Prop} {w : Bool} : oG [l0, l1, l2, l3, l4, l5, l6, l7] (.tup []) w body σ K = K (.tup []) (.tup []) (.tup []) (.tup []) (.tup []) (.tup []) (.tup []) (.tup []) σ := propext ⟨id, id⟩
theorem gtt_9 {l0 l1 l2 l3 l4 l5 l6 l7 l8 : Nat} {body : (AV -> AV -> AV -> AV -> AV -> AV -> AV -> AV -> AV -> AS -> Prop) -> Prop} {σ : AS} {K : AV -> AV -> AV -> AV -> AV -> AV -> AV -> AV -> AV -> AS -> Prop} : oG [l0, l1, l2, l3, l4, l5, l6, l7, l8] (.b true) true body σ K = body K := jt
theorem yl {l0 l1 l2 l3 l4 l5 l6 l7 l8 : Nat} {body : (AV -> AV -> AV -> AV -> AV -> AV -> AV -> AV -> AV -> AS -> Prop) -> Prop} {σ : AS} {K : AV -> AV -> AV -> AV -> AV -> AV -> AV -> AV -> AV -> AS -> Prop} : oG [l0, l1, l2, l3, l4, l5, l6, l7, l8] (.b false) false body σ K = body K := jy
theorem yc {l0 l1 l2 l3 l4 l5 l6 l7 l8 : Nat} {body : (AV -> AV -> AV -> AV -> AV -> AV -> AV -> AV -> AV -> AS -> Prop) -> Prop} {σ : AS} {K : AV -> AV -> AV -> AV -> AV -> AV -> AV -> AV -> AV -> AS -> Prop} : oG [l0, l1, l2, l3, l4, l5, l6, l7, l8] (.b true) false body σ K = K (.tup []) (.tup []) (.tup []) (.tup []) (.tup []) (.tup []) (.tup []) (.tup []) (.tup []) σ := ju
theorem gft_9 {l0 l1 l2 l3 l4 l5 l6 l7 l8 : Nat} {body : (AV -> AV -> AV -> AV -> AV -> AV -> AV -> AV -> AV -> AS -> Prop) -> Prop} {σ : AS} {K : AV -> AV -> AV -> AV -> AV -> AV -> AV -> AV -> AV -> AS -> Prop} : oG [l0, l1, l2, l3, l4, l5, l6, l7, l8] (.b false) true body σ K = K (.tup []) (.tup []) (.tup []) (.tup []) (.tup []) (.tup []) (.tup []) (.tup []) (.tup []) σ := jx
theorem gvv_9 {l0 l1 l2 l3 l4 l5 l6 l7 l8 : Nat} {body : (AV -> AV -> AV -> AV -> AV -> AV -> AV -> AV -> AV -> AS -> Prop) -> Prop} {σ : AS} {K : AV -> AV -> AV -> AV -> AV -> AV -> AV -> AV -> AV -> AS -> Prop} {w : Bool} : oG [l0, l1, l2, l3, l4, l5, l6, l7, l8] (.tup []) w body σ K = K (.tup []) (.tup []) (.tup []) (.tup []) (.tup []) (.tup []) (.tup []) (.tup []) (.tup []) σ := propext ⟨id, id⟩
theorem gtt_10 {l0 l1 l2 l3 l4 l5 l6 l7 l8 l9 : Nat} {body : (AV -> AV -> AV -> AV -> AV -> AV -> AV -> AV -> AV -> AV -> AS -> Prop) -> Prop} {σ : AS} {K : AV -> AV -> AV -> AV -> AV -> AV -> AV -> AV -> AV -> AV -> AS -> Prop} : oG [l0, l1, l2, l3, l4, l5, l6, l7, l8, l9] (.b true) true body σ K = body K := jt
theorem gff_10 {l0 l1 l2 l3 l4 l5 l6 l7 l8 l9 : Nat} {body : (AV -> AV -> AV -> AV -> AV -> AV -> AV -> AV -> AV -> AV -> AS -> Prop) -> Prop} {σ : AS} {K : AV -> AV -> AV -> AV -> AV -> AV -> AV -> AV -> AV -> AV -> AS -> Prop} : oG [l0, l1, l2, l3, l4, l5, l6, l7, l8, l9] (.b false) false body σ K = body K := jy
theorem gtf_10 {l0 l1 l2 l3 l4 l5 l6 l7 l8 l9 : Nat} {body : (AV -> AV -> AV -> AV -> AV -> AV -> AV -> AV -> AV -> AV -> AS -> Prop) -> Prop} {σ : AS} {K : AV -> AV -> AV -> AV -> AV -> AV -> AV -> AV -> AV -> AV -> AS -> Prop} : oG [l0, l1, l2, l3, l4, l5, l6, l7, l8, l9] (.b true) false body σ K = K (.tup []) (.tup []) (.tup []) (.tup []) (.tup []) (.tup []) (.tup []) (.tup []) (.tup []) (.tup []) σ := ju
theorem gft_10 {l0 l1 l2 l3 l4 l5 l6 l7 l8 l9 : Nat} {body : (AV -> AV -> AV -> AV -> AV -> AV -> AV -> AV -> AV -> AV -> AS -> Prop) -> Prop} {σ : AS} {K : AV -> AV -> AV -> AV -> AV -> AV -> AV -> AV -> AV -> AV -> AS -> Prop} : oG [l0, l1, l2, l3, l4, l5, l6, l7, l8, l9] (.b false) true body σ K = K (.tup []) (.tup []) (.tup []) (.tup []) (.tup []) (.tup []) (.tup []) (.tup []) (.tup []) (.tup []) σ := jx
theorem gvv_10 {l0 l1 l2 l3 l4 l5 l6 l7 l8 l9 : Nat} {body : (AV -> AV -> AV -> AV -> AV -> AV -> AV -> AV -> AV -> AV -> AS -> Prop) -> Prop} {σ : AS} {K : AV -> AV -> AV -> AV -> AV -> AV -> AV -> AV -> AV -> AV -> AS -> Prop} {w : Bool} : oG [l0, l1, l2, l3, l4, l5, l6, l7, l8, l9] (.tup []) w body σ K = K (.tup []) (.tup []) (.tup []) (.tup []) (.tup []) (.tup []) (.tup []) (.tup []) (.tup []) (.tup []) σ := propext ⟨id, id⟩
theorem tv {l0 l1 l2 l3 l4 l5 l6 l7 l8 l9 l10 l11 : Nat} {body : (AV -> AV -> AV -> AV -> AV -> AV -> AV -> AV -> AV -> AV -> AV -> AV -> AS -> Prop) -> Prop} {σ : AS} {K : AV -> AV -> AV -> AV -> AV -> AV -> AV -> AV -> AV -> AV -> AV -> AV -> AS -> Prop} : oG [l0, l1, l2, l3, l4, l5, l6, l7, l8, l9, l10, l11] (.b true) true body σ K = body K := jt
theorem gff_12 {l0 l1 l2 l3 l4 l5 l6 l7 l8 l9 l10 l11 : Nat} {body : (AV -> AV -> AV -> AV -> AV -> AV -> AV -> AV -> AV -> AV -> AV -> AV -> AS -> Prop) -> Prop} {σ : AS} {K : AV -> AV -> AV -> AV -> AV -> AV -> AV -> AV -> AV -> AV -> AV -> AV -> AS -> Prop} : oG [l0, l1, l2, l3, l4, l5, l6, l7, l8, l9, l10, l11] (.b false) false body σ K = body K := jy
theorem gtf_12 {l0 l1 l2 l3 l4 l5 l6 l7 l8 l9 l10 l11 : Nat} {body : (AV -> AV -> AV -> AV -> AV -> AV -> AV -> AV -> AV -> AV -> AV -> AV -> AS -> Prop) -> Prop} {σ : AS} {K : AV -> AV -> AV -> AV -> AV -> AV -> AV -> AV -> AV -> AV -> AV -> AV -> AS -> Prop} : oG [l0, l1, l2, l3, l4, l5, l6, l7, l8, l9, l10, l11] (.b true) false body σ K = K (.tup []) (.tup []) (.tup []) (.tup []) (.tup []) (.tup []) (.tup []) (.tup []) (.tup []) (.tup []) (.tup []) (.tup []) σ := ju
theorem tw {l0 l1 l2 l3 l4 l5 l6 l7 l8 l9 l10 l11 : Nat} {body : (AV -> AV -> AV -> AV -> AV -> AV -> AV -> AV -> AV -> AV -> AV -> AV -> AS -> Prop) -> Prop} {σ : AS} {K : AV -> AV -> AV -> AV -> AV -> AV -> AV -> AV -> AV -> AV -> AV -> AV -> AS -> Prop} : oG [l0, l1, l2, l3, l4, l5, l6, l7, l8, l9, l10, l11] (.b false) true body σ K = K (.tup []) (.tup []) (.tup []) (.tup []) (.tup []) (.tup []) (.tup []) (.tup []) (.tup []) (.tup []) (.tup []) (.tup []) σ := jx
theorem gvv_12 {l0 l1 l2 l3 l4 l5 l6 l7 l8 l9 l10 l11 : Nat} {body : (AV -> AV -> AV -> AV -> AV -> AV -> AV -> AV -> AV -> AV -> AV -> AV -> AS -> Prop) -> Prop} {σ : AS} {K : AV -> AV -> AV -> AV -> AV -> AV -> AV -> AV -> AV -> AV -> AV -> AV -> AS -> Prop} {w : Bool} : oG [l0, l1, l2, l3, l4, l5, l6, l7, l8, l9, l10, l11] (.tup []) w body σ K = K (.tup []) (.tup []) (.tup []) (.tup []) (.tup []) (.tup []) (.tup []) (.tup []) (.tup []) (.tup []) (.tup []) (.tup []) σ := propext ⟨id, id⟩
theorem gtt_14 {l0 l1 l2 l3 l4 l5 l6 l7 l8 l9 l10 l11 l12 l13 : Nat} {body : (AV -> AV -> AV -> AV -> AV -> AV -> AV -> AV -> AV -> AV -> AV -> AV -> AV -> AV -> AS -> Prop) -> Prop} {σ : AS} {K : AV -> AV -> AV -> AV -> AV -> AV -> AV -> AV -> AV -> AV -> AV -> AV -> AV -> AV -> AS -> Prop} : oG [l0, l1, l2, l3, l4, l5, l6, l7, l8, l9, l10, l11, l12, l13] (.b true) true body σ K = body K := jt
theorem gff_14 {l0 l1 l2 l3 l4 l5 l6 l7 l8 l9 l10 l11 l12 l13 : Nat} {body : (AV -> AV -> AV -> AV -> AV -> AV -> AV -> AV -> AV -> AV -> AV -> AV -> AV -> AV -> AS -> Prop) -> Prop} {σ : AS} {K : AV -> AV -> AV -> AV -> AV -> AV -> AV -> AV -> AV -> AV -> AV -> AV -> AV -> AV -> AS -> Prop} : oG [l0, l1, l2, l3, l4, l5, l6, l7, l8, l9, l10, l11, l12, l13] (.b false) false body σ K = body K := jy
theorem gtf_14 {l0 l1 l2 l3 l4 l5 l6 l7 l8 l9 l10 l11 l12 l13 : Nat} {body : (AV -> AV -> AV -> AV -> AV -> AV -> AV -> AV -> AV -> AV -> AV -> AV -> AV -> AV -> AS -> Prop) -> Prop} {σ : AS} {K : AV -> AV -> AV -> AV -> AV -> AV -> AV -> AV -> AV -> AV -> AV -> AV -> AV -> AV -> AS -> Prop} : oG [l0, l1, l2, l3, l4, l5, l6, l7, l8, l9, l10, l11, l12, l13] (.b true) false body σ K = K (.tup []) (.tup []) (.tup []) (.tup []) (.tup []) (.tup []) (.tup []) (.tup []) (.tup []) (.tup []) (.tup []) (.tup []) (.tup []) (.tup []) σ := ju
theorem gft_14 {l0 l1 l2 l3 l4 l5 l6 l7 l8 l9 l10 l11 l12 l13 : Nat} {body : (AV -> AV -> AV -> AV -> AV -> AV -> AV -> AV -> AV -> AV -> AV -> AV -> AV -> AV -> AS -> Prop) -> Prop} {σ : AS} {K : AV -> AV -> AV -> AV -> AV -> AV -> AV -> AV -> AV -> AV -> AV -> AV -> AV -> AV -> AS -> Prop} : oG [l0, l1, l2, l3, l4, l5, l6, l7, l8, l9, l10, l11, l12, l13] (.b false) true body σ K = K (.tup []) (.tup []) (.tup []) (.tup []) (.tup []) (.tup []) (.tup []) (.tup []) (.tup []) (.tup []) (.tup []) (.tup []) (.tup []) (.tup []) σ := jx
theorem gvv_14 {l0 l1 l2 l3 l4 l5 l6 l7 l8 l9 l10 l11 l12 l13 : Nat} {body : (AV -> AV -> AV -> AV -> AV -> AV -> AV -> AV -> AV -> AV -> AV -> AV -> AV -> AV -> AS -> Prop) -> Prop} {σ : AS} {K : AV -> AV -> AV -> AV -> AV -> AV -> AV -> AV -> AV -> AV -> AV -> AV -> AV -> AV -> AS -> Prop} {w : Bool} : oG [l0, l1, l2, l3, l4, l5, l6, l7, l8, l9, l10, l11, l12, l13] (.tup []) w body σ K = K (.tup []) (.tup []) (.tup []) (.tup []) (.tup []) (.tup []) (.tup []) (.tup []) (.tup []) (.tup []) (.tup []) (.tup []) (.tup []) (.tup []) σ := propext ⟨id, id⟩
theorem jv {L : List Nat} {x : Bool} {body : Cur L.length -> Prop} {σ : AS} {K : Cur L.length} : oG L (.b (!x)) true body σ K = oG L (.b x) false body σ K := by cases x <;> simp [oG]
theorem jw {L : List Nat} {x : Bool} {body : Cur L.length -> Prop} {σ : AS} {K : Cur L.length} : oG L (.b (!x)) false body σ K = oG L (.b x) true body σ K := by cases x <;> simp [oG]
theorem td {x : Bool} {A B : Prop} : oI (.b (!x)) A B = oI (.b x) B A := by cases x <;> simp [oI]
theorem iV (n : Nat) : ((n : Int) - 1).toNat = n - 1 := by omega
theorem iW (n : Nat) : ((n : Int) + 1).toNat = n + 1 := by omega
theorem yg {l0 : Nat} {body : (AV -> AS -> Prop) -> Prop} {σ : AS} {K : AV -> AS -> Prop} {x : Bool} : oG [l0] (.b (!x)) true body σ K = oG [l0] (.b x) false body σ K := jv
theorem yj {l0 : Nat} {body : (AV -> AS -> Prop) -> Prop} {σ : AS} {K : AV -> AS -> Prop} {x : Bool} : oG [l0] (.b (!x)) false body σ K = oG [l0] (.b x) true body σ K := jw
theorem gnt_2 {l0 l1 : Nat} {body : (AV -> AV -> AS -> Prop) -> Prop} {σ : AS} {K : AV -> AV -> AS -> Prop} {x : Bool} : oG [l0, l1] (.b (!x)) true body σ K = oG [l0, l1] (.b x) false body σ K := jv
theorem gnf_2 {l0 l1 : Nat} {body : (AV -> AV -> AS -> Prop) -> Prop} {σ : AS} {K : AV -> AV -> AS -> Prop} {x : Bool} : oG [l0, l1] (.b (!x)) false body σ K = oG [l0, l1] (.b x) true body σ K := jw
theorem yf {l0 l1 l2 : Nat} {body : (AV -> AV -> AV -> AS -> Prop) -> Prop} {σ : AS} {K : AV -> AV -> AV -> AS -> Prop} {x : Bool} : oG [l0, l1, l2] (.b (!x)) true body σ K = oG [l0, l1, l2] (.b x) false body σ K := jv
theorem yi {l0 l1 l2 : Nat} {body : (AV -> AV -> AV -> AS -> Prop) -> Prop} {σ : AS} {K : AV -> AV -> AV -> AS -> Prop} {x : Bool} : oG [l0, l1, l2] (.b (!x)) false body σ K = oG [l0, l1, l2] (.b x) true body σ K := jw
theorem ye {l0 l1 l2 l3 : Nat} {body : (AV -> AV -> AV -> AV -> AS -> Prop) -> Prop} {σ : AS} {K : AV -> AV -> AV -> AV -> AS -> Prop} {x : Bool} : oG [l0, l1, l2, l3] (.b (!x)) true body σ K = oG [l0, l1, l2, l3] (.b x) false body σ K := jv
theorem yh {l0 l1 l2 l3 : Nat} {body : (AV -> AV -> AV -> AV -> AS -> Prop) -> Prop} {σ : AS} {K : AV -> AV -> AV -> AV -> AS -> Prop} {x : Bool} : oG [l0, l1, l2, l3] (.b (!x)) false body σ K = oG [l0, l1, l2, l3] (.b x) true body σ K := jw
theorem gnt_5 {l0 l1 l2 l3 l4 : Nat} {body : (AV -> AV -> AV -> AV -> AV -> AS -> Prop) -> Prop} {σ : AS} {K : AV -> AV -> AV -> AV -> AV -> AS -> Prop} {x : Bool} : oG [l0, l1, l2, l3, l4] (.b (!x)) true body σ K = oG [l0, l1, l2, l3, l4] (.b x) false body σ K := jv
theorem gnf_5 {l0 l1 l2 l3 l4 : Nat} {body : (AV -> AV -> AV -> AV -> AV -> AS -> Prop) -> Prop} {σ : AS} {K : AV -> AV -> AV -> AV -> AV -> AS -> Prop} {x : Bool} : oG [l0, l1, l2, l3, l4] (.b (!x)) false body σ K = oG [l0, l1, l2, l3, l4] (.b x) true body σ K := jw
theorem gnt_6 {l0 l1 l2 l3 l4 l5 : Nat} {body : (AV -> AV -> AV -> AV -> AV -> AV -> AS -> Prop) -> Prop} {σ : AS} {K : AV -> AV -> AV -> AV -> AV -> AV -> AS -> Prop} {x : Bool} : oG [l0, l1, l2, l3, l4, l5] (.b (!x)) true body σ K = oG [l0, l1, l2, l3, l4, l5] (.b x) false body σ K := jv
theorem gnf_6 {l0 l1 l2 l3 l4 l5 : Nat} {body : (AV -> AV -> AV -> AV -> AV -> AV -> AS -> Prop) -> Prop} {σ : AS} {K : AV -> AV -> AV -> AV -> AV -> AV -> AS -> Prop} {x : Bool} : oG [l0, l1, l2, l3, l4, l5] (.b (!x)) false body σ K = oG [l0, l1, l2, l3, l4, l5] (.b x) true body σ K := jw
theorem vi {l0 l1 l2 l3 l4 l5 l6 : Nat} {body : (AV -> AV -> AV -> AV -> AV -> AV -> AV -> AS -> Prop) -> Prop} {σ : AS} {K : AV -> AV -> AV -> AV -> AV -> AV -> AV -> AS -> Prop} {x : Bool} : oG [l0, l1, l2, l3, l4, l5, l6] (.b (!x)) true body σ K = oG [l0, l1, l2, l3, l4, l5, l6] (.b x) false body σ K := jv
theorem vj {l0 l1 l2 l3 l4 l5 l6 : Nat} {body : (AV -> AV -> AV -> AV -> AV -> AV -> AV -> AS -> Prop) -> Prop} {σ : AS} {K : AV -> AV -> AV -> AV -> AV -> AV -> AV -> AS -> Prop} {x : Bool} : oG [l0, l1, l2, l3, l4, l5, l6] (.b (!x)) false body σ K = oG [l0, l1, l2, l3, l4, l5, l6] (.b x) true body σ K := jw
theorem gnt_8 {l0 l1 l2 l3 l4 l5 l6 l7 : Nat} {body : (AV -> AV -> AV -> AV -> AV -> AV -> AV -> AV -> AS -> Prop) -> Prop} {σ : AS} {K : AV -> AV -> AV -> AV -> AV -> AV -> AV -> AV -> AS -> Prop} {x : Bool} : oG [l0, l1, l2, l3, l4, l5, l6, l7] (.b (!x)) true body σ K = oG [l0, l1, l2, l3, l4, l5, l6, l7] (.b x) false body σ K := jv
theorem gnf_8 {l0 l1 l2 l3 l4 l5 l6 l7 : Nat} {body : (AV -> AV -> AV -> AV -> AV -> AV -> AV -> AV -> AS -> Prop) -> Prop} {σ : AS} {K : AV -> AV -> AV -> AV -> AV -> AV -> AV -> AV -> AS -> Prop} {x : Bool} : oG [l0, l1, l2, l3, l4, l5, l6, l7] (.b (!x)) false body σ K = oG [l0, l1, l2, l3, l4, l5, l6, l7] (.b x) true body σ K := jw
theorem gnt_9 {l0 l1 l2 l3 l4 l5 l6 l7 l8 : Nat} {body : (AV -> AV -> AV -> AV -> AV -> AV -> AV -> AV -> AV -> AS -> Prop) -> Prop} {σ : AS} {K : AV -> AV -> AV -> AV -> AV -> AV -> AV -> AV -> AV -> AS -> Prop} {x : Bool} : oG [l0, l1, l2, l3, l4, l5, l6, l7, l8] (.b (!x)) true body σ K = oG [l0, l1, l2, l3, l4, l5, l6, l7, l8] (.b x) false body σ K := jv
theorem gnf_9 {l0 l1 l2 l3 l4 l5 l6 l7 l8 : Nat} {body : (AV -> AV -> AV -> AV -> AV -> AV -> AV -> AV -> AV -> AS -> Prop) -> Prop} {σ : AS} {K : AV -> AV -> AV -> AV -> AV -> AV -> AV -> AV -> AV -> AS -> Prop} {x : Bool} : oG [l0, l1, l2, l3, l4, l5, l6, l7, l8] (.b (!x)) false body σ K = oG [l0, l1, l2, l3, l4, l5, l6, l7, l8] (.b x) true body σ K := jw
theorem gnt_10 {l0 l1 l2 l3 l4 l5 l6 l7 l8 l9 : Nat} {body : (AV -> AV -> AV -> AV -> AV -> AV -> AV -> AV -> AV -> AV -> AS -> Prop) -> Prop} {σ : AS} {K : AV -> AV -> AV -> AV -> AV -> AV -> AV -> AV -> AV -> AV -> AS -> Prop} {x : Bool} : oG [l0, l1, l2, l3, l4, l5, l6, l7, l8, l9] (.b (!x)) true body σ K = oG [l0, l1, l2, l3, l4, l5, l6, l7, l8, l9] (.b x) false body σ K := jv
theorem gnf_10 {l0 l1 l2 l3 l4 l5 l6 l7 l8 l9 : Nat} {body : (AV -> AV -> AV -> AV -> AV -> AV -> AV -> AV -> AV -> AV -> AS -> Prop) -> Prop} {σ : AS} {K : AV -> AV -> AV -> AV -> AV -> AV -> AV -> AV -> AV -> AV -> AS -> Prop} {x : Bool} : oG [l0, l1, l2, l3, l4, l5, l6, l7, l8, l9] (.b (!x)) false body σ K = oG [l0, l1, l2, l3, l4, l5, l6, l7, l8, l9] (.b x) true body σ K := jw
theorem gnt_12 {l0 l1 l2 l3 l4 l5 l6 l7 l8 l9 l10 l11 : Nat} {body : (AV -> AV -> AV -> AV -> AV -> AV -> AV -> AV -> AV -> AV -> AV -> AV -> AS -> Prop) -> Prop} {σ : AS} {K : AV -> AV -> AV -> AV -> AV -> AV -> AV -> AV -> AV -> AV -> AV -> AV -> AS -> Prop} {x : Bool} : oG [l0, l1, l2, l3, l4, l5, l6, l7, l8, l9, l10, l11] (.b (!x)) true body σ K = oG [l0, l1, l2, l3, l4, l5, l6, l7, l8, l9, l10, l11] (.b x) false body σ K := jv
theorem gnf_12 {l0 l1 l2 l3 l4 l5 l6 l7 l8 l9 l10 l11 : Nat} {body : (AV -> AV -> AV -> AV -> AV -> AV -> AV -> AV -> AV -> AV -> AV -> AV -> AS -> Prop) -> Prop} {σ : AS} {K : AV -> AV -> AV -> AV -> AV -> AV -> AV -> AV -> AV -> AV -> AV -> AV -> AS -> Prop} {x : Bool} : oG [l0, l1, l2, l3, l4, l5, l6, l7, l8, l9, l10, l11] (.b (!x)) false body σ K = oG [l0, l1, l2, l3, l4, l5, l6, l7, l8, l9, l10, l11] (.b x) true body σ K := jw
theorem gnt_14 {l0 l1 l2 l3 l4 l5 l6 l7 l8 l9 l10 l11 l12 l13 : Nat} {body : (AV -> AV -> AV -> AV -> AV -> AV -> AV -> AV -> AV -> AV -> AV -> AV -> AV -> AV -> AS -> Prop) -> Prop} {σ : AS} {K : AV -> AV -> AV -> AV -> AV -> AV -> AV -> AV -> AV -> AV -> AV -> AV -> AV -> AV -> AS -> Prop} {x : Bool} : oG [l0, l1, l2, l3, l4, l5, l6, l7, l8, l9, l10, l11, l12, l13] (.b (!x)) true body σ K = oG [l0, l1, l2, l3, l4, l5, l6, l7, l8, l9, l10, l11, l12, l13] (.b x) false body σ K := jv
theorem gnf_14 {l0 l1 l2 l3 l4 l5 l6 l7 l8 l9 l10 l11 l12 l13 : Nat} {body : (AV -> AV -> AV -> AV -> AV -> AV -> AV -> AV -> AV -> AV -> AV -> AV -> AV -> AV -> AS -> Prop) -> Prop} {σ : AS} {K : AV -> AV -> AV -> AV -> AV -> AV -> AV -> AV -> AV -> AV -> AV -> AV -> AV -> AV -> AS -> Prop} {x : Bool} : oG [l0, l1, l2, l3, l4, l5, l6, l7, l8, l9, l10, l11, l12, l13] (.b (!x)) false body σ K = oG [l0, l1, l2, l3, l4, l5, l6, l7, l8, l9, l10, l11, l12, l13] (.b x) true body σ K := jw
section
variable {T : Tab} {α : Type} {enc : α -> AV} {e z t by_ : Nat} {h : Tr AB}
theorem jH {α : Type} (a b : List α) : cK a.length (a ++ b) = some a := by
 induction a with
 | nil => rfl
 | cons x a ih => simp only [List.length_cons, List.cons_append, cK, ih]; rfl
theorem dT {α : Type} (a : List α) : cK a.length a = some a := by
 have := jH a []
 rwa [List.append_nil] at this
structure El (T : Tab) (enc : α -> AV) (t e z by_ : Nat) : Prop where
 ty : T.ty t = some (.slice e)
 sz : T.sz e = some (z + 1)
 bytes : T.by_ e = some by_
 zr : (T.zr e).isSome = true
 de : ∃ d, T.ty e = some d /\ em d = true
 len : ∀ x, (enc x).cells.length = z + 1
 leaf : ∀ x, aQ (enc x).cells = true
 free : ∀ x, AV.idfree.idfrees (enc x).cells = true
 nrm : ∀ x, AV.norm.norms (enc x).cells = (enc x).cells
 agg : ∀ x, enc x = .agg (enc x).cells
def ay (enc : α -> AV) : List α -> List AV
 | [] => []
 | x :: l => (enc x).cells ++ ay enc l
theorem cL (a b : List α) : ay enc (a ++ b) = ay enc a ++ ay enc b := by
 induction a with
 | nil => rfl
 | cons x a ih => simp only [List.cons_append, ay, ih, List.append_assoc]
theorem fy (x : α) : ay enc [x] = (enc x).cells := by simp [ay]
theorem bV (E : El T enc t e z by_) (l : List α) : (ay enc l).length = l.length * (z + 1) := by
 induction l with
 | nil => simp [ay]
 | cons x l ih => simp only [ay, List.length_append, E.len, ih, List.length_cons]; rw [Nat.add_mul]; omega
theorem dw (a b : List AV) : AV.idfree.idfrees (a ++ b) = (AV.idfree.idfrees a && AV.idfree.idfrees b) := by
 induction a with
 | nil => simp [AV.idfree.idfrees]
 | cons x a ih => simp only [List.cons_append, AV.idfree.idfrees, ih, Bool.and_assoc]
theorem mR (a b : List AV) : AV.norm.norms (a ++ b) = AV.norm.norms a ++ AV.norm.norms b := by
 induction a with
 | nil => simp [AV.norm.norms]
 | cons x a ih => simp only [List.cons_append, AV.norm.norms, ih]
theorem eP (E : El T enc t e z by_) (l : List α) : AV.idfree.idfrees (ay enc l) = true := by
 induction l with
 | nil => rfl
 | cons x l ih => simp only [ay, dw, E.free, ih, Bool.and_self]
theorem ue (E : El T enc t e z by_) (l : List α) : AV.norm.norms (ay enc l) = ay enc l := by
 induction l with
 | nil => rfl
 | cons x l ih => simp only [ay, mR, E.nrm, ih]
theorem cZ (k : Nat) : ∀ cs : List AV, AV.idfree.idfrees cs = true -> cV (fz T h (k + 1)) cs = some (AV.norm.norms cs)
 | [], _ => rfl
 | c :: cs, hc => by
  simp only [AV.idfree.idfrees, Bool.and_eq_true] at hc
  have h1 : fz T h (k + 1) c = some c.norm := by unfold fz; simp only [hc.1]
  simp only [cV, h1, cZ k cs hc.2, AV.norm.norms]
theorem wN (E : El T enc t e z by_) (l : List α) : ji true (z + 1) l.length (ay enc l) = some (l.map enc) := by
 induction l with
 | nil => rfl
 | cons x l ih =>
  have h1 : cK (z + 1) ((enc x).cells ++ ay enc l) = some (enc x).cells := by
   have := jH (enc x).cells (ay enc l)
   rwa [E.len] at this
  have h2 : ((enc x).cells ++ ay enc l).drop (z + 1) = ay enc l := by
   have := List.drop_left' (l₁ := (enc x).cells) (l₂ := ay enc l) (E.len x)
   exact this
  simp only [List.length_cons, ay, ji, h1, h2, ih, Option.map_some, List.map_cons, <- E.agg x]
def vOf : Option Nat -> Nat -> AV
 | none, _ => .nilz true
 | some id, n => .sl id 0 n none
def fW (h : Tr AB) : Option Nat -> Tr AB
 | none => h
 | some id => h.put id none
def Own (enc : α -> AV) (e : Nat) (h : Tr AB) (n : Nat) (l : List α) : Option Nat -> Prop
 | none => l = []
 | some id => l ≠ [] /\ id < n /\ h.get id = some (.cells (ay enc l) e true)
theorem Own.put {n id : Nat} {b : Option AB} {l : List α} {o : Option Nat} (ho : Own enc e h n l o) (hn : ∀ j, o = some j -> j ≠ id) {n' : Nat} (hle : n <= n') : Own enc e (h.put id b) n' l o := by
 cases o with
 | none => exact ho
 | some j => exact ⟨ho.1, Nat.lt_of_lt_of_le ho.2.1 hle, by rw [Tr.get_put, if_neg (hn j rfl)]; exact ho.2.2⟩
theorem Own.kill {n : Nat} {l : List α} {o o' : Option Nat} (ho : Own enc e h n l o) (hn : ∀ j, o = some j -> o' ≠ some j) : Own enc e (fW h o') n l o := by
 cases o' with
 | none => exact ho
 | some i => exact ho.put (fun j hj e => hn j hj (by rw [e])) (Nat.le_refl _)
theorem uP {o : Option Nat} {j : Nat} (hj : o ≠ some j) : (fW h o).get j = h.get j := by
 cases o with
 | none => rfl
 | some i => exact (by rw [fW, Tr.get_put, if_neg (fun e => hj (by rw [e]))])
theorem app_one (E : El T enc t e z by_) {n lid : Nat} {x : α} {l : List α} {o : Option Nat} {e' : Nat} {g : Bool} (ho : Own enc e h n l o) (hlit : h.get lid = some (.cells (enc x).cells e' g)) (hs : cq (l.length + 1) by_ = true) :
  aD T ⟨h, n⟩ t t (vOf o l.length) (.sl lid 0 1 (some 1)) = some (vOf (some n) (l.length + 1), ⟨(fW h o).put n (some (.cells (ay enc (l ++ [x])) e true)), n + 1⟩) := by
 obtain ⟨zv, hzv⟩ := Option.isSome_iff_exists.1 E.zr
 have hnew : bO h (z + 1) 1 (.sl lid 0 1 (some 1)) = some (enc x).cells := by
  unfold bO bo
  simp only [hlit, List.drop_zero, Nat.one_mul]
  have := dT (enc x).cells
  rwa [E.len] at this
 unfold aD
 simp only [E.ty, E.sz, E.bytes, hzv, iJ, hnew]
 cases o with
 | none =>
  have hl : l = [] := ho
  subst hl
  simp only [vOf, List.length_nil, Nat.zero_add] at hs |-
  simp only [hs, im, fW, List.nil_append, fy]
 | some id =>
  obtain ⟨h1, h2, h3⟩ := ho
  have hr := bV E l
  simp only [vOf, h3, E.leaf, hs, fW]
  have b1 : Nat.beq e e = true := Nat.beq_refl e
  have b2 : Nat.beq (l.length * (z + 1)) (ay enc l).length = true := by rw [hr]; exact Nat.beq_refl _
  simp only [b1, b2, cL, fy]
theorem oZ_own (E : El T enc t e z by_) {σ : AS} {n : Nat} {l : List α} {o : Option Nat} {K : AV -> Prop} (ho : Own enc e σ.h n l o) (hK : K (.lst (l.map enc))) : oZ T σ (vOf o l.length) K := by
 cases o with
 | none =>
  have hl : l = [] := ho
  subst hl
  exact Eq.mpr (dv rfl) hK
 | some id =>
  obtain ⟨h1, h2, h3⟩ := ho
  obtain ⟨d, hd, ha⟩ := E.de
  refine ⟨3, _, ?_, hK⟩
  unfold fz
  have hr := dT (ay enc l)
  rw [bV E] at hr
  simp only [vOf, AV.idfree, h3, E.sz, hd, List.drop_zero, hr, cZ _ _ (eP E l), ue E, ha, wN E, Option.map_some]
theorem len_own (E : El T enc t e z by_) {n : Nat} {l : List α} {o : Option Nat} (ho : Own enc e h n l o) : ak T h .len [t] [vOf o l.length] = some (.i .i64 (l.length : Nat)) := by
 cases o with
 | none =>
  have hl : l = [] := ho
  subst hl
  exact yx E.ty
 | some id => exact fM E.ty id 0 l.length none
end
section
variable {T : Tab} {f : Nat} {args : List AV} {σ σ' : AS} {r : AV}
theorem R.ext (h1 : T.prim f = none) (h2 : fI T f args = some r) : R T f args r := ⟨1, fun σ => by unfold aJ; simp only [h1, h2]⟩
def RA (T : Tab) (f : Nat) (args : List AV) (len : Nat) (b : AB) : Prop := ∃ k, ∀ σ, aJ T k f args σ = some (.sl σ.n 0 len none, ⟨σ.h.put σ.n (some b), σ.n + 1⟩)
theorem RA.eqC {len : Nat} {b : AB} (h : RA T f args len b) (d : Nat) (σ : AS) (K : AV -> AS -> Prop) : oC T d f args σ K = K (.sl σ.n 0 len none) ⟨σ.h.put σ.n (some b), σ.n + 1⟩ := by
 obtain ⟨k, h⟩ := h
 exact Runs.eq ⟨k, h σ⟩ d K
theorem RA.eqA {len : Nat} {b : AB} (h : RA T f args len b) (d n : Nat) (K : AV -> Option AB -> Prop) : oA T d f args n K = K (.sl n 0 len none) (some b) := by
 obtain ⟨k, h⟩ := h
 have h := h ⟨.nil, n⟩
 refine propext ⟨fun ⟨m, r2, σ2, h1, h2⟩ => ?_, fun q => ⟨k, _, _, h, by rw [Tr.get_put, if_pos rfl]; exact q⟩⟩
 have e1 := aT k (max k m) (Nat.le_max_left _ _) _ _ _ _ h
 have e2 := aT m (max k m) (Nat.le_max_right _ _) _ _ _ _ h1
 rw [e1] at e2; injection e2 with e2; simp only [Prod.mk.injEq] at e2; obtain ⟨rfl, rfl⟩ := e2
 rw [Tr.get_put, if_pos rfl] at h2; exact h2
theorem R.eqA (h : R T f args r) (d n : Nat) (K : AV -> Option AB -> Prop) : oA T d f args n K = K r none := by
 obtain ⟨k, h⟩ := h
 have h := h ⟨.nil, n⟩
 refine propext ⟨fun ⟨m, r2, σ2, h1, h2⟩ => ?_, fun q => ⟨k, _, _, h, by rw [Tr.get_nil]; exact q⟩⟩
 have e1 := aT k (max k m) (Nat.le_max_left _ _) _ _ _ _ h
 have e2 := aT m (max k m) (Nat.le_max_right _ _) _ _ _ _ h1
 rw [e1] at e2; injection e2 with e2; simp only [Prod.mk.injEq] at e2; obtain ⟨rfl, rfl⟩ := e2
 rw [Tr.get_nil] at h2; exact h2
theorem RA.mk {fn : Func} {c : Code} (h1 : T.prim f = none) (h2 : fI T f args = none) (h3 : T.fn f = some fn) (h4 : fn.body = some c) (h5 : T.opened f = true) (hm : T.mode f = 1) (h6 : AV.idfree.idfrees args = true) (h7 : AV.norm.norms args = args) {an : AN} {len e : Nat} {cs : List AV} {g : Bool}
  (hcs : AV.idfree.idfrees cs = true) (hv : bI (av T) T fn c an args ⟨.nil, 0⟩ (fun r1 σ1 => ∃ id, r1 = .sl id 0 len none /\ σ1.h.get id = some (.cells cs e g))) : RA T f args len (.cells cs e g) := by
 obtain ⟨k, r1, σ1, e1, id, rfl, hg⟩ := dq hv
 refine ⟨k + 1, fun σ => ?_⟩
 unfold aJ
 simp only [h1, h2, h3, h4, h5, hm, h6, h7, e1, km, hg, hcs]
end
def pw (P : Prims) (T : Tab) (t : Nat) (a0 : AV) (Q : AV -> AS -> Prop) : Prop :=
 P.oV 4 (ah T .eql t true a0 (.nilz true)) fun t4 =>
 P.oI t4 (Q (.nilz true) ⟨Tr.nil, 0⟩)
 (P.oE (vx T t 0 []) fun b f =>
  P.oN 5 b f ⟨Tr.nil, 0⟩ fun t5 sx1 =>
  P.oM 7 (aD T sx1 t t t5 a0) fun t7 sx2 =>
  Q t7 sx2)
def gp : AN := (.seq none .leaf (.seq none (.seq none .leaf (.two (.seq none .leaf .leaf) .leaf)) (.seq none .leaf .leaf)))
structure RowT (T : Tab) (t e z by_ : Nat) (ag : Bool) : Prop where
 ty : T.ty t = some (.slice e)
 sz : T.sz e = some (z + 1)
 bytes : T.by_ e = some by_
 zr : (T.zr e).isSome = true
 ag : (T.ty e).map em = some ag
structure RowE (z : Nat) (ag : Bool) (es : List AV) : Prop where
 len : (aN es).length = es.length * (z + 1)
 leaf : aQ (aN es) = true
 free : AV.idfree.idfrees (aN es) = true
 nrm : AV.norm.norms (aN es) = aN es
 ch : ji ag (z + 1) es.length (aN es) = some es
section
variable {T : Tab} {t e z by_ : Nat} {ag : Bool} {es : List AV}
theorem RowE.nil : RowE z ag [] := ⟨by simp [aN], rfl, rfl, rfl, rfl⟩
theorem kj (a b : List AV) : aQ (a ++ b) = (aQ a && aQ b) := by
 induction a with
 | nil => simp [aQ]
 | cons x a ih => simp only [List.cons_append, aQ]; cases x.leaf <;> simp [ih]
theorem RowE.consA {cs : List AV} (h : RowE z true es) (h1 : cs.length = z + 1) (h2 : aQ cs = true) (h3 : AV.idfree.idfrees cs = true) (h4 : AV.norm.norms cs = cs) : RowE z true (.agg cs :: es) where
 len := by simp only [aN, AV.cells, List.length_append, h1, h.len, List.length_cons, Nat.add_mul]; omega
 leaf := by simp only [aN, AV.cells, kj, h2, h.leaf, Bool.and_self]
 free := by simp only [aN, AV.cells, dw, h3, h.free, Bool.and_self]
 nrm := by simp only [aN, AV.cells, mR, h4, h.nrm]
 ch := by
  have q1 : cK (z + 1) (cs ++ aN es) = some cs := by rw [<- h1]; exact jH _ _
  have q2 : (cs ++ aN es).drop (z + 1) = aN es := List.drop_left' h1
  simp only [List.length_cons, aN, AV.cells, ji, q1, q2, h.ch, Option.map_some]
theorem RowE.mapE {α : Type} {enc : α -> AV} (E : El T enc t e z by_) (l : List α) : RowE z true (l.map enc) := by
 induction l with
 | nil => exact RowE.nil
 | cons x l ih => rw [List.map_cons, E.agg x]; exact ih.consA (E.len x) (E.leaf x) (E.free x) (E.nrm x)
theorem El.rowT {α : Type} {enc : α -> AV} (E : El T enc t e z by_) : RowT T t e z by_ true where
 ty := E.ty
 sz := E.sz
 bytes := E.bytes
 zr := E.zr
 ag := by obtain ⟨d, h1, h2⟩ := E.de; rw [h1, Option.map_some, h2]
theorem bR {α : Type} {enc : α -> AV} (l : List α) : ay enc l = aN (l.map enc) := by
 induction l with
 | nil => rfl
 | cons x l ih => simp only [ay, List.map_cons, aN, ih]
theorem wq (E : RowT T t e z by_ ag) (h : RowE z ag es) {σ : AS} {id : Nat} {cap : Option Nat} {g : Bool} (hg : σ.h.get id = some (.cells (aN es) e g)) : fz T σ.h 3 (.sl id 0 es.length cap) = some (.lst es) := by
 obtain ⟨d, hd, ha⟩ : ∃ d, T.ty e = some d /\ em d = ag := by
  have := E.ag
  cases hq : T.ty e with
  | none => rw [hq] at this; cases this
  | some d => rw [hq] at this; exact ⟨d, rfl, by simpa using this⟩
 unfold fz
 have hr := dT (aN es)
 rw [h.len] at hr
 simp only [AV.idfree, hg, E.sz, hd, List.drop_zero, hr, cZ _ _ h.free, h.nrm, ha, h.ch, Option.map_some]
theorem sC (E : RowT T t e z by_ ag) (h : RowE z ag es) (hne : es ≠ []) (hs : cq es.length by_ = true) (K : AV -> AS -> Prop) :
  pw (av T) T t (.lst es) K = K (.sl 1 0 es.length none) ⟨(Tr.nil.put 0 (some (.cells [] e false))).put 1 (some (.cells (aN es) e true)), 2⟩ := by
 obtain ⟨zv, hzv⟩ := Option.isSome_iff_exists.1 E.zr
 obtain ⟨a, l, rfl⟩ : ∃ a l, es = a :: l := by
  cases es with
  | nil => exact absurd rfl hne
  | cons a l => exact ⟨a, l, rfl⟩
 have h1 : ah T .eql t true (.lst (a :: l)) (.nilz true) = some (.b false) := by
  simp only [ah, E.ty, ke, nc, Option.map_some, Bool.not_true]
 have h2 : vx T t 0 [] = some (.cells [] e false, fun id => .sl id 0 0 (some 0)) := by
  simp only [vx, E.ty, E.sz, hzv, Nat.zero_mul, gL, di]
 have hr := dT (aN (a :: l))
 rw [h.len] at hr
 have hnew : bO (Tr.nil.put 0 (some (.cells [] e false))) (z + 1) (a :: l).length (.lst (a :: l)) = some (aN (a :: l)) := by
  unfold bO bo; exact hr
 have h3 : aD T ⟨Tr.nil.put 0 (some (.cells [] e false)), 1⟩ t t (.sl 0 0 0 (some 0)) (.lst (a :: l)) = some (.sl 1 0 (a :: l).length none, ⟨(Tr.nil.put 0 (some (.cells [] e false))).put 1 (some (.cells (aN (a :: l)) e true)), 2⟩) := by
  unfold aD
  have hb : Nat.ble (a :: l).length 0 = false := rfl
  have hsl : bo (Tr.nil.put 0 (some (.cells [] e false))) (0 * (z + 1)) (.sl 0 0 0 (some 0)) = some [] := by
   unfold bo; simp only [Tr.get_put, if_true, Nat.zero_mul]; rfl
  simp only [E.ty, E.sz, E.bytes, hzv, iJ, hnew, Nat.zero_add, hb, hs, hsl, im, List.nil_append]
 unfold pw
 dsimp only [av]
 rw [h1, aa, aA, h2, eG, aS]
 dsimp only
 rw [h3, aM]
theorem clone_R {f : Nat} {fn : Func} (E : RowT T t e z by_ ag) (h : RowE z ag es) (hne : es ≠ []) (hs : cq es.length by_ = true) (h1 : T.prim f = none) (h2 : fI T f [.lst es] = none) (h3 : T.fn f = some fn) (h4 : fn.body = some (bx fn)) (h5 : T.opened f = false)
  (hw : ∀ (P : Prims) (a : AV) (Q : AV -> AS -> Prop), pw P T t a Q = bI P T fn (bx fn) gp [a] ⟨.nil, 0⟩ Q) : R T f [.lst es] (.lst es) := by
 refine R.mk (an := gp) h1 h2 h3 h4 h5 rfl rfl ?_
 rw [<- hw, sC E h hne hs]
 exact ⟨3, _, wq E h (g := true) (by simp [Tr.get_put]), rfl⟩
theorem clone_A {f : Nat} {fn : Func} (E : RowT T t e z by_ ag) (h : RowE z ag es) (hne : es ≠ []) (hs : cq es.length by_ = true) (h1 : T.prim f = none) (h2 : fI T f [.lst es] = none) (h3 : T.fn f = some fn) (h4 : fn.body = some (bx fn)) (h5 : T.opened f = true) (hm : T.mode f = 1)
  (hw : ∀ (P : Prims) (a : AV) (Q : AV -> AS -> Prop), pw P T t a Q = bI P T fn (bx fn) gp [a] ⟨.nil, 0⟩ Q) : RA T f [.lst es] es.length (.cells (aN es) e true) := by
 refine RA.mk (an := gp) h1 h2 h3 h4 h5 hm rfl rfl h.free ?_
 rw [<- hw, sC E h hne hs]
 exact ⟨1, rfl, by simp [Tr.get_put]⟩
theorem ic {T : Tab} {h : Tr AB} {t : Nat} {x v : AV} {lo hi mx : Option AV} (e : cS T t x lo hi mx = some v) : aL T h t x lo hi mx = some v := by
 unfold aL; rw [e]
def clA (es : List AV) : AV := match es with
 | [] => .nilz false
 | _ :: _ => .lst es
end
def dG {α : Type} (enc encD : α -> AV) (l : List α) (j : Nat) : List AV := ay encD (l.take j) ++ ay enc (l.drop j)
section
variable {α : Type} {enc encD : α -> AV} {z : Nat}
theorem dO {enc : α -> AV} (h : ∀ x, (enc x).cells.length = z + 1) (l : List α) : (ay enc l).length = l.length * (z + 1) := by
 induction l with
 | nil => simp [ay]
 | cons x l ih => simp only [ay, List.length_append, h, ih, List.length_cons]; rw [Nat.add_mul]; omega
theorem pT {β : Type} (a b c : List β) (k : Nat) : bN (a ++ b) (a.length + k) c = (bN b k c).map (a ++ ·) := by
 induction a with
 | nil => simp only [List.nil_append, List.length_nil, Nat.zero_add]; cases bN b k c <;> rfl
 | cons x a ih =>
  have : (x :: a).length + k = (a.length + k) + 1 := by simp only [List.length_cons]; omega
  rw [this, List.cons_append, bN, ih]
  cases bN b k c <;> rfl
theorem iu {β : Type} : ∀ (a b c d : List β) (k : Nat), bN a k c = some d -> bN (a ++ b) k c = some (d ++ b)
 | [], b, [], d, 0, h => by simp only [bN] at h; injection h with h; subst h; cases b <;> rfl
 | [], b, _ :: _, d, 0, h => by cases h
 | [], b, c, d, k + 1, h => by cases c <;> cases h
 | x :: a, b, [], d, 0, h => by simp only [bN] at h; injection h with h; subst h; rfl
 | x :: a, b, y :: c, d, 0, h => by
  simp only [bN] at h
  cases hq : bN a 0 c with
  | none => rw [hq] at h; cases h
  | some q =>
   rw [hq] at h; injection h with h; subst h
   rw [List.cons_append, bN, iu a b c q 0 hq]; rfl
 | x :: a, b, c, d, k + 1, h => by
  have e1 : bN (x :: a) (k + 1) c = (bN a k c).map (x :: ·) := by cases c <;> rfl
  have e2 : bN (x :: (a ++ b)) (k + 1) c = (bN (a ++ b) k c).map (x :: ·) := by cases c <;> rfl
  rw [e1] at h
  cases hq : bN a k c with
  | none => rw [hq] at h; cases h
  | some q =>
   rw [hq] at h; injection h with h; subst h
   rw [List.cons_append, e2, iu a b c q k hq]; rfl
theorem lQ {l : List α} {j : Nat} (h : l.length <= j) : dG enc encD l j = ay encD l := by
 unfold dG
 rw [List.take_of_length_le h, List.drop_of_length_le h]; simp [ay]
theorem fJ [Inhabited α] {l : List α} {j : Nat} (h : j < l.length) : l.drop j = l.getD j default :: l.drop (j + 1) := by
 rw [List.drop_eq_getElem_cons h, List.getD_eq_getElem?_getD, List.getElem?_eq_getElem h]; rfl
theorem lR [Inhabited α] (hD : ∀ x, (encD x).cells.length = z + 1) {l : List α} {j : Nat} (h : j < l.length) : (dG enc encD l j).drop (j * (z + 1)) = (enc (l.getD j default)).cells ++ ay enc (l.drop (j + 1)) := by
 unfold dG
 rw [List.drop_left' (by rw [dO hD, List.length_take]; congr 1; omega), fJ h]; rfl
theorem xA (hD : ∀ x, (encD x).cells.length = z + 1) (hE : ∀ x, (enc x).cells.length = z + 1) {l : List α} {j : Nat} : (dG enc encD l j).length = l.length * (z + 1) := by
 unfold dG
 rw [List.length_append, dO hD, dO hE, <- Nat.add_mul]; congr 1; rw [List.length_take, List.length_drop]; omega
theorem mix_set [Inhabited α] (hD : ∀ x, (encD x).cells.length = z + 1) {l : List α} {j k : Nat} {c : List AV} (h : j < l.length) (hs : bN (enc (l.getD j default)).cells k c = some (encD (l.getD j default)).cells) :
  bN (dG enc encD l j) (j * (z + 1) + k) c = some (dG enc encD l (j + 1)) := by
 have e1 : (ay encD (l.take j)).length = j * (z + 1) := by rw [dO hD, List.length_take]; congr 1; omega
 have e2 : l.take (j + 1) = l.take j ++ [l.getD j default] := by
  rw [List.take_add_one, List.getD_eq_getElem?_getD, List.getElem?_eq_getElem h]; rfl
 unfold dG
 rw [<- e1, pT, fJ h, e2, cL, fy]
 rw [ay, iu _ _ _ _ _ hs, Option.map_some, List.append_assoc]
theorem sS {enc encD : α -> AV} (h : ∀ x, AV.norm.norms (encD x).cells = (enc x).cells) (l : List α) : AV.norm.norms (ay encD l) = ay enc l := by
 induction l with
 | nil => rfl
 | cons x l ih => simp only [ay, mR, h, ih]
theorem sT {encD : α -> AV} (h : ∀ x, AV.idfree.idfrees (encD x).cells = true) (l : List α) : AV.idfree.idfrees (ay encD l) = true := by
 induction l with
 | nil => rfl
 | cons x l ih => simp only [ay, dw, h, ih, Bool.and_self]
end
def bB {α : Type} (l : List α) (id : Nat) : AV := match l with
 | [] => .nilz false
 | _ :: _ => .sl id 0 l.length none
def iZ {α : Type} (enc : α -> AV) (e : Nat) (l : List α) : Option AB := match l with
 | [] => none
 | _ :: _ => some (.cells (ay enc l) e true)
def RowAt {α : Type} (enc encD : α -> AV) (e : Nat) (h : Tr AB) (l : List α) (id j : Nat) : Prop := l ≠ [] -> h.get id = some (.cells (dG enc encD l j) e true)
section
variable {α : Type} {enc encD : α -> AV} {T : Tab} {t e z by_ : Nat} {h h' : Tr AB} {l : List α} {id j : Nat}
theorem cc : (bB l id).leaf = true := by cases l <;> rfl
theorem fC : (bB l id).cells = [bB l id] := by cases l <;> rfl
theorem iw (ht : T.ty t = some (.slice e)) : ak T h .len [t] [bB l id] = some (.i .i64 (l.length : Nat)) := by
 cases l with
 | nil => simp [ak, bB, ht]
 | cons a l => exact fM ht id 0 _ none
theorem eZ (ht : T.ty t = some (.slice e)) (hz : T.sz e = some z) (hj : j < l.length) {k : IntKind} : ai T t (bB l id) (.i k (j : Nat)) = some (.ptr id (j * z)) := by
 cases l with
 | nil => simp at hj
 | cons a l =>
  simp only [ai, bB, ht, hz, Int.toNat_natCast, Nat.zero_add]
  rw [if_pos (by omega)]
theorem RowAt.new (hb : h.get id = iZ enc e l) : RowAt enc encD e h l id 0 := fun hne => by
 cases l with
 | nil => exact absurd rfl hne
 | cons a l => rw [hb]; rfl
theorem RowAt.same (r : RowAt enc encD e h l id j) (hs : h'.get id = h.get id) : RowAt enc encD e h' l id j := fun hne => by rw [hs]; exact r hne
theorem RowAt.get (r : RowAt enc encD e h l id j) (hj : j < l.length) : h.get id = some (.cells (dG enc encD l j) e true) := r (fun e => by rw [e] at hj; simp at hj)
theorem RowAt.load [Inhabited α] (E : El T enc t e z by_) (hD : ∀ x, (encD x).cells.length = z + 1) (r : RowAt enc encD e h l id j) (hj : j < l.length) : ac T h e (.ptr id (j * (z + 1))) = some (enc (l.getD j default)) := by
 obtain ⟨d, hd, ha⟩ := E.de
 rw [cM (r.get hj) (by rw [xA hD E.len]; exact Nat.mul_le_mul_right _ (Nat.le_of_lt hj)), lR hD hj, nV hd ha E.sz]
 have := jH (enc (l.getD j default)).cells (ay enc (l.drop (j + 1)))
 rw [E.len] at this
 rw [this, Option.map_some, <- E.agg]
theorem ez {tt n off : Nat} {cs cs' : List AV} {g : Bool} {v : AV} (hz : T.sz tt = some n) (hg : h.get id = some (.cells cs e g)) (hl : v.cells.length = n) (ha : aQ v.cells = true) (hs : bN cs off v.cells = some cs') : aY T h tt (.ptr id off) v = some (id, .cells cs' e g) := by
 have hb : Nat.beq v.cells.length n = true := by rw [hl]; exact Nat.beq_refl n
 simp only [aY, hz, hb, ha, hg, hs]
theorem RowAt.store [Inhabited α] (hD : ∀ x, (encD x).cells.length = z + 1) {tt n k : Nat} {v : AV} (r : RowAt enc encD e h l id j) (hj : j < l.length) (hz : T.sz tt = some n) (hl : v.cells.length = n) (ha : aQ v.cells = true)
  (hs : bN (enc (l.getD j default)).cells k v.cells = some (encD (l.getD j default)).cells) : aY T h tt (.ptr id (j * (z + 1) + k)) v = some (id, .cells (dG enc encD l (j + 1)) e true) :=
 ez hz (r.get hj) hl ha (mix_set hD hj hs)
theorem fz_row {ag : Bool} {es cs : List AV} (E : RowT T t e z by_ ag) (h1 : RowE z ag es) {cap : Option Nat} {g : Bool} (hg : h.get id = some (.cells cs e g)) (hl : cs.length = es.length * (z + 1)) (hf : AV.idfree.idfrees cs = true) (hn : AV.norm.norms cs = aN es) :
  fz T h 3 (.sl id 0 es.length cap) = some (.lst es) := by
 obtain ⟨d, hd, ha⟩ : ∃ d, T.ty e = some d /\ em d = ag := by
  have := E.ag
  cases hq : T.ty e with
  | none => rw [hq] at this; cases this
  | some d => rw [hq] at this; exact ⟨d, rfl, by simpa using this⟩
 unfold fz
 have hr := dT cs
 rw [hl] at hr
 simp only [AV.idfree, hg, E.sz, hd, List.drop_zero, hr, cZ _ _ hf, hn, ha, h1.ch, Option.map_some]
theorem RowAt.fz (E : El T enc t e z by_) (hD : ∀ x, (encD x).cells.length = z + 1) (hf : ∀ x, AV.idfree.idfrees (encD x).cells = true) (hn : ∀ x, AV.norm.norms (encD x).cells = (enc x).cells) (r : RowAt enc encD e h l id j) (hj : l.length <= j) : Go.Proofs.YtmfhmlhaofpeiaaGreatDoor.Ev.fz T h 3 (bB l id) = some (.lst (l.map enc)) := by
 cases hl : l with
 | nil => rfl
 | cons a l' =>
  have hr := r (by rw [hl]; simp)
  rw [lQ hj] at hr
  rw [<- hl]
  have e1 : bB l id = .sl id 0 (l.map enc).length none := by rw [hl, List.length_map]; rfl
  rw [e1]
  exact fz_row E.rowT (RowE.mapE E l) hr (by rw [dO hD, List.length_map]) (sT hf l) (by rw [sS hn, bR])
theorem fz_agg (k : Nat) (cs : List AV) : Go.Proofs.YtmfhmlhaofpeiaaGreatDoor.Ev.fz T h (k + 2) (.agg cs) = (cV (Go.Proofs.YtmfhmlhaofpeiaaGreatDoor.Ev.fz T h (k + 1)) cs).map .agg := by
 by_cases hi : AV.idfree.idfrees cs = true
 ·rw [cZ k cs hi]
  conv => lhs; unfold Go.Proofs.YtmfhmlhaofpeiaaGreatDoor.Ev.fz
  have : (AV.agg cs).idfree = true := hi
  simp only [this]; rfl
 ·conv => lhs; unfold Go.Proofs.YtmfhmlhaofpeiaaGreatDoor.Ev.fz
  have : (AV.agg cs).idfree = false := by
   show AV.idfree.idfrees cs = false
   simpa using hi
  simp only [this]
theorem cC (k : Nat) {a : AV} (hi : a.idfree = true) : Go.Proofs.YtmfhmlhaofpeiaaGreatDoor.Ev.fz T h (k + 1) a = some a.norm := by
 unfold Go.Proofs.YtmfhmlhaofpeiaaGreatDoor.Ev.fz; simp only [hi]
theorem clone_oA {f : Nat} {fn : Func} (E : El T enc t e z by_) (hs : cq l.length by_ = true) (h1 : T.prim f = none) (h2 : T.ext f = some eC) (h3 : T.fn f = some fn) (h4 : fn.body = some (bx fn)) (h5 : T.opened f = true) (hm : T.mode f = 1)
  (hw : ∀ (P : Prims) (a : AV) (Q : AV -> AS -> Prop), pw P T t a Q = bI P T fn (bx fn) gp [a] ⟨.nil, 0⟩ Q) (d n : Nat) (K : AV -> Option AB -> Prop) :
  oA T d f [.lst (l.map enc)] n K = K (bB l n) (iZ enc e l) := by
 cases l with
 | nil => exact (R.ext h1 (by unfold fI; rw [h2]; rfl)).eqA d n K
 | cons a l =>
  have := (clone_A (es := (a :: l).map enc) E.rowT (RowE.mapE E _) (by simp) (by rw [List.length_map]; exact hs) h1 (by unfold fI; rw [h2]; rfl) h3 h4 h5 hm hw).eqA d n K
  rw [this, List.length_map, <- bR]; rfl
end
theorem oT_intro {b : Bool} {K : Prop} (h : b = true) (k : K) : oT b K := ⟨h, k⟩
theorem uj {n0 : Nat} {bef : Nat -> List Nat} {bs : List Nat} {news : List (Nat × Nat × Option AB)} {id : Nat} : ∀ {rd : List Nat}, rd.all (fun i => be i bs) = true -> bU n0 bef bs news id rd = true
 | [], _ => rfl
 | i :: r, h => by
  simp only [List.all_cons, Bool.and_eq_true] at h
  simp only [bU, h.1, Bool.or_true, uj h.2, Bool.and_self]
theorem tJ {bs : List Nat} {id : Nat} : ∀ {news : List (Nat × Nat × Option AB)}, news.all (fun x => be x.1 bs) = true -> ce bs id news = true
 | [], _ => rfl
 | (k, id', b) :: r, h => by
  simp only [List.all_cons, Bool.and_eq_true] at h
  simp only [ce, h.1, Bool.or_true, tJ h.2, Bool.and_self]
theorem rB {n0 : Nat} {bs : List Nat} {news : List (Nat × Nat × Option AB)} : ∀ {L : List (Nat × Nat × Option AB)}, L.all (fun x => be x.1 bs) = true -> bC n0 bs news L = true
 | [], _ => rfl
 | (k, id', b) :: r, h => by
  simp only [List.all_cons, Bool.and_eq_true] at h
  simp only [bC, h.1, Bool.or_true, rB h.2, Bool.and_self]
theorem dp {n0 : Nat} {bef : Nat -> List Nat} {bs : List Nat} {news : List (Nat × Nat × Option AB)} {id : Nat} {rd : List Nat} {K : Prop} (h1 : rd.all (fun i => be i bs) = true) (h2 : news.all (fun x => be x.1 bs) = true) : oT (bU n0 bef bs news id rd && ce bs id news) K = K := by
 rw [uj h1, tJ h2]; exact fg K
theorem jR {n0 : Nat} {bs : List Nat} {news L : List (Nat × Nat × Option AB)} {K : Prop} (h1 : L.all (fun x => be x.1 bs) = true) : oT (bC n0 bs news L) K = K := by
 rw [rB h1]; exact fg K
theorem ble_self (n : Nat) : Nat.ble (n + 1) n = false := by
 cases h : Nat.ble (n + 1) n
 ·rfl
 ·have := Nat.le_of_ble_eq_true h; omega
theorem mP {n k : Nat} {bs : List Nat} {b : Option AB} {K : Prop} (h : be k bs = false) : oT (bC n bs [(k, n, b)] [(k, n, b)]) K = K := by
 have : bC n bs [(k, n, b)] [(k, n, b)] = true := by simp [bC, qZ, rx, h, ble_self]
 rw [this]; exact fg K
end Go.Proofs.YtmfhmlhaofpeiaaGreatDoor.Ev
