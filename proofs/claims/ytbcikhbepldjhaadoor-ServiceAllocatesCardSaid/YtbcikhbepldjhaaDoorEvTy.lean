/- What single operations come to at this seat's types. Printed by evty.py, a program of this session's. -/
import Derived.Test.YtbcikhbepldjhaaDoorEvT
namespace Go.Proofs.YtbcikhbepldjhaaDoor.Ev
open Go Go.RowKit
theorem ofc_1 (c : AV) (cs : List AV) : ofCells T0 1 (c :: cs) = some c := ofCells_leaf' (by kernel_rfl) c cs
theorem sz_1 : T0.sz 1 = some 1 := by kernel_rfl
theorem ofc_2 (c : AV) (cs : List AV) : ofCells T0 2 (c :: cs) = some c := ofCells_leaf' (by kernel_rfl) c cs
theorem sz_2 : T0.sz 2 = some 1 := by kernel_rfl
theorem ofc_3 (c : AV) (cs : List AV) : ofCells T0 3 (c :: cs) = some c := ofCells_leaf' (by kernel_rfl) c cs
theorem sz_3 : T0.sz 3 = some 1 := by kernel_rfl
theorem ofc_4 (c : AV) (cs : List AV) : ofCells T0 4 (c :: cs) = some c := ofCells_leaf' (by kernel_rfl) c cs
theorem sz_4 : T0.sz 4 = some 1 := by kernel_rfl
theorem beq_4 (a b c : Bool) : evBin T0 .eql 4 c (.b a) (.b b) = some (.b (a == b)) := bin_beq (by kernel_rfl) a b c
theorem bne_4 (a b c : Bool) : evBin T0 .neq 4 c (.b a) (.b b) = some (.b (!(a == b))) := bin_bne (by kernel_rfl) a b c
theorem ofc_5 (c : AV) (cs : List AV) : ofCells T0 5 (c :: cs) = some c := ofCells_leaf' (by kernel_rfl) c cs
theorem sz_5 : T0.sz 5 = some 1 := by kernel_rfl
theorem ofc_6 (c : AV) (cs : List AV) : ofCells T0 6 (c :: cs) = some c := ofCells_leaf' (by kernel_rfl) c cs
theorem sz_6 : T0.sz 6 = some 1 := by kernel_rfl
theorem ofc_7 (cs : List AV) : ofCells T0 7 cs = (takeN 4 cs).map .agg := ofCells_agg' (by kernel_rfl) (by kernel_rfl) cs
theorem sz_7 : T0.sz 7 = some 4 := by kernel_rfl
theorem ofc_8 (cs : List AV) : ofCells T0 8 cs = (takeN 4 cs).map .agg := ofCells_agg' (by kernel_rfl) (by kernel_rfl) cs
theorem sz_8 : T0.sz 8 = some 4 := by kernel_rfl
theorem ofc_9 (c : AV) (cs : List AV) : ofCells T0 9 (c :: cs) = some c := ofCells_leaf' (by kernel_rfl) c cs
theorem sz_9 : T0.sz 9 = some 1 := by kernel_rfl
theorem len_9 (h : Tr AB) (s : List UInt8) : evBuiltin T0 h .len [9] [.s s] = some (.i .i64 s.length) := g_len_s (by kernel_rfl) s
theorem idx_9 {k : IntKind} {s : List UInt8} {n : Int} (h0 : 0 ≤ n) (hj : n < s.length) : evIndex T0 9 (.s s) (.i k n) = some (.i .u8 (s.getD n.toNat 0).toNat) := g_idx_s' (by kernel_rfl) h0 hj
theorem ofc_10 (c : AV) (cs : List AV) : ofCells T0 10 (c :: cs) = some c := ofCells_leaf' (by kernel_rfl) c cs
theorem sz_10 : T0.sz 10 = some 1 := by kernel_rfl
theorem len_10 (h : Tr AB) (s : List UInt8) : evBuiltin T0 h .len [10] [.s s] = some (.i .i64 s.length) := g_len_s (by kernel_rfl) s
theorem idx_10 {k : IntKind} {s : List UInt8} {n : Int} (h0 : 0 ≤ n) (hj : n < s.length) : evIndex T0 10 (.s s) (.i k n) = some (.i .u8 (s.getD n.toNat 0).toNat) := g_idx_s' (by kernel_rfl) h0 hj
theorem ofc_11 (c : AV) (cs : List AV) : ofCells T0 11 (c :: cs) = some c := ofCells_leaf' (by kernel_rfl) c cs
theorem sz_11 : T0.sz 11 = some 1 := by kernel_rfl
theorem len_11 (h : Tr AB) (s : List UInt8) : evBuiltin T0 h .len [11] [.s s] = some (.i .i64 s.length) := g_len_s (by kernel_rfl) s
theorem idx_11 {k : IntKind} {s : List UInt8} {n : Int} (h0 : 0 ≤ n) (hj : n < s.length) : evIndex T0 11 (.s s) (.i k n) = some (.i .u8 (s.getD n.toNat 0).toNat) := g_idx_s' (by kernel_rfl) h0 hj
theorem ofc_12 (c : AV) (cs : List AV) : ofCells T0 12 (c :: cs) = some c := ofCells_leaf' (by kernel_rfl) c cs
theorem sz_12 : T0.sz 12 = some 1 := by kernel_rfl
theorem ofc_13 (cs : List AV) : ofCells T0 13 cs = (takeN 2 cs).map .agg := ofCells_agg' (by kernel_rfl) (by kernel_rfl) cs
theorem sz_13 : T0.sz 13 = some 2 := by kernel_rfl
theorem ofc_14 (cs : List AV) : ofCells T0 14 cs = (takeN 2 cs).map .agg := ofCells_agg' (by kernel_rfl) (by kernel_rfl) cs
theorem sz_14 : T0.sz 14 = some 2 := by kernel_rfl
theorem ofc_15 (c : AV) (cs : List AV) : ofCells T0 15 (c :: cs) = some c := ofCells_leaf' (by kernel_rfl) c cs
theorem sz_15 : T0.sz 15 = some 1 := by kernel_rfl
theorem ofc_16 (c : AV) (cs : List AV) : ofCells T0 16 (c :: cs) = some c := ofCells_leaf' (by kernel_rfl) c cs
theorem sz_16 : T0.sz 16 = some 1 := by kernel_rfl
theorem ofc_17 (c : AV) (cs : List AV) : ofCells T0 17 (c :: cs) = some c := ofCells_leaf' (by kernel_rfl) c cs
theorem sz_17 : T0.sz 17 = some 1 := by kernel_rfl
theorem ofc_18 (cs : List AV) : ofCells T0 18 cs = (takeN 1 cs).map .agg := ofCells_agg' (by kernel_rfl) (by kernel_rfl) cs
theorem sz_18 : T0.sz 18 = some 1 := by kernel_rfl
theorem ofc_19 (cs : List AV) : ofCells T0 19 cs = (takeN 1 cs).map .agg := ofCells_agg' (by kernel_rfl) (by kernel_rfl) cs
theorem sz_19 : T0.sz 19 = some 1 := by kernel_rfl
theorem ofc_20 (c : AV) (cs : List AV) : ofCells T0 20 (c :: cs) = some c := ofCells_leaf' (by kernel_rfl) c cs
theorem sz_20 : T0.sz 20 = some 1 := by kernel_rfl
theorem ofc_21 (c : AV) (cs : List AV) : ofCells T0 21 (c :: cs) = some c := ofCells_leaf' (by kernel_rfl) c cs
theorem sz_21 : T0.sz 21 = some 1 := by kernel_rfl
theorem ofc_22 (c : AV) (cs : List AV) : ofCells T0 22 (c :: cs) = some c := ofCells_leaf' (by kernel_rfl) c cs
theorem sz_22 : T0.sz 22 = some 1 := by kernel_rfl
theorem len_22 (h : Tr AB) (l : List AV) : evBuiltin T0 h .len [22] [.lst l] = some (.i .i64 l.length) := g_len_l (e := 33) (by kernel_rfl) l
theorem lenn_22 (h : Tr AB) : evBuiltin T0 h .len [22] [.nils] = some (.i .i64 0) := g_len_n (e := 33) (by kernel_rfl)
theorem leno_22 (h : Tr AB) (id off n : Nat) (cap : Option Nat) : evBuiltin T0 h .len [22] [.sl id off n cap] = some (.i .i64 n) := g_len_o (e := 33) (by kernel_rfl) id off n cap
theorem ia_22 {α : Type} [Inhabited α] {enc : α → AV} {l : List α} {k : IntKind} {n : Int} (h0 : 0 ≤ n) (hj : n < l.length) (hc : ∀ x, (enc x).cells.length = 17) : evIndexAddr T0 22 (.lst (l.map enc)) (.i k n) = some (.iptr (enc (l.getD n.toNat default)).cells) := g_ia_map (e := 33) (by kernel_rfl) (by kernel_rfl) h0 hj hc
theorem ofc_23 (c : AV) (cs : List AV) : ofCells T0 23 (c :: cs) = some c := ofCells_leaf' (by kernel_rfl) c cs
theorem sz_23 : T0.sz 23 = some 1 := by kernel_rfl
theorem ofc_24 (c : AV) (cs : List AV) : ofCells T0 24 (c :: cs) = some c := ofCells_leaf' (by kernel_rfl) c cs
theorem sz_24 : T0.sz 24 = some 1 := by kernel_rfl
theorem len_24 (h : Tr AB) (l : List AV) : evBuiltin T0 h .len [24] [.lst l] = some (.i .i64 l.length) := g_len_l (e := 69) (by kernel_rfl) l
theorem lenn_24 (h : Tr AB) : evBuiltin T0 h .len [24] [.nils] = some (.i .i64 0) := g_len_n (e := 69) (by kernel_rfl)
theorem leno_24 (h : Tr AB) (id off n : Nat) (cap : Option Nat) : evBuiltin T0 h .len [24] [.sl id off n cap] = some (.i .i64 n) := g_len_o (e := 69) (by kernel_rfl) id off n cap
theorem ia_24 {α : Type} [Inhabited α] {enc : α → AV} {l : List α} {k : IntKind} {n : Int} (h0 : 0 ≤ n) (hj : n < l.length) (hc : ∀ x, (enc x).cells.length = 2) : evIndexAddr T0 24 (.lst (l.map enc)) (.i k n) = some (.iptr (enc (l.getD n.toNat default)).cells) := g_ia_map (e := 69) (by kernel_rfl) (by kernel_rfl) h0 hj hc
theorem ofc_25 (c : AV) (cs : List AV) : ofCells T0 25 (c :: cs) = some c := ofCells_leaf' (by kernel_rfl) c cs
theorem sz_25 : T0.sz 25 = some 1 := by kernel_rfl
theorem len_25 (h : Tr AB) (l : List AV) : evBuiltin T0 h .len [25] [.lst l] = some (.i .i64 l.length) := g_len_l (e := 72) (by kernel_rfl) l
theorem lenn_25 (h : Tr AB) : evBuiltin T0 h .len [25] [.nils] = some (.i .i64 0) := g_len_n (e := 72) (by kernel_rfl)
theorem leno_25 (h : Tr AB) (id off n : Nat) (cap : Option Nat) : evBuiltin T0 h .len [25] [.sl id off n cap] = some (.i .i64 n) := g_len_o (e := 72) (by kernel_rfl) id off n cap
theorem ia_25 {α : Type} [Inhabited α] {enc : α → AV} {l : List α} {k : IntKind} {n : Int} (h0 : 0 ≤ n) (hj : n < l.length) (hc : ∀ x, (enc x).cells.length = 5) : evIndexAddr T0 25 (.lst (l.map enc)) (.i k n) = some (.iptr (enc (l.getD n.toNat default)).cells) := g_ia_map (e := 72) (by kernel_rfl) (by kernel_rfl) h0 hj hc
theorem ofc_26 (c : AV) (cs : List AV) : ofCells T0 26 (c :: cs) = some c := ofCells_leaf' (by kernel_rfl) c cs
theorem sz_26 : T0.sz 26 = some 1 := by kernel_rfl
theorem len_26 (h : Tr AB) (l : List AV) : evBuiltin T0 h .len [26] [.lst l] = some (.i .i64 l.length) := g_len_l (e := 9) (by kernel_rfl) l
theorem lenn_26 (h : Tr AB) : evBuiltin T0 h .len [26] [.nils] = some (.i .i64 0) := g_len_n (e := 9) (by kernel_rfl)
theorem leno_26 (h : Tr AB) (id off n : Nat) (cap : Option Nat) : evBuiltin T0 h .len [26] [.sl id off n cap] = some (.i .i64 n) := g_len_o (e := 9) (by kernel_rfl) id off n cap
theorem ia_26 {α : Type} [Inhabited α] {enc : α → AV} {l : List α} {k : IntKind} {n : Int} (h0 : 0 ≤ n) (hj : n < l.length) (hc : ∀ x, (enc x).cells.length = 1) : evIndexAddr T0 26 (.lst (l.map enc)) (.i k n) = some (.iptr (enc (l.getD n.toNat default)).cells) := g_ia_map (e := 9) (by kernel_rfl) (by kernel_rfl) h0 hj hc
theorem ofc_27 (c : AV) (cs : List AV) : ofCells T0 27 (c :: cs) = some c := ofCells_leaf' (by kernel_rfl) c cs
theorem sz_27 : T0.sz 27 = some 1 := by kernel_rfl
theorem len_27 (h : Tr AB) (l : List AV) : evBuiltin T0 h .len [27] [.lst l] = some (.i .i64 l.length) := g_len_l (e := 76) (by kernel_rfl) l
theorem lenn_27 (h : Tr AB) : evBuiltin T0 h .len [27] [.nils] = some (.i .i64 0) := g_len_n (e := 76) (by kernel_rfl)
theorem leno_27 (h : Tr AB) (id off n : Nat) (cap : Option Nat) : evBuiltin T0 h .len [27] [.sl id off n cap] = some (.i .i64 n) := g_len_o (e := 76) (by kernel_rfl) id off n cap
theorem ia_27 {α : Type} [Inhabited α] {enc : α → AV} {l : List α} {k : IntKind} {n : Int} (h0 : 0 ≤ n) (hj : n < l.length) (hc : ∀ x, (enc x).cells.length = 2) : evIndexAddr T0 27 (.lst (l.map enc)) (.i k n) = some (.iptr (enc (l.getD n.toNat default)).cells) := g_ia_map (e := 76) (by kernel_rfl) (by kernel_rfl) h0 hj hc
theorem ofc_28 (cs : List AV) : ofCells T0 28 cs = (takeN 13 cs).map .agg := ofCells_agg' (by kernel_rfl) (by kernel_rfl) cs
theorem sz_28 : T0.sz 28 = some 13 := by kernel_rfl
theorem ofc_29 (cs : List AV) : ofCells T0 29 cs = (takeN 13 cs).map .agg := ofCells_agg' (by kernel_rfl) (by kernel_rfl) cs
theorem sz_29 : T0.sz 29 = some 13 := by kernel_rfl
theorem ofc_30 (c : AV) (cs : List AV) : ofCells T0 30 (c :: cs) = some c := ofCells_leaf' (by kernel_rfl) c cs
theorem sz_30 : T0.sz 30 = some 1 := by kernel_rfl
theorem len_30 (h : Tr AB) (l : List AV) : evBuiltin T0 h .len [30] [.lst l] = some (.i .i64 l.length) := g_len_l (e := 79) (by kernel_rfl) l
theorem lenn_30 (h : Tr AB) : evBuiltin T0 h .len [30] [.nils] = some (.i .i64 0) := g_len_n (e := 79) (by kernel_rfl)
theorem leno_30 (h : Tr AB) (id off n : Nat) (cap : Option Nat) : evBuiltin T0 h .len [30] [.sl id off n cap] = some (.i .i64 n) := g_len_o (e := 79) (by kernel_rfl) id off n cap
theorem ia_30 {α : Type} [Inhabited α] {enc : α → AV} {l : List α} {k : IntKind} {n : Int} (h0 : 0 ≤ n) (hj : n < l.length) (hc : ∀ x, (enc x).cells.length = 3) : evIndexAddr T0 30 (.lst (l.map enc)) (.i k n) = some (.iptr (enc (l.getD n.toNat default)).cells) := g_ia_map (e := 79) (by kernel_rfl) (by kernel_rfl) h0 hj hc
theorem ofc_31 (c : AV) (cs : List AV) : ofCells T0 31 (c :: cs) = some c := ofCells_leaf' (by kernel_rfl) c cs
theorem sz_31 : T0.sz 31 = some 1 := by kernel_rfl
theorem len_31 (h : Tr AB) (l : List AV) : evBuiltin T0 h .len [31] [.lst l] = some (.i .i64 l.length) := g_len_l (e := 56) (by kernel_rfl) l
theorem lenn_31 (h : Tr AB) : evBuiltin T0 h .len [31] [.nils] = some (.i .i64 0) := g_len_n (e := 56) (by kernel_rfl)
theorem leno_31 (h : Tr AB) (id off n : Nat) (cap : Option Nat) : evBuiltin T0 h .len [31] [.sl id off n cap] = some (.i .i64 n) := g_len_o (e := 56) (by kernel_rfl) id off n cap
theorem ia_31 {α : Type} [Inhabited α] {enc : α → AV} {l : List α} {k : IntKind} {n : Int} (h0 : 0 ≤ n) (hj : n < l.length) (hc : ∀ x, (enc x).cells.length = 3) : evIndexAddr T0 31 (.lst (l.map enc)) (.i k n) = some (.iptr (enc (l.getD n.toNat default)).cells) := g_ia_map (e := 56) (by kernel_rfl) (by kernel_rfl) h0 hj hc
theorem ofc_32 (cs : List AV) : ofCells T0 32 cs = (takeN 17 cs).map .agg := ofCells_agg' (by kernel_rfl) (by kernel_rfl) cs
theorem sz_32 : T0.sz 32 = some 17 := by kernel_rfl
theorem ofc_33 (cs : List AV) : ofCells T0 33 cs = (takeN 17 cs).map .agg := ofCells_agg' (by kernel_rfl) (by kernel_rfl) cs
theorem sz_33 : T0.sz 33 = some 17 := by kernel_rfl
theorem ofc_34 (c : AV) (cs : List AV) : ofCells T0 34 (c :: cs) = some c := ofCells_leaf' (by kernel_rfl) c cs
theorem sz_34 : T0.sz 34 = some 1 := by kernel_rfl
theorem len_34 (h : Tr AB) (l : List AV) : evBuiltin T0 h .len [34] [.lst l] = some (.i .i64 l.length) := g_len_l (e := 54) (by kernel_rfl) l
theorem lenn_34 (h : Tr AB) : evBuiltin T0 h .len [34] [.nils] = some (.i .i64 0) := g_len_n (e := 54) (by kernel_rfl)
theorem leno_34 (h : Tr AB) (id off n : Nat) (cap : Option Nat) : evBuiltin T0 h .len [34] [.sl id off n cap] = some (.i .i64 n) := g_len_o (e := 54) (by kernel_rfl) id off n cap
theorem ia_34 {α : Type} [Inhabited α] {enc : α → AV} {l : List α} {k : IntKind} {n : Int} (h0 : 0 ≤ n) (hj : n < l.length) (hc : ∀ x, (enc x).cells.length = 5) : evIndexAddr T0 34 (.lst (l.map enc)) (.i k n) = some (.iptr (enc (l.getD n.toNat default)).cells) := g_ia_map (e := 54) (by kernel_rfl) (by kernel_rfl) h0 hj hc
theorem ofc_35 (cs : List AV) : ofCells T0 35 cs = (takeN 15 cs).map .agg := ofCells_agg' (by kernel_rfl) (by kernel_rfl) cs
theorem sz_35 : T0.sz 35 = some 15 := by kernel_rfl
theorem ofc_36 (cs : List AV) : ofCells T0 36 cs = (takeN 15 cs).map .agg := ofCells_agg' (by kernel_rfl) (by kernel_rfl) cs
theorem sz_36 : T0.sz 36 = some 15 := by kernel_rfl
theorem ofc_37 (c : AV) (cs : List AV) : ofCells T0 37 (c :: cs) = some c := ofCells_leaf' (by kernel_rfl) c cs
theorem sz_37 : T0.sz 37 = some 1 := by kernel_rfl
theorem ofc_38 (c : AV) (cs : List AV) : ofCells T0 38 (c :: cs) = some c := ofCells_leaf' (by kernel_rfl) c cs
theorem sz_38 : T0.sz 38 = some 1 := by kernel_rfl
theorem ofc_40 (c : AV) (cs : List AV) : ofCells T0 40 (c :: cs) = some c := ofCells_leaf' (by kernel_rfl) c cs
theorem sz_40 : T0.sz 40 = some 1 := by kernel_rfl
theorem ofc_41 (c : AV) (cs : List AV) : ofCells T0 41 (c :: cs) = some c := ofCells_leaf' (by kernel_rfl) c cs
theorem sz_41 : T0.sz 41 = some 1 := by kernel_rfl
theorem ofc_42 (c : AV) (cs : List AV) : ofCells T0 42 (c :: cs) = some c := ofCells_leaf' (by kernel_rfl) c cs
theorem sz_42 : T0.sz 42 = some 1 := by kernel_rfl
theorem ofc_44 (c : AV) (cs : List AV) : ofCells T0 44 (c :: cs) = some c := ofCells_leaf' (by kernel_rfl) c cs
theorem sz_44 : T0.sz 44 = some 1 := by kernel_rfl
theorem ofc_45 (c : AV) (cs : List AV) : ofCells T0 45 (c :: cs) = some c := ofCells_leaf' (by kernel_rfl) c cs
theorem sz_45 : T0.sz 45 = some 1 := by kernel_rfl
theorem ofc_46 (c : AV) (cs : List AV) : ofCells T0 46 (c :: cs) = some c := ofCells_leaf' (by kernel_rfl) c cs
theorem sz_46 : T0.sz 46 = some 1 := by kernel_rfl
theorem ofc_47 (c : AV) (cs : List AV) : ofCells T0 47 (c :: cs) = some c := ofCells_leaf' (by kernel_rfl) c cs
theorem sz_47 : T0.sz 47 = some 1 := by kernel_rfl
theorem ofc_48 (c : AV) (cs : List AV) : ofCells T0 48 (c :: cs) = some c := ofCells_leaf' (by kernel_rfl) c cs
theorem sz_48 : T0.sz 48 = some 1 := by kernel_rfl
theorem ofc_49 (c : AV) (cs : List AV) : ofCells T0 49 (c :: cs) = some c := ofCells_leaf' (by kernel_rfl) c cs
theorem sz_49 : T0.sz 49 = some 1 := by kernel_rfl
theorem ofc_50 (c : AV) (cs : List AV) : ofCells T0 50 (c :: cs) = some c := ofCells_leaf' (by kernel_rfl) c cs
theorem sz_50 : T0.sz 50 = some 1 := by kernel_rfl
theorem len_50 (h : Tr AB) (l : List AV) : evBuiltin T0 h .len [50] [.lst l] = some (.i .i64 l.length) := g_len_l (e := 4) (by kernel_rfl) l
theorem lenn_50 (h : Tr AB) : evBuiltin T0 h .len [50] [.nils] = some (.i .i64 0) := g_len_n (e := 4) (by kernel_rfl)
theorem leno_50 (h : Tr AB) (id off n : Nat) (cap : Option Nat) : evBuiltin T0 h .len [50] [.sl id off n cap] = some (.i .i64 n) := g_len_o (e := 4) (by kernel_rfl) id off n cap
theorem ia_50 {α : Type} [Inhabited α] {enc : α → AV} {l : List α} {k : IntKind} {n : Int} (h0 : 0 ≤ n) (hj : n < l.length) (hc : ∀ x, (enc x).cells.length = 1) : evIndexAddr T0 50 (.lst (l.map enc)) (.i k n) = some (.iptr (enc (l.getD n.toNat default)).cells) := g_ia_map (e := 4) (by kernel_rfl) (by kernel_rfl) h0 hj hc
theorem ofc_51 (c : AV) (cs : List AV) : ofCells T0 51 (c :: cs) = some c := ofCells_leaf' (by kernel_rfl) c cs
theorem sz_51 : T0.sz 51 = some 1 := by kernel_rfl
theorem ofc_52 (c : AV) (cs : List AV) : ofCells T0 52 (c :: cs) = some c := ofCells_leaf' (by kernel_rfl) c cs
theorem sz_52 : T0.sz 52 = some 1 := by kernel_rfl
theorem ofc_53 (cs : List AV) : ofCells T0 53 cs = (takeN 5 cs).map .agg := ofCells_agg' (by kernel_rfl) (by kernel_rfl) cs
theorem sz_53 : T0.sz 53 = some 5 := by kernel_rfl
theorem ofc_54 (cs : List AV) : ofCells T0 54 cs = (takeN 5 cs).map .agg := ofCells_agg' (by kernel_rfl) (by kernel_rfl) cs
theorem sz_54 : T0.sz 54 = some 5 := by kernel_rfl
theorem ofc_55 (cs : List AV) : ofCells T0 55 cs = (takeN 3 cs).map .agg := ofCells_agg' (by kernel_rfl) (by kernel_rfl) cs
theorem sz_55 : T0.sz 55 = some 3 := by kernel_rfl
theorem ofc_56 (cs : List AV) : ofCells T0 56 cs = (takeN 3 cs).map .agg := ofCells_agg' (by kernel_rfl) (by kernel_rfl) cs
theorem sz_56 : T0.sz 56 = some 3 := by kernel_rfl
theorem ofc_57 (c : AV) (cs : List AV) : ofCells T0 57 (c :: cs) = some c := ofCells_leaf' (by kernel_rfl) c cs
theorem sz_57 : T0.sz 57 = some 1 := by kernel_rfl
theorem ofc_58 (c : AV) (cs : List AV) : ofCells T0 58 (c :: cs) = some c := ofCells_leaf' (by kernel_rfl) c cs
theorem sz_58 : T0.sz 58 = some 1 := by kernel_rfl
theorem ofc_59 (c : AV) (cs : List AV) : ofCells T0 59 (c :: cs) = some c := ofCells_leaf' (by kernel_rfl) c cs
theorem sz_59 : T0.sz 59 = some 1 := by kernel_rfl
theorem ofc_60 (c : AV) (cs : List AV) : ofCells T0 60 (c :: cs) = some c := ofCells_leaf' (by kernel_rfl) c cs
theorem sz_60 : T0.sz 60 = some 1 := by kernel_rfl
theorem ofc_61 (c : AV) (cs : List AV) : ofCells T0 61 (c :: cs) = some c := ofCells_leaf' (by kernel_rfl) c cs
theorem sz_61 : T0.sz 61 = some 1 := by kernel_rfl
theorem ofc_62 (c : AV) (cs : List AV) : ofCells T0 62 (c :: cs) = some c := ofCells_leaf' (by kernel_rfl) c cs
theorem sz_62 : T0.sz 62 = some 1 := by kernel_rfl
theorem ofc_63 (c : AV) (cs : List AV) : ofCells T0 63 (c :: cs) = some c := ofCells_leaf' (by kernel_rfl) c cs
theorem sz_63 : T0.sz 63 = some 1 := by kernel_rfl
theorem ofc_64 (c : AV) (cs : List AV) : ofCells T0 64 (c :: cs) = some c := ofCells_leaf' (by kernel_rfl) c cs
theorem sz_64 : T0.sz 64 = some 1 := by kernel_rfl
theorem ofc_65 (c : AV) (cs : List AV) : ofCells T0 65 (c :: cs) = some c := ofCells_leaf' (by kernel_rfl) c cs
theorem sz_65 : T0.sz 65 = some 1 := by kernel_rfl
theorem ofc_66 (c : AV) (cs : List AV) : ofCells T0 66 (c :: cs) = some c := ofCells_leaf' (by kernel_rfl) c cs
theorem sz_66 : T0.sz 66 = some 1 := by kernel_rfl
theorem ofc_67 (c : AV) (cs : List AV) : ofCells T0 67 (c :: cs) = some c := ofCells_leaf' (by kernel_rfl) c cs
theorem sz_67 : T0.sz 67 = some 1 := by kernel_rfl
theorem ofc_68 (cs : List AV) : ofCells T0 68 cs = (takeN 2 cs).map .agg := ofCells_agg' (by kernel_rfl) (by kernel_rfl) cs
theorem sz_68 : T0.sz 68 = some 2 := by kernel_rfl
theorem ofc_69 (cs : List AV) : ofCells T0 69 cs = (takeN 2 cs).map .agg := ofCells_agg' (by kernel_rfl) (by kernel_rfl) cs
theorem sz_69 : T0.sz 69 = some 2 := by kernel_rfl
theorem ofc_70 (c : AV) (cs : List AV) : ofCells T0 70 (c :: cs) = some c := ofCells_leaf' (by kernel_rfl) c cs
theorem sz_70 : T0.sz 70 = some 1 := by kernel_rfl
theorem ofc_71 (cs : List AV) : ofCells T0 71 cs = (takeN 5 cs).map .agg := ofCells_agg' (by kernel_rfl) (by kernel_rfl) cs
theorem sz_71 : T0.sz 71 = some 5 := by kernel_rfl
theorem ofc_72 (cs : List AV) : ofCells T0 72 cs = (takeN 5 cs).map .agg := ofCells_agg' (by kernel_rfl) (by kernel_rfl) cs
theorem sz_72 : T0.sz 72 = some 5 := by kernel_rfl
theorem ofc_73 (c : AV) (cs : List AV) : ofCells T0 73 (c :: cs) = some c := ofCells_leaf' (by kernel_rfl) c cs
theorem sz_73 : T0.sz 73 = some 1 := by kernel_rfl
theorem ofc_74 (c : AV) (cs : List AV) : ofCells T0 74 (c :: cs) = some c := ofCells_leaf' (by kernel_rfl) c cs
theorem sz_74 : T0.sz 74 = some 1 := by kernel_rfl
theorem ofc_75 (cs : List AV) : ofCells T0 75 cs = (takeN 2 cs).map .agg := ofCells_agg' (by kernel_rfl) (by kernel_rfl) cs
theorem sz_75 : T0.sz 75 = some 2 := by kernel_rfl
theorem ofc_76 (cs : List AV) : ofCells T0 76 cs = (takeN 2 cs).map .agg := ofCells_agg' (by kernel_rfl) (by kernel_rfl) cs
theorem sz_76 : T0.sz 76 = some 2 := by kernel_rfl
theorem ofc_77 (c : AV) (cs : List AV) : ofCells T0 77 (c :: cs) = some c := ofCells_leaf' (by kernel_rfl) c cs
theorem sz_77 : T0.sz 77 = some 1 := by kernel_rfl
theorem ofc_78 (cs : List AV) : ofCells T0 78 cs = (takeN 3 cs).map .agg := ofCells_agg' (by kernel_rfl) (by kernel_rfl) cs
theorem sz_78 : T0.sz 78 = some 3 := by kernel_rfl
theorem ofc_79 (cs : List AV) : ofCells T0 79 cs = (takeN 3 cs).map .agg := ofCells_agg' (by kernel_rfl) (by kernel_rfl) cs
theorem sz_79 : T0.sz 79 = some 3 := by kernel_rfl
theorem ofc_80 (c : AV) (cs : List AV) : ofCells T0 80 (c :: cs) = some c := ofCells_leaf' (by kernel_rfl) c cs
theorem sz_80 : T0.sz 80 = some 1 := by kernel_rfl
theorem ofc_81 (c : AV) (cs : List AV) : ofCells T0 81 (c :: cs) = some c := ofCells_leaf' (by kernel_rfl) c cs
theorem sz_81 : T0.sz 81 = some 1 := by kernel_rfl
theorem ofc_82 (c : AV) (cs : List AV) : ofCells T0 82 (c :: cs) = some c := ofCells_leaf' (by kernel_rfl) c cs
theorem sz_82 : T0.sz 82 = some 1 := by kernel_rfl
theorem ofc_83 (cs : List AV) : ofCells T0 83 cs = (takeN 24 cs).map .agg := ofCells_agg' (by kernel_rfl) (by kernel_rfl) cs
theorem sz_83 : T0.sz 83 = some 24 := by kernel_rfl
theorem ofc_84 (c : AV) (cs : List AV) : ofCells T0 84 (c :: cs) = some c := ofCells_leaf' (by kernel_rfl) c cs
theorem sz_84 : T0.sz 84 = some 1 := by kernel_rfl
theorem ofc_85 (c : AV) (cs : List AV) : ofCells T0 85 (c :: cs) = some c := ofCells_leaf' (by kernel_rfl) c cs
theorem sz_85 : T0.sz 85 = some 1 := by kernel_rfl
theorem ofc_86 (c : AV) (cs : List AV) : ofCells T0 86 (c :: cs) = some c := ofCells_leaf' (by kernel_rfl) c cs
theorem sz_86 : T0.sz 86 = some 1 := by kernel_rfl
theorem len_86 (h : Tr AB) (l : List AV) : evBuiltin T0 h .len [86] [.lst l] = some (.i .i64 l.length) := g_len_l (e := 5) (by kernel_rfl) l
theorem lenn_86 (h : Tr AB) : evBuiltin T0 h .len [86] [.nils] = some (.i .i64 0) := g_len_n (e := 5) (by kernel_rfl)
theorem leno_86 (h : Tr AB) (id off n : Nat) (cap : Option Nat) : evBuiltin T0 h .len [86] [.sl id off n cap] = some (.i .i64 n) := g_len_o (e := 5) (by kernel_rfl) id off n cap
theorem ia_86 {α : Type} [Inhabited α] {enc : α → AV} {l : List α} {k : IntKind} {n : Int} (h0 : 0 ≤ n) (hj : n < l.length) (hc : ∀ x, (enc x).cells.length = 1) : evIndexAddr T0 86 (.lst (l.map enc)) (.i k n) = some (.iptr (enc (l.getD n.toNat default)).cells) := g_ia_map (e := 5) (by kernel_rfl) (by kernel_rfl) h0 hj hc
theorem ofc_88 (c : AV) (cs : List AV) : ofCells T0 88 (c :: cs) = some c := ofCells_leaf' (by kernel_rfl) c cs
theorem sz_88 : T0.sz 88 = some 1 := by kernel_rfl
theorem ofc_89 (c : AV) (cs : List AV) : ofCells T0 89 (c :: cs) = some c := ofCells_leaf' (by kernel_rfl) c cs
theorem sz_89 : T0.sz 89 = some 1 := by kernel_rfl
theorem ofc_90 (c : AV) (cs : List AV) : ofCells T0 90 (c :: cs) = some c := ofCells_leaf' (by kernel_rfl) c cs
theorem sz_90 : T0.sz 90 = some 1 := by kernel_rfl
theorem ofc_91 (cs : List AV) : ofCells T0 91 cs = (takeN 20 cs).map .agg := ofCells_agg' (by kernel_rfl) (by kernel_rfl) cs
theorem sz_91 : T0.sz 91 = some 20 := by kernel_rfl
theorem ofc_92 (c : AV) (cs : List AV) : ofCells T0 92 (c :: cs) = some c := ofCells_leaf' (by kernel_rfl) c cs
theorem sz_92 : T0.sz 92 = some 1 := by kernel_rfl
theorem ofc_93 (cs : List AV) : ofCells T0 93 cs = (takeN 65 cs).map .agg := ofCells_agg' (by kernel_rfl) (by kernel_rfl) cs
theorem sz_93 : T0.sz 93 = some 65 := by kernel_rfl
theorem ofc_94 (c : AV) (cs : List AV) : ofCells T0 94 (c :: cs) = some c := ofCells_leaf' (by kernel_rfl) c cs
theorem sz_94 : T0.sz 94 = some 1 := by kernel_rfl
theorem ofc_95 (c : AV) (cs : List AV) : ofCells T0 95 (c :: cs) = some c := ofCells_leaf' (by kernel_rfl) c cs
theorem sz_95 : T0.sz 95 = some 1 := by kernel_rfl
theorem ofc_96 (c : AV) (cs : List AV) : ofCells T0 96 (c :: cs) = some c := ofCells_leaf' (by kernel_rfl) c cs
theorem sz_96 : T0.sz 96 = some 1 := by kernel_rfl
theorem ofc_97 (c : AV) (cs : List AV) : ofCells T0 97 (c :: cs) = some c := ofCells_leaf' (by kernel_rfl) c cs
theorem sz_97 : T0.sz 97 = some 1 := by kernel_rfl
theorem ofc_98 (cs : List AV) : ofCells T0 98 cs = (takeN 32 cs).map .agg := ofCells_agg' (by kernel_rfl) (by kernel_rfl) cs
theorem sz_98 : T0.sz 98 = some 32 := by kernel_rfl
theorem ofc_99 (cs : List AV) : ofCells T0 99 cs = (takeN 64 cs).map .agg := ofCells_agg' (by kernel_rfl) (by kernel_rfl) cs
theorem sz_99 : T0.sz 99 = some 64 := by kernel_rfl
theorem ofc_100 (c : AV) (cs : List AV) : ofCells T0 100 (c :: cs) = some c := ofCells_leaf' (by kernel_rfl) c cs
theorem sz_100 : T0.sz 100 = some 1 := by kernel_rfl
theorem ofc_101 (cs : List AV) : ofCells T0 101 cs = (takeN 4 cs).map .agg := ofCells_agg' (by kernel_rfl) (by kernel_rfl) cs
theorem sz_101 : T0.sz 101 = some 4 := by kernel_rfl
theorem ofc_102 (cs : List AV) : ofCells T0 102 cs = (takeN 4 cs).map .agg := ofCells_agg' (by kernel_rfl) (by kernel_rfl) cs
theorem sz_102 : T0.sz 102 = some 4 := by kernel_rfl
theorem ofc_103 (cs : List AV) : ofCells T0 103 cs = (takeN 0 cs).map .agg := ofCells_agg' (by kernel_rfl) (by kernel_rfl) cs
theorem sz_103 : T0.sz 103 = some 0 := by kernel_rfl
theorem ofc_104 (cs : List AV) : ofCells T0 104 cs = (takeN 0 cs).map .agg := ofCells_agg' (by kernel_rfl) (by kernel_rfl) cs
theorem sz_104 : T0.sz 104 = some 0 := by kernel_rfl
theorem ofc_105 (cs : List AV) : ofCells T0 105 cs = (takeN 0 cs).map .agg := ofCells_agg' (by kernel_rfl) (by kernel_rfl) cs
theorem sz_105 : T0.sz 105 = some 0 := by kernel_rfl
theorem ofc_106 (c : AV) (cs : List AV) : ofCells T0 106 (c :: cs) = some c := ofCells_leaf' (by kernel_rfl) c cs
theorem sz_106 : T0.sz 106 = some 1 := by kernel_rfl
theorem ofc_107 (c : AV) (cs : List AV) : ofCells T0 107 (c :: cs) = some c := ofCells_leaf' (by kernel_rfl) c cs
theorem sz_107 : T0.sz 107 = some 1 := by kernel_rfl
theorem ofc_108 (c : AV) (cs : List AV) : ofCells T0 108 (c :: cs) = some c := ofCells_leaf' (by kernel_rfl) c cs
theorem sz_108 : T0.sz 108 = some 1 := by kernel_rfl
theorem ofc_109 (c : AV) (cs : List AV) : ofCells T0 109 (c :: cs) = some c := ofCells_leaf' (by kernel_rfl) c cs
theorem sz_109 : T0.sz 109 = some 1 := by kernel_rfl
theorem ofc_110 (c : AV) (cs : List AV) : ofCells T0 110 (c :: cs) = some c := ofCells_leaf' (by kernel_rfl) c cs
theorem sz_110 : T0.sz 110 = some 1 := by kernel_rfl
theorem ofc_111 (c : AV) (cs : List AV) : ofCells T0 111 (c :: cs) = some c := ofCells_leaf' (by kernel_rfl) c cs
theorem sz_111 : T0.sz 111 = some 1 := by kernel_rfl
theorem ofc_112 (c : AV) (cs : List AV) : ofCells T0 112 (c :: cs) = some c := ofCells_leaf' (by kernel_rfl) c cs
theorem sz_112 : T0.sz 112 = some 1 := by kernel_rfl
theorem ofc_113 (cs : List AV) : ofCells T0 113 cs = (takeN 11 cs).map .agg := ofCells_agg' (by kernel_rfl) (by kernel_rfl) cs
theorem sz_113 : T0.sz 113 = some 11 := by kernel_rfl
theorem ofc_114 (cs : List AV) : ofCells T0 114 cs = (takeN 11 cs).map .agg := ofCells_agg' (by kernel_rfl) (by kernel_rfl) cs
theorem sz_114 : T0.sz 114 = some 11 := by kernel_rfl
end Go.Proofs.YtbcikhbepldjhaaDoor.Ev
