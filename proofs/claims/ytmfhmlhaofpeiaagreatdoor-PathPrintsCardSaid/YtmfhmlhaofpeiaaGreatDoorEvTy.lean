/- What single operations come to at this seat's types. Printed by evty.py, a program of this session's. -/
import Derived.Test.YtmfhmlhaofpeiaaGreatDoorEvT
namespace Go.Proofs.YtmfhmlhaofpeiaaGreatDoor.Ev
open Go Go.RowKit
theorem ofc_1 (c : AV) (cs : List AV) : ofCells T0 1 (c :: cs) = some c := ofCells_leaf' (by kernel_rfl) c cs
theorem sz_1 : T0.sz 1 = some 1 := by kernel_rfl
theorem ofc_2 (c : AV) (cs : List AV) : ofCells T0 2 (c :: cs) = some c := ofCells_leaf' (by kernel_rfl) c cs
theorem sz_2 : T0.sz 2 = some 1 := by kernel_rfl
theorem ofc_3 (c : AV) (cs : List AV) : ofCells T0 3 (c :: cs) = some c := ofCells_leaf' (by kernel_rfl) c cs
theorem sz_3 : T0.sz 3 = some 1 := by kernel_rfl
theorem ofc_4 (c : AV) (cs : List AV) : ofCells T0 4 (c :: cs) = some c := ofCells_leaf' (by kernel_rfl) c cs
theorem sz_4 : T0.sz 4 = some 1 := by kernel_rfl
theorem beq_4 (a b c : Bool) : evBin T0 .eql 4 c (.b a) (.b b) = some (.b (a == b)) := bin_beq (by kernel_rfl) a b c
theorem bne_4 (a b c : Bool) : evBin T0 .neq 4 c (.b a) (.b b) = some (.b (!(a == b))) := bin_bne (by kernel_rfl) a b c
theorem ofc_5 (c : AV) (cs : List AV) : ofCells T0 5 (c :: cs) = some c := ofCells_leaf' (by kernel_rfl) c cs
theorem sz_5 : T0.sz 5 = some 1 := by kernel_rfl
theorem ofc_6 (c : AV) (cs : List AV) : ofCells T0 6 (c :: cs) = some c := ofCells_leaf' (by kernel_rfl) c cs
theorem sz_6 : T0.sz 6 = some 1 := by kernel_rfl
theorem ofc_7 (cs : List AV) : ofCells T0 7 cs = (takeN 4 cs).map .agg := ofCells_agg' (by kernel_rfl) (by kernel_rfl) cs
theorem sz_7 : T0.sz 7 = some 4 := by kernel_rfl
theorem ofc_8 (cs : List AV) : ofCells T0 8 cs = (takeN 4 cs).map .agg := ofCells_agg' (by kernel_rfl) (by kernel_rfl) cs
theorem sz_8 : T0.sz 8 = some 4 := by kernel_rfl
theorem ofc_9 (c : AV) (cs : List AV) : ofCells T0 9 (c :: cs) = some c := ofCells_leaf' (by kernel_rfl) c cs
theorem sz_9 : T0.sz 9 = some 1 := by kernel_rfl
theorem len_9 (h : Tr AB) (s : List UInt8) : evBuiltin T0 h .len [9] [.s s] = some (.i .i64 s.length) := g_len_s (by kernel_rfl) s
theorem idx_9 {k : IntKind} {s : List UInt8} {n : Int} (h0 : 0 ≤ n) (hj : n < s.length) : evIndex T0 9 (.s s) (.i k n) = some (.i .u8 (s.getD n.toNat 0).toNat) := g_idx_s' (by kernel_rfl) h0 hj
theorem ofc_10 (c : AV) (cs : List AV) : ofCells T0 10 (c :: cs) = some c := ofCells_leaf' (by kernel_rfl) c cs
theorem sz_10 : T0.sz 10 = some 1 := by kernel_rfl
theorem len_10 (h : Tr AB) (s : List UInt8) : evBuiltin T0 h .len [10] [.s s] = some (.i .i64 s.length) := g_len_s (by kernel_rfl) s
theorem idx_10 {k : IntKind} {s : List UInt8} {n : Int} (h0 : 0 ≤ n) (hj : n < s.length) : evIndex T0 10 (.s s) (.i k n) = some (.i .u8 (s.getD n.toNat 0).toNat) := g_idx_s' (by kernel_rfl) h0 hj
theorem ofc_11 (c : AV) (cs : List AV) : ofCells T0 11 (c :: cs) = some c := ofCells_leaf' (by kernel_rfl) c cs
theorem sz_11 : T0.sz 11 = some 1 := by kernel_rfl
theorem len_11 (h : Tr AB) (s : List UInt8) : evBuiltin T0 h .len [11] [.s s] = some (.i .i64 s.length) := g_len_s (by kernel_rfl) s
theorem idx_11 {k : IntKind} {s : List UInt8} {n : Int} (h0 : 0 ≤ n) (hj : n < s.length) : evIndex T0 11 (.s s) (.i k n) = some (.i .u8 (s.getD n.toNat 0).toNat) := g_idx_s' (by kernel_rfl) h0 hj
theorem ofc_12 (c : AV) (cs : List AV) : ofCells T0 12 (c :: cs) = some c := ofCells_leaf' (by kernel_rfl) c cs
theorem sz_12 : T0.sz 12 = some 1 := by kernel_rfl
theorem ofc_13 (cs : List AV) : ofCells T0 13 cs = (takeN 2 cs).map .agg := ofCells_agg' (by kernel_rfl) (by kernel_rfl) cs
theorem sz_13 : T0.sz 13 = some 2 := by kernel_rfl
theorem ofc_14 (cs : List AV) : ofCells T0 14 cs = (takeN 2 cs).map .agg := ofCells_agg' (by kernel_rfl) (by kernel_rfl) cs
theorem sz_14 : T0.sz 14 = some 2 := by kernel_rfl
theorem ofc_15 (c : AV) (cs : List AV) : ofCells T0 15 (c :: cs) = some c := ofCells_leaf' (by kernel_rfl) c cs
theorem sz_15 : T0.sz 15 = some 1 := by kernel_rfl
theorem ofc_16 (c : AV) (cs : List AV) : ofCells T0 16 (c :: cs) = some c := ofCells_leaf' (by kernel_rfl) c cs
theorem sz_16 : T0.sz 16 = some 1 := by kernel_rfl
theorem ofc_17 (c : AV) (cs : List AV) : ofCells T0 17 (c :: cs) = some c := ofCells_leaf' (by kernel_rfl) c cs
theorem sz_17 : T0.sz 17 = some 1 := by kernel_rfl
theorem ofc_18 (cs : List AV) : ofCells T0 18 cs = (takeN 1 cs).map .agg := ofCells_agg' (by kernel_rfl) (by kernel_rfl) cs
theorem sz_18 : T0.sz 18 = some 1 := by kernel_rfl
theorem ofc_19 (cs : List AV) : ofCells T0 19 cs = (takeN 1 cs).map .agg := ofCells_agg' (by kernel_rfl) (by kernel_rfl) cs
theorem sz_19 : T0.sz 19 = some 1 := by kernel_rfl
theorem ofc_20 (c : AV) (cs : List AV) : ofCells T0 20 (c :: cs) = some c := ofCells_leaf' (by kernel_rfl) c cs
theorem sz_20 : T0.sz 20 = some 1 := by kernel_rfl
theorem ofc_21 (c : AV) (cs : List AV) : ofCells T0 21 (c :: cs) = some c := ofCells_leaf' (by kernel_rfl) c cs
theorem sz_21 : T0.sz 21 = some 1 := by kernel_rfl
theorem ofc_22 (c : AV) (cs : List AV) : ofCells T0 22 (c :: cs) = some c := ofCells_leaf' (by kernel_rfl) c cs
theorem sz_22 : T0.sz 22 = some 1 := by kernel_rfl
theorem len_22 (h : Tr AB) (l : List AV) : evBuiltin T0 h .len [22] [.lst l] = some (.i .i64 l.length) := g_len_l (e := 50) (by kernel_rfl) l
theorem lenn_22 (h : Tr AB) : evBuiltin T0 h .len [22] [.nils] = some (.i .i64 0) := g_len_n (e := 50) (by kernel_rfl)
theorem leno_22 (h : Tr AB) (id off n : Nat) (cap : Option Nat) : evBuiltin T0 h .len [22] [.sl id off n cap] = some (.i .i64 n) := g_len_o (e := 50) (by kernel_rfl) id off n cap
theorem ia_22 {α : Type} [Inhabited α] {enc : α → AV} {l : List α} {k : IntKind} {n : Int} (h0 : 0 ≤ n) (hj : n < l.length) (hc : ∀ x, (enc x).cells.length = 4) : evIndexAddr T0 22 (.lst (l.map enc)) (.i k n) = some (.iptr (enc (l.getD n.toNat default)).cells) := g_ia_map (e := 50) (by kernel_rfl) (by kernel_rfl) h0 hj hc
theorem ofc_23 (c : AV) (cs : List AV) : ofCells T0 23 (c :: cs) = some c := ofCells_leaf' (by kernel_rfl) c cs
theorem sz_23 : T0.sz 23 = some 1 := by kernel_rfl
theorem ofc_24 (c : AV) (cs : List AV) : ofCells T0 24 (c :: cs) = some c := ofCells_leaf' (by kernel_rfl) c cs
theorem sz_24 : T0.sz 24 = some 1 := by kernel_rfl
theorem ofc_25 (c : AV) (cs : List AV) : ofCells T0 25 (c :: cs) = some c := ofCells_leaf' (by kernel_rfl) c cs
theorem sz_25 : T0.sz 25 = some 1 := by kernel_rfl
theorem ofc_26 (c : AV) (cs : List AV) : ofCells T0 26 (c :: cs) = some c := ofCells_leaf' (by kernel_rfl) c cs
theorem sz_26 : T0.sz 26 = some 1 := by kernel_rfl
theorem ofc_28 (c : AV) (cs : List AV) : ofCells T0 28 (c :: cs) = some c := ofCells_leaf' (by kernel_rfl) c cs
theorem sz_28 : T0.sz 28 = some 1 := by kernel_rfl
theorem ofc_29 (c : AV) (cs : List AV) : ofCells T0 29 (c :: cs) = some c := ofCells_leaf' (by kernel_rfl) c cs
theorem sz_29 : T0.sz 29 = some 1 := by kernel_rfl
theorem ofc_31 (c : AV) (cs : List AV) : ofCells T0 31 (c :: cs) = some c := ofCells_leaf' (by kernel_rfl) c cs
theorem sz_31 : T0.sz 31 = some 1 := by kernel_rfl
theorem ofc_32 (c : AV) (cs : List AV) : ofCells T0 32 (c :: cs) = some c := ofCells_leaf' (by kernel_rfl) c cs
theorem sz_32 : T0.sz 32 = some 1 := by kernel_rfl
theorem len_32 (h : Tr AB) (l : List AV) : evBuiltin T0 h .len [32] [.lst l] = some (.i .i64 l.length) := g_len_l (e := 35) (by kernel_rfl) l
theorem lenn_32 (h : Tr AB) : evBuiltin T0 h .len [32] [.nils] = some (.i .i64 0) := g_len_n (e := 35) (by kernel_rfl)
theorem leno_32 (h : Tr AB) (id off n : Nat) (cap : Option Nat) : evBuiltin T0 h .len [32] [.sl id off n cap] = some (.i .i64 n) := g_len_o (e := 35) (by kernel_rfl) id off n cap
theorem ia_32 {α : Type} [Inhabited α] {enc : α → AV} {l : List α} {k : IntKind} {n : Int} (h0 : 0 ≤ n) (hj : n < l.length) (hc : ∀ x, (enc x).cells.length = 5) : evIndexAddr T0 32 (.lst (l.map enc)) (.i k n) = some (.iptr (enc (l.getD n.toNat default)).cells) := g_ia_map (e := 35) (by kernel_rfl) (by kernel_rfl) h0 hj hc
theorem ofc_33 (c : AV) (cs : List AV) : ofCells T0 33 (c :: cs) = some c := ofCells_leaf' (by kernel_rfl) c cs
theorem sz_33 : T0.sz 33 = some 1 := by kernel_rfl
theorem len_33 (h : Tr AB) (l : List AV) : evBuiltin T0 h .len [33] [.lst l] = some (.i .i64 l.length) := g_len_l (e := 52) (by kernel_rfl) l
theorem lenn_33 (h : Tr AB) : evBuiltin T0 h .len [33] [.nils] = some (.i .i64 0) := g_len_n (e := 52) (by kernel_rfl)
theorem leno_33 (h : Tr AB) (id off n : Nat) (cap : Option Nat) : evBuiltin T0 h .len [33] [.sl id off n cap] = some (.i .i64 n) := g_len_o (e := 52) (by kernel_rfl) id off n cap
theorem ia_33 {α : Type} [Inhabited α] {enc : α → AV} {l : List α} {k : IntKind} {n : Int} (h0 : 0 ≤ n) (hj : n < l.length) (hc : ∀ x, (enc x).cells.length = 6) : evIndexAddr T0 33 (.lst (l.map enc)) (.i k n) = some (.iptr (enc (l.getD n.toNat default)).cells) := g_ia_map (e := 52) (by kernel_rfl) (by kernel_rfl) h0 hj hc
theorem ofc_34 (cs : List AV) : ofCells T0 34 cs = (takeN 5 cs).map .agg := ofCells_agg' (by kernel_rfl) (by kernel_rfl) cs
theorem sz_34 : T0.sz 34 = some 5 := by kernel_rfl
theorem ofc_35 (cs : List AV) : ofCells T0 35 cs = (takeN 5 cs).map .agg := ofCells_agg' (by kernel_rfl) (by kernel_rfl) cs
theorem sz_35 : T0.sz 35 = some 5 := by kernel_rfl
theorem ofc_36 (c : AV) (cs : List AV) : ofCells T0 36 (c :: cs) = some c := ofCells_leaf' (by kernel_rfl) c cs
theorem sz_36 : T0.sz 36 = some 1 := by kernel_rfl
theorem ofc_38 (c : AV) (cs : List AV) : ofCells T0 38 (c :: cs) = some c := ofCells_leaf' (by kernel_rfl) c cs
theorem sz_38 : T0.sz 38 = some 1 := by kernel_rfl
theorem ofc_39 (c : AV) (cs : List AV) : ofCells T0 39 (c :: cs) = some c := ofCells_leaf' (by kernel_rfl) c cs
theorem sz_39 : T0.sz 39 = some 1 := by kernel_rfl
theorem ofc_40 (c : AV) (cs : List AV) : ofCells T0 40 (c :: cs) = some c := ofCells_leaf' (by kernel_rfl) c cs
theorem sz_40 : T0.sz 40 = some 1 := by kernel_rfl
theorem ofc_42 (c : AV) (cs : List AV) : ofCells T0 42 (c :: cs) = some c := ofCells_leaf' (by kernel_rfl) c cs
theorem sz_42 : T0.sz 42 = some 1 := by kernel_rfl
theorem ofc_43 (c : AV) (cs : List AV) : ofCells T0 43 (c :: cs) = some c := ofCells_leaf' (by kernel_rfl) c cs
theorem sz_43 : T0.sz 43 = some 1 := by kernel_rfl
theorem ofc_44 (cs : List AV) : ofCells T0 44 cs = (takeN 17 cs).map .agg := ofCells_agg' (by kernel_rfl) (by kernel_rfl) cs
theorem sz_44 : T0.sz 44 = some 17 := by kernel_rfl
theorem ofc_45 (cs : List AV) : ofCells T0 45 cs = (takeN 17 cs).map .agg := ofCells_agg' (by kernel_rfl) (by kernel_rfl) cs
theorem sz_45 : T0.sz 45 = some 17 := by kernel_rfl
theorem ofc_46 (c : AV) (cs : List AV) : ofCells T0 46 (c :: cs) = some c := ofCells_leaf' (by kernel_rfl) c cs
theorem sz_46 : T0.sz 46 = some 1 := by kernel_rfl
theorem ofc_47 (c : AV) (cs : List AV) : ofCells T0 47 (c :: cs) = some c := ofCells_leaf' (by kernel_rfl) c cs
theorem sz_47 : T0.sz 47 = some 1 := by kernel_rfl
theorem ofc_48 (c : AV) (cs : List AV) : ofCells T0 48 (c :: cs) = some c := ofCells_leaf' (by kernel_rfl) c cs
theorem sz_48 : T0.sz 48 = some 1 := by kernel_rfl
theorem ofc_49 (cs : List AV) : ofCells T0 49 cs = (takeN 4 cs).map .agg := ofCells_agg' (by kernel_rfl) (by kernel_rfl) cs
theorem sz_49 : T0.sz 49 = some 4 := by kernel_rfl
theorem ofc_50 (cs : List AV) : ofCells T0 50 cs = (takeN 4 cs).map .agg := ofCells_agg' (by kernel_rfl) (by kernel_rfl) cs
theorem sz_50 : T0.sz 50 = some 4 := by kernel_rfl
theorem ofc_51 (cs : List AV) : ofCells T0 51 cs = (takeN 6 cs).map .agg := ofCells_agg' (by kernel_rfl) (by kernel_rfl) cs
theorem sz_51 : T0.sz 51 = some 6 := by kernel_rfl
theorem ofc_52 (cs : List AV) : ofCells T0 52 cs = (takeN 6 cs).map .agg := ofCells_agg' (by kernel_rfl) (by kernel_rfl) cs
theorem sz_52 : T0.sz 52 = some 6 := by kernel_rfl
theorem ofc_53 (c : AV) (cs : List AV) : ofCells T0 53 (c :: cs) = some c := ofCells_leaf' (by kernel_rfl) c cs
theorem sz_53 : T0.sz 53 = some 1 := by kernel_rfl
theorem ofc_54 (c : AV) (cs : List AV) : ofCells T0 54 (c :: cs) = some c := ofCells_leaf' (by kernel_rfl) c cs
theorem sz_54 : T0.sz 54 = some 1 := by kernel_rfl
theorem ofc_55 (c : AV) (cs : List AV) : ofCells T0 55 (c :: cs) = some c := ofCells_leaf' (by kernel_rfl) c cs
theorem sz_55 : T0.sz 55 = some 1 := by kernel_rfl
theorem ofc_57 (c : AV) (cs : List AV) : ofCells T0 57 (c :: cs) = some c := ofCells_leaf' (by kernel_rfl) c cs
theorem sz_57 : T0.sz 57 = some 1 := by kernel_rfl
theorem ofc_58 (c : AV) (cs : List AV) : ofCells T0 58 (c :: cs) = some c := ofCells_leaf' (by kernel_rfl) c cs
theorem sz_58 : T0.sz 58 = some 1 := by kernel_rfl
theorem ofc_59 (cs : List AV) : ofCells T0 59 cs = (takeN 6 cs).map .agg := ofCells_agg' (by kernel_rfl) (by kernel_rfl) cs
theorem sz_59 : T0.sz 59 = some 6 := by kernel_rfl
theorem ofc_60 (cs : List AV) : ofCells T0 60 cs = (takeN 6 cs).map .agg := ofCells_agg' (by kernel_rfl) (by kernel_rfl) cs
theorem sz_60 : T0.sz 60 = some 6 := by kernel_rfl
theorem ofc_61 (c : AV) (cs : List AV) : ofCells T0 61 (c :: cs) = some c := ofCells_leaf' (by kernel_rfl) c cs
theorem sz_61 : T0.sz 61 = some 1 := by kernel_rfl
theorem ofc_62 (c : AV) (cs : List AV) : ofCells T0 62 (c :: cs) = some c := ofCells_leaf' (by kernel_rfl) c cs
theorem sz_62 : T0.sz 62 = some 1 := by kernel_rfl
theorem ofc_63 (c : AV) (cs : List AV) : ofCells T0 63 (c :: cs) = some c := ofCells_leaf' (by kernel_rfl) c cs
theorem sz_63 : T0.sz 63 = some 1 := by kernel_rfl
theorem len_63 (h : Tr AB) (l : List AV) : evBuiltin T0 h .len [63] [.lst l] = some (.i .i64 l.length) := g_len_l (e := 5) (by kernel_rfl) l
theorem lenn_63 (h : Tr AB) : evBuiltin T0 h .len [63] [.nils] = some (.i .i64 0) := g_len_n (e := 5) (by kernel_rfl)
theorem leno_63 (h : Tr AB) (id off n : Nat) (cap : Option Nat) : evBuiltin T0 h .len [63] [.sl id off n cap] = some (.i .i64 n) := g_len_o (e := 5) (by kernel_rfl) id off n cap
theorem ia_63 {α : Type} [Inhabited α] {enc : α → AV} {l : List α} {k : IntKind} {n : Int} (h0 : 0 ≤ n) (hj : n < l.length) (hc : ∀ x, (enc x).cells.length = 1) : evIndexAddr T0 63 (.lst (l.map enc)) (.i k n) = some (.iptr (enc (l.getD n.toNat default)).cells) := g_ia_map (e := 5) (by kernel_rfl) (by kernel_rfl) h0 hj hc
theorem ofc_64 (cs : List AV) : ofCells T0 64 cs = (takeN 2 cs).map .agg := ofCells_agg' (by kernel_rfl) (by kernel_rfl) cs
theorem sz_64 : T0.sz 64 = some 2 := by kernel_rfl
theorem ofc_65 (cs : List AV) : ofCells T0 65 cs = (takeN 2 cs).map .agg := ofCells_agg' (by kernel_rfl) (by kernel_rfl) cs
theorem sz_65 : T0.sz 65 = some 2 := by kernel_rfl
theorem ofc_66 (c : AV) (cs : List AV) : ofCells T0 66 (c :: cs) = some c := ofCells_leaf' (by kernel_rfl) c cs
theorem sz_66 : T0.sz 66 = some 1 := by kernel_rfl
theorem ofc_67 (c : AV) (cs : List AV) : ofCells T0 67 (c :: cs) = some c := ofCells_leaf' (by kernel_rfl) c cs
theorem sz_67 : T0.sz 67 = some 1 := by kernel_rfl
theorem ofc_68 (c : AV) (cs : List AV) : ofCells T0 68 (c :: cs) = some c := ofCells_leaf' (by kernel_rfl) c cs
theorem sz_68 : T0.sz 68 = some 1 := by kernel_rfl
theorem ofc_70 (c : AV) (cs : List AV) : ofCells T0 70 (c :: cs) = some c := ofCells_leaf' (by kernel_rfl) c cs
theorem sz_70 : T0.sz 70 = some 1 := by kernel_rfl
theorem ofc_71 (c : AV) (cs : List AV) : ofCells T0 71 (c :: cs) = some c := ofCells_leaf' (by kernel_rfl) c cs
theorem sz_71 : T0.sz 71 = some 1 := by kernel_rfl
theorem ofc_72 (c : AV) (cs : List AV) : ofCells T0 72 (c :: cs) = some c := ofCells_leaf' (by kernel_rfl) c cs
theorem sz_72 : T0.sz 72 = some 1 := by kernel_rfl
theorem ofc_73 (c : AV) (cs : List AV) : ofCells T0 73 (c :: cs) = some c := ofCells_leaf' (by kernel_rfl) c cs
theorem sz_73 : T0.sz 73 = some 1 := by kernel_rfl
theorem ofc_74 (c : AV) (cs : List AV) : ofCells T0 74 (c :: cs) = some c := ofCells_leaf' (by kernel_rfl) c cs
theorem sz_74 : T0.sz 74 = some 1 := by kernel_rfl
theorem ofc_75 (c : AV) (cs : List AV) : ofCells T0 75 (c :: cs) = some c := ofCells_leaf' (by kernel_rfl) c cs
theorem sz_75 : T0.sz 75 = some 1 := by kernel_rfl
theorem ofc_76 (c : AV) (cs : List AV) : ofCells T0 76 (c :: cs) = some c := ofCells_leaf' (by kernel_rfl) c cs
theorem sz_76 : T0.sz 76 = some 1 := by kernel_rfl
theorem ofc_77 (c : AV) (cs : List AV) : ofCells T0 77 (c :: cs) = some c := ofCells_leaf' (by kernel_rfl) c cs
theorem sz_77 : T0.sz 77 = some 1 := by kernel_rfl
theorem ofc_78 (c : AV) (cs : List AV) : ofCells T0 78 (c :: cs) = some c := ofCells_leaf' (by kernel_rfl) c cs
theorem sz_78 : T0.sz 78 = some 1 := by kernel_rfl
theorem ofc_79 (c : AV) (cs : List AV) : ofCells T0 79 (c :: cs) = some c := ofCells_leaf' (by kernel_rfl) c cs
theorem sz_79 : T0.sz 79 = some 1 := by kernel_rfl
theorem ofc_81 (c : AV) (cs : List AV) : ofCells T0 81 (c :: cs) = some c := ofCells_leaf' (by kernel_rfl) c cs
theorem sz_81 : T0.sz 81 = some 1 := by kernel_rfl
theorem ofc_83 (c : AV) (cs : List AV) : ofCells T0 83 (c :: cs) = some c := ofCells_leaf' (by kernel_rfl) c cs
theorem sz_83 : T0.sz 83 = some 1 := by kernel_rfl
theorem ofc_84 (c : AV) (cs : List AV) : ofCells T0 84 (c :: cs) = some c := ofCells_leaf' (by kernel_rfl) c cs
theorem sz_84 : T0.sz 84 = some 1 := by kernel_rfl
theorem ofc_85 (c : AV) (cs : List AV) : ofCells T0 85 (c :: cs) = some c := ofCells_leaf' (by kernel_rfl) c cs
theorem sz_85 : T0.sz 85 = some 1 := by kernel_rfl
theorem ofc_86 (c : AV) (cs : List AV) : ofCells T0 86 (c :: cs) = some c := ofCells_leaf' (by kernel_rfl) c cs
theorem sz_86 : T0.sz 86 = some 1 := by kernel_rfl
theorem ofc_87 (c : AV) (cs : List AV) : ofCells T0 87 (c :: cs) = some c := ofCells_leaf' (by kernel_rfl) c cs
theorem sz_87 : T0.sz 87 = some 1 := by kernel_rfl
theorem ofc_88 (c : AV) (cs : List AV) : ofCells T0 88 (c :: cs) = some c := ofCells_leaf' (by kernel_rfl) c cs
theorem sz_88 : T0.sz 88 = some 1 := by kernel_rfl
theorem ofc_89 (c : AV) (cs : List AV) : ofCells T0 89 (c :: cs) = some c := ofCells_leaf' (by kernel_rfl) c cs
theorem sz_89 : T0.sz 89 = some 1 := by kernel_rfl
theorem ofc_90 (c : AV) (cs : List AV) : ofCells T0 90 (c :: cs) = some c := ofCells_leaf' (by kernel_rfl) c cs
theorem sz_90 : T0.sz 90 = some 1 := by kernel_rfl
theorem ofc_91 (c : AV) (cs : List AV) : ofCells T0 91 (c :: cs) = some c := ofCells_leaf' (by kernel_rfl) c cs
theorem sz_91 : T0.sz 91 = some 1 := by kernel_rfl
theorem ofc_92 (c : AV) (cs : List AV) : ofCells T0 92 (c :: cs) = some c := ofCells_leaf' (by kernel_rfl) c cs
theorem sz_92 : T0.sz 92 = some 1 := by kernel_rfl
theorem ofc_93 (c : AV) (cs : List AV) : ofCells T0 93 (c :: cs) = some c := ofCells_leaf' (by kernel_rfl) c cs
theorem sz_93 : T0.sz 93 = some 1 := by kernel_rfl
theorem ofc_94 (c : AV) (cs : List AV) : ofCells T0 94 (c :: cs) = some c := ofCells_leaf' (by kernel_rfl) c cs
theorem sz_94 : T0.sz 94 = some 1 := by kernel_rfl
theorem ofc_95 (c : AV) (cs : List AV) : ofCells T0 95 (c :: cs) = some c := ofCells_leaf' (by kernel_rfl) c cs
theorem sz_95 : T0.sz 95 = some 1 := by kernel_rfl
theorem ofc_96 (c : AV) (cs : List AV) : ofCells T0 96 (c :: cs) = some c := ofCells_leaf' (by kernel_rfl) c cs
theorem sz_96 : T0.sz 96 = some 1 := by kernel_rfl
theorem ofc_97 (c : AV) (cs : List AV) : ofCells T0 97 (c :: cs) = some c := ofCells_leaf' (by kernel_rfl) c cs
theorem sz_97 : T0.sz 97 = some 1 := by kernel_rfl
theorem ofc_98 (c : AV) (cs : List AV) : ofCells T0 98 (c :: cs) = some c := ofCells_leaf' (by kernel_rfl) c cs
theorem sz_98 : T0.sz 98 = some 1 := by kernel_rfl
theorem ofc_99 (c : AV) (cs : List AV) : ofCells T0 99 (c :: cs) = some c := ofCells_leaf' (by kernel_rfl) c cs
theorem sz_99 : T0.sz 99 = some 1 := by kernel_rfl
theorem ofc_100 (c : AV) (cs : List AV) : ofCells T0 100 (c :: cs) = some c := ofCells_leaf' (by kernel_rfl) c cs
theorem sz_100 : T0.sz 100 = some 1 := by kernel_rfl
theorem ofc_101 (c : AV) (cs : List AV) : ofCells T0 101 (c :: cs) = some c := ofCells_leaf' (by kernel_rfl) c cs
theorem sz_101 : T0.sz 101 = some 1 := by kernel_rfl
theorem ofc_102 (c : AV) (cs : List AV) : ofCells T0 102 (c :: cs) = some c := ofCells_leaf' (by kernel_rfl) c cs
theorem sz_102 : T0.sz 102 = some 1 := by kernel_rfl
theorem ofc_103 (c : AV) (cs : List AV) : ofCells T0 103 (c :: cs) = some c := ofCells_leaf' (by kernel_rfl) c cs
theorem sz_103 : T0.sz 103 = some 1 := by kernel_rfl
theorem ofc_105 (c : AV) (cs : List AV) : ofCells T0 105 (c :: cs) = some c := ofCells_leaf' (by kernel_rfl) c cs
theorem sz_105 : T0.sz 105 = some 1 := by kernel_rfl
theorem ofc_107 (c : AV) (cs : List AV) : ofCells T0 107 (c :: cs) = some c := ofCells_leaf' (by kernel_rfl) c cs
theorem sz_107 : T0.sz 107 = some 1 := by kernel_rfl
theorem ofc_108 (c : AV) (cs : List AV) : ofCells T0 108 (c :: cs) = some c := ofCells_leaf' (by kernel_rfl) c cs
theorem sz_108 : T0.sz 108 = some 1 := by kernel_rfl
theorem ofc_109 (c : AV) (cs : List AV) : ofCells T0 109 (c :: cs) = some c := ofCells_leaf' (by kernel_rfl) c cs
theorem sz_109 : T0.sz 109 = some 1 := by kernel_rfl
theorem ofc_110 (c : AV) (cs : List AV) : ofCells T0 110 (c :: cs) = some c := ofCells_leaf' (by kernel_rfl) c cs
theorem sz_110 : T0.sz 110 = some 1 := by kernel_rfl
theorem ofc_111 (c : AV) (cs : List AV) : ofCells T0 111 (c :: cs) = some c := ofCells_leaf' (by kernel_rfl) c cs
theorem sz_111 : T0.sz 111 = some 1 := by kernel_rfl
theorem ofc_112 (c : AV) (cs : List AV) : ofCells T0 112 (c :: cs) = some c := ofCells_leaf' (by kernel_rfl) c cs
theorem sz_112 : T0.sz 112 = some 1 := by kernel_rfl
theorem ofc_113 (c : AV) (cs : List AV) : ofCells T0 113 (c :: cs) = some c := ofCells_leaf' (by kernel_rfl) c cs
theorem sz_113 : T0.sz 113 = some 1 := by kernel_rfl
theorem ofc_114 (c : AV) (cs : List AV) : ofCells T0 114 (c :: cs) = some c := ofCells_leaf' (by kernel_rfl) c cs
theorem sz_114 : T0.sz 114 = some 1 := by kernel_rfl
theorem ofc_115 (c : AV) (cs : List AV) : ofCells T0 115 (c :: cs) = some c := ofCells_leaf' (by kernel_rfl) c cs
theorem sz_115 : T0.sz 115 = some 1 := by kernel_rfl
theorem ofc_116 (cs : List AV) : ofCells T0 116 cs = (takeN 24 cs).map .agg := ofCells_agg' (by kernel_rfl) (by kernel_rfl) cs
theorem sz_116 : T0.sz 116 = some 24 := by kernel_rfl
theorem ofc_117 (c : AV) (cs : List AV) : ofCells T0 117 (c :: cs) = some c := ofCells_leaf' (by kernel_rfl) c cs
theorem sz_117 : T0.sz 117 = some 1 := by kernel_rfl
theorem ofc_118 (c : AV) (cs : List AV) : ofCells T0 118 (c :: cs) = some c := ofCells_leaf' (by kernel_rfl) c cs
theorem sz_118 : T0.sz 118 = some 1 := by kernel_rfl
theorem ofc_119 (c : AV) (cs : List AV) : ofCells T0 119 (c :: cs) = some c := ofCells_leaf' (by kernel_rfl) c cs
theorem sz_119 : T0.sz 119 = some 1 := by kernel_rfl
theorem ofc_121 (c : AV) (cs : List AV) : ofCells T0 121 (c :: cs) = some c := ofCells_leaf' (by kernel_rfl) c cs
theorem sz_121 : T0.sz 121 = some 1 := by kernel_rfl
theorem ofc_122 (c : AV) (cs : List AV) : ofCells T0 122 (c :: cs) = some c := ofCells_leaf' (by kernel_rfl) c cs
theorem sz_122 : T0.sz 122 = some 1 := by kernel_rfl
theorem ofc_123 (c : AV) (cs : List AV) : ofCells T0 123 (c :: cs) = some c := ofCells_leaf' (by kernel_rfl) c cs
theorem sz_123 : T0.sz 123 = some 1 := by kernel_rfl
theorem ofc_124 (c : AV) (cs : List AV) : ofCells T0 124 (c :: cs) = some c := ofCells_leaf' (by kernel_rfl) c cs
theorem sz_124 : T0.sz 124 = some 1 := by kernel_rfl
theorem ofc_125 (c : AV) (cs : List AV) : ofCells T0 125 (c :: cs) = some c := ofCells_leaf' (by kernel_rfl) c cs
theorem sz_125 : T0.sz 125 = some 1 := by kernel_rfl
theorem ofc_126 (c : AV) (cs : List AV) : ofCells T0 126 (c :: cs) = some c := ofCells_leaf' (by kernel_rfl) c cs
theorem sz_126 : T0.sz 126 = some 1 := by kernel_rfl
theorem ofc_128 (c : AV) (cs : List AV) : ofCells T0 128 (c :: cs) = some c := ofCells_leaf' (by kernel_rfl) c cs
theorem sz_128 : T0.sz 128 = some 1 := by kernel_rfl
theorem ofc_129 (c : AV) (cs : List AV) : ofCells T0 129 (c :: cs) = some c := ofCells_leaf' (by kernel_rfl) c cs
theorem sz_129 : T0.sz 129 = some 1 := by kernel_rfl
theorem ofc_130 (c : AV) (cs : List AV) : ofCells T0 130 (c :: cs) = some c := ofCells_leaf' (by kernel_rfl) c cs
theorem sz_130 : T0.sz 130 = some 1 := by kernel_rfl
theorem ofc_131 (c : AV) (cs : List AV) : ofCells T0 131 (c :: cs) = some c := ofCells_leaf' (by kernel_rfl) c cs
theorem sz_131 : T0.sz 131 = some 1 := by kernel_rfl
theorem ofc_132 (c : AV) (cs : List AV) : ofCells T0 132 (c :: cs) = some c := ofCells_leaf' (by kernel_rfl) c cs
theorem sz_132 : T0.sz 132 = some 1 := by kernel_rfl
theorem ofc_133 (c : AV) (cs : List AV) : ofCells T0 133 (c :: cs) = some c := ofCells_leaf' (by kernel_rfl) c cs
theorem sz_133 : T0.sz 133 = some 1 := by kernel_rfl
theorem ofc_134 (cs : List AV) : ofCells T0 134 cs = (takeN 20 cs).map .agg := ofCells_agg' (by kernel_rfl) (by kernel_rfl) cs
theorem sz_134 : T0.sz 134 = some 20 := by kernel_rfl
theorem ofc_135 (cs : List AV) : ofCells T0 135 cs = (takeN 65 cs).map .agg := ofCells_agg' (by kernel_rfl) (by kernel_rfl) cs
theorem sz_135 : T0.sz 135 = some 65 := by kernel_rfl
theorem ofc_136 (c : AV) (cs : List AV) : ofCells T0 136 (c :: cs) = some c := ofCells_leaf' (by kernel_rfl) c cs
theorem sz_136 : T0.sz 136 = some 1 := by kernel_rfl
theorem ofc_137 (c : AV) (cs : List AV) : ofCells T0 137 (c :: cs) = some c := ofCells_leaf' (by kernel_rfl) c cs
theorem sz_137 : T0.sz 137 = some 1 := by kernel_rfl
theorem ofc_138 (c : AV) (cs : List AV) : ofCells T0 138 (c :: cs) = some c := ofCells_leaf' (by kernel_rfl) c cs
theorem sz_138 : T0.sz 138 = some 1 := by kernel_rfl
theorem ofc_139 (c : AV) (cs : List AV) : ofCells T0 139 (c :: cs) = some c := ofCells_leaf' (by kernel_rfl) c cs
theorem sz_139 : T0.sz 139 = some 1 := by kernel_rfl
theorem ofc_140 (c : AV) (cs : List AV) : ofCells T0 140 (c :: cs) = some c := ofCells_leaf' (by kernel_rfl) c cs
theorem sz_140 : T0.sz 140 = some 1 := by kernel_rfl
theorem ofc_142 (c : AV) (cs : List AV) : ofCells T0 142 (c :: cs) = some c := ofCells_leaf' (by kernel_rfl) c cs
theorem sz_142 : T0.sz 142 = some 1 := by kernel_rfl
theorem ofc_143 (cs : List AV) : ofCells T0 143 cs = (takeN 3 cs).map .agg := ofCells_agg' (by kernel_rfl) (by kernel_rfl) cs
theorem sz_143 : T0.sz 143 = some 3 := by kernel_rfl
theorem ofc_144 (cs : List AV) : ofCells T0 144 cs = (takeN 3 cs).map .agg := ofCells_agg' (by kernel_rfl) (by kernel_rfl) cs
theorem sz_144 : T0.sz 144 = some 3 := by kernel_rfl
theorem ofc_145 (c : AV) (cs : List AV) : ofCells T0 145 (c :: cs) = some c := ofCells_leaf' (by kernel_rfl) c cs
theorem sz_145 : T0.sz 145 = some 1 := by kernel_rfl
theorem ofc_146 (c : AV) (cs : List AV) : ofCells T0 146 (c :: cs) = some c := ofCells_leaf' (by kernel_rfl) c cs
theorem sz_146 : T0.sz 146 = some 1 := by kernel_rfl
theorem ofc_147 (c : AV) (cs : List AV) : ofCells T0 147 (c :: cs) = some c := ofCells_leaf' (by kernel_rfl) c cs
theorem sz_147 : T0.sz 147 = some 1 := by kernel_rfl
theorem ofc_148 (c : AV) (cs : List AV) : ofCells T0 148 (c :: cs) = some c := ofCells_leaf' (by kernel_rfl) c cs
theorem sz_148 : T0.sz 148 = some 1 := by kernel_rfl
theorem ofc_149 (cs : List AV) : ofCells T0 149 cs = (takeN 1 cs).map .agg := ofCells_agg' (by kernel_rfl) (by kernel_rfl) cs
theorem sz_149 : T0.sz 149 = some 1 := by kernel_rfl
theorem ofc_150 (cs : List AV) : ofCells T0 150 cs = (takeN 1 cs).map .agg := ofCells_agg' (by kernel_rfl) (by kernel_rfl) cs
theorem sz_150 : T0.sz 150 = some 1 := by kernel_rfl
theorem ofc_151 (cs : List AV) : ofCells T0 151 cs = (takeN 32 cs).map .agg := ofCells_agg' (by kernel_rfl) (by kernel_rfl) cs
theorem sz_151 : T0.sz 151 = some 32 := by kernel_rfl
theorem ofc_152 (cs : List AV) : ofCells T0 152 cs = (takeN 64 cs).map .agg := ofCells_agg' (by kernel_rfl) (by kernel_rfl) cs
theorem sz_152 : T0.sz 152 = some 64 := by kernel_rfl
theorem ofc_153 (cs : List AV) : ofCells T0 153 cs = (takeN 4 cs).map .agg := ofCells_agg' (by kernel_rfl) (by kernel_rfl) cs
theorem sz_153 : T0.sz 153 = some 4 := by kernel_rfl
theorem ofc_154 (cs : List AV) : ofCells T0 154 cs = (takeN 4 cs).map .agg := ofCells_agg' (by kernel_rfl) (by kernel_rfl) cs
theorem sz_154 : T0.sz 154 = some 4 := by kernel_rfl
theorem ofc_155 (cs : List AV) : ofCells T0 155 cs = (takeN 0 cs).map .agg := ofCells_agg' (by kernel_rfl) (by kernel_rfl) cs
theorem sz_155 : T0.sz 155 = some 0 := by kernel_rfl
theorem ofc_156 (cs : List AV) : ofCells T0 156 cs = (takeN 0 cs).map .agg := ofCells_agg' (by kernel_rfl) (by kernel_rfl) cs
theorem sz_156 : T0.sz 156 = some 0 := by kernel_rfl
theorem ofc_157 (cs : List AV) : ofCells T0 157 cs = (takeN 0 cs).map .agg := ofCells_agg' (by kernel_rfl) (by kernel_rfl) cs
theorem sz_157 : T0.sz 157 = some 0 := by kernel_rfl
theorem ofc_158 (c : AV) (cs : List AV) : ofCells T0 158 (c :: cs) = some c := ofCells_leaf' (by kernel_rfl) c cs
theorem sz_158 : T0.sz 158 = some 1 := by kernel_rfl
theorem ofc_159 (c : AV) (cs : List AV) : ofCells T0 159 (c :: cs) = some c := ofCells_leaf' (by kernel_rfl) c cs
theorem sz_159 : T0.sz 159 = some 1 := by kernel_rfl
theorem ofc_160 (c : AV) (cs : List AV) : ofCells T0 160 (c :: cs) = some c := ofCells_leaf' (by kernel_rfl) c cs
theorem sz_160 : T0.sz 160 = some 1 := by kernel_rfl
theorem ofc_161 (c : AV) (cs : List AV) : ofCells T0 161 (c :: cs) = some c := ofCells_leaf' (by kernel_rfl) c cs
theorem sz_161 : T0.sz 161 = some 1 := by kernel_rfl
theorem ofc_162 (c : AV) (cs : List AV) : ofCells T0 162 (c :: cs) = some c := ofCells_leaf' (by kernel_rfl) c cs
theorem sz_162 : T0.sz 162 = some 1 := by kernel_rfl
theorem ofc_163 (c : AV) (cs : List AV) : ofCells T0 163 (c :: cs) = some c := ofCells_leaf' (by kernel_rfl) c cs
theorem sz_163 : T0.sz 163 = some 1 := by kernel_rfl
theorem ofc_164 (cs : List AV) : ofCells T0 164 cs = (takeN 11 cs).map .agg := ofCells_agg' (by kernel_rfl) (by kernel_rfl) cs
theorem sz_164 : T0.sz 164 = some 11 := by kernel_rfl
theorem ofc_165 (cs : List AV) : ofCells T0 165 cs = (takeN 11 cs).map .agg := ofCells_agg' (by kernel_rfl) (by kernel_rfl) cs
theorem sz_165 : T0.sz 165 = some 11 := by kernel_rfl
end Go.Proofs.YtmfhmlhaofpeiaaGreatDoor.Ev
