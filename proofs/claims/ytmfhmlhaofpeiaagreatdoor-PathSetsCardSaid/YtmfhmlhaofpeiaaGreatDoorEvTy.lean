/- What single operations come to at this seat's types. Printed by evty.py, a program of this session's. -/
import Derived.Test.YtmfhmlhaofpeiaaGreatDoorEvT
namespace Go.Proofs.YtmfhmlhaofpeiaaGreatDoor.Ev
open Go Go.RowKit
theorem nU (c : AV) (cs : List AV) : aK T0 3 (c :: cs) = some c := dD (by kernel_rfl) c cs
theorem yU (a b c : Bool) : ah T0 .eql 4 c (.b a) (.b b) = some (.b (a == b)) := bin_beq (by kernel_rfl) a b c
theorem yS (a b c : Bool) : ah T0 .neq 4 c (.b a) (.b b) = some (.b (!(a == b))) := bin_bne (by kernel_rfl) a b c
theorem lM (c : AV) (cs : List AV) : aK T0 9 (c :: cs) = some c := dD (by kernel_rfl) c cs
theorem dz (h : Tr AB) (s : List UInt8) : ak T0 h .len [9] [.s s] = some (.i .i64 s.length) := g_len_s (by kernel_rfl) s
theorem idx_9 {k : IntKind} {s : List UInt8} {n : Int} (h0 : 0 <= n) (hj : n < s.length) : cd T0 9 (.s s) (.i k n) = some (.i .u8 (s.getD n.toNat 0).toNat) := g_idx_s' (by kernel_rfl) h0 hj
theorem fi (h : Tr AB) (l : List AV) : ak T0 h .len [22] [.lst l] = some (.i .i64 l.length) := pp (e := 50) (by kernel_rfl) l
theorem ia_22 {α : Type} [Inhabited α] {enc : α -> AV} {l : List α} {k : IntKind} {n : Int} (h0 : 0 <= n) (hj : n < l.length) (hc : ∀ x, (enc x).cells.length = 4) : ai T0 22 (.lst (l.map enc)) (.i k n) = some (.iptr (enc (l.getD n.toNat default)).cells) := mg (e := 50) (by kernel_rfl) (by kernel_rfl) h0 hj hc
theorem ofc_32 (c : AV) (cs : List AV) : aK T0 32 (c :: cs) = some c := dD (by kernel_rfl) c cs
theorem sz_32 : T0.sz 32 = some 1 := by kernel_rfl
theorem ii (h : Tr AB) (l : List AV) : ak T0 h .len [32] [.lst l] = some (.i .i64 l.length) := pp (e := 35) (by kernel_rfl) l
theorem rQ {α : Type} [Inhabited α] {enc : α -> AV} {l : List α} {k : IntKind} {n : Int} (h0 : 0 <= n) (hj : n < l.length) (hc : ∀ x, (enc x).cells.length = 5) : ai T0 32 (.lst (l.map enc)) (.i k n) = some (.iptr (enc (l.getD n.toNat default)).cells) := mg (e := 35) (by kernel_rfl) (by kernel_rfl) h0 hj hc
theorem ofc_33 (c : AV) (cs : List AV) : aK T0 33 (c :: cs) = some c := dD (by kernel_rfl) c cs
theorem sz_33 : T0.sz 33 = some 1 := by kernel_rfl
theorem jT (h : Tr AB) (l : List AV) : ak T0 h .len [33] [.lst l] = some (.i .i64 l.length) := pp (e := 52) (by kernel_rfl) l
theorem nW {α : Type} [Inhabited α] {enc : α -> AV} {l : List α} {k : IntKind} {n : Int} (h0 : 0 <= n) (hj : n < l.length) (hc : ∀ x, (enc x).cells.length = 6) : ai T0 33 (.lst (l.map enc)) (.i k n) = some (.iptr (enc (l.getD n.toNat default)).cells) := mg (e := 52) (by kernel_rfl) (by kernel_rfl) h0 hj hc
theorem kZ (cs : List AV) : aK T0 35 cs = (cK 5 cs).map .agg := jd (by kernel_rfl) (by kernel_rfl) cs
theorem gw : T0.sz 35 = some 5 := by kernel_rfl
theorem ofc_50 (cs : List AV) : aK T0 50 cs = (cK 4 cs).map .agg := jd (by kernel_rfl) (by kernel_rfl) cs
theorem sz_50 : T0.sz 50 = some 4 := by kernel_rfl
theorem ofc_52 (cs : List AV) : aK T0 52 cs = (cK 6 cs).map .agg := jd (by kernel_rfl) (by kernel_rfl) cs
theorem tT : T0.sz 52 = some 6 := by kernel_rfl
theorem ofc_62 (c : AV) (cs : List AV) : aK T0 62 (c :: cs) = some c := dD (by kernel_rfl) c cs
theorem sz_62 : T0.sz 62 = some 1 := by kernel_rfl
theorem ofc_63 (c : AV) (cs : List AV) : aK T0 63 (c :: cs) = some c := dD (by kernel_rfl) c cs
theorem sz_63 : T0.sz 63 = some 1 := by kernel_rfl
theorem len_63 (h : Tr AB) (l : List AV) : ak T0 h .len [63] [.lst l] = some (.i .i64 l.length) := pp (e := 5) (by kernel_rfl) l
theorem ia_63 {α : Type} [Inhabited α] {enc : α -> AV} {l : List α} {k : IntKind} {n : Int} (h0 : 0 <= n) (hj : n < l.length) (hc : ∀ x, (enc x).cells.length = 1) : ai T0 63 (.lst (l.map enc)) (.i k n) = some (.iptr (enc (l.getD n.toNat default)).cells) := mg (e := 5) (by kernel_rfl) (by kernel_rfl) h0 hj hc
end Go.Proofs.YtmfhmlhaofpeiaaGreatDoor.Ev
