import Derived.Test.YtobmcpoejhhemaaGreatKEngC
import Derived.Test.YtobmcpoejhhemaaGreatProg
import Derived.KernelRfl
import Derived.Shelf.Abstract
namespace Go.Proofs.YtobmcpoejhhemaaGreat
open Go.E
theorem oc_int (k : IntKind) (n : Int) : (Value.int k n).oneCell' = true := rfl
theorem get_one (v : Value) : (#[v] : Array Value)[0]? = some v := rfl
theorem set_one (u v : Value) : (#[u] : Array Value).setIfInBounds 0 v = #[v] := rfl
theorem oc_bool (b : Bool) : (Value.bool b).oneCell' = true := rfl

structure B16 where
  x0 : Int
  x1 : Int
  x2 : Int
  x3 : Int
  x4 : Int
  x5 : Int
  x6 : Int
  x7 : Int
  x8 : Int
  x9 : Int
  x10 : Int
  x11 : Int
  x12 : Int
  x13 : Int
  x14 : Int
  x15 : Int
  deriving DecidableEq, Inhabited
def B16.c (b : B16) : Array Value := #[.int .u8 b.x0, .int .u8 b.x1, .int .u8 b.x2, .int .u8 b.x3, .int .u8 b.x4, .int .u8 b.x5, .int .u8 b.x6, .int .u8 b.x7, .int .u8 b.x8, .int .u8 b.x9, .int .u8 b.x10, .int .u8 b.x11, .int .u8 b.x12, .int .u8 b.x13, .int .u8 b.x14, .int .u8 b.x15]

structure Adr where
  six : Bool
  b : B16
  deriving DecidableEq, Inhabited
def Adr.c (s : Adr) : Array Value := #[.bool s.six, .int .u8 s.b.x0, .int .u8 s.b.x1, .int .u8 s.b.x2, .int .u8 s.b.x3, .int .u8 s.b.x4, .int .u8 s.b.x5, .int .u8 s.b.x6, .int .u8 s.b.x7, .int .u8 s.b.x8, .int .u8 s.b.x9, .int .u8 s.b.x10, .int .u8 s.b.x11, .int .u8 s.b.x12, .int .u8 s.b.x13, .int .u8 s.b.x14, .int .u8 s.b.x15]

structure Key where
  src : Adr
  dst : Adr
  proto : Int
  srcPort : Int
  dstPort : Int
  deriving DecidableEq, Inhabited
def Key.c (s : Key) : Array Value := #[.bool s.src.six, .int .u8 s.src.b.x0, .int .u8 s.src.b.x1, .int .u8 s.src.b.x2, .int .u8 s.src.b.x3, .int .u8 s.src.b.x4, .int .u8 s.src.b.x5, .int .u8 s.src.b.x6, .int .u8 s.src.b.x7, .int .u8 s.src.b.x8, .int .u8 s.src.b.x9, .int .u8 s.src.b.x10, .int .u8 s.src.b.x11, .int .u8 s.src.b.x12, .int .u8 s.src.b.x13, .int .u8 s.src.b.x14, .int .u8 s.src.b.x15, .bool s.dst.six, .int .u8 s.dst.b.x0, .int .u8 s.dst.b.x1, .int .u8 s.dst.b.x2, .int .u8 s.dst.b.x3, .int .u8 s.dst.b.x4, .int .u8 s.dst.b.x5, .int .u8 s.dst.b.x6, .int .u8 s.dst.b.x7, .int .u8 s.dst.b.x8, .int .u8 s.dst.b.x9, .int .u8 s.dst.b.x10, .int .u8 s.dst.b.x11, .int .u8 s.dst.b.x12, .int .u8 s.dst.b.x13, .int .u8 s.dst.b.x14, .int .u8 s.dst.b.x15, .int .u8 s.proto, .int .u16 s.srcPort, .int .u16 s.dstPort]

structure Tot where
  packets : Int
  bytes : Int
  deriving DecidableEq, Inhabited
def Tot.c (s : Tot) : Array Value := #[.int .u64 s.packets, .int .u64 s.bytes]

structure Rec where
  key : Key
  packets : Int
  bytes : Int
  first : Int
  last : Int
  flags : Int
  reason : Int
  cls : Int
  deriving DecidableEq, Inhabited
def Rec.c (s : Rec) : Array Value := #[.bool s.key.src.six, .int .u8 s.key.src.b.x0, .int .u8 s.key.src.b.x1, .int .u8 s.key.src.b.x2, .int .u8 s.key.src.b.x3, .int .u8 s.key.src.b.x4, .int .u8 s.key.src.b.x5, .int .u8 s.key.src.b.x6, .int .u8 s.key.src.b.x7, .int .u8 s.key.src.b.x8, .int .u8 s.key.src.b.x9, .int .u8 s.key.src.b.x10, .int .u8 s.key.src.b.x11, .int .u8 s.key.src.b.x12, .int .u8 s.key.src.b.x13, .int .u8 s.key.src.b.x14, .int .u8 s.key.src.b.x15, .bool s.key.dst.six, .int .u8 s.key.dst.b.x0, .int .u8 s.key.dst.b.x1, .int .u8 s.key.dst.b.x2, .int .u8 s.key.dst.b.x3, .int .u8 s.key.dst.b.x4, .int .u8 s.key.dst.b.x5, .int .u8 s.key.dst.b.x6, .int .u8 s.key.dst.b.x7, .int .u8 s.key.dst.b.x8, .int .u8 s.key.dst.b.x9, .int .u8 s.key.dst.b.x10, .int .u8 s.key.dst.b.x11, .int .u8 s.key.dst.b.x12, .int .u8 s.key.dst.b.x13, .int .u8 s.key.dst.b.x14, .int .u8 s.key.dst.b.x15, .int .u8 s.key.proto, .int .u16 s.key.srcPort, .int .u16 s.key.dstPort, .int .u64 s.packets, .int .u64 s.bytes, .int .u64 s.first, .int .u64 s.last, .int .u8 s.flags, .int .u8 s.reason, .int .u8 s.cls]

structure Pkt where
  key : Key
  length : Int
  flags : Int
  fragment : Bool
  deriving DecidableEq, Inhabited
def Pkt.c (s : Pkt) : Array Value := #[.bool s.key.src.six, .int .u8 s.key.src.b.x0, .int .u8 s.key.src.b.x1, .int .u8 s.key.src.b.x2, .int .u8 s.key.src.b.x3, .int .u8 s.key.src.b.x4, .int .u8 s.key.src.b.x5, .int .u8 s.key.src.b.x6, .int .u8 s.key.src.b.x7, .int .u8 s.key.src.b.x8, .int .u8 s.key.src.b.x9, .int .u8 s.key.src.b.x10, .int .u8 s.key.src.b.x11, .int .u8 s.key.src.b.x12, .int .u8 s.key.src.b.x13, .int .u8 s.key.src.b.x14, .int .u8 s.key.src.b.x15, .bool s.key.dst.six, .int .u8 s.key.dst.b.x0, .int .u8 s.key.dst.b.x1, .int .u8 s.key.dst.b.x2, .int .u8 s.key.dst.b.x3, .int .u8 s.key.dst.b.x4, .int .u8 s.key.dst.b.x5, .int .u8 s.key.dst.b.x6, .int .u8 s.key.dst.b.x7, .int .u8 s.key.dst.b.x8, .int .u8 s.key.dst.b.x9, .int .u8 s.key.dst.b.x10, .int .u8 s.key.dst.b.x11, .int .u8 s.key.dst.b.x12, .int .u8 s.key.dst.b.x13, .int .u8 s.key.dst.b.x14, .int .u8 s.key.dst.b.x15, .int .u8 s.key.proto, .int .u16 s.key.srcPort, .int .u16 s.key.dstPort, .int .i64 s.length, .int .u8 s.flags, .bool s.fragment]

structure Slot where
  used : Bool
  key : Key
  n : Int
  deriving DecidableEq, Inhabited
def Slot.c (s : Slot) : Array Value := #[.bool s.used, .bool s.key.src.six, .int .u8 s.key.src.b.x0, .int .u8 s.key.src.b.x1, .int .u8 s.key.src.b.x2, .int .u8 s.key.src.b.x3, .int .u8 s.key.src.b.x4, .int .u8 s.key.src.b.x5, .int .u8 s.key.src.b.x6, .int .u8 s.key.src.b.x7, .int .u8 s.key.src.b.x8, .int .u8 s.key.src.b.x9, .int .u8 s.key.src.b.x10, .int .u8 s.key.src.b.x11, .int .u8 s.key.src.b.x12, .int .u8 s.key.src.b.x13, .int .u8 s.key.src.b.x14, .int .u8 s.key.src.b.x15, .bool s.key.dst.six, .int .u8 s.key.dst.b.x0, .int .u8 s.key.dst.b.x1, .int .u8 s.key.dst.b.x2, .int .u8 s.key.dst.b.x3, .int .u8 s.key.dst.b.x4, .int .u8 s.key.dst.b.x5, .int .u8 s.key.dst.b.x6, .int .u8 s.key.dst.b.x7, .int .u8 s.key.dst.b.x8, .int .u8 s.key.dst.b.x9, .int .u8 s.key.dst.b.x10, .int .u8 s.key.dst.b.x11, .int .u8 s.key.dst.b.x12, .int .u8 s.key.dst.b.x13, .int .u8 s.key.dst.b.x14, .int .u8 s.key.dst.b.x15, .int .u8 s.key.proto, .int .u16 s.key.srcPort, .int .u16 s.key.dstPort, .int .u64 s.n]

structure Tab where
  slots : Value
  many : Int
  deriving Inhabited
def Tab.c (s : Tab) : Array Value := #[s.slots, .int .i64 s.many]

structure Act24 where
  do_ : Int
  packet : Pkt
  cls : Int
  tick : Int
  deriving DecidableEq, Inhabited
def Act24.c (s : Act24) : Array Value := #[.int .i64 s.do_, .bool s.packet.key.src.six, .int .u8 s.packet.key.src.b.x0, .int .u8 s.packet.key.src.b.x1, .int .u8 s.packet.key.src.b.x2, .int .u8 s.packet.key.src.b.x3, .int .u8 s.packet.key.src.b.x4, .int .u8 s.packet.key.src.b.x5, .int .u8 s.packet.key.src.b.x6, .int .u8 s.packet.key.src.b.x7, .int .u8 s.packet.key.src.b.x8, .int .u8 s.packet.key.src.b.x9, .int .u8 s.packet.key.src.b.x10, .int .u8 s.packet.key.src.b.x11, .int .u8 s.packet.key.src.b.x12, .int .u8 s.packet.key.src.b.x13, .int .u8 s.packet.key.src.b.x14, .int .u8 s.packet.key.src.b.x15, .bool s.packet.key.dst.six, .int .u8 s.packet.key.dst.b.x0, .int .u8 s.packet.key.dst.b.x1, .int .u8 s.packet.key.dst.b.x2, .int .u8 s.packet.key.dst.b.x3, .int .u8 s.packet.key.dst.b.x4, .int .u8 s.packet.key.dst.b.x5, .int .u8 s.packet.key.dst.b.x6, .int .u8 s.packet.key.dst.b.x7, .int .u8 s.packet.key.dst.b.x8, .int .u8 s.packet.key.dst.b.x9, .int .u8 s.packet.key.dst.b.x10, .int .u8 s.packet.key.dst.b.x11, .int .u8 s.packet.key.dst.b.x12, .int .u8 s.packet.key.dst.b.x13, .int .u8 s.packet.key.dst.b.x14, .int .u8 s.packet.key.dst.b.x15, .int .u8 s.packet.key.proto, .int .u16 s.packet.key.srcPort, .int .u16 s.packet.key.dstPort, .int .i64 s.packet.length, .int .u8 s.packet.flags, .bool s.packet.fragment, .int .u8 s.cls, .int .u64 s.tick]

structure Bnd where
  flows : Int
  idle : Int
  active : Int
  packets : Int
  bytes : Int
  deriving DecidableEq, Inhabited
def Bnd.c (s : Bnd) : Array Value := #[.int .i64 s.flows, .int .u64 s.idle, .int .u64 s.active, .int .u64 s.packets, .int .u64 s.bytes]

structure Cac where
  tick : Int
  bounds : Bnd
  places : Value
  flows : Value
  deriving Inhabited
def Cac.c (s : Cac) : Array Value := #[.int .u64 s.tick, .int .i64 s.bounds.flows, .int .u64 s.bounds.idle, .int .u64 s.bounds.active, .int .u64 s.bounds.packets, .int .u64 s.bounds.bytes, s.places, s.flows]

structure Sum24 where
  key : Key
  total : Tot
  deriving DecidableEq, Inhabited
def Sum24.c (s : Sum24) : Array Value := #[.bool s.key.src.six, .int .u8 s.key.src.b.x0, .int .u8 s.key.src.b.x1, .int .u8 s.key.src.b.x2, .int .u8 s.key.src.b.x3, .int .u8 s.key.src.b.x4, .int .u8 s.key.src.b.x5, .int .u8 s.key.src.b.x6, .int .u8 s.key.src.b.x7, .int .u8 s.key.src.b.x8, .int .u8 s.key.src.b.x9, .int .u8 s.key.src.b.x10, .int .u8 s.key.src.b.x11, .int .u8 s.key.src.b.x12, .int .u8 s.key.src.b.x13, .int .u8 s.key.src.b.x14, .int .u8 s.key.src.b.x15, .bool s.key.dst.six, .int .u8 s.key.dst.b.x0, .int .u8 s.key.dst.b.x1, .int .u8 s.key.dst.b.x2, .int .u8 s.key.dst.b.x3, .int .u8 s.key.dst.b.x4, .int .u8 s.key.dst.b.x5, .int .u8 s.key.dst.b.x6, .int .u8 s.key.dst.b.x7, .int .u8 s.key.dst.b.x8, .int .u8 s.key.dst.b.x9, .int .u8 s.key.dst.b.x10, .int .u8 s.key.dst.b.x11, .int .u8 s.key.dst.b.x12, .int .u8 s.key.dst.b.x13, .int .u8 s.key.dst.b.x14, .int .u8 s.key.dst.b.x15, .int .u8 s.key.proto, .int .u16 s.key.srcPort, .int .u16 s.key.dstPort, .int .u64 s.total.packets, .int .u64 s.total.bytes]

structure Wri where
  b : Value
  deriving Inhabited
def Wri.c (s : Wri) : Array Value := #[s.b]

structure RCac where
  tick : Int
  bounds : Bnd
  l : Value
  deriving Inhabited
def RCac.c (s : RCac) : Array Value := #[.int .u64 s.tick, .int .i64 s.bounds.flows, .int .u64 s.bounds.idle, .int .u64 s.bounds.active, .int .u64 s.bounds.packets, .int .u64 s.bounds.bytes, s.l]

theorem extw_B16 (s : B16) : s.c.extract 0 (0 + 16) = s.c := by kernel_rfl

theorem siz_Adr (s : Adr) : s.c.size = 17 := rfl
theorem get_Adr_0 (s : Adr) : s.c[0]? = some (.bool s.six) := rfl
theorem ext_Adr_1_16 (s : Adr) : s.c.extract 1 (1 + 16) = s.b.c := by kernel_rfl
theorem one_Adr (s : Adr) : ∀ u ∈ s.c.toList, u.oneCell' = true := by
  simp [Adr.c, oc_int, oc_bool]
theorem splw_Adr (s : Adr) (cs : Array Value) (h : cs.size = 17) : splice cs 0 s.c = s.c := splice_whole (h.trans (siz_Adr s).symm)
theorem extw_Adr (s : Adr) : s.c.extract 0 (0 + 17) = s.c := by kernel_rfl

theorem siz_Key (s : Key) : s.c.size = 37 := rfl
theorem ext_Key_0_17 (s : Key) : s.c.extract 0 (0 + 17) = s.src.c := by kernel_rfl
theorem get_Key_0 (s : Key) : s.c[0]? = some (.bool s.src.six) := rfl
theorem ext_Key_17_17 (s : Key) : s.c.extract 17 (17 + 17) = s.dst.c := by kernel_rfl
theorem get_Key_17 (s : Key) : s.c[17]? = some (.bool s.dst.six) := rfl
theorem get_Key_34 (s : Key) : s.c[34]? = some (.int .u8 s.proto) := rfl
theorem get_Key_35 (s : Key) : s.c[35]? = some (.int .u16 s.srcPort) := rfl
theorem set_Key_35 (s : Key) (v : Int) : s.c.setIfInBounds 35 (.int .u16 v) = ({ s with srcPort := v } : Key).c := rfl
theorem get_Key_36 (s : Key) : s.c[36]? = some (.int .u16 s.dstPort) := rfl
theorem set_Key_36 (s : Key) (v : Int) : s.c.setIfInBounds 36 (.int .u16 v) = ({ s with dstPort := v } : Key).c := rfl
theorem one_Key (s : Key) : ∀ u ∈ s.c.toList, u.oneCell' = true := by
  simp [Key.c, oc_int, oc_bool]
theorem splw_Key (s : Key) (cs : Array Value) (h : cs.size = 37) : splice cs 0 s.c = s.c := splice_whole (h.trans (siz_Key s).symm)
theorem extw_Key (s : Key) : s.c.extract 0 (0 + 37) = s.c := by kernel_rfl

theorem siz_Tot (s : Tot) : s.c.size = 2 := rfl
theorem get_Tot_0 (s : Tot) : s.c[0]? = some (.int .u64 s.packets) := rfl
theorem get_Tot_1 (s : Tot) : s.c[1]? = some (.int .u64 s.bytes) := rfl
theorem one_Tot (s : Tot) : ∀ u ∈ s.c.toList, u.oneCell' = true := by
  simp [Tot.c, oc_int, oc_bool]
theorem splw_Tot (s : Tot) (cs : Array Value) (h : cs.size = 2) : splice cs 0 s.c = s.c := splice_whole (h.trans (siz_Tot s).symm)
theorem extw_Tot (s : Tot) : s.c.extract 0 (0 + 2) = s.c := by kernel_rfl

theorem siz_Rec (s : Rec) : s.c.size = 44 := rfl
theorem ext_Rec_0_37 (s : Rec) : s.c.extract 0 (0 + 37) = s.key.c := by kernel_rfl
theorem get_Rec_37 (s : Rec) : s.c[37]? = some (.int .u64 s.packets) := rfl
theorem set_Rec_37 (s : Rec) (v : Int) : s.c.setIfInBounds 37 (.int .u64 v) = ({ s with packets := v } : Rec).c := rfl
theorem get_Rec_38 (s : Rec) : s.c[38]? = some (.int .u64 s.bytes) := rfl
theorem set_Rec_38 (s : Rec) (v : Int) : s.c.setIfInBounds 38 (.int .u64 v) = ({ s with bytes := v } : Rec).c := rfl
theorem get_Rec_39 (s : Rec) : s.c[39]? = some (.int .u64 s.first) := rfl
theorem get_Rec_40 (s : Rec) : s.c[40]? = some (.int .u64 s.last) := rfl
theorem set_Rec_40 (s : Rec) (v : Int) : s.c.setIfInBounds 40 (.int .u64 v) = ({ s with last := v } : Rec).c := rfl
theorem get_Rec_41 (s : Rec) : s.c[41]? = some (.int .u8 s.flags) := rfl
theorem set_Rec_41 (s : Rec) (v : Int) : s.c.setIfInBounds 41 (.int .u8 v) = ({ s with flags := v } : Rec).c := rfl
theorem get_Rec_42 (s : Rec) : s.c[42]? = some (.int .u8 s.reason) := rfl
theorem set_Rec_42 (s : Rec) (v : Int) : s.c.setIfInBounds 42 (.int .u8 v) = ({ s with reason := v } : Rec).c := rfl
theorem get_Rec_43 (s : Rec) : s.c[43]? = some (.int .u8 s.cls) := rfl
theorem one_Rec (s : Rec) : ∀ u ∈ s.c.toList, u.oneCell' = true := by
  simp [Rec.c, oc_int, oc_bool]
theorem splw_Rec (s : Rec) (cs : Array Value) (h : cs.size = 44) : splice cs 0 s.c = s.c := splice_whole (h.trans (siz_Rec s).symm)
theorem extw_Rec (s : Rec) : s.c.extract 0 (0 + 44) = s.c := by kernel_rfl

theorem siz_Pkt (s : Pkt) : s.c.size = 40 := rfl
theorem ext_Pkt_0_37 (s : Pkt) : s.c.extract 0 (0 + 37) = s.key.c := by kernel_rfl
theorem get_Pkt_34 (s : Pkt) : s.c[34]? = some (.int .u8 s.key.proto) := rfl
theorem get_Pkt_37 (s : Pkt) : s.c[37]? = some (.int .i64 s.length) := rfl
theorem get_Pkt_38 (s : Pkt) : s.c[38]? = some (.int .u8 s.flags) := rfl
theorem get_Pkt_39 (s : Pkt) : s.c[39]? = some (.bool s.fragment) := rfl
theorem one_Pkt (s : Pkt) : ∀ u ∈ s.c.toList, u.oneCell' = true := by
  simp [Pkt.c, oc_int, oc_bool]
theorem splw_Pkt (s : Pkt) (cs : Array Value) (h : cs.size = 40) : splice cs 0 s.c = s.c := splice_whole (h.trans (siz_Pkt s).symm)
theorem extw_Pkt (s : Pkt) : s.c.extract 0 (0 + 40) = s.c := by kernel_rfl

theorem siz_Slot (s : Slot) : s.c.size = 39 := rfl
theorem get_Slot_0 (s : Slot) : s.c[0]? = some (.bool s.used) := rfl
theorem ext_Slot_1_37 (s : Slot) : s.c.extract 1 (1 + 37) = s.key.c := by kernel_rfl
theorem get_Slot_38 (s : Slot) : s.c[38]? = some (.int .u64 s.n) := rfl
theorem one_Slot (s : Slot) : ∀ u ∈ s.c.toList, u.oneCell' = true := by
  simp [Slot.c, oc_int, oc_bool]
theorem splw_Slot (s : Slot) (cs : Array Value) (h : cs.size = 39) : splice cs 0 s.c = s.c := splice_whole (h.trans (siz_Slot s).symm)
theorem extw_Slot (s : Slot) : s.c.extract 0 (0 + 39) = s.c := by kernel_rfl

theorem get_Tab_0 (s : Tab) : s.c[0]? = some (s.slots) := rfl
theorem get_Tab_1 (s : Tab) : s.c[1]? = some (.int .i64 s.many) := rfl
theorem set_Tab_1 (s : Tab) (v : Int) : s.c.setIfInBounds 1 (.int .i64 v) = ({ s with many := v } : Tab).c := rfl
theorem siz_Act24 (s : Act24) : s.c.size = 43 := rfl
theorem get_Act24_0 (s : Act24) : s.c[0]? = some (.int .i64 s.do_) := rfl
theorem ext_Act24_1_40 (s : Act24) : s.c.extract 1 (1 + 40) = s.packet.c := by kernel_rfl
theorem ext_Act24_1_37 (s : Act24) : s.c.extract 1 (1 + 37) = s.packet.key.c := by kernel_rfl
theorem get_Act24_38 (s : Act24) : s.c[38]? = some (.int .i64 s.packet.length) := rfl
theorem set_Act24_38 (s : Act24) (v : Int) : s.c.setIfInBounds 38 (.int .i64 v) = ({ s with packet := { s.packet with length := v } } : Act24).c := rfl
theorem get_Act24_41 (s : Act24) : s.c[41]? = some (.int .u8 s.cls) := rfl
theorem get_Act24_42 (s : Act24) : s.c[42]? = some (.int .u64 s.tick) := rfl
theorem one_Act24 (s : Act24) : ∀ u ∈ s.c.toList, u.oneCell' = true := by
  simp [Act24.c, oc_int, oc_bool]
theorem splw_Act24 (s : Act24) (cs : Array Value) (h : cs.size = 43) : splice cs 0 s.c = s.c := splice_whole (h.trans (siz_Act24 s).symm)
theorem extw_Act24 (s : Act24) : s.c.extract 0 (0 + 43) = s.c := by kernel_rfl

theorem siz_Bnd (s : Bnd) : s.c.size = 5 := rfl
theorem get_Bnd_0 (s : Bnd) : s.c[0]? = some (.int .i64 s.flows) := rfl
theorem get_Bnd_1 (s : Bnd) : s.c[1]? = some (.int .u64 s.idle) := rfl
theorem get_Bnd_2 (s : Bnd) : s.c[2]? = some (.int .u64 s.active) := rfl
theorem get_Bnd_3 (s : Bnd) : s.c[3]? = some (.int .u64 s.packets) := rfl
theorem get_Bnd_4 (s : Bnd) : s.c[4]? = some (.int .u64 s.bytes) := rfl
theorem one_Bnd (s : Bnd) : ∀ u ∈ s.c.toList, u.oneCell' = true := by
  simp [Bnd.c, oc_int, oc_bool]
theorem splw_Bnd (s : Bnd) (cs : Array Value) (h : cs.size = 5) : splice cs 0 s.c = s.c := splice_whole (h.trans (siz_Bnd s).symm)
theorem extw_Bnd (s : Bnd) : s.c.extract 0 (0 + 5) = s.c := by kernel_rfl

theorem get_Cac_0 (s : Cac) : s.c[0]? = some (.int .u64 s.tick) := rfl
theorem set_Cac_0 (s : Cac) (v : Int) : s.c.setIfInBounds 0 (.int .u64 v) = ({ s with tick := v } : Cac).c := rfl
theorem get_Cac_1 (s : Cac) : s.c[1]? = some (.int .i64 s.bounds.flows) := rfl
theorem get_Cac_2 (s : Cac) : s.c[2]? = some (.int .u64 s.bounds.idle) := rfl
theorem get_Cac_3 (s : Cac) : s.c[3]? = some (.int .u64 s.bounds.active) := rfl
theorem get_Cac_4 (s : Cac) : s.c[4]? = some (.int .u64 s.bounds.packets) := rfl
theorem get_Cac_5 (s : Cac) : s.c[5]? = some (.int .u64 s.bounds.bytes) := rfl
theorem get_Cac_6 (s : Cac) : s.c[6]? = some (s.places) := rfl
theorem get_Cac_7 (s : Cac) : s.c[7]? = some (s.flows) := rfl
theorem set_Cac_7 (s : Cac) (v : Value) : s.c.setIfInBounds 7 (v) = ({ s with flows := v } : Cac).c := rfl
theorem siz_Sum24 (s : Sum24) : s.c.size = 39 := rfl
theorem ext_Sum24_0_37 (s : Sum24) : s.c.extract 0 (0 + 37) = s.key.c := by kernel_rfl
theorem ext_Sum24_37_2 (s : Sum24) : s.c.extract 37 (37 + 2) = s.total.c := by kernel_rfl
theorem spl_Sum24_37_2 (s : Sum24) (v : Tot) : splice s.c 37 v.c = ({ s with total := v } : Sum24).c := by kernel_rfl
theorem get_Sum24_37 (s : Sum24) : s.c[37]? = some (.int .u64 s.total.packets) := rfl
theorem get_Sum24_38 (s : Sum24) : s.c[38]? = some (.int .u64 s.total.bytes) := rfl
theorem one_Sum24 (s : Sum24) : ∀ u ∈ s.c.toList, u.oneCell' = true := by
  simp [Sum24.c, oc_int, oc_bool]
theorem get_Wri_0 (s : Wri) : s.c[0]? = some (s.b) := rfl
theorem set_Wri_0 (s : Wri) (v : Value) : s.c.setIfInBounds 0 (v) = ({ s with b := v } : Wri).c := rfl
theorem get_RCac_0 (s : RCac) : s.c[0]? = some (.int .u64 s.tick) := rfl
theorem set_RCac_0 (s : RCac) (v : Int) : s.c.setIfInBounds 0 (.int .u64 v) = ({ s with tick := v } : RCac).c := rfl
theorem get_RCac_1 (s : RCac) : s.c[1]? = some (.int .i64 s.bounds.flows) := rfl
theorem get_RCac_2 (s : RCac) : s.c[2]? = some (.int .u64 s.bounds.idle) := rfl
theorem get_RCac_3 (s : RCac) : s.c[3]? = some (.int .u64 s.bounds.active) := rfl
theorem get_RCac_4 (s : RCac) : s.c[4]? = some (.int .u64 s.bounds.packets) := rfl
theorem get_RCac_5 (s : RCac) : s.c[5]? = some (.int .u64 s.bounds.bytes) := rfl
theorem get_RCac_6 (s : RCac) : s.c[6]? = some (s.l) := rfl
theorem set_RCac_6 (s : RCac) (v : Value) : s.c.setIfInBounds 6 (v) = ({ s with l := v } : RCac).c := rfl
theorem sc3 : Sca Tryz.prog 3 := fun _ => by kernel_rfl
theorem sz3 : Siz Tryz.prog 3 1 := fun _ => by kernel_rfl
theorem un3 : Tryz.prog.underlying 3 = some (.int .i64) := by kernel_rfl
theorem ze3 : Zer Tryz.prog 3 (.int .i64 0) := fun _ => by kernel_rfl
theorem sc4 : Sca Tryz.prog 4 := fun _ => by kernel_rfl
theorem un4 : Tryz.prog.underlying 4 = some .bool := by kernel_rfl
theorem sc5 : Sca Tryz.prog 5 := fun _ => by kernel_rfl
theorem sz5 : Siz Tryz.prog 5 1 := fun _ => by kernel_rfl
theorem un5 : Tryz.prog.underlying 5 = some (.int .u8) := by kernel_rfl
theorem un9 : Tryz.prog.underlying 9 = some .string := by kernel_rfl
theorem un22 : Tryz.prog.underlying 22 = some (.slice 33) := by kernel_rfl
theorem sc23 : Sca Tryz.prog 23 := fun _ => by kernel_rfl
theorem sz23 : Siz Tryz.prog 23 1 := fun _ => by kernel_rfl
theorem un23 : Tryz.prog.underlying 23 = some (.int .u64) := by kernel_rfl
theorem agg24 : Agg Tryz.prog 24 16 := ⟨fun _ => by kernel_rfl, fun _ => by kernel_rfl⟩
theorem ze24 : Zer Tryz.prog 24 (.agg ({ x0 := 0, x1 := 0, x2 := 0, x3 := 0, x4 := 0, x5 := 0, x6 := 0, x7 := 0, x8 := 0, x9 := 0, x10 := 0, x11 := 0, x12 := 0, x13 := 0, x14 := 0, x15 := 0 } : B16).c) := fun _ => by kernel_rfl
theorem un24 : Tryz.prog.underlying 24 = some (.array 16 5) := by kernel_rfl
theorem agg26 : Agg Tryz.prog 26 17 := ⟨fun _ => by kernel_rfl, fun _ => by kernel_rfl⟩
theorem fd26_0 : Fld Tryz.prog 26 0 0 := fun _ _ _ => by kernel_rfl
theorem fd26_1 : Fld Tryz.prog 26 1 1 := fun _ _ _ => by kernel_rfl
theorem sc27 : Sca Tryz.prog 27 := fun _ => by kernel_rfl
theorem sz27 : Siz Tryz.prog 27 1 := fun _ => by kernel_rfl
theorem un27 : Tryz.prog.underlying 27 = some (.int .u16) := by kernel_rfl
theorem agg29 : Agg Tryz.prog 29 37 := ⟨fun _ => by kernel_rfl, fun _ => by kernel_rfl⟩
theorem sz29 : Siz Tryz.prog 29 37 := fun _ => by kernel_rfl
theorem fd29_0 : Fld Tryz.prog 29 0 0 := fun _ _ _ => by kernel_rfl
theorem fd29_1 : Fld Tryz.prog 29 1 17 := fun _ _ _ => by kernel_rfl
theorem fd29_2 : Fld Tryz.prog 29 2 34 := fun _ _ _ => by kernel_rfl
theorem fd29_3 : Fld Tryz.prog 29 3 35 := fun _ _ _ => by kernel_rfl
theorem fd29_4 : Fld Tryz.prog 29 4 36 := fun _ _ _ => by kernel_rfl
theorem ze29 : Zer Tryz.prog 29 (.agg ({ src := { six := false, b := { x0 := 0, x1 := 0, x2 := 0, x3 := 0, x4 := 0, x5 := 0, x6 := 0, x7 := 0, x8 := 0, x9 := 0, x10 := 0, x11 := 0, x12 := 0, x13 := 0, x14 := 0, x15 := 0 } }, dst := { six := false, b := { x0 := 0, x1 := 0, x2 := 0, x3 := 0, x4 := 0, x5 := 0, x6 := 0, x7 := 0, x8 := 0, x9 := 0, x10 := 0, x11 := 0, x12 := 0, x13 := 0, x14 := 0, x15 := 0 } }, proto := 0, srcPort := 0, dstPort := 0 } : Key).c) := fun _ => by kernel_rfl
theorem agg31 : Agg Tryz.prog 31 40 := ⟨fun _ => by kernel_rfl, fun _ => by kernel_rfl⟩
theorem sz31 : Siz Tryz.prog 31 40 := fun _ => by kernel_rfl
theorem fd31_0 : Fld Tryz.prog 31 0 0 := fun _ _ _ => by kernel_rfl
theorem fd31_1 : Fld Tryz.prog 31 1 37 := fun _ _ _ => by kernel_rfl
theorem fd31_2 : Fld Tryz.prog 31 2 38 := fun _ _ _ => by kernel_rfl
theorem fd31_3 : Fld Tryz.prog 31 3 39 := fun _ _ _ => by kernel_rfl
theorem ze31 : Zer Tryz.prog 31 (.agg ({ key := { src := { six := false, b := { x0 := 0, x1 := 0, x2 := 0, x3 := 0, x4 := 0, x5 := 0, x6 := 0, x7 := 0, x8 := 0, x9 := 0, x10 := 0, x11 := 0, x12 := 0, x13 := 0, x14 := 0, x15 := 0 } }, dst := { six := false, b := { x0 := 0, x1 := 0, x2 := 0, x3 := 0, x4 := 0, x5 := 0, x6 := 0, x7 := 0, x8 := 0, x9 := 0, x10 := 0, x11 := 0, x12 := 0, x13 := 0, x14 := 0, x15 := 0 } }, proto := 0, srcPort := 0, dstPort := 0 }, length := 0, flags := 0, fragment := false } : Pkt).c) := fun _ => by kernel_rfl
theorem agg33 : Agg Tryz.prog 33 43 := ⟨fun _ => by kernel_rfl, fun _ => by kernel_rfl⟩
theorem sz33 : Siz Tryz.prog 33 43 := fun _ => by kernel_rfl
theorem fd33_0 : Fld Tryz.prog 33 0 0 := fun _ _ _ => by kernel_rfl
theorem fd33_1 : Fld Tryz.prog 33 1 1 := fun _ _ _ => by kernel_rfl
theorem fd33_2 : Fld Tryz.prog 33 2 41 := fun _ _ _ => by kernel_rfl
theorem fd33_3 : Fld Tryz.prog 33 3 42 := fun _ _ _ => by kernel_rfl
theorem ze33 : Zer Tryz.prog 33 (.agg ({ do_ := 0, packet := { key := { src := { six := false, b := { x0 := 0, x1 := 0, x2 := 0, x3 := 0, x4 := 0, x5 := 0, x6 := 0, x7 := 0, x8 := 0, x9 := 0, x10 := 0, x11 := 0, x12 := 0, x13 := 0, x14 := 0, x15 := 0 } }, dst := { six := false, b := { x0 := 0, x1 := 0, x2 := 0, x3 := 0, x4 := 0, x5 := 0, x6 := 0, x7 := 0, x8 := 0, x9 := 0, x10 := 0, x11 := 0, x12 := 0, x13 := 0, x14 := 0, x15 := 0 } }, proto := 0, srcPort := 0, dstPort := 0 }, length := 0, flags := 0, fragment := false }, cls := 0, tick := 0 } : Act24).c) := fun _ => by kernel_rfl
theorem agg36 : Agg Tryz.prog 36 5 := ⟨fun _ => by kernel_rfl, fun _ => by kernel_rfl⟩
theorem sz36 : Siz Tryz.prog 36 5 := fun _ => by kernel_rfl
theorem fd36_0 : Fld Tryz.prog 36 0 0 := fun _ _ _ => by kernel_rfl
theorem fd36_1 : Fld Tryz.prog 36 1 1 := fun _ _ _ => by kernel_rfl
theorem fd36_2 : Fld Tryz.prog 36 2 2 := fun _ _ _ => by kernel_rfl
theorem fd36_3 : Fld Tryz.prog 36 3 3 := fun _ _ _ => by kernel_rfl
theorem fd36_4 : Fld Tryz.prog 36 4 4 := fun _ _ _ => by kernel_rfl
theorem ze36 : Zer Tryz.prog 36 (.agg ({ flows := 0, idle := 0, active := 0, packets := 0, bytes := 0 } : Bnd).c) := fun _ => by kernel_rfl
theorem un40 : Tryz.prog.underlying 40 = some (.slice 36) := by kernel_rfl
theorem sc43 : Sca Tryz.prog 43 := fun _ => by kernel_rfl
theorem un43 : Tryz.prog.underlying 43 = some (.pointer 84) := by kernel_rfl
theorem agg50 : Agg Tryz.prog 50 5 := ⟨fun _ => by kernel_rfl, fun _ => by kernel_rfl⟩
theorem sz50 : Siz Tryz.prog 50 5 := fun _ => by kernel_rfl
theorem fd50_0 : Fld Tryz.prog 50 0 0 := fun _ _ _ => by kernel_rfl
theorem fd50_1 : Fld Tryz.prog 50 1 1 := fun _ _ _ => by kernel_rfl
theorem fd50_2 : Fld Tryz.prog 50 2 2 := fun _ _ _ => by kernel_rfl
theorem fd50_3 : Fld Tryz.prog 50 3 3 := fun _ _ _ => by kernel_rfl
theorem fd50_4 : Fld Tryz.prog 50 4 4 := fun _ _ _ => by kernel_rfl
theorem ze50 : Zer Tryz.prog 50 (.agg ({ flows := 0, idle := 0, active := 0, packets := 0, bytes := 0 } : Bnd).c) := fun _ => by kernel_rfl
theorem un54 : Tryz.prog.underlying 54 = some (.slice 119) := by kernel_rfl
theorem sc55 : Sca Tryz.prog 55 := fun _ => by kernel_rfl
theorem sz55 : Siz Tryz.prog 55 1 := fun _ => by kernel_rfl
theorem un55 : Tryz.prog.underlying 55 = some (.slice 69) := by kernel_rfl
theorem agg65 : Agg Tryz.prog 65 2 := ⟨fun _ => by kernel_rfl, fun _ => by kernel_rfl⟩
theorem sz65 : Siz Tryz.prog 65 2 := fun _ => by kernel_rfl
theorem fd65_0 : Fld Tryz.prog 65 0 0 := fun _ _ _ => by kernel_rfl
theorem fd65_1 : Fld Tryz.prog 65 1 1 := fun _ _ _ => by kernel_rfl
theorem ze65 : Zer Tryz.prog 65 (.agg ({ packets := 0, bytes := 0 } : Tot).c) := fun _ => by kernel_rfl
theorem agg69 : Agg Tryz.prog 69 44 := ⟨fun _ => by kernel_rfl, fun _ => by kernel_rfl⟩
theorem sz69 : Siz Tryz.prog 69 44 := fun _ => by kernel_rfl
theorem fd69_0 : Fld Tryz.prog 69 0 0 := fun _ _ _ => by kernel_rfl
theorem fd69_1 : Fld Tryz.prog 69 1 37 := fun _ _ _ => by kernel_rfl
theorem fd69_2 : Fld Tryz.prog 69 2 38 := fun _ _ _ => by kernel_rfl
theorem fd69_3 : Fld Tryz.prog 69 3 39 := fun _ _ _ => by kernel_rfl
theorem fd69_4 : Fld Tryz.prog 69 4 40 := fun _ _ _ => by kernel_rfl
theorem fd69_5 : Fld Tryz.prog 69 5 41 := fun _ _ _ => by kernel_rfl
theorem fd69_6 : Fld Tryz.prog 69 6 42 := fun _ _ _ => by kernel_rfl
theorem fd69_7 : Fld Tryz.prog 69 7 43 := fun _ _ _ => by kernel_rfl
theorem ze69 : Zer Tryz.prog 69 (.agg ({ key := { src := { six := false, b := { x0 := 0, x1 := 0, x2 := 0, x3 := 0, x4 := 0, x5 := 0, x6 := 0, x7 := 0, x8 := 0, x9 := 0, x10 := 0, x11 := 0, x12 := 0, x13 := 0, x14 := 0, x15 := 0 } }, dst := { six := false, b := { x0 := 0, x1 := 0, x2 := 0, x3 := 0, x4 := 0, x5 := 0, x6 := 0, x7 := 0, x8 := 0, x9 := 0, x10 := 0, x11 := 0, x12 := 0, x13 := 0, x14 := 0, x15 := 0 } }, proto := 0, srcPort := 0, dstPort := 0 }, packets := 0, bytes := 0, first := 0, last := 0, flags := 0, reason := 0, cls := 0 } : Rec).c) := fun _ => by kernel_rfl
theorem sc78 : Sca Tryz.prog 78 := fun _ => by kernel_rfl
theorem un78 : Tryz.prog.underlying 78 = some (.pointer 126) := by kernel_rfl
theorem un82 : Tryz.prog.underlying 82 = some (.int .u64) := by kernel_rfl
theorem fd84_0 : Fld Tryz.prog 84 0 0 := fun _ _ _ => by kernel_rfl
theorem fd84_1 : Fld Tryz.prog 84 1 1 := fun _ _ _ => by kernel_rfl
theorem fd84_2 : Fld Tryz.prog 84 2 6 := fun _ _ _ => by kernel_rfl
theorem fd84_3 : Fld Tryz.prog 84 3 7 := fun _ _ _ => by kernel_rfl
theorem sc85 : Sca Tryz.prog 85 := fun _ => by kernel_rfl
theorem sz85 : Siz Tryz.prog 85 1 := fun _ => by kernel_rfl
theorem un85 : Tryz.prog.underlying 85 = some (.slice 100) := by kernel_rfl
theorem fd87_0 : Fld Tryz.prog 87 0 0 := fun _ _ _ => by kernel_rfl
theorem fd87_1 : Fld Tryz.prog 87 1 1 := fun _ _ _ => by kernel_rfl
theorem fd87_2 : Fld Tryz.prog 87 2 6 := fun _ _ _ => by kernel_rfl
theorem agg90 : Agg Tryz.prog 90 17 := ⟨fun _ => by kernel_rfl, fun _ => by kernel_rfl⟩
theorem sz90 : Siz Tryz.prog 90 17 := fun _ => by kernel_rfl
theorem fd90_0 : Fld Tryz.prog 90 0 0 := fun _ _ _ => by kernel_rfl
theorem fd90_1 : Fld Tryz.prog 90 1 1 := fun _ _ _ => by kernel_rfl
theorem ze90 : Zer Tryz.prog 90 (.agg ({ six := false, b := { x0 := 0, x1 := 0, x2 := 0, x3 := 0, x4 := 0, x5 := 0, x6 := 0, x7 := 0, x8 := 0, x9 := 0, x10 := 0, x11 := 0, x12 := 0, x13 := 0, x14 := 0, x15 := 0 } } : Adr).c) := fun _ => by kernel_rfl
theorem agg92 : Agg Tryz.prog 92 37 := ⟨fun _ => by kernel_rfl, fun _ => by kernel_rfl⟩
theorem sz92 : Siz Tryz.prog 92 37 := fun _ => by kernel_rfl
theorem fd92_0 : Fld Tryz.prog 92 0 0 := fun _ _ _ => by kernel_rfl
theorem fd92_1 : Fld Tryz.prog 92 1 17 := fun _ _ _ => by kernel_rfl
theorem fd92_2 : Fld Tryz.prog 92 2 34 := fun _ _ _ => by kernel_rfl
theorem fd92_3 : Fld Tryz.prog 92 3 35 := fun _ _ _ => by kernel_rfl
theorem fd92_4 : Fld Tryz.prog 92 4 36 := fun _ _ _ => by kernel_rfl
theorem ze92 : Zer Tryz.prog 92 (.agg ({ src := { six := false, b := { x0 := 0, x1 := 0, x2 := 0, x3 := 0, x4 := 0, x5 := 0, x6 := 0, x7 := 0, x8 := 0, x9 := 0, x10 := 0, x11 := 0, x12 := 0, x13 := 0, x14 := 0, x15 := 0 } }, dst := { six := false, b := { x0 := 0, x1 := 0, x2 := 0, x3 := 0, x4 := 0, x5 := 0, x6 := 0, x7 := 0, x8 := 0, x9 := 0, x10 := 0, x11 := 0, x12 := 0, x13 := 0, x14 := 0, x15 := 0 } }, proto := 0, srcPort := 0, dstPort := 0 } : Key).c) := fun _ => by kernel_rfl
theorem agg94 : Agg Tryz.prog 94 40 := ⟨fun _ => by kernel_rfl, fun _ => by kernel_rfl⟩
theorem sz94 : Siz Tryz.prog 94 40 := fun _ => by kernel_rfl
theorem fd94_0 : Fld Tryz.prog 94 0 0 := fun _ _ _ => by kernel_rfl
theorem fd94_1 : Fld Tryz.prog 94 1 37 := fun _ _ _ => by kernel_rfl
theorem fd94_2 : Fld Tryz.prog 94 2 38 := fun _ _ _ => by kernel_rfl
theorem fd94_3 : Fld Tryz.prog 94 3 39 := fun _ _ _ => by kernel_rfl
theorem ze94 : Zer Tryz.prog 94 (.agg ({ key := { src := { six := false, b := { x0 := 0, x1 := 0, x2 := 0, x3 := 0, x4 := 0, x5 := 0, x6 := 0, x7 := 0, x8 := 0, x9 := 0, x10 := 0, x11 := 0, x12 := 0, x13 := 0, x14 := 0, x15 := 0 } }, dst := { six := false, b := { x0 := 0, x1 := 0, x2 := 0, x3 := 0, x4 := 0, x5 := 0, x6 := 0, x7 := 0, x8 := 0, x9 := 0, x10 := 0, x11 := 0, x12 := 0, x13 := 0, x14 := 0, x15 := 0 } }, proto := 0, srcPort := 0, dstPort := 0 }, length := 0, flags := 0, fragment := false } : Pkt).c) := fun _ => by kernel_rfl
theorem agg100 : Agg Tryz.prog 100 44 := ⟨fun _ => by kernel_rfl, fun _ => by kernel_rfl⟩
theorem sz100 : Siz Tryz.prog 100 44 := fun _ => by kernel_rfl
theorem fd100_0 : Fld Tryz.prog 100 0 0 := fun _ _ _ => by kernel_rfl
theorem fd100_1 : Fld Tryz.prog 100 1 37 := fun _ _ _ => by kernel_rfl
theorem fd100_2 : Fld Tryz.prog 100 2 38 := fun _ _ _ => by kernel_rfl
theorem fd100_3 : Fld Tryz.prog 100 3 39 := fun _ _ _ => by kernel_rfl
theorem fd100_4 : Fld Tryz.prog 100 4 40 := fun _ _ _ => by kernel_rfl
theorem fd100_5 : Fld Tryz.prog 100 5 41 := fun _ _ _ => by kernel_rfl
theorem fd100_6 : Fld Tryz.prog 100 6 42 := fun _ _ _ => by kernel_rfl
theorem ze100 : Zer Tryz.prog 100 (.agg ({ key := { src := { six := false, b := { x0 := 0, x1 := 0, x2 := 0, x3 := 0, x4 := 0, x5 := 0, x6 := 0, x7 := 0, x8 := 0, x9 := 0, x10 := 0, x11 := 0, x12 := 0, x13 := 0, x14 := 0, x15 := 0 } }, dst := { six := false, b := { x0 := 0, x1 := 0, x2 := 0, x3 := 0, x4 := 0, x5 := 0, x6 := 0, x7 := 0, x8 := 0, x9 := 0, x10 := 0, x11 := 0, x12 := 0, x13 := 0, x14 := 0, x15 := 0 } }, proto := 0, srcPort := 0, dstPort := 0 }, packets := 0, bytes := 0, first := 0, last := 0, flags := 0, reason := 0, cls := 0 } : Rec).c) := fun _ => by kernel_rfl
theorem agg119 : Agg Tryz.prog 119 39 := ⟨fun _ => by kernel_rfl, fun _ => by kernel_rfl⟩
theorem sz119 : Siz Tryz.prog 119 39 := fun _ => by kernel_rfl
theorem fd119_0 : Fld Tryz.prog 119 0 0 := fun _ _ _ => by kernel_rfl
theorem fd119_1 : Fld Tryz.prog 119 1 37 := fun _ _ _ => by kernel_rfl
theorem sc124 : Sca Tryz.prog 124 := fun _ => by kernel_rfl
theorem un124 : Tryz.prog.underlying 124 = some (.slice 146) := by kernel_rfl
theorem fd126_0 : Fld Tryz.prog 126 0 0 := fun _ _ _ => by kernel_rfl
theorem fd126_1 : Fld Tryz.prog 126 1 1 := fun _ _ _ => by kernel_rfl
theorem un140 : Tryz.prog.underlying 140 = some (.slice 3) := by kernel_rfl
theorem sc143 : Sca Tryz.prog 143 := fun _ => by kernel_rfl
theorem sz143 : Siz Tryz.prog 143 1 := fun _ => by kernel_rfl
theorem un143 : Tryz.prog.underlying 143 = some (.slice 5) := by kernel_rfl
theorem agg146 : Agg Tryz.prog 146 39 := ⟨fun _ => by kernel_rfl, fun _ => by kernel_rfl⟩
theorem sz146 : Siz Tryz.prog 146 39 := fun _ => by kernel_rfl
theorem fd146_0 : Fld Tryz.prog 146 0 0 := fun _ _ _ => by kernel_rfl
theorem fd146_1 : Fld Tryz.prog 146 1 1 := fun _ _ _ => by kernel_rfl
theorem fd146_2 : Fld Tryz.prog 146 2 38 := fun _ _ _ => by kernel_rfl
theorem ze146 : Zer Tryz.prog 146 (.agg ({ used := false, key := { src := { six := false, b := { x0 := 0, x1 := 0, x2 := 0, x3 := 0, x4 := 0, x5 := 0, x6 := 0, x7 := 0, x8 := 0, x9 := 0, x10 := 0, x11 := 0, x12 := 0, x13 := 0, x14 := 0, x15 := 0 } }, dst := { six := false, b := { x0 := 0, x1 := 0, x2 := 0, x3 := 0, x4 := 0, x5 := 0, x6 := 0, x7 := 0, x8 := 0, x9 := 0, x10 := 0, x11 := 0, x12 := 0, x13 := 0, x14 := 0, x15 := 0 } }, proto := 0, srcPort := 0, dstPort := 0 }, n := 0 } : Slot).c) := fun _ => by kernel_rfl
theorem fd178_0 : Fld Tryz.prog 178 0 0 := fun _ _ _ => by kernel_rfl
theorem un188 : Tryz.prog.underlying 188 = some (.pointer 178) := by kernel_rfl
theorem bls22_1 (a0 : Act24) : ∀ w, (Instr.buildSlice 22 1 [(0, .agg a0.c)].toArray).run Tryz.prog w = .ok (.slice (some ⟨w.heap.size, 0, none⟩) 1 1) (w.alloc (.cells (a0.c) 33 (0, 0))) := fun _ => by kernel_rfl
theorem bld36_0_1_2_3_4 (a0 : Int) (a1 : Int) (a2 : Int) (a3 : Int) (a4 : Int) : ∀ w, (Instr.build 36 [(0, .int .i64 a0), (1, .int .u64 a1), (2, .int .u64 a2), (3, .int .u64 a3), (4, .int .u64 a4)].toArray).run Tryz.prog w = .ok (.agg ({ flows := a0, idle := a1, active := a2, packets := a3, bytes := a4 } : Bnd).c) w := fun _ => by kernel_rfl
theorem bld36_  : ∀ w, (Instr.build 36 [].toArray).run Tryz.prog w = .ok (.agg ({ flows := 0, idle := 0, active := 0, packets := 0, bytes := 0 } : Bnd).c) w := fun _ => by kernel_rfl
theorem bld36_0_1_2_3 (a0 : Int) (a1 : Int) (a2 : Int) (a3 : Int) : ∀ w, (Instr.build 36 [(0, .int .i64 a0), (1, .int .u64 a1), (2, .int .u64 a2), (3, .int .u64 a3)].toArray).run Tryz.prog w = .ok (.agg ({ flows := a0, idle := a1, active := a2, packets := a3, bytes := 0 } : Bnd).c) w := fun _ => by kernel_rfl
theorem bls40_6 (a0 : Bnd) (a1 : Bnd) (a2 : Bnd) (a3 : Bnd) (a4 : Bnd) (a5 : Bnd) : ∀ w, (Instr.buildSlice 40 6 [(0, .agg a0.c), (1, .agg a1.c), (2, .agg a2.c), (3, .agg a3.c), (4, .agg a4.c), (5, .agg a5.c)].toArray).run Tryz.prog w = .ok (.slice (some ⟨w.heap.size, 0, none⟩) 6 6) (w.alloc (.cells (a0.c ++ a1.c ++ a2.c ++ a3.c ++ a4.c ++ a5.c) 36 (0, 0))) := fun _ => by kernel_rfl
theorem bld33_0_3 (a0 : Int) (a3 : Int) : ∀ w, (Instr.build 33 [(0, .int .i64 a0), (3, .int .u64 a3)].toArray).run Tryz.prog w = .ok (.agg ({ do_ := a0, packet := ({ key := { src := { six := false, b := { x0 := 0, x1 := 0, x2 := 0, x3 := 0, x4 := 0, x5 := 0, x6 := 0, x7 := 0, x8 := 0, x9 := 0, x10 := 0, x11 := 0, x12 := 0, x13 := 0, x14 := 0, x15 := 0 } }, dst := { six := false, b := { x0 := 0, x1 := 0, x2 := 0, x3 := 0, x4 := 0, x5 := 0, x6 := 0, x7 := 0, x8 := 0, x9 := 0, x10 := 0, x11 := 0, x12 := 0, x13 := 0, x14 := 0, x15 := 0 } }, proto := 0, srcPort := 0, dstPort := 0 }, length := 0, flags := 0, fragment := false } : Pkt), cls := 0, tick := a3 } : Act24).c) w := fun _ => by kernel_rfl
theorem bls22_6 (a0 : Act24) (a1 : Act24) (a2 : Act24) (a3 : Act24) (a4 : Act24) (a5 : Act24) : ∀ w, (Instr.buildSlice 22 6 [(0, .agg a0.c), (1, .agg a1.c), (2, .agg a2.c), (3, .agg a3.c), (4, .agg a4.c), (5, .agg a5.c)].toArray).run Tryz.prog w = .ok (.slice (some ⟨w.heap.size, 0, none⟩) 6 6) (w.alloc (.cells (a0.c ++ a1.c ++ a2.c ++ a3.c ++ a4.c ++ a5.c) 33 (0, 0))) := fun _ => by kernel_rfl
theorem bld29_2_3_4 (a2 : Int) (a3 : Int) (a4 : Int) : ∀ w, (Instr.build 29 [(2, .int .u8 a2), (3, .int .u16 a3), (4, .int .u16 a4)].toArray).run Tryz.prog w = .ok (.agg ({ src := ({ six := false, b := { x0 := 0, x1 := 0, x2 := 0, x3 := 0, x4 := 0, x5 := 0, x6 := 0, x7 := 0, x8 := 0, x9 := 0, x10 := 0, x11 := 0, x12 := 0, x13 := 0, x14 := 0, x15 := 0 } } : Adr), dst := ({ six := false, b := { x0 := 0, x1 := 0, x2 := 0, x3 := 0, x4 := 0, x5 := 0, x6 := 0, x7 := 0, x8 := 0, x9 := 0, x10 := 0, x11 := 0, x12 := 0, x13 := 0, x14 := 0, x15 := 0 } } : Adr), proto := a2, srcPort := a3, dstPort := a4 } : Key).c) w := fun _ => by kernel_rfl
theorem bld29_3 (a3 : Int) : ∀ w, (Instr.build 29 [(3, .int .u16 a3)].toArray).run Tryz.prog w = .ok (.agg ({ src := ({ six := false, b := { x0 := 0, x1 := 0, x2 := 0, x3 := 0, x4 := 0, x5 := 0, x6 := 0, x7 := 0, x8 := 0, x9 := 0, x10 := 0, x11 := 0, x12 := 0, x13 := 0, x14 := 0, x15 := 0 } } : Adr), dst := ({ six := false, b := { x0 := 0, x1 := 0, x2 := 0, x3 := 0, x4 := 0, x5 := 0, x6 := 0, x7 := 0, x8 := 0, x9 := 0, x10 := 0, x11 := 0, x12 := 0, x13 := 0, x14 := 0, x15 := 0 } } : Adr), proto := 0, srcPort := a3, dstPort := 0 } : Key).c) w := fun _ => by kernel_rfl
theorem bld31_0_1_2_3 (a0 : Key) (a1 : Int) (a2 : Int) (a3 : Bool) : ∀ w, (Instr.build 31 [(0, .agg a0.c), (1, .int .i64 a1), (2, .int .u8 a2), (3, .bool a3)].toArray).run Tryz.prog w = .ok (.agg ({ key := a0, length := a1, flags := a2, fragment := a3 } : Pkt).c) w := fun _ => by kernel_rfl
theorem bld33_0_1_2_3 (a0 : Int) (a1 : Pkt) (a2 : Int) (a3 : Int) : ∀ w, (Instr.build 33 [(0, .int .i64 a0), (1, .agg a1.c), (2, .int .u8 a2), (3, .int .u64 a3)].toArray).run Tryz.prog w = .ok (.agg ({ do_ := a0, packet := a1, cls := a2, tick := a3 } : Act24).c) w := fun _ => by kernel_rfl
theorem bld65_0_1 (a0 : Int) (a1 : Int) : ∀ w, (Instr.build 65 [(0, .int .u64 a0), (1, .int .u64 a1)].toArray).run Tryz.prog w = .ok (.agg ({ packets := a0, bytes := a1 } : Tot).c) w := fun _ => by kernel_rfl
theorem bld69_  : ∀ w, (Instr.build 69 [].toArray).run Tryz.prog w = .ok (.agg ({ key := ({ src := { six := false, b := { x0 := 0, x1 := 0, x2 := 0, x3 := 0, x4 := 0, x5 := 0, x6 := 0, x7 := 0, x8 := 0, x9 := 0, x10 := 0, x11 := 0, x12 := 0, x13 := 0, x14 := 0, x15 := 0 } }, dst := { six := false, b := { x0 := 0, x1 := 0, x2 := 0, x3 := 0, x4 := 0, x5 := 0, x6 := 0, x7 := 0, x8 := 0, x9 := 0, x10 := 0, x11 := 0, x12 := 0, x13 := 0, x14 := 0, x15 := 0 } }, proto := 0, srcPort := 0, dstPort := 0 } : Key), packets := 0, bytes := 0, first := 0, last := 0, flags := 0, reason := 0, cls := 0 } : Rec).c) w := fun _ => by kernel_rfl
theorem bld87_0_1 (a0 : Int) (a1 : Bnd) : ∀ w, (Instr.build 87 [(0, .int .u64 a0), (1, .agg a1.c)].toArray).run Tryz.prog w = .ok (.agg ({ tick := a0, bounds := a1, l := .slice none 0 0 } : RCac).c) w := fun _ => by kernel_rfl
theorem bld50_0_1_2_3_4 (a0 : Int) (a1 : Int) (a2 : Int) (a3 : Int) (a4 : Int) : ∀ w, (Instr.build 50 [(0, .int .i64 a0), (1, .int .u64 a1), (2, .int .u64 a2), (3, .int .u64 a3), (4, .int .u64 a4)].toArray).run Tryz.prog w = .ok (.agg ({ flows := a0, idle := a1, active := a2, packets := a3, bytes := a4 } : Bnd).c) w := fun _ => by kernel_rfl
theorem bls55_1 (a0 : Rec) : ∀ w, (Instr.buildSlice 55 1 [(0, .agg a0.c)].toArray).run Tryz.prog w = .ok (.slice (some ⟨w.heap.size, 0, none⟩) 1 1) (w.alloc (.cells (a0.c) 69 (0, 0))) := fun _ => by kernel_rfl
theorem bls54_1 (a0 : Sum24) : ∀ w, (Instr.buildSlice 54 1 [(0, .agg a0.c)].toArray).run Tryz.prog w = .ok (.slice (some ⟨w.heap.size, 0, none⟩) 1 1) (w.alloc (.cells (a0.c) 119 (0, 0))) := fun _ => by kernel_rfl
theorem bld126_0 (p0 : Option Addr) (n0 c0 : Nat) : ∀ w, (Instr.build 126 [(0, .slice p0 n0 c0)].toArray).run Tryz.prog w = .ok (.agg ({ slots := .slice p0 n0 c0, many := 0 } : Tab).c) w := fun _ => by kernel_rfl
theorem bls85_1 (a0 : Rec) : ∀ w, (Instr.buildSlice 85 1 [(0, .agg a0.c)].toArray).run Tryz.prog w = .ok (.slice (some ⟨w.heap.size, 0, none⟩) 1 1) (w.alloc (.cells (a0.c) 100 (0, 0))) := fun _ => by kernel_rfl
theorem bld94_0_1_2_3 (a0 : Key) (a1 : Int) (a2 : Int) (a3 : Bool) : ∀ w, (Instr.build 94 [(0, .agg a0.c), (1, .int .i64 a1), (2, .int .u8 a2), (3, .bool a3)].toArray).run Tryz.prog w = .ok (.agg ({ key := a0, length := a1, flags := a2, fragment := a3 } : Pkt).c) w := fun _ => by kernel_rfl
theorem bld100_  : ∀ w, (Instr.build 100 [].toArray).run Tryz.prog w = .ok (.agg ({ key := ({ src := { six := false, b := { x0 := 0, x1 := 0, x2 := 0, x3 := 0, x4 := 0, x5 := 0, x6 := 0, x7 := 0, x8 := 0, x9 := 0, x10 := 0, x11 := 0, x12 := 0, x13 := 0, x14 := 0, x15 := 0 } }, dst := { six := false, b := { x0 := 0, x1 := 0, x2 := 0, x3 := 0, x4 := 0, x5 := 0, x6 := 0, x7 := 0, x8 := 0, x9 := 0, x10 := 0, x11 := 0, x12 := 0, x13 := 0, x14 := 0, x15 := 0 } }, proto := 0, srcPort := 0, dstPort := 0 } : Key), packets := 0, bytes := 0, first := 0, last := 0, flags := 0, reason := 0, cls := 0 } : Rec).c) w := fun _ => by kernel_rfl
theorem bld92_0_1_2_3_4 (a0 : Adr) (a1 : Adr) (a2 : Int) (a3 : Int) (a4 : Int) : ∀ w, (Instr.build 92 [(0, .agg a0.c), (1, .agg a1.c), (2, .int .u8 a2), (3, .int .u16 a3), (4, .int .u16 a4)].toArray).run Tryz.prog w = .ok (.agg ({ src := a0, dst := a1, proto := a2, srcPort := a3, dstPort := a4 } : Key).c) w := fun _ => by kernel_rfl
theorem bld100_0_1_2_3_4_5_6_7 (a0 : Key) (a1 : Int) (a2 : Int) (a3 : Int) (a4 : Int) (a5 : Int) (a6 : Int) (a7 : Int) : ∀ w, (Instr.build 100 [(0, .agg a0.c), (1, .int .u64 a1), (2, .int .u64 a2), (3, .int .u64 a3), (4, .int .u64 a4), (5, .int .u8 a5), (6, .int .u8 a6), (7, .int .u8 a7)].toArray).run Tryz.prog w = .ok (.agg ({ key := a0, packets := a1, bytes := a2, first := a3, last := a4, flags := a5, reason := a6, cls := a7 } : Rec).c) w := fun _ => by kernel_rfl
theorem bls140_2 (a0 : Int) (a1 : Int) : ∀ w, (Instr.buildSlice 140 2 [(0, .int .i64 a0), (1, .int .i64 a1)].toArray).run Tryz.prog w = .ok (.slice (some ⟨w.heap.size, 0, none⟩) 2 2) (w.alloc (.cells (#[.int .i64 a0, .int .i64 a1]) 3 (0, 0))) := fun _ => by kernel_rfl
theorem bld90_0_1 (a0 : Bool) (a1 : B16) : ∀ w, (Instr.build 90 [(0, .bool a0), (1, .agg a1.c)].toArray).run Tryz.prog w = .ok (.agg ({ six := a0, b := a1 } : Adr).c) w := fun _ => by kernel_rfl
theorem bld146_0_1_2 (a0 : Bool) (a1 : Key) (a2 : Int) : ∀ w, (Instr.build 146 [(0, .bool a0), (1, .agg a1.c), (2, .int .u64 a2)].toArray).run Tryz.prog w = .ok (.agg ({ used := a0, key := a1, n := a2 } : Slot).c) w := fun _ => by kernel_rfl
theorem bld69_0_3_4_7 (a0 : Key) (a3 : Int) (a4 : Int) (a7 : Int) : ∀ w, (Instr.build 69 [(0, .agg a0.c), (3, .int .u64 a3), (4, .int .u64 a4), (7, .int .u8 a7)].toArray).run Tryz.prog w = .ok (.agg ({ key := a0, packets := 0, bytes := 0, first := a3, last := a4, flags := 0, reason := 0, cls := a7 } : Rec).c) w := fun _ => by kernel_rfl
theorem bld146_  : ∀ w, (Instr.build 146 [].toArray).run Tryz.prog w = .ok (.agg ({ used := false, key := ({ src := { six := false, b := { x0 := 0, x1 := 0, x2 := 0, x3 := 0, x4 := 0, x5 := 0, x6 := 0, x7 := 0, x8 := 0, x9 := 0, x10 := 0, x11 := 0, x12 := 0, x13 := 0, x14 := 0, x15 := 0 } }, dst := { six := false, b := { x0 := 0, x1 := 0, x2 := 0, x3 := 0, x4 := 0, x5 := 0, x6 := 0, x7 := 0, x8 := 0, x9 := 0, x10 := 0, x11 := 0, x12 := 0, x13 := 0, x14 := 0, x15 := 0 } }, proto := 0, srcPort := 0, dstPort := 0 } : Key), n := 0 } : Slot).c) w := fun _ => by kernel_rfl
theorem bld100_0_3_4_7 (a0 : Key) (a3 : Int) (a4 : Int) (a7 : Int) : ∀ w, (Instr.build 100 [(0, .agg a0.c), (3, .int .u64 a3), (4, .int .u64 a4), (7, .int .u8 a7)].toArray).run Tryz.prog w = .ok (.agg ({ key := a0, packets := 0, bytes := 0, first := a3, last := a4, flags := 0, reason := 0, cls := a7 } : Rec).c) w := fun _ => by kernel_rfl
theorem bls143_1 (a0 : Int) : ∀ w, (Instr.buildSlice 143 1 [(0, .int .u8 a0)].toArray).run Tryz.prog w = .ok (.slice (some ⟨w.heap.size, 0, none⟩) 1 1) (w.alloc (.cells (#[.int .u8 a0]) 5 (0, 0))) := fun _ => by kernel_rfl
theorem en4 : Ent Tryz.prog 4 := enters_of Tryz.func4 (by kernel_rfl) rfl
theorem en5 : Ent Tryz.prog 5 := enters_of Tryz.func5 (by kernel_rfl) rfl
theorem en6 : Ent Tryz.prog 6 := enters_of Tryz.func6 (by kernel_rfl) rfl
theorem en7 : Ent Tryz.prog 7 := enters_of Tryz.func7 (by kernel_rfl) rfl
theorem en8 : Ent Tryz.prog 8 := enters_of Tryz.func8 (by kernel_rfl) rfl
theorem en9 : Ent Tryz.prog 9 := enters_of Tryz.func9 (by kernel_rfl) rfl
theorem en10 : Ent Tryz.prog 10 := enters_of Tryz.func10 (by kernel_rfl) rfl
theorem en11 : Ent Tryz.prog 11 := enters_of Tryz.func11 (by kernel_rfl) rfl
theorem en12 : Ent Tryz.prog 12 := enters_of Tryz.func12 (by kernel_rfl) rfl
theorem en13 : Ent Tryz.prog 13 := enters_of Tryz.func13 (by kernel_rfl) rfl
theorem en14 : Ent Tryz.prog 14 := enters_of Tryz.func14 (by kernel_rfl) rfl
theorem en15 : Ent Tryz.prog 15 := enters_of Tryz.func15 (by kernel_rfl) rfl
theorem en16 : Ent Tryz.prog 16 := enters_of Tryz.func16 (by kernel_rfl) rfl
theorem en17 : Ent Tryz.prog 17 := enters_of Tryz.func17 (by kernel_rfl) rfl
theorem en18 : Ent Tryz.prog 18 := enters_of Tryz.func18 (by kernel_rfl) rfl
theorem en19 : Ent Tryz.prog 19 := enters_of Tryz.func19 (by kernel_rfl) rfl
theorem en20 : Ent Tryz.prog 20 := enters_of Tryz.func20 (by kernel_rfl) rfl
theorem en21 : Ent Tryz.prog 21 := enters_of Tryz.func21 (by kernel_rfl) rfl
theorem en22 : Ent Tryz.prog 22 := enters_of Tryz.func22 (by kernel_rfl) rfl
theorem en23 : Ent Tryz.prog 23 := enters_of Tryz.func23 (by kernel_rfl) rfl
theorem en24 : Ent Tryz.prog 24 := enters_of Tryz.func24 (by kernel_rfl) rfl
theorem en25 : Ent Tryz.prog 25 := enters_of Tryz.func25 (by kernel_rfl) rfl
theorem en26 : Ent Tryz.prog 26 := enters_of Tryz.func26 (by kernel_rfl) rfl
theorem en27 : Ent Tryz.prog 27 := enters_of Tryz.func27 (by kernel_rfl) rfl
theorem en28 : Ent Tryz.prog 28 := enters_of Tryz.func28 (by kernel_rfl) rfl
theorem en29 : Ent Tryz.prog 29 := enters_of Tryz.func29 (by kernel_rfl) rfl
theorem en30 : Ent Tryz.prog 30 := enters_of Tryz.func30 (by kernel_rfl) rfl
theorem en31 : Ent Tryz.prog 31 := enters_of Tryz.func31 (by kernel_rfl) rfl
theorem en32 : Ent Tryz.prog 32 := enters_of Tryz.func32 (by kernel_rfl) rfl
theorem en33 : Ent Tryz.prog 33 := enters_of Tryz.func33 (by kernel_rfl) rfl
theorem en34 : Ent Tryz.prog 34 := enters_of Tryz.func34 (by kernel_rfl) rfl
theorem en35 : Ent Tryz.prog 35 := enters_of Tryz.func35 (by kernel_rfl) rfl
theorem en36 : Ent Tryz.prog 36 := enters_of Tryz.func36 (by kernel_rfl) rfl
theorem en37 : Ent Tryz.prog 37 := enters_of Tryz.func37 (by kernel_rfl) rfl
theorem en38 : Ent Tryz.prog 38 := enters_of Tryz.func38 (by kernel_rfl) rfl
theorem en39 : Ent Tryz.prog 39 := enters_of Tryz.func39 (by kernel_rfl) rfl
theorem en40 : Ent Tryz.prog 40 := enters_of Tryz.func40 (by kernel_rfl) rfl
theorem en41 : Ent Tryz.prog 41 := enters_of Tryz.func41 (by kernel_rfl) rfl
theorem en42 : Ent Tryz.prog 42 := enters_of Tryz.func42 (by kernel_rfl) rfl
theorem en43 : Ent Tryz.prog 43 := enters_of Tryz.func43 (by kernel_rfl) rfl
theorem en44 : Ent Tryz.prog 44 := enters_of Tryz.func44 (by kernel_rfl) rfl
theorem en45 : Ent Tryz.prog 45 := enters_of Tryz.func45 (by kernel_rfl) rfl
theorem en46 : Ent Tryz.prog 46 := enters_of Tryz.func46 (by kernel_rfl) rfl
theorem en47 : Ent Tryz.prog 47 := enters_of Tryz.func47 (by kernel_rfl) rfl
theorem en48 : Ent Tryz.prog 48 := enters_of Tryz.func48 (by kernel_rfl) rfl
theorem en49 : Ent Tryz.prog 49 := enters_of Tryz.func49 (by kernel_rfl) rfl
theorem en50 : Ent Tryz.prog 50 := enters_of Tryz.func50 (by kernel_rfl) rfl
theorem en51 : Ent Tryz.prog 51 := enters_of Tryz.func51 (by kernel_rfl) rfl
theorem en52 : Ent Tryz.prog 52 := enters_of Tryz.func52 (by kernel_rfl) rfl
theorem en53 : Ent Tryz.prog 53 := enters_of Tryz.func53 (by kernel_rfl) rfl
theorem en54 : Ent Tryz.prog 54 := enters_of Tryz.func54 (by kernel_rfl) rfl
theorem en55 : Ent Tryz.prog 55 := enters_of Tryz.func55 (by kernel_rfl) rfl
theorem en56 : Ent Tryz.prog 56 := enters_of Tryz.func56 (by kernel_rfl) rfl
theorem en57 : Ent Tryz.prog 57 := enters_of Tryz.func57 (by kernel_rfl) rfl
theorem en58 : Ent Tryz.prog 58 := enters_of Tryz.func58 (by kernel_rfl) rfl
theorem en59 : Ent Tryz.prog 59 := enters_of Tryz.func59 (by kernel_rfl) rfl
theorem en60 : Ent Tryz.prog 60 := enters_of Tryz.func60 (by kernel_rfl) rfl
theorem en61 : Ent Tryz.prog 61 := enters_of Tryz.func61 (by kernel_rfl) rfl
theorem en62 : Ent Tryz.prog 62 := enters_of Tryz.func62 (by kernel_rfl) rfl
theorem en63 : Ent Tryz.prog 63 := enters_of Tryz.func63 (by kernel_rfl) rfl
theorem en65 : Ent Tryz.prog 65 := enters_of Tryz.func65 (by kernel_rfl) rfl
theorem en66 : Ent Tryz.prog 66 := enters_of Tryz.func66 (by kernel_rfl) rfl
theorem en67 : Ent Tryz.prog 67 := enters_of Tryz.func67 (by kernel_rfl) rfl
theorem en68 : Ent Tryz.prog 68 := enters_of Tryz.func68 (by kernel_rfl) rfl
theorem en69 : Ent Tryz.prog 69 := enters_of Tryz.func69 (by kernel_rfl) rfl
theorem en70 : Ent Tryz.prog 70 := enters_of Tryz.func70 (by kernel_rfl) rfl
theorem en71 : Ent Tryz.prog 71 := enters_of Tryz.func71 (by kernel_rfl) rfl
theorem en72 : Ent Tryz.prog 72 := enters_of Tryz.func72 (by kernel_rfl) rfl
theorem en73 : Ent Tryz.prog 73 := enters_of Tryz.func73 (by kernel_rfl) rfl
theorem en74 : Ent Tryz.prog 74 := enters_of Tryz.func74 (by kernel_rfl) rfl
theorem en75 : Ent Tryz.prog 75 := enters_of Tryz.func75 (by kernel_rfl) rfl
theorem en76 : Ent Tryz.prog 76 := enters_of Tryz.func76 (by kernel_rfl) rfl
theorem en77 : Ent Tryz.prog 77 := enters_of Tryz.func77 (by kernel_rfl) rfl
theorem en78 : Ent Tryz.prog 78 := enters_of Tryz.func78 (by kernel_rfl) rfl
theorem en79 : Ent Tryz.prog 79 := enters_of Tryz.func79 (by kernel_rfl) rfl
theorem en80 : Ent Tryz.prog 80 := enters_of Tryz.func80 (by kernel_rfl) rfl
theorem en81 : Ent Tryz.prog 81 := enters_of Tryz.func81 (by kernel_rfl) rfl
theorem en82 : Ent Tryz.prog 82 := enters_of Tryz.func82 (by kernel_rfl) rfl
theorem en83 : Ent Tryz.prog 83 := enters_of Tryz.func83 (by kernel_rfl) rfl
theorem en84 : Ent Tryz.prog 84 := enters_of Tryz.func84 (by kernel_rfl) rfl
theorem en85 : Ent Tryz.prog 85 := enters_of Tryz.func85 (by kernel_rfl) rfl
theorem en86 : Ent Tryz.prog 86 := enters_of Tryz.func86 (by kernel_rfl) rfl
theorem en87 : Ent Tryz.prog 87 := enters_of Tryz.func87 (by kernel_rfl) rfl
theorem en88 : Ent Tryz.prog 88 := enters_of Tryz.func88 (by kernel_rfl) rfl
theorem en89 : Ent Tryz.prog 89 := enters_of Tryz.func89 (by kernel_rfl) rfl
theorem en90 : Ent Tryz.prog 90 := enters_of Tryz.func90 (by kernel_rfl) rfl
theorem en91 : Ent Tryz.prog 91 := enters_of Tryz.func91 (by kernel_rfl) rfl
theorem en92 : Ent Tryz.prog 92 := enters_of Tryz.func92 (by kernel_rfl) rfl
theorem en93 : Ent Tryz.prog 93 := enters_of Tryz.func93 (by kernel_rfl) rfl
theorem en95 : Ent Tryz.prog 95 := enters_of Tryz.func95 (by kernel_rfl) rfl
theorem en103 : Ent Tryz.prog 103 := enters_of Tryz.func103 (by kernel_rfl) rfl
theorem en104 : Ent Tryz.prog 104 := enters_of Tryz.func104 (by kernel_rfl) rfl
theorem en105 : Ent Tryz.prog 105 := enters_of Tryz.func105 (by kernel_rfl) rfl
theorem en106 : Ent Tryz.prog 106 := enters_of Tryz.func106 (by kernel_rfl) rfl
theorem en107 : Ent Tryz.prog 107 := enters_of Tryz.func107 (by kernel_rfl) rfl
theorem en108 : Ent Tryz.prog 108 := enters_of Tryz.func108 (by kernel_rfl) rfl
theorem en109 : Ent Tryz.prog 109 := enters_of Tryz.func109 (by kernel_rfl) rfl
theorem en116 : Ent Tryz.prog 116 := enters_of Tryz.func116 (by kernel_rfl) rfl
theorem en117 : Ent Tryz.prog 117 := enters_of Tryz.func117 (by kernel_rfl) rfl
theorem en118 : Ent Tryz.prog 118 := enters_of Tryz.func118 (by kernel_rfl) rfl
theorem en119 : Ent Tryz.prog 119 := enters_of Tryz.func119 (by kernel_rfl) rfl
theorem en120 : Ent Tryz.prog 120 := enters_of Tryz.func120 (by kernel_rfl) rfl
theorem en121 : Ent Tryz.prog 121 := enters_of Tryz.func121 (by kernel_rfl) rfl
theorem en122 : Ent Tryz.prog 122 := enters_of Tryz.func122 (by kernel_rfl) rfl
theorem en124 : Ent Tryz.prog 124 := enters_of Tryz.func124 (by kernel_rfl) rfl
theorem en125 : Ent Tryz.prog 125 := enters_of Tryz.func125 (by kernel_rfl) rfl
theorem en126 : Ent Tryz.prog 126 := enters_of Tryz.func126 (by kernel_rfl) rfl
theorem en127 : Ent Tryz.prog 127 := enters_of Tryz.func127 (by kernel_rfl) rfl
theorem en128 : Ent Tryz.prog 128 := enters_of Tryz.func128 (by kernel_rfl) rfl
theorem en129 : Ent Tryz.prog 129 := enters_of Tryz.func129 (by kernel_rfl) rfl
theorem en130 : Ent Tryz.prog 130 := enters_of Tryz.func130 (by kernel_rfl) rfl
theorem en131 : Ent Tryz.prog 131 := enters_of Tryz.func131 (by kernel_rfl) rfl
theorem en132 : Ent Tryz.prog 132 := enters_of Tryz.func132 (by kernel_rfl) rfl
theorem en133 : Ent Tryz.prog 133 := enters_of Tryz.func133 (by kernel_rfl) rfl
end Go.Proofs.YtobmcpoejhhemaaGreat
