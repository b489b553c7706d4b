import Derived.Test.YtobmcpoejhhemaaVEngC
import Derived.Test.YtobmcpoejhhemaaProg
import Derived.KernelRfl
import Derived.Shelf.Abstract
namespace Go.Proofs.Ytobmcpoejhhemaa
open Go.E
theorem oc_int (k : IntKind) (n : Int) : (Value.int k n).oneCell' = true := rfl
theorem oc_bool (b : Bool) : (Value.bool b).oneCell' = true := rfl

structure B16 where
  x0 : Int
  x1 : Int
  x2 : Int
  x3 : Int
  x4 : Int
  x5 : Int
  x6 : Int
  x7 : Int
  x8 : Int
  x9 : Int
  x10 : Int
  x11 : Int
  x12 : Int
  x13 : Int
  x14 : Int
  x15 : Int
  deriving DecidableEq, Inhabited
def B16.c (b : B16) : Array Value := #[.int .u8 b.x0, .int .u8 b.x1, .int .u8 b.x2, .int .u8 b.x3, .int .u8 b.x4, .int .u8 b.x5, .int .u8 b.x6, .int .u8 b.x7, .int .u8 b.x8, .int .u8 b.x9, .int .u8 b.x10, .int .u8 b.x11, .int .u8 b.x12, .int .u8 b.x13, .int .u8 b.x14, .int .u8 b.x15]

structure Adr where
  six : Bool
  b : B16
  deriving DecidableEq, Inhabited
def Adr.c (s : Adr) : Array Value := #[.bool s.six, .int .u8 s.b.x0, .int .u8 s.b.x1, .int .u8 s.b.x2, .int .u8 s.b.x3, .int .u8 s.b.x4, .int .u8 s.b.x5, .int .u8 s.b.x6, .int .u8 s.b.x7, .int .u8 s.b.x8, .int .u8 s.b.x9, .int .u8 s.b.x10, .int .u8 s.b.x11, .int .u8 s.b.x12, .int .u8 s.b.x13, .int .u8 s.b.x14, .int .u8 s.b.x15]

structure Key where
  src : Adr
  dst : Adr
  proto : Int
  srcPort : Int
  dstPort : Int
  deriving DecidableEq, Inhabited
def Key.c (s : Key) : Array Value := #[.bool s.src.six, .int .u8 s.src.b.x0, .int .u8 s.src.b.x1, .int .u8 s.src.b.x2, .int .u8 s.src.b.x3, .int .u8 s.src.b.x4, .int .u8 s.src.b.x5, .int .u8 s.src.b.x6, .int .u8 s.src.b.x7, .int .u8 s.src.b.x8, .int .u8 s.src.b.x9, .int .u8 s.src.b.x10, .int .u8 s.src.b.x11, .int .u8 s.src.b.x12, .int .u8 s.src.b.x13, .int .u8 s.src.b.x14, .int .u8 s.src.b.x15, .bool s.dst.six, .int .u8 s.dst.b.x0, .int .u8 s.dst.b.x1, .int .u8 s.dst.b.x2, .int .u8 s.dst.b.x3, .int .u8 s.dst.b.x4, .int .u8 s.dst.b.x5, .int .u8 s.dst.b.x6, .int .u8 s.dst.b.x7, .int .u8 s.dst.b.x8, .int .u8 s.dst.b.x9, .int .u8 s.dst.b.x10, .int .u8 s.dst.b.x11, .int .u8 s.dst.b.x12, .int .u8 s.dst.b.x13, .int .u8 s.dst.b.x14, .int .u8 s.dst.b.x15, .int .u8 s.proto, .int .u16 s.srcPort, .int .u16 s.dstPort]

structure Tot where
  packets : Int
  bytes : Int
  deriving DecidableEq, Inhabited
def Tot.c (s : Tot) : Array Value := #[.int .u64 s.packets, .int .u64 s.bytes]

structure Rec where
  key : Key
  packets : Int
  bytes : Int
  first : Int
  last : Int
  flags : Int
  reason : Int
  cls : Int
  deriving DecidableEq, Inhabited
def Rec.c (s : Rec) : Array Value := #[.bool s.key.src.six, .int .u8 s.key.src.b.x0, .int .u8 s.key.src.b.x1, .int .u8 s.key.src.b.x2, .int .u8 s.key.src.b.x3, .int .u8 s.key.src.b.x4, .int .u8 s.key.src.b.x5, .int .u8 s.key.src.b.x6, .int .u8 s.key.src.b.x7, .int .u8 s.key.src.b.x8, .int .u8 s.key.src.b.x9, .int .u8 s.key.src.b.x10, .int .u8 s.key.src.b.x11, .int .u8 s.key.src.b.x12, .int .u8 s.key.src.b.x13, .int .u8 s.key.src.b.x14, .int .u8 s.key.src.b.x15, .bool s.key.dst.six, .int .u8 s.key.dst.b.x0, .int .u8 s.key.dst.b.x1, .int .u8 s.key.dst.b.x2, .int .u8 s.key.dst.b.x3, .int .u8 s.key.dst.b.x4, .int .u8 s.key.dst.b.x5, .int .u8 s.key.dst.b.x6, .int .u8 s.key.dst.b.x7, .int .u8 s.key.dst.b.x8, .int .u8 s.key.dst.b.x9, .int .u8 s.key.dst.b.x10, .int .u8 s.key.dst.b.x11, .int .u8 s.key.dst.b.x12, .int .u8 s.key.dst.b.x13, .int .u8 s.key.dst.b.x14, .int .u8 s.key.dst.b.x15, .int .u8 s.key.proto, .int .u16 s.key.srcPort, .int .u16 s.key.dstPort, .int .u64 s.packets, .int .u64 s.bytes, .int .u64 s.first, .int .u64 s.last, .int .u8 s.flags, .int .u8 s.reason, .int .u8 s.cls]

structure Pkt where
  key : Key
  length : Int
  flags : Int
  fragment : Bool
  deriving DecidableEq, Inhabited
def Pkt.c (s : Pkt) : Array Value := #[.bool s.key.src.six, .int .u8 s.key.src.b.x0, .int .u8 s.key.src.b.x1, .int .u8 s.key.src.b.x2, .int .u8 s.key.src.b.x3, .int .u8 s.key.src.b.x4, .int .u8 s.key.src.b.x5, .int .u8 s.key.src.b.x6, .int .u8 s.key.src.b.x7, .int .u8 s.key.src.b.x8, .int .u8 s.key.src.b.x9, .int .u8 s.key.src.b.x10, .int .u8 s.key.src.b.x11, .int .u8 s.key.src.b.x12, .int .u8 s.key.src.b.x13, .int .u8 s.key.src.b.x14, .int .u8 s.key.src.b.x15, .bool s.key.dst.six, .int .u8 s.key.dst.b.x0, .int .u8 s.key.dst.b.x1, .int .u8 s.key.dst.b.x2, .int .u8 s.key.dst.b.x3, .int .u8 s.key.dst.b.x4, .int .u8 s.key.dst.b.x5, .int .u8 s.key.dst.b.x6, .int .u8 s.key.dst.b.x7, .int .u8 s.key.dst.b.x8, .int .u8 s.key.dst.b.x9, .int .u8 s.key.dst.b.x10, .int .u8 s.key.dst.b.x11, .int .u8 s.key.dst.b.x12, .int .u8 s.key.dst.b.x13, .int .u8 s.key.dst.b.x14, .int .u8 s.key.dst.b.x15, .int .u8 s.key.proto, .int .u16 s.key.srcPort, .int .u16 s.key.dstPort, .int .i64 s.length, .int .u8 s.flags, .bool s.fragment]

structure FVal where
  n : Int
  b : Value
  deriving Inhabited
def FVal.c (s : FVal) : Array Value := #[.int .u64 s.n, s.b]

structure RVal where
  n : Int
  b : Value
  deriving Inhabited
def RVal.c (s : RVal) : Array Value := #[.int .u64 s.n, s.b]

structure FSpec where
  id : Int
  pen : Int
  len : Int
  deriving DecidableEq, Inhabited
def FSpec.c (s : FSpec) : Array Value := #[.int .u16 s.id, .int .u32 s.pen, .int .u16 s.len]

structure Act23 where
  do_ : Int
  k : Key
  n : Int
  deriving DecidableEq, Inhabited
def Act23.c (s : Act23) : Array Value := #[.int .i64 s.do_, .bool s.k.src.six, .int .u8 s.k.src.b.x0, .int .u8 s.k.src.b.x1, .int .u8 s.k.src.b.x2, .int .u8 s.k.src.b.x3, .int .u8 s.k.src.b.x4, .int .u8 s.k.src.b.x5, .int .u8 s.k.src.b.x6, .int .u8 s.k.src.b.x7, .int .u8 s.k.src.b.x8, .int .u8 s.k.src.b.x9, .int .u8 s.k.src.b.x10, .int .u8 s.k.src.b.x11, .int .u8 s.k.src.b.x12, .int .u8 s.k.src.b.x13, .int .u8 s.k.src.b.x14, .int .u8 s.k.src.b.x15, .bool s.k.dst.six, .int .u8 s.k.dst.b.x0, .int .u8 s.k.dst.b.x1, .int .u8 s.k.dst.b.x2, .int .u8 s.k.dst.b.x3, .int .u8 s.k.dst.b.x4, .int .u8 s.k.dst.b.x5, .int .u8 s.k.dst.b.x6, .int .u8 s.k.dst.b.x7, .int .u8 s.k.dst.b.x8, .int .u8 s.k.dst.b.x9, .int .u8 s.k.dst.b.x10, .int .u8 s.k.dst.b.x11, .int .u8 s.k.dst.b.x12, .int .u8 s.k.dst.b.x13, .int .u8 s.k.dst.b.x14, .int .u8 s.k.dst.b.x15, .int .u8 s.k.proto, .int .u16 s.k.srcPort, .int .u16 s.k.dstPort, .int .u64 s.n]

structure Slot where
  used : Bool
  key : Key
  n : Int
  deriving DecidableEq, Inhabited
def Slot.c (s : Slot) : Array Value := #[.bool s.used, .bool s.key.src.six, .int .u8 s.key.src.b.x0, .int .u8 s.key.src.b.x1, .int .u8 s.key.src.b.x2, .int .u8 s.key.src.b.x3, .int .u8 s.key.src.b.x4, .int .u8 s.key.src.b.x5, .int .u8 s.key.src.b.x6, .int .u8 s.key.src.b.x7, .int .u8 s.key.src.b.x8, .int .u8 s.key.src.b.x9, .int .u8 s.key.src.b.x10, .int .u8 s.key.src.b.x11, .int .u8 s.key.src.b.x12, .int .u8 s.key.src.b.x13, .int .u8 s.key.src.b.x14, .int .u8 s.key.src.b.x15, .bool s.key.dst.six, .int .u8 s.key.dst.b.x0, .int .u8 s.key.dst.b.x1, .int .u8 s.key.dst.b.x2, .int .u8 s.key.dst.b.x3, .int .u8 s.key.dst.b.x4, .int .u8 s.key.dst.b.x5, .int .u8 s.key.dst.b.x6, .int .u8 s.key.dst.b.x7, .int .u8 s.key.dst.b.x8, .int .u8 s.key.dst.b.x9, .int .u8 s.key.dst.b.x10, .int .u8 s.key.dst.b.x11, .int .u8 s.key.dst.b.x12, .int .u8 s.key.dst.b.x13, .int .u8 s.key.dst.b.x14, .int .u8 s.key.dst.b.x15, .int .u8 s.key.proto, .int .u16 s.key.srcPort, .int .u16 s.key.dstPort, .int .u64 s.n]

structure Tab where
  slots : Value
  many : Int
  deriving Inhabited
def Tab.c (s : Tab) : Array Value := #[s.slots, .int .i64 s.many]

structure Act24 where
  do_ : Int
  packet : Pkt
  cls : Int
  tick : Int
  deriving DecidableEq, Inhabited
def Act24.c (s : Act24) : Array Value := #[.int .i64 s.do_, .bool s.packet.key.src.six, .int .u8 s.packet.key.src.b.x0, .int .u8 s.packet.key.src.b.x1, .int .u8 s.packet.key.src.b.x2, .int .u8 s.packet.key.src.b.x3, .int .u8 s.packet.key.src.b.x4, .int .u8 s.packet.key.src.b.x5, .int .u8 s.packet.key.src.b.x6, .int .u8 s.packet.key.src.b.x7, .int .u8 s.packet.key.src.b.x8, .int .u8 s.packet.key.src.b.x9, .int .u8 s.packet.key.src.b.x10, .int .u8 s.packet.key.src.b.x11, .int .u8 s.packet.key.src.b.x12, .int .u8 s.packet.key.src.b.x13, .int .u8 s.packet.key.src.b.x14, .int .u8 s.packet.key.src.b.x15, .bool s.packet.key.dst.six, .int .u8 s.packet.key.dst.b.x0, .int .u8 s.packet.key.dst.b.x1, .int .u8 s.packet.key.dst.b.x2, .int .u8 s.packet.key.dst.b.x3, .int .u8 s.packet.key.dst.b.x4, .int .u8 s.packet.key.dst.b.x5, .int .u8 s.packet.key.dst.b.x6, .int .u8 s.packet.key.dst.b.x7, .int .u8 s.packet.key.dst.b.x8, .int .u8 s.packet.key.dst.b.x9, .int .u8 s.packet.key.dst.b.x10, .int .u8 s.packet.key.dst.b.x11, .int .u8 s.packet.key.dst.b.x12, .int .u8 s.packet.key.dst.b.x13, .int .u8 s.packet.key.dst.b.x14, .int .u8 s.packet.key.dst.b.x15, .int .u8 s.packet.key.proto, .int .u16 s.packet.key.srcPort, .int .u16 s.packet.key.dstPort, .int .i64 s.packet.length, .int .u8 s.packet.flags, .bool s.packet.fragment, .int .u8 s.cls, .int .u64 s.tick]

structure Bnd where
  flows : Int
  idle : Int
  active : Int
  packets : Int
  bytes : Int
  deriving DecidableEq, Inhabited
def Bnd.c (s : Bnd) : Array Value := #[.int .i64 s.flows, .int .u64 s.idle, .int .u64 s.active, .int .u64 s.packets, .int .u64 s.bytes]

structure Cac where
  tick : Int
  bounds : Bnd
  places : Value
  flows : Value
  deriving Inhabited
def Cac.c (s : Cac) : Array Value := #[.int .u64 s.tick, .int .i64 s.bounds.flows, .int .u64 s.bounds.idle, .int .u64 s.bounds.active, .int .u64 s.bounds.packets, .int .u64 s.bounds.bytes, s.places, s.flows]

structure Note where
  kind : Int
  key : Key
  total : Tot
  records : Value
  epoch : Int
  n : Int
  first : Int
  next : Int
  deriving Inhabited
def Note.c (s : Note) : Array Value := #[.int .i64 s.kind, .bool s.key.src.six, .int .u8 s.key.src.b.x0, .int .u8 s.key.src.b.x1, .int .u8 s.key.src.b.x2, .int .u8 s.key.src.b.x3, .int .u8 s.key.src.b.x4, .int .u8 s.key.src.b.x5, .int .u8 s.key.src.b.x6, .int .u8 s.key.src.b.x7, .int .u8 s.key.src.b.x8, .int .u8 s.key.src.b.x9, .int .u8 s.key.src.b.x10, .int .u8 s.key.src.b.x11, .int .u8 s.key.src.b.x12, .int .u8 s.key.src.b.x13, .int .u8 s.key.src.b.x14, .int .u8 s.key.src.b.x15, .bool s.key.dst.six, .int .u8 s.key.dst.b.x0, .int .u8 s.key.dst.b.x1, .int .u8 s.key.dst.b.x2, .int .u8 s.key.dst.b.x3, .int .u8 s.key.dst.b.x4, .int .u8 s.key.dst.b.x5, .int .u8 s.key.dst.b.x6, .int .u8 s.key.dst.b.x7, .int .u8 s.key.dst.b.x8, .int .u8 s.key.dst.b.x9, .int .u8 s.key.dst.b.x10, .int .u8 s.key.dst.b.x11, .int .u8 s.key.dst.b.x12, .int .u8 s.key.dst.b.x13, .int .u8 s.key.dst.b.x14, .int .u8 s.key.dst.b.x15, .int .u8 s.key.proto, .int .u16 s.key.srcPort, .int .u16 s.key.dstPort, .int .u64 s.total.packets, .int .u64 s.total.bytes, s.records, .int .u32 s.epoch, .int .u64 s.n, .int .u64 s.first, .int .u64 s.next]

structure Entr where
  epoch : Int
  n : Int
  records : Value
  there : Bool
  synced : Bool
  credited : Bool
  deriving Inhabited
def Entr.c (s : Entr) : Array Value := #[.int .u32 s.epoch, .int .u64 s.n, s.records, .bool s.there, .bool s.synced, .bool s.credited]

structure Parts where
  forwarded : Tot
  cached : Tot
  volatile : Tot
  durable : Tot
  lost : Tot
  credited : Tot
  deriving DecidableEq, Inhabited
def Parts.c (s : Parts) : Array Value := #[.int .u64 s.forwarded.packets, .int .u64 s.forwarded.bytes, .int .u64 s.cached.packets, .int .u64 s.cached.bytes, .int .u64 s.volatile.packets, .int .u64 s.volatile.bytes, .int .u64 s.durable.packets, .int .u64 s.durable.bytes, .int .u64 s.lost.packets, .int .u64 s.lost.bytes, .int .u64 s.credited.packets, .int .u64 s.credited.bytes]

structure Mod where
  forwarded : Value
  cached : Value
  lost : Value
  entries : Value
  line : Value
  first : Int
  boot : Int
  deriving Inhabited
def Mod.c (s : Mod) : Array Value := #[s.forwarded, s.cached, s.lost, s.entries, s.line, .int .u64 s.first, .int .u32 s.boot]

structure Sum24 where
  key : Key
  total : Tot
  deriving DecidableEq, Inhabited
def Sum24.c (s : Sum24) : Array Value := #[.bool s.key.src.six, .int .u8 s.key.src.b.x0, .int .u8 s.key.src.b.x1, .int .u8 s.key.src.b.x2, .int .u8 s.key.src.b.x3, .int .u8 s.key.src.b.x4, .int .u8 s.key.src.b.x5, .int .u8 s.key.src.b.x6, .int .u8 s.key.src.b.x7, .int .u8 s.key.src.b.x8, .int .u8 s.key.src.b.x9, .int .u8 s.key.src.b.x10, .int .u8 s.key.src.b.x11, .int .u8 s.key.src.b.x12, .int .u8 s.key.src.b.x13, .int .u8 s.key.src.b.x14, .int .u8 s.key.src.b.x15, .bool s.key.dst.six, .int .u8 s.key.dst.b.x0, .int .u8 s.key.dst.b.x1, .int .u8 s.key.dst.b.x2, .int .u8 s.key.dst.b.x3, .int .u8 s.key.dst.b.x4, .int .u8 s.key.dst.b.x5, .int .u8 s.key.dst.b.x6, .int .u8 s.key.dst.b.x7, .int .u8 s.key.dst.b.x8, .int .u8 s.key.dst.b.x9, .int .u8 s.key.dst.b.x10, .int .u8 s.key.dst.b.x11, .int .u8 s.key.dst.b.x12, .int .u8 s.key.dst.b.x13, .int .u8 s.key.dst.b.x14, .int .u8 s.key.dst.b.x15, .int .u8 s.key.proto, .int .u16 s.key.srcPort, .int .u16 s.key.dstPort, .int .u64 s.total.packets, .int .u64 s.total.bytes]

structure Wri where
  b : Value
  deriving Inhabited
def Wri.c (s : Wri) : Array Value := #[s.b]

theorem siz_B16 (s : B16) : s.c.size = 16 := rfl
theorem extw_B16 (s : B16) : s.c.extract 0 (0 + 16) = s.c := by kernel_rfl

theorem siz_Adr (s : Adr) : s.c.size = 17 := rfl
theorem get_Adr_0 (s : Adr) : s.c[0]? = some (.bool s.six) := rfl
theorem ext_Adr_1_16 (s : Adr) : s.c.extract 1 (1 + 16) = s.b.c := by kernel_rfl
theorem one_Adr (s : Adr) : ∀ u ∈ s.c.toList, u.oneCell' = true := by
  simp [Adr.c, oc_int, oc_bool]
theorem splw_Adr (s : Adr) (cs : Array Value) (h : cs.size = 17) : splice cs 0 s.c = s.c := splice_whole (h.trans (siz_Adr s).symm)
theorem extw_Adr (s : Adr) : s.c.extract 0 (0 + 17) = s.c := by kernel_rfl

theorem siz_Key (s : Key) : s.c.size = 37 := rfl
theorem ext_Key_0_17 (s : Key) : s.c.extract 0 (0 + 17) = s.src.c := by kernel_rfl
theorem get_Key_0 (s : Key) : s.c[0]? = some (.bool s.src.six) := rfl
theorem ext_Key_17_17 (s : Key) : s.c.extract 17 (17 + 17) = s.dst.c := by kernel_rfl
theorem get_Key_17 (s : Key) : s.c[17]? = some (.bool s.dst.six) := rfl
theorem get_Key_34 (s : Key) : s.c[34]? = some (.int .u8 s.proto) := rfl
theorem get_Key_35 (s : Key) : s.c[35]? = some (.int .u16 s.srcPort) := rfl
theorem set_Key_35 (s : Key) (v : Int) : s.c.setIfInBounds 35 (.int .u16 v) = ({ s with srcPort := v } : Key).c := rfl
theorem get_Key_36 (s : Key) : s.c[36]? = some (.int .u16 s.dstPort) := rfl
theorem set_Key_36 (s : Key) (v : Int) : s.c.setIfInBounds 36 (.int .u16 v) = ({ s with dstPort := v } : Key).c := rfl
theorem one_Key (s : Key) : ∀ u ∈ s.c.toList, u.oneCell' = true := by
  simp [Key.c, oc_int, oc_bool]
theorem splw_Key (s : Key) (cs : Array Value) (h : cs.size = 37) : splice cs 0 s.c = s.c := splice_whole (h.trans (siz_Key s).symm)
theorem extw_Key (s : Key) : s.c.extract 0 (0 + 37) = s.c := by kernel_rfl

theorem siz_Tot (s : Tot) : s.c.size = 2 := rfl
theorem get_Tot_0 (s : Tot) : s.c[0]? = some (.int .u64 s.packets) := rfl
theorem get_Tot_1 (s : Tot) : s.c[1]? = some (.int .u64 s.bytes) := rfl
theorem one_Tot (s : Tot) : ∀ u ∈ s.c.toList, u.oneCell' = true := by
  simp [Tot.c, oc_int, oc_bool]
theorem splw_Tot (s : Tot) (cs : Array Value) (h : cs.size = 2) : splice cs 0 s.c = s.c := splice_whole (h.trans (siz_Tot s).symm)
theorem extw_Tot (s : Tot) : s.c.extract 0 (0 + 2) = s.c := by kernel_rfl

theorem siz_Rec (s : Rec) : s.c.size = 44 := rfl
theorem ext_Rec_0_37 (s : Rec) : s.c.extract 0 (0 + 37) = s.key.c := by kernel_rfl
theorem ext_Rec_0_17 (s : Rec) : s.c.extract 0 (0 + 17) = s.key.src.c := by kernel_rfl
theorem ext_Rec_17_17 (s : Rec) : s.c.extract 17 (17 + 17) = s.key.dst.c := by kernel_rfl
theorem get_Rec_34 (s : Rec) : s.c[34]? = some (.int .u8 s.key.proto) := rfl
theorem get_Rec_35 (s : Rec) : s.c[35]? = some (.int .u16 s.key.srcPort) := rfl
theorem get_Rec_36 (s : Rec) : s.c[36]? = some (.int .u16 s.key.dstPort) := rfl
theorem get_Rec_37 (s : Rec) : s.c[37]? = some (.int .u64 s.packets) := rfl
theorem set_Rec_37 (s : Rec) (v : Int) : s.c.setIfInBounds 37 (.int .u64 v) = ({ s with packets := v } : Rec).c := rfl
theorem get_Rec_38 (s : Rec) : s.c[38]? = some (.int .u64 s.bytes) := rfl
theorem set_Rec_38 (s : Rec) (v : Int) : s.c.setIfInBounds 38 (.int .u64 v) = ({ s with bytes := v } : Rec).c := rfl
theorem get_Rec_39 (s : Rec) : s.c[39]? = some (.int .u64 s.first) := rfl
theorem get_Rec_40 (s : Rec) : s.c[40]? = some (.int .u64 s.last) := rfl
theorem set_Rec_40 (s : Rec) (v : Int) : s.c.setIfInBounds 40 (.int .u64 v) = ({ s with last := v } : Rec).c := rfl
theorem get_Rec_41 (s : Rec) : s.c[41]? = some (.int .u8 s.flags) := rfl
theorem set_Rec_41 (s : Rec) (v : Int) : s.c.setIfInBounds 41 (.int .u8 v) = ({ s with flags := v } : Rec).c := rfl
theorem get_Rec_42 (s : Rec) : s.c[42]? = some (.int .u8 s.reason) := rfl
theorem get_Rec_43 (s : Rec) : s.c[43]? = some (.int .u8 s.cls) := rfl
theorem one_Rec (s : Rec) : ∀ u ∈ s.c.toList, u.oneCell' = true := by
  simp [Rec.c, oc_int, oc_bool]
theorem splw_Rec (s : Rec) (cs : Array Value) (h : cs.size = 44) : splice cs 0 s.c = s.c := splice_whole (h.trans (siz_Rec s).symm)
theorem extw_Rec (s : Rec) : s.c.extract 0 (0 + 44) = s.c := by kernel_rfl

theorem get_Pkt_37 (s : Pkt) : s.c[37]? = some (.int .i64 s.length) := rfl
theorem get_Pkt_38 (s : Pkt) : s.c[38]? = some (.int .u8 s.flags) := rfl
theorem get_FVal_0 (s : FVal) : s.c[0]? = some (.int .u64 s.n) := rfl
theorem get_FVal_1 (s : FVal) : s.c[1]? = some (s.b) := rfl
theorem siz_RVal (s : RVal) : s.c.size = 2 := rfl
theorem one_RVal (s : RVal) (h_b : s.b.oneCell' = true) : ∀ u ∈ s.c.toList, u.oneCell' = true := by
  simp [RVal.c, oc_int, oc_bool, h_b]
theorem splw_RVal (s : RVal) (cs : Array Value) (h : cs.size = 2) : splice cs 0 s.c = s.c := splice_whole (h.trans (siz_RVal s).symm)
theorem extw_RVal (s : RVal) : s.c.extract 0 (0 + 2) = s.c := by kernel_rfl

theorem siz_FSpec (s : FSpec) : s.c.size = 3 := rfl
theorem get_FSpec_0 (s : FSpec) : s.c[0]? = some (.int .u16 s.id) := rfl
theorem get_FSpec_1 (s : FSpec) : s.c[1]? = some (.int .u32 s.pen) := rfl
theorem get_FSpec_2 (s : FSpec) : s.c[2]? = some (.int .u16 s.len) := rfl
theorem one_FSpec (s : FSpec) : ∀ u ∈ s.c.toList, u.oneCell' = true := by
  simp [FSpec.c, oc_int, oc_bool]
theorem splw_FSpec (s : FSpec) (cs : Array Value) (h : cs.size = 3) : splice cs 0 s.c = s.c := splice_whole (h.trans (siz_FSpec s).symm)
theorem extw_FSpec (s : FSpec) : s.c.extract 0 (0 + 3) = s.c := by kernel_rfl

theorem sc3 : Sca Try.prog 3 := fun _ => by kernel_rfl
theorem un3 : Try.prog.underlying 3 = some (.int .i64) := by kernel_rfl
theorem sc4 : Sca Try.prog 4 := fun _ => by kernel_rfl
theorem un4 : Try.prog.underlying 4 = some .bool := by kernel_rfl
theorem sc5 : Sca Try.prog 5 := fun _ => by kernel_rfl
theorem sz5 : Siz Try.prog 5 1 := fun _ => by kernel_rfl
theorem un5 : Try.prog.underlying 5 = some (.int .u8) := by kernel_rfl
theorem un9 : Try.prog.underlying 9 = some .string := by kernel_rfl
theorem agg22 : Agg Try.prog 22 16 := ⟨fun _ => by kernel_rfl, fun _ => by kernel_rfl⟩
theorem ze22 : Zer Try.prog 22 (.agg ({ x0 := 0, x1 := 0, x2 := 0, x3 := 0, x4 := 0, x5 := 0, x6 := 0, x7 := 0, x8 := 0, x9 := 0, x10 := 0, x11 := 0, x12 := 0, x13 := 0, x14 := 0, x15 := 0 } : B16).c) := fun _ => by kernel_rfl
theorem un22 : Try.prog.underlying 22 = some (.array 16 5) := by kernel_rfl
theorem agg24 : Agg Try.prog 24 17 := ⟨fun _ => by kernel_rfl, fun _ => by kernel_rfl⟩
theorem fd24_0 : Fld Try.prog 24 0 0 := fun _ _ _ => by kernel_rfl
theorem fd24_1 : Fld Try.prog 24 1 1 := fun _ _ _ => by kernel_rfl
theorem sc25 : Sca Try.prog 25 := fun _ => by kernel_rfl
theorem sz25 : Siz Try.prog 25 1 := fun _ => by kernel_rfl
theorem un25 : Try.prog.underlying 25 = some (.int .u16) := by kernel_rfl
theorem agg27 : Agg Try.prog 27 37 := ⟨fun _ => by kernel_rfl, fun _ => by kernel_rfl⟩
theorem sz27 : Siz Try.prog 27 37 := fun _ => by kernel_rfl
theorem fd27_0 : Fld Try.prog 27 0 0 := fun _ _ _ => by kernel_rfl
theorem fd27_1 : Fld Try.prog 27 1 17 := fun _ _ _ => by kernel_rfl
theorem fd27_2 : Fld Try.prog 27 2 34 := fun _ _ _ => by kernel_rfl
theorem fd27_3 : Fld Try.prog 27 3 35 := fun _ _ _ => by kernel_rfl
theorem fd27_4 : Fld Try.prog 27 4 36 := fun _ _ _ => by kernel_rfl
theorem ze27 : Zer Try.prog 27 (.agg ({ src := { six := false, b := { x0 := 0, x1 := 0, x2 := 0, x3 := 0, x4 := 0, x5 := 0, x6 := 0, x7 := 0, x8 := 0, x9 := 0, x10 := 0, x11 := 0, x12 := 0, x13 := 0, x14 := 0, x15 := 0 } }, dst := { six := false, b := { x0 := 0, x1 := 0, x2 := 0, x3 := 0, x4 := 0, x5 := 0, x6 := 0, x7 := 0, x8 := 0, x9 := 0, x10 := 0, x11 := 0, x12 := 0, x13 := 0, x14 := 0, x15 := 0 } }, proto := 0, srcPort := 0, dstPort := 0 } : Key).c) := fun _ => by kernel_rfl
theorem un29 : Try.prog.underlying 29 = some (.slice 30) := by kernel_rfl
theorem sc30 : Sca Try.prog 30 := fun _ => by kernel_rfl
theorem sz30 : Siz Try.prog 30 1 := fun _ => by kernel_rfl
theorem un30 : Try.prog.underlying 30 = some (.int .u64) := by kernel_rfl
theorem agg32 : Agg Try.prog 32 2 := ⟨fun _ => by kernel_rfl, fun _ => by kernel_rfl⟩
theorem sz32 : Siz Try.prog 32 2 := fun _ => by kernel_rfl
theorem fd32_0 : Fld Try.prog 32 0 0 := fun _ _ _ => by kernel_rfl
theorem fd32_1 : Fld Try.prog 32 1 1 := fun _ _ _ => by kernel_rfl
theorem ze32 : Zer Try.prog 32 (.agg ({ packets := 0, bytes := 0 } : Tot).c) := fun _ => by kernel_rfl
theorem agg35 : Agg Try.prog 35 44 := ⟨fun _ => by kernel_rfl, fun _ => by kernel_rfl⟩
theorem sz35 : Siz Try.prog 35 44 := fun _ => by kernel_rfl
theorem fd35_0 : Fld Try.prog 35 0 0 := fun _ _ _ => by kernel_rfl
theorem fd35_1 : Fld Try.prog 35 1 37 := fun _ _ _ => by kernel_rfl
theorem fd35_2 : Fld Try.prog 35 2 38 := fun _ _ _ => by kernel_rfl
theorem fd35_3 : Fld Try.prog 35 3 39 := fun _ _ _ => by kernel_rfl
theorem fd35_4 : Fld Try.prog 35 4 40 := fun _ _ _ => by kernel_rfl
theorem fd35_5 : Fld Try.prog 35 5 41 := fun _ _ _ => by kernel_rfl
theorem fd35_6 : Fld Try.prog 35 6 42 := fun _ _ _ => by kernel_rfl
theorem fd35_7 : Fld Try.prog 35 7 43 := fun _ _ _ => by kernel_rfl
theorem ze35 : Zer Try.prog 35 (.agg ({ key := { src := { six := false, b := { x0 := 0, x1 := 0, x2 := 0, x3 := 0, x4 := 0, x5 := 0, x6 := 0, x7 := 0, x8 := 0, x9 := 0, x10 := 0, x11 := 0, x12 := 0, x13 := 0, x14 := 0, x15 := 0 } }, dst := { six := false, b := { x0 := 0, x1 := 0, x2 := 0, x3 := 0, x4 := 0, x5 := 0, x6 := 0, x7 := 0, x8 := 0, x9 := 0, x10 := 0, x11 := 0, x12 := 0, x13 := 0, x14 := 0, x15 := 0 } }, proto := 0, srcPort := 0, dstPort := 0 }, packets := 0, bytes := 0, first := 0, last := 0, flags := 0, reason := 0, cls := 0 } : Rec).c) := fun _ => by kernel_rfl
theorem fd39_1 : Fld Try.prog 39 1 37 := fun _ _ _ => by kernel_rfl
theorem fd39_2 : Fld Try.prog 39 2 38 := fun _ _ _ => by kernel_rfl
theorem agg43 : Agg Try.prog 43 17 := ⟨fun _ => by kernel_rfl, fun _ => by kernel_rfl⟩
theorem sz43 : Siz Try.prog 43 17 := fun _ => by kernel_rfl
theorem fd43_0 : Fld Try.prog 43 0 0 := fun _ _ _ => by kernel_rfl
theorem fd43_1 : Fld Try.prog 43 1 1 := fun _ _ _ => by kernel_rfl
theorem ze43 : Zer Try.prog 43 (.agg ({ six := false, b := { x0 := 0, x1 := 0, x2 := 0, x3 := 0, x4 := 0, x5 := 0, x6 := 0, x7 := 0, x8 := 0, x9 := 0, x10 := 0, x11 := 0, x12 := 0, x13 := 0, x14 := 0, x15 := 0 } } : Adr).c) := fun _ => by kernel_rfl
theorem agg45 : Agg Try.prog 45 37 := ⟨fun _ => by kernel_rfl, fun _ => by kernel_rfl⟩
theorem sz45 : Siz Try.prog 45 37 := fun _ => by kernel_rfl
theorem fd45_0 : Fld Try.prog 45 0 0 := fun _ _ _ => by kernel_rfl
theorem fd45_1 : Fld Try.prog 45 1 17 := fun _ _ _ => by kernel_rfl
theorem fd45_2 : Fld Try.prog 45 2 34 := fun _ _ _ => by kernel_rfl
theorem fd45_3 : Fld Try.prog 45 3 35 := fun _ _ _ => by kernel_rfl
theorem fd45_4 : Fld Try.prog 45 4 36 := fun _ _ _ => by kernel_rfl
theorem ze45 : Zer Try.prog 45 (.agg ({ src := { six := false, b := { x0 := 0, x1 := 0, x2 := 0, x3 := 0, x4 := 0, x5 := 0, x6 := 0, x7 := 0, x8 := 0, x9 := 0, x10 := 0, x11 := 0, x12 := 0, x13 := 0, x14 := 0, x15 := 0 } }, dst := { six := false, b := { x0 := 0, x1 := 0, x2 := 0, x3 := 0, x4 := 0, x5 := 0, x6 := 0, x7 := 0, x8 := 0, x9 := 0, x10 := 0, x11 := 0, x12 := 0, x13 := 0, x14 := 0, x15 := 0 } }, proto := 0, srcPort := 0, dstPort := 0 } : Key).c) := fun _ => by kernel_rfl
theorem agg47 : Agg Try.prog 47 44 := ⟨fun _ => by kernel_rfl, fun _ => by kernel_rfl⟩
theorem sz47 : Siz Try.prog 47 44 := fun _ => by kernel_rfl
theorem fd47_0 : Fld Try.prog 47 0 0 := fun _ _ _ => by kernel_rfl
theorem fd47_1 : Fld Try.prog 47 1 37 := fun _ _ _ => by kernel_rfl
theorem fd47_2 : Fld Try.prog 47 2 38 := fun _ _ _ => by kernel_rfl
theorem fd47_3 : Fld Try.prog 47 3 39 := fun _ _ _ => by kernel_rfl
theorem fd47_4 : Fld Try.prog 47 4 40 := fun _ _ _ => by kernel_rfl
theorem fd47_5 : Fld Try.prog 47 5 41 := fun _ _ _ => by kernel_rfl
theorem fd47_6 : Fld Try.prog 47 6 42 := fun _ _ _ => by kernel_rfl
theorem fd47_7 : Fld Try.prog 47 7 43 := fun _ _ _ => by kernel_rfl
theorem ze47 : Zer Try.prog 47 (.agg ({ key := { src := { six := false, b := { x0 := 0, x1 := 0, x2 := 0, x3 := 0, x4 := 0, x5 := 0, x6 := 0, x7 := 0, x8 := 0, x9 := 0, x10 := 0, x11 := 0, x12 := 0, x13 := 0, x14 := 0, x15 := 0 } }, dst := { six := false, b := { x0 := 0, x1 := 0, x2 := 0, x3 := 0, x4 := 0, x5 := 0, x6 := 0, x7 := 0, x8 := 0, x9 := 0, x10 := 0, x11 := 0, x12 := 0, x13 := 0, x14 := 0, x15 := 0 } }, proto := 0, srcPort := 0, dstPort := 0 }, packets := 0, bytes := 0, first := 0, last := 0, flags := 0, reason := 0, cls := 0 } : Rec).c) := fun _ => by kernel_rfl
theorem un60 : Try.prog.underlying 60 = some (.slice 165) := by kernel_rfl
theorem un64 : Try.prog.underlying 64 = some (.slice 76) := by kernel_rfl
theorem un67 : Try.prog.underlying 67 = some (.slice 79) := by kernel_rfl
theorem un71 : Try.prog.underlying 71 = some (.slice 169) := by kernel_rfl
theorem sc74 : Sca Try.prog 74 := fun _ => by kernel_rfl
theorem un74 : Try.prog.underlying 74 = some (.slice 5) := by kernel_rfl
theorem agg76 : Agg Try.prog 76 2 := ⟨fun _ => by kernel_rfl, fun _ => by kernel_rfl⟩
theorem sz76 : Siz Try.prog 76 2 := fun _ => by kernel_rfl
theorem fd76_0 : Fld Try.prog 76 0 0 := fun _ _ _ => by kernel_rfl
theorem fd76_1 : Fld Try.prog 76 1 1 := fun _ _ _ => by kernel_rfl
theorem sc77 : Sca Try.prog 77 := fun _ => by kernel_rfl
theorem agg79 : Agg Try.prog 79 3 := ⟨fun _ => by kernel_rfl, fun _ => by kernel_rfl⟩
theorem sz79 : Siz Try.prog 79 3 := fun _ => by kernel_rfl
theorem fd79_0 : Fld Try.prog 79 0 0 := fun _ _ _ => by kernel_rfl
theorem fd79_1 : Fld Try.prog 79 1 1 := fun _ _ _ => by kernel_rfl
theorem fd79_2 : Fld Try.prog 79 2 2 := fun _ _ _ => by kernel_rfl
theorem agg165 : Agg Try.prog 165 2 := ⟨fun _ => by kernel_rfl, fun _ => by kernel_rfl⟩
theorem sz165 : Siz Try.prog 165 2 := fun _ => by kernel_rfl
theorem agg169 : Agg Try.prog 169 3 := ⟨fun _ => by kernel_rfl, fun _ => by kernel_rfl⟩
theorem sz169 : Siz Try.prog 169 3 := fun _ => by kernel_rfl
theorem ze169 : Zer Try.prog 169 (.agg ({ id := 0, pen := 0, len := 0 } : FSpec).c) := fun _ => by kernel_rfl
theorem bld39_1_2 (a1 : Int) (a2 : Int) : ∀ w, (Instr.build 39 [(1, .int .i64 a1), (2, .int .u8 a2)].toArray).run Try.prog w = .ok (.agg ({ key := ({ src := { six := false, b := { x0 := 0, x1 := 0, x2 := 0, x3 := 0, x4 := 0, x5 := 0, x6 := 0, x7 := 0, x8 := 0, x9 := 0, x10 := 0, x11 := 0, x12 := 0, x13 := 0, x14 := 0, x15 := 0 } }, dst := { six := false, b := { x0 := 0, x1 := 0, x2 := 0, x3 := 0, x4 := 0, x5 := 0, x6 := 0, x7 := 0, x8 := 0, x9 := 0, x10 := 0, x11 := 0, x12 := 0, x13 := 0, x14 := 0, x15 := 0 } }, proto := 0, srcPort := 0, dstPort := 0 } : Key), length := a1, flags := a2, fragment := false } : Pkt).c) w := fun _ => by kernel_rfl
theorem bld32_0_1 (a0 : Int) (a1 : Int) : ∀ w, (Instr.build 32 [(0, .int .u64 a0), (1, .int .u64 a1)].toArray).run Try.prog w = .ok (.agg ({ packets := a0, bytes := a1 } : Tot).c) w := fun _ => by kernel_rfl
theorem bld27_  : ∀ w, (Instr.build 27 [].toArray).run Try.prog w = .ok (.agg ({ src := ({ six := false, b := { x0 := 0, x1 := 0, x2 := 0, x3 := 0, x4 := 0, x5 := 0, x6 := 0, x7 := 0, x8 := 0, x9 := 0, x10 := 0, x11 := 0, x12 := 0, x13 := 0, x14 := 0, x15 := 0 } } : Adr), dst := ({ six := false, b := { x0 := 0, x1 := 0, x2 := 0, x3 := 0, x4 := 0, x5 := 0, x6 := 0, x7 := 0, x8 := 0, x9 := 0, x10 := 0, x11 := 0, x12 := 0, x13 := 0, x14 := 0, x15 := 0 } } : Adr), proto := 0, srcPort := 0, dstPort := 0 } : Key).c) w := fun _ => by kernel_rfl
theorem bld35_1_2_3_4_5_7 (a1 : Int) (a2 : Int) (a3 : Int) (a4 : Int) (a5 : Int) (a7 : Int) : ∀ w, (Instr.build 35 [(1, .int .u64 a1), (2, .int .u64 a2), (3, .int .u64 a3), (4, .int .u64 a4), (5, .int .u8 a5), (7, .int .u8 a7)].toArray).run Try.prog w = .ok (.agg ({ key := ({ src := { six := false, b := { x0 := 0, x1 := 0, x2 := 0, x3 := 0, x4 := 0, x5 := 0, x6 := 0, x7 := 0, x8 := 0, x9 := 0, x10 := 0, x11 := 0, x12 := 0, x13 := 0, x14 := 0, x15 := 0 } }, dst := { six := false, b := { x0 := 0, x1 := 0, x2 := 0, x3 := 0, x4 := 0, x5 := 0, x6 := 0, x7 := 0, x8 := 0, x9 := 0, x10 := 0, x11 := 0, x12 := 0, x13 := 0, x14 := 0, x15 := 0 } }, proto := 0, srcPort := 0, dstPort := 0 } : Key), packets := a1, bytes := a2, first := a3, last := a4, flags := a5, reason := 0, cls := a7 } : Rec).c) w := fun _ => by kernel_rfl
theorem bld35_0_3_4_7 (a0 : Key) (a3 : Int) (a4 : Int) (a7 : Int) : ∀ w, (Instr.build 35 [(0, .agg a0.c), (3, .int .u64 a3), (4, .int .u64 a4), (7, .int .u8 a7)].toArray).run Try.prog w = .ok (.agg ({ key := a0, packets := 0, bytes := 0, first := a3, last := a4, flags := 0, reason := 0, cls := a7 } : Rec).c) w := fun _ => by kernel_rfl
theorem bld47_0_1_2_3_4_5_6_7 (a0 : Key) (a1 : Int) (a2 : Int) (a3 : Int) (a4 : Int) (a5 : Int) (a6 : Int) (a7 : Int) : ∀ w, (Instr.build 47 [(0, .agg a0.c), (1, .int .u64 a1), (2, .int .u64 a2), (3, .int .u64 a3), (4, .int .u64 a4), (5, .int .u8 a5), (6, .int .u8 a6), (7, .int .u8 a7)].toArray).run Try.prog w = .ok (.agg ({ key := a0, packets := a1, bytes := a2, first := a3, last := a4, flags := a5, reason := a6, cls := a7 } : Rec).c) w := fun _ => by kernel_rfl
theorem bld45_0_1_2_3_4 (a0 : Adr) (a1 : Adr) (a2 : Int) (a3 : Int) (a4 : Int) : ∀ w, (Instr.build 45 [(0, .agg a0.c), (1, .agg a1.c), (2, .int .u8 a2), (3, .int .u16 a3), (4, .int .u16 a4)].toArray).run Try.prog w = .ok (.agg ({ src := a0, dst := a1, proto := a2, srcPort := a3, dstPort := a4 } : Key).c) w := fun _ => by kernel_rfl
theorem bls29_10 (a0 : Int) (a1 : Int) (a2 : Int) (a3 : Int) (a4 : Int) (a5 : Int) (a6 : Int) (a7 : Int) (a8 : Int) (a9 : Int) : ∀ w, (Instr.buildSlice 29 10 [(0, .int .u64 a0), (1, .int .u64 a1), (2, .int .u64 a2), (3, .int .u64 a3), (4, .int .u64 a4), (5, .int .u64 a5), (6, .int .u64 a6), (7, .int .u64 a7), (8, .int .u64 a8), (9, .int .u64 a9)].toArray).run Try.prog w = .ok (.slice (some ⟨w.heap.size, 0, none⟩) 10 10) (w.alloc (.cells (#[.int .u64 a0, .int .u64 a1, .int .u64 a2, .int .u64 a3, .int .u64 a4, .int .u64 a5, .int .u64 a6, .int .u64 a7, .int .u64 a8, .int .u64 a9]) 30 (0, 0))) := fun _ => by kernel_rfl
theorem bls60_2 (a0 : RVal) (a1 : RVal) : ∀ w, (Instr.buildSlice 60 2 [(0, .agg a0.c), (1, .agg a1.c)].toArray).run Try.prog w = .ok (.slice (some ⟨w.heap.size, 0, none⟩) 2 2) (w.alloc (.cells (a0.c ++ a1.c) 165 (0, 0))) := fun _ => by kernel_rfl
theorem bls60_1 (a0 : RVal) : ∀ w, (Instr.buildSlice 60 1 [(0, .agg a0.c)].toArray).run Try.prog w = .ok (.slice (some ⟨w.heap.size, 0, none⟩) 1 1) (w.alloc (.cells (a0.c) 165 (0, 0))) := fun _ => by kernel_rfl
theorem bls64_2 (a0 : FVal) (a1 : FVal) : ∀ w, (Instr.buildSlice 64 2 [(0, .agg a0.c), (1, .agg a1.c)].toArray).run Try.prog w = .ok (.slice (some ⟨w.heap.size, 0, none⟩) 2 2) (w.alloc (.cells (a0.c ++ a1.c) 76 (0, 0))) := fun _ => by kernel_rfl
theorem bls64_1 (a0 : FVal) : ∀ w, (Instr.buildSlice 64 1 [(0, .agg a0.c)].toArray).run Try.prog w = .ok (.slice (some ⟨w.heap.size, 0, none⟩) 1 1) (w.alloc (.cells (a0.c) 76 (0, 0))) := fun _ => by kernel_rfl
theorem bld79_0_2 (a0 : Int) (a2 : Int) : ∀ w, (Instr.build 79 [(0, .int .u16 a0), (2, .int .u16 a2)].toArray).run Try.prog w = .ok (.agg ({ id := a0, pen := 0, len := a2 } : FSpec).c) w := fun _ => by kernel_rfl
theorem bls67_2 (a0 : FSpec) (a1 : FSpec) : ∀ w, (Instr.buildSlice 67 2 [(0, .agg a0.c), (1, .agg a1.c)].toArray).run Try.prog w = .ok (.slice (some ⟨w.heap.size, 0, none⟩) 2 2) (w.alloc (.cells (a0.c ++ a1.c) 79 (0, 0))) := fun _ => by kernel_rfl
theorem bld79_0_1_2 (a0 : Int) (a1 : Int) (a2 : Int) : ∀ w, (Instr.build 79 [(0, .int .u16 a0), (1, .int .u32 a1), (2, .int .u16 a2)].toArray).run Try.prog w = .ok (.agg ({ id := a0, pen := a1, len := a2 } : FSpec).c) w := fun _ => by kernel_rfl
theorem bls67_10 (a0 : FSpec) (a1 : FSpec) (a2 : FSpec) (a3 : FSpec) (a4 : FSpec) (a5 : FSpec) (a6 : FSpec) (a7 : FSpec) (a8 : FSpec) (a9 : FSpec) : ∀ w, (Instr.buildSlice 67 10 [(0, .agg a0.c), (1, .agg a1.c), (2, .agg a2.c), (3, .agg a3.c), (4, .agg a4.c), (5, .agg a5.c), (6, .agg a6.c), (7, .agg a7.c), (8, .agg a8.c), (9, .agg a9.c)].toArray).run Try.prog w = .ok (.slice (some ⟨w.heap.size, 0, none⟩) 10 10) (w.alloc (.cells (a0.c ++ a1.c ++ a2.c ++ a3.c ++ a4.c ++ a5.c ++ a6.c ++ a7.c ++ a8.c ++ a9.c) 79 (0, 0))) := fun _ => by kernel_rfl
theorem bld169_0_2 (a0 : Int) (a2 : Int) : ∀ w, (Instr.build 169 [(0, .int .u16 a0), (2, .int .u16 a2)].toArray).run Try.prog w = .ok (.agg ({ id := a0, pen := 0, len := a2 } : FSpec).c) w := fun _ => by kernel_rfl
theorem bls71_2 (a0 : FSpec) (a1 : FSpec) : ∀ w, (Instr.buildSlice 71 2 [(0, .agg a0.c), (1, .agg a1.c)].toArray).run Try.prog w = .ok (.slice (some ⟨w.heap.size, 0, none⟩) 2 2) (w.alloc (.cells (a0.c ++ a1.c) 169 (0, 0))) := fun _ => by kernel_rfl
theorem bld169_0_1_2 (a0 : Int) (a1 : Int) (a2 : Int) : ∀ w, (Instr.build 169 [(0, .int .u16 a0), (1, .int .u32 a1), (2, .int .u16 a2)].toArray).run Try.prog w = .ok (.agg ({ id := a0, pen := a1, len := a2 } : FSpec).c) w := fun _ => by kernel_rfl
theorem bls71_10 (a0 : FSpec) (a1 : FSpec) (a2 : FSpec) (a3 : FSpec) (a4 : FSpec) (a5 : FSpec) (a6 : FSpec) (a7 : FSpec) (a8 : FSpec) (a9 : FSpec) : ∀ w, (Instr.buildSlice 71 10 [(0, .agg a0.c), (1, .agg a1.c), (2, .agg a2.c), (3, .agg a3.c), (4, .agg a4.c), (5, .agg a5.c), (6, .agg a6.c), (7, .agg a7.c), (8, .agg a8.c), (9, .agg a9.c)].toArray).run Try.prog w = .ok (.slice (some ⟨w.heap.size, 0, none⟩) 10 10) (w.alloc (.cells (a0.c ++ a1.c ++ a2.c ++ a3.c ++ a4.c ++ a5.c ++ a6.c ++ a7.c ++ a8.c ++ a9.c) 169 (0, 0))) := fun _ => by kernel_rfl
theorem bld43_0_1 (a0 : Bool) (a1 : B16) : ∀ w, (Instr.build 43 [(0, .bool a0), (1, .agg a1.c)].toArray).run Try.prog w = .ok (.agg ({ six := a0, b := a1 } : Adr).c) w := fun _ => by kernel_rfl
theorem bls74_1 (a0 : Int) : ∀ w, (Instr.buildSlice 74 1 [(0, .int .u8 a0)].toArray).run Try.prog w = .ok (.slice (some ⟨w.heap.size, 0, none⟩) 1 1) (w.alloc (.cells (#[.int .u8 a0]) 5 (0, 0))) := fun _ => by kernel_rfl
theorem en15 : Ent Try.prog 15 := enters_of Try.func15 (by kernel_rfl) rfl
theorem en16 : Ent Try.prog 16 := enters_of Try.func16 (by kernel_rfl) rfl
theorem en17 : Ent Try.prog 17 := enters_of Try.func17 (by kernel_rfl) rfl
theorem en18 : Ent Try.prog 18 := enters_of Try.func18 (by kernel_rfl) rfl
theorem en19 : Ent Try.prog 19 := enters_of Try.func19 (by kernel_rfl) rfl
theorem en20 : Ent Try.prog 20 := enters_of Try.func20 (by kernel_rfl) rfl
theorem en21 : Ent Try.prog 21 := enters_of Try.func21 (by kernel_rfl) rfl
theorem en22 : Ent Try.prog 22 := enters_of Try.func22 (by kernel_rfl) rfl
theorem en24 : Ent Try.prog 24 := enters_of Try.func24 (by kernel_rfl) rfl
theorem en29 : Ent Try.prog 29 := enters_of Try.func29 (by kernel_rfl) rfl
theorem en30 : Ent Try.prog 30 := enters_of Try.func30 (by kernel_rfl) rfl
theorem en31 : Ent Try.prog 31 := enters_of Try.func31 (by kernel_rfl) rfl
theorem en32 : Ent Try.prog 32 := enters_of Try.func32 (by kernel_rfl) rfl
theorem en33 : Ent Try.prog 33 := enters_of Try.func33 (by kernel_rfl) rfl
theorem en34 : Ent Try.prog 34 := enters_of Try.func34 (by kernel_rfl) rfl
theorem en35 : Ent Try.prog 35 := enters_of Try.func35 (by kernel_rfl) rfl
theorem en36 : Ent Try.prog 36 := enters_of Try.func36 (by kernel_rfl) rfl
theorem en37 : Ent Try.prog 37 := enters_of Try.func37 (by kernel_rfl) rfl
theorem en43 : Ent Try.prog 43 := enters_of Try.func43 (by kernel_rfl) rfl
theorem en85 : Ent Try.prog 85 := enters_of Try.func85 (by kernel_rfl) rfl
theorem en86 : Ent Try.prog 86 := enters_of Try.func86 (by kernel_rfl) rfl
theorem en87 : Ent Try.prog 87 := enters_of Try.func87 (by kernel_rfl) rfl
theorem en89 : Ent Try.prog 89 := enters_of Try.func89 (by kernel_rfl) rfl
theorem en90 : Ent Try.prog 90 := enters_of Try.func90 (by kernel_rfl) rfl
theorem en91 : Ent Try.prog 91 := enters_of Try.func91 (by kernel_rfl) rfl
theorem en92 : Ent Try.prog 92 := enters_of Try.func92 (by kernel_rfl) rfl
theorem en94 : Ent Try.prog 94 := enters_of Try.func94 (by kernel_rfl) rfl
theorem en95 : Ent Try.prog 95 := enters_of Try.func95 (by kernel_rfl) rfl
theorem en96 : Ent Try.prog 96 := enters_of Try.func96 (by kernel_rfl) rfl
theorem en141 : Ent Try.prog 141 := enters_of Try.func141 (by kernel_rfl) rfl
theorem en142 : Ent Try.prog 142 := enters_of Try.func142 (by kernel_rfl) rfl
theorem en143 : Ent Try.prog 143 := enters_of Try.func143 (by kernel_rfl) rfl
theorem en145 : Ent Try.prog 145 := enters_of Try.func145 (by kernel_rfl) rfl
theorem en146 : Ent Try.prog 146 := enters_of Try.func146 (by kernel_rfl) rfl
theorem en147 : Ent Try.prog 147 := enters_of Try.func147 (by kernel_rfl) rfl
end Go.Proofs.Ytobmcpoejhhemaa
