import Derived.Test.YtobmcpoejhhemaaOEngC
import Derived.Test.YtobmcpoejhhemaaProg
import Derived.KernelRfl
import Derived.Shelf.Abstract
namespace Go.Proofs.Ytobmcpoejhhemaa
open Go.E
theorem oc_int (k : IntKind) (n : Int) : (Value.int k n).oneCell' = true := rfl
theorem get_one (v : Value) : (#[v] : Array Value)[0]? = some v := rfl
theorem set_one (u v : Value) : (#[u] : Array Value).setIfInBounds 0 v = #[v] := rfl
theorem oc_bool (b : Bool) : (Value.bool b).oneCell' = true := rfl

structure B16 where
  x0 : Int
  x1 : Int
  x2 : Int
  x3 : Int
  x4 : Int
  x5 : Int
  x6 : Int
  x7 : Int
  x8 : Int
  x9 : Int
  x10 : Int
  x11 : Int
  x12 : Int
  x13 : Int
  x14 : Int
  x15 : Int
  deriving DecidableEq, Inhabited
def B16.c (b : B16) : Array Value := #[.int .u8 b.x0, .int .u8 b.x1, .int .u8 b.x2, .int .u8 b.x3, .int .u8 b.x4, .int .u8 b.x5, .int .u8 b.x6, .int .u8 b.x7, .int .u8 b.x8, .int .u8 b.x9, .int .u8 b.x10, .int .u8 b.x11, .int .u8 b.x12, .int .u8 b.x13, .int .u8 b.x14, .int .u8 b.x15]

structure Adr where
  six : Bool
  b : B16
  deriving DecidableEq, Inhabited
def Adr.c (s : Adr) : Array Value := #[.bool s.six, .int .u8 s.b.x0, .int .u8 s.b.x1, .int .u8 s.b.x2, .int .u8 s.b.x3, .int .u8 s.b.x4, .int .u8 s.b.x5, .int .u8 s.b.x6, .int .u8 s.b.x7, .int .u8 s.b.x8, .int .u8 s.b.x9, .int .u8 s.b.x10, .int .u8 s.b.x11, .int .u8 s.b.x12, .int .u8 s.b.x13, .int .u8 s.b.x14, .int .u8 s.b.x15]

structure Key where
  src : Adr
  dst : Adr
  proto : Int
  srcPort : Int
  dstPort : Int
  deriving DecidableEq, Inhabited
def Key.c (s : Key) : Array Value := #[.bool s.src.six, .int .u8 s.src.b.x0, .int .u8 s.src.b.x1, .int .u8 s.src.b.x2, .int .u8 s.src.b.x3, .int .u8 s.src.b.x4, .int .u8 s.src.b.x5, .int .u8 s.src.b.x6, .int .u8 s.src.b.x7, .int .u8 s.src.b.x8, .int .u8 s.src.b.x9, .int .u8 s.src.b.x10, .int .u8 s.src.b.x11, .int .u8 s.src.b.x12, .int .u8 s.src.b.x13, .int .u8 s.src.b.x14, .int .u8 s.src.b.x15, .bool s.dst.six, .int .u8 s.dst.b.x0, .int .u8 s.dst.b.x1, .int .u8 s.dst.b.x2, .int .u8 s.dst.b.x3, .int .u8 s.dst.b.x4, .int .u8 s.dst.b.x5, .int .u8 s.dst.b.x6, .int .u8 s.dst.b.x7, .int .u8 s.dst.b.x8, .int .u8 s.dst.b.x9, .int .u8 s.dst.b.x10, .int .u8 s.dst.b.x11, .int .u8 s.dst.b.x12, .int .u8 s.dst.b.x13, .int .u8 s.dst.b.x14, .int .u8 s.dst.b.x15, .int .u8 s.proto, .int .u16 s.srcPort, .int .u16 s.dstPort]

structure Tot where
  packets : Int
  bytes : Int
  deriving DecidableEq, Inhabited
def Tot.c (s : Tot) : Array Value := #[.int .u64 s.packets, .int .u64 s.bytes]

structure Rec where
  key : Key
  packets : Int
  bytes : Int
  first : Int
  last : Int
  flags : Int
  reason : Int
  cls : Int
  deriving DecidableEq, Inhabited
def Rec.c (s : Rec) : Array Value := #[.bool s.key.src.six, .int .u8 s.key.src.b.x0, .int .u8 s.key.src.b.x1, .int .u8 s.key.src.b.x2, .int .u8 s.key.src.b.x3, .int .u8 s.key.src.b.x4, .int .u8 s.key.src.b.x5, .int .u8 s.key.src.b.x6, .int .u8 s.key.src.b.x7, .int .u8 s.key.src.b.x8, .int .u8 s.key.src.b.x9, .int .u8 s.key.src.b.x10, .int .u8 s.key.src.b.x11, .int .u8 s.key.src.b.x12, .int .u8 s.key.src.b.x13, .int .u8 s.key.src.b.x14, .int .u8 s.key.src.b.x15, .bool s.key.dst.six, .int .u8 s.key.dst.b.x0, .int .u8 s.key.dst.b.x1, .int .u8 s.key.dst.b.x2, .int .u8 s.key.dst.b.x3, .int .u8 s.key.dst.b.x4, .int .u8 s.key.dst.b.x5, .int .u8 s.key.dst.b.x6, .int .u8 s.key.dst.b.x7, .int .u8 s.key.dst.b.x8, .int .u8 s.key.dst.b.x9, .int .u8 s.key.dst.b.x10, .int .u8 s.key.dst.b.x11, .int .u8 s.key.dst.b.x12, .int .u8 s.key.dst.b.x13, .int .u8 s.key.dst.b.x14, .int .u8 s.key.dst.b.x15, .int .u8 s.key.proto, .int .u16 s.key.srcPort, .int .u16 s.key.dstPort, .int .u64 s.packets, .int .u64 s.bytes, .int .u64 s.first, .int .u64 s.last, .int .u8 s.flags, .int .u8 s.reason, .int .u8 s.cls]

structure Pkt where
  key : Key
  length : Int
  flags : Int
  fragment : Bool
  deriving DecidableEq, Inhabited
def Pkt.c (s : Pkt) : Array Value := #[.bool s.key.src.six, .int .u8 s.key.src.b.x0, .int .u8 s.key.src.b.x1, .int .u8 s.key.src.b.x2, .int .u8 s.key.src.b.x3, .int .u8 s.key.src.b.x4, .int .u8 s.key.src.b.x5, .int .u8 s.key.src.b.x6, .int .u8 s.key.src.b.x7, .int .u8 s.key.src.b.x8, .int .u8 s.key.src.b.x9, .int .u8 s.key.src.b.x10, .int .u8 s.key.src.b.x11, .int .u8 s.key.src.b.x12, .int .u8 s.key.src.b.x13, .int .u8 s.key.src.b.x14, .int .u8 s.key.src.b.x15, .bool s.key.dst.six, .int .u8 s.key.dst.b.x0, .int .u8 s.key.dst.b.x1, .int .u8 s.key.dst.b.x2, .int .u8 s.key.dst.b.x3, .int .u8 s.key.dst.b.x4, .int .u8 s.key.dst.b.x5, .int .u8 s.key.dst.b.x6, .int .u8 s.key.dst.b.x7, .int .u8 s.key.dst.b.x8, .int .u8 s.key.dst.b.x9, .int .u8 s.key.dst.b.x10, .int .u8 s.key.dst.b.x11, .int .u8 s.key.dst.b.x12, .int .u8 s.key.dst.b.x13, .int .u8 s.key.dst.b.x14, .int .u8 s.key.dst.b.x15, .int .u8 s.key.proto, .int .u16 s.key.srcPort, .int .u16 s.key.dstPort, .int .i64 s.length, .int .u8 s.flags, .bool s.fragment]

structure FVal where
  n : Int
  b : Value
  deriving Inhabited
def FVal.c (s : FVal) : Array Value := #[.int .u64 s.n, s.b]

structure RVal where
  n : Int
  b : Value
  deriving Inhabited
def RVal.c (s : RVal) : Array Value := #[.int .u64 s.n, s.b]

structure FSpec where
  id : Int
  pen : Int
  len : Int
  deriving DecidableEq, Inhabited
def FSpec.c (s : FSpec) : Array Value := #[.int .u16 s.id, .int .u32 s.pen, .int .u16 s.len]

structure Act23 where
  do_ : Int
  k : Key
  n : Int
  deriving DecidableEq, Inhabited
def Act23.c (s : Act23) : Array Value := #[.int .i64 s.do_, .bool s.k.src.six, .int .u8 s.k.src.b.x0, .int .u8 s.k.src.b.x1, .int .u8 s.k.src.b.x2, .int .u8 s.k.src.b.x3, .int .u8 s.k.src.b.x4, .int .u8 s.k.src.b.x5, .int .u8 s.k.src.b.x6, .int .u8 s.k.src.b.x7, .int .u8 s.k.src.b.x8, .int .u8 s.k.src.b.x9, .int .u8 s.k.src.b.x10, .int .u8 s.k.src.b.x11, .int .u8 s.k.src.b.x12, .int .u8 s.k.src.b.x13, .int .u8 s.k.src.b.x14, .int .u8 s.k.src.b.x15, .bool s.k.dst.six, .int .u8 s.k.dst.b.x0, .int .u8 s.k.dst.b.x1, .int .u8 s.k.dst.b.x2, .int .u8 s.k.dst.b.x3, .int .u8 s.k.dst.b.x4, .int .u8 s.k.dst.b.x5, .int .u8 s.k.dst.b.x6, .int .u8 s.k.dst.b.x7, .int .u8 s.k.dst.b.x8, .int .u8 s.k.dst.b.x9, .int .u8 s.k.dst.b.x10, .int .u8 s.k.dst.b.x11, .int .u8 s.k.dst.b.x12, .int .u8 s.k.dst.b.x13, .int .u8 s.k.dst.b.x14, .int .u8 s.k.dst.b.x15, .int .u8 s.k.proto, .int .u16 s.k.srcPort, .int .u16 s.k.dstPort, .int .u64 s.n]

structure Slot where
  used : Bool
  key : Key
  n : Int
  deriving DecidableEq, Inhabited
def Slot.c (s : Slot) : Array Value := #[.bool s.used, .bool s.key.src.six, .int .u8 s.key.src.b.x0, .int .u8 s.key.src.b.x1, .int .u8 s.key.src.b.x2, .int .u8 s.key.src.b.x3, .int .u8 s.key.src.b.x4, .int .u8 s.key.src.b.x5, .int .u8 s.key.src.b.x6, .int .u8 s.key.src.b.x7, .int .u8 s.key.src.b.x8, .int .u8 s.key.src.b.x9, .int .u8 s.key.src.b.x10, .int .u8 s.key.src.b.x11, .int .u8 s.key.src.b.x12, .int .u8 s.key.src.b.x13, .int .u8 s.key.src.b.x14, .int .u8 s.key.src.b.x15, .bool s.key.dst.six, .int .u8 s.key.dst.b.x0, .int .u8 s.key.dst.b.x1, .int .u8 s.key.dst.b.x2, .int .u8 s.key.dst.b.x3, .int .u8 s.key.dst.b.x4, .int .u8 s.key.dst.b.x5, .int .u8 s.key.dst.b.x6, .int .u8 s.key.dst.b.x7, .int .u8 s.key.dst.b.x8, .int .u8 s.key.dst.b.x9, .int .u8 s.key.dst.b.x10, .int .u8 s.key.dst.b.x11, .int .u8 s.key.dst.b.x12, .int .u8 s.key.dst.b.x13, .int .u8 s.key.dst.b.x14, .int .u8 s.key.dst.b.x15, .int .u8 s.key.proto, .int .u16 s.key.srcPort, .int .u16 s.key.dstPort, .int .u64 s.n]

structure Tab where
  slots : Value
  many : Int
  deriving Inhabited
def Tab.c (s : Tab) : Array Value := #[s.slots, .int .i64 s.many]

structure Act24 where
  do_ : Int
  packet : Pkt
  cls : Int
  tick : Int
  deriving DecidableEq, Inhabited
def Act24.c (s : Act24) : Array Value := #[.int .i64 s.do_, .bool s.packet.key.src.six, .int .u8 s.packet.key.src.b.x0, .int .u8 s.packet.key.src.b.x1, .int .u8 s.packet.key.src.b.x2, .int .u8 s.packet.key.src.b.x3, .int .u8 s.packet.key.src.b.x4, .int .u8 s.packet.key.src.b.x5, .int .u8 s.packet.key.src.b.x6, .int .u8 s.packet.key.src.b.x7, .int .u8 s.packet.key.src.b.x8, .int .u8 s.packet.key.src.b.x9, .int .u8 s.packet.key.src.b.x10, .int .u8 s.packet.key.src.b.x11, .int .u8 s.packet.key.src.b.x12, .int .u8 s.packet.key.src.b.x13, .int .u8 s.packet.key.src.b.x14, .int .u8 s.packet.key.src.b.x15, .bool s.packet.key.dst.six, .int .u8 s.packet.key.dst.b.x0, .int .u8 s.packet.key.dst.b.x1, .int .u8 s.packet.key.dst.b.x2, .int .u8 s.packet.key.dst.b.x3, .int .u8 s.packet.key.dst.b.x4, .int .u8 s.packet.key.dst.b.x5, .int .u8 s.packet.key.dst.b.x6, .int .u8 s.packet.key.dst.b.x7, .int .u8 s.packet.key.dst.b.x8, .int .u8 s.packet.key.dst.b.x9, .int .u8 s.packet.key.dst.b.x10, .int .u8 s.packet.key.dst.b.x11, .int .u8 s.packet.key.dst.b.x12, .int .u8 s.packet.key.dst.b.x13, .int .u8 s.packet.key.dst.b.x14, .int .u8 s.packet.key.dst.b.x15, .int .u8 s.packet.key.proto, .int .u16 s.packet.key.srcPort, .int .u16 s.packet.key.dstPort, .int .i64 s.packet.length, .int .u8 s.packet.flags, .bool s.packet.fragment, .int .u8 s.cls, .int .u64 s.tick]

structure Bnd where
  flows : Int
  idle : Int
  active : Int
  packets : Int
  bytes : Int
  deriving DecidableEq, Inhabited
def Bnd.c (s : Bnd) : Array Value := #[.int .i64 s.flows, .int .u64 s.idle, .int .u64 s.active, .int .u64 s.packets, .int .u64 s.bytes]

structure Cac where
  tick : Int
  bounds : Bnd
  places : Value
  flows : Value
  deriving Inhabited
def Cac.c (s : Cac) : Array Value := #[.int .u64 s.tick, .int .i64 s.bounds.flows, .int .u64 s.bounds.idle, .int .u64 s.bounds.active, .int .u64 s.bounds.packets, .int .u64 s.bounds.bytes, s.places, s.flows]

structure Note where
  kind : Int
  key : Key
  total : Tot
  records : Value
  epoch : Int
  n : Int
  first : Int
  next : Int
  deriving Inhabited
def Note.c (s : Note) : Array Value := #[.int .i64 s.kind, .bool s.key.src.six, .int .u8 s.key.src.b.x0, .int .u8 s.key.src.b.x1, .int .u8 s.key.src.b.x2, .int .u8 s.key.src.b.x3, .int .u8 s.key.src.b.x4, .int .u8 s.key.src.b.x5, .int .u8 s.key.src.b.x6, .int .u8 s.key.src.b.x7, .int .u8 s.key.src.b.x8, .int .u8 s.key.src.b.x9, .int .u8 s.key.src.b.x10, .int .u8 s.key.src.b.x11, .int .u8 s.key.src.b.x12, .int .u8 s.key.src.b.x13, .int .u8 s.key.src.b.x14, .int .u8 s.key.src.b.x15, .bool s.key.dst.six, .int .u8 s.key.dst.b.x0, .int .u8 s.key.dst.b.x1, .int .u8 s.key.dst.b.x2, .int .u8 s.key.dst.b.x3, .int .u8 s.key.dst.b.x4, .int .u8 s.key.dst.b.x5, .int .u8 s.key.dst.b.x6, .int .u8 s.key.dst.b.x7, .int .u8 s.key.dst.b.x8, .int .u8 s.key.dst.b.x9, .int .u8 s.key.dst.b.x10, .int .u8 s.key.dst.b.x11, .int .u8 s.key.dst.b.x12, .int .u8 s.key.dst.b.x13, .int .u8 s.key.dst.b.x14, .int .u8 s.key.dst.b.x15, .int .u8 s.key.proto, .int .u16 s.key.srcPort, .int .u16 s.key.dstPort, .int .u64 s.total.packets, .int .u64 s.total.bytes, s.records, .int .u32 s.epoch, .int .u64 s.n, .int .u64 s.first, .int .u64 s.next]

structure Entr where
  epoch : Int
  n : Int
  records : Value
  there : Bool
  synced : Bool
  credited : Bool
  deriving Inhabited
def Entr.c (s : Entr) : Array Value := #[.int .u32 s.epoch, .int .u64 s.n, s.records, .bool s.there, .bool s.synced, .bool s.credited]

structure Parts where
  forwarded : Tot
  cached : Tot
  volatile : Tot
  durable : Tot
  lost : Tot
  credited : Tot
  deriving DecidableEq, Inhabited
def Parts.c (s : Parts) : Array Value := #[.int .u64 s.forwarded.packets, .int .u64 s.forwarded.bytes, .int .u64 s.cached.packets, .int .u64 s.cached.bytes, .int .u64 s.volatile.packets, .int .u64 s.volatile.bytes, .int .u64 s.durable.packets, .int .u64 s.durable.bytes, .int .u64 s.lost.packets, .int .u64 s.lost.bytes, .int .u64 s.credited.packets, .int .u64 s.credited.bytes]

structure Mod where
  forwarded : Value
  cached : Value
  lost : Value
  entries : Value
  line : Value
  first : Int
  boot : Int
  deriving Inhabited
def Mod.c (s : Mod) : Array Value := #[s.forwarded, s.cached, s.lost, s.entries, s.line, .int .u64 s.first, .int .u32 s.boot]

structure Sum24 where
  key : Key
  total : Tot
  deriving DecidableEq, Inhabited
def Sum24.c (s : Sum24) : Array Value := #[.bool s.key.src.six, .int .u8 s.key.src.b.x0, .int .u8 s.key.src.b.x1, .int .u8 s.key.src.b.x2, .int .u8 s.key.src.b.x3, .int .u8 s.key.src.b.x4, .int .u8 s.key.src.b.x5, .int .u8 s.key.src.b.x6, .int .u8 s.key.src.b.x7, .int .u8 s.key.src.b.x8, .int .u8 s.key.src.b.x9, .int .u8 s.key.src.b.x10, .int .u8 s.key.src.b.x11, .int .u8 s.key.src.b.x12, .int .u8 s.key.src.b.x13, .int .u8 s.key.src.b.x14, .int .u8 s.key.src.b.x15, .bool s.key.dst.six, .int .u8 s.key.dst.b.x0, .int .u8 s.key.dst.b.x1, .int .u8 s.key.dst.b.x2, .int .u8 s.key.dst.b.x3, .int .u8 s.key.dst.b.x4, .int .u8 s.key.dst.b.x5, .int .u8 s.key.dst.b.x6, .int .u8 s.key.dst.b.x7, .int .u8 s.key.dst.b.x8, .int .u8 s.key.dst.b.x9, .int .u8 s.key.dst.b.x10, .int .u8 s.key.dst.b.x11, .int .u8 s.key.dst.b.x12, .int .u8 s.key.dst.b.x13, .int .u8 s.key.dst.b.x14, .int .u8 s.key.dst.b.x15, .int .u8 s.key.proto, .int .u16 s.key.srcPort, .int .u16 s.key.dstPort, .int .u64 s.total.packets, .int .u64 s.total.bytes]

structure Wri where
  b : Value
  deriving Inhabited
def Wri.c (s : Wri) : Array Value := #[s.b]

theorem siz_B16 (s : B16) : s.c.size = 16 := rfl
theorem extw_B16 (s : B16) : s.c.extract 0 (0 + 16) = s.c := by kernel_rfl

theorem siz_Adr (s : Adr) : s.c.size = 17 := rfl
theorem get_Adr_0 (s : Adr) : s.c[0]? = some (.bool s.six) := rfl
theorem ext_Adr_1_16 (s : Adr) : s.c.extract 1 (1 + 16) = s.b.c := by kernel_rfl
theorem one_Adr (s : Adr) : ∀ u ∈ s.c.toList, u.oneCell' = true := by
  simp [Adr.c, oc_int, oc_bool]
theorem extw_Adr (s : Adr) : s.c.extract 0 (0 + 17) = s.c := by kernel_rfl

theorem siz_Key (s : Key) : s.c.size = 37 := rfl
theorem ext_Key_0_17 (s : Key) : s.c.extract 0 (0 + 17) = s.src.c := by kernel_rfl
theorem get_Key_0 (s : Key) : s.c[0]? = some (.bool s.src.six) := rfl
theorem ext_Key_17_17 (s : Key) : s.c.extract 17 (17 + 17) = s.dst.c := by kernel_rfl
theorem get_Key_17 (s : Key) : s.c[17]? = some (.bool s.dst.six) := rfl
theorem get_Key_34 (s : Key) : s.c[34]? = some (.int .u8 s.proto) := rfl
theorem get_Key_35 (s : Key) : s.c[35]? = some (.int .u16 s.srcPort) := rfl
theorem set_Key_35 (s : Key) (v : Int) : s.c.setIfInBounds 35 (.int .u16 v) = ({ s with srcPort := v } : Key).c := rfl
theorem get_Key_36 (s : Key) : s.c[36]? = some (.int .u16 s.dstPort) := rfl
theorem set_Key_36 (s : Key) (v : Int) : s.c.setIfInBounds 36 (.int .u16 v) = ({ s with dstPort := v } : Key).c := rfl
theorem one_Key (s : Key) : ∀ u ∈ s.c.toList, u.oneCell' = true := by
  simp [Key.c, oc_int, oc_bool]
theorem splw_Key (s : Key) (cs : Array Value) (h : cs.size = 37) : splice cs 0 s.c = s.c := splice_whole (h.trans (siz_Key s).symm)
theorem extw_Key (s : Key) : s.c.extract 0 (0 + 37) = s.c := by kernel_rfl

theorem siz_Tot (s : Tot) : s.c.size = 2 := rfl
theorem get_Tot_0 (s : Tot) : s.c[0]? = some (.int .u64 s.packets) := rfl
theorem get_Tot_1 (s : Tot) : s.c[1]? = some (.int .u64 s.bytes) := rfl
theorem one_Tot (s : Tot) : ∀ u ∈ s.c.toList, u.oneCell' = true := by
  simp [Tot.c, oc_int, oc_bool]
theorem splw_Tot (s : Tot) (cs : Array Value) (h : cs.size = 2) : splice cs 0 s.c = s.c := splice_whole (h.trans (siz_Tot s).symm)
theorem extw_Tot (s : Tot) : s.c.extract 0 (0 + 2) = s.c := by kernel_rfl

theorem siz_Rec (s : Rec) : s.c.size = 44 := rfl
theorem ext_Rec_0_37 (s : Rec) : s.c.extract 0 (0 + 37) = s.key.c := by kernel_rfl
theorem get_Rec_37 (s : Rec) : s.c[37]? = some (.int .u64 s.packets) := rfl
theorem get_Rec_38 (s : Rec) : s.c[38]? = some (.int .u64 s.bytes) := rfl
theorem get_Rec_39 (s : Rec) : s.c[39]? = some (.int .u64 s.first) := rfl
theorem get_Rec_40 (s : Rec) : s.c[40]? = some (.int .u64 s.last) := rfl
theorem get_Rec_42 (s : Rec) : s.c[42]? = some (.int .u8 s.reason) := rfl
theorem one_Rec (s : Rec) : ∀ u ∈ s.c.toList, u.oneCell' = true := by
  simp [Rec.c, oc_int, oc_bool]
theorem splw_Rec (s : Rec) (cs : Array Value) (h : cs.size = 44) : splice cs 0 s.c = s.c := splice_whole (h.trans (siz_Rec s).symm)
theorem extw_Rec (s : Rec) : s.c.extract 0 (0 + 44) = s.c := by kernel_rfl

theorem siz_Note (s : Note) : s.c.size = 45 := rfl
theorem get_Note_0 (s : Note) : s.c[0]? = some (.int .i64 s.kind) := rfl
theorem ext_Note_1_37 (s : Note) : s.c.extract 1 (1 + 37) = s.key.c := by kernel_rfl
theorem ext_Note_38_2 (s : Note) : s.c.extract 38 (38 + 2) = s.total.c := by kernel_rfl
theorem get_Note_40 (s : Note) : s.c[40]? = some (s.records) := rfl
theorem get_Note_41 (s : Note) : s.c[41]? = some (.int .u32 s.epoch) := rfl
theorem get_Note_42 (s : Note) : s.c[42]? = some (.int .u64 s.n) := rfl
theorem get_Note_43 (s : Note) : s.c[43]? = some (.int .u64 s.first) := rfl
theorem get_Note_44 (s : Note) : s.c[44]? = some (.int .u64 s.next) := rfl
theorem extw_Note (s : Note) : s.c.extract 0 (0 + 45) = s.c := by kernel_rfl

theorem siz_Entr (s : Entr) : s.c.size = 6 := rfl
theorem get_Entr_0 (s : Entr) : s.c[0]? = some (.int .u32 s.epoch) := rfl
theorem get_Entr_1 (s : Entr) : s.c[1]? = some (.int .u64 s.n) := rfl
theorem get_Entr_2 (s : Entr) : s.c[2]? = some (s.records) := rfl
theorem set_Entr_2 (s : Entr) (v : Value) : s.c.setIfInBounds 2 (v) = ({ s with records := v } : Entr).c := rfl
theorem get_Entr_3 (s : Entr) : s.c[3]? = some (.bool s.there) := rfl
theorem set_Entr_3 (s : Entr) (v : Bool) : s.c.setIfInBounds 3 (.bool v) = ({ s with there := v } : Entr).c := rfl
theorem get_Entr_4 (s : Entr) : s.c[4]? = some (.bool s.synced) := rfl
theorem set_Entr_4 (s : Entr) (v : Bool) : s.c.setIfInBounds 4 (.bool v) = ({ s with synced := v } : Entr).c := rfl
theorem get_Entr_5 (s : Entr) : s.c[5]? = some (.bool s.credited) := rfl
theorem set_Entr_5 (s : Entr) (v : Bool) : s.c.setIfInBounds 5 (.bool v) = ({ s with credited := v } : Entr).c := rfl
theorem one_Entr (s : Entr) (h_records : s.records.oneCell' = true) : ∀ u ∈ s.c.toList, u.oneCell' = true := by
  simp [Entr.c, oc_int, oc_bool, h_records]
theorem splw_Entr (s : Entr) (cs : Array Value) (h : cs.size = 6) : splice cs 0 s.c = s.c := splice_whole (h.trans (siz_Entr s).symm)
theorem extw_Entr (s : Entr) : s.c.extract 0 (0 + 6) = s.c := by kernel_rfl

theorem siz_Parts (s : Parts) : s.c.size = 12 := rfl
theorem ext_Parts_0_2 (s : Parts) : s.c.extract 0 (0 + 2) = s.forwarded.c := by kernel_rfl
theorem get_Parts_1 (s : Parts) : s.c[1]? = some (.int .u64 s.forwarded.bytes) := rfl
theorem ext_Parts_2_2 (s : Parts) : s.c.extract 2 (2 + 2) = s.cached.c := by kernel_rfl
theorem get_Parts_3 (s : Parts) : s.c[3]? = some (.int .u64 s.cached.bytes) := rfl
theorem ext_Parts_4_2 (s : Parts) : s.c.extract 4 (4 + 2) = s.volatile.c := by kernel_rfl
theorem spl_Parts_4_2 (s : Parts) (v : Tot) : splice s.c 4 v.c = ({ s with volatile := v } : Parts).c := by kernel_rfl
theorem get_Parts_5 (s : Parts) : s.c[5]? = some (.int .u64 s.volatile.bytes) := rfl
theorem ext_Parts_6_2 (s : Parts) : s.c.extract 6 (6 + 2) = s.durable.c := by kernel_rfl
theorem spl_Parts_6_2 (s : Parts) (v : Tot) : splice s.c 6 v.c = ({ s with durable := v } : Parts).c := by kernel_rfl
theorem get_Parts_7 (s : Parts) : s.c[7]? = some (.int .u64 s.durable.bytes) := rfl
theorem ext_Parts_8_2 (s : Parts) : s.c.extract 8 (8 + 2) = s.lost.c := by kernel_rfl
theorem spl_Parts_8_2 (s : Parts) (v : Tot) : splice s.c 8 v.c = ({ s with lost := v } : Parts).c := by kernel_rfl
theorem ext_Parts_10_2 (s : Parts) : s.c.extract 10 (10 + 2) = s.credited.c := by kernel_rfl
theorem spl_Parts_10_2 (s : Parts) (v : Tot) : splice s.c 10 v.c = ({ s with credited := v } : Parts).c := by kernel_rfl
theorem get_Parts_11 (s : Parts) : s.c[11]? = some (.int .u64 s.credited.bytes) := rfl
theorem one_Parts (s : Parts) : ∀ u ∈ s.c.toList, u.oneCell' = true := by
  simp [Parts.c, oc_int, oc_bool]
theorem splw_Parts (s : Parts) (cs : Array Value) (h : cs.size = 12) : splice cs 0 s.c = s.c := splice_whole (h.trans (siz_Parts s).symm)
theorem extw_Parts (s : Parts) : s.c.extract 0 (0 + 12) = s.c := by kernel_rfl

theorem get_Mod_0 (s : Mod) : s.c[0]? = some (s.forwarded) := rfl
theorem get_Mod_1 (s : Mod) : s.c[1]? = some (s.cached) := rfl
theorem set_Mod_1 (s : Mod) (v : Value) : s.c.setIfInBounds 1 (v) = ({ s with cached := v } : Mod).c := rfl
theorem get_Mod_2 (s : Mod) : s.c[2]? = some (s.lost) := rfl
theorem get_Mod_3 (s : Mod) : s.c[3]? = some (s.entries) := rfl
theorem set_Mod_3 (s : Mod) (v : Value) : s.c.setIfInBounds 3 (v) = ({ s with entries := v } : Mod).c := rfl
theorem get_Mod_4 (s : Mod) : s.c[4]? = some (s.line) := rfl
theorem set_Mod_4 (s : Mod) (v : Value) : s.c.setIfInBounds 4 (v) = ({ s with line := v } : Mod).c := rfl
theorem get_Mod_5 (s : Mod) : s.c[5]? = some (.int .u64 s.first) := rfl
theorem set_Mod_5 (s : Mod) (v : Int) : s.c.setIfInBounds 5 (.int .u64 v) = ({ s with first := v } : Mod).c := rfl
theorem get_Mod_6 (s : Mod) : s.c[6]? = some (.int .u32 s.boot) := rfl
theorem set_Mod_6 (s : Mod) (v : Int) : s.c.setIfInBounds 6 (.int .u32 v) = ({ s with boot := v } : Mod).c := rfl
theorem get_Wri_0 (s : Wri) : s.c[0]? = some (s.b) := rfl
theorem set_Wri_0 (s : Wri) (v : Value) : s.c.setIfInBounds 0 (v) = ({ s with b := v } : Wri).c := rfl
theorem sc3 : Sca Try.prog 3 := fun _ => by kernel_rfl
theorem sz3 : Siz Try.prog 3 1 := fun _ => by kernel_rfl
theorem un3 : Try.prog.underlying 3 = some (.int .i64) := by kernel_rfl
theorem sc4 : Sca Try.prog 4 := fun _ => by kernel_rfl
theorem sz4 : Siz Try.prog 4 1 := fun _ => by kernel_rfl
theorem un4 : Try.prog.underlying 4 = some .bool := by kernel_rfl
theorem ze4 : Zer Try.prog 4 (.bool false) := fun _ => by kernel_rfl
theorem sc5 : Sca Try.prog 5 := fun _ => by kernel_rfl
theorem sz5 : Siz Try.prog 5 1 := fun _ => by kernel_rfl
theorem un5 : Try.prog.underlying 5 = some (.int .u8) := by kernel_rfl
theorem agg22 : Agg Try.prog 22 16 := ⟨fun _ => by kernel_rfl, fun _ => by kernel_rfl⟩
theorem ze22 : Zer Try.prog 22 (.agg ({ x0 := 0, x1 := 0, x2 := 0, x3 := 0, x4 := 0, x5 := 0, x6 := 0, x7 := 0, x8 := 0, x9 := 0, x10 := 0, x11 := 0, x12 := 0, x13 := 0, x14 := 0, x15 := 0 } : B16).c) := fun _ => by kernel_rfl
theorem un22 : Try.prog.underlying 22 = some (.array 16 5) := by kernel_rfl
theorem agg24 : Agg Try.prog 24 17 := ⟨fun _ => by kernel_rfl, fun _ => by kernel_rfl⟩
theorem fd24_0 : Fld Try.prog 24 0 0 := fun _ _ _ => by kernel_rfl
theorem fd24_1 : Fld Try.prog 24 1 1 := fun _ _ _ => by kernel_rfl
theorem sc25 : Sca Try.prog 25 := fun _ => by kernel_rfl
theorem sz25 : Siz Try.prog 25 1 := fun _ => by kernel_rfl
theorem un25 : Try.prog.underlying 25 = some (.int .u16) := by kernel_rfl
theorem agg27 : Agg Try.prog 27 37 := ⟨fun _ => by kernel_rfl, fun _ => by kernel_rfl⟩
theorem sz27 : Siz Try.prog 27 37 := fun _ => by kernel_rfl
theorem fd27_0 : Fld Try.prog 27 0 0 := fun _ _ _ => by kernel_rfl
theorem fd27_1 : Fld Try.prog 27 1 17 := fun _ _ _ => by kernel_rfl
theorem fd27_2 : Fld Try.prog 27 2 34 := fun _ _ _ => by kernel_rfl
theorem fd27_3 : Fld Try.prog 27 3 35 := fun _ _ _ => by kernel_rfl
theorem fd27_4 : Fld Try.prog 27 4 36 := fun _ _ _ => by kernel_rfl
theorem ze27 : Zer Try.prog 27 (.agg ({ src := { six := false, b := { x0 := 0, x1 := 0, x2 := 0, x3 := 0, x4 := 0, x5 := 0, x6 := 0, x7 := 0, x8 := 0, x9 := 0, x10 := 0, x11 := 0, x12 := 0, x13 := 0, x14 := 0, x15 := 0 } }, dst := { six := false, b := { x0 := 0, x1 := 0, x2 := 0, x3 := 0, x4 := 0, x5 := 0, x6 := 0, x7 := 0, x8 := 0, x9 := 0, x10 := 0, x11 := 0, x12 := 0, x13 := 0, x14 := 0, x15 := 0 } }, proto := 0, srcPort := 0, dstPort := 0 } : Key).c) := fun _ => by kernel_rfl
theorem sc30 : Sca Try.prog 30 := fun _ => by kernel_rfl
theorem sz30 : Siz Try.prog 30 1 := fun _ => by kernel_rfl
theorem un30 : Try.prog.underlying 30 = some (.int .u64) := by kernel_rfl
theorem agg32 : Agg Try.prog 32 2 := ⟨fun _ => by kernel_rfl, fun _ => by kernel_rfl⟩
theorem sz32 : Siz Try.prog 32 2 := fun _ => by kernel_rfl
theorem fd32_0 : Fld Try.prog 32 0 0 := fun _ _ _ => by kernel_rfl
theorem fd32_1 : Fld Try.prog 32 1 1 := fun _ _ _ => by kernel_rfl
theorem ze32 : Zer Try.prog 32 (.agg ({ packets := 0, bytes := 0 } : Tot).c) := fun _ => by kernel_rfl
theorem agg35 : Agg Try.prog 35 44 := ⟨fun _ => by kernel_rfl, fun _ => by kernel_rfl⟩
theorem sz35 : Siz Try.prog 35 44 := fun _ => by kernel_rfl
theorem fd35_0 : Fld Try.prog 35 0 0 := fun _ _ _ => by kernel_rfl
theorem fd35_1 : Fld Try.prog 35 1 37 := fun _ _ _ => by kernel_rfl
theorem fd35_2 : Fld Try.prog 35 2 38 := fun _ _ _ => by kernel_rfl
theorem fd35_3 : Fld Try.prog 35 3 39 := fun _ _ _ => by kernel_rfl
theorem fd35_4 : Fld Try.prog 35 4 40 := fun _ _ _ => by kernel_rfl
theorem fd35_6 : Fld Try.prog 35 6 42 := fun _ _ _ => by kernel_rfl
theorem ze35 : Zer Try.prog 35 (.agg ({ key := { src := { six := false, b := { x0 := 0, x1 := 0, x2 := 0, x3 := 0, x4 := 0, x5 := 0, x6 := 0, x7 := 0, x8 := 0, x9 := 0, x10 := 0, x11 := 0, x12 := 0, x13 := 0, x14 := 0, x15 := 0 } }, dst := { six := false, b := { x0 := 0, x1 := 0, x2 := 0, x3 := 0, x4 := 0, x5 := 0, x6 := 0, x7 := 0, x8 := 0, x9 := 0, x10 := 0, x11 := 0, x12 := 0, x13 := 0, x14 := 0, x15 := 0 } }, proto := 0, srcPort := 0, dstPort := 0 }, packets := 0, bytes := 0, first := 0, last := 0, flags := 0, reason := 0, cls := 0 } : Rec).c) := fun _ => by kernel_rfl
theorem sc74 : Sca Try.prog 74 := fun _ => by kernel_rfl
theorem sz74 : Siz Try.prog 74 1 := fun _ => by kernel_rfl
theorem un74 : Try.prog.underlying 74 = some (.slice 5) := by kernel_rfl
theorem sc77 : Sca Try.prog 77 := fun _ => by kernel_rfl
theorem sz77 : Siz Try.prog 77 1 := fun _ => by kernel_rfl
theorem sc86 : Sca Try.prog 86 := fun _ => by kernel_rfl
theorem sz86 : Siz Try.prog 86 1 := fun _ => by kernel_rfl
theorem un86 : Try.prog.underlying 86 = some (.slice 27) := by kernel_rfl
theorem sc89 : Sca Try.prog 89 := fun _ => by kernel_rfl
theorem sz89 : Siz Try.prog 89 1 := fun _ => by kernel_rfl
theorem un89 : Try.prog.underlying 89 = some (.slice 3) := by kernel_rfl
theorem sc102 : Sca Try.prog 102 := fun _ => by kernel_rfl
theorem sz102 : Siz Try.prog 102 1 := fun _ => by kernel_rfl
theorem un102 : Try.prog.underlying 102 = some (.slice 35) := by kernel_rfl
theorem un129 : Try.prog.underlying 129 = some (.slice 135) := by kernel_rfl
theorem sc131 : Sca Try.prog 131 := fun _ => by kernel_rfl
theorem un131 : Try.prog.underlying 131 = some (.pointer 207) := by kernel_rfl
theorem agg135 : Agg Try.prog 135 45 := ⟨fun _ => by kernel_rfl, fun _ => by kernel_rfl⟩
theorem sz135 : Siz Try.prog 135 45 := fun _ => by kernel_rfl
theorem fd135_0 : Fld Try.prog 135 0 0 := fun _ _ _ => by kernel_rfl
theorem fd135_1 : Fld Try.prog 135 1 1 := fun _ _ _ => by kernel_rfl
theorem fd135_2 : Fld Try.prog 135 2 38 := fun _ _ _ => by kernel_rfl
theorem fd135_3 : Fld Try.prog 135 3 40 := fun _ _ _ => by kernel_rfl
theorem fd135_4 : Fld Try.prog 135 4 41 := fun _ _ _ => by kernel_rfl
theorem fd135_5 : Fld Try.prog 135 5 42 := fun _ _ _ => by kernel_rfl
theorem fd135_6 : Fld Try.prog 135 6 43 := fun _ _ _ => by kernel_rfl
theorem fd135_7 : Fld Try.prog 135 7 44 := fun _ _ _ => by kernel_rfl
theorem sc136 : Sca Try.prog 136 := fun _ => by kernel_rfl
theorem sz136 : Siz Try.prog 136 1 := fun _ => by kernel_rfl
theorem un136 : Try.prog.underlying 136 = some (.slice 139) := by kernel_rfl
theorem agg139 : Agg Try.prog 139 6 := ⟨fun _ => by kernel_rfl, fun _ => by kernel_rfl⟩
theorem sz139 : Siz Try.prog 139 6 := fun _ => by kernel_rfl
theorem fd139_0 : Fld Try.prog 139 0 0 := fun _ _ _ => by kernel_rfl
theorem fd139_1 : Fld Try.prog 139 1 1 := fun _ _ _ => by kernel_rfl
theorem fd139_2 : Fld Try.prog 139 2 2 := fun _ _ _ => by kernel_rfl
theorem fd139_3 : Fld Try.prog 139 3 3 := fun _ _ _ => by kernel_rfl
theorem fd139_4 : Fld Try.prog 139 4 4 := fun _ _ _ => by kernel_rfl
theorem fd139_5 : Fld Try.prog 139 5 5 := fun _ _ _ => by kernel_rfl
theorem agg142 : Agg Try.prog 142 12 := ⟨fun _ => by kernel_rfl, fun _ => by kernel_rfl⟩
theorem sz142 : Siz Try.prog 142 12 := fun _ => by kernel_rfl
theorem fd142_0 : Fld Try.prog 142 0 0 := fun _ _ _ => by kernel_rfl
theorem fd142_1 : Fld Try.prog 142 1 2 := fun _ _ _ => by kernel_rfl
theorem fd142_2 : Fld Try.prog 142 2 4 := fun _ _ _ => by kernel_rfl
theorem fd142_3 : Fld Try.prog 142 3 6 := fun _ _ _ => by kernel_rfl
theorem fd142_4 : Fld Try.prog 142 4 8 := fun _ _ _ => by kernel_rfl
theorem fd142_5 : Fld Try.prog 142 5 10 := fun _ _ _ => by kernel_rfl
theorem ze142 : Zer Try.prog 142 (.agg ({ forwarded := { packets := 0, bytes := 0 }, cached := { packets := 0, bytes := 0 }, volatile := { packets := 0, bytes := 0 }, durable := { packets := 0, bytes := 0 }, lost := { packets := 0, bytes := 0 }, credited := { packets := 0, bytes := 0 } } : Parts).c) := fun _ => by kernel_rfl
theorem sc205 : Sca Try.prog 205 := fun _ => by kernel_rfl
theorem sz205 : Siz Try.prog 205 1 := fun _ => by kernel_rfl
theorem un205 : Try.prog.underlying 205 = some (.map 27 32) := by kernel_rfl
theorem fd207_0 : Fld Try.prog 207 0 0 := fun _ _ _ => by kernel_rfl
theorem fd207_1 : Fld Try.prog 207 1 1 := fun _ _ _ => by kernel_rfl
theorem fd207_2 : Fld Try.prog 207 2 2 := fun _ _ _ => by kernel_rfl
theorem fd207_3 : Fld Try.prog 207 3 3 := fun _ _ _ => by kernel_rfl
theorem fd207_4 : Fld Try.prog 207 4 4 := fun _ _ _ => by kernel_rfl
theorem fd207_5 : Fld Try.prog 207 5 5 := fun _ _ _ => by kernel_rfl
theorem fd207_6 : Fld Try.prog 207 6 6 := fun _ _ _ => by kernel_rfl
theorem sz209 : Siz Try.prog 209 8 := fun _ => by kernel_rfl
theorem un209 : Try.prog.underlying 209 = some (.array 8 208) := by kernel_rfl
theorem un220 : Try.prog.underlying 220 = some (.int .u64) := by kernel_rfl
theorem fd236_0 : Fld Try.prog 236 0 0 := fun _ _ _ => by kernel_rfl
theorem un266 : Try.prog.underlying 266 = some (.pointer 236) := by kernel_rfl
theorem bld32_0_1 (a0 : Int) (a1 : Int) : ∀ w, (Instr.build 32 [(0, .int .u64 a0), (1, .int .u64 a1)].toArray).run Try.prog w = .ok (.agg ({ packets := a0, bytes := a1 } : Tot).c) w := fun _ => by kernel_rfl
theorem bls89_1 (a0 : Int) : ∀ w, (Instr.buildSlice 89 1 [(0, .int .i64 a0)].toArray).run Try.prog w = .ok (.slice (some ⟨w.heap.size, 0, none⟩) 1 1) (w.alloc (.cells (#[.int .i64 a0]) 3 (0, 0))) := fun _ => by kernel_rfl
theorem bls86_1 (a0 : Key) : ∀ w, (Instr.buildSlice 86 1 [(0, .agg a0.c)].toArray).run Try.prog w = .ok (.slice (some ⟨w.heap.size, 0, none⟩) 1 1) (w.alloc (.cells (a0.c) 27 (0, 0))) := fun _ => by kernel_rfl
theorem bls102_1 (a0 : Rec) : ∀ w, (Instr.buildSlice 102 1 [(0, .agg a0.c)].toArray).run Try.prog w = .ok (.slice (some ⟨w.heap.size, 0, none⟩) 1 1) (w.alloc (.cells (a0.c) 35 (0, 0))) := fun _ => by kernel_rfl
theorem bld27_2_3_4 (a2 : Int) (a3 : Int) (a4 : Int) : ∀ w, (Instr.build 27 [(2, .int .u8 a2), (3, .int .u16 a3), (4, .int .u16 a4)].toArray).run Try.prog w = .ok (.agg ({ src := ({ six := false, b := { x0 := 0, x1 := 0, x2 := 0, x3 := 0, x4 := 0, x5 := 0, x6 := 0, x7 := 0, x8 := 0, x9 := 0, x10 := 0, x11 := 0, x12 := 0, x13 := 0, x14 := 0, x15 := 0 } } : Adr), dst := ({ six := false, b := { x0 := 0, x1 := 0, x2 := 0, x3 := 0, x4 := 0, x5 := 0, x6 := 0, x7 := 0, x8 := 0, x9 := 0, x10 := 0, x11 := 0, x12 := 0, x13 := 0, x14 := 0, x15 := 0 } } : Adr), proto := a2, srcPort := a3, dstPort := a4 } : Key).c) w := fun _ => by kernel_rfl
theorem bld135_0_4 (a0 : Int) (a4 : Int) : ∀ w, (Instr.build 135 [(0, .int .i64 a0), (4, .int .u32 a4)].toArray).run Try.prog w = .ok (.agg ({ kind := a0, key := ({ src := { six := false, b := { x0 := 0, x1 := 0, x2 := 0, x3 := 0, x4 := 0, x5 := 0, x6 := 0, x7 := 0, x8 := 0, x9 := 0, x10 := 0, x11 := 0, x12 := 0, x13 := 0, x14 := 0, x15 := 0 } }, dst := { six := false, b := { x0 := 0, x1 := 0, x2 := 0, x3 := 0, x4 := 0, x5 := 0, x6 := 0, x7 := 0, x8 := 0, x9 := 0, x10 := 0, x11 := 0, x12 := 0, x13 := 0, x14 := 0, x15 := 0 } }, proto := 0, srcPort := 0, dstPort := 0 } : Key), total := ({ packets := 0, bytes := 0 } : Tot), records := .slice none 0 0, epoch := a4, n := 0, first := 0, next := 0 } : Note).c) w := fun _ => by kernel_rfl
theorem bld135_0_1_2 (a0 : Int) (a1 : Key) (a2 : Tot) : ∀ w, (Instr.build 135 [(0, .int .i64 a0), (1, .agg a1.c), (2, .agg a2.c)].toArray).run Try.prog w = .ok (.agg ({ kind := a0, key := a1, total := a2, records := .slice none 0 0, epoch := 0, n := 0, first := 0, next := 0 } : Note).c) w := fun _ => by kernel_rfl
theorem bld135_0_4_3 (a0 : Int) (a4 : Int) (p3 : Option Addr) (n3 c3 : Nat) : ∀ w, (Instr.build 135 [(0, .int .i64 a0), (4, .int .u32 a4), (3, .slice p3 n3 c3)].toArray).run Try.prog w = .ok (.agg ({ kind := a0, key := ({ src := { six := false, b := { x0 := 0, x1 := 0, x2 := 0, x3 := 0, x4 := 0, x5 := 0, x6 := 0, x7 := 0, x8 := 0, x9 := 0, x10 := 0, x11 := 0, x12 := 0, x13 := 0, x14 := 0, x15 := 0 } }, dst := { six := false, b := { x0 := 0, x1 := 0, x2 := 0, x3 := 0, x4 := 0, x5 := 0, x6 := 0, x7 := 0, x8 := 0, x9 := 0, x10 := 0, x11 := 0, x12 := 0, x13 := 0, x14 := 0, x15 := 0 } }, proto := 0, srcPort := 0, dstPort := 0 } : Key), total := ({ packets := 0, bytes := 0 } : Tot), records := .slice p3 n3 c3, epoch := a4, n := 0, first := 0, next := 0 } : Note).c) w := fun _ => by kernel_rfl
theorem bld135_0 (a0 : Int) : ∀ w, (Instr.build 135 [(0, .int .i64 a0)].toArray).run Try.prog w = .ok (.agg ({ kind := a0, key := ({ src := { six := false, b := { x0 := 0, x1 := 0, x2 := 0, x3 := 0, x4 := 0, x5 := 0, x6 := 0, x7 := 0, x8 := 0, x9 := 0, x10 := 0, x11 := 0, x12 := 0, x13 := 0, x14 := 0, x15 := 0 } }, dst := { six := false, b := { x0 := 0, x1 := 0, x2 := 0, x3 := 0, x4 := 0, x5 := 0, x6 := 0, x7 := 0, x8 := 0, x9 := 0, x10 := 0, x11 := 0, x12 := 0, x13 := 0, x14 := 0, x15 := 0 } }, proto := 0, srcPort := 0, dstPort := 0 } : Key), total := ({ packets := 0, bytes := 0 } : Tot), records := .slice none 0 0, epoch := 0, n := 0, first := 0, next := 0 } : Note).c) w := fun _ => by kernel_rfl
theorem bld32_1 (a1 : Int) : ∀ w, (Instr.build 32 [(1, .int .u64 a1)].toArray).run Try.prog w = .ok (.agg ({ packets := 0, bytes := a1 } : Tot).c) w := fun _ => by kernel_rfl
theorem bld142_0 (a0 : Tot) : ∀ w, (Instr.build 142 [(0, .agg a0.c)].toArray).run Try.prog w = .ok (.agg ({ forwarded := a0, cached := ({ packets := 0, bytes := 0 } : Tot), volatile := ({ packets := 0, bytes := 0 } : Tot), durable := ({ packets := 0, bytes := 0 } : Tot), lost := ({ packets := 0, bytes := 0 } : Tot), credited := ({ packets := 0, bytes := 0 } : Tot) } : Parts).c) w := fun _ => by kernel_rfl
theorem bld207_0_1_2 (a0 : Option Nat) (a1 : Option Nat) (a2 : Option Nat) : ∀ w, (Instr.build 207 [(0, .map a0), (1, .map a1), (2, .map a2)].toArray).run Try.prog w = .ok (.agg ({ forwarded := .map a0, cached := .map a1, lost := .map a2, entries := .slice none 0 0, line := .slice none 0 0, first := 0, boot := 0 } : Mod).c) w := fun _ => by kernel_rfl
theorem bls136_1 (a0 : Entr) : ∀ w, (Instr.buildSlice 136 1 [(0, .agg a0.c)].toArray).run Try.prog w = .ok (.slice (some ⟨w.heap.size, 0, none⟩) 1 1) (w.alloc (.cells (a0.c) 139 (0, 0))) := fun _ => by kernel_rfl
theorem bld142_0_1_4 (a0 : Tot) (a1 : Tot) (a4 : Tot) : ∀ w, (Instr.build 142 [(0, .agg a0.c), (1, .agg a1.c), (4, .agg a4.c)].toArray).run Try.prog w = .ok (.agg ({ forwarded := a0, cached := a1, volatile := ({ packets := 0, bytes := 0 } : Tot), durable := ({ packets := 0, bytes := 0 } : Tot), lost := a4, credited := ({ packets := 0, bytes := 0 } : Tot) } : Parts).c) w := fun _ => by kernel_rfl
theorem bld207_0_1_2_3_4_5_6 (a0 : Option Nat) (a1 : Option Nat) (a2 : Option Nat) (p3 : Option Addr) (n3 c3 : Nat) (p4 : Option Addr) (n4 c4 : Nat) (a5 : Int) (a6 : Int) : ∀ w, (Instr.build 207 [(0, .map a0), (1, .map a1), (2, .map a2), (3, .slice p3 n3 c3), (4, .slice p4 n4 c4), (5, .int .u64 a5), (6, .int .u32 a6)].toArray).run Try.prog w = .ok (.agg ({ forwarded := .map a0, cached := .map a1, lost := .map a2, entries := .slice p3 n3 c3, line := .slice p4 n4 c4, first := a5, boot := a6 } : Mod).c) w := fun _ => by kernel_rfl
theorem bls74_1 (a0 : Int) : ∀ w, (Instr.buildSlice 74 1 [(0, .int .u8 a0)].toArray).run Try.prog w = .ok (.slice (some ⟨w.heap.size, 0, none⟩) 1 1) (w.alloc (.cells (#[.int .u8 a0]) 5 (0, 0))) := fun _ => by kernel_rfl
theorem bld35_0_1_2_3_4_6 (a0 : Key) (a1 : Int) (a2 : Int) (a3 : Int) (a4 : Int) (a6 : Int) : ∀ w, (Instr.build 35 [(0, .agg a0.c), (1, .int .u64 a1), (2, .int .u64 a2), (3, .int .u64 a3), (4, .int .u64 a4), (6, .int .u8 a6)].toArray).run Try.prog w = .ok (.agg ({ key := a0, packets := a1, bytes := a2, first := a3, last := a4, flags := 0, reason := a6, cls := 0 } : Rec).c) w := fun _ => by kernel_rfl
theorem bld139_0_1_2_3 (a0 : Int) (a1 : Int) (p2 : Option Addr) (n2 c2 : Nat) (a3 : Bool) : ∀ w, (Instr.build 139 [(0, .int .u32 a0), (1, .int .u64 a1), (2, .slice p2 n2 c2), (3, .bool a3)].toArray).run Try.prog w = .ok (.agg ({ epoch := a0, n := a1, records := .slice p2 n2 c2, there := a3, synced := false, credited := false } : Entr).c) w := fun _ => by kernel_rfl
theorem en18 : Ent Try.prog 18 := enters_of Try.func18 (by kernel_rfl) rfl
theorem en19 : Ent Try.prog 19 := enters_of Try.func19 (by kernel_rfl) rfl
theorem en21 : Ent Try.prog 21 := enters_of Try.func21 (by kernel_rfl) rfl
theorem en43 : Ent Try.prog 43 := enters_of Try.func43 (by kernel_rfl) rfl
theorem en70 : Ent Try.prog 70 := enters_of Try.func70 (by kernel_rfl) rfl
theorem en71 : Ent Try.prog 71 := enters_of Try.func71 (by kernel_rfl) rfl
theorem en72 : Ent Try.prog 72 := enters_of Try.func72 (by kernel_rfl) rfl
theorem en73 : Ent Try.prog 73 := enters_of Try.func73 (by kernel_rfl) rfl
theorem en74 : Ent Try.prog 74 := enters_of Try.func74 (by kernel_rfl) rfl
theorem en75 : Ent Try.prog 75 := enters_of Try.func75 (by kernel_rfl) rfl
theorem en76 : Ent Try.prog 76 := enters_of Try.func76 (by kernel_rfl) rfl
theorem en77 : Ent Try.prog 77 := enters_of Try.func77 (by kernel_rfl) rfl
theorem en79 : Ent Try.prog 79 := enters_of Try.func79 (by kernel_rfl) rfl
theorem en85 : Ent Try.prog 85 := enters_of Try.func85 (by kernel_rfl) rfl
theorem en90 : Ent Try.prog 90 := enters_of Try.func90 (by kernel_rfl) rfl
theorem en94 : Ent Try.prog 94 := enters_of Try.func94 (by kernel_rfl) rfl
theorem en95 : Ent Try.prog 95 := enters_of Try.func95 (by kernel_rfl) rfl
theorem en96 : Ent Try.prog 96 := enters_of Try.func96 (by kernel_rfl) rfl
theorem en115 : Ent Try.prog 115 := enters_of Try.func115 (by kernel_rfl) rfl
theorem en120 : Ent Try.prog 120 := enters_of Try.func120 (by kernel_rfl) rfl
theorem en121 : Ent Try.prog 121 := enters_of Try.func121 (by kernel_rfl) rfl
theorem en122 : Ent Try.prog 122 := enters_of Try.func122 (by kernel_rfl) rfl
theorem en123 : Ent Try.prog 123 := enters_of Try.func123 (by kernel_rfl) rfl
theorem en124 : Ent Try.prog 124 := enters_of Try.func124 (by kernel_rfl) rfl
theorem en125 : Ent Try.prog 125 := enters_of Try.func125 (by kernel_rfl) rfl
theorem en126 : Ent Try.prog 126 := enters_of Try.func126 (by kernel_rfl) rfl
theorem en127 : Ent Try.prog 127 := enters_of Try.func127 (by kernel_rfl) rfl
theorem en128 : Ent Try.prog 128 := enters_of Try.func128 (by kernel_rfl) rfl
theorem en129 : Ent Try.prog 129 := enters_of Try.func129 (by kernel_rfl) rfl
theorem en130 : Ent Try.prog 130 := enters_of Try.func130 (by kernel_rfl) rfl
theorem en131 : Ent Try.prog 131 := enters_of Try.func131 (by kernel_rfl) rfl
theorem en132 : Ent Try.prog 132 := enters_of Try.func132 (by kernel_rfl) rfl
theorem en133 : Ent Try.prog 133 := enters_of Try.func133 (by kernel_rfl) rfl
theorem en134 : Ent Try.prog 134 := enters_of Try.func134 (by kernel_rfl) rfl
theorem en135 : Ent Try.prog 135 := enters_of Try.func135 (by kernel_rfl) rfl
theorem en136 : Ent Try.prog 136 := enters_of Try.func136 (by kernel_rfl) rfl
theorem en137 : Ent Try.prog 137 := enters_of Try.func137 (by kernel_rfl) rfl
theorem en138 : Ent Try.prog 138 := enters_of Try.func138 (by kernel_rfl) rfl
theorem en139 : Ent Try.prog 139 := enters_of Try.func139 (by kernel_rfl) rfl
theorem en146 : Ent Try.prog 146 := enters_of Try.func146 (by kernel_rfl) rfl
theorem en147 : Ent Try.prog 147 := enters_of Try.func147 (by kernel_rfl) rfl
theorem en156 : Ent Try.prog 156 := enters_of Try.func156 (by kernel_rfl) rfl
theorem en157 : Ent Try.prog 157 := enters_of Try.func157 (by kernel_rfl) rfl
theorem en158 : Ent Try.prog 158 := enters_of Try.func158 (by kernel_rfl) rfl
theorem en160 : Ent Try.prog 160 := enters_of Try.func160 (by kernel_rfl) rfl
theorem en161 : Ent Try.prog 161 := enters_of Try.func161 (by kernel_rfl) rfl
theorem en162 : Ent Try.prog 162 := enters_of Try.func162 (by kernel_rfl) rfl
theorem en163 : Ent Try.prog 163 := enters_of Try.func163 (by kernel_rfl) rfl
theorem en164 : Ent Try.prog 164 := enters_of Try.func164 (by kernel_rfl) rfl
theorem en165 : Ent Try.prog 165 := enters_of Try.func165 (by kernel_rfl) rfl
theorem en166 : Ent Try.prog 166 := enters_of Try.func166 (by kernel_rfl) rfl
theorem en167 : Ent Try.prog 167 := enters_of Try.func167 (by kernel_rfl) rfl
theorem en168 : Ent Try.prog 168 := enters_of Try.func168 (by kernel_rfl) rfl
theorem en169 : Ent Try.prog 169 := enters_of Try.func169 (by kernel_rfl) rfl
theorem en170 : Ent Try.prog 170 := enters_of Try.func170 (by kernel_rfl) rfl
theorem en171 : Ent Try.prog 171 := enters_of Try.func171 (by kernel_rfl) rfl
theorem en172 : Ent Try.prog 172 := enters_of Try.func172 (by kernel_rfl) rfl
theorem en173 : Ent Try.prog 173 := enters_of Try.func173 (by kernel_rfl) rfl
theorem en176 : Ent Try.prog 176 := enters_of Try.func176 (by kernel_rfl) rfl
theorem en187 : Ent Try.prog 187 := enters_of Try.func187 (by kernel_rfl) rfl
theorem en188 : Ent Try.prog 188 := enters_of Try.func188 (by kernel_rfl) rfl
theorem en189 : Ent Try.prog 189 := enters_of Try.func189 (by kernel_rfl) rfl
theorem en190 : Ent Try.prog 190 := enters_of Try.func190 (by kernel_rfl) rfl
theorem en199 : Ent Try.prog 199 := enters_of Try.func199 (by kernel_rfl) rfl
theorem en200 : Ent Try.prog 200 := enters_of Try.func200 (by kernel_rfl) rfl
theorem en201 : Ent Try.prog 201 := enters_of Try.func201 (by kernel_rfl) rfl
theorem en202 : Ent Try.prog 202 := enters_of Try.func202 (by kernel_rfl) rfl
theorem en203 : Ent Try.prog 203 := enters_of Try.func203 (by kernel_rfl) rfl
theorem en209 : Ent Try.prog 209 := enters_of Try.func209 (by kernel_rfl) rfl
theorem en210 : Ent Try.prog 210 := enters_of Try.func210 (by kernel_rfl) rfl
theorem en214 : Ent Try.prog 214 := enters_of Try.func214 (by kernel_rfl) rfl
end Go.Proofs.Ytobmcpoejhhemaa
