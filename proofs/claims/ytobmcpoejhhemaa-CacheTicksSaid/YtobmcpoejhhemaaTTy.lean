import Derived.Test.YtobmcpoejhhemaaTEngC
import Derived.Test.YtobmcpoejhhemaaProg
import Derived.KernelRfl
import Derived.Shelf.Abstract
namespace Go.Proofs.Ytobmcpoejhhemaa
open Go.E
theorem oc_int (k : IntKind) (n : Int) : (Value.int k n).oneCell' = true := rfl
theorem get_one (v : Value) : (#[v] : Array Value)[0]? = some v := rfl
theorem set_one (u v : Value) : (#[u] : Array Value).setIfInBounds 0 v = #[v] := rfl
theorem oc_bool (b : Bool) : (Value.bool b).oneCell' = true := rfl

structure B16 where
  x0 : Int
  x1 : Int
  x2 : Int
  x3 : Int
  x4 : Int
  x5 : Int
  x6 : Int
  x7 : Int
  x8 : Int
  x9 : Int
  x10 : Int
  x11 : Int
  x12 : Int
  x13 : Int
  x14 : Int
  x15 : Int
  deriving DecidableEq, Inhabited
def B16.c (b : B16) : Array Value := #[.int .u8 b.x0, .int .u8 b.x1, .int .u8 b.x2, .int .u8 b.x3, .int .u8 b.x4, .int .u8 b.x5, .int .u8 b.x6, .int .u8 b.x7, .int .u8 b.x8, .int .u8 b.x9, .int .u8 b.x10, .int .u8 b.x11, .int .u8 b.x12, .int .u8 b.x13, .int .u8 b.x14, .int .u8 b.x15]

structure Adr where
  six : Bool
  b : B16
  deriving DecidableEq, Inhabited
def Adr.c (s : Adr) : Array Value := #[.bool s.six, .int .u8 s.b.x0, .int .u8 s.b.x1, .int .u8 s.b.x2, .int .u8 s.b.x3, .int .u8 s.b.x4, .int .u8 s.b.x5, .int .u8 s.b.x6, .int .u8 s.b.x7, .int .u8 s.b.x8, .int .u8 s.b.x9, .int .u8 s.b.x10, .int .u8 s.b.x11, .int .u8 s.b.x12, .int .u8 s.b.x13, .int .u8 s.b.x14, .int .u8 s.b.x15]

structure Key where
  src : Adr
  dst : Adr
  proto : Int
  srcPort : Int
  dstPort : Int
  deriving DecidableEq, Inhabited
def Key.c (s : Key) : Array Value := #[.bool s.src.six, .int .u8 s.src.b.x0, .int .u8 s.src.b.x1, .int .u8 s.src.b.x2, .int .u8 s.src.b.x3, .int .u8 s.src.b.x4, .int .u8 s.src.b.x5, .int .u8 s.src.b.x6, .int .u8 s.src.b.x7, .int .u8 s.src.b.x8, .int .u8 s.src.b.x9, .int .u8 s.src.b.x10, .int .u8 s.src.b.x11, .int .u8 s.src.b.x12, .int .u8 s.src.b.x13, .int .u8 s.src.b.x14, .int .u8 s.src.b.x15, .bool s.dst.six, .int .u8 s.dst.b.x0, .int .u8 s.dst.b.x1, .int .u8 s.dst.b.x2, .int .u8 s.dst.b.x3, .int .u8 s.dst.b.x4, .int .u8 s.dst.b.x5, .int .u8 s.dst.b.x6, .int .u8 s.dst.b.x7, .int .u8 s.dst.b.x8, .int .u8 s.dst.b.x9, .int .u8 s.dst.b.x10, .int .u8 s.dst.b.x11, .int .u8 s.dst.b.x12, .int .u8 s.dst.b.x13, .int .u8 s.dst.b.x14, .int .u8 s.dst.b.x15, .int .u8 s.proto, .int .u16 s.srcPort, .int .u16 s.dstPort]

structure Tot where
  packets : Int
  bytes : Int
  deriving DecidableEq, Inhabited
def Tot.c (s : Tot) : Array Value := #[.int .u64 s.packets, .int .u64 s.bytes]

structure Rec where
  key : Key
  packets : Int
  bytes : Int
  first : Int
  last : Int
  flags : Int
  reason : Int
  cls : Int
  deriving DecidableEq, Inhabited
def Rec.c (s : Rec) : Array Value := #[.bool s.key.src.six, .int .u8 s.key.src.b.x0, .int .u8 s.key.src.b.x1, .int .u8 s.key.src.b.x2, .int .u8 s.key.src.b.x3, .int .u8 s.key.src.b.x4, .int .u8 s.key.src.b.x5, .int .u8 s.key.src.b.x6, .int .u8 s.key.src.b.x7, .int .u8 s.key.src.b.x8, .int .u8 s.key.src.b.x9, .int .u8 s.key.src.b.x10, .int .u8 s.key.src.b.x11, .int .u8 s.key.src.b.x12, .int .u8 s.key.src.b.x13, .int .u8 s.key.src.b.x14, .int .u8 s.key.src.b.x15, .bool s.key.dst.six, .int .u8 s.key.dst.b.x0, .int .u8 s.key.dst.b.x1, .int .u8 s.key.dst.b.x2, .int .u8 s.key.dst.b.x3, .int .u8 s.key.dst.b.x4, .int .u8 s.key.dst.b.x5, .int .u8 s.key.dst.b.x6, .int .u8 s.key.dst.b.x7, .int .u8 s.key.dst.b.x8, .int .u8 s.key.dst.b.x9, .int .u8 s.key.dst.b.x10, .int .u8 s.key.dst.b.x11, .int .u8 s.key.dst.b.x12, .int .u8 s.key.dst.b.x13, .int .u8 s.key.dst.b.x14, .int .u8 s.key.dst.b.x15, .int .u8 s.key.proto, .int .u16 s.key.srcPort, .int .u16 s.key.dstPort, .int .u64 s.packets, .int .u64 s.bytes, .int .u64 s.first, .int .u64 s.last, .int .u8 s.flags, .int .u8 s.reason, .int .u8 s.cls]

structure Pkt where
  key : Key
  length : Int
  flags : Int
  fragment : Bool
  deriving DecidableEq, Inhabited
def Pkt.c (s : Pkt) : Array Value := #[.bool s.key.src.six, .int .u8 s.key.src.b.x0, .int .u8 s.key.src.b.x1, .int .u8 s.key.src.b.x2, .int .u8 s.key.src.b.x3, .int .u8 s.key.src.b.x4, .int .u8 s.key.src.b.x5, .int .u8 s.key.src.b.x6, .int .u8 s.key.src.b.x7, .int .u8 s.key.src.b.x8, .int .u8 s.key.src.b.x9, .int .u8 s.key.src.b.x10, .int .u8 s.key.src.b.x11, .int .u8 s.key.src.b.x12, .int .u8 s.key.src.b.x13, .int .u8 s.key.src.b.x14, .int .u8 s.key.src.b.x15, .bool s.key.dst.six, .int .u8 s.key.dst.b.x0, .int .u8 s.key.dst.b.x1, .int .u8 s.key.dst.b.x2, .int .u8 s.key.dst.b.x3, .int .u8 s.key.dst.b.x4, .int .u8 s.key.dst.b.x5, .int .u8 s.key.dst.b.x6, .int .u8 s.key.dst.b.x7, .int .u8 s.key.dst.b.x8, .int .u8 s.key.dst.b.x9, .int .u8 s.key.dst.b.x10, .int .u8 s.key.dst.b.x11, .int .u8 s.key.dst.b.x12, .int .u8 s.key.dst.b.x13, .int .u8 s.key.dst.b.x14, .int .u8 s.key.dst.b.x15, .int .u8 s.key.proto, .int .u16 s.key.srcPort, .int .u16 s.key.dstPort, .int .i64 s.length, .int .u8 s.flags, .bool s.fragment]

structure FVal where
  n : Int
  b : Value
  deriving Inhabited
def FVal.c (s : FVal) : Array Value := #[.int .u64 s.n, s.b]

structure RVal where
  n : Int
  b : Value
  deriving Inhabited
def RVal.c (s : RVal) : Array Value := #[.int .u64 s.n, s.b]

structure FSpec where
  id : Int
  pen : Int
  len : Int
  deriving DecidableEq, Inhabited
def FSpec.c (s : FSpec) : Array Value := #[.int .u16 s.id, .int .u32 s.pen, .int .u16 s.len]

structure Act23 where
  do_ : Int
  k : Key
  n : Int
  deriving DecidableEq, Inhabited
def Act23.c (s : Act23) : Array Value := #[.int .i64 s.do_, .bool s.k.src.six, .int .u8 s.k.src.b.x0, .int .u8 s.k.src.b.x1, .int .u8 s.k.src.b.x2, .int .u8 s.k.src.b.x3, .int .u8 s.k.src.b.x4, .int .u8 s.k.src.b.x5, .int .u8 s.k.src.b.x6, .int .u8 s.k.src.b.x7, .int .u8 s.k.src.b.x8, .int .u8 s.k.src.b.x9, .int .u8 s.k.src.b.x10, .int .u8 s.k.src.b.x11, .int .u8 s.k.src.b.x12, .int .u8 s.k.src.b.x13, .int .u8 s.k.src.b.x14, .int .u8 s.k.src.b.x15, .bool s.k.dst.six, .int .u8 s.k.dst.b.x0, .int .u8 s.k.dst.b.x1, .int .u8 s.k.dst.b.x2, .int .u8 s.k.dst.b.x3, .int .u8 s.k.dst.b.x4, .int .u8 s.k.dst.b.x5, .int .u8 s.k.dst.b.x6, .int .u8 s.k.dst.b.x7, .int .u8 s.k.dst.b.x8, .int .u8 s.k.dst.b.x9, .int .u8 s.k.dst.b.x10, .int .u8 s.k.dst.b.x11, .int .u8 s.k.dst.b.x12, .int .u8 s.k.dst.b.x13, .int .u8 s.k.dst.b.x14, .int .u8 s.k.dst.b.x15, .int .u8 s.k.proto, .int .u16 s.k.srcPort, .int .u16 s.k.dstPort, .int .u64 s.n]

structure Slot where
  used : Bool
  key : Key
  n : Int
  deriving DecidableEq, Inhabited
def Slot.c (s : Slot) : Array Value := #[.bool s.used, .bool s.key.src.six, .int .u8 s.key.src.b.x0, .int .u8 s.key.src.b.x1, .int .u8 s.key.src.b.x2, .int .u8 s.key.src.b.x3, .int .u8 s.key.src.b.x4, .int .u8 s.key.src.b.x5, .int .u8 s.key.src.b.x6, .int .u8 s.key.src.b.x7, .int .u8 s.key.src.b.x8, .int .u8 s.key.src.b.x9, .int .u8 s.key.src.b.x10, .int .u8 s.key.src.b.x11, .int .u8 s.key.src.b.x12, .int .u8 s.key.src.b.x13, .int .u8 s.key.src.b.x14, .int .u8 s.key.src.b.x15, .bool s.key.dst.six, .int .u8 s.key.dst.b.x0, .int .u8 s.key.dst.b.x1, .int .u8 s.key.dst.b.x2, .int .u8 s.key.dst.b.x3, .int .u8 s.key.dst.b.x4, .int .u8 s.key.dst.b.x5, .int .u8 s.key.dst.b.x6, .int .u8 s.key.dst.b.x7, .int .u8 s.key.dst.b.x8, .int .u8 s.key.dst.b.x9, .int .u8 s.key.dst.b.x10, .int .u8 s.key.dst.b.x11, .int .u8 s.key.dst.b.x12, .int .u8 s.key.dst.b.x13, .int .u8 s.key.dst.b.x14, .int .u8 s.key.dst.b.x15, .int .u8 s.key.proto, .int .u16 s.key.srcPort, .int .u16 s.key.dstPort, .int .u64 s.n]

structure Tab where
  slots : Value
  many : Int
  deriving Inhabited
def Tab.c (s : Tab) : Array Value := #[s.slots, .int .i64 s.many]

structure Act24 where
  do_ : Int
  packet : Pkt
  cls : Int
  tick : Int
  deriving DecidableEq, Inhabited
def Act24.c (s : Act24) : Array Value := #[.int .i64 s.do_, .bool s.packet.key.src.six, .int .u8 s.packet.key.src.b.x0, .int .u8 s.packet.key.src.b.x1, .int .u8 s.packet.key.src.b.x2, .int .u8 s.packet.key.src.b.x3, .int .u8 s.packet.key.src.b.x4, .int .u8 s.packet.key.src.b.x5, .int .u8 s.packet.key.src.b.x6, .int .u8 s.packet.key.src.b.x7, .int .u8 s.packet.key.src.b.x8, .int .u8 s.packet.key.src.b.x9, .int .u8 s.packet.key.src.b.x10, .int .u8 s.packet.key.src.b.x11, .int .u8 s.packet.key.src.b.x12, .int .u8 s.packet.key.src.b.x13, .int .u8 s.packet.key.src.b.x14, .int .u8 s.packet.key.src.b.x15, .bool s.packet.key.dst.six, .int .u8 s.packet.key.dst.b.x0, .int .u8 s.packet.key.dst.b.x1, .int .u8 s.packet.key.dst.b.x2, .int .u8 s.packet.key.dst.b.x3, .int .u8 s.packet.key.dst.b.x4, .int .u8 s.packet.key.dst.b.x5, .int .u8 s.packet.key.dst.b.x6, .int .u8 s.packet.key.dst.b.x7, .int .u8 s.packet.key.dst.b.x8, .int .u8 s.packet.key.dst.b.x9, .int .u8 s.packet.key.dst.b.x10, .int .u8 s.packet.key.dst.b.x11, .int .u8 s.packet.key.dst.b.x12, .int .u8 s.packet.key.dst.b.x13, .int .u8 s.packet.key.dst.b.x14, .int .u8 s.packet.key.dst.b.x15, .int .u8 s.packet.key.proto, .int .u16 s.packet.key.srcPort, .int .u16 s.packet.key.dstPort, .int .i64 s.packet.length, .int .u8 s.packet.flags, .bool s.packet.fragment, .int .u8 s.cls, .int .u64 s.tick]

structure Bnd where
  flows : Int
  idle : Int
  active : Int
  packets : Int
  bytes : Int
  deriving DecidableEq, Inhabited
def Bnd.c (s : Bnd) : Array Value := #[.int .i64 s.flows, .int .u64 s.idle, .int .u64 s.active, .int .u64 s.packets, .int .u64 s.bytes]

structure Cac where
  tick : Int
  bounds : Bnd
  places : Value
  flows : Value
  deriving Inhabited
def Cac.c (s : Cac) : Array Value := #[.int .u64 s.tick, .int .i64 s.bounds.flows, .int .u64 s.bounds.idle, .int .u64 s.bounds.active, .int .u64 s.bounds.packets, .int .u64 s.bounds.bytes, s.places, s.flows]

structure Note where
  kind : Int
  key : Key
  total : Tot
  records : Value
  epoch : Int
  n : Int
  first : Int
  next : Int
  deriving Inhabited
def Note.c (s : Note) : Array Value := #[.int .i64 s.kind, .bool s.key.src.six, .int .u8 s.key.src.b.x0, .int .u8 s.key.src.b.x1, .int .u8 s.key.src.b.x2, .int .u8 s.key.src.b.x3, .int .u8 s.key.src.b.x4, .int .u8 s.key.src.b.x5, .int .u8 s.key.src.b.x6, .int .u8 s.key.src.b.x7, .int .u8 s.key.src.b.x8, .int .u8 s.key.src.b.x9, .int .u8 s.key.src.b.x10, .int .u8 s.key.src.b.x11, .int .u8 s.key.src.b.x12, .int .u8 s.key.src.b.x13, .int .u8 s.key.src.b.x14, .int .u8 s.key.src.b.x15, .bool s.key.dst.six, .int .u8 s.key.dst.b.x0, .int .u8 s.key.dst.b.x1, .int .u8 s.key.dst.b.x2, .int .u8 s.key.dst.b.x3, .int .u8 s.key.dst.b.x4, .int .u8 s.key.dst.b.x5, .int .u8 s.key.dst.b.x6, .int .u8 s.key.dst.b.x7, .int .u8 s.key.dst.b.x8, .int .u8 s.key.dst.b.x9, .int .u8 s.key.dst.b.x10, .int .u8 s.key.dst.b.x11, .int .u8 s.key.dst.b.x12, .int .u8 s.key.dst.b.x13, .int .u8 s.key.dst.b.x14, .int .u8 s.key.dst.b.x15, .int .u8 s.key.proto, .int .u16 s.key.srcPort, .int .u16 s.key.dstPort, .int .u64 s.total.packets, .int .u64 s.total.bytes, s.records, .int .u32 s.epoch, .int .u64 s.n, .int .u64 s.first, .int .u64 s.next]

structure Entr where
  epoch : Int
  n : Int
  records : Value
  there : Bool
  synced : Bool
  credited : Bool
  deriving Inhabited
def Entr.c (s : Entr) : Array Value := #[.int .u32 s.epoch, .int .u64 s.n, s.records, .bool s.there, .bool s.synced, .bool s.credited]

structure Parts where
  forwarded : Tot
  cached : Tot
  volatile : Tot
  durable : Tot
  lost : Tot
  credited : Tot
  deriving DecidableEq, Inhabited
def Parts.c (s : Parts) : Array Value := #[.int .u64 s.forwarded.packets, .int .u64 s.forwarded.bytes, .int .u64 s.cached.packets, .int .u64 s.cached.bytes, .int .u64 s.volatile.packets, .int .u64 s.volatile.bytes, .int .u64 s.durable.packets, .int .u64 s.durable.bytes, .int .u64 s.lost.packets, .int .u64 s.lost.bytes, .int .u64 s.credited.packets, .int .u64 s.credited.bytes]

structure Mod where
  forwarded : Value
  cached : Value
  lost : Value
  entries : Value
  line : Value
  first : Int
  boot : Int
  deriving Inhabited
def Mod.c (s : Mod) : Array Value := #[s.forwarded, s.cached, s.lost, s.entries, s.line, .int .u64 s.first, .int .u32 s.boot]

structure Sum24 where
  key : Key
  total : Tot
  deriving DecidableEq, Inhabited
def Sum24.c (s : Sum24) : Array Value := #[.bool s.key.src.six, .int .u8 s.key.src.b.x0, .int .u8 s.key.src.b.x1, .int .u8 s.key.src.b.x2, .int .u8 s.key.src.b.x3, .int .u8 s.key.src.b.x4, .int .u8 s.key.src.b.x5, .int .u8 s.key.src.b.x6, .int .u8 s.key.src.b.x7, .int .u8 s.key.src.b.x8, .int .u8 s.key.src.b.x9, .int .u8 s.key.src.b.x10, .int .u8 s.key.src.b.x11, .int .u8 s.key.src.b.x12, .int .u8 s.key.src.b.x13, .int .u8 s.key.src.b.x14, .int .u8 s.key.src.b.x15, .bool s.key.dst.six, .int .u8 s.key.dst.b.x0, .int .u8 s.key.dst.b.x1, .int .u8 s.key.dst.b.x2, .int .u8 s.key.dst.b.x3, .int .u8 s.key.dst.b.x4, .int .u8 s.key.dst.b.x5, .int .u8 s.key.dst.b.x6, .int .u8 s.key.dst.b.x7, .int .u8 s.key.dst.b.x8, .int .u8 s.key.dst.b.x9, .int .u8 s.key.dst.b.x10, .int .u8 s.key.dst.b.x11, .int .u8 s.key.dst.b.x12, .int .u8 s.key.dst.b.x13, .int .u8 s.key.dst.b.x14, .int .u8 s.key.dst.b.x15, .int .u8 s.key.proto, .int .u16 s.key.srcPort, .int .u16 s.key.dstPort, .int .u64 s.total.packets, .int .u64 s.total.bytes]

structure Wri where
  b : Value
  deriving Inhabited
def Wri.c (s : Wri) : Array Value := #[s.b]

theorem siz_B16 (s : B16) : s.c.size = 16 := rfl
theorem extw_B16 (s : B16) : s.c.extract 0 (0 + 16) = s.c := by kernel_rfl

theorem siz_Adr (s : Adr) : s.c.size = 17 := rfl
theorem get_Adr_0 (s : Adr) : s.c[0]? = some (.bool s.six) := rfl
theorem ext_Adr_1_16 (s : Adr) : s.c.extract 1 (1 + 16) = s.b.c := by kernel_rfl
theorem one_Adr (s : Adr) : ∀ u ∈ s.c.toList, u.oneCell' = true := by
  simp [Adr.c, oc_int, oc_bool]
theorem extw_Adr (s : Adr) : s.c.extract 0 (0 + 17) = s.c := by kernel_rfl

theorem siz_Key (s : Key) : s.c.size = 37 := rfl
theorem ext_Key_0_17 (s : Key) : s.c.extract 0 (0 + 17) = s.src.c := by kernel_rfl
theorem get_Key_0 (s : Key) : s.c[0]? = some (.bool s.src.six) := rfl
theorem ext_Key_17_17 (s : Key) : s.c.extract 17 (17 + 17) = s.dst.c := by kernel_rfl
theorem get_Key_17 (s : Key) : s.c[17]? = some (.bool s.dst.six) := rfl
theorem get_Key_34 (s : Key) : s.c[34]? = some (.int .u8 s.proto) := rfl
theorem get_Key_35 (s : Key) : s.c[35]? = some (.int .u16 s.srcPort) := rfl
theorem set_Key_35 (s : Key) (v : Int) : s.c.setIfInBounds 35 (.int .u16 v) = ({ s with srcPort := v } : Key).c := rfl
theorem get_Key_36 (s : Key) : s.c[36]? = some (.int .u16 s.dstPort) := rfl
theorem set_Key_36 (s : Key) (v : Int) : s.c.setIfInBounds 36 (.int .u16 v) = ({ s with dstPort := v } : Key).c := rfl
theorem one_Key (s : Key) : ∀ u ∈ s.c.toList, u.oneCell' = true := by
  simp [Key.c, oc_int, oc_bool]
theorem splw_Key (s : Key) (cs : Array Value) (h : cs.size = 37) : splice cs 0 s.c = s.c := splice_whole (h.trans (siz_Key s).symm)
theorem extw_Key (s : Key) : s.c.extract 0 (0 + 37) = s.c := by kernel_rfl

theorem siz_Tot (s : Tot) : s.c.size = 2 := rfl
theorem get_Tot_0 (s : Tot) : s.c[0]? = some (.int .u64 s.packets) := rfl
theorem get_Tot_1 (s : Tot) : s.c[1]? = some (.int .u64 s.bytes) := rfl
theorem one_Tot (s : Tot) : ∀ u ∈ s.c.toList, u.oneCell' = true := by
  simp [Tot.c, oc_int, oc_bool]
theorem splw_Tot (s : Tot) (cs : Array Value) (h : cs.size = 2) : splice cs 0 s.c = s.c := splice_whole (h.trans (siz_Tot s).symm)
theorem extw_Tot (s : Tot) : s.c.extract 0 (0 + 2) = s.c := by kernel_rfl

theorem siz_Rec (s : Rec) : s.c.size = 44 := rfl
theorem ext_Rec_0_37 (s : Rec) : s.c.extract 0 (0 + 37) = s.key.c := by kernel_rfl
theorem get_Rec_37 (s : Rec) : s.c[37]? = some (.int .u64 s.packets) := rfl
theorem set_Rec_37 (s : Rec) (v : Int) : s.c.setIfInBounds 37 (.int .u64 v) = ({ s with packets := v } : Rec).c := rfl
theorem get_Rec_38 (s : Rec) : s.c[38]? = some (.int .u64 s.bytes) := rfl
theorem set_Rec_38 (s : Rec) (v : Int) : s.c.setIfInBounds 38 (.int .u64 v) = ({ s with bytes := v } : Rec).c := rfl
theorem get_Rec_39 (s : Rec) : s.c[39]? = some (.int .u64 s.first) := rfl
theorem get_Rec_40 (s : Rec) : s.c[40]? = some (.int .u64 s.last) := rfl
theorem set_Rec_40 (s : Rec) (v : Int) : s.c.setIfInBounds 40 (.int .u64 v) = ({ s with last := v } : Rec).c := rfl
theorem get_Rec_41 (s : Rec) : s.c[41]? = some (.int .u8 s.flags) := rfl
theorem set_Rec_41 (s : Rec) (v : Int) : s.c.setIfInBounds 41 (.int .u8 v) = ({ s with flags := v } : Rec).c := rfl
theorem get_Rec_42 (s : Rec) : s.c[42]? = some (.int .u8 s.reason) := rfl
theorem set_Rec_42 (s : Rec) (v : Int) : s.c.setIfInBounds 42 (.int .u8 v) = ({ s with reason := v } : Rec).c := rfl
theorem one_Rec (s : Rec) : ∀ u ∈ s.c.toList, u.oneCell' = true := by
  simp [Rec.c, oc_int, oc_bool]
theorem splw_Rec (s : Rec) (cs : Array Value) (h : cs.size = 44) : splice cs 0 s.c = s.c := splice_whole (h.trans (siz_Rec s).symm)
theorem extw_Rec (s : Rec) : s.c.extract 0 (0 + 44) = s.c := by kernel_rfl

theorem siz_Pkt (s : Pkt) : s.c.size = 40 := rfl
theorem ext_Pkt_0_37 (s : Pkt) : s.c.extract 0 (0 + 37) = s.key.c := by kernel_rfl
theorem get_Pkt_34 (s : Pkt) : s.c[34]? = some (.int .u8 s.key.proto) := rfl
theorem get_Pkt_37 (s : Pkt) : s.c[37]? = some (.int .i64 s.length) := rfl
theorem get_Pkt_38 (s : Pkt) : s.c[38]? = some (.int .u8 s.flags) := rfl
theorem get_Pkt_39 (s : Pkt) : s.c[39]? = some (.bool s.fragment) := rfl
theorem one_Pkt (s : Pkt) : ∀ u ∈ s.c.toList, u.oneCell' = true := by
  simp [Pkt.c, oc_int, oc_bool]
theorem splw_Pkt (s : Pkt) (cs : Array Value) (h : cs.size = 40) : splice cs 0 s.c = s.c := splice_whole (h.trans (siz_Pkt s).symm)
theorem extw_Pkt (s : Pkt) : s.c.extract 0 (0 + 40) = s.c := by kernel_rfl

theorem siz_Slot (s : Slot) : s.c.size = 39 := rfl
theorem get_Slot_0 (s : Slot) : s.c[0]? = some (.bool s.used) := rfl
theorem ext_Slot_1_37 (s : Slot) : s.c.extract 1 (1 + 37) = s.key.c := by kernel_rfl
theorem get_Slot_38 (s : Slot) : s.c[38]? = some (.int .u64 s.n) := rfl
theorem one_Slot (s : Slot) : ∀ u ∈ s.c.toList, u.oneCell' = true := by
  simp [Slot.c, oc_int, oc_bool]
theorem splw_Slot (s : Slot) (cs : Array Value) (h : cs.size = 39) : splice cs 0 s.c = s.c := splice_whole (h.trans (siz_Slot s).symm)
theorem extw_Slot (s : Slot) : s.c.extract 0 (0 + 39) = s.c := by kernel_rfl

theorem get_Tab_0 (s : Tab) : s.c[0]? = some (s.slots) := rfl
theorem get_Tab_1 (s : Tab) : s.c[1]? = some (.int .i64 s.many) := rfl
theorem set_Tab_1 (s : Tab) (v : Int) : s.c.setIfInBounds 1 (.int .i64 v) = ({ s with many := v } : Tab).c := rfl
theorem siz_Act24 (s : Act24) : s.c.size = 43 := rfl
theorem ext_Act24_1_40 (s : Act24) : s.c.extract 1 (1 + 40) = s.packet.c := by kernel_rfl
theorem get_Act24_41 (s : Act24) : s.c[41]? = some (.int .u8 s.cls) := rfl
theorem get_Act24_42 (s : Act24) : s.c[42]? = some (.int .u64 s.tick) := rfl
theorem siz_Bnd (s : Bnd) : s.c.size = 5 := rfl
theorem get_Bnd_0 (s : Bnd) : s.c[0]? = some (.int .i64 s.flows) := rfl
theorem get_Bnd_1 (s : Bnd) : s.c[1]? = some (.int .u64 s.idle) := rfl
theorem get_Bnd_2 (s : Bnd) : s.c[2]? = some (.int .u64 s.active) := rfl
theorem get_Bnd_3 (s : Bnd) : s.c[3]? = some (.int .u64 s.packets) := rfl
theorem get_Bnd_4 (s : Bnd) : s.c[4]? = some (.int .u64 s.bytes) := rfl
theorem extw_Bnd (s : Bnd) : s.c.extract 0 (0 + 5) = s.c := by kernel_rfl

theorem get_Cac_0 (s : Cac) : s.c[0]? = some (.int .u64 s.tick) := rfl
theorem set_Cac_0 (s : Cac) (v : Int) : s.c.setIfInBounds 0 (.int .u64 v) = ({ s with tick := v } : Cac).c := rfl
theorem get_Cac_1 (s : Cac) : s.c[1]? = some (.int .i64 s.bounds.flows) := rfl
theorem get_Cac_2 (s : Cac) : s.c[2]? = some (.int .u64 s.bounds.idle) := rfl
theorem get_Cac_3 (s : Cac) : s.c[3]? = some (.int .u64 s.bounds.active) := rfl
theorem get_Cac_4 (s : Cac) : s.c[4]? = some (.int .u64 s.bounds.packets) := rfl
theorem get_Cac_5 (s : Cac) : s.c[5]? = some (.int .u64 s.bounds.bytes) := rfl
theorem get_Cac_6 (s : Cac) : s.c[6]? = some (s.places) := rfl
theorem get_Cac_7 (s : Cac) : s.c[7]? = some (s.flows) := rfl
theorem set_Cac_7 (s : Cac) (v : Value) : s.c.setIfInBounds 7 (v) = ({ s with flows := v } : Cac).c := rfl
theorem get_Wri_0 (s : Wri) : s.c[0]? = some (s.b) := rfl
theorem set_Wri_0 (s : Wri) (v : Value) : s.c.setIfInBounds 0 (v) = ({ s with b := v } : Wri).c := rfl
theorem sc3 : Sca Try.prog 3 := fun _ => by kernel_rfl
theorem sz3 : Siz Try.prog 3 1 := fun _ => by kernel_rfl
theorem un3 : Try.prog.underlying 3 = some (.int .i64) := by kernel_rfl
theorem ze3 : Zer Try.prog 3 (.int .i64 0) := fun _ => by kernel_rfl
theorem sc4 : Sca Try.prog 4 := fun _ => by kernel_rfl
theorem un4 : Try.prog.underlying 4 = some .bool := by kernel_rfl
theorem sc5 : Sca Try.prog 5 := fun _ => by kernel_rfl
theorem sz5 : Siz Try.prog 5 1 := fun _ => by kernel_rfl
theorem un5 : Try.prog.underlying 5 = some (.int .u8) := by kernel_rfl
theorem agg22 : Agg Try.prog 22 16 := ⟨fun _ => by kernel_rfl, fun _ => by kernel_rfl⟩
theorem ze22 : Zer Try.prog 22 (.agg ({ x0 := 0, x1 := 0, x2 := 0, x3 := 0, x4 := 0, x5 := 0, x6 := 0, x7 := 0, x8 := 0, x9 := 0, x10 := 0, x11 := 0, x12 := 0, x13 := 0, x14 := 0, x15 := 0 } : B16).c) := fun _ => by kernel_rfl
theorem un22 : Try.prog.underlying 22 = some (.array 16 5) := by kernel_rfl
theorem agg24 : Agg Try.prog 24 17 := ⟨fun _ => by kernel_rfl, fun _ => by kernel_rfl⟩
theorem fd24_0 : Fld Try.prog 24 0 0 := fun _ _ _ => by kernel_rfl
theorem fd24_1 : Fld Try.prog 24 1 1 := fun _ _ _ => by kernel_rfl
theorem sc25 : Sca Try.prog 25 := fun _ => by kernel_rfl
theorem sz25 : Siz Try.prog 25 1 := fun _ => by kernel_rfl
theorem un25 : Try.prog.underlying 25 = some (.int .u16) := by kernel_rfl
theorem agg27 : Agg Try.prog 27 37 := ⟨fun _ => by kernel_rfl, fun _ => by kernel_rfl⟩
theorem sz27 : Siz Try.prog 27 37 := fun _ => by kernel_rfl
theorem fd27_0 : Fld Try.prog 27 0 0 := fun _ _ _ => by kernel_rfl
theorem fd27_1 : Fld Try.prog 27 1 17 := fun _ _ _ => by kernel_rfl
theorem fd27_2 : Fld Try.prog 27 2 34 := fun _ _ _ => by kernel_rfl
theorem fd27_3 : Fld Try.prog 27 3 35 := fun _ _ _ => by kernel_rfl
theorem fd27_4 : Fld Try.prog 27 4 36 := fun _ _ _ => by kernel_rfl
theorem ze27 : Zer Try.prog 27 (.agg ({ src := { six := false, b := { x0 := 0, x1 := 0, x2 := 0, x3 := 0, x4 := 0, x5 := 0, x6 := 0, x7 := 0, x8 := 0, x9 := 0, x10 := 0, x11 := 0, x12 := 0, x13 := 0, x14 := 0, x15 := 0 } }, dst := { six := false, b := { x0 := 0, x1 := 0, x2 := 0, x3 := 0, x4 := 0, x5 := 0, x6 := 0, x7 := 0, x8 := 0, x9 := 0, x10 := 0, x11 := 0, x12 := 0, x13 := 0, x14 := 0, x15 := 0 } }, proto := 0, srcPort := 0, dstPort := 0 } : Key).c) := fun _ => by kernel_rfl
theorem sc30 : Sca Try.prog 30 := fun _ => by kernel_rfl
theorem sz30 : Siz Try.prog 30 1 := fun _ => by kernel_rfl
theorem un30 : Try.prog.underlying 30 = some (.int .u64) := by kernel_rfl
theorem agg32 : Agg Try.prog 32 2 := ⟨fun _ => by kernel_rfl, fun _ => by kernel_rfl⟩
theorem sz32 : Siz Try.prog 32 2 := fun _ => by kernel_rfl
theorem fd32_0 : Fld Try.prog 32 0 0 := fun _ _ _ => by kernel_rfl
theorem fd32_1 : Fld Try.prog 32 1 1 := fun _ _ _ => by kernel_rfl
theorem ze32 : Zer Try.prog 32 (.agg ({ packets := 0, bytes := 0 } : Tot).c) := fun _ => by kernel_rfl
theorem agg35 : Agg Try.prog 35 44 := ⟨fun _ => by kernel_rfl, fun _ => by kernel_rfl⟩
theorem sz35 : Siz Try.prog 35 44 := fun _ => by kernel_rfl
theorem fd35_0 : Fld Try.prog 35 0 0 := fun _ _ _ => by kernel_rfl
theorem fd35_1 : Fld Try.prog 35 1 37 := fun _ _ _ => by kernel_rfl
theorem fd35_2 : Fld Try.prog 35 2 38 := fun _ _ _ => by kernel_rfl
theorem fd35_3 : Fld Try.prog 35 3 39 := fun _ _ _ => by kernel_rfl
theorem fd35_4 : Fld Try.prog 35 4 40 := fun _ _ _ => by kernel_rfl
theorem fd35_5 : Fld Try.prog 35 5 41 := fun _ _ _ => by kernel_rfl
theorem fd35_6 : Fld Try.prog 35 6 42 := fun _ _ _ => by kernel_rfl
theorem ze35 : Zer Try.prog 35 (.agg ({ key := { src := { six := false, b := { x0 := 0, x1 := 0, x2 := 0, x3 := 0, x4 := 0, x5 := 0, x6 := 0, x7 := 0, x8 := 0, x9 := 0, x10 := 0, x11 := 0, x12 := 0, x13 := 0, x14 := 0, x15 := 0 } }, dst := { six := false, b := { x0 := 0, x1 := 0, x2 := 0, x3 := 0, x4 := 0, x5 := 0, x6 := 0, x7 := 0, x8 := 0, x9 := 0, x10 := 0, x11 := 0, x12 := 0, x13 := 0, x14 := 0, x15 := 0 } }, proto := 0, srcPort := 0, dstPort := 0 }, packets := 0, bytes := 0, first := 0, last := 0, flags := 0, reason := 0, cls := 0 } : Rec).c) := fun _ => by kernel_rfl
theorem agg39 : Agg Try.prog 39 40 := ⟨fun _ => by kernel_rfl, fun _ => by kernel_rfl⟩
theorem sz39 : Siz Try.prog 39 40 := fun _ => by kernel_rfl
theorem fd39_0 : Fld Try.prog 39 0 0 := fun _ _ _ => by kernel_rfl
theorem fd39_1 : Fld Try.prog 39 1 37 := fun _ _ _ => by kernel_rfl
theorem fd39_2 : Fld Try.prog 39 2 38 := fun _ _ _ => by kernel_rfl
theorem fd39_3 : Fld Try.prog 39 3 39 := fun _ _ _ => by kernel_rfl
theorem ze39 : Zer Try.prog 39 (.agg ({ key := { src := { six := false, b := { x0 := 0, x1 := 0, x2 := 0, x3 := 0, x4 := 0, x5 := 0, x6 := 0, x7 := 0, x8 := 0, x9 := 0, x10 := 0, x11 := 0, x12 := 0, x13 := 0, x14 := 0, x15 := 0 } }, dst := { six := false, b := { x0 := 0, x1 := 0, x2 := 0, x3 := 0, x4 := 0, x5 := 0, x6 := 0, x7 := 0, x8 := 0, x9 := 0, x10 := 0, x11 := 0, x12 := 0, x13 := 0, x14 := 0, x15 := 0 } }, proto := 0, srcPort := 0, dstPort := 0 }, length := 0, flags := 0, fragment := false } : Pkt).c) := fun _ => by kernel_rfl
theorem sc74 : Sca Try.prog 74 := fun _ => by kernel_rfl
theorem sz74 : Siz Try.prog 74 1 := fun _ => by kernel_rfl
theorem un74 : Try.prog.underlying 74 = some (.slice 5) := by kernel_rfl
theorem sc83 : Sca Try.prog 83 := fun _ => by kernel_rfl
theorem un83 : Try.prog.underlying 83 = some (.pointer 172) := by kernel_rfl
theorem un89 : Try.prog.underlying 89 = some (.slice 3) := by kernel_rfl
theorem sz100 : Siz Try.prog 100 43 := fun _ => by kernel_rfl
theorem fd100_1 : Fld Try.prog 100 1 1 := fun _ _ _ => by kernel_rfl
theorem fd100_2 : Fld Try.prog 100 2 41 := fun _ _ _ => by kernel_rfl
theorem fd100_3 : Fld Try.prog 100 3 42 := fun _ _ _ => by kernel_rfl
theorem sc101 : Sca Try.prog 101 := fun _ => by kernel_rfl
theorem un101 : Try.prog.underlying 101 = some (.pointer 178) := by kernel_rfl
theorem sc102 : Sca Try.prog 102 := fun _ => by kernel_rfl
theorem sz102 : Siz Try.prog 102 1 := fun _ => by kernel_rfl
theorem un102 : Try.prog.underlying 102 = some (.slice 35) := by kernel_rfl
theorem sc124 : Sca Try.prog 124 := fun _ => by kernel_rfl
theorem un124 : Try.prog.underlying 124 = some (.slice 175) := by kernel_rfl
theorem agg148 : Agg Try.prog 148 5 := ⟨fun _ => by kernel_rfl, fun _ => by kernel_rfl⟩
theorem fd148_0 : Fld Try.prog 148 0 0 := fun _ _ _ => by kernel_rfl
theorem fd148_1 : Fld Try.prog 148 1 1 := fun _ _ _ => by kernel_rfl
theorem fd148_2 : Fld Try.prog 148 2 2 := fun _ _ _ => by kernel_rfl
theorem fd148_3 : Fld Try.prog 148 3 3 := fun _ _ _ => by kernel_rfl
theorem fd148_4 : Fld Try.prog 148 4 4 := fun _ _ _ => by kernel_rfl
theorem un149 : Try.prog.underlying 149 = some (.slice 100) := by kernel_rfl
theorem fd172_0 : Fld Try.prog 172 0 0 := fun _ _ _ => by kernel_rfl
theorem fd172_1 : Fld Try.prog 172 1 1 := fun _ _ _ => by kernel_rfl
theorem agg175 : Agg Try.prog 175 39 := ⟨fun _ => by kernel_rfl, fun _ => by kernel_rfl⟩
theorem sz175 : Siz Try.prog 175 39 := fun _ => by kernel_rfl
theorem fd175_0 : Fld Try.prog 175 0 0 := fun _ _ _ => by kernel_rfl
theorem fd175_1 : Fld Try.prog 175 1 1 := fun _ _ _ => by kernel_rfl
theorem fd175_2 : Fld Try.prog 175 2 38 := fun _ _ _ => by kernel_rfl
theorem ze175 : Zer Try.prog 175 (.agg ({ used := false, key := { src := { six := false, b := { x0 := 0, x1 := 0, x2 := 0, x3 := 0, x4 := 0, x5 := 0, x6 := 0, x7 := 0, x8 := 0, x9 := 0, x10 := 0, x11 := 0, x12 := 0, x13 := 0, x14 := 0, x15 := 0 } }, dst := { six := false, b := { x0 := 0, x1 := 0, x2 := 0, x3 := 0, x4 := 0, x5 := 0, x6 := 0, x7 := 0, x8 := 0, x9 := 0, x10 := 0, x11 := 0, x12 := 0, x13 := 0, x14 := 0, x15 := 0 } }, proto := 0, srcPort := 0, dstPort := 0 }, n := 0 } : Slot).c) := fun _ => by kernel_rfl
theorem fd178_0 : Fld Try.prog 178 0 0 := fun _ _ _ => by kernel_rfl
theorem fd178_1 : Fld Try.prog 178 1 1 := fun _ _ _ => by kernel_rfl
theorem fd178_2 : Fld Try.prog 178 2 6 := fun _ _ _ => by kernel_rfl
theorem fd178_3 : Fld Try.prog 178 3 7 := fun _ _ _ => by kernel_rfl
theorem un220 : Try.prog.underlying 220 = some (.int .u64) := by kernel_rfl
theorem fd236_0 : Fld Try.prog 236 0 0 := fun _ _ _ => by kernel_rfl
theorem un266 : Try.prog.underlying 266 = some (.pointer 236) := by kernel_rfl
theorem bld32_0_1 (a0 : Int) (a1 : Int) : ∀ w, (Instr.build 32 [(0, .int .u64 a0), (1, .int .u64 a1)].toArray).run Try.prog w = .ok (.agg ({ packets := a0, bytes := a1 } : Tot).c) w := fun _ => by kernel_rfl
theorem bld35_0_3_4_7 (a0 : Key) (a3 : Int) (a4 : Int) (a7 : Int) : ∀ w, (Instr.build 35 [(0, .agg a0.c), (3, .int .u64 a3), (4, .int .u64 a4), (7, .int .u8 a7)].toArray).run Try.prog w = .ok (.agg ({ key := a0, packets := 0, bytes := 0, first := a3, last := a4, flags := 0, reason := 0, cls := a7 } : Rec).c) w := fun _ => by kernel_rfl
theorem bld172_0 (p0 : Option Addr) (n0 c0 : Nat) : ∀ w, (Instr.build 172 [(0, .slice p0 n0 c0)].toArray).run Try.prog w = .ok (.agg ({ slots := .slice p0 n0 c0, many := 0 } : Tab).c) w := fun _ => by kernel_rfl
theorem bld175_0_1_2 (a0 : Bool) (a1 : Key) (a2 : Int) : ∀ w, (Instr.build 175 [(0, .bool a0), (1, .agg a1.c), (2, .int .u64 a2)].toArray).run Try.prog w = .ok (.agg ({ used := a0, key := a1, n := a2 } : Slot).c) w := fun _ => by kernel_rfl
theorem bld175_  : ∀ w, (Instr.build 175 [].toArray).run Try.prog w = .ok (.agg ({ used := false, key := ({ src := { six := false, b := { x0 := 0, x1 := 0, x2 := 0, x3 := 0, x4 := 0, x5 := 0, x6 := 0, x7 := 0, x8 := 0, x9 := 0, x10 := 0, x11 := 0, x12 := 0, x13 := 0, x14 := 0, x15 := 0 } }, dst := { six := false, b := { x0 := 0, x1 := 0, x2 := 0, x3 := 0, x4 := 0, x5 := 0, x6 := 0, x7 := 0, x8 := 0, x9 := 0, x10 := 0, x11 := 0, x12 := 0, x13 := 0, x14 := 0, x15 := 0 } }, proto := 0, srcPort := 0, dstPort := 0 } : Key), n := 0 } : Slot).c) w := fun _ => by kernel_rfl
theorem bls102_1 (a0 : Rec) : ∀ w, (Instr.buildSlice 102 1 [(0, .agg a0.c)].toArray).run Try.prog w = .ok (.slice (some ⟨w.heap.size, 0, none⟩) 1 1) (w.alloc (.cells (a0.c) 35 (0, 0))) := fun _ => by kernel_rfl
theorem bls74_1 (a0 : Int) : ∀ w, (Instr.buildSlice 74 1 [(0, .int .u8 a0)].toArray).run Try.prog w = .ok (.slice (some ⟨w.heap.size, 0, none⟩) 1 1) (w.alloc (.cells (#[.int .u8 a0]) 5 (0, 0))) := fun _ => by kernel_rfl
theorem bls89_2 (a0 : Int) (a1 : Int) : ∀ w, (Instr.buildSlice 89 2 [(0, .int .i64 a0), (1, .int .i64 a1)].toArray).run Try.prog w = .ok (.slice (some ⟨w.heap.size, 0, none⟩) 2 2) (w.alloc (.cells (#[.int .i64 a0, .int .i64 a1]) 3 (0, 0))) := fun _ => by kernel_rfl
theorem en16 : Ent Try.prog 16 := enters_of Try.func16 (by kernel_rfl) rfl
theorem en17 : Ent Try.prog 17 := enters_of Try.func17 (by kernel_rfl) rfl
theorem en18 : Ent Try.prog 18 := enters_of Try.func18 (by kernel_rfl) rfl
theorem en19 : Ent Try.prog 19 := enters_of Try.func19 (by kernel_rfl) rfl
theorem en39 : Ent Try.prog 39 := enters_of Try.func39 (by kernel_rfl) rfl
theorem en42 : Ent Try.prog 42 := enters_of Try.func42 (by kernel_rfl) rfl
theorem en43 : Ent Try.prog 43 := enters_of Try.func43 (by kernel_rfl) rfl
theorem en44 : Ent Try.prog 44 := enters_of Try.func44 (by kernel_rfl) rfl
theorem en46 : Ent Try.prog 46 := enters_of Try.func46 (by kernel_rfl) rfl
theorem en48 : Ent Try.prog 48 := enters_of Try.func48 (by kernel_rfl) rfl
theorem en49 : Ent Try.prog 49 := enters_of Try.func49 (by kernel_rfl) rfl
theorem en51 : Ent Try.prog 51 := enters_of Try.func51 (by kernel_rfl) rfl
theorem en56 : Ent Try.prog 56 := enters_of Try.func56 (by kernel_rfl) rfl
theorem en63 : Ent Try.prog 63 := enters_of Try.func63 (by kernel_rfl) rfl
theorem en66 : Ent Try.prog 66 := enters_of Try.func66 (by kernel_rfl) rfl
theorem en80 : Ent Try.prog 80 := enters_of Try.func80 (by kernel_rfl) rfl
theorem en85 : Ent Try.prog 85 := enters_of Try.func85 (by kernel_rfl) rfl
theorem en90 : Ent Try.prog 90 := enters_of Try.func90 (by kernel_rfl) rfl
theorem en93 : Ent Try.prog 93 := enters_of Try.func93 (by kernel_rfl) rfl
theorem en94 : Ent Try.prog 94 := enters_of Try.func94 (by kernel_rfl) rfl
theorem en95 : Ent Try.prog 95 := enters_of Try.func95 (by kernel_rfl) rfl
theorem en96 : Ent Try.prog 96 := enters_of Try.func96 (by kernel_rfl) rfl
theorem en97 : Ent Try.prog 97 := enters_of Try.func97 (by kernel_rfl) rfl
theorem en98 : Ent Try.prog 98 := enters_of Try.func98 (by kernel_rfl) rfl
theorem en99 : Ent Try.prog 99 := enters_of Try.func99 (by kernel_rfl) rfl
theorem en100 : Ent Try.prog 100 := enters_of Try.func100 (by kernel_rfl) rfl
theorem en101 : Ent Try.prog 101 := enters_of Try.func101 (by kernel_rfl) rfl
theorem en102 : Ent Try.prog 102 := enters_of Try.func102 (by kernel_rfl) rfl
theorem en103 : Ent Try.prog 103 := enters_of Try.func103 (by kernel_rfl) rfl
theorem en104 : Ent Try.prog 104 := enters_of Try.func104 (by kernel_rfl) rfl
theorem en105 : Ent Try.prog 105 := enters_of Try.func105 (by kernel_rfl) rfl
theorem en106 : Ent Try.prog 106 := enters_of Try.func106 (by kernel_rfl) rfl
theorem en107 : Ent Try.prog 107 := enters_of Try.func107 (by kernel_rfl) rfl
theorem en108 : Ent Try.prog 108 := enters_of Try.func108 (by kernel_rfl) rfl
theorem en109 : Ent Try.prog 109 := enters_of Try.func109 (by kernel_rfl) rfl
theorem en113 : Ent Try.prog 113 := enters_of Try.func113 (by kernel_rfl) rfl
theorem en115 : Ent Try.prog 115 := enters_of Try.func115 (by kernel_rfl) rfl
theorem en121 : Ent Try.prog 121 := enters_of Try.func121 (by kernel_rfl) rfl
theorem en139 : Ent Try.prog 139 := enters_of Try.func139 (by kernel_rfl) rfl
theorem en146 : Ent Try.prog 146 := enters_of Try.func146 (by kernel_rfl) rfl
theorem en147 : Ent Try.prog 147 := enters_of Try.func147 (by kernel_rfl) rfl
theorem en148 : Ent Try.prog 148 := enters_of Try.func148 (by kernel_rfl) rfl
theorem en149 : Ent Try.prog 149 := enters_of Try.func149 (by kernel_rfl) rfl
theorem en150 : Ent Try.prog 150 := enters_of Try.func150 (by kernel_rfl) rfl
theorem en151 : Ent Try.prog 151 := enters_of Try.func151 (by kernel_rfl) rfl
theorem en152 : Ent Try.prog 152 := enters_of Try.func152 (by kernel_rfl) rfl
theorem en153 : Ent Try.prog 153 := enters_of Try.func153 (by kernel_rfl) rfl
theorem en156 : Ent Try.prog 156 := enters_of Try.func156 (by kernel_rfl) rfl
theorem en157 : Ent Try.prog 157 := enters_of Try.func157 (by kernel_rfl) rfl
theorem en158 : Ent Try.prog 158 := enters_of Try.func158 (by kernel_rfl) rfl
theorem en161 : Ent Try.prog 161 := enters_of Try.func161 (by kernel_rfl) rfl
theorem en176 : Ent Try.prog 176 := enters_of Try.func176 (by kernel_rfl) rfl
theorem en177 : Ent Try.prog 177 := enters_of Try.func177 (by kernel_rfl) rfl
theorem en178 : Ent Try.prog 178 := enters_of Try.func178 (by kernel_rfl) rfl
theorem en187 : Ent Try.prog 187 := enters_of Try.func187 (by kernel_rfl) rfl
theorem en188 : Ent Try.prog 188 := enters_of Try.func188 (by kernel_rfl) rfl
theorem en189 : Ent Try.prog 189 := enters_of Try.func189 (by kernel_rfl) rfl
theorem en209 : Ent Try.prog 209 := enters_of Try.func209 (by kernel_rfl) rfl
theorem en210 : Ent Try.prog 210 := enters_of Try.func210 (by kernel_rfl) rfl
end Go.Proofs.Ytobmcpoejhhemaa
