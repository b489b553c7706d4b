/- Lean structures for the Go structs in use, their cells, and small laws on them. Printed by gentypes.py. -/
import Derived.Test.YtobmcpoejhhemaaEngC
import Derived.Test.YtobmcpoejhhemaaProg
import Derived.KernelRfl
import Derived.Shelf.Abstract
namespace Go.Proofs.Ytobmcpoejhhemaa
open Go.E
theorem oc_int (k : IntKind) (n : Int) : (Value.int k n).oneCell' = true := rfl
theorem get_one (v : Value) : (#[v] : Array Value)[0]? = some v := rfl
theorem set_one (u v : Value) : (#[u] : Array Value).setIfInBounds 0 v = #[v] := rfl
theorem oc_bool (b : Bool) : (Value.bool b).oneCell' = true := rfl

structure B16 where
  x0 : Int
  x1 : Int
  x2 : Int
  x3 : Int
  x4 : Int
  x5 : Int
  x6 : Int
  x7 : Int
  x8 : Int
  x9 : Int
  x10 : Int
  x11 : Int
  x12 : Int
  x13 : Int
  x14 : Int
  x15 : Int
  deriving DecidableEq, Inhabited
def B16.c (b : B16) : Array Value := #[.int .u8 b.x0, .int .u8 b.x1, .int .u8 b.x2, .int .u8 b.x3, .int .u8 b.x4, .int .u8 b.x5, .int .u8 b.x6, .int .u8 b.x7, .int .u8 b.x8, .int .u8 b.x9, .int .u8 b.x10, .int .u8 b.x11, .int .u8 b.x12, .int .u8 b.x13, .int .u8 b.x14, .int .u8 b.x15]

structure Adr where
  six : Bool
  b : B16
  deriving DecidableEq, Inhabited
def Adr.c (s : Adr) : Array Value := #[.bool s.six, .int .u8 s.b.x0, .int .u8 s.b.x1, .int .u8 s.b.x2, .int .u8 s.b.x3, .int .u8 s.b.x4, .int .u8 s.b.x5, .int .u8 s.b.x6, .int .u8 s.b.x7, .int .u8 s.b.x8, .int .u8 s.b.x9, .int .u8 s.b.x10, .int .u8 s.b.x11, .int .u8 s.b.x12, .int .u8 s.b.x13, .int .u8 s.b.x14, .int .u8 s.b.x15]

structure Key where
  src : Adr
  dst : Adr
  proto : Int
  srcPort : Int
  dstPort : Int
  deriving DecidableEq, Inhabited
def Key.c (s : Key) : Array Value := #[.bool s.src.six, .int .u8 s.src.b.x0, .int .u8 s.src.b.x1, .int .u8 s.src.b.x2, .int .u8 s.src.b.x3, .int .u8 s.src.b.x4, .int .u8 s.src.b.x5, .int .u8 s.src.b.x6, .int .u8 s.src.b.x7, .int .u8 s.src.b.x8, .int .u8 s.src.b.x9, .int .u8 s.src.b.x10, .int .u8 s.src.b.x11, .int .u8 s.src.b.x12, .int .u8 s.src.b.x13, .int .u8 s.src.b.x14, .int .u8 s.src.b.x15, .bool s.dst.six, .int .u8 s.dst.b.x0, .int .u8 s.dst.b.x1, .int .u8 s.dst.b.x2, .int .u8 s.dst.b.x3, .int .u8 s.dst.b.x4, .int .u8 s.dst.b.x5, .int .u8 s.dst.b.x6, .int .u8 s.dst.b.x7, .int .u8 s.dst.b.x8, .int .u8 s.dst.b.x9, .int .u8 s.dst.b.x10, .int .u8 s.dst.b.x11, .int .u8 s.dst.b.x12, .int .u8 s.dst.b.x13, .int .u8 s.dst.b.x14, .int .u8 s.dst.b.x15, .int .u8 s.proto, .int .u16 s.srcPort, .int .u16 s.dstPort]

structure Tot where
  packets : Int
  bytes : Int
  deriving DecidableEq, Inhabited
def Tot.c (s : Tot) : Array Value := #[.int .u64 s.packets, .int .u64 s.bytes]

structure Rec where
  key : Key
  packets : Int
  bytes : Int
  first : Int
  last : Int
  flags : Int
  reason : Int
  cls : Int
  deriving DecidableEq, Inhabited
def Rec.c (s : Rec) : Array Value := #[.bool s.key.src.six, .int .u8 s.key.src.b.x0, .int .u8 s.key.src.b.x1, .int .u8 s.key.src.b.x2, .int .u8 s.key.src.b.x3, .int .u8 s.key.src.b.x4, .int .u8 s.key.src.b.x5, .int .u8 s.key.src.b.x6, .int .u8 s.key.src.b.x7, .int .u8 s.key.src.b.x8, .int .u8 s.key.src.b.x9, .int .u8 s.key.src.b.x10, .int .u8 s.key.src.b.x11, .int .u8 s.key.src.b.x12, .int .u8 s.key.src.b.x13, .int .u8 s.key.src.b.x14, .int .u8 s.key.src.b.x15, .bool s.key.dst.six, .int .u8 s.key.dst.b.x0, .int .u8 s.key.dst.b.x1, .int .u8 s.key.dst.b.x2, .int .u8 s.key.dst.b.x3, .int .u8 s.key.dst.b.x4, .int .u8 s.key.dst.b.x5, .int .u8 s.key.dst.b.x6, .int .u8 s.key.dst.b.x7, .int .u8 s.key.dst.b.x8, .int .u8 s.key.dst.b.x9, .int .u8 s.key.dst.b.x10, .int .u8 s.key.dst.b.x11, .int .u8 s.key.dst.b.x12, .int .u8 s.key.dst.b.x13, .int .u8 s.key.dst.b.x14, .int .u8 s.key.dst.b.x15, .int .u8 s.key.proto, .int .u16 s.key.srcPort, .int .u16 s.key.dstPort, .int .u64 s.packets, .int .u64 s.bytes, .int .u64 s.first, .int .u64 s.last, .int .u8 s.flags, .int .u8 s.reason, .int .u8 s.cls]

structure Pkt where
  key : Key
  length : Int
  flags : Int
  fragment : Bool
  deriving DecidableEq, Inhabited
def Pkt.c (s : Pkt) : Array Value := #[.bool s.key.src.six, .int .u8 s.key.src.b.x0, .int .u8 s.key.src.b.x1, .int .u8 s.key.src.b.x2, .int .u8 s.key.src.b.x3, .int .u8 s.key.src.b.x4, .int .u8 s.key.src.b.x5, .int .u8 s.key.src.b.x6, .int .u8 s.key.src.b.x7, .int .u8 s.key.src.b.x8, .int .u8 s.key.src.b.x9, .int .u8 s.key.src.b.x10, .int .u8 s.key.src.b.x11, .int .u8 s.key.src.b.x12, .int .u8 s.key.src.b.x13, .int .u8 s.key.src.b.x14, .int .u8 s.key.src.b.x15, .bool s.key.dst.six, .int .u8 s.key.dst.b.x0, .int .u8 s.key.dst.b.x1, .int .u8 s.key.dst.b.x2, .int .u8 s.key.dst.b.x3, .int .u8 s.key.dst.b.x4, .int .u8 s.key.dst.b.x5, .int .u8 s.key.dst.b.x6, .int .u8 s.key.dst.b.x7, .int .u8 s.key.dst.b.x8, .int .u8 s.key.dst.b.x9, .int .u8 s.key.dst.b.x10, .int .u8 s.key.dst.b.x11, .int .u8 s.key.dst.b.x12, .int .u8 s.key.dst.b.x13, .int .u8 s.key.dst.b.x14, .int .u8 s.key.dst.b.x15, .int .u8 s.key.proto, .int .u16 s.key.srcPort, .int .u16 s.key.dstPort, .int .i64 s.length, .int .u8 s.flags, .bool s.fragment]

structure FVal where
  n : Int
  b : Value
  deriving Inhabited
def FVal.c (s : FVal) : Array Value := #[.int .u64 s.n, s.b]

structure RVal where
  n : Int
  b : Value
  deriving Inhabited
def RVal.c (s : RVal) : Array Value := #[.int .u64 s.n, s.b]

structure FSpec where
  id : Int
  pen : Int
  len : Int
  deriving DecidableEq, Inhabited
def FSpec.c (s : FSpec) : Array Value := #[.int .u16 s.id, .int .u32 s.pen, .int .u16 s.len]

structure Act23 where
  do_ : Int
  k : Key
  n : Int
  deriving DecidableEq, Inhabited
def Act23.c (s : Act23) : Array Value := #[.int .i64 s.do_, .bool s.k.src.six, .int .u8 s.k.src.b.x0, .int .u8 s.k.src.b.x1, .int .u8 s.k.src.b.x2, .int .u8 s.k.src.b.x3, .int .u8 s.k.src.b.x4, .int .u8 s.k.src.b.x5, .int .u8 s.k.src.b.x6, .int .u8 s.k.src.b.x7, .int .u8 s.k.src.b.x8, .int .u8 s.k.src.b.x9, .int .u8 s.k.src.b.x10, .int .u8 s.k.src.b.x11, .int .u8 s.k.src.b.x12, .int .u8 s.k.src.b.x13, .int .u8 s.k.src.b.x14, .int .u8 s.k.src.b.x15, .bool s.k.dst.six, .int .u8 s.k.dst.b.x0, .int .u8 s.k.dst.b.x1, .int .u8 s.k.dst.b.x2, .int .u8 s.k.dst.b.x3, .int .u8 s.k.dst.b.x4, .int .u8 s.k.dst.b.x5, .int .u8 s.k.dst.b.x6, .int .u8 s.k.dst.b.x7, .int .u8 s.k.dst.b.x8, .int .u8 s.k.dst.b.x9, .int .u8 s.k.dst.b.x10, .int .u8 s.k.dst.b.x11, .int .u8 s.k.dst.b.x12, .int .u8 s.k.dst.b.x13, .int .u8 s.k.dst.b.x14, .int .u8 s.k.dst.b.x15, .int .u8 s.k.proto, .int .u16 s.k.srcPort, .int .u16 s.k.dstPort, .int .u64 s.n]

structure Slot where
  used : Bool
  key : Key
  n : Int
  deriving DecidableEq, Inhabited
def Slot.c (s : Slot) : Array Value := #[.bool s.used, .bool s.key.src.six, .int .u8 s.key.src.b.x0, .int .u8 s.key.src.b.x1, .int .u8 s.key.src.b.x2, .int .u8 s.key.src.b.x3, .int .u8 s.key.src.b.x4, .int .u8 s.key.src.b.x5, .int .u8 s.key.src.b.x6, .int .u8 s.key.src.b.x7, .int .u8 s.key.src.b.x8, .int .u8 s.key.src.b.x9, .int .u8 s.key.src.b.x10, .int .u8 s.key.src.b.x11, .int .u8 s.key.src.b.x12, .int .u8 s.key.src.b.x13, .int .u8 s.key.src.b.x14, .int .u8 s.key.src.b.x15, .bool s.key.dst.six, .int .u8 s.key.dst.b.x0, .int .u8 s.key.dst.b.x1, .int .u8 s.key.dst.b.x2, .int .u8 s.key.dst.b.x3, .int .u8 s.key.dst.b.x4, .int .u8 s.key.dst.b.x5, .int .u8 s.key.dst.b.x6, .int .u8 s.key.dst.b.x7, .int .u8 s.key.dst.b.x8, .int .u8 s.key.dst.b.x9, .int .u8 s.key.dst.b.x10, .int .u8 s.key.dst.b.x11, .int .u8 s.key.dst.b.x12, .int .u8 s.key.dst.b.x13, .int .u8 s.key.dst.b.x14, .int .u8 s.key.dst.b.x15, .int .u8 s.key.proto, .int .u16 s.key.srcPort, .int .u16 s.key.dstPort, .int .u64 s.n]

structure Tab where
  slots : Value
  many : Int
  deriving Inhabited
def Tab.c (s : Tab) : Array Value := #[s.slots, .int .i64 s.many]

structure Act24 where
  do_ : Int
  packet : Pkt
  cls : Int
  tick : Int
  deriving DecidableEq, Inhabited
def Act24.c (s : Act24) : Array Value := #[.int .i64 s.do_, .bool s.packet.key.src.six, .int .u8 s.packet.key.src.b.x0, .int .u8 s.packet.key.src.b.x1, .int .u8 s.packet.key.src.b.x2, .int .u8 s.packet.key.src.b.x3, .int .u8 s.packet.key.src.b.x4, .int .u8 s.packet.key.src.b.x5, .int .u8 s.packet.key.src.b.x6, .int .u8 s.packet.key.src.b.x7, .int .u8 s.packet.key.src.b.x8, .int .u8 s.packet.key.src.b.x9, .int .u8 s.packet.key.src.b.x10, .int .u8 s.packet.key.src.b.x11, .int .u8 s.packet.key.src.b.x12, .int .u8 s.packet.key.src.b.x13, .int .u8 s.packet.key.src.b.x14, .int .u8 s.packet.key.src.b.x15, .bool s.packet.key.dst.six, .int .u8 s.packet.key.dst.b.x0, .int .u8 s.packet.key.dst.b.x1, .int .u8 s.packet.key.dst.b.x2, .int .u8 s.packet.key.dst.b.x3, .int .u8 s.packet.key.dst.b.x4, .int .u8 s.packet.key.dst.b.x5, .int .u8 s.packet.key.dst.b.x6, .int .u8 s.packet.key.dst.b.x7, .int .u8 s.packet.key.dst.b.x8, .int .u8 s.packet.key.dst.b.x9, .int .u8 s.packet.key.dst.b.x10, .int .u8 s.packet.key.dst.b.x11, .int .u8 s.packet.key.dst.b.x12, .int .u8 s.packet.key.dst.b.x13, .int .u8 s.packet.key.dst.b.x14, .int .u8 s.packet.key.dst.b.x15, .int .u8 s.packet.key.proto, .int .u16 s.packet.key.srcPort, .int .u16 s.packet.key.dstPort, .int .i64 s.packet.length, .int .u8 s.packet.flags, .bool s.packet.fragment, .int .u8 s.cls, .int .u64 s.tick]

structure Bnd where
  flows : Int
  idle : Int
  active : Int
  packets : Int
  bytes : Int
  deriving DecidableEq, Inhabited
def Bnd.c (s : Bnd) : Array Value := #[.int .i64 s.flows, .int .u64 s.idle, .int .u64 s.active, .int .u64 s.packets, .int .u64 s.bytes]

structure Cac where
  tick : Int
  bounds : Bnd
  places : Value
  flows : Value
  deriving Inhabited
def Cac.c (s : Cac) : Array Value := #[.int .u64 s.tick, .int .i64 s.bounds.flows, .int .u64 s.bounds.idle, .int .u64 s.bounds.active, .int .u64 s.bounds.packets, .int .u64 s.bounds.bytes, s.places, s.flows]

structure Note where
  kind : Int
  key : Key
  total : Tot
  records : Value
  epoch : Int
  n : Int
  first : Int
  next : Int
  deriving Inhabited
def Note.c (s : Note) : Array Value := #[.int .i64 s.kind, .bool s.key.src.six, .int .u8 s.key.src.b.x0, .int .u8 s.key.src.b.x1, .int .u8 s.key.src.b.x2, .int .u8 s.key.src.b.x3, .int .u8 s.key.src.b.x4, .int .u8 s.key.src.b.x5, .int .u8 s.key.src.b.x6, .int .u8 s.key.src.b.x7, .int .u8 s.key.src.b.x8, .int .u8 s.key.src.b.x9, .int .u8 s.key.src.b.x10, .int .u8 s.key.src.b.x11, .int .u8 s.key.src.b.x12, .int .u8 s.key.src.b.x13, .int .u8 s.key.src.b.x14, .int .u8 s.key.src.b.x15, .bool s.key.dst.six, .int .u8 s.key.dst.b.x0, .int .u8 s.key.dst.b.x1, .int .u8 s.key.dst.b.x2, .int .u8 s.key.dst.b.x3, .int .u8 s.key.dst.b.x4, .int .u8 s.key.dst.b.x5, .int .u8 s.key.dst.b.x6, .int .u8 s.key.dst.b.x7, .int .u8 s.key.dst.b.x8, .int .u8 s.key.dst.b.x9, .int .u8 s.key.dst.b.x10, .int .u8 s.key.dst.b.x11, .int .u8 s.key.dst.b.x12, .int .u8 s.key.dst.b.x13, .int .u8 s.key.dst.b.x14, .int .u8 s.key.dst.b.x15, .int .u8 s.key.proto, .int .u16 s.key.srcPort, .int .u16 s.key.dstPort, .int .u64 s.total.packets, .int .u64 s.total.bytes, s.records, .int .u32 s.epoch, .int .u64 s.n, .int .u64 s.first, .int .u64 s.next]

structure Entr where
  epoch : Int
  n : Int
  records : Value
  there : Bool
  synced : Bool
  credited : Bool
  deriving Inhabited
def Entr.c (s : Entr) : Array Value := #[.int .u32 s.epoch, .int .u64 s.n, s.records, .bool s.there, .bool s.synced, .bool s.credited]

structure Parts where
  forwarded : Tot
  cached : Tot
  volatile : Tot
  durable : Tot
  lost : Tot
  credited : Tot
  deriving DecidableEq, Inhabited
def Parts.c (s : Parts) : Array Value := #[.int .u64 s.forwarded.packets, .int .u64 s.forwarded.bytes, .int .u64 s.cached.packets, .int .u64 s.cached.bytes, .int .u64 s.volatile.packets, .int .u64 s.volatile.bytes, .int .u64 s.durable.packets, .int .u64 s.durable.bytes, .int .u64 s.lost.packets, .int .u64 s.lost.bytes, .int .u64 s.credited.packets, .int .u64 s.credited.bytes]

structure Mod where
  forwarded : Value
  cached : Value
  lost : Value
  entries : Value
  line : Value
  first : Int
  boot : Int
  deriving Inhabited
def Mod.c (s : Mod) : Array Value := #[s.forwarded, s.cached, s.lost, s.entries, s.line, .int .u64 s.first, .int .u32 s.boot]

structure Sum24 where
  key : Key
  total : Tot
  deriving DecidableEq, Inhabited
def Sum24.c (s : Sum24) : Array Value := #[.bool s.key.src.six, .int .u8 s.key.src.b.x0, .int .u8 s.key.src.b.x1, .int .u8 s.key.src.b.x2, .int .u8 s.key.src.b.x3, .int .u8 s.key.src.b.x4, .int .u8 s.key.src.b.x5, .int .u8 s.key.src.b.x6, .int .u8 s.key.src.b.x7, .int .u8 s.key.src.b.x8, .int .u8 s.key.src.b.x9, .int .u8 s.key.src.b.x10, .int .u8 s.key.src.b.x11, .int .u8 s.key.src.b.x12, .int .u8 s.key.src.b.x13, .int .u8 s.key.src.b.x14, .int .u8 s.key.src.b.x15, .bool s.key.dst.six, .int .u8 s.key.dst.b.x0, .int .u8 s.key.dst.b.x1, .int .u8 s.key.dst.b.x2, .int .u8 s.key.dst.b.x3, .int .u8 s.key.dst.b.x4, .int .u8 s.key.dst.b.x5, .int .u8 s.key.dst.b.x6, .int .u8 s.key.dst.b.x7, .int .u8 s.key.dst.b.x8, .int .u8 s.key.dst.b.x9, .int .u8 s.key.dst.b.x10, .int .u8 s.key.dst.b.x11, .int .u8 s.key.dst.b.x12, .int .u8 s.key.dst.b.x13, .int .u8 s.key.dst.b.x14, .int .u8 s.key.dst.b.x15, .int .u8 s.key.proto, .int .u16 s.key.srcPort, .int .u16 s.key.dstPort, .int .u64 s.total.packets, .int .u64 s.total.bytes]

structure Wri where
  b : Value
  deriving Inhabited
def Wri.c (s : Wri) : Array Value := #[s.b]

theorem siz_B16 (s : B16) : s.c.size = 16 := rfl
theorem get_B16_0 (s : B16) : s.c[0]? = some (.int .u8 s.x0) := rfl
theorem set_B16_0 (s : B16) (v : Int) : s.c.setIfInBounds 0 (.int .u8 v) = ({ s with x0 := v } : B16).c := rfl
theorem get_B16_1 (s : B16) : s.c[1]? = some (.int .u8 s.x1) := rfl
theorem set_B16_1 (s : B16) (v : Int) : s.c.setIfInBounds 1 (.int .u8 v) = ({ s with x1 := v } : B16).c := rfl
theorem get_B16_2 (s : B16) : s.c[2]? = some (.int .u8 s.x2) := rfl
theorem set_B16_2 (s : B16) (v : Int) : s.c.setIfInBounds 2 (.int .u8 v) = ({ s with x2 := v } : B16).c := rfl
theorem get_B16_3 (s : B16) : s.c[3]? = some (.int .u8 s.x3) := rfl
theorem set_B16_3 (s : B16) (v : Int) : s.c.setIfInBounds 3 (.int .u8 v) = ({ s with x3 := v } : B16).c := rfl
theorem get_B16_4 (s : B16) : s.c[4]? = some (.int .u8 s.x4) := rfl
theorem set_B16_4 (s : B16) (v : Int) : s.c.setIfInBounds 4 (.int .u8 v) = ({ s with x4 := v } : B16).c := rfl
theorem get_B16_5 (s : B16) : s.c[5]? = some (.int .u8 s.x5) := rfl
theorem set_B16_5 (s : B16) (v : Int) : s.c.setIfInBounds 5 (.int .u8 v) = ({ s with x5 := v } : B16).c := rfl
theorem get_B16_6 (s : B16) : s.c[6]? = some (.int .u8 s.x6) := rfl
theorem set_B16_6 (s : B16) (v : Int) : s.c.setIfInBounds 6 (.int .u8 v) = ({ s with x6 := v } : B16).c := rfl
theorem get_B16_7 (s : B16) : s.c[7]? = some (.int .u8 s.x7) := rfl
theorem set_B16_7 (s : B16) (v : Int) : s.c.setIfInBounds 7 (.int .u8 v) = ({ s with x7 := v } : B16).c := rfl
theorem get_B16_8 (s : B16) : s.c[8]? = some (.int .u8 s.x8) := rfl
theorem set_B16_8 (s : B16) (v : Int) : s.c.setIfInBounds 8 (.int .u8 v) = ({ s with x8 := v } : B16).c := rfl
theorem get_B16_9 (s : B16) : s.c[9]? = some (.int .u8 s.x9) := rfl
theorem set_B16_9 (s : B16) (v : Int) : s.c.setIfInBounds 9 (.int .u8 v) = ({ s with x9 := v } : B16).c := rfl
theorem get_B16_10 (s : B16) : s.c[10]? = some (.int .u8 s.x10) := rfl
theorem set_B16_10 (s : B16) (v : Int) : s.c.setIfInBounds 10 (.int .u8 v) = ({ s with x10 := v } : B16).c := rfl
theorem get_B16_11 (s : B16) : s.c[11]? = some (.int .u8 s.x11) := rfl
theorem set_B16_11 (s : B16) (v : Int) : s.c.setIfInBounds 11 (.int .u8 v) = ({ s with x11 := v } : B16).c := rfl
theorem get_B16_12 (s : B16) : s.c[12]? = some (.int .u8 s.x12) := rfl
theorem set_B16_12 (s : B16) (v : Int) : s.c.setIfInBounds 12 (.int .u8 v) = ({ s with x12 := v } : B16).c := rfl
theorem get_B16_13 (s : B16) : s.c[13]? = some (.int .u8 s.x13) := rfl
theorem set_B16_13 (s : B16) (v : Int) : s.c.setIfInBounds 13 (.int .u8 v) = ({ s with x13 := v } : B16).c := rfl
theorem get_B16_14 (s : B16) : s.c[14]? = some (.int .u8 s.x14) := rfl
theorem set_B16_14 (s : B16) (v : Int) : s.c.setIfInBounds 14 (.int .u8 v) = ({ s with x14 := v } : B16).c := rfl
theorem get_B16_15 (s : B16) : s.c[15]? = some (.int .u8 s.x15) := rfl
theorem set_B16_15 (s : B16) (v : Int) : s.c.setIfInBounds 15 (.int .u8 v) = ({ s with x15 := v } : B16).c := rfl
theorem one_B16 (s : B16) : ∀ u ∈ s.c.toList, u.oneCell' = true := by
  simp [B16.c, oc_int, oc_bool]
theorem splw_B16 (s : B16) (cs : Array Value) (h : cs.size = 16) : splice cs 0 s.c = s.c := splice_whole (h.trans (siz_B16 s).symm)
theorem extw_B16 (s : B16) : s.c.extract 0 (0 + 16) = s.c := by kernel_rfl

theorem siz_Adr (s : Adr) : s.c.size = 17 := rfl
theorem get_Adr_0 (s : Adr) : s.c[0]? = some (.bool s.six) := rfl
theorem set_Adr_0 (s : Adr) (v : Bool) : s.c.setIfInBounds 0 (.bool v) = ({ s with six := v } : Adr).c := rfl
theorem ext_Adr_1_16 (s : Adr) : s.c.extract 1 (1 + 16) = s.b.c := by kernel_rfl
theorem spl_Adr_1_16 (s : Adr) (v : B16) : splice s.c 1 v.c = ({ s with b := v } : Adr).c := by kernel_rfl
theorem one_Adr (s : Adr) : ∀ u ∈ s.c.toList, u.oneCell' = true := by
  simp [Adr.c, oc_int, oc_bool]
theorem splw_Adr (s : Adr) (cs : Array Value) (h : cs.size = 17) : splice cs 0 s.c = s.c := splice_whole (h.trans (siz_Adr s).symm)
theorem extw_Adr (s : Adr) : s.c.extract 0 (0 + 17) = s.c := by kernel_rfl

theorem siz_Key (s : Key) : s.c.size = 37 := rfl
theorem ext_Key_0_17 (s : Key) : s.c.extract 0 (0 + 17) = s.src.c := by kernel_rfl
theorem spl_Key_0_17 (s : Key) (v : Adr) : splice s.c 0 v.c = ({ s with src := v } : Key).c := by kernel_rfl
theorem get_Key_0 (s : Key) : s.c[0]? = some (.bool s.src.six) := rfl
theorem set_Key_0 (s : Key) (v : Bool) : s.c.setIfInBounds 0 (.bool v) = ({ s with src := { s.src with six := v } } : Key).c := rfl
theorem ext_Key_1_16 (s : Key) : s.c.extract 1 (1 + 16) = s.src.b.c := by kernel_rfl
theorem spl_Key_1_16 (s : Key) (v : B16) : splice s.c 1 v.c = ({ s with src := { s.src with b := v } } : Key).c := by kernel_rfl
theorem ext_Key_17_17 (s : Key) : s.c.extract 17 (17 + 17) = s.dst.c := by kernel_rfl
theorem spl_Key_17_17 (s : Key) (v : Adr) : splice s.c 17 v.c = ({ s with dst := v } : Key).c := by kernel_rfl
theorem get_Key_17 (s : Key) : s.c[17]? = some (.bool s.dst.six) := rfl
theorem set_Key_17 (s : Key) (v : Bool) : s.c.setIfInBounds 17 (.bool v) = ({ s with dst := { s.dst with six := v } } : Key).c := rfl
theorem ext_Key_18_16 (s : Key) : s.c.extract 18 (18 + 16) = s.dst.b.c := by kernel_rfl
theorem spl_Key_18_16 (s : Key) (v : B16) : splice s.c 18 v.c = ({ s with dst := { s.dst with b := v } } : Key).c := by kernel_rfl
theorem get_Key_34 (s : Key) : s.c[34]? = some (.int .u8 s.proto) := rfl
theorem set_Key_34 (s : Key) (v : Int) : s.c.setIfInBounds 34 (.int .u8 v) = ({ s with proto := v } : Key).c := rfl
theorem get_Key_35 (s : Key) : s.c[35]? = some (.int .u16 s.srcPort) := rfl
theorem set_Key_35 (s : Key) (v : Int) : s.c.setIfInBounds 35 (.int .u16 v) = ({ s with srcPort := v } : Key).c := rfl
theorem get_Key_36 (s : Key) : s.c[36]? = some (.int .u16 s.dstPort) := rfl
theorem set_Key_36 (s : Key) (v : Int) : s.c.setIfInBounds 36 (.int .u16 v) = ({ s with dstPort := v } : Key).c := rfl
theorem one_Key (s : Key) : ∀ u ∈ s.c.toList, u.oneCell' = true := by
  simp [Key.c, oc_int, oc_bool]
theorem splw_Key (s : Key) (cs : Array Value) (h : cs.size = 37) : splice cs 0 s.c = s.c := splice_whole (h.trans (siz_Key s).symm)
theorem extw_Key (s : Key) : s.c.extract 0 (0 + 37) = s.c := by kernel_rfl

theorem siz_Tot (s : Tot) : s.c.size = 2 := rfl
theorem get_Tot_0 (s : Tot) : s.c[0]? = some (.int .u64 s.packets) := rfl
theorem set_Tot_0 (s : Tot) (v : Int) : s.c.setIfInBounds 0 (.int .u64 v) = ({ s with packets := v } : Tot).c := rfl
theorem get_Tot_1 (s : Tot) : s.c[1]? = some (.int .u64 s.bytes) := rfl
theorem set_Tot_1 (s : Tot) (v : Int) : s.c.setIfInBounds 1 (.int .u64 v) = ({ s with bytes := v } : Tot).c := rfl
theorem one_Tot (s : Tot) : ∀ u ∈ s.c.toList, u.oneCell' = true := by
  simp [Tot.c, oc_int, oc_bool]
theorem splw_Tot (s : Tot) (cs : Array Value) (h : cs.size = 2) : splice cs 0 s.c = s.c := splice_whole (h.trans (siz_Tot s).symm)
theorem extw_Tot (s : Tot) : s.c.extract 0 (0 + 2) = s.c := by kernel_rfl

theorem siz_Rec (s : Rec) : s.c.size = 44 := rfl
theorem ext_Rec_0_37 (s : Rec) : s.c.extract 0 (0 + 37) = s.key.c := by kernel_rfl
theorem spl_Rec_0_37 (s : Rec) (v : Key) : splice s.c 0 v.c = ({ s with key := v } : Rec).c := by kernel_rfl
theorem ext_Rec_0_17 (s : Rec) : s.c.extract 0 (0 + 17) = s.key.src.c := by kernel_rfl
theorem spl_Rec_0_17 (s : Rec) (v : Adr) : splice s.c 0 v.c = ({ s with key := { s.key with src := v } } : Rec).c := by kernel_rfl
theorem get_Rec_0 (s : Rec) : s.c[0]? = some (.bool s.key.src.six) := rfl
theorem set_Rec_0 (s : Rec) (v : Bool) : s.c.setIfInBounds 0 (.bool v) = ({ s with key := { s.key with src := { s.key.src with six := v } } } : Rec).c := rfl
theorem ext_Rec_1_16 (s : Rec) : s.c.extract 1 (1 + 16) = s.key.src.b.c := by kernel_rfl
theorem spl_Rec_1_16 (s : Rec) (v : B16) : splice s.c 1 v.c = ({ s with key := { s.key with src := { s.key.src with b := v } } } : Rec).c := by kernel_rfl
theorem ext_Rec_17_17 (s : Rec) : s.c.extract 17 (17 + 17) = s.key.dst.c := by kernel_rfl
theorem spl_Rec_17_17 (s : Rec) (v : Adr) : splice s.c 17 v.c = ({ s with key := { s.key with dst := v } } : Rec).c := by kernel_rfl
theorem get_Rec_17 (s : Rec) : s.c[17]? = some (.bool s.key.dst.six) := rfl
theorem set_Rec_17 (s : Rec) (v : Bool) : s.c.setIfInBounds 17 (.bool v) = ({ s with key := { s.key with dst := { s.key.dst with six := v } } } : Rec).c := rfl
theorem ext_Rec_18_16 (s : Rec) : s.c.extract 18 (18 + 16) = s.key.dst.b.c := by kernel_rfl
theorem spl_Rec_18_16 (s : Rec) (v : B16) : splice s.c 18 v.c = ({ s with key := { s.key with dst := { s.key.dst with b := v } } } : Rec).c := by kernel_rfl
theorem get_Rec_34 (s : Rec) : s.c[34]? = some (.int .u8 s.key.proto) := rfl
theorem set_Rec_34 (s : Rec) (v : Int) : s.c.setIfInBounds 34 (.int .u8 v) = ({ s with key := { s.key with proto := v } } : Rec).c := rfl
theorem get_Rec_35 (s : Rec) : s.c[35]? = some (.int .u16 s.key.srcPort) := rfl
theorem set_Rec_35 (s : Rec) (v : Int) : s.c.setIfInBounds 35 (.int .u16 v) = ({ s with key := { s.key with srcPort := v } } : Rec).c := rfl
theorem get_Rec_36 (s : Rec) : s.c[36]? = some (.int .u16 s.key.dstPort) := rfl
theorem set_Rec_36 (s : Rec) (v : Int) : s.c.setIfInBounds 36 (.int .u16 v) = ({ s with key := { s.key with dstPort := v } } : Rec).c := rfl
theorem get_Rec_37 (s : Rec) : s.c[37]? = some (.int .u64 s.packets) := rfl
theorem set_Rec_37 (s : Rec) (v : Int) : s.c.setIfInBounds 37 (.int .u64 v) = ({ s with packets := v } : Rec).c := rfl
theorem get_Rec_38 (s : Rec) : s.c[38]? = some (.int .u64 s.bytes) := rfl
theorem set_Rec_38 (s : Rec) (v : Int) : s.c.setIfInBounds 38 (.int .u64 v) = ({ s with bytes := v } : Rec).c := rfl
theorem get_Rec_39 (s : Rec) : s.c[39]? = some (.int .u64 s.first) := rfl
theorem set_Rec_39 (s : Rec) (v : Int) : s.c.setIfInBounds 39 (.int .u64 v) = ({ s with first := v } : Rec).c := rfl
theorem get_Rec_40 (s : Rec) : s.c[40]? = some (.int .u64 s.last) := rfl
theorem set_Rec_40 (s : Rec) (v : Int) : s.c.setIfInBounds 40 (.int .u64 v) = ({ s with last := v } : Rec).c := rfl
theorem get_Rec_41 (s : Rec) : s.c[41]? = some (.int .u8 s.flags) := rfl
theorem set_Rec_41 (s : Rec) (v : Int) : s.c.setIfInBounds 41 (.int .u8 v) = ({ s with flags := v } : Rec).c := rfl
theorem get_Rec_42 (s : Rec) : s.c[42]? = some (.int .u8 s.reason) := rfl
theorem set_Rec_42 (s : Rec) (v : Int) : s.c.setIfInBounds 42 (.int .u8 v) = ({ s with reason := v } : Rec).c := rfl
theorem get_Rec_43 (s : Rec) : s.c[43]? = some (.int .u8 s.cls) := rfl
theorem set_Rec_43 (s : Rec) (v : Int) : s.c.setIfInBounds 43 (.int .u8 v) = ({ s with cls := v } : Rec).c := rfl
theorem one_Rec (s : Rec) : ∀ u ∈ s.c.toList, u.oneCell' = true := by
  simp [Rec.c, oc_int, oc_bool]
theorem splw_Rec (s : Rec) (cs : Array Value) (h : cs.size = 44) : splice cs 0 s.c = s.c := splice_whole (h.trans (siz_Rec s).symm)
theorem extw_Rec (s : Rec) : s.c.extract 0 (0 + 44) = s.c := by kernel_rfl

theorem siz_Pkt (s : Pkt) : s.c.size = 40 := rfl
theorem ext_Pkt_0_37 (s : Pkt) : s.c.extract 0 (0 + 37) = s.key.c := by kernel_rfl
theorem spl_Pkt_0_37 (s : Pkt) (v : Key) : splice s.c 0 v.c = ({ s with key := v } : Pkt).c := by kernel_rfl
theorem ext_Pkt_0_17 (s : Pkt) : s.c.extract 0 (0 + 17) = s.key.src.c := by kernel_rfl
theorem spl_Pkt_0_17 (s : Pkt) (v : Adr) : splice s.c 0 v.c = ({ s with key := { s.key with src := v } } : Pkt).c := by kernel_rfl
theorem get_Pkt_0 (s : Pkt) : s.c[0]? = some (.bool s.key.src.six) := rfl
theorem set_Pkt_0 (s : Pkt) (v : Bool) : s.c.setIfInBounds 0 (.bool v) = ({ s with key := { s.key with src := { s.key.src with six := v } } } : Pkt).c := rfl
theorem ext_Pkt_1_16 (s : Pkt) : s.c.extract 1 (1 + 16) = s.key.src.b.c := by kernel_rfl
theorem spl_Pkt_1_16 (s : Pkt) (v : B16) : splice s.c 1 v.c = ({ s with key := { s.key with src := { s.key.src with b := v } } } : Pkt).c := by kernel_rfl
theorem ext_Pkt_17_17 (s : Pkt) : s.c.extract 17 (17 + 17) = s.key.dst.c := by kernel_rfl
theorem spl_Pkt_17_17 (s : Pkt) (v : Adr) : splice s.c 17 v.c = ({ s with key := { s.key with dst := v } } : Pkt).c := by kernel_rfl
theorem get_Pkt_17 (s : Pkt) : s.c[17]? = some (.bool s.key.dst.six) := rfl
theorem set_Pkt_17 (s : Pkt) (v : Bool) : s.c.setIfInBounds 17 (.bool v) = ({ s with key := { s.key with dst := { s.key.dst with six := v } } } : Pkt).c := rfl
theorem ext_Pkt_18_16 (s : Pkt) : s.c.extract 18 (18 + 16) = s.key.dst.b.c := by kernel_rfl
theorem spl_Pkt_18_16 (s : Pkt) (v : B16) : splice s.c 18 v.c = ({ s with key := { s.key with dst := { s.key.dst with b := v } } } : Pkt).c := by kernel_rfl
theorem get_Pkt_34 (s : Pkt) : s.c[34]? = some (.int .u8 s.key.proto) := rfl
theorem set_Pkt_34 (s : Pkt) (v : Int) : s.c.setIfInBounds 34 (.int .u8 v) = ({ s with key := { s.key with proto := v } } : Pkt).c := rfl
theorem get_Pkt_35 (s : Pkt) : s.c[35]? = some (.int .u16 s.key.srcPort) := rfl
theorem set_Pkt_35 (s : Pkt) (v : Int) : s.c.setIfInBounds 35 (.int .u16 v) = ({ s with key := { s.key with srcPort := v } } : Pkt).c := rfl
theorem get_Pkt_36 (s : Pkt) : s.c[36]? = some (.int .u16 s.key.dstPort) := rfl
theorem set_Pkt_36 (s : Pkt) (v : Int) : s.c.setIfInBounds 36 (.int .u16 v) = ({ s with key := { s.key with dstPort := v } } : Pkt).c := rfl
theorem get_Pkt_37 (s : Pkt) : s.c[37]? = some (.int .i64 s.length) := rfl
theorem set_Pkt_37 (s : Pkt) (v : Int) : s.c.setIfInBounds 37 (.int .i64 v) = ({ s with length := v } : Pkt).c := rfl
theorem get_Pkt_38 (s : Pkt) : s.c[38]? = some (.int .u8 s.flags) := rfl
theorem set_Pkt_38 (s : Pkt) (v : Int) : s.c.setIfInBounds 38 (.int .u8 v) = ({ s with flags := v } : Pkt).c := rfl
theorem get_Pkt_39 (s : Pkt) : s.c[39]? = some (.bool s.fragment) := rfl
theorem set_Pkt_39 (s : Pkt) (v : Bool) : s.c.setIfInBounds 39 (.bool v) = ({ s with fragment := v } : Pkt).c := rfl
theorem one_Pkt (s : Pkt) : ∀ u ∈ s.c.toList, u.oneCell' = true := by
  simp [Pkt.c, oc_int, oc_bool]
theorem splw_Pkt (s : Pkt) (cs : Array Value) (h : cs.size = 40) : splice cs 0 s.c = s.c := splice_whole (h.trans (siz_Pkt s).symm)
theorem extw_Pkt (s : Pkt) : s.c.extract 0 (0 + 40) = s.c := by kernel_rfl

theorem siz_FVal (s : FVal) : s.c.size = 2 := rfl
theorem get_FVal_0 (s : FVal) : s.c[0]? = some (.int .u64 s.n) := rfl
theorem set_FVal_0 (s : FVal) (v : Int) : s.c.setIfInBounds 0 (.int .u64 v) = ({ s with n := v } : FVal).c := rfl
theorem get_FVal_1 (s : FVal) : s.c[1]? = some (s.b) := rfl
theorem set_FVal_1 (s : FVal) (v : Value) : s.c.setIfInBounds 1 (v) = ({ s with b := v } : FVal).c := rfl
theorem one_FVal (s : FVal) (h_b : s.b.oneCell' = true) : ∀ u ∈ s.c.toList, u.oneCell' = true := by
  simp [FVal.c, oc_int, oc_bool, h_b]
theorem splw_FVal (s : FVal) (cs : Array Value) (h : cs.size = 2) : splice cs 0 s.c = s.c := splice_whole (h.trans (siz_FVal s).symm)
theorem extw_FVal (s : FVal) : s.c.extract 0 (0 + 2) = s.c := by kernel_rfl

theorem siz_RVal (s : RVal) : s.c.size = 2 := rfl
theorem get_RVal_0 (s : RVal) : s.c[0]? = some (.int .u64 s.n) := rfl
theorem set_RVal_0 (s : RVal) (v : Int) : s.c.setIfInBounds 0 (.int .u64 v) = ({ s with n := v } : RVal).c := rfl
theorem get_RVal_1 (s : RVal) : s.c[1]? = some (s.b) := rfl
theorem set_RVal_1 (s : RVal) (v : Value) : s.c.setIfInBounds 1 (v) = ({ s with b := v } : RVal).c := rfl
theorem one_RVal (s : RVal) (h_b : s.b.oneCell' = true) : ∀ u ∈ s.c.toList, u.oneCell' = true := by
  simp [RVal.c, oc_int, oc_bool, h_b]
theorem splw_RVal (s : RVal) (cs : Array Value) (h : cs.size = 2) : splice cs 0 s.c = s.c := splice_whole (h.trans (siz_RVal s).symm)
theorem extw_RVal (s : RVal) : s.c.extract 0 (0 + 2) = s.c := by kernel_rfl

theorem siz_FSpec (s : FSpec) : s.c.size = 3 := rfl
theorem get_FSpec_0 (s : FSpec) : s.c[0]? = some (.int .u16 s.id) := rfl
theorem set_FSpec_0 (s : FSpec) (v : Int) : s.c.setIfInBounds 0 (.int .u16 v) = ({ s with id := v } : FSpec).c := rfl
theorem get_FSpec_1 (s : FSpec) : s.c[1]? = some (.int .u32 s.pen) := rfl
theorem set_FSpec_1 (s : FSpec) (v : Int) : s.c.setIfInBounds 1 (.int .u32 v) = ({ s with pen := v } : FSpec).c := rfl
theorem get_FSpec_2 (s : FSpec) : s.c[2]? = some (.int .u16 s.len) := rfl
theorem set_FSpec_2 (s : FSpec) (v : Int) : s.c.setIfInBounds 2 (.int .u16 v) = ({ s with len := v } : FSpec).c := rfl
theorem one_FSpec (s : FSpec) : ∀ u ∈ s.c.toList, u.oneCell' = true := by
  simp [FSpec.c, oc_int, oc_bool]
theorem splw_FSpec (s : FSpec) (cs : Array Value) (h : cs.size = 3) : splice cs 0 s.c = s.c := splice_whole (h.trans (siz_FSpec s).symm)
theorem extw_FSpec (s : FSpec) : s.c.extract 0 (0 + 3) = s.c := by kernel_rfl

theorem siz_Act23 (s : Act23) : s.c.size = 39 := rfl
theorem get_Act23_0 (s : Act23) : s.c[0]? = some (.int .i64 s.do_) := rfl
theorem set_Act23_0 (s : Act23) (v : Int) : s.c.setIfInBounds 0 (.int .i64 v) = ({ s with do_ := v } : Act23).c := rfl
theorem ext_Act23_1_37 (s : Act23) : s.c.extract 1 (1 + 37) = s.k.c := by kernel_rfl
theorem spl_Act23_1_37 (s : Act23) (v : Key) : splice s.c 1 v.c = ({ s with k := v } : Act23).c := by kernel_rfl
theorem ext_Act23_1_17 (s : Act23) : s.c.extract 1 (1 + 17) = s.k.src.c := by kernel_rfl
theorem spl_Act23_1_17 (s : Act23) (v : Adr) : splice s.c 1 v.c = ({ s with k := { s.k with src := v } } : Act23).c := by kernel_rfl
theorem get_Act23_1 (s : Act23) : s.c[1]? = some (.bool s.k.src.six) := rfl
theorem set_Act23_1 (s : Act23) (v : Bool) : s.c.setIfInBounds 1 (.bool v) = ({ s with k := { s.k with src := { s.k.src with six := v } } } : Act23).c := rfl
theorem ext_Act23_2_16 (s : Act23) : s.c.extract 2 (2 + 16) = s.k.src.b.c := by kernel_rfl
theorem spl_Act23_2_16 (s : Act23) (v : B16) : splice s.c 2 v.c = ({ s with k := { s.k with src := { s.k.src with b := v } } } : Act23).c := by kernel_rfl
theorem ext_Act23_18_17 (s : Act23) : s.c.extract 18 (18 + 17) = s.k.dst.c := by kernel_rfl
theorem spl_Act23_18_17 (s : Act23) (v : Adr) : splice s.c 18 v.c = ({ s with k := { s.k with dst := v } } : Act23).c := by kernel_rfl
theorem get_Act23_18 (s : Act23) : s.c[18]? = some (.bool s.k.dst.six) := rfl
theorem set_Act23_18 (s : Act23) (v : Bool) : s.c.setIfInBounds 18 (.bool v) = ({ s with k := { s.k with dst := { s.k.dst with six := v } } } : Act23).c := rfl
theorem ext_Act23_19_16 (s : Act23) : s.c.extract 19 (19 + 16) = s.k.dst.b.c := by kernel_rfl
theorem spl_Act23_19_16 (s : Act23) (v : B16) : splice s.c 19 v.c = ({ s with k := { s.k with dst := { s.k.dst with b := v } } } : Act23).c := by kernel_rfl
theorem get_Act23_35 (s : Act23) : s.c[35]? = some (.int .u8 s.k.proto) := rfl
theorem set_Act23_35 (s : Act23) (v : Int) : s.c.setIfInBounds 35 (.int .u8 v) = ({ s with k := { s.k with proto := v } } : Act23).c := rfl
theorem get_Act23_36 (s : Act23) : s.c[36]? = some (.int .u16 s.k.srcPort) := rfl
theorem set_Act23_36 (s : Act23) (v : Int) : s.c.setIfInBounds 36 (.int .u16 v) = ({ s with k := { s.k with srcPort := v } } : Act23).c := rfl
theorem get_Act23_37 (s : Act23) : s.c[37]? = some (.int .u16 s.k.dstPort) := rfl
theorem set_Act23_37 (s : Act23) (v : Int) : s.c.setIfInBounds 37 (.int .u16 v) = ({ s with k := { s.k with dstPort := v } } : Act23).c := rfl
theorem get_Act23_38 (s : Act23) : s.c[38]? = some (.int .u64 s.n) := rfl
theorem set_Act23_38 (s : Act23) (v : Int) : s.c.setIfInBounds 38 (.int .u64 v) = ({ s with n := v } : Act23).c := rfl
theorem one_Act23 (s : Act23) : ∀ u ∈ s.c.toList, u.oneCell' = true := by
  simp [Act23.c, oc_int, oc_bool]
theorem splw_Act23 (s : Act23) (cs : Array Value) (h : cs.size = 39) : splice cs 0 s.c = s.c := splice_whole (h.trans (siz_Act23 s).symm)
theorem extw_Act23 (s : Act23) : s.c.extract 0 (0 + 39) = s.c := by kernel_rfl

theorem siz_Slot (s : Slot) : s.c.size = 39 := rfl
theorem get_Slot_0 (s : Slot) : s.c[0]? = some (.bool s.used) := rfl
theorem set_Slot_0 (s : Slot) (v : Bool) : s.c.setIfInBounds 0 (.bool v) = ({ s with used := v } : Slot).c := rfl
theorem ext_Slot_1_37 (s : Slot) : s.c.extract 1 (1 + 37) = s.key.c := by kernel_rfl
theorem spl_Slot_1_37 (s : Slot) (v : Key) : splice s.c 1 v.c = ({ s with key := v } : Slot).c := by kernel_rfl
theorem ext_Slot_1_17 (s : Slot) : s.c.extract 1 (1 + 17) = s.key.src.c := by kernel_rfl
theorem spl_Slot_1_17 (s : Slot) (v : Adr) : splice s.c 1 v.c = ({ s with key := { s.key with src := v } } : Slot).c := by kernel_rfl
theorem get_Slot_1 (s : Slot) : s.c[1]? = some (.bool s.key.src.six) := rfl
theorem set_Slot_1 (s : Slot) (v : Bool) : s.c.setIfInBounds 1 (.bool v) = ({ s with key := { s.key with src := { s.key.src with six := v } } } : Slot).c := rfl
theorem ext_Slot_2_16 (s : Slot) : s.c.extract 2 (2 + 16) = s.key.src.b.c := by kernel_rfl
theorem spl_Slot_2_16 (s : Slot) (v : B16) : splice s.c 2 v.c = ({ s with key := { s.key with src := { s.key.src with b := v } } } : Slot).c := by kernel_rfl
theorem ext_Slot_18_17 (s : Slot) : s.c.extract 18 (18 + 17) = s.key.dst.c := by kernel_rfl
theorem spl_Slot_18_17 (s : Slot) (v : Adr) : splice s.c 18 v.c = ({ s with key := { s.key with dst := v } } : Slot).c := by kernel_rfl
theorem get_Slot_18 (s : Slot) : s.c[18]? = some (.bool s.key.dst.six) := rfl
theorem set_Slot_18 (s : Slot) (v : Bool) : s.c.setIfInBounds 18 (.bool v) = ({ s with key := { s.key with dst := { s.key.dst with six := v } } } : Slot).c := rfl
theorem ext_Slot_19_16 (s : Slot) : s.c.extract 19 (19 + 16) = s.key.dst.b.c := by kernel_rfl
theorem spl_Slot_19_16 (s : Slot) (v : B16) : splice s.c 19 v.c = ({ s with key := { s.key with dst := { s.key.dst with b := v } } } : Slot).c := by kernel_rfl
theorem get_Slot_35 (s : Slot) : s.c[35]? = some (.int .u8 s.key.proto) := rfl
theorem set_Slot_35 (s : Slot) (v : Int) : s.c.setIfInBounds 35 (.int .u8 v) = ({ s with key := { s.key with proto := v } } : Slot).c := rfl
theorem get_Slot_36 (s : Slot) : s.c[36]? = some (.int .u16 s.key.srcPort) := rfl
theorem set_Slot_36 (s : Slot) (v : Int) : s.c.setIfInBounds 36 (.int .u16 v) = ({ s with key := { s.key with srcPort := v } } : Slot).c := rfl
theorem get_Slot_37 (s : Slot) : s.c[37]? = some (.int .u16 s.key.dstPort) := rfl
theorem set_Slot_37 (s : Slot) (v : Int) : s.c.setIfInBounds 37 (.int .u16 v) = ({ s with key := { s.key with dstPort := v } } : Slot).c := rfl
theorem get_Slot_38 (s : Slot) : s.c[38]? = some (.int .u64 s.n) := rfl
theorem set_Slot_38 (s : Slot) (v : Int) : s.c.setIfInBounds 38 (.int .u64 v) = ({ s with n := v } : Slot).c := rfl
theorem one_Slot (s : Slot) : ∀ u ∈ s.c.toList, u.oneCell' = true := by
  simp [Slot.c, oc_int, oc_bool]
theorem splw_Slot (s : Slot) (cs : Array Value) (h : cs.size = 39) : splice cs 0 s.c = s.c := splice_whole (h.trans (siz_Slot s).symm)
theorem extw_Slot (s : Slot) : s.c.extract 0 (0 + 39) = s.c := by kernel_rfl

theorem siz_Tab (s : Tab) : s.c.size = 2 := rfl
theorem get_Tab_0 (s : Tab) : s.c[0]? = some (s.slots) := rfl
theorem set_Tab_0 (s : Tab) (v : Value) : s.c.setIfInBounds 0 (v) = ({ s with slots := v } : Tab).c := rfl
theorem get_Tab_1 (s : Tab) : s.c[1]? = some (.int .i64 s.many) := rfl
theorem set_Tab_1 (s : Tab) (v : Int) : s.c.setIfInBounds 1 (.int .i64 v) = ({ s with many := v } : Tab).c := rfl
theorem one_Tab (s : Tab) (h_slots : s.slots.oneCell' = true) : ∀ u ∈ s.c.toList, u.oneCell' = true := by
  simp [Tab.c, oc_int, oc_bool, h_slots]
theorem splw_Tab (s : Tab) (cs : Array Value) (h : cs.size = 2) : splice cs 0 s.c = s.c := splice_whole (h.trans (siz_Tab s).symm)
theorem extw_Tab (s : Tab) : s.c.extract 0 (0 + 2) = s.c := by kernel_rfl

theorem siz_Act24 (s : Act24) : s.c.size = 43 := rfl
theorem get_Act24_0 (s : Act24) : s.c[0]? = some (.int .i64 s.do_) := rfl
theorem set_Act24_0 (s : Act24) (v : Int) : s.c.setIfInBounds 0 (.int .i64 v) = ({ s with do_ := v } : Act24).c := rfl
theorem ext_Act24_1_40 (s : Act24) : s.c.extract 1 (1 + 40) = s.packet.c := by kernel_rfl
theorem spl_Act24_1_40 (s : Act24) (v : Pkt) : splice s.c 1 v.c = ({ s with packet := v } : Act24).c := by kernel_rfl
theorem ext_Act24_1_37 (s : Act24) : s.c.extract 1 (1 + 37) = s.packet.key.c := by kernel_rfl
theorem spl_Act24_1_37 (s : Act24) (v : Key) : splice s.c 1 v.c = ({ s with packet := { s.packet with key := v } } : Act24).c := by kernel_rfl
theorem ext_Act24_1_17 (s : Act24) : s.c.extract 1 (1 + 17) = s.packet.key.src.c := by kernel_rfl
theorem spl_Act24_1_17 (s : Act24) (v : Adr) : splice s.c 1 v.c = ({ s with packet := { s.packet with key := { s.packet.key with src := v } } } : Act24).c := by kernel_rfl
theorem get_Act24_1 (s : Act24) : s.c[1]? = some (.bool s.packet.key.src.six) := rfl
theorem set_Act24_1 (s : Act24) (v : Bool) : s.c.setIfInBounds 1 (.bool v) = ({ s with packet := { s.packet with key := { s.packet.key with src := { s.packet.key.src with six := v } } } } : Act24).c := rfl
theorem ext_Act24_2_16 (s : Act24) : s.c.extract 2 (2 + 16) = s.packet.key.src.b.c := by kernel_rfl
theorem spl_Act24_2_16 (s : Act24) (v : B16) : splice s.c 2 v.c = ({ s with packet := { s.packet with key := { s.packet.key with src := { s.packet.key.src with b := v } } } } : Act24).c := by kernel_rfl
theorem ext_Act24_18_17 (s : Act24) : s.c.extract 18 (18 + 17) = s.packet.key.dst.c := by kernel_rfl
theorem spl_Act24_18_17 (s : Act24) (v : Adr) : splice s.c 18 v.c = ({ s with packet := { s.packet with key := { s.packet.key with dst := v } } } : Act24).c := by kernel_rfl
theorem get_Act24_18 (s : Act24) : s.c[18]? = some (.bool s.packet.key.dst.six) := rfl
theorem set_Act24_18 (s : Act24) (v : Bool) : s.c.setIfInBounds 18 (.bool v) = ({ s with packet := { s.packet with key := { s.packet.key with dst := { s.packet.key.dst with six := v } } } } : Act24).c := rfl
theorem ext_Act24_19_16 (s : Act24) : s.c.extract 19 (19 + 16) = s.packet.key.dst.b.c := by kernel_rfl
theorem spl_Act24_19_16 (s : Act24) (v : B16) : splice s.c 19 v.c = ({ s with packet := { s.packet with key := { s.packet.key with dst := { s.packet.key.dst with b := v } } } } : Act24).c := by kernel_rfl
theorem get_Act24_35 (s : Act24) : s.c[35]? = some (.int .u8 s.packet.key.proto) := rfl
theorem set_Act24_35 (s : Act24) (v : Int) : s.c.setIfInBounds 35 (.int .u8 v) = ({ s with packet := { s.packet with key := { s.packet.key with proto := v } } } : Act24).c := rfl
theorem get_Act24_36 (s : Act24) : s.c[36]? = some (.int .u16 s.packet.key.srcPort) := rfl
theorem set_Act24_36 (s : Act24) (v : Int) : s.c.setIfInBounds 36 (.int .u16 v) = ({ s with packet := { s.packet with key := { s.packet.key with srcPort := v } } } : Act24).c := rfl
theorem get_Act24_37 (s : Act24) : s.c[37]? = some (.int .u16 s.packet.key.dstPort) := rfl
theorem set_Act24_37 (s : Act24) (v : Int) : s.c.setIfInBounds 37 (.int .u16 v) = ({ s with packet := { s.packet with key := { s.packet.key with dstPort := v } } } : Act24).c := rfl
theorem get_Act24_38 (s : Act24) : s.c[38]? = some (.int .i64 s.packet.length) := rfl
theorem set_Act24_38 (s : Act24) (v : Int) : s.c.setIfInBounds 38 (.int .i64 v) = ({ s with packet := { s.packet with length := v } } : Act24).c := rfl
theorem get_Act24_39 (s : Act24) : s.c[39]? = some (.int .u8 s.packet.flags) := rfl
theorem set_Act24_39 (s : Act24) (v : Int) : s.c.setIfInBounds 39 (.int .u8 v) = ({ s with packet := { s.packet with flags := v } } : Act24).c := rfl
theorem get_Act24_40 (s : Act24) : s.c[40]? = some (.bool s.packet.fragment) := rfl
theorem set_Act24_40 (s : Act24) (v : Bool) : s.c.setIfInBounds 40 (.bool v) = ({ s with packet := { s.packet with fragment := v } } : Act24).c := rfl
theorem get_Act24_41 (s : Act24) : s.c[41]? = some (.int .u8 s.cls) := rfl
theorem set_Act24_41 (s : Act24) (v : Int) : s.c.setIfInBounds 41 (.int .u8 v) = ({ s with cls := v } : Act24).c := rfl
theorem get_Act24_42 (s : Act24) : s.c[42]? = some (.int .u64 s.tick) := rfl
theorem set_Act24_42 (s : Act24) (v : Int) : s.c.setIfInBounds 42 (.int .u64 v) = ({ s with tick := v } : Act24).c := rfl
theorem one_Act24 (s : Act24) : ∀ u ∈ s.c.toList, u.oneCell' = true := by
  simp [Act24.c, oc_int, oc_bool]
theorem splw_Act24 (s : Act24) (cs : Array Value) (h : cs.size = 43) : splice cs 0 s.c = s.c := splice_whole (h.trans (siz_Act24 s).symm)
theorem extw_Act24 (s : Act24) : s.c.extract 0 (0 + 43) = s.c := by kernel_rfl

theorem siz_Bnd (s : Bnd) : s.c.size = 5 := rfl
theorem get_Bnd_0 (s : Bnd) : s.c[0]? = some (.int .i64 s.flows) := rfl
theorem set_Bnd_0 (s : Bnd) (v : Int) : s.c.setIfInBounds 0 (.int .i64 v) = ({ s with flows := v } : Bnd).c := rfl
theorem get_Bnd_1 (s : Bnd) : s.c[1]? = some (.int .u64 s.idle) := rfl
theorem set_Bnd_1 (s : Bnd) (v : Int) : s.c.setIfInBounds 1 (.int .u64 v) = ({ s with idle := v } : Bnd).c := rfl
theorem get_Bnd_2 (s : Bnd) : s.c[2]? = some (.int .u64 s.active) := rfl
theorem set_Bnd_2 (s : Bnd) (v : Int) : s.c.setIfInBounds 2 (.int .u64 v) = ({ s with active := v } : Bnd).c := rfl
theorem get_Bnd_3 (s : Bnd) : s.c[3]? = some (.int .u64 s.packets) := rfl
theorem set_Bnd_3 (s : Bnd) (v : Int) : s.c.setIfInBounds 3 (.int .u64 v) = ({ s with packets := v } : Bnd).c := rfl
theorem get_Bnd_4 (s : Bnd) : s.c[4]? = some (.int .u64 s.bytes) := rfl
theorem set_Bnd_4 (s : Bnd) (v : Int) : s.c.setIfInBounds 4 (.int .u64 v) = ({ s with bytes := v } : Bnd).c := rfl
theorem one_Bnd (s : Bnd) : ∀ u ∈ s.c.toList, u.oneCell' = true := by
  simp [Bnd.c, oc_int, oc_bool]
theorem splw_Bnd (s : Bnd) (cs : Array Value) (h : cs.size = 5) : splice cs 0 s.c = s.c := splice_whole (h.trans (siz_Bnd s).symm)
theorem extw_Bnd (s : Bnd) : s.c.extract 0 (0 + 5) = s.c := by kernel_rfl

theorem siz_Cac (s : Cac) : s.c.size = 8 := rfl
theorem get_Cac_0 (s : Cac) : s.c[0]? = some (.int .u64 s.tick) := rfl
theorem set_Cac_0 (s : Cac) (v : Int) : s.c.setIfInBounds 0 (.int .u64 v) = ({ s with tick := v } : Cac).c := rfl
theorem ext_Cac_1_5 (s : Cac) : s.c.extract 1 (1 + 5) = s.bounds.c := by kernel_rfl
theorem spl_Cac_1_5 (s : Cac) (v : Bnd) : splice s.c 1 v.c = ({ s with bounds := v } : Cac).c := by kernel_rfl
theorem get_Cac_1 (s : Cac) : s.c[1]? = some (.int .i64 s.bounds.flows) := rfl
theorem set_Cac_1 (s : Cac) (v : Int) : s.c.setIfInBounds 1 (.int .i64 v) = ({ s with bounds := { s.bounds with flows := v } } : Cac).c := rfl
theorem get_Cac_2 (s : Cac) : s.c[2]? = some (.int .u64 s.bounds.idle) := rfl
theorem set_Cac_2 (s : Cac) (v : Int) : s.c.setIfInBounds 2 (.int .u64 v) = ({ s with bounds := { s.bounds with idle := v } } : Cac).c := rfl
theorem get_Cac_3 (s : Cac) : s.c[3]? = some (.int .u64 s.bounds.active) := rfl
theorem set_Cac_3 (s : Cac) (v : Int) : s.c.setIfInBounds 3 (.int .u64 v) = ({ s with bounds := { s.bounds with active := v } } : Cac).c := rfl
theorem get_Cac_4 (s : Cac) : s.c[4]? = some (.int .u64 s.bounds.packets) := rfl
theorem set_Cac_4 (s : Cac) (v : Int) : s.c.setIfInBounds 4 (.int .u64 v) = ({ s with bounds := { s.bounds with packets := v } } : Cac).c := rfl
theorem get_Cac_5 (s : Cac) : s.c[5]? = some (.int .u64 s.bounds.bytes) := rfl
theorem set_Cac_5 (s : Cac) (v : Int) : s.c.setIfInBounds 5 (.int .u64 v) = ({ s with bounds := { s.bounds with bytes := v } } : Cac).c := rfl
theorem get_Cac_6 (s : Cac) : s.c[6]? = some (s.places) := rfl
theorem set_Cac_6 (s : Cac) (v : Value) : s.c.setIfInBounds 6 (v) = ({ s with places := v } : Cac).c := rfl
theorem get_Cac_7 (s : Cac) : s.c[7]? = some (s.flows) := rfl
theorem set_Cac_7 (s : Cac) (v : Value) : s.c.setIfInBounds 7 (v) = ({ s with flows := v } : Cac).c := rfl
theorem one_Cac (s : Cac) (h_places : s.places.oneCell' = true) (h_flows : s.flows.oneCell' = true) : ∀ u ∈ s.c.toList, u.oneCell' = true := by
  simp [Cac.c, oc_int, oc_bool, h_places, h_flows]
theorem splw_Cac (s : Cac) (cs : Array Value) (h : cs.size = 8) : splice cs 0 s.c = s.c := splice_whole (h.trans (siz_Cac s).symm)
theorem extw_Cac (s : Cac) : s.c.extract 0 (0 + 8) = s.c := by kernel_rfl

theorem siz_Note (s : Note) : s.c.size = 45 := rfl
theorem get_Note_0 (s : Note) : s.c[0]? = some (.int .i64 s.kind) := rfl
theorem set_Note_0 (s : Note) (v : Int) : s.c.setIfInBounds 0 (.int .i64 v) = ({ s with kind := v } : Note).c := rfl
theorem ext_Note_1_37 (s : Note) : s.c.extract 1 (1 + 37) = s.key.c := by kernel_rfl
theorem spl_Note_1_37 (s : Note) (v : Key) : splice s.c 1 v.c = ({ s with key := v } : Note).c := by kernel_rfl
theorem ext_Note_1_17 (s : Note) : s.c.extract 1 (1 + 17) = s.key.src.c := by kernel_rfl
theorem spl_Note_1_17 (s : Note) (v : Adr) : splice s.c 1 v.c = ({ s with key := { s.key with src := v } } : Note).c := by kernel_rfl
theorem get_Note_1 (s : Note) : s.c[1]? = some (.bool s.key.src.six) := rfl
theorem set_Note_1 (s : Note) (v : Bool) : s.c.setIfInBounds 1 (.bool v) = ({ s with key := { s.key with src := { s.key.src with six := v } } } : Note).c := rfl
theorem ext_Note_2_16 (s : Note) : s.c.extract 2 (2 + 16) = s.key.src.b.c := by kernel_rfl
theorem spl_Note_2_16 (s : Note) (v : B16) : splice s.c 2 v.c = ({ s with key := { s.key with src := { s.key.src with b := v } } } : Note).c := by kernel_rfl
theorem ext_Note_18_17 (s : Note) : s.c.extract 18 (18 + 17) = s.key.dst.c := by kernel_rfl
theorem spl_Note_18_17 (s : Note) (v : Adr) : splice s.c 18 v.c = ({ s with key := { s.key with dst := v } } : Note).c := by kernel_rfl
theorem get_Note_18 (s : Note) : s.c[18]? = some (.bool s.key.dst.six) := rfl
theorem set_Note_18 (s : Note) (v : Bool) : s.c.setIfInBounds 18 (.bool v) = ({ s with key := { s.key with dst := { s.key.dst with six := v } } } : Note).c := rfl
theorem ext_Note_19_16 (s : Note) : s.c.extract 19 (19 + 16) = s.key.dst.b.c := by kernel_rfl
theorem spl_Note_19_16 (s : Note) (v : B16) : splice s.c 19 v.c = ({ s with key := { s.key with dst := { s.key.dst with b := v } } } : Note).c := by kernel_rfl
theorem get_Note_35 (s : Note) : s.c[35]? = some (.int .u8 s.key.proto) := rfl
theorem set_Note_35 (s : Note) (v : Int) : s.c.setIfInBounds 35 (.int .u8 v) = ({ s with key := { s.key with proto := v } } : Note).c := rfl
theorem get_Note_36 (s : Note) : s.c[36]? = some (.int .u16 s.key.srcPort) := rfl
theorem set_Note_36 (s : Note) (v : Int) : s.c.setIfInBounds 36 (.int .u16 v) = ({ s with key := { s.key with srcPort := v } } : Note).c := rfl
theorem get_Note_37 (s : Note) : s.c[37]? = some (.int .u16 s.key.dstPort) := rfl
theorem set_Note_37 (s : Note) (v : Int) : s.c.setIfInBounds 37 (.int .u16 v) = ({ s with key := { s.key with dstPort := v } } : Note).c := rfl
theorem ext_Note_38_2 (s : Note) : s.c.extract 38 (38 + 2) = s.total.c := by kernel_rfl
theorem spl_Note_38_2 (s : Note) (v : Tot) : splice s.c 38 v.c = ({ s with total := v } : Note).c := by kernel_rfl
theorem get_Note_38 (s : Note) : s.c[38]? = some (.int .u64 s.total.packets) := rfl
theorem set_Note_38 (s : Note) (v : Int) : s.c.setIfInBounds 38 (.int .u64 v) = ({ s with total := { s.total with packets := v } } : Note).c := rfl
theorem get_Note_39 (s : Note) : s.c[39]? = some (.int .u64 s.total.bytes) := rfl
theorem set_Note_39 (s : Note) (v : Int) : s.c.setIfInBounds 39 (.int .u64 v) = ({ s with total := { s.total with bytes := v } } : Note).c := rfl
theorem get_Note_40 (s : Note) : s.c[40]? = some (s.records) := rfl
theorem set_Note_40 (s : Note) (v : Value) : s.c.setIfInBounds 40 (v) = ({ s with records := v } : Note).c := rfl
theorem get_Note_41 (s : Note) : s.c[41]? = some (.int .u32 s.epoch) := rfl
theorem set_Note_41 (s : Note) (v : Int) : s.c.setIfInBounds 41 (.int .u32 v) = ({ s with epoch := v } : Note).c := rfl
theorem get_Note_42 (s : Note) : s.c[42]? = some (.int .u64 s.n) := rfl
theorem set_Note_42 (s : Note) (v : Int) : s.c.setIfInBounds 42 (.int .u64 v) = ({ s with n := v } : Note).c := rfl
theorem get_Note_43 (s : Note) : s.c[43]? = some (.int .u64 s.first) := rfl
theorem set_Note_43 (s : Note) (v : Int) : s.c.setIfInBounds 43 (.int .u64 v) = ({ s with first := v } : Note).c := rfl
theorem get_Note_44 (s : Note) : s.c[44]? = some (.int .u64 s.next) := rfl
theorem set_Note_44 (s : Note) (v : Int) : s.c.setIfInBounds 44 (.int .u64 v) = ({ s with next := v } : Note).c := rfl
theorem one_Note (s : Note) (h_records : s.records.oneCell' = true) : ∀ u ∈ s.c.toList, u.oneCell' = true := by
  simp [Note.c, oc_int, oc_bool, h_records]
theorem splw_Note (s : Note) (cs : Array Value) (h : cs.size = 45) : splice cs 0 s.c = s.c := splice_whole (h.trans (siz_Note s).symm)
theorem extw_Note (s : Note) : s.c.extract 0 (0 + 45) = s.c := by kernel_rfl

theorem siz_Entr (s : Entr) : s.c.size = 6 := rfl
theorem get_Entr_0 (s : Entr) : s.c[0]? = some (.int .u32 s.epoch) := rfl
theorem set_Entr_0 (s : Entr) (v : Int) : s.c.setIfInBounds 0 (.int .u32 v) = ({ s with epoch := v } : Entr).c := rfl
theorem get_Entr_1 (s : Entr) : s.c[1]? = some (.int .u64 s.n) := rfl
theorem set_Entr_1 (s : Entr) (v : Int) : s.c.setIfInBounds 1 (.int .u64 v) = ({ s with n := v } : Entr).c := rfl
theorem get_Entr_2 (s : Entr) : s.c[2]? = some (s.records) := rfl
theorem set_Entr_2 (s : Entr) (v : Value) : s.c.setIfInBounds 2 (v) = ({ s with records := v } : Entr).c := rfl
theorem get_Entr_3 (s : Entr) : s.c[3]? = some (.bool s.there) := rfl
theorem set_Entr_3 (s : Entr) (v : Bool) : s.c.setIfInBounds 3 (.bool v) = ({ s with there := v } : Entr).c := rfl
theorem get_Entr_4 (s : Entr) : s.c[4]? = some (.bool s.synced) := rfl
theorem set_Entr_4 (s : Entr) (v : Bool) : s.c.setIfInBounds 4 (.bool v) = ({ s with synced := v } : Entr).c := rfl
theorem get_Entr_5 (s : Entr) : s.c[5]? = some (.bool s.credited) := rfl
theorem set_Entr_5 (s : Entr) (v : Bool) : s.c.setIfInBounds 5 (.bool v) = ({ s with credited := v } : Entr).c := rfl
theorem one_Entr (s : Entr) (h_records : s.records.oneCell' = true) : ∀ u ∈ s.c.toList, u.oneCell' = true := by
  simp [Entr.c, oc_int, oc_bool, h_records]
theorem splw_Entr (s : Entr) (cs : Array Value) (h : cs.size = 6) : splice cs 0 s.c = s.c := splice_whole (h.trans (siz_Entr s).symm)
theorem extw_Entr (s : Entr) : s.c.extract 0 (0 + 6) = s.c := by kernel_rfl

theorem siz_Parts (s : Parts) : s.c.size = 12 := rfl
theorem ext_Parts_0_2 (s : Parts) : s.c.extract 0 (0 + 2) = s.forwarded.c := by kernel_rfl
theorem spl_Parts_0_2 (s : Parts) (v : Tot) : splice s.c 0 v.c = ({ s with forwarded := v } : Parts).c := by kernel_rfl
theorem get_Parts_0 (s : Parts) : s.c[0]? = some (.int .u64 s.forwarded.packets) := rfl
theorem set_Parts_0 (s : Parts) (v : Int) : s.c.setIfInBounds 0 (.int .u64 v) = ({ s with forwarded := { s.forwarded with packets := v } } : Parts).c := rfl
theorem get_Parts_1 (s : Parts) : s.c[1]? = some (.int .u64 s.forwarded.bytes) := rfl
theorem set_Parts_1 (s : Parts) (v : Int) : s.c.setIfInBounds 1 (.int .u64 v) = ({ s with forwarded := { s.forwarded with bytes := v } } : Parts).c := rfl
theorem ext_Parts_2_2 (s : Parts) : s.c.extract 2 (2 + 2) = s.cached.c := by kernel_rfl
theorem spl_Parts_2_2 (s : Parts) (v : Tot) : splice s.c 2 v.c = ({ s with cached := v } : Parts).c := by kernel_rfl
theorem get_Parts_2 (s : Parts) : s.c[2]? = some (.int .u64 s.cached.packets) := rfl
theorem set_Parts_2 (s : Parts) (v : Int) : s.c.setIfInBounds 2 (.int .u64 v) = ({ s with cached := { s.cached with packets := v } } : Parts).c := rfl
theorem get_Parts_3 (s : Parts) : s.c[3]? = some (.int .u64 s.cached.bytes) := rfl
theorem set_Parts_3 (s : Parts) (v : Int) : s.c.setIfInBounds 3 (.int .u64 v) = ({ s with cached := { s.cached with bytes := v } } : Parts).c := rfl
theorem ext_Parts_4_2 (s : Parts) : s.c.extract 4 (4 + 2) = s.volatile.c := by kernel_rfl
theorem spl_Parts_4_2 (s : Parts) (v : Tot) : splice s.c 4 v.c = ({ s with volatile := v } : Parts).c := by kernel_rfl
theorem get_Parts_4 (s : Parts) : s.c[4]? = some (.int .u64 s.volatile.packets) := rfl
theorem set_Parts_4 (s : Parts) (v : Int) : s.c.setIfInBounds 4 (.int .u64 v) = ({ s with volatile := { s.volatile with packets := v } } : Parts).c := rfl
theorem get_Parts_5 (s : Parts) : s.c[5]? = some (.int .u64 s.volatile.bytes) := rfl
theorem set_Parts_5 (s : Parts) (v : Int) : s.c.setIfInBounds 5 (.int .u64 v) = ({ s with volatile := { s.volatile with bytes := v } } : Parts).c := rfl
theorem ext_Parts_6_2 (s : Parts) : s.c.extract 6 (6 + 2) = s.durable.c := by kernel_rfl
theorem spl_Parts_6_2 (s : Parts) (v : Tot) : splice s.c 6 v.c = ({ s with durable := v } : Parts).c := by kernel_rfl
theorem get_Parts_6 (s : Parts) : s.c[6]? = some (.int .u64 s.durable.packets) := rfl
theorem set_Parts_6 (s : Parts) (v : Int) : s.c.setIfInBounds 6 (.int .u64 v) = ({ s with durable := { s.durable with packets := v } } : Parts).c := rfl
theorem get_Parts_7 (s : Parts) : s.c[7]? = some (.int .u64 s.durable.bytes) := rfl
theorem set_Parts_7 (s : Parts) (v : Int) : s.c.setIfInBounds 7 (.int .u64 v) = ({ s with durable := { s.durable with bytes := v } } : Parts).c := rfl
theorem ext_Parts_8_2 (s : Parts) : s.c.extract 8 (8 + 2) = s.lost.c := by kernel_rfl
theorem spl_Parts_8_2 (s : Parts) (v : Tot) : splice s.c 8 v.c = ({ s with lost := v } : Parts).c := by kernel_rfl
theorem get_Parts_8 (s : Parts) : s.c[8]? = some (.int .u64 s.lost.packets) := rfl
theorem set_Parts_8 (s : Parts) (v : Int) : s.c.setIfInBounds 8 (.int .u64 v) = ({ s with lost := { s.lost with packets := v } } : Parts).c := rfl
theorem get_Parts_9 (s : Parts) : s.c[9]? = some (.int .u64 s.lost.bytes) := rfl
theorem set_Parts_9 (s : Parts) (v : Int) : s.c.setIfInBounds 9 (.int .u64 v) = ({ s with lost := { s.lost with bytes := v } } : Parts).c := rfl
theorem ext_Parts_10_2 (s : Parts) : s.c.extract 10 (10 + 2) = s.credited.c := by kernel_rfl
theorem spl_Parts_10_2 (s : Parts) (v : Tot) : splice s.c 10 v.c = ({ s with credited := v } : Parts).c := by kernel_rfl
theorem get_Parts_10 (s : Parts) : s.c[10]? = some (.int .u64 s.credited.packets) := rfl
theorem set_Parts_10 (s : Parts) (v : Int) : s.c.setIfInBounds 10 (.int .u64 v) = ({ s with credited := { s.credited with packets := v } } : Parts).c := rfl
theorem get_Parts_11 (s : Parts) : s.c[11]? = some (.int .u64 s.credited.bytes) := rfl
theorem set_Parts_11 (s : Parts) (v : Int) : s.c.setIfInBounds 11 (.int .u64 v) = ({ s with credited := { s.credited with bytes := v } } : Parts).c := rfl
theorem one_Parts (s : Parts) : ∀ u ∈ s.c.toList, u.oneCell' = true := by
  simp [Parts.c, oc_int, oc_bool]
theorem splw_Parts (s : Parts) (cs : Array Value) (h : cs.size = 12) : splice cs 0 s.c = s.c := splice_whole (h.trans (siz_Parts s).symm)
theorem extw_Parts (s : Parts) : s.c.extract 0 (0 + 12) = s.c := by kernel_rfl

theorem siz_Mod (s : Mod) : s.c.size = 7 := rfl
theorem get_Mod_0 (s : Mod) : s.c[0]? = some (s.forwarded) := rfl
theorem set_Mod_0 (s : Mod) (v : Value) : s.c.setIfInBounds 0 (v) = ({ s with forwarded := v } : Mod).c := rfl
theorem get_Mod_1 (s : Mod) : s.c[1]? = some (s.cached) := rfl
theorem set_Mod_1 (s : Mod) (v : Value) : s.c.setIfInBounds 1 (v) = ({ s with cached := v } : Mod).c := rfl
theorem get_Mod_2 (s : Mod) : s.c[2]? = some (s.lost) := rfl
theorem set_Mod_2 (s : Mod) (v : Value) : s.c.setIfInBounds 2 (v) = ({ s with lost := v } : Mod).c := rfl
theorem get_Mod_3 (s : Mod) : s.c[3]? = some (s.entries) := rfl
theorem set_Mod_3 (s : Mod) (v : Value) : s.c.setIfInBounds 3 (v) = ({ s with entries := v } : Mod).c := rfl
theorem get_Mod_4 (s : Mod) : s.c[4]? = some (s.line) := rfl
theorem set_Mod_4 (s : Mod) (v : Value) : s.c.setIfInBounds 4 (v) = ({ s with line := v } : Mod).c := rfl
theorem get_Mod_5 (s : Mod) : s.c[5]? = some (.int .u64 s.first) := rfl
theorem set_Mod_5 (s : Mod) (v : Int) : s.c.setIfInBounds 5 (.int .u64 v) = ({ s with first := v } : Mod).c := rfl
theorem get_Mod_6 (s : Mod) : s.c[6]? = some (.int .u32 s.boot) := rfl
theorem set_Mod_6 (s : Mod) (v : Int) : s.c.setIfInBounds 6 (.int .u32 v) = ({ s with boot := v } : Mod).c := rfl
theorem one_Mod (s : Mod) (h_forwarded : s.forwarded.oneCell' = true) (h_cached : s.cached.oneCell' = true) (h_lost : s.lost.oneCell' = true) (h_entries : s.entries.oneCell' = true) (h_line : s.line.oneCell' = true) : ∀ u ∈ s.c.toList, u.oneCell' = true := by
  simp [Mod.c, oc_int, oc_bool, h_forwarded, h_cached, h_lost, h_entries, h_line]
theorem splw_Mod (s : Mod) (cs : Array Value) (h : cs.size = 7) : splice cs 0 s.c = s.c := splice_whole (h.trans (siz_Mod s).symm)
theorem extw_Mod (s : Mod) : s.c.extract 0 (0 + 7) = s.c := by kernel_rfl

theorem siz_Sum24 (s : Sum24) : s.c.size = 39 := rfl
theorem ext_Sum24_0_37 (s : Sum24) : s.c.extract 0 (0 + 37) = s.key.c := by kernel_rfl
theorem spl_Sum24_0_37 (s : Sum24) (v : Key) : splice s.c 0 v.c = ({ s with key := v } : Sum24).c := by kernel_rfl
theorem ext_Sum24_0_17 (s : Sum24) : s.c.extract 0 (0 + 17) = s.key.src.c := by kernel_rfl
theorem spl_Sum24_0_17 (s : Sum24) (v : Adr) : splice s.c 0 v.c = ({ s with key := { s.key with src := v } } : Sum24).c := by kernel_rfl
theorem get_Sum24_0 (s : Sum24) : s.c[0]? = some (.bool s.key.src.six) := rfl
theorem set_Sum24_0 (s : Sum24) (v : Bool) : s.c.setIfInBounds 0 (.bool v) = ({ s with key := { s.key with src := { s.key.src with six := v } } } : Sum24).c := rfl
theorem ext_Sum24_1_16 (s : Sum24) : s.c.extract 1 (1 + 16) = s.key.src.b.c := by kernel_rfl
theorem spl_Sum24_1_16 (s : Sum24) (v : B16) : splice s.c 1 v.c = ({ s with key := { s.key with src := { s.key.src with b := v } } } : Sum24).c := by kernel_rfl
theorem ext_Sum24_17_17 (s : Sum24) : s.c.extract 17 (17 + 17) = s.key.dst.c := by kernel_rfl
theorem spl_Sum24_17_17 (s : Sum24) (v : Adr) : splice s.c 17 v.c = ({ s with key := { s.key with dst := v } } : Sum24).c := by kernel_rfl
theorem get_Sum24_17 (s : Sum24) : s.c[17]? = some (.bool s.key.dst.six) := rfl
theorem set_Sum24_17 (s : Sum24) (v : Bool) : s.c.setIfInBounds 17 (.bool v) = ({ s with key := { s.key with dst := { s.key.dst with six := v } } } : Sum24).c := rfl
theorem ext_Sum24_18_16 (s : Sum24) : s.c.extract 18 (18 + 16) = s.key.dst.b.c := by kernel_rfl
theorem spl_Sum24_18_16 (s : Sum24) (v : B16) : splice s.c 18 v.c = ({ s with key := { s.key with dst := { s.key.dst with b := v } } } : Sum24).c := by kernel_rfl
theorem get_Sum24_34 (s : Sum24) : s.c[34]? = some (.int .u8 s.key.proto) := rfl
theorem set_Sum24_34 (s : Sum24) (v : Int) : s.c.setIfInBounds 34 (.int .u8 v) = ({ s with key := { s.key with proto := v } } : Sum24).c := rfl
theorem get_Sum24_35 (s : Sum24) : s.c[35]? = some (.int .u16 s.key.srcPort) := rfl
theorem set_Sum24_35 (s : Sum24) (v : Int) : s.c.setIfInBounds 35 (.int .u16 v) = ({ s with key := { s.key with srcPort := v } } : Sum24).c := rfl
theorem get_Sum24_36 (s : Sum24) : s.c[36]? = some (.int .u16 s.key.dstPort) := rfl
theorem set_Sum24_36 (s : Sum24) (v : Int) : s.c.setIfInBounds 36 (.int .u16 v) = ({ s with key := { s.key with dstPort := v } } : Sum24).c := rfl
theorem ext_Sum24_37_2 (s : Sum24) : s.c.extract 37 (37 + 2) = s.total.c := by kernel_rfl
theorem spl_Sum24_37_2 (s : Sum24) (v : Tot) : splice s.c 37 v.c = ({ s with total := v } : Sum24).c := by kernel_rfl
theorem get_Sum24_37 (s : Sum24) : s.c[37]? = some (.int .u64 s.total.packets) := rfl
theorem set_Sum24_37 (s : Sum24) (v : Int) : s.c.setIfInBounds 37 (.int .u64 v) = ({ s with total := { s.total with packets := v } } : Sum24).c := rfl
theorem get_Sum24_38 (s : Sum24) : s.c[38]? = some (.int .u64 s.total.bytes) := rfl
theorem set_Sum24_38 (s : Sum24) (v : Int) : s.c.setIfInBounds 38 (.int .u64 v) = ({ s with total := { s.total with bytes := v } } : Sum24).c := rfl
theorem one_Sum24 (s : Sum24) : ∀ u ∈ s.c.toList, u.oneCell' = true := by
  simp [Sum24.c, oc_int, oc_bool]
theorem splw_Sum24 (s : Sum24) (cs : Array Value) (h : cs.size = 39) : splice cs 0 s.c = s.c := splice_whole (h.trans (siz_Sum24 s).symm)
theorem extw_Sum24 (s : Sum24) : s.c.extract 0 (0 + 39) = s.c := by kernel_rfl

theorem siz_Wri (s : Wri) : s.c.size = 1 := rfl
theorem get_Wri_0 (s : Wri) : s.c[0]? = some (s.b) := rfl
theorem set_Wri_0 (s : Wri) (v : Value) : s.c.setIfInBounds 0 (v) = ({ s with b := v } : Wri).c := rfl
theorem one_Wri (s : Wri) (h_b : s.b.oneCell' = true) : ∀ u ∈ s.c.toList, u.oneCell' = true := by
  simp [Wri.c, oc_int, oc_bool, h_b]
theorem splw_Wri (s : Wri) (cs : Array Value) (h : cs.size = 1) : splice cs 0 s.c = s.c := splice_whole (h.trans (siz_Wri s).symm)
theorem extw_Wri (s : Wri) : s.c.extract 0 (0 + 1) = s.c := by kernel_rfl

theorem sc2 : Sca Try.prog 2 := fun _ => by kernel_rfl
theorem sz2 : Siz Try.prog 2 1 := fun _ => by kernel_rfl
theorem un2 : Try.prog.underlying 2 = some (.int .i64) := by kernel_rfl
theorem ze2 : Zer Try.prog 2 (.int .i64 0) := fun _ => by kernel_rfl
theorem sc3 : Sca Try.prog 3 := fun _ => by kernel_rfl
theorem sz3 : Siz Try.prog 3 1 := fun _ => by kernel_rfl
theorem un3 : Try.prog.underlying 3 = some (.int .i64) := by kernel_rfl
theorem ze3 : Zer Try.prog 3 (.int .i64 0) := fun _ => by kernel_rfl
theorem sc4 : Sca Try.prog 4 := fun _ => by kernel_rfl
theorem sz4 : Siz Try.prog 4 1 := fun _ => by kernel_rfl
theorem un4 : Try.prog.underlying 4 = some .bool := by kernel_rfl
theorem ze4 : Zer Try.prog 4 (.bool false) := fun _ => by kernel_rfl
theorem sc5 : Sca Try.prog 5 := fun _ => by kernel_rfl
theorem sz5 : Siz Try.prog 5 1 := fun _ => by kernel_rfl
theorem un5 : Try.prog.underlying 5 = some (.int .u8) := by kernel_rfl
theorem ze5 : Zer Try.prog 5 (.int .u8 0) := fun _ => by kernel_rfl
theorem sc6 : Sca Try.prog 6 := fun _ => by kernel_rfl
theorem sz6 : Siz Try.prog 6 1 := fun _ => by kernel_rfl
theorem un6 : Try.prog.underlying 6 = some (.int .u8) := by kernel_rfl
theorem ze6 : Zer Try.prog 6 (.int .u8 0) := fun _ => by kernel_rfl
theorem agg7 : Agg Try.prog 7 4 := ⟨fun _ => by kernel_rfl, fun _ => by kernel_rfl⟩
theorem sz7 : Siz Try.prog 7 4 := fun _ => by kernel_rfl
theorem fd7_0 : Fld Try.prog 7 0 0 := fun _ _ _ => by kernel_rfl
theorem fd7_1 : Fld Try.prog 7 1 1 := fun _ _ _ => by kernel_rfl
theorem fd7_2 : Fld Try.prog 7 2 2 := fun _ _ _ => by kernel_rfl
theorem fd7_3 : Fld Try.prog 7 3 3 := fun _ _ _ => by kernel_rfl
theorem agg8 : Agg Try.prog 8 4 := ⟨fun _ => by kernel_rfl, fun _ => by kernel_rfl⟩
theorem sz8 : Siz Try.prog 8 4 := fun _ => by kernel_rfl
theorem fd8_0 : Fld Try.prog 8 0 0 := fun _ _ _ => by kernel_rfl
theorem fd8_1 : Fld Try.prog 8 1 1 := fun _ _ _ => by kernel_rfl
theorem fd8_2 : Fld Try.prog 8 2 2 := fun _ _ _ => by kernel_rfl
theorem fd8_3 : Fld Try.prog 8 3 3 := fun _ _ _ => by kernel_rfl
theorem sc9 : Sca Try.prog 9 := fun _ => by kernel_rfl
theorem sz9 : Siz Try.prog 9 1 := fun _ => by kernel_rfl
theorem un9 : Try.prog.underlying 9 = some .string := by kernel_rfl
theorem sc10 : Sca Try.prog 10 := fun _ => by kernel_rfl
theorem sz10 : Siz Try.prog 10 1 := fun _ => by kernel_rfl
theorem un10 : Try.prog.underlying 10 = some .string := by kernel_rfl
theorem sc11 : Sca Try.prog 11 := fun _ => by kernel_rfl
theorem sz11 : Siz Try.prog 11 1 := fun _ => by kernel_rfl
theorem un11 : Try.prog.underlying 11 = some .string := by kernel_rfl
theorem sc12 : Sca Try.prog 12 := fun _ => by kernel_rfl
theorem sz12 : Siz Try.prog 12 1 := fun _ => by kernel_rfl
theorem un12 : Try.prog.underlying 12 = some (.int .u64) := by kernel_rfl
theorem ze12 : Zer Try.prog 12 (.int .u64 0) := fun _ => by kernel_rfl
theorem agg13 : Agg Try.prog 13 2 := ⟨fun _ => by kernel_rfl, fun _ => by kernel_rfl⟩
theorem sz13 : Siz Try.prog 13 2 := fun _ => by kernel_rfl
theorem fd13_0 : Fld Try.prog 13 0 0 := fun _ _ _ => by kernel_rfl
theorem fd13_1 : Fld Try.prog 13 1 1 := fun _ _ _ => by kernel_rfl
theorem agg14 : Agg Try.prog 14 2 := ⟨fun _ => by kernel_rfl, fun _ => by kernel_rfl⟩
theorem sz14 : Siz Try.prog 14 2 := fun _ => by kernel_rfl
theorem fd14_0 : Fld Try.prog 14 0 0 := fun _ _ _ => by kernel_rfl
theorem fd14_1 : Fld Try.prog 14 1 1 := fun _ _ _ => by kernel_rfl
theorem sc15 : Sca Try.prog 15 := fun _ => by kernel_rfl
theorem sz15 : Siz Try.prog 15 1 := fun _ => by kernel_rfl
theorem un15 : Try.prog.underlying 15 = some (.pointer 290) := by kernel_rfl
theorem ze15 : Zer Try.prog 15 (.pointer none) := fun _ => by kernel_rfl
theorem sc16 : Sca Try.prog 16 := fun _ => by kernel_rfl
theorem sz16 : Siz Try.prog 16 1 := fun _ => by kernel_rfl
theorem un16 : Try.prog.underlying 16 = some (.pointer 293) := by kernel_rfl
theorem ze16 : Zer Try.prog 16 (.pointer none) := fun _ => by kernel_rfl
theorem sc17 : Sca Try.prog 17 := fun _ => by kernel_rfl
theorem sz17 : Siz Try.prog 17 1 := fun _ => by kernel_rfl
theorem un17 : Try.prog.underlying 17 = some (.pointer 301) := by kernel_rfl
theorem ze17 : Zer Try.prog 17 (.pointer none) := fun _ => by kernel_rfl
theorem agg18 : Agg Try.prog 18 1 := ⟨fun _ => by kernel_rfl, fun _ => by kernel_rfl⟩
theorem sz18 : Siz Try.prog 18 1 := fun _ => by kernel_rfl
theorem fd18_0 : Fld Try.prog 18 0 0 := fun _ _ _ => by kernel_rfl
theorem agg19 : Agg Try.prog 19 1 := ⟨fun _ => by kernel_rfl, fun _ => by kernel_rfl⟩
theorem sz19 : Siz Try.prog 19 1 := fun _ => by kernel_rfl
theorem fd19_0 : Fld Try.prog 19 0 0 := fun _ _ _ => by kernel_rfl
theorem sc21 : Sca Try.prog 21 := fun _ => by kernel_rfl
theorem sz21 : Siz Try.prog 21 1 := fun _ => by kernel_rfl
theorem un21 : Try.prog.underlying 21 = some (.int .i32) := by kernel_rfl
theorem ze21 : Zer Try.prog 21 (.int .i32 0) := fun _ => by kernel_rfl
theorem agg22 : Agg Try.prog 22 16 := ⟨fun _ => by kernel_rfl, fun _ => by kernel_rfl⟩
theorem sz22 : Siz Try.prog 22 16 := fun _ => by kernel_rfl
theorem ze22 : Zer Try.prog 22 (.agg ({ x0 := 0, x1 := 0, x2 := 0, x3 := 0, x4 := 0, x5 := 0, x6 := 0, x7 := 0, x8 := 0, x9 := 0, x10 := 0, x11 := 0, x12 := 0, x13 := 0, x14 := 0, x15 := 0 } : B16).c) := fun _ => by kernel_rfl
theorem un22 : Try.prog.underlying 22 = some (.array 16 5) := by kernel_rfl
theorem agg23 : Agg Try.prog 23 17 := ⟨fun _ => by kernel_rfl, fun _ => by kernel_rfl⟩
theorem sz23 : Siz Try.prog 23 17 := fun _ => by kernel_rfl
theorem fd23_0 : Fld Try.prog 23 0 0 := fun _ _ _ => by kernel_rfl
theorem fd23_1 : Fld Try.prog 23 1 1 := fun _ _ _ => by kernel_rfl
theorem agg24 : Agg Try.prog 24 17 := ⟨fun _ => by kernel_rfl, fun _ => by kernel_rfl⟩
theorem sz24 : Siz Try.prog 24 17 := fun _ => by kernel_rfl
theorem fd24_0 : Fld Try.prog 24 0 0 := fun _ _ _ => by kernel_rfl
theorem fd24_1 : Fld Try.prog 24 1 1 := fun _ _ _ => by kernel_rfl
theorem ze24 : Zer Try.prog 24 (.agg ({ six := false, b := { x0 := 0, x1 := 0, x2 := 0, x3 := 0, x4 := 0, x5 := 0, x6 := 0, x7 := 0, x8 := 0, x9 := 0, x10 := 0, x11 := 0, x12 := 0, x13 := 0, x14 := 0, x15 := 0 } } : Adr).c) := fun _ => by kernel_rfl
theorem sc25 : Sca Try.prog 25 := fun _ => by kernel_rfl
theorem sz25 : Siz Try.prog 25 1 := fun _ => by kernel_rfl
theorem un25 : Try.prog.underlying 25 = some (.int .u16) := by kernel_rfl
theorem ze25 : Zer Try.prog 25 (.int .u16 0) := fun _ => by kernel_rfl
theorem agg26 : Agg Try.prog 26 37 := ⟨fun _ => by kernel_rfl, fun _ => by kernel_rfl⟩
theorem sz26 : Siz Try.prog 26 37 := fun _ => by kernel_rfl
theorem fd26_0 : Fld Try.prog 26 0 0 := fun _ _ _ => by kernel_rfl
theorem fd26_1 : Fld Try.prog 26 1 17 := fun _ _ _ => by kernel_rfl
theorem fd26_2 : Fld Try.prog 26 2 34 := fun _ _ _ => by kernel_rfl
theorem fd26_3 : Fld Try.prog 26 3 35 := fun _ _ _ => by kernel_rfl
theorem fd26_4 : Fld Try.prog 26 4 36 := fun _ _ _ => by kernel_rfl
theorem agg27 : Agg Try.prog 27 37 := ⟨fun _ => by kernel_rfl, fun _ => by kernel_rfl⟩
theorem sz27 : Siz Try.prog 27 37 := fun _ => by kernel_rfl
theorem fd27_0 : Fld Try.prog 27 0 0 := fun _ _ _ => by kernel_rfl
theorem fd27_1 : Fld Try.prog 27 1 17 := fun _ _ _ => by kernel_rfl
theorem fd27_2 : Fld Try.prog 27 2 34 := fun _ _ _ => by kernel_rfl
theorem fd27_3 : Fld Try.prog 27 3 35 := fun _ _ _ => by kernel_rfl
theorem fd27_4 : Fld Try.prog 27 4 36 := fun _ _ _ => by kernel_rfl
theorem ze27 : Zer Try.prog 27 (.agg ({ src := { six := false, b := { x0 := 0, x1 := 0, x2 := 0, x3 := 0, x4 := 0, x5 := 0, x6 := 0, x7 := 0, x8 := 0, x9 := 0, x10 := 0, x11 := 0, x12 := 0, x13 := 0, x14 := 0, x15 := 0 } }, dst := { six := false, b := { x0 := 0, x1 := 0, x2 := 0, x3 := 0, x4 := 0, x5 := 0, x6 := 0, x7 := 0, x8 := 0, x9 := 0, x10 := 0, x11 := 0, x12 := 0, x13 := 0, x14 := 0, x15 := 0 } }, proto := 0, srcPort := 0, dstPort := 0 } : Key).c) := fun _ => by kernel_rfl
theorem sc28 : Sca Try.prog 28 := fun _ => by kernel_rfl
theorem sz28 : Siz Try.prog 28 1 := fun _ => by kernel_rfl
theorem un28 : Try.prog.underlying 28 = some (.slice 25) := by kernel_rfl
theorem ze28 : Zer Try.prog 28 (.slice none 0 0) := fun _ => by kernel_rfl
theorem sc29 : Sca Try.prog 29 := fun _ => by kernel_rfl
theorem sz29 : Siz Try.prog 29 1 := fun _ => by kernel_rfl
theorem un29 : Try.prog.underlying 29 = some (.slice 30) := by kernel_rfl
theorem ze29 : Zer Try.prog 29 (.slice none 0 0) := fun _ => by kernel_rfl
theorem sc30 : Sca Try.prog 30 := fun _ => by kernel_rfl
theorem sz30 : Siz Try.prog 30 1 := fun _ => by kernel_rfl
theorem un30 : Try.prog.underlying 30 = some (.int .u64) := by kernel_rfl
theorem ze30 : Zer Try.prog 30 (.int .u64 0) := fun _ => by kernel_rfl
theorem agg31 : Agg Try.prog 31 2 := ⟨fun _ => by kernel_rfl, fun _ => by kernel_rfl⟩
theorem sz31 : Siz Try.prog 31 2 := fun _ => by kernel_rfl
theorem fd31_0 : Fld Try.prog 31 0 0 := fun _ _ _ => by kernel_rfl
theorem fd31_1 : Fld Try.prog 31 1 1 := fun _ _ _ => by kernel_rfl
theorem agg32 : Agg Try.prog 32 2 := ⟨fun _ => by kernel_rfl, fun _ => by kernel_rfl⟩
theorem sz32 : Siz Try.prog 32 2 := fun _ => by kernel_rfl
theorem fd32_0 : Fld Try.prog 32 0 0 := fun _ _ _ => by kernel_rfl
theorem fd32_1 : Fld Try.prog 32 1 1 := fun _ _ _ => by kernel_rfl
theorem ze32 : Zer Try.prog 32 (.agg ({ packets := 0, bytes := 0 } : Tot).c) := fun _ => by kernel_rfl
theorem agg34 : Agg Try.prog 34 44 := ⟨fun _ => by kernel_rfl, fun _ => by kernel_rfl⟩
theorem sz34 : Siz Try.prog 34 44 := fun _ => by kernel_rfl
theorem fd34_0 : Fld Try.prog 34 0 0 := fun _ _ _ => by kernel_rfl
theorem fd34_1 : Fld Try.prog 34 1 37 := fun _ _ _ => by kernel_rfl
theorem fd34_2 : Fld Try.prog 34 2 38 := fun _ _ _ => by kernel_rfl
theorem fd34_3 : Fld Try.prog 34 3 39 := fun _ _ _ => by kernel_rfl
theorem fd34_4 : Fld Try.prog 34 4 40 := fun _ _ _ => by kernel_rfl
theorem fd34_5 : Fld Try.prog 34 5 41 := fun _ _ _ => by kernel_rfl
theorem fd34_6 : Fld Try.prog 34 6 42 := fun _ _ _ => by kernel_rfl
theorem fd34_7 : Fld Try.prog 34 7 43 := fun _ _ _ => by kernel_rfl
theorem agg35 : Agg Try.prog 35 44 := ⟨fun _ => by kernel_rfl, fun _ => by kernel_rfl⟩
theorem sz35 : Siz Try.prog 35 44 := fun _ => by kernel_rfl
theorem fd35_0 : Fld Try.prog 35 0 0 := fun _ _ _ => by kernel_rfl
theorem fd35_1 : Fld Try.prog 35 1 37 := fun _ _ _ => by kernel_rfl
theorem fd35_2 : Fld Try.prog 35 2 38 := fun _ _ _ => by kernel_rfl
theorem fd35_3 : Fld Try.prog 35 3 39 := fun _ _ _ => by kernel_rfl
theorem fd35_4 : Fld Try.prog 35 4 40 := fun _ _ _ => by kernel_rfl
theorem fd35_5 : Fld Try.prog 35 5 41 := fun _ _ _ => by kernel_rfl
theorem fd35_6 : Fld Try.prog 35 6 42 := fun _ _ _ => by kernel_rfl
theorem fd35_7 : Fld Try.prog 35 7 43 := fun _ _ _ => by kernel_rfl
theorem ze35 : Zer Try.prog 35 (.agg ({ key := { src := { six := false, b := { x0 := 0, x1 := 0, x2 := 0, x3 := 0, x4 := 0, x5 := 0, x6 := 0, x7 := 0, x8 := 0, x9 := 0, x10 := 0, x11 := 0, x12 := 0, x13 := 0, x14 := 0, x15 := 0 } }, dst := { six := false, b := { x0 := 0, x1 := 0, x2 := 0, x3 := 0, x4 := 0, x5 := 0, x6 := 0, x7 := 0, x8 := 0, x9 := 0, x10 := 0, x11 := 0, x12 := 0, x13 := 0, x14 := 0, x15 := 0 } }, proto := 0, srcPort := 0, dstPort := 0 }, packets := 0, bytes := 0, first := 0, last := 0, flags := 0, reason := 0, cls := 0 } : Rec).c) := fun _ => by kernel_rfl
theorem agg38 : Agg Try.prog 38 40 := ⟨fun _ => by kernel_rfl, fun _ => by kernel_rfl⟩
theorem sz38 : Siz Try.prog 38 40 := fun _ => by kernel_rfl
theorem fd38_0 : Fld Try.prog 38 0 0 := fun _ _ _ => by kernel_rfl
theorem fd38_1 : Fld Try.prog 38 1 37 := fun _ _ _ => by kernel_rfl
theorem fd38_2 : Fld Try.prog 38 2 38 := fun _ _ _ => by kernel_rfl
theorem fd38_3 : Fld Try.prog 38 3 39 := fun _ _ _ => by kernel_rfl
theorem agg39 : Agg Try.prog 39 40 := ⟨fun _ => by kernel_rfl, fun _ => by kernel_rfl⟩
theorem sz39 : Siz Try.prog 39 40 := fun _ => by kernel_rfl
theorem fd39_0 : Fld Try.prog 39 0 0 := fun _ _ _ => by kernel_rfl
theorem fd39_1 : Fld Try.prog 39 1 37 := fun _ _ _ => by kernel_rfl
theorem fd39_2 : Fld Try.prog 39 2 38 := fun _ _ _ => by kernel_rfl
theorem fd39_3 : Fld Try.prog 39 3 39 := fun _ _ _ => by kernel_rfl
theorem ze39 : Zer Try.prog 39 (.agg ({ key := { src := { six := false, b := { x0 := 0, x1 := 0, x2 := 0, x3 := 0, x4 := 0, x5 := 0, x6 := 0, x7 := 0, x8 := 0, x9 := 0, x10 := 0, x11 := 0, x12 := 0, x13 := 0, x14 := 0, x15 := 0 } }, dst := { six := false, b := { x0 := 0, x1 := 0, x2 := 0, x3 := 0, x4 := 0, x5 := 0, x6 := 0, x7 := 0, x8 := 0, x9 := 0, x10 := 0, x11 := 0, x12 := 0, x13 := 0, x14 := 0, x15 := 0 } }, proto := 0, srcPort := 0, dstPort := 0 }, length := 0, flags := 0, fragment := false } : Pkt).c) := fun _ => by kernel_rfl
theorem agg43 : Agg Try.prog 43 17 := ⟨fun _ => by kernel_rfl, fun _ => by kernel_rfl⟩
theorem sz43 : Siz Try.prog 43 17 := fun _ => by kernel_rfl
theorem fd43_0 : Fld Try.prog 43 0 0 := fun _ _ _ => by kernel_rfl
theorem fd43_1 : Fld Try.prog 43 1 1 := fun _ _ _ => by kernel_rfl
theorem ze43 : Zer Try.prog 43 (.agg ({ six := false, b := { x0 := 0, x1 := 0, x2 := 0, x3 := 0, x4 := 0, x5 := 0, x6 := 0, x7 := 0, x8 := 0, x9 := 0, x10 := 0, x11 := 0, x12 := 0, x13 := 0, x14 := 0, x15 := 0 } } : Adr).c) := fun _ => by kernel_rfl
theorem agg44 : Agg Try.prog 44 37 := ⟨fun _ => by kernel_rfl, fun _ => by kernel_rfl⟩
theorem sz44 : Siz Try.prog 44 37 := fun _ => by kernel_rfl
theorem fd44_0 : Fld Try.prog 44 0 0 := fun _ _ _ => by kernel_rfl
theorem fd44_1 : Fld Try.prog 44 1 17 := fun _ _ _ => by kernel_rfl
theorem fd44_2 : Fld Try.prog 44 2 34 := fun _ _ _ => by kernel_rfl
theorem fd44_3 : Fld Try.prog 44 3 35 := fun _ _ _ => by kernel_rfl
theorem fd44_4 : Fld Try.prog 44 4 36 := fun _ _ _ => by kernel_rfl
theorem agg45 : Agg Try.prog 45 37 := ⟨fun _ => by kernel_rfl, fun _ => by kernel_rfl⟩
theorem sz45 : Siz Try.prog 45 37 := fun _ => by kernel_rfl
theorem fd45_0 : Fld Try.prog 45 0 0 := fun _ _ _ => by kernel_rfl
theorem fd45_1 : Fld Try.prog 45 1 17 := fun _ _ _ => by kernel_rfl
theorem fd45_2 : Fld Try.prog 45 2 34 := fun _ _ _ => by kernel_rfl
theorem fd45_3 : Fld Try.prog 45 3 35 := fun _ _ _ => by kernel_rfl
theorem fd45_4 : Fld Try.prog 45 4 36 := fun _ _ _ => by kernel_rfl
theorem ze45 : Zer Try.prog 45 (.agg ({ src := { six := false, b := { x0 := 0, x1 := 0, x2 := 0, x3 := 0, x4 := 0, x5 := 0, x6 := 0, x7 := 0, x8 := 0, x9 := 0, x10 := 0, x11 := 0, x12 := 0, x13 := 0, x14 := 0, x15 := 0 } }, dst := { six := false, b := { x0 := 0, x1 := 0, x2 := 0, x3 := 0, x4 := 0, x5 := 0, x6 := 0, x7 := 0, x8 := 0, x9 := 0, x10 := 0, x11 := 0, x12 := 0, x13 := 0, x14 := 0, x15 := 0 } }, proto := 0, srcPort := 0, dstPort := 0 } : Key).c) := fun _ => by kernel_rfl
theorem agg46 : Agg Try.prog 46 44 := ⟨fun _ => by kernel_rfl, fun _ => by kernel_rfl⟩
theorem sz46 : Siz Try.prog 46 44 := fun _ => by kernel_rfl
theorem fd46_0 : Fld Try.prog 46 0 0 := fun _ _ _ => by kernel_rfl
theorem fd46_1 : Fld Try.prog 46 1 37 := fun _ _ _ => by kernel_rfl
theorem fd46_2 : Fld Try.prog 46 2 38 := fun _ _ _ => by kernel_rfl
theorem fd46_3 : Fld Try.prog 46 3 39 := fun _ _ _ => by kernel_rfl
theorem fd46_4 : Fld Try.prog 46 4 40 := fun _ _ _ => by kernel_rfl
theorem fd46_5 : Fld Try.prog 46 5 41 := fun _ _ _ => by kernel_rfl
theorem fd46_6 : Fld Try.prog 46 6 42 := fun _ _ _ => by kernel_rfl
theorem fd46_7 : Fld Try.prog 46 7 43 := fun _ _ _ => by kernel_rfl
theorem agg47 : Agg Try.prog 47 44 := ⟨fun _ => by kernel_rfl, fun _ => by kernel_rfl⟩
theorem sz47 : Siz Try.prog 47 44 := fun _ => by kernel_rfl
theorem fd47_0 : Fld Try.prog 47 0 0 := fun _ _ _ => by kernel_rfl
theorem fd47_1 : Fld Try.prog 47 1 37 := fun _ _ _ => by kernel_rfl
theorem fd47_2 : Fld Try.prog 47 2 38 := fun _ _ _ => by kernel_rfl
theorem fd47_3 : Fld Try.prog 47 3 39 := fun _ _ _ => by kernel_rfl
theorem fd47_4 : Fld Try.prog 47 4 40 := fun _ _ _ => by kernel_rfl
theorem fd47_5 : Fld Try.prog 47 5 41 := fun _ _ _ => by kernel_rfl
theorem fd47_6 : Fld Try.prog 47 6 42 := fun _ _ _ => by kernel_rfl
theorem fd47_7 : Fld Try.prog 47 7 43 := fun _ _ _ => by kernel_rfl
theorem ze47 : Zer Try.prog 47 (.agg ({ key := { src := { six := false, b := { x0 := 0, x1 := 0, x2 := 0, x3 := 0, x4 := 0, x5 := 0, x6 := 0, x7 := 0, x8 := 0, x9 := 0, x10 := 0, x11 := 0, x12 := 0, x13 := 0, x14 := 0, x15 := 0 } }, dst := { six := false, b := { x0 := 0, x1 := 0, x2 := 0, x3 := 0, x4 := 0, x5 := 0, x6 := 0, x7 := 0, x8 := 0, x9 := 0, x10 := 0, x11 := 0, x12 := 0, x13 := 0, x14 := 0, x15 := 0 } }, proto := 0, srcPort := 0, dstPort := 0 }, packets := 0, bytes := 0, first := 0, last := 0, flags := 0, reason := 0, cls := 0 } : Rec).c) := fun _ => by kernel_rfl
theorem agg53 : Agg Try.prog 53 40 := ⟨fun _ => by kernel_rfl, fun _ => by kernel_rfl⟩
theorem sz53 : Siz Try.prog 53 40 := fun _ => by kernel_rfl
theorem fd53_0 : Fld Try.prog 53 0 0 := fun _ _ _ => by kernel_rfl
theorem fd53_1 : Fld Try.prog 53 1 37 := fun _ _ _ => by kernel_rfl
theorem fd53_2 : Fld Try.prog 53 2 38 := fun _ _ _ => by kernel_rfl
theorem fd53_3 : Fld Try.prog 53 3 39 := fun _ _ _ => by kernel_rfl
theorem agg54 : Agg Try.prog 54 40 := ⟨fun _ => by kernel_rfl, fun _ => by kernel_rfl⟩
theorem sz54 : Siz Try.prog 54 40 := fun _ => by kernel_rfl
theorem fd54_0 : Fld Try.prog 54 0 0 := fun _ _ _ => by kernel_rfl
theorem fd54_1 : Fld Try.prog 54 1 37 := fun _ _ _ => by kernel_rfl
theorem fd54_2 : Fld Try.prog 54 2 38 := fun _ _ _ => by kernel_rfl
theorem fd54_3 : Fld Try.prog 54 3 39 := fun _ _ _ => by kernel_rfl
theorem ze54 : Zer Try.prog 54 (.agg ({ key := { src := { six := false, b := { x0 := 0, x1 := 0, x2 := 0, x3 := 0, x4 := 0, x5 := 0, x6 := 0, x7 := 0, x8 := 0, x9 := 0, x10 := 0, x11 := 0, x12 := 0, x13 := 0, x14 := 0, x15 := 0 } }, dst := { six := false, b := { x0 := 0, x1 := 0, x2 := 0, x3 := 0, x4 := 0, x5 := 0, x6 := 0, x7 := 0, x8 := 0, x9 := 0, x10 := 0, x11 := 0, x12 := 0, x13 := 0, x14 := 0, x15 := 0 } }, proto := 0, srcPort := 0, dstPort := 0 }, length := 0, flags := 0, fragment := false } : Pkt).c) := fun _ => by kernel_rfl
theorem agg56 : Agg Try.prog 56 2 := ⟨fun _ => by kernel_rfl, fun _ => by kernel_rfl⟩
theorem sz56 : Siz Try.prog 56 2 := fun _ => by kernel_rfl
theorem fd56_0 : Fld Try.prog 56 0 0 := fun _ _ _ => by kernel_rfl
theorem fd56_1 : Fld Try.prog 56 1 1 := fun _ _ _ => by kernel_rfl
theorem ze56 : Zer Try.prog 56 (.agg ({ packets := 0, bytes := 0 } : Tot).c) := fun _ => by kernel_rfl
theorem sc60 : Sca Try.prog 60 := fun _ => by kernel_rfl
theorem sz60 : Siz Try.prog 60 1 := fun _ => by kernel_rfl
theorem un60 : Try.prog.underlying 60 = some (.slice 165) := by kernel_rfl
theorem ze60 : Zer Try.prog 60 (.slice none 0 0) := fun _ => by kernel_rfl
theorem sc61 : Sca Try.prog 61 := fun _ => by kernel_rfl
theorem sz61 : Siz Try.prog 61 1 := fun _ => by kernel_rfl
theorem un61 : Try.prog.underlying 61 = some (.int .i64) := by kernel_rfl
theorem ze61 : Zer Try.prog 61 (.int .i64 0) := fun _ => by kernel_rfl
theorem sc64 : Sca Try.prog 64 := fun _ => by kernel_rfl
theorem sz64 : Siz Try.prog 64 1 := fun _ => by kernel_rfl
theorem un64 : Try.prog.underlying 64 = some (.slice 76) := by kernel_rfl
theorem ze64 : Zer Try.prog 64 (.slice none 0 0) := fun _ => by kernel_rfl
theorem sc67 : Sca Try.prog 67 := fun _ => by kernel_rfl
theorem sz67 : Siz Try.prog 67 1 := fun _ => by kernel_rfl
theorem un67 : Try.prog.underlying 67 = some (.slice 79) := by kernel_rfl
theorem ze67 : Zer Try.prog 67 (.slice none 0 0) := fun _ => by kernel_rfl
theorem sc71 : Sca Try.prog 71 := fun _ => by kernel_rfl
theorem sz71 : Siz Try.prog 71 1 := fun _ => by kernel_rfl
theorem un71 : Try.prog.underlying 71 = some (.slice 169) := by kernel_rfl
theorem ze71 : Zer Try.prog 71 (.slice none 0 0) := fun _ => by kernel_rfl
theorem sc74 : Sca Try.prog 74 := fun _ => by kernel_rfl
theorem sz74 : Siz Try.prog 74 1 := fun _ => by kernel_rfl
theorem un74 : Try.prog.underlying 74 = some (.slice 5) := by kernel_rfl
theorem ze74 : Zer Try.prog 74 (.slice none 0 0) := fun _ => by kernel_rfl
theorem agg75 : Agg Try.prog 75 2 := ⟨fun _ => by kernel_rfl, fun _ => by kernel_rfl⟩
theorem sz75 : Siz Try.prog 75 2 := fun _ => by kernel_rfl
theorem fd75_0 : Fld Try.prog 75 0 0 := fun _ _ _ => by kernel_rfl
theorem fd75_1 : Fld Try.prog 75 1 1 := fun _ _ _ => by kernel_rfl
theorem agg76 : Agg Try.prog 76 2 := ⟨fun _ => by kernel_rfl, fun _ => by kernel_rfl⟩
theorem sz76 : Siz Try.prog 76 2 := fun _ => by kernel_rfl
theorem fd76_0 : Fld Try.prog 76 0 0 := fun _ _ _ => by kernel_rfl
theorem fd76_1 : Fld Try.prog 76 1 1 := fun _ _ _ => by kernel_rfl
theorem sc77 : Sca Try.prog 77 := fun _ => by kernel_rfl
theorem sz77 : Siz Try.prog 77 1 := fun _ => by kernel_rfl
theorem un77 : Try.prog.underlying 77 = some (.int .u32) := by kernel_rfl
theorem ze77 : Zer Try.prog 77 (.int .u32 0) := fun _ => by kernel_rfl
theorem agg78 : Agg Try.prog 78 3 := ⟨fun _ => by kernel_rfl, fun _ => by kernel_rfl⟩
theorem sz78 : Siz Try.prog 78 3 := fun _ => by kernel_rfl
theorem fd78_0 : Fld Try.prog 78 0 0 := fun _ _ _ => by kernel_rfl
theorem fd78_1 : Fld Try.prog 78 1 1 := fun _ _ _ => by kernel_rfl
theorem fd78_2 : Fld Try.prog 78 2 2 := fun _ _ _ => by kernel_rfl
theorem agg79 : Agg Try.prog 79 3 := ⟨fun _ => by kernel_rfl, fun _ => by kernel_rfl⟩
theorem sz79 : Siz Try.prog 79 3 := fun _ => by kernel_rfl
theorem fd79_0 : Fld Try.prog 79 0 0 := fun _ _ _ => by kernel_rfl
theorem fd79_1 : Fld Try.prog 79 1 1 := fun _ _ _ => by kernel_rfl
theorem fd79_2 : Fld Try.prog 79 2 2 := fun _ _ _ => by kernel_rfl
theorem ze79 : Zer Try.prog 79 (.agg ({ id := 0, pen := 0, len := 0 } : FSpec).c) := fun _ => by kernel_rfl
theorem sc82 : Sca Try.prog 82 := fun _ => by kernel_rfl
theorem sz82 : Siz Try.prog 82 1 := fun _ => by kernel_rfl
theorem un82 : Try.prog.underlying 82 = some (.slice 88) := by kernel_rfl
theorem ze82 : Zer Try.prog 82 (.slice none 0 0) := fun _ => by kernel_rfl
theorem sc83 : Sca Try.prog 83 := fun _ => by kernel_rfl
theorem sz83 : Siz Try.prog 83 1 := fun _ => by kernel_rfl
theorem un83 : Try.prog.underlying 83 = some (.pointer 172) := by kernel_rfl
theorem ze83 : Zer Try.prog 83 (.pointer none) := fun _ => by kernel_rfl
theorem sc86 : Sca Try.prog 86 := fun _ => by kernel_rfl
theorem sz86 : Siz Try.prog 86 1 := fun _ => by kernel_rfl
theorem un86 : Try.prog.underlying 86 = some (.slice 27) := by kernel_rfl
theorem ze86 : Zer Try.prog 86 (.slice none 0 0) := fun _ => by kernel_rfl
theorem agg87 : Agg Try.prog 87 39 := ⟨fun _ => by kernel_rfl, fun _ => by kernel_rfl⟩
theorem sz87 : Siz Try.prog 87 39 := fun _ => by kernel_rfl
theorem fd87_0 : Fld Try.prog 87 0 0 := fun _ _ _ => by kernel_rfl
theorem fd87_1 : Fld Try.prog 87 1 1 := fun _ _ _ => by kernel_rfl
theorem fd87_2 : Fld Try.prog 87 2 38 := fun _ _ _ => by kernel_rfl
theorem agg88 : Agg Try.prog 88 39 := ⟨fun _ => by kernel_rfl, fun _ => by kernel_rfl⟩
theorem sz88 : Siz Try.prog 88 39 := fun _ => by kernel_rfl
theorem fd88_0 : Fld Try.prog 88 0 0 := fun _ _ _ => by kernel_rfl
theorem fd88_1 : Fld Try.prog 88 1 1 := fun _ _ _ => by kernel_rfl
theorem fd88_2 : Fld Try.prog 88 2 38 := fun _ _ _ => by kernel_rfl
theorem ze88 : Zer Try.prog 88 (.agg ({ do_ := 0, k := { src := { six := false, b := { x0 := 0, x1 := 0, x2 := 0, x3 := 0, x4 := 0, x5 := 0, x6 := 0, x7 := 0, x8 := 0, x9 := 0, x10 := 0, x11 := 0, x12 := 0, x13 := 0, x14 := 0, x15 := 0 } }, dst := { six := false, b := { x0 := 0, x1 := 0, x2 := 0, x3 := 0, x4 := 0, x5 := 0, x6 := 0, x7 := 0, x8 := 0, x9 := 0, x10 := 0, x11 := 0, x12 := 0, x13 := 0, x14 := 0, x15 := 0 } }, proto := 0, srcPort := 0, dstPort := 0 }, n := 0 } : Act23).c) := fun _ => by kernel_rfl
theorem sc89 : Sca Try.prog 89 := fun _ => by kernel_rfl
theorem sz89 : Siz Try.prog 89 1 := fun _ => by kernel_rfl
theorem un89 : Try.prog.underlying 89 = some (.slice 3) := by kernel_rfl
theorem ze89 : Zer Try.prog 89 (.slice none 0 0) := fun _ => by kernel_rfl
theorem agg99 : Agg Try.prog 99 43 := ⟨fun _ => by kernel_rfl, fun _ => by kernel_rfl⟩
theorem sz99 : Siz Try.prog 99 43 := fun _ => by kernel_rfl
theorem fd99_0 : Fld Try.prog 99 0 0 := fun _ _ _ => by kernel_rfl
theorem fd99_1 : Fld Try.prog 99 1 1 := fun _ _ _ => by kernel_rfl
theorem fd99_2 : Fld Try.prog 99 2 41 := fun _ _ _ => by kernel_rfl
theorem fd99_3 : Fld Try.prog 99 3 42 := fun _ _ _ => by kernel_rfl
theorem agg100 : Agg Try.prog 100 43 := ⟨fun _ => by kernel_rfl, fun _ => by kernel_rfl⟩
theorem sz100 : Siz Try.prog 100 43 := fun _ => by kernel_rfl
theorem fd100_0 : Fld Try.prog 100 0 0 := fun _ _ _ => by kernel_rfl
theorem fd100_1 : Fld Try.prog 100 1 1 := fun _ _ _ => by kernel_rfl
theorem fd100_2 : Fld Try.prog 100 2 41 := fun _ _ _ => by kernel_rfl
theorem fd100_3 : Fld Try.prog 100 3 42 := fun _ _ _ => by kernel_rfl
theorem ze100 : Zer Try.prog 100 (.agg ({ do_ := 0, packet := { key := { src := { six := false, b := { x0 := 0, x1 := 0, x2 := 0, x3 := 0, x4 := 0, x5 := 0, x6 := 0, x7 := 0, x8 := 0, x9 := 0, x10 := 0, x11 := 0, x12 := 0, x13 := 0, x14 := 0, x15 := 0 } }, dst := { six := false, b := { x0 := 0, x1 := 0, x2 := 0, x3 := 0, x4 := 0, x5 := 0, x6 := 0, x7 := 0, x8 := 0, x9 := 0, x10 := 0, x11 := 0, x12 := 0, x13 := 0, x14 := 0, x15 := 0 } }, proto := 0, srcPort := 0, dstPort := 0 }, length := 0, flags := 0, fragment := false }, cls := 0, tick := 0 } : Act24).c) := fun _ => by kernel_rfl
theorem sc101 : Sca Try.prog 101 := fun _ => by kernel_rfl
theorem sz101 : Siz Try.prog 101 1 := fun _ => by kernel_rfl
theorem un101 : Try.prog.underlying 101 = some (.pointer 178) := by kernel_rfl
theorem ze101 : Zer Try.prog 101 (.pointer none) := fun _ => by kernel_rfl
theorem sc102 : Sca Try.prog 102 := fun _ => by kernel_rfl
theorem sz102 : Siz Try.prog 102 1 := fun _ => by kernel_rfl
theorem un102 : Try.prog.underlying 102 = some (.slice 35) := by kernel_rfl
theorem ze102 : Zer Try.prog 102 (.slice none 0 0) := fun _ => by kernel_rfl
theorem sc112 : Sca Try.prog 112 := fun _ => by kernel_rfl
theorem sz112 : Siz Try.prog 112 1 := fun _ => by kernel_rfl
theorem un112 : Try.prog.underlying 112 = some (.slice 195) := by kernel_rfl
theorem ze112 : Zer Try.prog 112 (.slice none 0 0) := fun _ => by kernel_rfl
theorem sc124 : Sca Try.prog 124 := fun _ => by kernel_rfl
theorem sz124 : Siz Try.prog 124 1 := fun _ => by kernel_rfl
theorem un124 : Try.prog.underlying 124 = some (.slice 175) := by kernel_rfl
theorem ze124 : Zer Try.prog 124 (.slice none 0 0) := fun _ => by kernel_rfl
theorem sc129 : Sca Try.prog 129 := fun _ => by kernel_rfl
theorem sz129 : Siz Try.prog 129 1 := fun _ => by kernel_rfl
theorem un129 : Try.prog.underlying 129 = some (.slice 135) := by kernel_rfl
theorem ze129 : Zer Try.prog 129 (.slice none 0 0) := fun _ => by kernel_rfl
theorem sc131 : Sca Try.prog 131 := fun _ => by kernel_rfl
theorem sz131 : Siz Try.prog 131 1 := fun _ => by kernel_rfl
theorem un131 : Try.prog.underlying 131 = some (.pointer 207) := by kernel_rfl
theorem ze131 : Zer Try.prog 131 (.pointer none) := fun _ => by kernel_rfl
theorem agg134 : Agg Try.prog 134 45 := ⟨fun _ => by kernel_rfl, fun _ => by kernel_rfl⟩
theorem sz134 : Siz Try.prog 134 45 := fun _ => by kernel_rfl
theorem fd134_0 : Fld Try.prog 134 0 0 := fun _ _ _ => by kernel_rfl
theorem fd134_1 : Fld Try.prog 134 1 1 := fun _ _ _ => by kernel_rfl
theorem fd134_2 : Fld Try.prog 134 2 38 := fun _ _ _ => by kernel_rfl
theorem fd134_3 : Fld Try.prog 134 3 40 := fun _ _ _ => by kernel_rfl
theorem fd134_4 : Fld Try.prog 134 4 41 := fun _ _ _ => by kernel_rfl
theorem fd134_5 : Fld Try.prog 134 5 42 := fun _ _ _ => by kernel_rfl
theorem fd134_6 : Fld Try.prog 134 6 43 := fun _ _ _ => by kernel_rfl
theorem fd134_7 : Fld Try.prog 134 7 44 := fun _ _ _ => by kernel_rfl
theorem agg135 : Agg Try.prog 135 45 := ⟨fun _ => by kernel_rfl, fun _ => by kernel_rfl⟩
theorem sz135 : Siz Try.prog 135 45 := fun _ => by kernel_rfl
theorem fd135_0 : Fld Try.prog 135 0 0 := fun _ _ _ => by kernel_rfl
theorem fd135_1 : Fld Try.prog 135 1 1 := fun _ _ _ => by kernel_rfl
theorem fd135_2 : Fld Try.prog 135 2 38 := fun _ _ _ => by kernel_rfl
theorem fd135_3 : Fld Try.prog 135 3 40 := fun _ _ _ => by kernel_rfl
theorem fd135_4 : Fld Try.prog 135 4 41 := fun _ _ _ => by kernel_rfl
theorem fd135_5 : Fld Try.prog 135 5 42 := fun _ _ _ => by kernel_rfl
theorem fd135_6 : Fld Try.prog 135 6 43 := fun _ _ _ => by kernel_rfl
theorem fd135_7 : Fld Try.prog 135 7 44 := fun _ _ _ => by kernel_rfl
theorem sc136 : Sca Try.prog 136 := fun _ => by kernel_rfl
theorem sz136 : Siz Try.prog 136 1 := fun _ => by kernel_rfl
theorem un136 : Try.prog.underlying 136 = some (.slice 139) := by kernel_rfl
theorem ze136 : Zer Try.prog 136 (.slice none 0 0) := fun _ => by kernel_rfl
theorem agg138 : Agg Try.prog 138 6 := ⟨fun _ => by kernel_rfl, fun _ => by kernel_rfl⟩
theorem sz138 : Siz Try.prog 138 6 := fun _ => by kernel_rfl
theorem fd138_0 : Fld Try.prog 138 0 0 := fun _ _ _ => by kernel_rfl
theorem fd138_1 : Fld Try.prog 138 1 1 := fun _ _ _ => by kernel_rfl
theorem fd138_2 : Fld Try.prog 138 2 2 := fun _ _ _ => by kernel_rfl
theorem fd138_3 : Fld Try.prog 138 3 3 := fun _ _ _ => by kernel_rfl
theorem fd138_4 : Fld Try.prog 138 4 4 := fun _ _ _ => by kernel_rfl
theorem fd138_5 : Fld Try.prog 138 5 5 := fun _ _ _ => by kernel_rfl
theorem agg139 : Agg Try.prog 139 6 := ⟨fun _ => by kernel_rfl, fun _ => by kernel_rfl⟩
theorem sz139 : Siz Try.prog 139 6 := fun _ => by kernel_rfl
theorem fd139_0 : Fld Try.prog 139 0 0 := fun _ _ _ => by kernel_rfl
theorem fd139_1 : Fld Try.prog 139 1 1 := fun _ _ _ => by kernel_rfl
theorem fd139_2 : Fld Try.prog 139 2 2 := fun _ _ _ => by kernel_rfl
theorem fd139_3 : Fld Try.prog 139 3 3 := fun _ _ _ => by kernel_rfl
theorem fd139_4 : Fld Try.prog 139 4 4 := fun _ _ _ => by kernel_rfl
theorem fd139_5 : Fld Try.prog 139 5 5 := fun _ _ _ => by kernel_rfl
theorem agg141 : Agg Try.prog 141 12 := ⟨fun _ => by kernel_rfl, fun _ => by kernel_rfl⟩
theorem sz141 : Siz Try.prog 141 12 := fun _ => by kernel_rfl
theorem fd141_0 : Fld Try.prog 141 0 0 := fun _ _ _ => by kernel_rfl
theorem fd141_1 : Fld Try.prog 141 1 2 := fun _ _ _ => by kernel_rfl
theorem fd141_2 : Fld Try.prog 141 2 4 := fun _ _ _ => by kernel_rfl
theorem fd141_3 : Fld Try.prog 141 3 6 := fun _ _ _ => by kernel_rfl
theorem fd141_4 : Fld Try.prog 141 4 8 := fun _ _ _ => by kernel_rfl
theorem fd141_5 : Fld Try.prog 141 5 10 := fun _ _ _ => by kernel_rfl
theorem agg142 : Agg Try.prog 142 12 := ⟨fun _ => by kernel_rfl, fun _ => by kernel_rfl⟩
theorem sz142 : Siz Try.prog 142 12 := fun _ => by kernel_rfl
theorem fd142_0 : Fld Try.prog 142 0 0 := fun _ _ _ => by kernel_rfl
theorem fd142_1 : Fld Try.prog 142 1 2 := fun _ _ _ => by kernel_rfl
theorem fd142_2 : Fld Try.prog 142 2 4 := fun _ _ _ => by kernel_rfl
theorem fd142_3 : Fld Try.prog 142 3 6 := fun _ _ _ => by kernel_rfl
theorem fd142_4 : Fld Try.prog 142 4 8 := fun _ _ _ => by kernel_rfl
theorem fd142_5 : Fld Try.prog 142 5 10 := fun _ _ _ => by kernel_rfl
theorem ze142 : Zer Try.prog 142 (.agg ({ forwarded := { packets := 0, bytes := 0 }, cached := { packets := 0, bytes := 0 }, volatile := { packets := 0, bytes := 0 }, durable := { packets := 0, bytes := 0 }, lost := { packets := 0, bytes := 0 }, credited := { packets := 0, bytes := 0 } } : Parts).c) := fun _ => by kernel_rfl
theorem agg147 : Agg Try.prog 147 5 := ⟨fun _ => by kernel_rfl, fun _ => by kernel_rfl⟩
theorem sz147 : Siz Try.prog 147 5 := fun _ => by kernel_rfl
theorem fd147_0 : Fld Try.prog 147 0 0 := fun _ _ _ => by kernel_rfl
theorem fd147_1 : Fld Try.prog 147 1 1 := fun _ _ _ => by kernel_rfl
theorem fd147_2 : Fld Try.prog 147 2 2 := fun _ _ _ => by kernel_rfl
theorem fd147_3 : Fld Try.prog 147 3 3 := fun _ _ _ => by kernel_rfl
theorem fd147_4 : Fld Try.prog 147 4 4 := fun _ _ _ => by kernel_rfl
theorem agg148 : Agg Try.prog 148 5 := ⟨fun _ => by kernel_rfl, fun _ => by kernel_rfl⟩
theorem sz148 : Siz Try.prog 148 5 := fun _ => by kernel_rfl
theorem fd148_0 : Fld Try.prog 148 0 0 := fun _ _ _ => by kernel_rfl
theorem fd148_1 : Fld Try.prog 148 1 1 := fun _ _ _ => by kernel_rfl
theorem fd148_2 : Fld Try.prog 148 2 2 := fun _ _ _ => by kernel_rfl
theorem fd148_3 : Fld Try.prog 148 3 3 := fun _ _ _ => by kernel_rfl
theorem fd148_4 : Fld Try.prog 148 4 4 := fun _ _ _ => by kernel_rfl
theorem ze148 : Zer Try.prog 148 (.agg ({ flows := 0, idle := 0, active := 0, packets := 0, bytes := 0 } : Bnd).c) := fun _ => by kernel_rfl
theorem sc149 : Sca Try.prog 149 := fun _ => by kernel_rfl
theorem sz149 : Siz Try.prog 149 1 := fun _ => by kernel_rfl
theorem un149 : Try.prog.underlying 149 = some (.slice 100) := by kernel_rfl
theorem ze149 : Zer Try.prog 149 (.slice none 0 0) := fun _ => by kernel_rfl
theorem sc153 : Sca Try.prog 153 := fun _ => by kernel_rfl
theorem sz153 : Siz Try.prog 153 1 := fun _ => by kernel_rfl
theorem un153 : Try.prog.underlying 153 = some (.slice 222) := by kernel_rfl
theorem ze153 : Zer Try.prog 153 (.slice none 0 0) := fun _ => by kernel_rfl
theorem agg164 : Agg Try.prog 164 2 := ⟨fun _ => by kernel_rfl, fun _ => by kernel_rfl⟩
theorem sz164 : Siz Try.prog 164 2 := fun _ => by kernel_rfl
theorem fd164_0 : Fld Try.prog 164 0 0 := fun _ _ _ => by kernel_rfl
theorem fd164_1 : Fld Try.prog 164 1 1 := fun _ _ _ => by kernel_rfl
theorem agg165 : Agg Try.prog 165 2 := ⟨fun _ => by kernel_rfl, fun _ => by kernel_rfl⟩
theorem sz165 : Siz Try.prog 165 2 := fun _ => by kernel_rfl
theorem fd165_0 : Fld Try.prog 165 0 0 := fun _ _ _ => by kernel_rfl
theorem fd165_1 : Fld Try.prog 165 1 1 := fun _ _ _ => by kernel_rfl
theorem agg167 : Agg Try.prog 167 10 := ⟨fun _ => by kernel_rfl, fun _ => by kernel_rfl⟩
theorem sz167 : Siz Try.prog 167 10 := fun _ => by kernel_rfl
theorem un167 : Try.prog.underlying 167 = some (.array 10 30) := by kernel_rfl
theorem agg169 : Agg Try.prog 169 3 := ⟨fun _ => by kernel_rfl, fun _ => by kernel_rfl⟩
theorem sz169 : Siz Try.prog 169 3 := fun _ => by kernel_rfl
theorem fd169_0 : Fld Try.prog 169 0 0 := fun _ _ _ => by kernel_rfl
theorem fd169_1 : Fld Try.prog 169 1 1 := fun _ _ _ => by kernel_rfl
theorem fd169_2 : Fld Try.prog 169 2 2 := fun _ _ _ => by kernel_rfl
theorem ze169 : Zer Try.prog 169 (.agg ({ id := 0, pen := 0, len := 0 } : FSpec).c) := fun _ => by kernel_rfl
theorem agg171 : Agg Try.prog 171 2 := ⟨fun _ => by kernel_rfl, fun _ => by kernel_rfl⟩
theorem sz171 : Siz Try.prog 171 2 := fun _ => by kernel_rfl
theorem fd171_0 : Fld Try.prog 171 0 0 := fun _ _ _ => by kernel_rfl
theorem fd171_1 : Fld Try.prog 171 1 1 := fun _ _ _ => by kernel_rfl
theorem agg172 : Agg Try.prog 172 2 := ⟨fun _ => by kernel_rfl, fun _ => by kernel_rfl⟩
theorem sz172 : Siz Try.prog 172 2 := fun _ => by kernel_rfl
theorem fd172_0 : Fld Try.prog 172 0 0 := fun _ _ _ => by kernel_rfl
theorem fd172_1 : Fld Try.prog 172 1 1 := fun _ _ _ => by kernel_rfl
theorem agg174 : Agg Try.prog 174 39 := ⟨fun _ => by kernel_rfl, fun _ => by kernel_rfl⟩
theorem sz174 : Siz Try.prog 174 39 := fun _ => by kernel_rfl
theorem fd174_0 : Fld Try.prog 174 0 0 := fun _ _ _ => by kernel_rfl
theorem fd174_1 : Fld Try.prog 174 1 1 := fun _ _ _ => by kernel_rfl
theorem fd174_2 : Fld Try.prog 174 2 38 := fun _ _ _ => by kernel_rfl
theorem agg175 : Agg Try.prog 175 39 := ⟨fun _ => by kernel_rfl, fun _ => by kernel_rfl⟩
theorem sz175 : Siz Try.prog 175 39 := fun _ => by kernel_rfl
theorem fd175_0 : Fld Try.prog 175 0 0 := fun _ _ _ => by kernel_rfl
theorem fd175_1 : Fld Try.prog 175 1 1 := fun _ _ _ => by kernel_rfl
theorem fd175_2 : Fld Try.prog 175 2 38 := fun _ _ _ => by kernel_rfl
theorem ze175 : Zer Try.prog 175 (.agg ({ used := false, key := { src := { six := false, b := { x0 := 0, x1 := 0, x2 := 0, x3 := 0, x4 := 0, x5 := 0, x6 := 0, x7 := 0, x8 := 0, x9 := 0, x10 := 0, x11 := 0, x12 := 0, x13 := 0, x14 := 0, x15 := 0 } }, dst := { six := false, b := { x0 := 0, x1 := 0, x2 := 0, x3 := 0, x4 := 0, x5 := 0, x6 := 0, x7 := 0, x8 := 0, x9 := 0, x10 := 0, x11 := 0, x12 := 0, x13 := 0, x14 := 0, x15 := 0 } }, proto := 0, srcPort := 0, dstPort := 0 }, n := 0 } : Slot).c) := fun _ => by kernel_rfl
theorem agg177 : Agg Try.prog 177 8 := ⟨fun _ => by kernel_rfl, fun _ => by kernel_rfl⟩
theorem sz177 : Siz Try.prog 177 8 := fun _ => by kernel_rfl
theorem fd177_0 : Fld Try.prog 177 0 0 := fun _ _ _ => by kernel_rfl
theorem fd177_1 : Fld Try.prog 177 1 1 := fun _ _ _ => by kernel_rfl
theorem fd177_2 : Fld Try.prog 177 2 6 := fun _ _ _ => by kernel_rfl
theorem fd177_3 : Fld Try.prog 177 3 7 := fun _ _ _ => by kernel_rfl
theorem agg178 : Agg Try.prog 178 8 := ⟨fun _ => by kernel_rfl, fun _ => by kernel_rfl⟩
theorem sz178 : Siz Try.prog 178 8 := fun _ => by kernel_rfl
theorem fd178_0 : Fld Try.prog 178 0 0 := fun _ _ _ => by kernel_rfl
theorem fd178_1 : Fld Try.prog 178 1 1 := fun _ _ _ => by kernel_rfl
theorem fd178_2 : Fld Try.prog 178 2 6 := fun _ _ _ => by kernel_rfl
theorem fd178_3 : Fld Try.prog 178 3 7 := fun _ _ _ => by kernel_rfl
theorem sc191 : Sca Try.prog 191 := fun _ => by kernel_rfl
theorem sz191 : Siz Try.prog 191 1 := fun _ => by kernel_rfl
theorem agg194 : Agg Try.prog 194 39 := ⟨fun _ => by kernel_rfl, fun _ => by kernel_rfl⟩
theorem sz194 : Siz Try.prog 194 39 := fun _ => by kernel_rfl
theorem fd194_0 : Fld Try.prog 194 0 0 := fun _ _ _ => by kernel_rfl
theorem fd194_1 : Fld Try.prog 194 1 1 := fun _ _ _ => by kernel_rfl
theorem fd194_2 : Fld Try.prog 194 2 38 := fun _ _ _ => by kernel_rfl
theorem agg195 : Agg Try.prog 195 39 := ⟨fun _ => by kernel_rfl, fun _ => by kernel_rfl⟩
theorem sz195 : Siz Try.prog 195 39 := fun _ => by kernel_rfl
theorem fd195_0 : Fld Try.prog 195 0 0 := fun _ _ _ => by kernel_rfl
theorem fd195_1 : Fld Try.prog 195 1 1 := fun _ _ _ => by kernel_rfl
theorem fd195_2 : Fld Try.prog 195 2 38 := fun _ _ _ => by kernel_rfl
theorem ze195 : Zer Try.prog 195 (.agg ({ used := false, key := { src := { six := false, b := { x0 := 0, x1 := 0, x2 := 0, x3 := 0, x4 := 0, x5 := 0, x6 := 0, x7 := 0, x8 := 0, x9 := 0, x10 := 0, x11 := 0, x12 := 0, x13 := 0, x14 := 0, x15 := 0 } }, dst := { six := false, b := { x0 := 0, x1 := 0, x2 := 0, x3 := 0, x4 := 0, x5 := 0, x6 := 0, x7 := 0, x8 := 0, x9 := 0, x10 := 0, x11 := 0, x12 := 0, x13 := 0, x14 := 0, x15 := 0 } }, proto := 0, srcPort := 0, dstPort := 0 }, n := 0 } : Slot).c) := fun _ => by kernel_rfl
theorem sc204 : Sca Try.prog 204 := fun _ => by kernel_rfl
theorem sz204 : Siz Try.prog 204 1 := fun _ => by kernel_rfl
theorem un204 : Try.prog.underlying 204 = some (.map 27 32) := by kernel_rfl
theorem sc205 : Sca Try.prog 205 := fun _ => by kernel_rfl
theorem sz205 : Siz Try.prog 205 1 := fun _ => by kernel_rfl
theorem un205 : Try.prog.underlying 205 = some (.map 27 32) := by kernel_rfl
theorem agg206 : Agg Try.prog 206 7 := ⟨fun _ => by kernel_rfl, fun _ => by kernel_rfl⟩
theorem sz206 : Siz Try.prog 206 7 := fun _ => by kernel_rfl
theorem fd206_0 : Fld Try.prog 206 0 0 := fun _ _ _ => by kernel_rfl
theorem fd206_1 : Fld Try.prog 206 1 1 := fun _ _ _ => by kernel_rfl
theorem fd206_2 : Fld Try.prog 206 2 2 := fun _ _ _ => by kernel_rfl
theorem fd206_3 : Fld Try.prog 206 3 3 := fun _ _ _ => by kernel_rfl
theorem fd206_4 : Fld Try.prog 206 4 4 := fun _ _ _ => by kernel_rfl
theorem fd206_5 : Fld Try.prog 206 5 5 := fun _ _ _ => by kernel_rfl
theorem fd206_6 : Fld Try.prog 206 6 6 := fun _ _ _ => by kernel_rfl
theorem agg207 : Agg Try.prog 207 7 := ⟨fun _ => by kernel_rfl, fun _ => by kernel_rfl⟩
theorem sz207 : Siz Try.prog 207 7 := fun _ => by kernel_rfl
theorem fd207_0 : Fld Try.prog 207 0 0 := fun _ _ _ => by kernel_rfl
theorem fd207_1 : Fld Try.prog 207 1 1 := fun _ _ _ => by kernel_rfl
theorem fd207_2 : Fld Try.prog 207 2 2 := fun _ _ _ => by kernel_rfl
theorem fd207_3 : Fld Try.prog 207 3 3 := fun _ _ _ => by kernel_rfl
theorem fd207_4 : Fld Try.prog 207 4 4 := fun _ _ _ => by kernel_rfl
theorem fd207_5 : Fld Try.prog 207 5 5 := fun _ _ _ => by kernel_rfl
theorem fd207_6 : Fld Try.prog 207 6 6 := fun _ _ _ => by kernel_rfl
theorem agg209 : Agg Try.prog 209 8 := ⟨fun _ => by kernel_rfl, fun _ => by kernel_rfl⟩
theorem sz209 : Siz Try.prog 209 8 := fun _ => by kernel_rfl
theorem un209 : Try.prog.underlying 209 = some (.array 8 208) := by kernel_rfl
theorem sc213 : Sca Try.prog 213 := fun _ => by kernel_rfl
theorem sz213 : Siz Try.prog 213 1 := fun _ => by kernel_rfl
theorem sc215 : Sca Try.prog 215 := fun _ => by kernel_rfl
theorem sz215 : Siz Try.prog 215 1 := fun _ => by kernel_rfl
theorem un215 : Try.prog.underlying 215 = some (.pointer 32) := by kernel_rfl
theorem ze215 : Zer Try.prog 215 (.pointer none) := fun _ => by kernel_rfl
theorem sc220 : Sca Try.prog 220 := fun _ => by kernel_rfl
theorem sz220 : Siz Try.prog 220 1 := fun _ => by kernel_rfl
theorem un220 : Try.prog.underlying 220 = some (.int .u64) := by kernel_rfl
theorem ze220 : Zer Try.prog 220 (.int .u64 0) := fun _ => by kernel_rfl
theorem agg221 : Agg Try.prog 221 39 := ⟨fun _ => by kernel_rfl, fun _ => by kernel_rfl⟩
theorem sz221 : Siz Try.prog 221 39 := fun _ => by kernel_rfl
theorem fd221_0 : Fld Try.prog 221 0 0 := fun _ _ _ => by kernel_rfl
theorem fd221_1 : Fld Try.prog 221 1 37 := fun _ _ _ => by kernel_rfl
theorem agg222 : Agg Try.prog 222 39 := ⟨fun _ => by kernel_rfl, fun _ => by kernel_rfl⟩
theorem sz222 : Siz Try.prog 222 39 := fun _ => by kernel_rfl
theorem fd222_0 : Fld Try.prog 222 0 0 := fun _ _ _ => by kernel_rfl
theorem fd222_1 : Fld Try.prog 222 1 37 := fun _ _ _ => by kernel_rfl
theorem ze222 : Zer Try.prog 222 (.agg ({ key := { src := { six := false, b := { x0 := 0, x1 := 0, x2 := 0, x3 := 0, x4 := 0, x5 := 0, x6 := 0, x7 := 0, x8 := 0, x9 := 0, x10 := 0, x11 := 0, x12 := 0, x13 := 0, x14 := 0, x15 := 0 } }, dst := { six := false, b := { x0 := 0, x1 := 0, x2 := 0, x3 := 0, x4 := 0, x5 := 0, x6 := 0, x7 := 0, x8 := 0, x9 := 0, x10 := 0, x11 := 0, x12 := 0, x13 := 0, x14 := 0, x15 := 0 } }, proto := 0, srcPort := 0, dstPort := 0 }, total := { packets := 0, bytes := 0 } } : Sum24).c) := fun _ => by kernel_rfl
theorem sc228 : Sca Try.prog 228 := fun _ => by kernel_rfl
theorem sz228 : Siz Try.prog 228 1 := fun _ => by kernel_rfl
theorem agg235 : Agg Try.prog 235 1 := ⟨fun _ => by kernel_rfl, fun _ => by kernel_rfl⟩
theorem sz235 : Siz Try.prog 235 1 := fun _ => by kernel_rfl
theorem fd235_0 : Fld Try.prog 235 0 0 := fun _ _ _ => by kernel_rfl
theorem agg236 : Agg Try.prog 236 1 := ⟨fun _ => by kernel_rfl, fun _ => by kernel_rfl⟩
theorem sz236 : Siz Try.prog 236 1 := fun _ => by kernel_rfl
theorem fd236_0 : Fld Try.prog 236 0 0 := fun _ _ _ => by kernel_rfl
theorem sc248 : Sca Try.prog 248 := fun _ => by kernel_rfl
theorem sz248 : Siz Try.prog 248 1 := fun _ => by kernel_rfl
theorem sc258 : Sca Try.prog 258 := fun _ => by kernel_rfl
theorem sz258 : Siz Try.prog 258 1 := fun _ => by kernel_rfl
theorem un258 : Try.prog.underlying 258 = some (.int .i64) := by kernel_rfl
theorem ze258 : Zer Try.prog 258 (.int .i64 0) := fun _ => by kernel_rfl
theorem sc266 : Sca Try.prog 266 := fun _ => by kernel_rfl
theorem sz266 : Siz Try.prog 266 1 := fun _ => by kernel_rfl
theorem un266 : Try.prog.underlying 266 = some (.pointer 236) := by kernel_rfl
theorem ze266 : Zer Try.prog 266 (.pointer none) := fun _ => by kernel_rfl
theorem sc277 : Sca Try.prog 277 := fun _ => by kernel_rfl
theorem sz277 : Siz Try.prog 277 1 := fun _ => by kernel_rfl
theorem un277 : Try.prog.underlying 277 = some (.int .u64) := by kernel_rfl
theorem ze277 : Zer Try.prog 277 (.int .u64 0) := fun _ => by kernel_rfl
theorem sc280 : Sca Try.prog 280 := fun _ => by kernel_rfl
theorem sz280 : Siz Try.prog 280 1 := fun _ => by kernel_rfl
theorem un280 : Try.prog.underlying 280 = some (.pointer 3) := by kernel_rfl
theorem ze280 : Zer Try.prog 280 (.pointer none) := fun _ => by kernel_rfl
theorem sc285 : Sca Try.prog 285 := fun _ => by kernel_rfl
theorem sz285 : Siz Try.prog 285 1 := fun _ => by kernel_rfl
theorem un285 : Try.prog.underlying 285 = some (.pointer 277) := by kernel_rfl
theorem ze285 : Zer Try.prog 285 (.pointer none) := fun _ => by kernel_rfl
theorem agg289 : Agg Try.prog 289 4 := ⟨fun _ => by kernel_rfl, fun _ => by kernel_rfl⟩
theorem sz289 : Siz Try.prog 289 4 := fun _ => by kernel_rfl
theorem fd289_0 : Fld Try.prog 289 0 0 := fun _ _ _ => by kernel_rfl
theorem fd289_1 : Fld Try.prog 289 1 1 := fun _ _ _ => by kernel_rfl
theorem fd289_2 : Fld Try.prog 289 2 2 := fun _ _ _ => by kernel_rfl
theorem fd289_3 : Fld Try.prog 289 3 3 := fun _ _ _ => by kernel_rfl
theorem agg290 : Agg Try.prog 290 4 := ⟨fun _ => by kernel_rfl, fun _ => by kernel_rfl⟩
theorem sz290 : Siz Try.prog 290 4 := fun _ => by kernel_rfl
theorem fd290_0 : Fld Try.prog 290 0 0 := fun _ _ _ => by kernel_rfl
theorem fd290_1 : Fld Try.prog 290 1 1 := fun _ _ _ => by kernel_rfl
theorem fd290_2 : Fld Try.prog 290 2 2 := fun _ _ _ => by kernel_rfl
theorem fd290_3 : Fld Try.prog 290 3 3 := fun _ _ _ => by kernel_rfl
theorem sc294 : Sca Try.prog 294 := fun _ => by kernel_rfl
theorem sz294 : Siz Try.prog 294 1 := fun _ => by kernel_rfl
theorem un294 : Try.prog.underlying 294 = some (.int .u8) := by kernel_rfl
theorem ze294 : Zer Try.prog 294 (.int .u8 0) := fun _ => by kernel_rfl
theorem sc295 : Sca Try.prog 295 := fun _ => by kernel_rfl
theorem sz295 : Siz Try.prog 295 1 := fun _ => by kernel_rfl
theorem un295 : Try.prog.underlying 295 = some (.int .u8) := by kernel_rfl
theorem ze295 : Zer Try.prog 295 (.int .u8 0) := fun _ => by kernel_rfl
theorem sc297 : Sca Try.prog 297 := fun _ => by kernel_rfl
theorem sz297 : Siz Try.prog 297 1 := fun _ => by kernel_rfl
theorem un297 : Try.prog.underlying 297 = some (.pointer 5) := by kernel_rfl
theorem ze297 : Zer Try.prog 297 (.pointer none) := fun _ => by kernel_rfl
theorem sc298 : Sca Try.prog 298 := fun _ => by kernel_rfl
theorem sz298 : Siz Try.prog 298 1 := fun _ => by kernel_rfl
theorem un298 : Try.prog.underlying 298 = some (.int .i32) := by kernel_rfl
theorem ze298 : Zer Try.prog 298 (.int .i32 0) := fun _ => by kernel_rfl
theorem sc299 : Sca Try.prog 299 := fun _ => by kernel_rfl
theorem sz299 : Siz Try.prog 299 1 := fun _ => by kernel_rfl
theorem un299 : Try.prog.underlying 299 = some (.int .i32) := by kernel_rfl
theorem ze299 : Zer Try.prog 299 (.int .i32 0) := fun _ => by kernel_rfl
theorem agg300 : Agg Try.prog 300 11 := ⟨fun _ => by kernel_rfl, fun _ => by kernel_rfl⟩
theorem sz300 : Siz Try.prog 300 11 := fun _ => by kernel_rfl
theorem fd300_0 : Fld Try.prog 300 0 0 := fun _ _ _ => by kernel_rfl
theorem fd300_1 : Fld Try.prog 300 1 1 := fun _ _ _ => by kernel_rfl
theorem fd300_2 : Fld Try.prog 300 2 2 := fun _ _ _ => by kernel_rfl
theorem fd300_3 : Fld Try.prog 300 3 3 := fun _ _ _ => by kernel_rfl
theorem fd300_4 : Fld Try.prog 300 4 4 := fun _ _ _ => by kernel_rfl
theorem fd300_5 : Fld Try.prog 300 5 5 := fun _ _ _ => by kernel_rfl
theorem fd300_6 : Fld Try.prog 300 6 6 := fun _ _ _ => by kernel_rfl
theorem fd300_8 : Fld Try.prog 300 8 8 := fun _ _ _ => by kernel_rfl
theorem fd300_9 : Fld Try.prog 300 9 9 := fun _ _ _ => by kernel_rfl
theorem fd300_10 : Fld Try.prog 300 10 10 := fun _ _ _ => by kernel_rfl
theorem agg301 : Agg Try.prog 301 11 := ⟨fun _ => by kernel_rfl, fun _ => by kernel_rfl⟩
theorem sz301 : Siz Try.prog 301 11 := fun _ => by kernel_rfl
theorem fd301_0 : Fld Try.prog 301 0 0 := fun _ _ _ => by kernel_rfl
theorem fd301_1 : Fld Try.prog 301 1 1 := fun _ _ _ => by kernel_rfl
theorem fd301_2 : Fld Try.prog 301 2 2 := fun _ _ _ => by kernel_rfl
theorem fd301_3 : Fld Try.prog 301 3 3 := fun _ _ _ => by kernel_rfl
theorem fd301_4 : Fld Try.prog 301 4 4 := fun _ _ _ => by kernel_rfl
theorem fd301_5 : Fld Try.prog 301 5 5 := fun _ _ _ => by kernel_rfl
theorem fd301_6 : Fld Try.prog 301 6 6 := fun _ _ _ => by kernel_rfl
theorem fd301_8 : Fld Try.prog 301 8 8 := fun _ _ _ => by kernel_rfl
theorem fd301_9 : Fld Try.prog 301 9 9 := fun _ _ _ => by kernel_rfl
theorem fd301_10 : Fld Try.prog 301 10 10 := fun _ _ _ => by kernel_rfl
theorem bld39_1_2 (a1 : Int) (a2 : Int) : ∀ w, (Instr.build 39 [(1, .int .i64 a1), (2, .int .u8 a2)].toArray).run Try.prog w = .ok (.agg ({ key := ({ src := { six := false, b := { x0 := 0, x1 := 0, x2 := 0, x3 := 0, x4 := 0, x5 := 0, x6 := 0, x7 := 0, x8 := 0, x9 := 0, x10 := 0, x11 := 0, x12 := 0, x13 := 0, x14 := 0, x15 := 0 } }, dst := { six := false, b := { x0 := 0, x1 := 0, x2 := 0, x3 := 0, x4 := 0, x5 := 0, x6 := 0, x7 := 0, x8 := 0, x9 := 0, x10 := 0, x11 := 0, x12 := 0, x13 := 0, x14 := 0, x15 := 0 } }, proto := 0, srcPort := 0, dstPort := 0 } : Key), length := a1, flags := a2, fragment := false } : Pkt).c) w := fun _ => by kernel_rfl
theorem bld32_0_1 (a0 : Int) (a1 : Int) : ∀ w, (Instr.build 32 [(0, .int .u64 a0), (1, .int .u64 a1)].toArray).run Try.prog w = .ok (.agg ({ packets := a0, bytes := a1 } : Tot).c) w := fun _ => by kernel_rfl
theorem bld79_0 (a0 : Int) : ∀ w, (Instr.build 79 [(0, .int .u16 a0)].toArray).run Try.prog w = .ok (.agg ({ id := a0, pen := 0, len := 0 } : FSpec).c) w := fun _ => by kernel_rfl
theorem bls89_1 (a0 : Int) : ∀ w, (Instr.buildSlice 89 1 [(0, .int .i64 a0)].toArray).run Try.prog w = .ok (.slice (some ⟨w.heap.size, 0, none⟩) 1 1) (w.alloc (.cells (#[.int .i64 a0]) 3 (0, 0))) := fun _ => by kernel_rfl
theorem bls86_1 (a0 : Key) : ∀ w, (Instr.buildSlice 86 1 [(0, .agg a0.c)].toArray).run Try.prog w = .ok (.slice (some ⟨w.heap.size, 0, none⟩) 1 1) (w.alloc (.cells (a0.c) 27 (0, 0))) := fun _ => by kernel_rfl
theorem bls29_1 (a0 : Int) : ∀ w, (Instr.buildSlice 29 1 [(0, .int .u64 a0)].toArray).run Try.prog w = .ok (.slice (some ⟨w.heap.size, 0, none⟩) 1 1) (w.alloc (.cells (#[.int .u64 a0]) 30 (0, 0))) := fun _ => by kernel_rfl
theorem bld35_  : ∀ w, (Instr.build 35 [].toArray).run Try.prog w = .ok (.agg ({ key := ({ src := { six := false, b := { x0 := 0, x1 := 0, x2 := 0, x3 := 0, x4 := 0, x5 := 0, x6 := 0, x7 := 0, x8 := 0, x9 := 0, x10 := 0, x11 := 0, x12 := 0, x13 := 0, x14 := 0, x15 := 0 } }, dst := { six := false, b := { x0 := 0, x1 := 0, x2 := 0, x3 := 0, x4 := 0, x5 := 0, x6 := 0, x7 := 0, x8 := 0, x9 := 0, x10 := 0, x11 := 0, x12 := 0, x13 := 0, x14 := 0, x15 := 0 } }, proto := 0, srcPort := 0, dstPort := 0 } : Key), packets := 0, bytes := 0, first := 0, last := 0, flags := 0, reason := 0, cls := 0 } : Rec).c) w := fun _ => by kernel_rfl
theorem bld88_0_1_2 (a0 : Int) (a1 : Key) (a2 : Int) : ∀ w, (Instr.build 88 [(0, .int .i64 a0), (1, .agg a1.c), (2, .int .u64 a2)].toArray).run Try.prog w = .ok (.agg ({ do_ := a0, k := a1, n := a2 } : Act23).c) w := fun _ => by kernel_rfl
theorem bls82_1 (a0 : Act23) : ∀ w, (Instr.buildSlice 82 1 [(0, .agg a0.c)].toArray).run Try.prog w = .ok (.slice (some ⟨w.heap.size, 0, none⟩) 1 1) (w.alloc (.cells (a0.c) 88 (0, 0))) := fun _ => by kernel_rfl
theorem bls89_8 (a0 : Int) (a1 : Int) (a2 : Int) (a3 : Int) (a4 : Int) (a5 : Int) (a6 : Int) (a7 : Int) : ∀ w, (Instr.buildSlice 89 8 [(0, .int .i64 a0), (1, .int .i64 a1), (2, .int .i64 a2), (3, .int .i64 a3), (4, .int .i64 a4), (5, .int .i64 a5), (6, .int .i64 a6), (7, .int .i64 a7)].toArray).run Try.prog w = .ok (.slice (some ⟨w.heap.size, 0, none⟩) 8 8) (w.alloc (.cells (#[.int .i64 a0, .int .i64 a1, .int .i64 a2, .int .i64 a3, .int .i64 a4, .int .i64 a5, .int .i64 a6, .int .i64 a7]) 3 (0, 0))) := fun _ => by kernel_rfl
theorem bls82_2 (a0 : Act23) (a1 : Act23) : ∀ w, (Instr.buildSlice 82 2 [(0, .agg a0.c), (1, .agg a1.c)].toArray).run Try.prog w = .ok (.slice (some ⟨w.heap.size, 0, none⟩) 2 2) (w.alloc (.cells (a0.c ++ a1.c) 88 (0, 0))) := fun _ => by kernel_rfl
theorem bld142_  : ∀ w, (Instr.build 142 [].toArray).run Try.prog w = .ok (.agg ({ forwarded := ({ packets := 0, bytes := 0 } : Tot), cached := ({ packets := 0, bytes := 0 } : Tot), volatile := ({ packets := 0, bytes := 0 } : Tot), durable := ({ packets := 0, bytes := 0 } : Tot), lost := ({ packets := 0, bytes := 0 } : Tot), credited := ({ packets := 0, bytes := 0 } : Tot) } : Parts).c) w := fun _ => by kernel_rfl
theorem bld27_  : ∀ w, (Instr.build 27 [].toArray).run Try.prog w = .ok (.agg ({ src := ({ six := false, b := { x0 := 0, x1 := 0, x2 := 0, x3 := 0, x4 := 0, x5 := 0, x6 := 0, x7 := 0, x8 := 0, x9 := 0, x10 := 0, x11 := 0, x12 := 0, x13 := 0, x14 := 0, x15 := 0 } } : Adr), dst := ({ six := false, b := { x0 := 0, x1 := 0, x2 := 0, x3 := 0, x4 := 0, x5 := 0, x6 := 0, x7 := 0, x8 := 0, x9 := 0, x10 := 0, x11 := 0, x12 := 0, x13 := 0, x14 := 0, x15 := 0 } } : Adr), proto := 0, srcPort := 0, dstPort := 0 } : Key).c) w := fun _ => by kernel_rfl
theorem bld35_1_2_3_4_5_7 (a1 : Int) (a2 : Int) (a3 : Int) (a4 : Int) (a5 : Int) (a7 : Int) : ∀ w, (Instr.build 35 [(1, .int .u64 a1), (2, .int .u64 a2), (3, .int .u64 a3), (4, .int .u64 a4), (5, .int .u8 a5), (7, .int .u8 a7)].toArray).run Try.prog w = .ok (.agg ({ key := ({ src := { six := false, b := { x0 := 0, x1 := 0, x2 := 0, x3 := 0, x4 := 0, x5 := 0, x6 := 0, x7 := 0, x8 := 0, x9 := 0, x10 := 0, x11 := 0, x12 := 0, x13 := 0, x14 := 0, x15 := 0 } }, dst := { six := false, b := { x0 := 0, x1 := 0, x2 := 0, x3 := 0, x4 := 0, x5 := 0, x6 := 0, x7 := 0, x8 := 0, x9 := 0, x10 := 0, x11 := 0, x12 := 0, x13 := 0, x14 := 0, x15 := 0 } }, proto := 0, srcPort := 0, dstPort := 0 } : Key), packets := a1, bytes := a2, first := a3, last := a4, flags := a5, reason := 0, cls := a7 } : Rec).c) w := fun _ => by kernel_rfl
theorem bld35_0_3_4_7 (a0 : Key) (a3 : Int) (a4 : Int) (a7 : Int) : ∀ w, (Instr.build 35 [(0, .agg a0.c), (3, .int .u64 a3), (4, .int .u64 a4), (7, .int .u8 a7)].toArray).run Try.prog w = .ok (.agg ({ key := a0, packets := 0, bytes := 0, first := a3, last := a4, flags := 0, reason := 0, cls := a7 } : Rec).c) w := fun _ => by kernel_rfl
theorem bld47_0_1_2_3_4_5_6_7 (a0 : Key) (a1 : Int) (a2 : Int) (a3 : Int) (a4 : Int) (a5 : Int) (a6 : Int) (a7 : Int) : ∀ w, (Instr.build 47 [(0, .agg a0.c), (1, .int .u64 a1), (2, .int .u64 a2), (3, .int .u64 a3), (4, .int .u64 a4), (5, .int .u8 a5), (6, .int .u8 a6), (7, .int .u8 a7)].toArray).run Try.prog w = .ok (.agg ({ key := a0, packets := a1, bytes := a2, first := a3, last := a4, flags := a5, reason := a6, cls := a7 } : Rec).c) w := fun _ => by kernel_rfl
theorem bld47_0_3_4_7 (a0 : Key) (a3 : Int) (a4 : Int) (a7 : Int) : ∀ w, (Instr.build 47 [(0, .agg a0.c), (3, .int .u64 a3), (4, .int .u64 a4), (7, .int .u8 a7)].toArray).run Try.prog w = .ok (.agg ({ key := a0, packets := 0, bytes := 0, first := a3, last := a4, flags := 0, reason := 0, cls := a7 } : Rec).c) w := fun _ => by kernel_rfl
theorem bld45_0_1_2_3_4 (a0 : Adr) (a1 : Adr) (a2 : Int) (a3 : Int) (a4 : Int) : ∀ w, (Instr.build 45 [(0, .agg a0.c), (1, .agg a1.c), (2, .int .u8 a2), (3, .int .u16 a3), (4, .int .u16 a4)].toArray).run Try.prog w = .ok (.agg ({ src := a0, dst := a1, proto := a2, srcPort := a3, dstPort := a4 } : Key).c) w := fun _ => by kernel_rfl
theorem bld54_0_1_2_3 (a0 : Key) (a1 : Int) (a2 : Int) (a3 : Bool) : ∀ w, (Instr.build 54 [(0, .agg a0.c), (1, .int .i64 a1), (2, .int .u8 a2), (3, .bool a3)].toArray).run Try.prog w = .ok (.agg ({ key := a0, length := a1, flags := a2, fragment := a3 } : Pkt).c) w := fun _ => by kernel_rfl
theorem bld56_0_1 (a0 : Int) (a1 : Int) : ∀ w, (Instr.build 56 [(0, .int .u64 a0), (1, .int .u64 a1)].toArray).run Try.prog w = .ok (.agg ({ packets := a0, bytes := a1 } : Tot).c) w := fun _ => by kernel_rfl
theorem bls29_10 (a0 : Int) (a1 : Int) (a2 : Int) (a3 : Int) (a4 : Int) (a5 : Int) (a6 : Int) (a7 : Int) (a8 : Int) (a9 : Int) : ∀ w, (Instr.buildSlice 29 10 [(0, .int .u64 a0), (1, .int .u64 a1), (2, .int .u64 a2), (3, .int .u64 a3), (4, .int .u64 a4), (5, .int .u64 a5), (6, .int .u64 a6), (7, .int .u64 a7), (8, .int .u64 a8), (9, .int .u64 a9)].toArray).run Try.prog w = .ok (.slice (some ⟨w.heap.size, 0, none⟩) 10 10) (w.alloc (.cells (#[.int .u64 a0, .int .u64 a1, .int .u64 a2, .int .u64 a3, .int .u64 a4, .int .u64 a5, .int .u64 a6, .int .u64 a7, .int .u64 a8, .int .u64 a9]) 30 (0, 0))) := fun _ => by kernel_rfl
theorem bld165_1 (a1 : ByteArray) : ∀ w, (Instr.build 165 [(1, .string a1)].toArray).run Try.prog w = .ok (.agg ({ n := 0, b := .string a1 } : RVal).c) w := fun _ => by kernel_rfl
theorem bls60_2 (a0 : RVal) (a1 : RVal) : ∀ w, (Instr.buildSlice 60 2 [(0, .agg a0.c), (1, .agg a1.c)].toArray).run Try.prog w = .ok (.slice (some ⟨w.heap.size, 0, none⟩) 2 2) (w.alloc (.cells (a0.c ++ a1.c) 165 (0, 0))) := fun _ => by kernel_rfl
theorem bld165_0 (a0 : Int) : ∀ w, (Instr.build 165 [(0, .int .u64 a0)].toArray).run Try.prog w = .ok (.agg ({ n := a0, b := .string ⟨#[]⟩ } : RVal).c) w := fun _ => by kernel_rfl
theorem bls60_1 (a0 : RVal) : ∀ w, (Instr.buildSlice 60 1 [(0, .agg a0.c)].toArray).run Try.prog w = .ok (.slice (some ⟨w.heap.size, 0, none⟩) 1 1) (w.alloc (.cells (a0.c) 165 (0, 0))) := fun _ => by kernel_rfl
theorem bld76_1 (p1 : Option Addr) (n1 c1 : Nat) : ∀ w, (Instr.build 76 [(1, .slice p1 n1 c1)].toArray).run Try.prog w = .ok (.agg ({ n := 0, b := .slice p1 n1 c1 } : FVal).c) w := fun _ => by kernel_rfl
theorem bls64_2 (a0 : FVal) (a1 : FVal) : ∀ w, (Instr.buildSlice 64 2 [(0, .agg a0.c), (1, .agg a1.c)].toArray).run Try.prog w = .ok (.slice (some ⟨w.heap.size, 0, none⟩) 2 2) (w.alloc (.cells (a0.c ++ a1.c) 76 (0, 0))) := fun _ => by kernel_rfl
theorem bld76_0 (a0 : Int) : ∀ w, (Instr.build 76 [(0, .int .u64 a0)].toArray).run Try.prog w = .ok (.agg ({ n := a0, b := .slice none 0 0 } : FVal).c) w := fun _ => by kernel_rfl
theorem bls64_1 (a0 : FVal) : ∀ w, (Instr.buildSlice 64 1 [(0, .agg a0.c)].toArray).run Try.prog w = .ok (.slice (some ⟨w.heap.size, 0, none⟩) 1 1) (w.alloc (.cells (a0.c) 76 (0, 0))) := fun _ => by kernel_rfl
theorem bld79_0_2 (a0 : Int) (a2 : Int) : ∀ w, (Instr.build 79 [(0, .int .u16 a0), (2, .int .u16 a2)].toArray).run Try.prog w = .ok (.agg ({ id := a0, pen := 0, len := a2 } : FSpec).c) w := fun _ => by kernel_rfl
theorem bls67_2 (a0 : FSpec) (a1 : FSpec) : ∀ w, (Instr.buildSlice 67 2 [(0, .agg a0.c), (1, .agg a1.c)].toArray).run Try.prog w = .ok (.slice (some ⟨w.heap.size, 0, none⟩) 2 2) (w.alloc (.cells (a0.c ++ a1.c) 79 (0, 0))) := fun _ => by kernel_rfl
theorem bld79_0_1_2 (a0 : Int) (a1 : Int) (a2 : Int) : ∀ w, (Instr.build 79 [(0, .int .u16 a0), (1, .int .u32 a1), (2, .int .u16 a2)].toArray).run Try.prog w = .ok (.agg ({ id := a0, pen := a1, len := a2 } : FSpec).c) w := fun _ => by kernel_rfl
theorem bls67_10 (a0 : FSpec) (a1 : FSpec) (a2 : FSpec) (a3 : FSpec) (a4 : FSpec) (a5 : FSpec) (a6 : FSpec) (a7 : FSpec) (a8 : FSpec) (a9 : FSpec) : ∀ w, (Instr.buildSlice 67 10 [(0, .agg a0.c), (1, .agg a1.c), (2, .agg a2.c), (3, .agg a3.c), (4, .agg a4.c), (5, .agg a5.c), (6, .agg a6.c), (7, .agg a7.c), (8, .agg a8.c), (9, .agg a9.c)].toArray).run Try.prog w = .ok (.slice (some ⟨w.heap.size, 0, none⟩) 10 10) (w.alloc (.cells (a0.c ++ a1.c ++ a2.c ++ a3.c ++ a4.c ++ a5.c ++ a6.c ++ a7.c ++ a8.c ++ a9.c) 79 (0, 0))) := fun _ => by kernel_rfl
theorem bld169_0_2 (a0 : Int) (a2 : Int) : ∀ w, (Instr.build 169 [(0, .int .u16 a0), (2, .int .u16 a2)].toArray).run Try.prog w = .ok (.agg ({ id := a0, pen := 0, len := a2 } : FSpec).c) w := fun _ => by kernel_rfl
theorem bls71_2 (a0 : FSpec) (a1 : FSpec) : ∀ w, (Instr.buildSlice 71 2 [(0, .agg a0.c), (1, .agg a1.c)].toArray).run Try.prog w = .ok (.slice (some ⟨w.heap.size, 0, none⟩) 2 2) (w.alloc (.cells (a0.c ++ a1.c) 169 (0, 0))) := fun _ => by kernel_rfl
theorem bld169_0_1_2 (a0 : Int) (a1 : Int) (a2 : Int) : ∀ w, (Instr.build 169 [(0, .int .u16 a0), (1, .int .u32 a1), (2, .int .u16 a2)].toArray).run Try.prog w = .ok (.agg ({ id := a0, pen := a1, len := a2 } : FSpec).c) w := fun _ => by kernel_rfl
theorem bls71_10 (a0 : FSpec) (a1 : FSpec) (a2 : FSpec) (a3 : FSpec) (a4 : FSpec) (a5 : FSpec) (a6 : FSpec) (a7 : FSpec) (a8 : FSpec) (a9 : FSpec) : ∀ w, (Instr.buildSlice 71 10 [(0, .agg a0.c), (1, .agg a1.c), (2, .agg a2.c), (3, .agg a3.c), (4, .agg a4.c), (5, .agg a5.c), (6, .agg a6.c), (7, .agg a7.c), (8, .agg a8.c), (9, .agg a9.c)].toArray).run Try.prog w = .ok (.slice (some ⟨w.heap.size, 0, none⟩) 10 10) (w.alloc (.cells (a0.c ++ a1.c ++ a2.c ++ a3.c ++ a4.c ++ a5.c ++ a6.c ++ a7.c ++ a8.c ++ a9.c) 169 (0, 0))) := fun _ => by kernel_rfl
theorem bld172_0 (p0 : Option Addr) (n0 c0 : Nat) : ∀ w, (Instr.build 172 [(0, .slice p0 n0 c0)].toArray).run Try.prog w = .ok (.agg ({ slots := .slice p0 n0 c0, many := 0 } : Tab).c) w := fun _ => by kernel_rfl
theorem bld175_0_1_2 (a0 : Bool) (a1 : Key) (a2 : Int) : ∀ w, (Instr.build 175 [(0, .bool a0), (1, .agg a1.c), (2, .int .u64 a2)].toArray).run Try.prog w = .ok (.agg ({ used := a0, key := a1, n := a2 } : Slot).c) w := fun _ => by kernel_rfl
theorem bld175_  : ∀ w, (Instr.build 175 [].toArray).run Try.prog w = .ok (.agg ({ used := false, key := ({ src := { six := false, b := { x0 := 0, x1 := 0, x2 := 0, x3 := 0, x4 := 0, x5 := 0, x6 := 0, x7 := 0, x8 := 0, x9 := 0, x10 := 0, x11 := 0, x12 := 0, x13 := 0, x14 := 0, x15 := 0 } }, dst := { six := false, b := { x0 := 0, x1 := 0, x2 := 0, x3 := 0, x4 := 0, x5 := 0, x6 := 0, x7 := 0, x8 := 0, x9 := 0, x10 := 0, x11 := 0, x12 := 0, x13 := 0, x14 := 0, x15 := 0 } }, proto := 0, srcPort := 0, dstPort := 0 } : Key), n := 0 } : Slot).c) w := fun _ => by kernel_rfl
theorem bls102_1 (a0 : Rec) : ∀ w, (Instr.buildSlice 102 1 [(0, .agg a0.c)].toArray).run Try.prog w = .ok (.slice (some ⟨w.heap.size, 0, none⟩) 1 1) (w.alloc (.cells (a0.c) 35 (0, 0))) := fun _ => by kernel_rfl
theorem bld148_0_1_2_3_4 (a0 : Int) (a1 : Int) (a2 : Int) (a3 : Int) (a4 : Int) : ∀ w, (Instr.build 148 [(0, .int .i64 a0), (1, .int .u64 a1), (2, .int .u64 a2), (3, .int .u64 a3), (4, .int .u64 a4)].toArray).run Try.prog w = .ok (.agg ({ flows := a0, idle := a1, active := a2, packets := a3, bytes := a4 } : Bnd).c) w := fun _ => by kernel_rfl
theorem bld195_  : ∀ w, (Instr.build 195 [].toArray).run Try.prog w = .ok (.agg ({ used := false, key := ({ src := { six := false, b := { x0 := 0, x1 := 0, x2 := 0, x3 := 0, x4 := 0, x5 := 0, x6 := 0, x7 := 0, x8 := 0, x9 := 0, x10 := 0, x11 := 0, x12 := 0, x13 := 0, x14 := 0, x15 := 0 } }, dst := { six := false, b := { x0 := 0, x1 := 0, x2 := 0, x3 := 0, x4 := 0, x5 := 0, x6 := 0, x7 := 0, x8 := 0, x9 := 0, x10 := 0, x11 := 0, x12 := 0, x13 := 0, x14 := 0, x15 := 0 } }, proto := 0, srcPort := 0, dstPort := 0 } : Key), n := 0 } : Slot).c) w := fun _ => by kernel_rfl
theorem bld195_0_1_2 (a0 : Bool) (a1 : Key) (a2 : Int) : ∀ w, (Instr.build 195 [(0, .bool a0), (1, .agg a1.c), (2, .int .u64 a2)].toArray).run Try.prog w = .ok (.agg ({ used := a0, key := a1, n := a2 } : Slot).c) w := fun _ => by kernel_rfl
theorem bld27_2_3_4 (a2 : Int) (a3 : Int) (a4 : Int) : ∀ w, (Instr.build 27 [(2, .int .u8 a2), (3, .int .u16 a3), (4, .int .u16 a4)].toArray).run Try.prog w = .ok (.agg ({ src := ({ six := false, b := { x0 := 0, x1 := 0, x2 := 0, x3 := 0, x4 := 0, x5 := 0, x6 := 0, x7 := 0, x8 := 0, x9 := 0, x10 := 0, x11 := 0, x12 := 0, x13 := 0, x14 := 0, x15 := 0 } } : Adr), dst := ({ six := false, b := { x0 := 0, x1 := 0, x2 := 0, x3 := 0, x4 := 0, x5 := 0, x6 := 0, x7 := 0, x8 := 0, x9 := 0, x10 := 0, x11 := 0, x12 := 0, x13 := 0, x14 := 0, x15 := 0 } } : Adr), proto := a2, srcPort := a3, dstPort := a4 } : Key).c) w := fun _ => by kernel_rfl
theorem bld135_0_4 (a0 : Int) (a4 : Int) : ∀ w, (Instr.build 135 [(0, .int .i64 a0), (4, .int .u32 a4)].toArray).run Try.prog w = .ok (.agg ({ kind := a0, key := ({ src := { six := false, b := { x0 := 0, x1 := 0, x2 := 0, x3 := 0, x4 := 0, x5 := 0, x6 := 0, x7 := 0, x8 := 0, x9 := 0, x10 := 0, x11 := 0, x12 := 0, x13 := 0, x14 := 0, x15 := 0 } }, dst := { six := false, b := { x0 := 0, x1 := 0, x2 := 0, x3 := 0, x4 := 0, x5 := 0, x6 := 0, x7 := 0, x8 := 0, x9 := 0, x10 := 0, x11 := 0, x12 := 0, x13 := 0, x14 := 0, x15 := 0 } }, proto := 0, srcPort := 0, dstPort := 0 } : Key), total := ({ packets := 0, bytes := 0 } : Tot), records := .slice none 0 0, epoch := a4, n := 0, first := 0, next := 0 } : Note).c) w := fun _ => by kernel_rfl
theorem bld135_0_1_2 (a0 : Int) (a1 : Key) (a2 : Tot) : ∀ w, (Instr.build 135 [(0, .int .i64 a0), (1, .agg a1.c), (2, .agg a2.c)].toArray).run Try.prog w = .ok (.agg ({ kind := a0, key := a1, total := a2, records := .slice none 0 0, epoch := 0, n := 0, first := 0, next := 0 } : Note).c) w := fun _ => by kernel_rfl
theorem bld135_0_4_3 (a0 : Int) (a4 : Int) (p3 : Option Addr) (n3 c3 : Nat) : ∀ w, (Instr.build 135 [(0, .int .i64 a0), (4, .int .u32 a4), (3, .slice p3 n3 c3)].toArray).run Try.prog w = .ok (.agg ({ kind := a0, key := ({ src := { six := false, b := { x0 := 0, x1 := 0, x2 := 0, x3 := 0, x4 := 0, x5 := 0, x6 := 0, x7 := 0, x8 := 0, x9 := 0, x10 := 0, x11 := 0, x12 := 0, x13 := 0, x14 := 0, x15 := 0 } }, dst := { six := false, b := { x0 := 0, x1 := 0, x2 := 0, x3 := 0, x4 := 0, x5 := 0, x6 := 0, x7 := 0, x8 := 0, x9 := 0, x10 := 0, x11 := 0, x12 := 0, x13 := 0, x14 := 0, x15 := 0 } }, proto := 0, srcPort := 0, dstPort := 0 } : Key), total := ({ packets := 0, bytes := 0 } : Tot), records := .slice p3 n3 c3, epoch := a4, n := 0, first := 0, next := 0 } : Note).c) w := fun _ => by kernel_rfl
theorem bld135_0 (a0 : Int) : ∀ w, (Instr.build 135 [(0, .int .i64 a0)].toArray).run Try.prog w = .ok (.agg ({ kind := a0, key := ({ src := { six := false, b := { x0 := 0, x1 := 0, x2 := 0, x3 := 0, x4 := 0, x5 := 0, x6 := 0, x7 := 0, x8 := 0, x9 := 0, x10 := 0, x11 := 0, x12 := 0, x13 := 0, x14 := 0, x15 := 0 } }, dst := { six := false, b := { x0 := 0, x1 := 0, x2 := 0, x3 := 0, x4 := 0, x5 := 0, x6 := 0, x7 := 0, x8 := 0, x9 := 0, x10 := 0, x11 := 0, x12 := 0, x13 := 0, x14 := 0, x15 := 0 } }, proto := 0, srcPort := 0, dstPort := 0 } : Key), total := ({ packets := 0, bytes := 0 } : Tot), records := .slice none 0 0, epoch := 0, n := 0, first := 0, next := 0 } : Note).c) w := fun _ => by kernel_rfl
theorem bld32_1 (a1 : Int) : ∀ w, (Instr.build 32 [(1, .int .u64 a1)].toArray).run Try.prog w = .ok (.agg ({ packets := 0, bytes := a1 } : Tot).c) w := fun _ => by kernel_rfl
theorem bld142_0 (a0 : Tot) : ∀ w, (Instr.build 142 [(0, .agg a0.c)].toArray).run Try.prog w = .ok (.agg ({ forwarded := a0, cached := ({ packets := 0, bytes := 0 } : Tot), volatile := ({ packets := 0, bytes := 0 } : Tot), durable := ({ packets := 0, bytes := 0 } : Tot), lost := ({ packets := 0, bytes := 0 } : Tot), credited := ({ packets := 0, bytes := 0 } : Tot) } : Parts).c) w := fun _ => by kernel_rfl
theorem bld207_0_1_2 (a0 : Option Nat) (a1 : Option Nat) (a2 : Option Nat) : ∀ w, (Instr.build 207 [(0, .map a0), (1, .map a1), (2, .map a2)].toArray).run Try.prog w = .ok (.agg ({ forwarded := .map a0, cached := .map a1, lost := .map a2, entries := .slice none 0 0, line := .slice none 0 0, first := 0, boot := 0 } : Mod).c) w := fun _ => by kernel_rfl
theorem bls136_1 (a0 : Entr) : ∀ w, (Instr.buildSlice 136 1 [(0, .agg a0.c)].toArray).run Try.prog w = .ok (.slice (some ⟨w.heap.size, 0, none⟩) 1 1) (w.alloc (.cells (a0.c) 139 (0, 0))) := fun _ => by kernel_rfl
theorem bld142_0_1_4 (a0 : Tot) (a1 : Tot) (a4 : Tot) : ∀ w, (Instr.build 142 [(0, .agg a0.c), (1, .agg a1.c), (4, .agg a4.c)].toArray).run Try.prog w = .ok (.agg ({ forwarded := a0, cached := a1, volatile := ({ packets := 0, bytes := 0 } : Tot), durable := ({ packets := 0, bytes := 0 } : Tot), lost := a4, credited := ({ packets := 0, bytes := 0 } : Tot) } : Parts).c) w := fun _ => by kernel_rfl
theorem bld207_0_1_2_3_4_5_6 (a0 : Option Nat) (a1 : Option Nat) (a2 : Option Nat) (p3 : Option Addr) (n3 c3 : Nat) (p4 : Option Addr) (n4 c4 : Nat) (a5 : Int) (a6 : Int) : ∀ w, (Instr.build 207 [(0, .map a0), (1, .map a1), (2, .map a2), (3, .slice p3 n3 c3), (4, .slice p4 n4 c4), (5, .int .u64 a5), (6, .int .u32 a6)].toArray).run Try.prog w = .ok (.agg ({ forwarded := .map a0, cached := .map a1, lost := .map a2, entries := .slice p3 n3 c3, line := .slice p4 n4 c4, first := a5, boot := a6 } : Mod).c) w := fun _ => by kernel_rfl
theorem bld178_0_1_2 (a0 : Int) (a1 : Bnd) (a2 : Option Addr) : ∀ w, (Instr.build 178 [(0, .int .u64 a0), (1, .agg a1.c), (2, .pointer a2)].toArray).run Try.prog w = .ok (.agg ({ tick := a0, bounds := a1, places := .pointer a2, flows := .slice none 0 0 } : Cac).c) w := fun _ => by kernel_rfl
theorem bld222_0_1 (a0 : Key) (a1 : Tot) : ∀ w, (Instr.build 222 [(0, .agg a0.c), (1, .agg a1.c)].toArray).run Try.prog w = .ok (.agg ({ key := a0, total := a1 } : Sum24).c) w := fun _ => by kernel_rfl
theorem bls153_1 (a0 : Sum24) : ∀ w, (Instr.buildSlice 153 1 [(0, .agg a0.c)].toArray).run Try.prog w = .ok (.slice (some ⟨w.heap.size, 0, none⟩) 1 1) (w.alloc (.cells (a0.c) 222 (0, 0))) := fun _ => by kernel_rfl
theorem bld32_  : ∀ w, (Instr.build 32 [].toArray).run Try.prog w = .ok (.agg ({ packets := 0, bytes := 0 } : Tot).c) w := fun _ => by kernel_rfl
theorem bld43_0_1 (a0 : Bool) (a1 : B16) : ∀ w, (Instr.build 43 [(0, .bool a0), (1, .agg a1.c)].toArray).run Try.prog w = .ok (.agg ({ six := a0, b := a1 } : Adr).c) w := fun _ => by kernel_rfl
theorem bls74_1 (a0 : Int) : ∀ w, (Instr.buildSlice 74 1 [(0, .int .u8 a0)].toArray).run Try.prog w = .ok (.slice (some ⟨w.heap.size, 0, none⟩) 1 1) (w.alloc (.cells (#[.int .u8 a0]) 5 (0, 0))) := fun _ => by kernel_rfl
theorem bld165_0_1 (a0 : Int) (a1 : ByteArray) : ∀ w, (Instr.build 165 [(0, .int .u64 a0), (1, .string a1)].toArray).run Try.prog w = .ok (.agg ({ n := a0, b := .string a1 } : RVal).c) w := fun _ => by kernel_rfl
theorem bls89_2 (a0 : Int) (a1 : Int) : ∀ w, (Instr.buildSlice 89 2 [(0, .int .i64 a0), (1, .int .i64 a1)].toArray).run Try.prog w = .ok (.slice (some ⟨w.heap.size, 0, none⟩) 2 2) (w.alloc (.cells (#[.int .i64 a0, .int .i64 a1]) 3 (0, 0))) := fun _ => by kernel_rfl
theorem bld39_0_1 (a0 : Key) (a1 : Int) : ∀ w, (Instr.build 39 [(0, .agg a0.c), (1, .int .i64 a1)].toArray).run Try.prog w = .ok (.agg ({ key := a0, length := a1, flags := 0, fragment := false } : Pkt).c) w := fun _ => by kernel_rfl
theorem bld35_0_1_2_3_4_6 (a0 : Key) (a1 : Int) (a2 : Int) (a3 : Int) (a4 : Int) (a6 : Int) : ∀ w, (Instr.build 35 [(0, .agg a0.c), (1, .int .u64 a1), (2, .int .u64 a2), (3, .int .u64 a3), (4, .int .u64 a4), (6, .int .u8 a6)].toArray).run Try.prog w = .ok (.agg ({ key := a0, packets := a1, bytes := a2, first := a3, last := a4, flags := 0, reason := a6, cls := 0 } : Rec).c) w := fun _ => by kernel_rfl
theorem bld139_0_1_2_3 (a0 : Int) (a1 : Int) (p2 : Option Addr) (n2 c2 : Nat) (a3 : Bool) : ∀ w, (Instr.build 139 [(0, .int .u32 a0), (1, .int .u64 a1), (2, .slice p2 n2 c2), (3, .bool a3)].toArray).run Try.prog w = .ok (.agg ({ epoch := a0, n := a1, records := .slice p2 n2 c2, there := a3, synced := false, credited := false } : Entr).c) w := fun _ => by kernel_rfl
theorem en2 : Ent Try.prog 2 := enters_of Try.func2 (by kernel_rfl) rfl
theorem en3 : Ent Try.prog 3 := enters_of Try.func3 (by kernel_rfl) rfl
theorem en4 : Ent Try.prog 4 := enters_of Try.func4 (by kernel_rfl) rfl
theorem en5 : Ent Try.prog 5 := enters_of Try.func5 (by kernel_rfl) rfl
theorem en6 : Ent Try.prog 6 := enters_of Try.func6 (by kernel_rfl) rfl
theorem en7 : Ent Try.prog 7 := enters_of Try.func7 (by kernel_rfl) rfl
theorem en8 : Ent Try.prog 8 := enters_of Try.func8 (by kernel_rfl) rfl
theorem en9 : Ent Try.prog 9 := enters_of Try.func9 (by kernel_rfl) rfl
theorem en10 : Ent Try.prog 10 := enters_of Try.func10 (by kernel_rfl) rfl
theorem en11 : Ent Try.prog 11 := enters_of Try.func11 (by kernel_rfl) rfl
theorem en12 : Ent Try.prog 12 := enters_of Try.func12 (by kernel_rfl) rfl
theorem en13 : Ent Try.prog 13 := enters_of Try.func13 (by kernel_rfl) rfl
theorem en14 : Ent Try.prog 14 := enters_of Try.func14 (by kernel_rfl) rfl
theorem en15 : Ent Try.prog 15 := enters_of Try.func15 (by kernel_rfl) rfl
theorem en16 : Ent Try.prog 16 := enters_of Try.func16 (by kernel_rfl) rfl
theorem en17 : Ent Try.prog 17 := enters_of Try.func17 (by kernel_rfl) rfl
theorem en18 : Ent Try.prog 18 := enters_of Try.func18 (by kernel_rfl) rfl
theorem en19 : Ent Try.prog 19 := enters_of Try.func19 (by kernel_rfl) rfl
theorem en20 : Ent Try.prog 20 := enters_of Try.func20 (by kernel_rfl) rfl
theorem en21 : Ent Try.prog 21 := enters_of Try.func21 (by kernel_rfl) rfl
theorem en22 : Ent Try.prog 22 := enters_of Try.func22 (by kernel_rfl) rfl
theorem en23 : Ent Try.prog 23 := enters_of Try.func23 (by kernel_rfl) rfl
theorem en24 : Ent Try.prog 24 := enters_of Try.func24 (by kernel_rfl) rfl
theorem en25 : Ent Try.prog 25 := enters_of Try.func25 (by kernel_rfl) rfl
theorem en26 : Ent Try.prog 26 := enters_of Try.func26 (by kernel_rfl) rfl
theorem en27 : Ent Try.prog 27 := enters_of Try.func27 (by kernel_rfl) rfl
theorem en28 : Ent Try.prog 28 := enters_of Try.func28 (by kernel_rfl) rfl
theorem en29 : Ent Try.prog 29 := enters_of Try.func29 (by kernel_rfl) rfl
theorem en30 : Ent Try.prog 30 := enters_of Try.func30 (by kernel_rfl) rfl
theorem en31 : Ent Try.prog 31 := enters_of Try.func31 (by kernel_rfl) rfl
theorem en32 : Ent Try.prog 32 := enters_of Try.func32 (by kernel_rfl) rfl
theorem en33 : Ent Try.prog 33 := enters_of Try.func33 (by kernel_rfl) rfl
theorem en34 : Ent Try.prog 34 := enters_of Try.func34 (by kernel_rfl) rfl
theorem en35 : Ent Try.prog 35 := enters_of Try.func35 (by kernel_rfl) rfl
theorem en36 : Ent Try.prog 36 := enters_of Try.func36 (by kernel_rfl) rfl
theorem en37 : Ent Try.prog 37 := enters_of Try.func37 (by kernel_rfl) rfl
theorem en38 : Ent Try.prog 38 := enters_of Try.func38 (by kernel_rfl) rfl
theorem en39 : Ent Try.prog 39 := enters_of Try.func39 (by kernel_rfl) rfl
theorem en40 : Ent Try.prog 40 := enters_of Try.func40 (by kernel_rfl) rfl
theorem en41 : Ent Try.prog 41 := enters_of Try.func41 (by kernel_rfl) rfl
theorem en42 : Ent Try.prog 42 := enters_of Try.func42 (by kernel_rfl) rfl
theorem en43 : Ent Try.prog 43 := enters_of Try.func43 (by kernel_rfl) rfl
theorem en44 : Ent Try.prog 44 := enters_of Try.func44 (by kernel_rfl) rfl
theorem en45 : Ent Try.prog 45 := enters_of Try.func45 (by kernel_rfl) rfl
theorem en46 : Ent Try.prog 46 := enters_of Try.func46 (by kernel_rfl) rfl
theorem en47 : Ent Try.prog 47 := enters_of Try.func47 (by kernel_rfl) rfl
theorem en48 : Ent Try.prog 48 := enters_of Try.func48 (by kernel_rfl) rfl
theorem en49 : Ent Try.prog 49 := enters_of Try.func49 (by kernel_rfl) rfl
theorem en50 : Ent Try.prog 50 := enters_of Try.func50 (by kernel_rfl) rfl
theorem en51 : Ent Try.prog 51 := enters_of Try.func51 (by kernel_rfl) rfl
theorem en52 : Ent Try.prog 52 := enters_of Try.func52 (by kernel_rfl) rfl
theorem en53 : Ent Try.prog 53 := enters_of Try.func53 (by kernel_rfl) rfl
theorem en54 : Ent Try.prog 54 := enters_of Try.func54 (by kernel_rfl) rfl
theorem en55 : Ent Try.prog 55 := enters_of Try.func55 (by kernel_rfl) rfl
theorem en56 : Ent Try.prog 56 := enters_of Try.func56 (by kernel_rfl) rfl
theorem en57 : Ent Try.prog 57 := enters_of Try.func57 (by kernel_rfl) rfl
theorem en58 : Ent Try.prog 58 := enters_of Try.func58 (by kernel_rfl) rfl
theorem en59 : Ent Try.prog 59 := enters_of Try.func59 (by kernel_rfl) rfl
theorem en60 : Ent Try.prog 60 := enters_of Try.func60 (by kernel_rfl) rfl
theorem en61 : Ent Try.prog 61 := enters_of Try.func61 (by kernel_rfl) rfl
theorem en62 : Ent Try.prog 62 := enters_of Try.func62 (by kernel_rfl) rfl
theorem en63 : Ent Try.prog 63 := enters_of Try.func63 (by kernel_rfl) rfl
theorem en64 : Ent Try.prog 64 := enters_of Try.func64 (by kernel_rfl) rfl
theorem en65 : Ent Try.prog 65 := enters_of Try.func65 (by kernel_rfl) rfl
theorem en66 : Ent Try.prog 66 := enters_of Try.func66 (by kernel_rfl) rfl
theorem en67 : Ent Try.prog 67 := enters_of Try.func67 (by kernel_rfl) rfl
theorem en68 : Ent Try.prog 68 := enters_of Try.func68 (by kernel_rfl) rfl
theorem en69 : Ent Try.prog 69 := enters_of Try.func69 (by kernel_rfl) rfl
theorem en70 : Ent Try.prog 70 := enters_of Try.func70 (by kernel_rfl) rfl
theorem en71 : Ent Try.prog 71 := enters_of Try.func71 (by kernel_rfl) rfl
theorem en72 : Ent Try.prog 72 := enters_of Try.func72 (by kernel_rfl) rfl
theorem en73 : Ent Try.prog 73 := enters_of Try.func73 (by kernel_rfl) rfl
theorem en74 : Ent Try.prog 74 := enters_of Try.func74 (by kernel_rfl) rfl
theorem en75 : Ent Try.prog 75 := enters_of Try.func75 (by kernel_rfl) rfl
theorem en76 : Ent Try.prog 76 := enters_of Try.func76 (by kernel_rfl) rfl
theorem en77 : Ent Try.prog 77 := enters_of Try.func77 (by kernel_rfl) rfl
theorem en78 : Ent Try.prog 78 := enters_of Try.func78 (by kernel_rfl) rfl
theorem en79 : Ent Try.prog 79 := enters_of Try.func79 (by kernel_rfl) rfl
theorem en80 : Ent Try.prog 80 := enters_of Try.func80 (by kernel_rfl) rfl
theorem en81 : Ent Try.prog 81 := enters_of Try.func81 (by kernel_rfl) rfl
theorem en82 : Ent Try.prog 82 := enters_of Try.func82 (by kernel_rfl) rfl
theorem en83 : Ent Try.prog 83 := enters_of Try.func83 (by kernel_rfl) rfl
theorem en84 : Ent Try.prog 84 := enters_of Try.func84 (by kernel_rfl) rfl
theorem en85 : Ent Try.prog 85 := enters_of Try.func85 (by kernel_rfl) rfl
theorem en86 : Ent Try.prog 86 := enters_of Try.func86 (by kernel_rfl) rfl
theorem en87 : Ent Try.prog 87 := enters_of Try.func87 (by kernel_rfl) rfl
theorem en88 : Ent Try.prog 88 := enters_of Try.func88 (by kernel_rfl) rfl
theorem en89 : Ent Try.prog 89 := enters_of Try.func89 (by kernel_rfl) rfl
theorem en90 : Ent Try.prog 90 := enters_of Try.func90 (by kernel_rfl) rfl
theorem en91 : Ent Try.prog 91 := enters_of Try.func91 (by kernel_rfl) rfl
theorem en92 : Ent Try.prog 92 := enters_of Try.func92 (by kernel_rfl) rfl
theorem en93 : Ent Try.prog 93 := enters_of Try.func93 (by kernel_rfl) rfl
theorem en94 : Ent Try.prog 94 := enters_of Try.func94 (by kernel_rfl) rfl
theorem en95 : Ent Try.prog 95 := enters_of Try.func95 (by kernel_rfl) rfl
theorem en96 : Ent Try.prog 96 := enters_of Try.func96 (by kernel_rfl) rfl
theorem en97 : Ent Try.prog 97 := enters_of Try.func97 (by kernel_rfl) rfl
theorem en98 : Ent Try.prog 98 := enters_of Try.func98 (by kernel_rfl) rfl
theorem en99 : Ent Try.prog 99 := enters_of Try.func99 (by kernel_rfl) rfl
theorem en100 : Ent Try.prog 100 := enters_of Try.func100 (by kernel_rfl) rfl
theorem en101 : Ent Try.prog 101 := enters_of Try.func101 (by kernel_rfl) rfl
theorem en102 : Ent Try.prog 102 := enters_of Try.func102 (by kernel_rfl) rfl
theorem en103 : Ent Try.prog 103 := enters_of Try.func103 (by kernel_rfl) rfl
theorem en104 : Ent Try.prog 104 := enters_of Try.func104 (by kernel_rfl) rfl
theorem en105 : Ent Try.prog 105 := enters_of Try.func105 (by kernel_rfl) rfl
theorem en106 : Ent Try.prog 106 := enters_of Try.func106 (by kernel_rfl) rfl
theorem en107 : Ent Try.prog 107 := enters_of Try.func107 (by kernel_rfl) rfl
theorem en108 : Ent Try.prog 108 := enters_of Try.func108 (by kernel_rfl) rfl
theorem en109 : Ent Try.prog 109 := enters_of Try.func109 (by kernel_rfl) rfl
theorem en110 : Ent Try.prog 110 := enters_of Try.func110 (by kernel_rfl) rfl
theorem en111 : Ent Try.prog 111 := enters_of Try.func111 (by kernel_rfl) rfl
theorem en112 : Ent Try.prog 112 := enters_of Try.func112 (by kernel_rfl) rfl
theorem en113 : Ent Try.prog 113 := enters_of Try.func113 (by kernel_rfl) rfl
theorem en114 : Ent Try.prog 114 := enters_of Try.func114 (by kernel_rfl) rfl
theorem en115 : Ent Try.prog 115 := enters_of Try.func115 (by kernel_rfl) rfl
theorem en116 : Ent Try.prog 116 := enters_of Try.func116 (by kernel_rfl) rfl
theorem en117 : Ent Try.prog 117 := enters_of Try.func117 (by kernel_rfl) rfl
theorem en118 : Ent Try.prog 118 := enters_of Try.func118 (by kernel_rfl) rfl
theorem en119 : Ent Try.prog 119 := enters_of Try.func119 (by kernel_rfl) rfl
theorem en120 : Ent Try.prog 120 := enters_of Try.func120 (by kernel_rfl) rfl
theorem en121 : Ent Try.prog 121 := enters_of Try.func121 (by kernel_rfl) rfl
theorem en122 : Ent Try.prog 122 := enters_of Try.func122 (by kernel_rfl) rfl
theorem en123 : Ent Try.prog 123 := enters_of Try.func123 (by kernel_rfl) rfl
theorem en124 : Ent Try.prog 124 := enters_of Try.func124 (by kernel_rfl) rfl
theorem en125 : Ent Try.prog 125 := enters_of Try.func125 (by kernel_rfl) rfl
theorem en126 : Ent Try.prog 126 := enters_of Try.func126 (by kernel_rfl) rfl
theorem en127 : Ent Try.prog 127 := enters_of Try.func127 (by kernel_rfl) rfl
theorem en128 : Ent Try.prog 128 := enters_of Try.func128 (by kernel_rfl) rfl
theorem en129 : Ent Try.prog 129 := enters_of Try.func129 (by kernel_rfl) rfl
theorem en130 : Ent Try.prog 130 := enters_of Try.func130 (by kernel_rfl) rfl
theorem en131 : Ent Try.prog 131 := enters_of Try.func131 (by kernel_rfl) rfl
theorem en132 : Ent Try.prog 132 := enters_of Try.func132 (by kernel_rfl) rfl
theorem en133 : Ent Try.prog 133 := enters_of Try.func133 (by kernel_rfl) rfl
theorem en134 : Ent Try.prog 134 := enters_of Try.func134 (by kernel_rfl) rfl
theorem en135 : Ent Try.prog 135 := enters_of Try.func135 (by kernel_rfl) rfl
theorem en136 : Ent Try.prog 136 := enters_of Try.func136 (by kernel_rfl) rfl
theorem en137 : Ent Try.prog 137 := enters_of Try.func137 (by kernel_rfl) rfl
theorem en138 : Ent Try.prog 138 := enters_of Try.func138 (by kernel_rfl) rfl
theorem en139 : Ent Try.prog 139 := enters_of Try.func139 (by kernel_rfl) rfl
theorem en141 : Ent Try.prog 141 := enters_of Try.func141 (by kernel_rfl) rfl
theorem en142 : Ent Try.prog 142 := enters_of Try.func142 (by kernel_rfl) rfl
theorem en143 : Ent Try.prog 143 := enters_of Try.func143 (by kernel_rfl) rfl
theorem en144 : Ent Try.prog 144 := enters_of Try.func144 (by kernel_rfl) rfl
theorem en145 : Ent Try.prog 145 := enters_of Try.func145 (by kernel_rfl) rfl
theorem en146 : Ent Try.prog 146 := enters_of Try.func146 (by kernel_rfl) rfl
theorem en147 : Ent Try.prog 147 := enters_of Try.func147 (by kernel_rfl) rfl
theorem en148 : Ent Try.prog 148 := enters_of Try.func148 (by kernel_rfl) rfl
theorem en149 : Ent Try.prog 149 := enters_of Try.func149 (by kernel_rfl) rfl
theorem en150 : Ent Try.prog 150 := enters_of Try.func150 (by kernel_rfl) rfl
theorem en151 : Ent Try.prog 151 := enters_of Try.func151 (by kernel_rfl) rfl
theorem en152 : Ent Try.prog 152 := enters_of Try.func152 (by kernel_rfl) rfl
theorem en153 : Ent Try.prog 153 := enters_of Try.func153 (by kernel_rfl) rfl
theorem en154 : Ent Try.prog 154 := enters_of Try.func154 (by kernel_rfl) rfl
theorem en155 : Ent Try.prog 155 := enters_of Try.func155 (by kernel_rfl) rfl
theorem en156 : Ent Try.prog 156 := enters_of Try.func156 (by kernel_rfl) rfl
theorem en157 : Ent Try.prog 157 := enters_of Try.func157 (by kernel_rfl) rfl
theorem en158 : Ent Try.prog 158 := enters_of Try.func158 (by kernel_rfl) rfl
theorem en159 : Ent Try.prog 159 := enters_of Try.func159 (by kernel_rfl) rfl
theorem en160 : Ent Try.prog 160 := enters_of Try.func160 (by kernel_rfl) rfl
theorem en161 : Ent Try.prog 161 := enters_of Try.func161 (by kernel_rfl) rfl
theorem en162 : Ent Try.prog 162 := enters_of Try.func162 (by kernel_rfl) rfl
theorem en163 : Ent Try.prog 163 := enters_of Try.func163 (by kernel_rfl) rfl
theorem en164 : Ent Try.prog 164 := enters_of Try.func164 (by kernel_rfl) rfl
theorem en165 : Ent Try.prog 165 := enters_of Try.func165 (by kernel_rfl) rfl
theorem en166 : Ent Try.prog 166 := enters_of Try.func166 (by kernel_rfl) rfl
theorem en167 : Ent Try.prog 167 := enters_of Try.func167 (by kernel_rfl) rfl
theorem en168 : Ent Try.prog 168 := enters_of Try.func168 (by kernel_rfl) rfl
theorem en169 : Ent Try.prog 169 := enters_of Try.func169 (by kernel_rfl) rfl
theorem en170 : Ent Try.prog 170 := enters_of Try.func170 (by kernel_rfl) rfl
theorem en171 : Ent Try.prog 171 := enters_of Try.func171 (by kernel_rfl) rfl
theorem en172 : Ent Try.prog 172 := enters_of Try.func172 (by kernel_rfl) rfl
theorem en173 : Ent Try.prog 173 := enters_of Try.func173 (by kernel_rfl) rfl
theorem en175 : Ent Try.prog 175 := enters_of Try.func175 (by kernel_rfl) rfl
theorem en176 : Ent Try.prog 176 := enters_of Try.func176 (by kernel_rfl) rfl
theorem en177 : Ent Try.prog 177 := enters_of Try.func177 (by kernel_rfl) rfl
theorem en178 : Ent Try.prog 178 := enters_of Try.func178 (by kernel_rfl) rfl
theorem en179 : Ent Try.prog 179 := enters_of Try.func179 (by kernel_rfl) rfl
theorem en180 : Ent Try.prog 180 := enters_of Try.func180 (by kernel_rfl) rfl
theorem en181 : Ent Try.prog 181 := enters_of Try.func181 (by kernel_rfl) rfl
theorem en182 : Ent Try.prog 182 := enters_of Try.func182 (by kernel_rfl) rfl
theorem en183 : Ent Try.prog 183 := enters_of Try.func183 (by kernel_rfl) rfl
theorem en184 : Ent Try.prog 184 := enters_of Try.func184 (by kernel_rfl) rfl
theorem en185 : Ent Try.prog 185 := enters_of Try.func185 (by kernel_rfl) rfl
theorem en186 : Ent Try.prog 186 := enters_of Try.func186 (by kernel_rfl) rfl
theorem en187 : Ent Try.prog 187 := enters_of Try.func187 (by kernel_rfl) rfl
theorem en188 : Ent Try.prog 188 := enters_of Try.func188 (by kernel_rfl) rfl
theorem en189 : Ent Try.prog 189 := enters_of Try.func189 (by kernel_rfl) rfl
theorem en190 : Ent Try.prog 190 := enters_of Try.func190 (by kernel_rfl) rfl
theorem en191 : Ent Try.prog 191 := enters_of Try.func191 (by kernel_rfl) rfl
theorem en192 : Ent Try.prog 192 := enters_of Try.func192 (by kernel_rfl) rfl
theorem en193 : Ent Try.prog 193 := enters_of Try.func193 (by kernel_rfl) rfl
theorem en194 : Ent Try.prog 194 := enters_of Try.func194 (by kernel_rfl) rfl
theorem en195 : Ent Try.prog 195 := enters_of Try.func195 (by kernel_rfl) rfl
theorem en196 : Ent Try.prog 196 := enters_of Try.func196 (by kernel_rfl) rfl
theorem en197 : Ent Try.prog 197 := enters_of Try.func197 (by kernel_rfl) rfl
theorem en199 : Ent Try.prog 199 := enters_of Try.func199 (by kernel_rfl) rfl
theorem en200 : Ent Try.prog 200 := enters_of Try.func200 (by kernel_rfl) rfl
theorem en201 : Ent Try.prog 201 := enters_of Try.func201 (by kernel_rfl) rfl
theorem en202 : Ent Try.prog 202 := enters_of Try.func202 (by kernel_rfl) rfl
theorem en203 : Ent Try.prog 203 := enters_of Try.func203 (by kernel_rfl) rfl
theorem en204 : Ent Try.prog 204 := enters_of Try.func204 (by kernel_rfl) rfl
theorem en205 : Ent Try.prog 205 := enters_of Try.func205 (by kernel_rfl) rfl
theorem en206 : Ent Try.prog 206 := enters_of Try.func206 (by kernel_rfl) rfl
theorem en207 : Ent Try.prog 207 := enters_of Try.func207 (by kernel_rfl) rfl
theorem en208 : Ent Try.prog 208 := enters_of Try.func208 (by kernel_rfl) rfl
theorem en209 : Ent Try.prog 209 := enters_of Try.func209 (by kernel_rfl) rfl
theorem en210 : Ent Try.prog 210 := enters_of Try.func210 (by kernel_rfl) rfl
theorem en211 : Ent Try.prog 211 := enters_of Try.func211 (by kernel_rfl) rfl
theorem en212 : Ent Try.prog 212 := enters_of Try.func212 (by kernel_rfl) rfl
theorem en213 : Ent Try.prog 213 := enters_of Try.func213 (by kernel_rfl) rfl
theorem en214 : Ent Try.prog 214 := enters_of Try.func214 (by kernel_rfl) rfl
theorem en215 : Ent Try.prog 215 := enters_of Try.func215 (by kernel_rfl) rfl
theorem en216 : Ent Try.prog 216 := enters_of Try.func216 (by kernel_rfl) rfl
end Go.Proofs.Ytobmcpoejhhemaa
