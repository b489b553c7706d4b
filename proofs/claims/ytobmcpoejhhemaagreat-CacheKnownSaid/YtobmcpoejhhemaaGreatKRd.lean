import Derived.Test.YtobmcpoejhhemaaGreatKRow
import Derived.OpenShut
namespace Go.Proofs.YtobmcpoejhhemaaGreat
open Go.E
structure B16.Wf (s : B16) : Prop where
  x0_ : InK .u8 s.x0
  x1_ : InK .u8 s.x1
  x2_ : InK .u8 s.x2
  x3_ : InK .u8 s.x3
  x4_ : InK .u8 s.x4
  x5_ : InK .u8 s.x5
  x6_ : InK .u8 s.x6
  x7_ : InK .u8 s.x7
  x8_ : InK .u8 s.x8
  x9_ : InK .u8 s.x9
  x10_ : InK .u8 s.x10
  x11_ : InK .u8 s.x11
  x12_ : InK .u8 s.x12
  x13_ : InK .u8 s.x13
  x14_ : InK .u8 s.x14
  x15_ : InK .u8 s.x15
structure Adr.Wf (s : Adr) : Prop where
  b_ : s.b.Wf
structure Key.Wf (s : Key) : Prop where
  src_ : s.src.Wf
  dst_ : s.dst.Wf
  proto_ : InK .u8 s.proto
  srcPort_ : InK .u16 s.srcPort
  dstPort_ : InK .u16 s.dstPort
structure Pkt.Wf (s : Pkt) : Prop where
  key_ : s.key.Wf
  length_ : InK .i64 s.length
  flags_ : InK .u8 s.flags
structure Act24.Wf (s : Act24) : Prop where
  do__ : InK .i64 s.do_
  packet_ : s.packet.Wf
  cls_ : InK .u8 s.cls
  tick_ : InK .u64 s.tick
structure Bnd.Wf (s : Bnd) : Prop where
  flows_ : InK .i64 s.flows
  idle_ : InK .u64 s.idle
  active_ : InK .u64 s.active
  packets_ : InK .u64 s.packets
  bytes_ : InK .u64 s.bytes
structure Tot.Wf (s : Tot) : Prop where
  packets_ : InK .u64 s.packets
  bytes_ : InK .u64 s.bytes
structure Rec.Wf (s : Rec) : Prop where
  key_ : s.key.Wf
  packets_ : InK .u64 s.packets
  bytes_ : InK .u64 s.bytes
  first_ : InK .u64 s.first
  last_ : InK .u64 s.last
  flags_ : InK .u8 s.flags
  reason_ : InK .u8 s.reason
  cls_ : InK .u8 s.cls
structure Sum24.Wf (s : Sum24) : Prop where
  key_ : s.key.Wf
  total_ : s.total.Wf
structure Slot.Wf (s : Slot) : Prop where
  key_ : s.key.Wf
  n_ : InK .u64 s.n
end Go.Proofs.YtobmcpoejhhemaaGreat
