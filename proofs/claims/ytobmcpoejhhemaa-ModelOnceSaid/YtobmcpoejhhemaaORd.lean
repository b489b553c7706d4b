import Derived.Test.YtobmcpoejhhemaaORow
import Derived.OpenShut
namespace Go.Proofs.Ytobmcpoejhhemaa
open Go.E
theorem ru3 : Try.prog.underlying 3 = some (.int .i64) := by kernel_rfl
theorem ru4 : Try.prog.underlying 4 = some .bool := by kernel_rfl
theorem ru5 : Try.prog.underlying 5 = some (.int .u8) := by kernel_rfl
theorem ru25 : Try.prog.underlying 25 = some (.int .u16) := by kernel_rfl
theorem ru30 : Try.prog.underlying 30 = some (.int .u64) := by kernel_rfl
theorem ru77 : Try.prog.underlying 77 = some (.int .u32) := by kernel_rfl
structure B16.Wf (s : B16) : Prop where
  x0_ : InK .u8 s.x0
  x1_ : InK .u8 s.x1
  x2_ : InK .u8 s.x2
  x3_ : InK .u8 s.x3
  x4_ : InK .u8 s.x4
  x5_ : InK .u8 s.x5
  x6_ : InK .u8 s.x6
  x7_ : InK .u8 s.x7
  x8_ : InK .u8 s.x8
  x9_ : InK .u8 s.x9
  x10_ : InK .u8 s.x10
  x11_ : InK .u8 s.x11
  x12_ : InK .u8 s.x12
  x13_ : InK .u8 s.x13
  x14_ : InK .u8 s.x14
  x15_ : InK .u8 s.x15
set_option maxRecDepth 100000 in
theorem rd_22 : Rdr Try.prog 22 eB16 B16.Wf := fun enc w base spare held fuel cs x h => by
  obtain ⟨xs, n, rfl, rfl, hl, hx, hf⟩ := DataW.trod_array (n := 16) (e := 5) (by kernel_rfl) h
  obtain ⟨a0, e0, o0⟩ := rd_item hx hf (off := 0) (m := 1) 0 (by decide) (by kernel_rfl) rfl (rd_int (k := .u8) (t := 5) ru5)
  obtain ⟨a1, e1, o1⟩ := rd_item hx hf (off := 1) (m := 1) 1 (by decide) (by kernel_rfl) rfl (rd_int (k := .u8) (t := 5) ru5)
  obtain ⟨a2, e2, o2⟩ := rd_item hx hf (off := 2) (m := 1) 2 (by decide) (by kernel_rfl) rfl (rd_int (k := .u8) (t := 5) ru5)
  obtain ⟨a3, e3, o3⟩ := rd_item hx hf (off := 3) (m := 1) 3 (by decide) (by kernel_rfl) rfl (rd_int (k := .u8) (t := 5) ru5)
  obtain ⟨a4, e4, o4⟩ := rd_item hx hf (off := 4) (m := 1) 4 (by decide) (by kernel_rfl) rfl (rd_int (k := .u8) (t := 5) ru5)
  obtain ⟨a5, e5, o5⟩ := rd_item hx hf (off := 5) (m := 1) 5 (by decide) (by kernel_rfl) rfl (rd_int (k := .u8) (t := 5) ru5)
  obtain ⟨a6, e6, o6⟩ := rd_item hx hf (off := 6) (m := 1) 6 (by decide) (by kernel_rfl) rfl (rd_int (k := .u8) (t := 5) ru5)
  obtain ⟨a7, e7, o7⟩ := rd_item hx hf (off := 7) (m := 1) 7 (by decide) (by kernel_rfl) rfl (rd_int (k := .u8) (t := 5) ru5)
  obtain ⟨a8, e8, o8⟩ := rd_item hx hf (off := 8) (m := 1) 8 (by decide) (by kernel_rfl) rfl (rd_int (k := .u8) (t := 5) ru5)
  obtain ⟨a9, e9, o9⟩ := rd_item hx hf (off := 9) (m := 1) 9 (by decide) (by kernel_rfl) rfl (rd_int (k := .u8) (t := 5) ru5)
  obtain ⟨a10, e10, o10⟩ := rd_item hx hf (off := 10) (m := 1) 10 (by decide) (by kernel_rfl) rfl (rd_int (k := .u8) (t := 5) ru5)
  obtain ⟨a11, e11, o11⟩ := rd_item hx hf (off := 11) (m := 1) 11 (by decide) (by kernel_rfl) rfl (rd_int (k := .u8) (t := 5) ru5)
  obtain ⟨a12, e12, o12⟩ := rd_item hx hf (off := 12) (m := 1) 12 (by decide) (by kernel_rfl) rfl (rd_int (k := .u8) (t := 5) ru5)
  obtain ⟨a13, e13, o13⟩ := rd_item hx hf (off := 13) (m := 1) 13 (by decide) (by kernel_rfl) rfl (rd_int (k := .u8) (t := 5) ru5)
  obtain ⟨a14, e14, o14⟩ := rd_item hx hf (off := 14) (m := 1) 14 (by decide) (by kernel_rfl) rfl (rd_int (k := .u8) (t := 5) ru5)
  obtain ⟨a15, e15, o15⟩ := rd_item hx hf (off := 15) (m := 1) 15 (by decide) (by kernel_rfl) rfl (rd_int (k := .u8) (t := 5) ru5)
  have hl : cs.length = 16 := hl.trans (by kernel_rfl)
  have hcs := (drop_step e0 (off := 0) (off' := 1) rfl (drop_step e1 (off := 1) (off' := 2) rfl (drop_step e2 (off := 2) (off' := 3) rfl (drop_step e3 (off := 3) (off' := 4) rfl (drop_step e4 (off := 4) (off' := 5) rfl (drop_step e5 (off := 5) (off' := 6) rfl (drop_step e6 (off := 6) (off' := 7) rfl (drop_step e7 (off := 7) (off' := 8) rfl (drop_step e8 (off := 8) (off' := 9) rfl (drop_step e9 (off := 9) (off' := 10) rfl (drop_step e10 (off := 10) (off' := 11) rfl (drop_step e11 (off := 11) (off' := 12) rfl (drop_step e12 (off := 12) (off' := 13) rfl (drop_step e13 (off := 13) (off' := 14) rfl (drop_step e14 (off := 14) (off' := 15) rfl (drop_step e15 (off := 15) (off' := 16) rfl (drop_end hl)))))))))))))))))
  rw [List.drop_zero] at hcs
  refine ⟨{ x0 := a0, x1 := a1, x2 := a2, x3 := a3, x4 := a4, x5 := a5, x6 := a6, x7 := a7, x8 := a8, x9 := a9, x10 := a10, x11 := a11, x12 := a12, x13 := a13, x14 := a14, x15 := a15 }, hcs.trans (by kernel_rfl), ⟨o0, o1, o2, o3, o4, o5, o6, o7, o8, o9, o10, o11, o12, o13, o14, o15⟩⟩
structure Adr.Wf (s : Adr) : Prop where
  b_ : s.b.Wf
set_option maxRecDepth 100000 in
theorem rd_24 : Rdr Try.prog 24 eAdr Adr.Wf := fun enc w base spare held fuel cs x h => by
  obtain ⟨xs, n, rfl, rfl, hl, hx, hf⟩ := DataW.trod_struct (fs := Try.prog.fieldsOf 24) (by kernel_rfl) h
  obtain ⟨a0, e0, o0⟩ := rd_field hx hf (ft := 4) (off := 0) (m := 1) 0 ((Try.prog.fieldsOf 24).toList.getD 0 default) (by kernel_rfl) (by kernel_rfl) (by kernel_rfl) (by kernel_rfl) (rd_bool (t := 4) ru4)
  obtain ⟨a1, e1, o1⟩ := rd_field hx hf (ft := 22) (off := 1) (m := 16) 1 ((Try.prog.fieldsOf 24).toList.getD 1 default) (by kernel_rfl) (by kernel_rfl) (by kernel_rfl) (by kernel_rfl) rd_22
  have hl : cs.length = 17 := hl.trans (by kernel_rfl)
  have hcs := (drop_step e0 (off := 0) (off' := 1) rfl (drop_step e1 (off := 1) (off' := 17) rfl (drop_end hl)))
  rw [List.drop_zero] at hcs
  refine ⟨{ six := a0, b := a1 }, hcs.trans (by kernel_rfl), ⟨o1⟩⟩
structure Key.Wf (s : Key) : Prop where
  src_ : s.src.Wf
  dst_ : s.dst.Wf
  proto_ : InK .u8 s.proto
  srcPort_ : InK .u16 s.srcPort
  dstPort_ : InK .u16 s.dstPort
set_option maxRecDepth 100000 in
theorem rd_27 : Rdr Try.prog 27 eKey Key.Wf := fun enc w base spare held fuel cs x h => by
  obtain ⟨xs, n, rfl, rfl, hl, hx, hf⟩ := DataW.trod_struct (fs := Try.prog.fieldsOf 27) (by kernel_rfl) h
  obtain ⟨a0, e0, o0⟩ := rd_field hx hf (ft := 24) (off := 0) (m := 17) 0 ((Try.prog.fieldsOf 27).toList.getD 0 default) (by kernel_rfl) (by kernel_rfl) (by kernel_rfl) (by kernel_rfl) rd_24
  obtain ⟨a1, e1, o1⟩ := rd_field hx hf (ft := 24) (off := 17) (m := 17) 1 ((Try.prog.fieldsOf 27).toList.getD 1 default) (by kernel_rfl) (by kernel_rfl) (by kernel_rfl) (by kernel_rfl) rd_24
  obtain ⟨a2, e2, o2⟩ := rd_field hx hf (ft := 5) (off := 34) (m := 1) 2 ((Try.prog.fieldsOf 27).toList.getD 2 default) (by kernel_rfl) (by kernel_rfl) (by kernel_rfl) (by kernel_rfl) (rd_int (k := .u8) (t := 5) ru5)
  obtain ⟨a3, e3, o3⟩ := rd_field hx hf (ft := 25) (off := 35) (m := 1) 3 ((Try.prog.fieldsOf 27).toList.getD 3 default) (by kernel_rfl) (by kernel_rfl) (by kernel_rfl) (by kernel_rfl) (rd_int (k := .u16) (t := 25) ru25)
  obtain ⟨a4, e4, o4⟩ := rd_field hx hf (ft := 25) (off := 36) (m := 1) 4 ((Try.prog.fieldsOf 27).toList.getD 4 default) (by kernel_rfl) (by kernel_rfl) (by kernel_rfl) (by kernel_rfl) (rd_int (k := .u16) (t := 25) ru25)
  have hl : cs.length = 37 := hl.trans (by kernel_rfl)
  have hcs := (drop_step e0 (off := 0) (off' := 17) rfl (drop_step e1 (off := 17) (off' := 34) rfl (drop_step e2 (off := 34) (off' := 35) rfl (drop_step e3 (off := 35) (off' := 36) rfl (drop_step e4 (off := 36) (off' := 37) rfl (drop_end hl))))))
  rw [List.drop_zero] at hcs
  refine ⟨{ src := a0, dst := a1, proto := a2, srcPort := a3, dstPort := a4 }, hcs.trans (by kernel_rfl), ⟨o0, o1, o2, o3, o4⟩⟩
structure Tot.Wf (s : Tot) : Prop where
  packets_ : InK .u64 s.packets
  bytes_ : InK .u64 s.bytes
set_option maxRecDepth 100000 in
theorem rd_32 : Rdr Try.prog 32 eTot Tot.Wf := fun enc w base spare held fuel cs x h => by
  obtain ⟨xs, n, rfl, rfl, hl, hx, hf⟩ := DataW.trod_struct (fs := Try.prog.fieldsOf 32) (by kernel_rfl) h
  obtain ⟨a0, e0, o0⟩ := rd_field hx hf (ft := 30) (off := 0) (m := 1) 0 ((Try.prog.fieldsOf 32).toList.getD 0 default) (by kernel_rfl) (by kernel_rfl) (by kernel_rfl) (by kernel_rfl) (rd_int (k := .u64) (t := 30) ru30)
  obtain ⟨a1, e1, o1⟩ := rd_field hx hf (ft := 30) (off := 1) (m := 1) 1 ((Try.prog.fieldsOf 32).toList.getD 1 default) (by kernel_rfl) (by kernel_rfl) (by kernel_rfl) (by kernel_rfl) (rd_int (k := .u64) (t := 30) ru30)
  have hl : cs.length = 2 := hl.trans (by kernel_rfl)
  have hcs := (drop_step e0 (off := 0) (off' := 1) rfl (drop_step e1 (off := 1) (off' := 2) rfl (drop_end hl)))
  rw [List.drop_zero] at hcs
  refine ⟨{ packets := a0, bytes := a1 }, hcs.trans (by kernel_rfl), ⟨o0, o1⟩⟩
structure Rec.Wf (s : Rec) : Prop where
  key_ : s.key.Wf
  packets_ : InK .u64 s.packets
  bytes_ : InK .u64 s.bytes
  first_ : InK .u64 s.first
  last_ : InK .u64 s.last
  flags_ : InK .u8 s.flags
  reason_ : InK .u8 s.reason
  cls_ : InK .u8 s.cls
set_option maxRecDepth 100000 in
theorem rd_35 : Rdr Try.prog 35 eRec Rec.Wf := fun enc w base spare held fuel cs x h => by
  obtain ⟨xs, n, rfl, rfl, hl, hx, hf⟩ := DataW.trod_struct (fs := Try.prog.fieldsOf 35) (by kernel_rfl) h
  obtain ⟨a0, e0, o0⟩ := rd_field hx hf (ft := 27) (off := 0) (m := 37) 0 ((Try.prog.fieldsOf 35).toList.getD 0 default) (by kernel_rfl) (by kernel_rfl) (by kernel_rfl) (by kernel_rfl) rd_27
  obtain ⟨a1, e1, o1⟩ := rd_field hx hf (ft := 30) (off := 37) (m := 1) 1 ((Try.prog.fieldsOf 35).toList.getD 1 default) (by kernel_rfl) (by kernel_rfl) (by kernel_rfl) (by kernel_rfl) (rd_int (k := .u64) (t := 30) ru30)
  obtain ⟨a2, e2, o2⟩ := rd_field hx hf (ft := 30) (off := 38) (m := 1) 2 ((Try.prog.fieldsOf 35).toList.getD 2 default) (by kernel_rfl) (by kernel_rfl) (by kernel_rfl) (by kernel_rfl) (rd_int (k := .u64) (t := 30) ru30)
  obtain ⟨a3, e3, o3⟩ := rd_field hx hf (ft := 30) (off := 39) (m := 1) 3 ((Try.prog.fieldsOf 35).toList.getD 3 default) (by kernel_rfl) (by kernel_rfl) (by kernel_rfl) (by kernel_rfl) (rd_int (k := .u64) (t := 30) ru30)
  obtain ⟨a4, e4, o4⟩ := rd_field hx hf (ft := 30) (off := 40) (m := 1) 4 ((Try.prog.fieldsOf 35).toList.getD 4 default) (by kernel_rfl) (by kernel_rfl) (by kernel_rfl) (by kernel_rfl) (rd_int (k := .u64) (t := 30) ru30)
  obtain ⟨a5, e5, o5⟩ := rd_field hx hf (ft := 5) (off := 41) (m := 1) 5 ((Try.prog.fieldsOf 35).toList.getD 5 default) (by kernel_rfl) (by kernel_rfl) (by kernel_rfl) (by kernel_rfl) (rd_int (k := .u8) (t := 5) ru5)
  obtain ⟨a6, e6, o6⟩ := rd_field hx hf (ft := 5) (off := 42) (m := 1) 6 ((Try.prog.fieldsOf 35).toList.getD 6 default) (by kernel_rfl) (by kernel_rfl) (by kernel_rfl) (by kernel_rfl) (rd_int (k := .u8) (t := 5) ru5)
  obtain ⟨a7, e7, o7⟩ := rd_field hx hf (ft := 5) (off := 43) (m := 1) 7 ((Try.prog.fieldsOf 35).toList.getD 7 default) (by kernel_rfl) (by kernel_rfl) (by kernel_rfl) (by kernel_rfl) (rd_int (k := .u8) (t := 5) ru5)
  have hl : cs.length = 44 := hl.trans (by kernel_rfl)
  have hcs := (drop_step e0 (off := 0) (off' := 37) rfl (drop_step e1 (off := 37) (off' := 38) rfl (drop_step e2 (off := 38) (off' := 39) rfl (drop_step e3 (off := 39) (off' := 40) rfl (drop_step e4 (off := 40) (off' := 41) rfl (drop_step e5 (off := 41) (off' := 42) rfl (drop_step e6 (off := 42) (off' := 43) rfl (drop_step e7 (off := 43) (off' := 44) rfl (drop_end hl)))))))))
  rw [List.drop_zero] at hcs
  refine ⟨{ key := a0, packets := a1, bytes := a2, first := a3, last := a4, flags := a5, reason := a6, cls := a7 }, hcs.trans (by kernel_rfl), ⟨o0, o1, o2, o3, o4, o5, o6, o7⟩⟩
structure Pkt.Wf (s : Pkt) : Prop where
  key_ : s.key.Wf
  length_ : InK .i64 s.length
  flags_ : InK .u8 s.flags
structure FSpec.Wf (s : FSpec) : Prop where
  id_ : InK .u16 s.id
  pen_ : InK .u32 s.pen
  len_ : InK .u16 s.len
structure Act23.Wf (s : Act23) : Prop where
  do__ : InK .i64 s.do_
  k_ : s.k.Wf
  n_ : InK .u64 s.n
structure Act24.Wf (s : Act24) : Prop where
  do__ : InK .i64 s.do_
  packet_ : s.packet.Wf
  cls_ : InK .u8 s.cls
  tick_ : InK .u64 s.tick
structure Parts.Wf (s : Parts) : Prop where
  forwarded_ : s.forwarded.Wf
  cached_ : s.cached.Wf
  volatile_ : s.volatile.Wf
  durable_ : s.durable.Wf
  lost_ : s.lost.Wf
  credited_ : s.credited.Wf
structure Bnd.Wf (s : Bnd) : Prop where
  flows_ : InK .i64 s.flows
  idle_ : InK .u64 s.idle
  active_ : InK .u64 s.active
  packets_ : InK .u64 s.packets
  bytes_ : InK .u64 s.bytes
structure Slot.Wf (s : Slot) : Prop where
  key_ : s.key.Wf
  n_ : InK .u64 s.n
structure Sum24.Wf (s : Sum24) : Prop where
  key_ : s.key.Wf
  total_ : s.total.Wf
end Go.Proofs.Ytobmcpoejhhemaa
