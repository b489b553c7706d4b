import Derived.Test.YtobmcpoejhhemaaOMpB
namespace Go.Proofs.Ytobmcpoejhhemaa
open Go.E Go.RowKit Go.WideShapes Go.ChangeShapes

theorem rd_fieldQ {H : Type} {enc : TypeId × Value → H} {P : Program} {w : World} {base : Nat} {spare : Nat → Bool} {held : Bool} {n : Nat} {cs : List Value} {fs : Array Field} {xs : List (DataW H × List MemPlace)}
    (hx : xs.length = fs.size) (h : ∀ (i : Nat) (f : Field), fs[i]? = some f → DataW.trod enc P w base spare held n f.type ((cs.drop f.offset).take (P.cellsOf f.type)) = xs[i]?)
    {ft off m : Nat} (i : Nat) (f : Field) (hi : fs[i]? = some f) (ht : f.type = ft) (ho : f.offset = off) (hc : P.cellsOf ft = m) {Q : List Value → Prop} (hr : ∀ fuel cs x, DataW.trod enc P w base spare held fuel ft cs = some x → Q cs) : Q ((cs.drop off).take m) := by
  subst ht ho hc
  have h1 := h i f hi
  have hlt : i < xs.length := by rw [hx]; exact (Array.getElem?_eq_some_iff.1 hi).1
  rw [List.getElem?_eq_getElem hlt] at h1
  exact hr _ _ _ h1
/-- A slice's cells, its list in the world. -/
def InW {α : Type} (E : Enc α) (w : World) (p : Option Addr) (l : List α) : Prop := l = [] ∨ ∃ b off cur e' fz, p = some ⟨b, off, none⟩ ∧ w.heap[b]? = some (.cells cur e' fz) ∧ Holds E cur off l
theorem rdw_recs {H : Type} {enc : TypeId × Value → H} {w : World} {base : Nat} {spare : Nat → Bool} {held : Bool} (fuel : Nat) (cs : List Value) (x : DataW H × List MemPlace) (h : DataW.trod enc Try.prog w base spare held fuel 102 cs = some x) :
    ∃ (p : Option Addr) (l : List Rec) (cap : Nat), cs = [.slice p l.length cap] ∧ (∀ r ∈ l, r.Wf) ∧ l.length ≤ cap ∧ cap ≤ maxLen ∧ InW eRec w p l := by
  have hcs : ∃ p n c, cs = [.slice p n c] := by
    rcases Go.Deep.open_slice (e := 35) (by kernel_rfl) h with ⟨h1, _⟩ | ⟨a, len, cap, m, n, D, Pl, h1, _⟩
    · exact ⟨_, _, _, h1⟩
    · exact ⟨_, _, _, h1⟩
  obtain ⟨p, n, c, rfl⟩ := hcs
  obtain ⟨p', l, cap, b, h1, h2, h3, h4, h5⟩ := rd_slice (t := 102) (e := 35) (E := eRec) (v := .slice p n c) (d := x.1) (ps := x.2) (enc := enc) (w := w) (base := base) (spare := spare) (held := held) (by kernel_rfl) (by kernel_rfl) (by decide) rd_35 ⟨fuel, h⟩ rfl
  refine ⟨p', l, cap, by rw [h1], h2, h3, h4, ?_⟩
  rcases h5 with h5 | ⟨off, cur, e', fz, h5, h6, h7⟩
  · exact .inl h5
  · exact .inr ⟨b, off, cur, e', fz, h5, h6, h7⟩
structure NOk (w : World) (t : NoteR) : Prop where
  kind_ : InK .i64 t.kind
  key_ : t.key.Wf
  total_ : t.total.Wf
  recs_ : ∀ r ∈ t.recs, r.Wf
  epoch_ : InK .u32 t.epoch
  n_ : InK .u64 t.n
  first_ : InK .u64 t.first
  next_ : InK .u64 t.next
  cap_ : t.recs.length ≤ maxLen
  in_ : InW eRec w t.p t.recs
theorem NOk.wf {w : World} {t : NoteR} (h : NOk w t) (hf : t.recs.length ≤ 1000) : t.Wf := ⟨h.kind_, h.key_, h.total_, h.recs_, h.epoch_, h.n_, h.first_, h.next_, hf⟩
def eNoteR : Enc NoteR := ⟨fun t => t.x.c, 45, fun t => siz_Note _⟩
set_option maxRecDepth 100000 in
theorem rdw_note {H : Type} {enc : TypeId × Value → H} {w : World} {base : Nat} {spare : Nat → Bool} {held : Bool} (fuel : Nat) (cs : List Value) (x : DataW H × List MemPlace) (h : DataW.trod enc Try.prog w base spare held fuel 135 cs = some x) :
    ∃ t : NoteR, cs = (eNoteR.c t).toList ∧ NOk w t := by
  obtain ⟨xs, n, rfl, rfl, hl, hx, hf⟩ := DataW.trod_struct (fs := Try.prog.fieldsOf 135) (by kernel_rfl) h
  obtain ⟨a0, e0, o0⟩ := rd_field hx hf (ft := 3) (off := 0) (m := 1) 0 ((Try.prog.fieldsOf 135).toList.getD 0 default) (by kernel_rfl) (by kernel_rfl) (by kernel_rfl) (by kernel_rfl) (rd_int (k := .i64) (t := 3) ru3)
  obtain ⟨a1, e1, o1⟩ := rd_field hx hf (ft := 27) (off := 1) (m := 37) 1 ((Try.prog.fieldsOf 135).toList.getD 1 default) (by kernel_rfl) (by kernel_rfl) (by kernel_rfl) (by kernel_rfl) rd_27
  obtain ⟨a2, e2, o2⟩ := rd_field hx hf (ft := 32) (off := 38) (m := 2) 2 ((Try.prog.fieldsOf 135).toList.getD 2 default) (by kernel_rfl) (by kernel_rfl) (by kernel_rfl) (by kernel_rfl) rd_32
  obtain ⟨p3, l3, c3, e3, o3, o3a, o3b, o3c⟩ := rd_fieldQ hx hf (ft := 102) (off := 40) (m := 1) 3 ((Try.prog.fieldsOf 135).toList.getD 3 default) (by kernel_rfl) (by kernel_rfl) (by kernel_rfl) (by kernel_rfl) rdw_recs
  obtain ⟨a4, e4, o4⟩ := rd_field hx hf (ft := 77) (off := 41) (m := 1) 4 ((Try.prog.fieldsOf 135).toList.getD 4 default) (by kernel_rfl) (by kernel_rfl) (by kernel_rfl) (by kernel_rfl) (rd_int (k := .u32) (t := 77) ru77)
  obtain ⟨a5, e5, o5⟩ := rd_field hx hf (ft := 30) (off := 42) (m := 1) 5 ((Try.prog.fieldsOf 135).toList.getD 5 default) (by kernel_rfl) (by kernel_rfl) (by kernel_rfl) (by kernel_rfl) (rd_int (k := .u64) (t := 30) ru30)
  obtain ⟨a6, e6, o6⟩ := rd_field hx hf (ft := 30) (off := 43) (m := 1) 6 ((Try.prog.fieldsOf 135).toList.getD 6 default) (by kernel_rfl) (by kernel_rfl) (by kernel_rfl) (by kernel_rfl) (rd_int (k := .u64) (t := 30) ru30)
  obtain ⟨a7, e7, o7⟩ := rd_field hx hf (ft := 30) (off := 44) (m := 1) 7 ((Try.prog.fieldsOf 135).toList.getD 7 default) (by kernel_rfl) (by kernel_rfl) (by kernel_rfl) (by kernel_rfl) (rd_int (k := .u64) (t := 30) ru30)
  have hl : cs.length = 45 := hl.trans (by kernel_rfl)
  have hcs := (drop_step e0 (off := 0) (off' := 1) rfl (drop_step e1 (off := 1) (off' := 38) rfl (drop_step e2 (off := 38) (off' := 40) rfl (drop_step e3 (off := 40) (off' := 41) rfl (drop_step e4 (off := 41) (off' := 42) rfl (drop_step e5 (off := 42) (off' := 43) rfl (drop_step e6 (off := 43) (off' := 44) rfl (drop_step e7 (off := 44) (off' := 45) rfl (drop_end hl)))))))))
  rw [List.drop_zero] at hcs
  exact ⟨⟨a0, a1, a2, p3, c3, l3, a4, a5, a6, a7⟩, hcs.trans (by kernel_rfl), ⟨o0, o1, o2, o3, o4, o5, o6, o7, Nat.le_trans o3a o3b, o3c⟩⟩
end Go.Proofs.Ytobmcpoejhhemaa
