import Derived.Test.YtobmcpoejhhemaaVRefB
import Derived.Test.YtobmcpoejhhemaaVEngH
import Derived.Shelf.SlSortCmp.WholeK
import Derived.Test.YtobmcpoejhhemaaProg
import Derived.Lib.BytesEntry
namespace Go.Proofs.Ytobmcpoejhhemaa
open Go.E

theorem qv_bstr {P : Program} {fr : Fr} {M : Mem} {ty s d e : TypeId} {x : Operand} {p : Option Addr} {n c : Nat} {l : List Int} (hs : P.underlying s = some (.slice e)) (he : P.underlying e = some (.int .u8)) (hd : P.underlying d = some .string)
    (hx : evo fr x = some (.slice p n c)) (hn : n = l.length) (h : Lst (eI .u8) p l M) : QV P (.convert s d x) ty fr M (.string (strOfNums l)) := fun o ho _ a w m ds hf hM => ⟨by simp, by
  subst hn
  have hr : (convert s d (.slice p l.length c)).run P w = .ok (.string (strOfNums l)) w := by
    rw [run_convert_bytes_string w s d e p l.length c hs he hd]
    cases p with
    | none =>
      have hl : l = [] := by
        rcases h with h | ⟨b, off, cur, e, fz, h, _⟩
        · exact h
        · cases h
      subst hl
      rfl
    | some ad =>
      have hc : ∀ j v, (l.map (Value.int .u8))[j]? = some v → w.cell? (ad.add j) = some v := fun j v hj => by
        rcases h with rfl | ⟨b, off, cur, e, fz, h, hm, hh⟩
        · simp at hj
        · cases h
          have e1 : (⟨b, off, none⟩ : Addr).add j = ⟨b, off + j, none⟩ := by unfold Addr.add; split <;> simp_all
          rw [e1, cell_of_row w b _ cur _ fz (hM _ hm)]
          rw [List.getElem?_map] at hj
          obtain ⟨x, hx1, rfl⟩ := Option.map_eq_some_iff.1 hj
          have := hh.cell hx1 (k := 0) (by decide)
          simpa [eI] using this
      have hl := run_loadCells_list (P := P) w ad (l.map (Value.int .u8)) hc
      rw [List.length_map] at hl
      rw [run_bytesToString w ad l.length c l hl]
      congr 2
      have hf : ∀ (l : List Int) (b : ByteArray), l.foldl (fun r n => r.push (UInt8.ofNat n.toNat)) b = ⟨b.data ++ (l.map fun n => UInt8.ofNat n.toNat).toArray⟩ := by
        intro l
        induction l with
        | nil => intro b; simp
        | cons x l ih =>
          intro b
          rw [List.foldl_cons, ih]
          apply ByteArray.ext
          simp [ByteArray.push]
      rw [hf]
      apply ByteArray.ext
      show (#[] : Array UInt8) ++ _ = _
      simp [strOfNums]
  simp only [execOp, ho, hf.ev hx, Sem.run_bind, hr, Result.andThen, Sem.run_pure]⟩
end Go.Proofs.Ytobmcpoejhhemaa
