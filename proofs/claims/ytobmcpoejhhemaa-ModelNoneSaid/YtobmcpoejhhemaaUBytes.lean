import Derived.Test.YtobmcpoejhhemaaUKeys
import Derived.Test.YtobmcpoejhhemaaURd
namespace Go.Proofs.Ytobmcpoejhhemaa
open Go.E

/-- A slice of bytes of the call's own. -/
def OwnB (v : Value) (l : List Int) (A : Mem) : Prop := ∃ p cap, v = .slice p l.length cap ∧ OwnL (eI .u8) 5 p cap l A
def adrBytes (a : Adr) : List Int := if a.six then [a.b.x0, a.b.x1, a.b.x2, a.b.x3, a.b.x4, a.b.x5, a.b.x6, a.b.x7, a.b.x8, a.b.x9, a.b.x10, a.b.x11, a.b.x12, a.b.x13, a.b.x14, a.b.x15] else [a.b.x0, a.b.x1, a.b.x2, a.b.x3]
/-- A slice of bytes that is owned and not empty. -/
theorem OwnB.some_ {v : Value} {l : List Int} {A : Mem} (h : OwnB v l A) (hl : 0 < l.length) : ∃ b cap cur, v = .slice (some ⟨b, 0, none⟩) l.length cap ∧ A = [(b, .cells cur 5 (0, 0))] ∧ OwnL (eI .u8) 5 (some ⟨b, 0, none⟩) cap l A ∧ Holds (eI .u8) cur 0 l := by
  obtain ⟨p, cap, rfl, ho⟩ := h
  obtain ⟨b, cur, rfl, rfl, _, _, _, h1⟩ := ho.some_ hl
  exact ⟨b, cap, cur, rfl, rfl, ho, h1⟩
theorem eI_one (k : IntKind) (a : Int) : ∀ u ∈ ((eI k).c a).toList, u.oneCell' = true := fun u hu => by simp [eI] at hu; subst hu; rfl
/-- A writer at bw holds the bytes l. -/
def WriB (bw : Nat) (l : List Int) (W : Mem) : Prop := ∃ p cap A, OwnL (eI .u8) 5 p cap l A ∧ W = (bw, .cells (⟨.slice p l.length cap⟩ : Wri).c 236 (0, 0)) :: A
def tw (v : Int) : Nat → Array Value
  | 0 => #[.int .u8 0, .int .u8 0]
  | 1 => #[.int .u8 0, .int .u8 (v % 256)]
  | _ => #[.int .u8 (v / 256), .int .u8 (v % 256)]
def keyBytes (k : Key) : List Int := if k.right then [if k.src.six then 6 else 4] ++ adrBytes k.src ++ adrBytes k.dst ++ [k.proto] ++ [k.srcPort / 256, k.srcPort % 256] ++ [k.dstPort / 256, k.dstPort % 256] else []
theorem WriB.own {bw : Nat} {l : List Int} {W : Mem} (h : WriB bw l W) (hl : 0 < l.length) : ∃ b cap cur, W = [(bw, .cells (⟨.slice (some ⟨b, 0, none⟩) l.length cap⟩ : Wri).c 236 (0, 0)), (b, .cells cur 5 (0, 0))] ∧ Holds (eI .u8) cur 0 l := by
  obtain ⟨p, cap, A, hA, rfl⟩ := h
  obtain ⟨b, cur, rfl, rfl, _, _, _, h1⟩ := hA.some_ hl
  exact ⟨b, cap, cur, rfl, h1⟩
def hashS (h c : Int) : Int := IntKind.u64.wrap (bits .xor .u64 h c * 1099511628211)
def hashK (k : Key) : Int := (keyBytes k).foldl hashS 14695981039346656037
end Go.Proofs.Ytobmcpoejhhemaa
