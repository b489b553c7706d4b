import Derived.Test.YtobmcpoejhhemaaOCmpW
import Derived.Test.YtobmcpoejhhemaaOTabD
namespace Go.Proofs.Ytobmcpoejhhemaa
open Go.E

theorem ct_SortKeys {b cap : Nat} {cur : Array Value} {e : TypeId} {l : List Key} (hw : ∀ k ∈ l, k.Wf) (hl : Holds eKey cur 0 l) (hm : l.length ≤ 1000000) :
    Ct Try.prog 120 [.slice (some ⟨b, 0, none⟩) l.length cap, .func (.func 121) #[] #[]].toArray [(b, .cells cur e (0, 0))]
      (fun v M' => v = .tuple #[] ∧ ∃ l' cur', l'.Perm l ∧ l'.Pairwise (fun x y => ¬ ltK y x) ∧ Holds eKey cur' 0 l' ∧ cur'.size = cur.size ∧ M' = [(b, .cells cur' e (0, 0))]) :=
  ct_sortP (E := eKey) (W := Key.Wf) laySortKey (by decide) ⟨zeroS.key, zeroS_wf⟩ Try.isAgg27 Try.sizeOf27 one_Key cmpK (swo_cb fun x : {a : Key // a.Wf} => kb x.1) (cb := []) (A := []) en121 (fun x y hx hy => pu_Cmp x y hx hy) hw hl (by omega)
end Go.Proofs.Ytobmcpoejhhemaa
