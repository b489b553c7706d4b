/-
  No cell of these rows narrows 'for every input' (looked for: loops, veiled, ifaces, maps, wideKeys, modest, calm, conditions, laid).
  DERIVED. THE GIVEN ROWS OF THIS SEAT. 12 by the template 'for every input the law returns true; each argument reads behind the call as it read before'; 0 by the template 'total and deterministic' (their statements: YtobmcpoejhhemaaTotals.lean).
  GIVEN WITH THE SEED: the statements are not yours to turn. If you find one false, say at which input.
  Laid BY PROGRAM, IN A SANDBOX (cutbox-rows.mjs): the forced cells as the released guide's own fill.sh prints them over the translation 097153a1e7c22dae… (all of the seat's roots in one cut). By AI agents, Wed Nov 11 2026. No macro, syntax, notation, axiom, sorry.
-/
import Derived.Test.YtobmcpoejhhemaaChecked
import GoSem.Claim
import GoSem.ClaimJoined
import GoSem.ClaimMapViews
import Derived.JoinedTies
import Derived.KernelRfl
namespace Go.Proofs.Ytobmcpoejhhemaa
/- THE CELL 'sum', in the pinned program and in every row, IS THE sha256 OF THE DUMP (.gsa) THAT YtobmcpoejhhemaaProg.lean LOADS. Nothing in Lean hashes anything: it is a label: what it is worth is what the hold of that sum in a sandbox is worth. -/
noncomputable def Try.pinned : Pinned := { name := "ytobmcpoejhhemaa", sum := "097153a1e7c22dae715fc9ad799d9cd1c6328f654bdf704e9bf4e7c440496be7", checked := Try.checked }
namespace Rows
def none {H : Type} : Left H := { results := [], args := [] }

/-- 'octroilaw22.FlowSums': WHATEVER THE INPUT: true; the input reads as it did. -/
def flowSumsSpec : ChangeSpec := { name := "flowSums", fn := fun _ => fun
  | [d1, d2, d3, d4, d5, d6] => { results := [.lit (.bool true)], args := [d1, d2, d3, d4, d5, d6] }
  | _ => none }
def flowSumsRow : OpenClaim := { program := "ytobmcpoejhhemaa", sum := "097153a1e7c22dae715fc9ad799d9cd1c6328f654bdf704e9bf4e7c440496be7", func := "octroi/octroilaw22.FlowSums", spec := "flowSums", inPlace := ["math/bits.Add64"], plainKeys := false, apart := false }
def FlowSumsSaid : Prop := flowSumsRow.holds Try.pinned (OpenSpec.ofChange flowSumsSpec)

/-- ITS FALSE NEIGHBOUR: 'it returns false'. Refute it at one input. -/
def flowSumsWrong : ChangeSpec := { name := "flowSums", fn := fun _ => fun
  | [d1, d2, d3, d4, d5, d6] => { results := [.lit (.bool false)], args := [d1, d2, d3, d4, d5, d6] }
  | _ => none }
def FlowSumsWrongFalsely : Prop := flowSumsRow.holds Try.pinned (OpenSpec.ofChange flowSumsWrong)

/-- 'octroilaw22.FlowRecords': WHATEVER THE INPUT: true; the input reads as it did. -/
def flowRecordsSpec : ChangeSpec := { name := "flowRecords", fn := fun _ => fun
  | [d1, d2, d3, d4, d5] => { results := [.lit (.bool true)], args := [d1, d2, d3, d4, d5] }
  | _ => none }
def flowRecordsRow : OpenClaim := { program := "ytobmcpoejhhemaa", sum := "097153a1e7c22dae715fc9ad799d9cd1c6328f654bdf704e9bf4e7c440496be7", func := "octroi/octroilaw22.FlowRecords", spec := "flowRecords", inPlace := ["math/bits.Add64"], plainKeys := false, apart := false }
def FlowRecordsSaid : Prop := flowRecordsRow.holds Try.pinned (OpenSpec.ofChange flowRecordsSpec)

/-- ITS FALSE NEIGHBOUR: 'it returns false'. Refute it at one input. -/
def flowRecordsWrong : ChangeSpec := { name := "flowRecords", fn := fun _ => fun
  | [d1, d2, d3, d4, d5] => { results := [.lit (.bool false)], args := [d1, d2, d3, d4, d5] }
  | _ => none }
def FlowRecordsWrongFalsely : Prop := flowRecordsRow.holds Try.pinned (OpenSpec.ofChange flowRecordsWrong)

/-- 'octroilaw22.FlowValues': WHATEVER THE INPUT: true; the input reads as it did. -/
def flowValuesSpec : ChangeSpec := { name := "flowValues", fn := fun _ => fun
  | [d1, d2] => { results := [.lit (.bool true)], args := [d1, d2] }
  | _ => none }
def flowValuesRow : OpenClaim := { program := "ytobmcpoejhhemaa", sum := "097153a1e7c22dae715fc9ad799d9cd1c6328f654bdf704e9bf4e7c440496be7", func := "octroi/octroilaw22.FlowValues", spec := "flowValues", inPlace := ["math/bits.Add64"], plainKeys := false, apart := false }
def FlowValuesSaid : Prop := flowValuesRow.holds Try.pinned (OpenSpec.ofChange flowValuesSpec)

/-- ITS FALSE NEIGHBOUR: 'it returns false'. Refute it at one input. -/
def flowValuesWrong : ChangeSpec := { name := "flowValues", fn := fun _ => fun
  | [d1, d2] => { results := [.lit (.bool false)], args := [d1, d2] }
  | _ => none }
def FlowValuesWrongFalsely : Prop := flowValuesRow.holds Try.pinned (OpenSpec.ofChange flowValuesWrong)

/-- 'octroilaw23.TableKeeps': WHATEVER THE INPUT: true; the input reads as it did. -/
def tableKeepsSpec : ChangeSpec := { name := "tableKeeps", fn := fun _ => fun
  | [d1, d2] => { results := [.lit (.bool true)], args := [d1, d2] }
  | _ => none }
def tableKeepsRow : OpenClaim := { program := "ytobmcpoejhhemaa", sum := "097153a1e7c22dae715fc9ad799d9cd1c6328f654bdf704e9bf4e7c440496be7", func := "octroi/octroilaw23.TableKeeps", spec := "tableKeeps", unfollowed := true, recurses := true, plainKeys := false, apart := false }
def TableKeepsSaid : Prop := tableKeepsRow.holds Try.pinned (OpenSpec.ofChange tableKeepsSpec)

/-- ITS FALSE NEIGHBOUR: 'it returns false'. Refute it at one input. -/
def tableKeepsWrong : ChangeSpec := { name := "tableKeeps", fn := fun _ => fun
  | [d1, d2] => { results := [.lit (.bool false)], args := [d1, d2] }
  | _ => none }
def TableKeepsWrongFalsely : Prop := tableKeepsRow.holds Try.pinned (OpenSpec.ofChange tableKeepsWrong)

/-- 'octroilaw24.CacheNone': WHATEVER THE INPUT: true; the input reads as it did. -/
def cacheNoneSpec : ChangeSpec := { name := "cacheNone", fn := fun _ => fun
  | [d] => { results := [.lit (.bool true)], args := [d] }
  | _ => none }
def cacheNoneRow : OpenClaim := { program := "ytobmcpoejhhemaa", sum := "097153a1e7c22dae715fc9ad799d9cd1c6328f654bdf704e9bf4e7c440496be7", func := "octroi/octroilaw24.CacheNone", spec := "cacheNone", inPlace := ["math/bits.Add64", "internal/bytealg.Compare"], unfollowed := true, recurses := true, plainKeys := false, apart := false }
def CacheNoneSaid : Prop := cacheNoneRow.holds Try.pinned (OpenSpec.ofChange cacheNoneSpec)

/-- ITS FALSE NEIGHBOUR: 'it returns false'. Refute it at one input. -/
def cacheNoneWrong : ChangeSpec := { name := "cacheNone", fn := fun _ => fun
  | [d] => { results := [.lit (.bool false)], args := [d] }
  | _ => none }
def CacheNoneWrongFalsely : Prop := cacheNoneRow.holds Try.pinned (OpenSpec.ofChange cacheNoneWrong)

/-- 'octroilaw23.TablePlays': WHATEVER THE INPUT: true; the input reads as it did. -/
def tablePlaysSpec : ChangeSpec := { name := "tablePlays", fn := fun _ => fun
  | [d1, d2] => { results := [.lit (.bool true)], args := [d1, d2] }
  | _ => none }
def tablePlaysRow : OpenClaim := { program := "ytobmcpoejhhemaa", sum := "097153a1e7c22dae715fc9ad799d9cd1c6328f654bdf704e9bf4e7c440496be7", func := "octroi/octroilaw23.TablePlays", spec := "tablePlays", inPlace := ["internal/bytealg.Compare"], unfollowed := true, recurses := true, plainKeys := false, apart := false }
def TablePlaysSaid : Prop := tablePlaysRow.holds Try.pinned (OpenSpec.ofChange tablePlaysSpec)

/-- ITS FALSE NEIGHBOUR: 'it returns false'. Refute it at one input. -/
def tablePlaysWrong : ChangeSpec := { name := "tablePlays", fn := fun _ => fun
  | [d1, d2] => { results := [.lit (.bool false)], args := [d1, d2] }
  | _ => none }
def TablePlaysWrongFalsely : Prop := tablePlaysRow.holds Try.pinned (OpenSpec.ofChange tablePlaysWrong)

/-- 'octroilaw23.TableNone': WHATEVER THE INPUT: true; the input reads as it did. -/
def tableNoneSpec : ChangeSpec := { name := "tableNone", fn := fun _ => fun
  | [d1, d2] => { results := [.lit (.bool true)], args := [d1, d2] }
  | _ => none }
def tableNoneRow : OpenClaim := { program := "ytobmcpoejhhemaa", sum := "097153a1e7c22dae715fc9ad799d9cd1c6328f654bdf704e9bf4e7c440496be7", func := "octroi/octroilaw23.TableNone", spec := "tableNone", inPlace := ["internal/bytealg.Compare"], unfollowed := true, recurses := true, plainKeys := false, apart := false }
def TableNoneSaid : Prop := tableNoneRow.holds Try.pinned (OpenSpec.ofChange tableNoneSpec)

/-- ITS FALSE NEIGHBOUR: 'it returns false'. Refute it at one input. -/
def tableNoneWrong : ChangeSpec := { name := "tableNone", fn := fun _ => fun
  | [d1, d2] => { results := [.lit (.bool false)], args := [d1, d2] }
  | _ => none }
def TableNoneWrongFalsely : Prop := tableNoneRow.holds Try.pinned (OpenSpec.ofChange tableNoneWrong)

/-- 'octroilaw23.TableKnown': WHATEVER THE INPUT: true; the input reads as it did. -/
def tableKnownSpec : ChangeSpec := { name := "tableKnown", fn := fun _ => fun
  | [] => { results := [.lit (.bool true)], args := [] }
  | _ => none }
def tableKnownRow : OpenClaim := { program := "ytobmcpoejhhemaa", sum := "097153a1e7c22dae715fc9ad799d9cd1c6328f654bdf704e9bf4e7c440496be7", func := "octroi/octroilaw23.TableKnown", spec := "tableKnown", inPlace := ["internal/bytealg.Compare"], unfollowed := true, recurses := true, plainKeys := false, apart := false }
def TableKnownSaid : Prop := tableKnownRow.holds Try.pinned (OpenSpec.ofChange tableKnownSpec)

/-- ITS FALSE NEIGHBOUR: 'it returns false'. Refute it at one input. -/
def tableKnownWrong : ChangeSpec := { name := "tableKnown", fn := fun _ => fun
  | [] => { results := [.lit (.bool false)], args := [] }
  | _ => none }
def TableKnownWrongFalsely : Prop := tableKnownRow.holds Try.pinned (OpenSpec.ofChange tableKnownWrong)

/-- 'octroilaw30.ModelOnce': WHATEVER THE INPUT: true; the input reads as it did. -/
def modelOnceSpec : ChangeSpec := { name := "modelOnce", fn := fun _ => fun
  | [d] => { results := [.lit (.bool true)], args := [d] }
  | _ => none }
def modelOnceRow : OpenClaim := { program := "ytobmcpoejhhemaa", sum := "097153a1e7c22dae715fc9ad799d9cd1c6328f654bdf704e9bf4e7c440496be7", func := "octroi/octroilaw30.ModelOnce", spec := "modelOnce", inPlace := ["math/bits.Add64", "maps.clone", "internal/bytealg.Compare"], unfollowed := true, recurses := true, plainKeys := false, apart := false }
def ModelOnceSaid : Prop := modelOnceRow.holds Try.pinned (OpenSpec.ofChange modelOnceSpec)

/-- ITS FALSE NEIGHBOUR: 'it returns false'. Refute it at one input. -/
def modelOnceWrong : ChangeSpec := { name := "modelOnce", fn := fun _ => fun
  | [d] => { results := [.lit (.bool false)], args := [d] }
  | _ => none }
def ModelOnceWrongFalsely : Prop := modelOnceRow.holds Try.pinned (OpenSpec.ofChange modelOnceWrong)

/-- 'octroilaw30.ModelNone': WHATEVER THE INPUT: true; the input reads as it did. -/
def modelNoneSpec : ChangeSpec := { name := "modelNone", fn := fun _ => fun
  | [d] => { results := [.lit (.bool true)], args := [d] }
  | _ => none }
def modelNoneRow : OpenClaim := { program := "ytobmcpoejhhemaa", sum := "097153a1e7c22dae715fc9ad799d9cd1c6328f654bdf704e9bf4e7c440496be7", func := "octroi/octroilaw30.ModelNone", spec := "modelNone", inPlace := ["math/bits.Add64", "maps.clone", "internal/bytealg.Compare"], unfollowed := true, recurses := true, plainKeys := false, apart := false }
def ModelNoneSaid : Prop := modelNoneRow.holds Try.pinned (OpenSpec.ofChange modelNoneSpec)

/-- ITS FALSE NEIGHBOUR: 'it returns false'. Refute it at one input. -/
def modelNoneWrong : ChangeSpec := { name := "modelNone", fn := fun _ => fun
  | [d] => { results := [.lit (.bool false)], args := [d] }
  | _ => none }
def ModelNoneWrongFalsely : Prop := modelNoneRow.holds Try.pinned (OpenSpec.ofChange modelNoneWrong)

/-- 'octroilaw24.CacheTicks': WHATEVER THE INPUT: true; the input reads as it did. -/
def cacheTicksSpec : ChangeSpec := { name := "cacheTicks", fn := fun _ => fun
  | [d1, d2, d3] => { results := [.lit (.bool true)], args := [d1, d2, d3] }
  | _ => none }
def cacheTicksRow : OpenClaim := { program := "ytobmcpoejhhemaa", sum := "097153a1e7c22dae715fc9ad799d9cd1c6328f654bdf704e9bf4e7c440496be7", func := "octroi/octroilaw24.CacheTicks", spec := "cacheTicks", inPlace := ["math/bits.Add64", "internal/bytealg.Compare"], unfollowed := true, recurses := true, plainKeys := false, apart := false }
def CacheTicksSaid : Prop := cacheTicksRow.holds Try.pinned (OpenSpec.ofChange cacheTicksSpec)

/-- ITS FALSE NEIGHBOUR: 'it returns false'. Refute it at one input. -/
def cacheTicksWrong : ChangeSpec := { name := "cacheTicks", fn := fun _ => fun
  | [d1, d2, d3] => { results := [.lit (.bool false)], args := [d1, d2, d3] }
  | _ => none }
def CacheTicksWrongFalsely : Prop := cacheTicksRow.holds Try.pinned (OpenSpec.ofChange cacheTicksWrong)

/-- 'octroilaw24.CacheKeeps': WHATEVER THE INPUT: true; the input reads as it did. -/
def cacheKeepsSpec : ChangeSpec := { name := "cacheKeeps", fn := fun _ => fun
  | [d1, d2] => { results := [.lit (.bool true)], args := [d1, d2] }
  | _ => none }
def cacheKeepsRow : OpenClaim := { program := "ytobmcpoejhhemaa", sum := "097153a1e7c22dae715fc9ad799d9cd1c6328f654bdf704e9bf4e7c440496be7", func := "octroi/octroilaw24.CacheKeeps", spec := "cacheKeeps", inPlace := ["math/bits.Add64", "internal/bytealg.Compare"], unfollowed := true, recurses := true, plainKeys := false, apart := false }
def CacheKeepsSaid : Prop := cacheKeepsRow.holds Try.pinned (OpenSpec.ofChange cacheKeepsSpec)

/-- ITS FALSE NEIGHBOUR: 'it returns false'. Refute it at one input. -/
def cacheKeepsWrong : ChangeSpec := { name := "cacheKeeps", fn := fun _ => fun
  | [d1, d2] => { results := [.lit (.bool false)], args := [d1, d2] }
  | _ => none }
def CacheKeepsWrongFalsely : Prop := cacheKeepsRow.holds Try.pinned (OpenSpec.ofChange cacheKeepsWrong)

/- THE SECOND FORM. 'bulk': how many values and letters a reading holds, each counted each time it is reached (what is shared counts as often as it is met; a slice's spare places count too). A statement '..UptoSaid' is the law's where the arguments, and the package variables that the reading takes, are together of bulk at most 1048576: NARROWER than '..Said'. Prove '..Said' where nothing that the law and all that it calls make is longer than what came in: it says more and counts as full. Else prove '..UptoSaid'. A law counts once. -/
mutual
def uptoBulk {H : Type} : DataW H → Nat
  | .lit (.string bytes) => bytes.length + 1
  | .lit _ => 1
  | .nil => 1
  | .ptr d => uptoBulk d + 1
  | .slice elems spare => uptoBulkAll elems + uptoBulkAll spare + 1
  | .agg parts => uptoBulkAll parts + 1
  | .iface _ d => uptoBulk d + 1
  | .map entries => uptoBulkEntries entries + 1
  | .held _ => 1
def uptoBulkAll {H : Type} : List (DataW H) → Nat
  | [] => 0
  | d :: r => uptoBulk d + uptoBulkAll r
def uptoBulkEntries {H : Type} : List (Lit × DataW H) → Nat
  | [] => 0
  | x :: r => uptoBulkEntry x + uptoBulkEntries r
def uptoBulkEntry {H : Type} : Lit × DataW H → Nat
  | (.string bytes, d) => bytes.length + uptoBulk d + 1
  | (_, d) => uptoBulk d + 1
 end
def uptoSmall : (H : Type) → List (DataW H) → Bool := fun _ ds => decide (uptoBulkAll ds ≤ 1048576)
def OpenSpec.upto (s : _root_.Go.ChangeSpec) : _root_.Go.OpenSpec := { _root_.Go.OpenSpec.ofChange s with cond := some uptoSmall }

/-- 'octroilaw22.FlowSums', WHERE WHAT IT READS IS OF BULK AT MOST 1048576: true; the input reads as it did. -/
def flowSumsUptoRow : OpenClaim := { program := "ytobmcpoejhhemaa", sum := "097153a1e7c22dae715fc9ad799d9cd1c6328f654bdf704e9bf4e7c440496be7", func := "octroi/octroilaw22.FlowSums", spec := "flowSums", inPlace := ["math/bits.Add64"], plainKeys := false, apart := false, narrowed := true }
def FlowSumsUptoSaid : Prop := flowSumsUptoRow.holds Try.pinned (OpenSpec.upto flowSumsSpec)

/-- 'octroilaw22.FlowRecords', WHERE WHAT IT READS IS OF BULK AT MOST 1048576: true; the input reads as it did. -/
def flowRecordsUptoRow : OpenClaim := { program := "ytobmcpoejhhemaa", sum := "097153a1e7c22dae715fc9ad799d9cd1c6328f654bdf704e9bf4e7c440496be7", func := "octroi/octroilaw22.FlowRecords", spec := "flowRecords", inPlace := ["math/bits.Add64"], plainKeys := false, apart := false, narrowed := true }
def FlowRecordsUptoSaid : Prop := flowRecordsUptoRow.holds Try.pinned (OpenSpec.upto flowRecordsSpec)

/-- 'octroilaw22.FlowValues', WHERE WHAT IT READS IS OF BULK AT MOST 1048576: true; the input reads as it did. -/
def flowValuesUptoRow : OpenClaim := { program := "ytobmcpoejhhemaa", sum := "097153a1e7c22dae715fc9ad799d9cd1c6328f654bdf704e9bf4e7c440496be7", func := "octroi/octroilaw22.FlowValues", spec := "flowValues", inPlace := ["math/bits.Add64"], plainKeys := false, apart := false, narrowed := true }
def FlowValuesUptoSaid : Prop := flowValuesUptoRow.holds Try.pinned (OpenSpec.upto flowValuesSpec)

/-- 'octroilaw23.TableKeeps', WHERE WHAT IT READS IS OF BULK AT MOST 1048576: true; the input reads as it did. -/
def tableKeepsUptoRow : OpenClaim := { program := "ytobmcpoejhhemaa", sum := "097153a1e7c22dae715fc9ad799d9cd1c6328f654bdf704e9bf4e7c440496be7", func := "octroi/octroilaw23.TableKeeps", spec := "tableKeeps", unfollowed := true, recurses := true, plainKeys := false, apart := false, narrowed := true }
def TableKeepsUptoSaid : Prop := tableKeepsUptoRow.holds Try.pinned (OpenSpec.upto tableKeepsSpec)

/-- 'octroilaw24.CacheNone', WHERE WHAT IT READS IS OF BULK AT MOST 1048576: true; the input reads as it did. -/
def cacheNoneUptoRow : OpenClaim := { program := "ytobmcpoejhhemaa", sum := "097153a1e7c22dae715fc9ad799d9cd1c6328f654bdf704e9bf4e7c440496be7", func := "octroi/octroilaw24.CacheNone", spec := "cacheNone", inPlace := ["math/bits.Add64", "internal/bytealg.Compare"], unfollowed := true, recurses := true, plainKeys := false, apart := false, narrowed := true }
def CacheNoneUptoSaid : Prop := cacheNoneUptoRow.holds Try.pinned (OpenSpec.upto cacheNoneSpec)

/-- 'octroilaw23.TablePlays', WHERE WHAT IT READS IS OF BULK AT MOST 1048576: true; the input reads as it did. -/
def tablePlaysUptoRow : OpenClaim := { program := "ytobmcpoejhhemaa", sum := "097153a1e7c22dae715fc9ad799d9cd1c6328f654bdf704e9bf4e7c440496be7", func := "octroi/octroilaw23.TablePlays", spec := "tablePlays", inPlace := ["internal/bytealg.Compare"], unfollowed := true, recurses := true, plainKeys := false, apart := false, narrowed := true }
def TablePlaysUptoSaid : Prop := tablePlaysUptoRow.holds Try.pinned (OpenSpec.upto tablePlaysSpec)

/-- 'octroilaw23.TableNone', WHERE WHAT IT READS IS OF BULK AT MOST 1048576: true; the input reads as it did. -/
def tableNoneUptoRow : OpenClaim := { program := "ytobmcpoejhhemaa", sum := "097153a1e7c22dae715fc9ad799d9cd1c6328f654bdf704e9bf4e7c440496be7", func := "octroi/octroilaw23.TableNone", spec := "tableNone", inPlace := ["internal/bytealg.Compare"], unfollowed := true, recurses := true, plainKeys := false, apart := false, narrowed := true }
def TableNoneUptoSaid : Prop := tableNoneUptoRow.holds Try.pinned (OpenSpec.upto tableNoneSpec)

/-- 'octroilaw23.TableKnown', WHERE WHAT IT READS IS OF BULK AT MOST 1048576: true; the input reads as it did. -/
def tableKnownUptoRow : OpenClaim := { program := "ytobmcpoejhhemaa", sum := "097153a1e7c22dae715fc9ad799d9cd1c6328f654bdf704e9bf4e7c440496be7", func := "octroi/octroilaw23.TableKnown", spec := "tableKnown", inPlace := ["internal/bytealg.Compare"], unfollowed := true, recurses := true, plainKeys := false, apart := false, narrowed := true }
def TableKnownUptoSaid : Prop := tableKnownUptoRow.holds Try.pinned (OpenSpec.upto tableKnownSpec)

/-- 'octroilaw30.ModelOnce', WHERE WHAT IT READS IS OF BULK AT MOST 1048576: true; the input reads as it did. -/
def modelOnceUptoRow : OpenClaim := { program := "ytobmcpoejhhemaa", sum := "097153a1e7c22dae715fc9ad799d9cd1c6328f654bdf704e9bf4e7c440496be7", func := "octroi/octroilaw30.ModelOnce", spec := "modelOnce", inPlace := ["math/bits.Add64", "maps.clone", "internal/bytealg.Compare"], unfollowed := true, recurses := true, plainKeys := false, apart := false, narrowed := true }
def ModelOnceUptoSaid : Prop := modelOnceUptoRow.holds Try.pinned (OpenSpec.upto modelOnceSpec)

/-- 'octroilaw30.ModelNone', WHERE WHAT IT READS IS OF BULK AT MOST 1048576: true; the input reads as it did. -/
def modelNoneUptoRow : OpenClaim := { program := "ytobmcpoejhhemaa", sum := "097153a1e7c22dae715fc9ad799d9cd1c6328f654bdf704e9bf4e7c440496be7", func := "octroi/octroilaw30.ModelNone", spec := "modelNone", inPlace := ["math/bits.Add64", "maps.clone", "internal/bytealg.Compare"], unfollowed := true, recurses := true, plainKeys := false, apart := false, narrowed := true }
def ModelNoneUptoSaid : Prop := modelNoneUptoRow.holds Try.pinned (OpenSpec.upto modelNoneSpec)

/-- 'octroilaw24.CacheTicks', WHERE WHAT IT READS IS OF BULK AT MOST 1048576: true; the input reads as it did. -/
def cacheTicksUptoRow : OpenClaim := { program := "ytobmcpoejhhemaa", sum := "097153a1e7c22dae715fc9ad799d9cd1c6328f654bdf704e9bf4e7c440496be7", func := "octroi/octroilaw24.CacheTicks", spec := "cacheTicks", inPlace := ["math/bits.Add64", "internal/bytealg.Compare"], unfollowed := true, recurses := true, plainKeys := false, apart := false, narrowed := true }
def CacheTicksUptoSaid : Prop := cacheTicksUptoRow.holds Try.pinned (OpenSpec.upto cacheTicksSpec)

/-- 'octroilaw24.CacheKeeps', WHERE WHAT IT READS IS OF BULK AT MOST 1048576: true; the input reads as it did. -/
def cacheKeepsUptoRow : OpenClaim := { program := "ytobmcpoejhhemaa", sum := "097153a1e7c22dae715fc9ad799d9cd1c6328f654bdf704e9bf4e7c440496be7", func := "octroi/octroilaw24.CacheKeeps", spec := "cacheKeeps", inPlace := ["math/bits.Add64", "internal/bytealg.Compare"], unfollowed := true, recurses := true, plainKeys := false, apart := false, narrowed := true }
def CacheKeepsUptoSaid : Prop := cacheKeepsUptoRow.holds Try.pinned (OpenSpec.upto cacheKeepsSpec)

end Rows
end Go.Proofs.Ytobmcpoejhhemaa
