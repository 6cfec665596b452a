/-
  No cell of these rows narrows 'for every input' (looked for: loops, veiled, ifaces, maps, wideKeys, modest, calm, conditions, laid).
  DERIVED. THE GIVEN ROWS OF THIS SEAT. 12 by the template 'for every input the law returns true; each argument reads behind the call as it read before'; 0 by the template 'total and deterministic' (their statements: YtaacknjgfipejaaTotals.lean).
  GIVEN WITH THE SEED: the statements are not yours to turn. If you find one false, say at which input.
  Laid BY PROGRAM, IN A SANDBOX (cutbox-rows.mjs): the forced cells as the released guide's own fill.sh prints them over the translation 0c9ae98d762ef0e9… (all of the seat's roots in one cut). By AI agents, Wed Nov 11 2026. No macro, syntax, notation, axiom, sorry.
-/
import Derived.Test.YtaacknjgfipejaaChecked
import GoSem.Claim
import GoSem.ClaimJoined
import GoSem.ClaimMapViews
import Derived.JoinedTies
import Derived.KernelRfl
namespace Go.Proofs.Ytaacknjgfipejaa
/- THE CELL 'sum', in the pinned program and in every row, IS THE sha256 OF THE DUMP (.gsa) THAT YtaacknjgfipejaaProg.lean LOADS. Nothing in Lean hashes anything: it is a label: what it is worth is what the hold of that sum in a sandbox is worth. -/
noncomputable def Try.pinned : Pinned := { name := "ytaacknjgfipejaa", sum := "0c9ae98d762ef0e914946da946d75dd805b865c58943eab9961e18ad488566ad", checked := Try.checked }
namespace Rows
def none {H : Type} : Left H := { results := [], args := [] }

/-- 'laws.FnExactConstants': WHATEVER THE INPUT: true; the input reads as it did. -/
def fnExactConstantsSpec : ChangeSpec := { name := "fnExactConstants", fn := fun _ => fun
  | [] => { results := [.lit (.bool true)], args := [] }
  | _ => none }
def fnExactConstantsRow : OpenClaim := { program := "ytaacknjgfipejaa", sum := "0c9ae98d762ef0e914946da946d75dd805b865c58943eab9961e18ad488566ad", func := "loop.example/fretwork/laws.FnExactConstants", spec := "fnExactConstants", apart := false }
def FnExactConstantsSaid : Prop := fnExactConstantsRow.holds Try.pinned (OpenSpec.ofChange fnExactConstantsSpec)

/-- ITS FALSE NEIGHBOUR: 'it returns false'. Refute it at one input. -/
def fnExactConstantsWrong : ChangeSpec := { name := "fnExactConstants", fn := fun _ => fun
  | [] => { results := [.lit (.bool false)], args := [] }
  | _ => none }
def FnExactConstantsWrongFalsely : Prop := fnExactConstantsRow.holds Try.pinned (OpenSpec.ofChange fnExactConstantsWrong)

/-- 'laws.FnExactVocOk': WHATEVER THE INPUT: true; the input reads as it did. -/
def fnExactVocOkSpec : ChangeSpec := { name := "fnExactVocOk", fn := fun _ => fun
  | [d] => { results := [.lit (.bool true)], args := [d] }
  | _ => none }
def fnExactVocOkRow : OpenClaim := { program := "ytaacknjgfipejaa", sum := "0c9ae98d762ef0e914946da946d75dd805b865c58943eab9961e18ad488566ad", func := "loop.example/fretwork/laws.FnExactVocOk", spec := "fnExactVocOk", apart := false }
def FnExactVocOkSaid : Prop := fnExactVocOkRow.holds Try.pinned (OpenSpec.ofChange fnExactVocOkSpec)

/-- ITS FALSE NEIGHBOUR: 'it returns false'. Refute it at one input. -/
def fnExactVocOkWrong : ChangeSpec := { name := "fnExactVocOk", fn := fun _ => fun
  | [d] => { results := [.lit (.bool false)], args := [d] }
  | _ => none }
def FnExactVocOkWrongFalsely : Prop := fnExactVocOkRow.holds Try.pinned (OpenSpec.ofChange fnExactVocOkWrong)

/-- 'laws.FnExactVocText': WHATEVER THE INPUT: true; the input reads as it did. -/
def fnExactVocTextSpec : ChangeSpec := { name := "fnExactVocText", fn := fun _ => fun
  | [d1, d2] => { results := [.lit (.bool true)], args := [d1, d2] }
  | _ => none }
def fnExactVocTextRow : OpenClaim := { program := "ytaacknjgfipejaa", sum := "0c9ae98d762ef0e914946da946d75dd805b865c58943eab9961e18ad488566ad", func := "loop.example/fretwork/laws.FnExactVocText", spec := "fnExactVocText", apart := false }
def FnExactVocTextSaid : Prop := fnExactVocTextRow.holds Try.pinned (OpenSpec.ofChange fnExactVocTextSpec)

/-- ITS FALSE NEIGHBOUR: 'it returns false'. Refute it at one input. -/
def fnExactVocTextWrong : ChangeSpec := { name := "fnExactVocText", fn := fun _ => fun
  | [d1, d2] => { results := [.lit (.bool false)], args := [d1, d2] }
  | _ => none }
def FnExactVocTextWrongFalsely : Prop := fnExactVocTextRow.holds Try.pinned (OpenSpec.ofChange fnExactVocTextWrong)

/-- 'laws.FnVocEnd': WHATEVER THE INPUT: true; the input reads as it did. -/
def fnVocEndSpec : ChangeSpec := { name := "fnVocEnd", fn := fun _ => fun
  | [d] => { results := [.lit (.bool true)], args := [d] }
  | _ => none }
def fnVocEndRow : OpenClaim := { program := "ytaacknjgfipejaa", sum := "0c9ae98d762ef0e914946da946d75dd805b865c58943eab9961e18ad488566ad", func := "loop.example/fretwork/laws.FnVocEnd", spec := "fnVocEnd", apart := false }
def FnVocEndSaid : Prop := fnVocEndRow.holds Try.pinned (OpenSpec.ofChange fnVocEndSpec)

/-- ITS FALSE NEIGHBOUR: 'it returns false'. Refute it at one input. -/
def fnVocEndWrong : ChangeSpec := { name := "fnVocEnd", fn := fun _ => fun
  | [d] => { results := [.lit (.bool false)], args := [d] }
  | _ => none }
def FnVocEndWrongFalsely : Prop := fnVocEndRow.holds Try.pinned (OpenSpec.ofChange fnVocEndWrong)

/-- 'laws.FnVocPlace': WHATEVER THE INPUT: true; the input reads as it did. -/
def fnVocPlaceSpec : ChangeSpec := { name := "fnVocPlace", fn := fun _ => fun
  | [d1, d2] => { results := [.lit (.bool true)], args := [d1, d2] }
  | _ => none }
def fnVocPlaceRow : OpenClaim := { program := "ytaacknjgfipejaa", sum := "0c9ae98d762ef0e914946da946d75dd805b865c58943eab9961e18ad488566ad", func := "loop.example/fretwork/laws.FnVocPlace", spec := "fnVocPlace", apart := false }
def FnVocPlaceSaid : Prop := fnVocPlaceRow.holds Try.pinned (OpenSpec.ofChange fnVocPlaceSpec)

/-- ITS FALSE NEIGHBOUR: 'it returns false'. Refute it at one input. -/
def fnVocPlaceWrong : ChangeSpec := { name := "fnVocPlace", fn := fun _ => fun
  | [d1, d2] => { results := [.lit (.bool false)], args := [d1, d2] }
  | _ => none }
def FnVocPlaceWrongFalsely : Prop := fnVocPlaceRow.holds Try.pinned (OpenSpec.ofChange fnVocPlaceWrong)

/-- 'laws.FnVocText': WHATEVER THE INPUT: true; the input reads as it did. -/
def fnVocTextSpec : ChangeSpec := { name := "fnVocText", fn := fun _ => fun
  | [d1, d2] => { results := [.lit (.bool true)], args := [d1, d2] }
  | _ => none }
def fnVocTextRow : OpenClaim := { program := "ytaacknjgfipejaa", sum := "0c9ae98d762ef0e914946da946d75dd805b865c58943eab9961e18ad488566ad", func := "loop.example/fretwork/laws.FnVocText", spec := "fnVocText", apart := false }
def FnVocTextSaid : Prop := fnVocTextRow.holds Try.pinned (OpenSpec.ofChange fnVocTextSpec)

/-- ITS FALSE NEIGHBOUR: 'it returns false'. Refute it at one input. -/
def fnVocTextWrong : ChangeSpec := { name := "fnVocText", fn := fun _ => fun
  | [d1, d2] => { results := [.lit (.bool false)], args := [d1, d2] }
  | _ => none }
def FnVocTextWrongFalsely : Prop := fnVocTextRow.holds Try.pinned (OpenSpec.ofChange fnVocTextWrong)

/-- 'laws.FnExactTrieFind': WHATEVER THE INPUT: true; the input reads as it did. -/
def fnExactTrieFindSpec : ChangeSpec := { name := "fnExactTrieFind", fn := fun _ => fun
  | [d1, d2] => { results := [.lit (.bool true)], args := [d1, d2] }
  | _ => none }
def fnExactTrieFindRow : OpenClaim := { program := "ytaacknjgfipejaa", sum := "0c9ae98d762ef0e914946da946d75dd805b865c58943eab9961e18ad488566ad", func := "loop.example/fretwork/laws.FnExactTrieFind", spec := "fnExactTrieFind", apart := false }
def FnExactTrieFindSaid : Prop := fnExactTrieFindRow.holds Try.pinned (OpenSpec.ofChange fnExactTrieFindSpec)

/-- ITS FALSE NEIGHBOUR: 'it returns false'. Refute it at one input. -/
def fnExactTrieFindWrong : ChangeSpec := { name := "fnExactTrieFind", fn := fun _ => fun
  | [d1, d2] => { results := [.lit (.bool false)], args := [d1, d2] }
  | _ => none }
def FnExactTrieFindWrongFalsely : Prop := fnExactTrieFindRow.holds Try.pinned (OpenSpec.ofChange fnExactTrieFindWrong)

/-- 'laws.FnVocFirst': WHATEVER THE INPUT: true; the input reads as it did. -/
def fnVocFirstSpec : ChangeSpec := { name := "fnVocFirst", fn := fun _ => fun
  | [d] => { results := [.lit (.bool true)], args := [d] }
  | _ => none }
def fnVocFirstRow : OpenClaim := { program := "ytaacknjgfipejaa", sum := "0c9ae98d762ef0e914946da946d75dd805b865c58943eab9961e18ad488566ad", func := "loop.example/fretwork/laws.FnVocFirst", spec := "fnVocFirst", apart := false }
def FnVocFirstSaid : Prop := fnVocFirstRow.holds Try.pinned (OpenSpec.ofChange fnVocFirstSpec)

/-- ITS FALSE NEIGHBOUR: 'it returns false'. Refute it at one input. -/
def fnVocFirstWrong : ChangeSpec := { name := "fnVocFirst", fn := fun _ => fun
  | [d] => { results := [.lit (.bool false)], args := [d] }
  | _ => none }
def FnVocFirstWrongFalsely : Prop := fnVocFirstRow.holds Try.pinned (OpenSpec.ofChange fnVocFirstWrong)

/-- 'laws.FnVocSingle': WHATEVER THE INPUT: true; the input reads as it did. -/
def fnVocSingleSpec : ChangeSpec := { name := "fnVocSingle", fn := fun _ => fun
  | [d] => { results := [.lit (.bool true)], args := [d] }
  | _ => none }
def fnVocSingleRow : OpenClaim := { program := "ytaacknjgfipejaa", sum := "0c9ae98d762ef0e914946da946d75dd805b865c58943eab9961e18ad488566ad", func := "loop.example/fretwork/laws.FnVocSingle", spec := "fnVocSingle", apart := false }
def FnVocSingleSaid : Prop := fnVocSingleRow.holds Try.pinned (OpenSpec.ofChange fnVocSingleSpec)

/-- ITS FALSE NEIGHBOUR: 'it returns false'. Refute it at one input. -/
def fnVocSingleWrong : ChangeSpec := { name := "fnVocSingle", fn := fun _ => fun
  | [d] => { results := [.lit (.bool false)], args := [d] }
  | _ => none }
def FnVocSingleWrongFalsely : Prop := fnVocSingleRow.holds Try.pinned (OpenSpec.ofChange fnVocSingleWrong)

/-- 'laws.FnExactCfgOk': WHATEVER THE INPUT: true; the input reads as it did. -/
def fnExactCfgOkSpec : ChangeSpec := { name := "fnExactCfgOk", fn := fun _ => fun
  | [d] => { results := [.lit (.bool true)], args := [d] }
  | _ => none }
def fnExactCfgOkRow : OpenClaim := { program := "ytaacknjgfipejaa", sum := "0c9ae98d762ef0e914946da946d75dd805b865c58943eab9961e18ad488566ad", func := "loop.example/fretwork/laws.FnExactCfgOk", spec := "fnExactCfgOk", apart := false }
def FnExactCfgOkSaid : Prop := fnExactCfgOkRow.holds Try.pinned (OpenSpec.ofChange fnExactCfgOkSpec)

/-- ITS FALSE NEIGHBOUR: 'it returns false'. Refute it at one input. -/
def fnExactCfgOkWrong : ChangeSpec := { name := "fnExactCfgOk", fn := fun _ => fun
  | [d] => { results := [.lit (.bool false)], args := [d] }
  | _ => none }
def FnExactCfgOkWrongFalsely : Prop := fnExactCfgOkRow.holds Try.pinned (OpenSpec.ofChange fnExactCfgOkWrong)

/-- 'laws.FnExactVocLong': WHATEVER THE INPUT: true; the input reads as it did. -/
def fnExactVocLongSpec : ChangeSpec := { name := "fnExactVocLong", fn := fun _ => fun
  | [d1, d2] => { results := [.lit (.bool true)], args := [d1, d2] }
  | _ => none }
def fnExactVocLongRow : OpenClaim := { program := "ytaacknjgfipejaa", sum := "0c9ae98d762ef0e914946da946d75dd805b865c58943eab9961e18ad488566ad", func := "loop.example/fretwork/laws.FnExactVocLong", spec := "fnExactVocLong", apart := false }
def FnExactVocLongSaid : Prop := fnExactVocLongRow.holds Try.pinned (OpenSpec.ofChange fnExactVocLongSpec)

/-- ITS FALSE NEIGHBOUR: 'it returns false'. Refute it at one input. -/
def fnExactVocLongWrong : ChangeSpec := { name := "fnExactVocLong", fn := fun _ => fun
  | [d1, d2] => { results := [.lit (.bool false)], args := [d1, d2] }
  | _ => none }
def FnExactVocLongWrongFalsely : Prop := fnExactVocLongRow.holds Try.pinned (OpenSpec.ofChange fnExactVocLongWrong)

/-- 'laws.FnVocLong': WHATEVER THE INPUT: true; the input reads as it did. -/
def fnVocLongSpec : ChangeSpec := { name := "fnVocLong", fn := fun _ => fun
  | [d] => { results := [.lit (.bool true)], args := [d] }
  | _ => none }
def fnVocLongRow : OpenClaim := { program := "ytaacknjgfipejaa", sum := "0c9ae98d762ef0e914946da946d75dd805b865c58943eab9961e18ad488566ad", func := "loop.example/fretwork/laws.FnVocLong", spec := "fnVocLong", apart := false }
def FnVocLongSaid : Prop := fnVocLongRow.holds Try.pinned (OpenSpec.ofChange fnVocLongSpec)

/-- ITS FALSE NEIGHBOUR: 'it returns false'. Refute it at one input. -/
def fnVocLongWrong : ChangeSpec := { name := "fnVocLong", fn := fun _ => fun
  | [d] => { results := [.lit (.bool false)], args := [d] }
  | _ => none }
def FnVocLongWrongFalsely : Prop := fnVocLongRow.holds Try.pinned (OpenSpec.ofChange fnVocLongWrong)

/- THE SECOND FORM. 'bulk': how many values and letters a reading holds, each counted each time it is reached (what is shared counts as often as it is met; a slice's spare places count too). A statement '..UptoSaid' is the law's where the arguments, and the package variables that the reading takes, are together of bulk at most 1048576: NARROWER than '..Said'. Prove '..Said' where nothing that the law and all that it calls make is longer than what came in: it says more and counts as full. Else prove '..UptoSaid'. A law counts once. -/
mutual
def uptoBulk {H : Type} : DataW H → Nat
  | .lit (.string bytes) => bytes.length + 1
  | .lit _ => 1
  | .nil => 1
  | .ptr d => uptoBulk d + 1
  | .slice elems spare => uptoBulkAll elems + uptoBulkAll spare + 1
  | .agg parts => uptoBulkAll parts + 1
  | .iface _ d => uptoBulk d + 1
  | .map entries => uptoBulkEntries entries + 1
  | .held _ => 1
def uptoBulkAll {H : Type} : List (DataW H) → Nat
  | [] => 0
  | d :: r => uptoBulk d + uptoBulkAll r
def uptoBulkEntries {H : Type} : List (Lit × DataW H) → Nat
  | [] => 0
  | x :: r => uptoBulkEntry x + uptoBulkEntries r
def uptoBulkEntry {H : Type} : Lit × DataW H → Nat
  | (.string bytes, d) => bytes.length + uptoBulk d + 1
  | (_, d) => uptoBulk d + 1
 end
def uptoSmall : (H : Type) → List (DataW H) → Bool := fun _ ds => decide (uptoBulkAll ds ≤ 1048576)
def OpenSpec.upto (s : _root_.Go.ChangeSpec) : _root_.Go.OpenSpec := { _root_.Go.OpenSpec.ofChange s with cond := some uptoSmall }

/-- 'laws.FnExactConstants', WHERE WHAT IT READS IS OF BULK AT MOST 1048576: true; the input reads as it did. -/
def fnExactConstantsUptoRow : OpenClaim := { program := "ytaacknjgfipejaa", sum := "0c9ae98d762ef0e914946da946d75dd805b865c58943eab9961e18ad488566ad", func := "loop.example/fretwork/laws.FnExactConstants", spec := "fnExactConstants", apart := false, narrowed := true }
def FnExactConstantsUptoSaid : Prop := fnExactConstantsUptoRow.holds Try.pinned (OpenSpec.upto fnExactConstantsSpec)

/-- 'laws.FnExactVocOk', WHERE WHAT IT READS IS OF BULK AT MOST 1048576: true; the input reads as it did. -/
def fnExactVocOkUptoRow : OpenClaim := { program := "ytaacknjgfipejaa", sum := "0c9ae98d762ef0e914946da946d75dd805b865c58943eab9961e18ad488566ad", func := "loop.example/fretwork/laws.FnExactVocOk", spec := "fnExactVocOk", apart := false, narrowed := true }
def FnExactVocOkUptoSaid : Prop := fnExactVocOkUptoRow.holds Try.pinned (OpenSpec.upto fnExactVocOkSpec)

/-- 'laws.FnExactVocText', WHERE WHAT IT READS IS OF BULK AT MOST 1048576: true; the input reads as it did. -/
def fnExactVocTextUptoRow : OpenClaim := { program := "ytaacknjgfipejaa", sum := "0c9ae98d762ef0e914946da946d75dd805b865c58943eab9961e18ad488566ad", func := "loop.example/fretwork/laws.FnExactVocText", spec := "fnExactVocText", apart := false, narrowed := true }
def FnExactVocTextUptoSaid : Prop := fnExactVocTextUptoRow.holds Try.pinned (OpenSpec.upto fnExactVocTextSpec)

/-- 'laws.FnVocEnd', WHERE WHAT IT READS IS OF BULK AT MOST 1048576: true; the input reads as it did. -/
def fnVocEndUptoRow : OpenClaim := { program := "ytaacknjgfipejaa", sum := "0c9ae98d762ef0e914946da946d75dd805b865c58943eab9961e18ad488566ad", func := "loop.example/fretwork/laws.FnVocEnd", spec := "fnVocEnd", apart := false, narrowed := true }
def FnVocEndUptoSaid : Prop := fnVocEndUptoRow.holds Try.pinned (OpenSpec.upto fnVocEndSpec)

/-- 'laws.FnVocPlace', WHERE WHAT IT READS IS OF BULK AT MOST 1048576: true; the input reads as it did. -/
def fnVocPlaceUptoRow : OpenClaim := { program := "ytaacknjgfipejaa", sum := "0c9ae98d762ef0e914946da946d75dd805b865c58943eab9961e18ad488566ad", func := "loop.example/fretwork/laws.FnVocPlace", spec := "fnVocPlace", apart := false, narrowed := true }
def FnVocPlaceUptoSaid : Prop := fnVocPlaceUptoRow.holds Try.pinned (OpenSpec.upto fnVocPlaceSpec)

/-- 'laws.FnVocText', WHERE WHAT IT READS IS OF BULK AT MOST 1048576: true; the input reads as it did. -/
def fnVocTextUptoRow : OpenClaim := { program := "ytaacknjgfipejaa", sum := "0c9ae98d762ef0e914946da946d75dd805b865c58943eab9961e18ad488566ad", func := "loop.example/fretwork/laws.FnVocText", spec := "fnVocText", apart := false, narrowed := true }
def FnVocTextUptoSaid : Prop := fnVocTextUptoRow.holds Try.pinned (OpenSpec.upto fnVocTextSpec)

/-- 'laws.FnExactTrieFind', WHERE WHAT IT READS IS OF BULK AT MOST 1048576: true; the input reads as it did. -/
def fnExactTrieFindUptoRow : OpenClaim := { program := "ytaacknjgfipejaa", sum := "0c9ae98d762ef0e914946da946d75dd805b865c58943eab9961e18ad488566ad", func := "loop.example/fretwork/laws.FnExactTrieFind", spec := "fnExactTrieFind", apart := false, narrowed := true }
def FnExactTrieFindUptoSaid : Prop := fnExactTrieFindUptoRow.holds Try.pinned (OpenSpec.upto fnExactTrieFindSpec)

/-- 'laws.FnVocFirst', WHERE WHAT IT READS IS OF BULK AT MOST 1048576: true; the input reads as it did. -/
def fnVocFirstUptoRow : OpenClaim := { program := "ytaacknjgfipejaa", sum := "0c9ae98d762ef0e914946da946d75dd805b865c58943eab9961e18ad488566ad", func := "loop.example/fretwork/laws.FnVocFirst", spec := "fnVocFirst", apart := false, narrowed := true }
def FnVocFirstUptoSaid : Prop := fnVocFirstUptoRow.holds Try.pinned (OpenSpec.upto fnVocFirstSpec)

/-- 'laws.FnVocSingle', WHERE WHAT IT READS IS OF BULK AT MOST 1048576: true; the input reads as it did. -/
def fnVocSingleUptoRow : OpenClaim := { program := "ytaacknjgfipejaa", sum := "0c9ae98d762ef0e914946da946d75dd805b865c58943eab9961e18ad488566ad", func := "loop.example/fretwork/laws.FnVocSingle", spec := "fnVocSingle", apart := false, narrowed := true }
def FnVocSingleUptoSaid : Prop := fnVocSingleUptoRow.holds Try.pinned (OpenSpec.upto fnVocSingleSpec)

/-- 'laws.FnExactCfgOk', WHERE WHAT IT READS IS OF BULK AT MOST 1048576: true; the input reads as it did. -/
def fnExactCfgOkUptoRow : OpenClaim := { program := "ytaacknjgfipejaa", sum := "0c9ae98d762ef0e914946da946d75dd805b865c58943eab9961e18ad488566ad", func := "loop.example/fretwork/laws.FnExactCfgOk", spec := "fnExactCfgOk", apart := false, narrowed := true }
def FnExactCfgOkUptoSaid : Prop := fnExactCfgOkUptoRow.holds Try.pinned (OpenSpec.upto fnExactCfgOkSpec)

/-- 'laws.FnExactVocLong', WHERE WHAT IT READS IS OF BULK AT MOST 1048576: true; the input reads as it did. -/
def fnExactVocLongUptoRow : OpenClaim := { program := "ytaacknjgfipejaa", sum := "0c9ae98d762ef0e914946da946d75dd805b865c58943eab9961e18ad488566ad", func := "loop.example/fretwork/laws.FnExactVocLong", spec := "fnExactVocLong", apart := false, narrowed := true }
def FnExactVocLongUptoSaid : Prop := fnExactVocLongUptoRow.holds Try.pinned (OpenSpec.upto fnExactVocLongSpec)

/-- 'laws.FnVocLong', WHERE WHAT IT READS IS OF BULK AT MOST 1048576: true; the input reads as it did. -/
def fnVocLongUptoRow : OpenClaim := { program := "ytaacknjgfipejaa", sum := "0c9ae98d762ef0e914946da946d75dd805b865c58943eab9961e18ad488566ad", func := "loop.example/fretwork/laws.FnVocLong", spec := "fnVocLong", apart := false, narrowed := true }
def FnVocLongUptoSaid : Prop := fnVocLongUptoRow.holds Try.pinned (OpenSpec.upto fnVocLongSpec)

end Rows
end Go.Proofs.Ytaacknjgfipejaa
