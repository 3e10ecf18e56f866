/-
  No cell of these rows narrows 'for every input' (looked for: loops, veiled, ifaces, maps, wideKeys, modest, calm, conditions, laid).
  DERIVED. THE GIVEN ROWS OF THIS SEAT. 5 by the template 'for every input the law returns true; each argument reads behind the call as it read before'; 0 by the template 'total and deterministic' (their statements: YtaihcmbfhgmjgaaTotals.lean).
  GIVEN WITH THE SEED: the statements are not yours to turn. If you find one false, say at which input.
  Laid BY PROGRAM, IN A SANDBOX (cutbox-rows.mjs): the forced cells as the released guide's own fill.sh prints them over the translation 10b59b32bf32ce3e… (all of the seat's roots in one cut). By AI agents, Wed Nov 11 2026. No macro, syntax, notation, axiom, sorry.
-/
import Derived.Test.YtaihcmbfhgmjgaaChecked
import GoSem.Claim
import GoSem.ClaimJoined
import GoSem.ClaimMapViews
import Derived.JoinedTies
import Derived.KernelRfl
namespace Go.Proofs.Ytaihcmbfhgmjgaa
/- THE CELL 'sum', in the pinned program and in every row, IS THE sha256 OF THE DUMP (.gsa) THAT YtaihcmbfhgmjgaaProg.lean LOADS. Nothing in Lean hashes anything: it is a label: what it is worth is what the hold of that sum in a sandbox is worth. -/
noncomputable def Try.pinned : Pinned := { name := "ytaihcmbfhgmjgaa", sum := "10b59b32bf32ce3eed92b6003d3c2c4eb5217e201e7869445dd7fb484878133b", checked := Try.checked }
namespace Rows
def none {H : Type} : Left H := { results := [], args := [] }

/-- 'allongelaw41.PoolTells': WHATEVER THE INPUT: true; the input reads as it did. -/
def poolTellsSpec : ChangeSpec := { name := "poolTells", fn := fun _ => fun
  | [d1, d2, d3, d4, d5] => { results := [.lit (.bool true)], args := [d1, d2, d3, d4, d5] }
  | _ => none }
def poolTellsRow : OpenClaim := { program := "ytaihcmbfhgmjgaa", sum := "10b59b32bf32ce3eed92b6003d3c2c4eb5217e201e7869445dd7fb484878133b", func := "allonge/allongelaw41.PoolTells", spec := "poolTells", unfollowed := true, recurses := true, apart := false }
def PoolTellsSaid : Prop := poolTellsRow.holds Try.pinned (OpenSpec.ofChange poolTellsSpec)

/-- ITS FALSE NEIGHBOUR: 'it returns false'. Refute it at one input. -/
def poolTellsWrong : ChangeSpec := { name := "poolTells", fn := fun _ => fun
  | [d1, d2, d3, d4, d5] => { results := [.lit (.bool false)], args := [d1, d2, d3, d4, d5] }
  | _ => none }
def PoolTellsWrongFalsely : Prop := poolTellsRow.holds Try.pinned (OpenSpec.ofChange poolTellsWrong)

/-- 'allongelaw41.PoolSwaps': WHATEVER THE INPUT: true; the input reads as it did. -/
def poolSwapsSpec : ChangeSpec := { name := "poolSwaps", fn := fun _ => fun
  | [d1, d2, d3, d4] => { results := [.lit (.bool true)], args := [d1, d2, d3, d4] }
  | _ => none }
def poolSwapsRow : OpenClaim := { program := "ytaihcmbfhgmjgaa", sum := "10b59b32bf32ce3eed92b6003d3c2c4eb5217e201e7869445dd7fb484878133b", func := "allonge/allongelaw41.PoolSwaps", spec := "poolSwaps", unfollowed := true, recurses := true, apart := false }
def PoolSwapsSaid : Prop := poolSwapsRow.holds Try.pinned (OpenSpec.ofChange poolSwapsSpec)

/-- ITS FALSE NEIGHBOUR: 'it returns false'. Refute it at one input. -/
def poolSwapsWrong : ChangeSpec := { name := "poolSwaps", fn := fun _ => fun
  | [d1, d2, d3, d4] => { results := [.lit (.bool false)], args := [d1, d2, d3, d4] }
  | _ => none }
def PoolSwapsWrongFalsely : Prop := poolSwapsRow.holds Try.pinned (OpenSpec.ofChange poolSwapsWrong)

/-- 'allongelaw41.PoolSpare': WHATEVER THE INPUT: true; the input reads as it did. -/
def poolSpareSpec : ChangeSpec := { name := "poolSpare", fn := fun _ => fun
  | [d1, d2, d3, d4] => { results := [.lit (.bool true)], args := [d1, d2, d3, d4] }
  | _ => none }
def poolSpareRow : OpenClaim := { program := "ytaihcmbfhgmjgaa", sum := "10b59b32bf32ce3eed92b6003d3c2c4eb5217e201e7869445dd7fb484878133b", func := "allonge/allongelaw41.PoolSpare", spec := "poolSpare", unfollowed := true, recurses := true, apart := false }
def PoolSpareSaid : Prop := poolSpareRow.holds Try.pinned (OpenSpec.ofChange poolSpareSpec)

/-- ITS FALSE NEIGHBOUR: 'it returns false'. Refute it at one input. -/
def poolSpareWrong : ChangeSpec := { name := "poolSpare", fn := fun _ => fun
  | [d1, d2, d3, d4] => { results := [.lit (.bool false)], args := [d1, d2, d3, d4] }
  | _ => none }
def PoolSpareWrongFalsely : Prop := poolSpareRow.holds Try.pinned (OpenSpec.ofChange poolSpareWrong)

/-- 'allongelaw41.PoolUntil': WHATEVER THE INPUT: true; the input reads as it did. -/
def poolUntilSpec : ChangeSpec := { name := "poolUntil", fn := fun _ => fun
  | [d1, d2, d3, d4] => { results := [.lit (.bool true)], args := [d1, d2, d3, d4] }
  | _ => none }
def poolUntilRow : OpenClaim := { program := "ytaihcmbfhgmjgaa", sum := "10b59b32bf32ce3eed92b6003d3c2c4eb5217e201e7869445dd7fb484878133b", func := "allonge/allongelaw41.PoolUntil", spec := "poolUntil", unfollowed := true, recurses := true, apart := false }
def PoolUntilSaid : Prop := poolUntilRow.holds Try.pinned (OpenSpec.ofChange poolUntilSpec)

/-- ITS FALSE NEIGHBOUR: 'it returns false'. Refute it at one input. -/
def poolUntilWrong : ChangeSpec := { name := "poolUntil", fn := fun _ => fun
  | [d1, d2, d3, d4] => { results := [.lit (.bool false)], args := [d1, d2, d3, d4] }
  | _ => none }
def PoolUntilWrongFalsely : Prop := poolUntilRow.holds Try.pinned (OpenSpec.ofChange poolUntilWrong)

/-- 'allongelaw41.PoolTerms': WHATEVER THE INPUT: true; the input reads as it did. -/
def poolTermsSpec : ChangeSpec := { name := "poolTerms", fn := fun _ => fun
  | [d1, d2, d3, d4] => { results := [.lit (.bool true)], args := [d1, d2, d3, d4] }
  | _ => none }
def poolTermsRow : OpenClaim := { program := "ytaihcmbfhgmjgaa", sum := "10b59b32bf32ce3eed92b6003d3c2c4eb5217e201e7869445dd7fb484878133b", func := "allonge/allongelaw41.PoolTerms", spec := "poolTerms", unfollowed := true, recurses := true, apart := false }
def PoolTermsSaid : Prop := poolTermsRow.holds Try.pinned (OpenSpec.ofChange poolTermsSpec)

/-- ITS FALSE NEIGHBOUR: 'it returns false'. Refute it at one input. -/
def poolTermsWrong : ChangeSpec := { name := "poolTerms", fn := fun _ => fun
  | [d1, d2, d3, d4] => { results := [.lit (.bool false)], args := [d1, d2, d3, d4] }
  | _ => none }
def PoolTermsWrongFalsely : Prop := poolTermsRow.holds Try.pinned (OpenSpec.ofChange poolTermsWrong)

/- THE SECOND FORM. 'bulk': how many values and letters a reading holds, each counted each time it is reached (what is shared counts as often as it is met; a slice's spare places count too). A statement '..UptoSaid' is the law's where the arguments, and the package variables that the reading takes, are together of bulk at most 1048576: NARROWER than '..Said'. Prove '..Said' where nothing that the law and all that it calls make is longer than what came in: it says more and counts as full. Else prove '..UptoSaid'. A law counts once. -/
mutual
def uptoBulk {H : Type} : DataW H → Nat
  | .lit (.string bytes) => bytes.length + 1
  | .lit _ => 1
  | .nil => 1
  | .ptr d => uptoBulk d + 1
  | .slice elems spare => uptoBulkAll elems + uptoBulkAll spare + 1
  | .agg parts => uptoBulkAll parts + 1
  | .iface _ d => uptoBulk d + 1
  | .map entries => uptoBulkEntries entries + 1
  | .held _ => 1
def uptoBulkAll {H : Type} : List (DataW H) → Nat
  | [] => 0
  | d :: r => uptoBulk d + uptoBulkAll r
def uptoBulkEntries {H : Type} : List (Lit × DataW H) → Nat
  | [] => 0
  | x :: r => uptoBulkEntry x + uptoBulkEntries r
def uptoBulkEntry {H : Type} : Lit × DataW H → Nat
  | (.string bytes, d) => bytes.length + uptoBulk d + 1
  | (_, d) => uptoBulk d + 1
 end
def uptoSmall : (H : Type) → List (DataW H) → Bool := fun _ ds => decide (uptoBulkAll ds ≤ 1048576)
def OpenSpec.upto (s : _root_.Go.ChangeSpec) : _root_.Go.OpenSpec := { _root_.Go.OpenSpec.ofChange s with cond := some uptoSmall }

/-- 'allongelaw41.PoolTells', WHERE WHAT IT READS IS OF BULK AT MOST 1048576: true; the input reads as it did. -/
def poolTellsUptoRow : OpenClaim := { program := "ytaihcmbfhgmjgaa", sum := "10b59b32bf32ce3eed92b6003d3c2c4eb5217e201e7869445dd7fb484878133b", func := "allonge/allongelaw41.PoolTells", spec := "poolTells", unfollowed := true, recurses := true, apart := false, narrowed := true }
def PoolTellsUptoSaid : Prop := poolTellsUptoRow.holds Try.pinned (OpenSpec.upto poolTellsSpec)

/-- 'allongelaw41.PoolSwaps', WHERE WHAT IT READS IS OF BULK AT MOST 1048576: true; the input reads as it did. -/
def poolSwapsUptoRow : OpenClaim := { program := "ytaihcmbfhgmjgaa", sum := "10b59b32bf32ce3eed92b6003d3c2c4eb5217e201e7869445dd7fb484878133b", func := "allonge/allongelaw41.PoolSwaps", spec := "poolSwaps", unfollowed := true, recurses := true, apart := false, narrowed := true }
def PoolSwapsUptoSaid : Prop := poolSwapsUptoRow.holds Try.pinned (OpenSpec.upto poolSwapsSpec)

/-- 'allongelaw41.PoolSpare', WHERE WHAT IT READS IS OF BULK AT MOST 1048576: true; the input reads as it did. -/
def poolSpareUptoRow : OpenClaim := { program := "ytaihcmbfhgmjgaa", sum := "10b59b32bf32ce3eed92b6003d3c2c4eb5217e201e7869445dd7fb484878133b", func := "allonge/allongelaw41.PoolSpare", spec := "poolSpare", unfollowed := true, recurses := true, apart := false, narrowed := true }
def PoolSpareUptoSaid : Prop := poolSpareUptoRow.holds Try.pinned (OpenSpec.upto poolSpareSpec)

/-- 'allongelaw41.PoolUntil', WHERE WHAT IT READS IS OF BULK AT MOST 1048576: true; the input reads as it did. -/
def poolUntilUptoRow : OpenClaim := { program := "ytaihcmbfhgmjgaa", sum := "10b59b32bf32ce3eed92b6003d3c2c4eb5217e201e7869445dd7fb484878133b", func := "allonge/allongelaw41.PoolUntil", spec := "poolUntil", unfollowed := true, recurses := true, apart := false, narrowed := true }
def PoolUntilUptoSaid : Prop := poolUntilUptoRow.holds Try.pinned (OpenSpec.upto poolUntilSpec)

/-- 'allongelaw41.PoolTerms', WHERE WHAT IT READS IS OF BULK AT MOST 1048576: true; the input reads as it did. -/
def poolTermsUptoRow : OpenClaim := { program := "ytaihcmbfhgmjgaa", sum := "10b59b32bf32ce3eed92b6003d3c2c4eb5217e201e7869445dd7fb484878133b", func := "allonge/allongelaw41.PoolTerms", spec := "poolTerms", unfollowed := true, recurses := true, apart := false, narrowed := true }
def PoolTermsUptoSaid : Prop := poolTermsUptoRow.holds Try.pinned (OpenSpec.upto poolTermsSpec)

end Rows
end Go.Proofs.Ytaihcmbfhgmjgaa
