/- A word for the walks: which operations of a region have run, as bits. -/
namespace Go.Proofs.YtbdepabelielfaaW.PrintWords
def bL (n m : Nat) : Array Bool := ((List.range n).map fun i => m / 2 ^ i % 2 == 1).toArray
end Go.Proofs.YtbdepabelielfaaW.PrintWords
