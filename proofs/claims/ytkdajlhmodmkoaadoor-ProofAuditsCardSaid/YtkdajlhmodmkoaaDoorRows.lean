/-
  NARROWER THAN 'FOR EVERY INPUT', by the rows' own cells (each row's printed sentence says how): ShaSums: laid · ShaNodes: laid · ShaParts: laid · ShaHex: laid · ShaLong: laid · ShaRuns: laid · TreeRoots: laid · TreeRanges: laid · TreeTops: laid · TreeParts: laid · TreeKeeps: laid · TreePeaks: laid · ProofTells: laid · ProofAudits: laid · ProofBridges: laid · ProofPaths: laid · ProofClash: laid · ProofSound: laid · ProofLong: laid.
  DERIVED. THE GIVEN ROWS OF THIS SEAT. 19 by the template 'for every input the law returns true; each argument reads behind the call as it read before'; 0 by the template 'total and deterministic' (their statements: YtkdajlhmodmkoaaDoorTotals.lean).
  GIVEN WITH THE SEED: the statements are not yours to turn. If you find one false, say at which input.
  Laid BY PROGRAM, IN A SANDBOX (cutbox-rows.mjs): the forced cells as the released guide's own fill.sh prints them over the translation c126833016d9eb8c… (all of the seat's roots in one cut). By AI agents, Wed Nov 11 2026. No macro, syntax, notation, axiom, sorry.
-/
import Derived.Test.YtkdajlhmodmkoaaDoorChecked
import GoSem.Claim
import GoSem.ClaimJoined
import GoSem.ClaimMapViews
import Derived.JoinedTies
import Derived.KernelRfl
namespace Go.Proofs.YtkdajlhmodmkoaaDoor
/- THE CELL 'sum', in the pinned program and in every row, IS THE sha256 OF THE DUMP (.gsa) THAT YtkdajlhmodmkoaaDoorProg.lean LOADS. Nothing in Lean hashes anything: it is a label: what it is worth is what the hold of that sum in a sandbox is worth. -/
noncomputable def Tryd.pinned : Pinned := { name := "ytkdajlhmodmkoaadoor", sum := "c126833016d9eb8c64eaa5602a7d5588cee96f7bd8167731f72d7fb5441f9171", checked := Tryd.checked }
namespace Rows
def none {H : Type} : Left H := { results := [], args := [] }

/- WHAT THE LISTED PACKAGE-LEVEL VARIABLES READ AS WHEN THE CALL BEGINS. Each datum BY PROGRAM (the guide's laid-datum.mjs) off the statement by which the dump's own 'gosem.cut.vars' lays the variable. In a bare row this is a premise. The card (YtkdajlhmodmkoaaDoorCards.lean) ties it to the program's text. -/
def laid_syngraph_sha_begin {H : Type} : DataW H := .agg [.lit (.int .u32 1779033703), .lit (.int .u32 3144134277), .lit (.int .u32 1013904242), .lit (.int .u32 2773480762), .lit (.int .u32 1359893119), .lit (.int .u32 2600822924), .lit (.int .u32 528734635), .lit (.int .u32 1541459225)]
def laid_syngraph_sha_key {H : Type} : DataW H := .agg [.lit (.int .u32 1116352408), .lit (.int .u32 1899447441), .lit (.int .u32 3049323471), .lit (.int .u32 3921009573), .lit (.int .u32 961987163), .lit (.int .u32 1508970993), .lit (.int .u32 2453635748), .lit (.int .u32 2870763221), .lit (.int .u32 3624381080), .lit (.int .u32 310598401), .lit (.int .u32 607225278), .lit (.int .u32 1426881987), .lit (.int .u32 1925078388), .lit (.int .u32 2162078206), .lit (.int .u32 2614888103), .lit (.int .u32 3248222580), .lit (.int .u32 3835390401), .lit (.int .u32 4022224774), .lit (.int .u32 264347078), .lit (.int .u32 604807628), .lit (.int .u32 770255983), .lit (.int .u32 1249150122), .lit (.int .u32 1555081692), .lit (.int .u32 1996064986), .lit (.int .u32 2554220882), .lit (.int .u32 2821834349), .lit (.int .u32 2952996808), .lit (.int .u32 3210313671), .lit (.int .u32 3336571891), .lit (.int .u32 3584528711), .lit (.int .u32 113926993), .lit (.int .u32 338241895), .lit (.int .u32 666307205), .lit (.int .u32 773529912), .lit (.int .u32 1294757372), .lit (.int .u32 1396182291), .lit (.int .u32 1695183700), .lit (.int .u32 1986661051), .lit (.int .u32 2177026350), .lit (.int .u32 2456956037), .lit (.int .u32 2730485921), .lit (.int .u32 2820302411), .lit (.int .u32 3259730800), .lit (.int .u32 3345764771), .lit (.int .u32 3516065817), .lit (.int .u32 3600352804), .lit (.int .u32 4094571909), .lit (.int .u32 275423344), .lit (.int .u32 430227734), .lit (.int .u32 506948616), .lit (.int .u32 659060556), .lit (.int .u32 883997877), .lit (.int .u32 958139571), .lit (.int .u32 1322822218), .lit (.int .u32 1537002063), .lit (.int .u32 1747873779), .lit (.int .u32 1955562222), .lit (.int .u32 2024104815), .lit (.int .u32 2227730452), .lit (.int .u32 2361852424), .lit (.int .u32 2428436474), .lit (.int .u32 2756734187), .lit (.int .u32 3204031479), .lit (.int .u32 3329325298)]
def laid_math_bits_deBruijn64tab {H : Type} : DataW H := .agg [.lit (.int .u8 0), .lit (.int .u8 1), .lit (.int .u8 56), .lit (.int .u8 2), .lit (.int .u8 57), .lit (.int .u8 49), .lit (.int .u8 28), .lit (.int .u8 3), .lit (.int .u8 61), .lit (.int .u8 58), .lit (.int .u8 42), .lit (.int .u8 50), .lit (.int .u8 38), .lit (.int .u8 29), .lit (.int .u8 17), .lit (.int .u8 4), .lit (.int .u8 62), .lit (.int .u8 47), .lit (.int .u8 59), .lit (.int .u8 36), .lit (.int .u8 45), .lit (.int .u8 43), .lit (.int .u8 51), .lit (.int .u8 22), .lit (.int .u8 53), .lit (.int .u8 39), .lit (.int .u8 33), .lit (.int .u8 30), .lit (.int .u8 24), .lit (.int .u8 18), .lit (.int .u8 12), .lit (.int .u8 5), .lit (.int .u8 63), .lit (.int .u8 55), .lit (.int .u8 48), .lit (.int .u8 27), .lit (.int .u8 60), .lit (.int .u8 41), .lit (.int .u8 37), .lit (.int .u8 16), .lit (.int .u8 46), .lit (.int .u8 35), .lit (.int .u8 44), .lit (.int .u8 21), .lit (.int .u8 52), .lit (.int .u8 32), .lit (.int .u8 23), .lit (.int .u8 11), .lit (.int .u8 54), .lit (.int .u8 26), .lit (.int .u8 40), .lit (.int .u8 15), .lit (.int .u8 34), .lit (.int .u8 20), .lit (.int .u8 31), .lit (.int .u8 10), .lit (.int .u8 25), .lit (.int .u8 14), .lit (.int .u8 19), .lit (.int .u8 9), .lit (.int .u8 13), .lit (.int .u8 8), .lit (.int .u8 7), .lit (.int .u8 6)]

/-- 'syngraphlaw02.ShaSums': WHATEVER THE INPUT: true; the input reads as it did. -/
def shaSumsSpec : ChangeSpec := { name := "shaSums", fn := fun _ => fun
  | [d] => { results := [.lit (.bool true)], args := [d] }
  | _ => none }
def shaSumsRow : OpenClaim := { program := "ytkdajlhmodmkoaadoor", sum := "c126833016d9eb8c64eaa5602a7d5588cee96f7bd8167731f72d7fb5441f9171", func := "syngraph/syngraphlaw02.ShaSums", spec := "shaSums", named := ["syngraph/sha.begin", "syngraph/sha.key"], apart := false, laid := [("syngraph/sha.begin", laid_syngraph_sha_begin), ("syngraph/sha.key", laid_syngraph_sha_key)] }
def ShaSumsSaid : Prop := shaSumsRow.holds Tryd.pinned (OpenSpec.ofChange shaSumsSpec)

/-- ITS FALSE NEIGHBOUR: 'it returns false'. Refute it at one input. -/
def shaSumsWrong : ChangeSpec := { name := "shaSums", fn := fun _ => fun
  | [d] => { results := [.lit (.bool false)], args := [d] }
  | _ => none }
def ShaSumsWrongFalsely : Prop := shaSumsRow.holds Tryd.pinned (OpenSpec.ofChange shaSumsWrong)

/-- 'syngraphlaw02.ShaNodes': WHATEVER THE INPUT: true; the input reads as it did. -/
def shaNodesSpec : ChangeSpec := { name := "shaNodes", fn := fun _ => fun
  | [d1, d2, d3] => { results := [.lit (.bool true)], args := [d1, d2, d3] }
  | _ => none }
def shaNodesRow : OpenClaim := { program := "ytkdajlhmodmkoaadoor", sum := "c126833016d9eb8c64eaa5602a7d5588cee96f7bd8167731f72d7fb5441f9171", func := "syngraph/syngraphlaw02.ShaNodes", spec := "shaNodes", named := ["syngraph/sha.begin", "syngraph/sha.key"], apart := false, laid := [("syngraph/sha.begin", laid_syngraph_sha_begin), ("syngraph/sha.key", laid_syngraph_sha_key)] }
def ShaNodesSaid : Prop := shaNodesRow.holds Tryd.pinned (OpenSpec.ofChange shaNodesSpec)

/-- ITS FALSE NEIGHBOUR: 'it returns false'. Refute it at one input. -/
def shaNodesWrong : ChangeSpec := { name := "shaNodes", fn := fun _ => fun
  | [d1, d2, d3] => { results := [.lit (.bool false)], args := [d1, d2, d3] }
  | _ => none }
def ShaNodesWrongFalsely : Prop := shaNodesRow.holds Tryd.pinned (OpenSpec.ofChange shaNodesWrong)

/-- 'syngraphlaw02.ShaParts': WHATEVER THE INPUT: true; the input reads as it did. -/
def shaPartsSpec : ChangeSpec := { name := "shaParts", fn := fun _ => fun
  | [d1, d2, d3] => { results := [.lit (.bool true)], args := [d1, d2, d3] }
  | _ => none }
def shaPartsRow : OpenClaim := { program := "ytkdajlhmodmkoaadoor", sum := "c126833016d9eb8c64eaa5602a7d5588cee96f7bd8167731f72d7fb5441f9171", func := "syngraph/syngraphlaw02.ShaParts", spec := "shaParts", named := ["syngraph/sha.begin", "syngraph/sha.key"], apart := false, laid := [("syngraph/sha.begin", laid_syngraph_sha_begin), ("syngraph/sha.key", laid_syngraph_sha_key)] }
def ShaPartsSaid : Prop := shaPartsRow.holds Tryd.pinned (OpenSpec.ofChange shaPartsSpec)

/-- ITS FALSE NEIGHBOUR: 'it returns false'. Refute it at one input. -/
def shaPartsWrong : ChangeSpec := { name := "shaParts", fn := fun _ => fun
  | [d1, d2, d3] => { results := [.lit (.bool false)], args := [d1, d2, d3] }
  | _ => none }
def ShaPartsWrongFalsely : Prop := shaPartsRow.holds Tryd.pinned (OpenSpec.ofChange shaPartsWrong)

/-- 'syngraphlaw02.ShaHex': WHATEVER THE INPUT: true; the input reads as it did. -/
def shaHexSpec : ChangeSpec := { name := "shaHex", fn := fun _ => fun
  | [d1, d2] => { results := [.lit (.bool true)], args := [d1, d2] }
  | _ => none }
def shaHexRow : OpenClaim := { program := "ytkdajlhmodmkoaadoor", sum := "c126833016d9eb8c64eaa5602a7d5588cee96f7bd8167731f72d7fb5441f9171", func := "syngraph/syngraphlaw02.ShaHex", spec := "shaHex", named := ["syngraph/sha.begin", "syngraph/sha.key"], apart := false, laid := [("syngraph/sha.begin", laid_syngraph_sha_begin), ("syngraph/sha.key", laid_syngraph_sha_key)] }
def ShaHexSaid : Prop := shaHexRow.holds Tryd.pinned (OpenSpec.ofChange shaHexSpec)

/-- ITS FALSE NEIGHBOUR: 'it returns false'. Refute it at one input. -/
def shaHexWrong : ChangeSpec := { name := "shaHex", fn := fun _ => fun
  | [d1, d2] => { results := [.lit (.bool false)], args := [d1, d2] }
  | _ => none }
def ShaHexWrongFalsely : Prop := shaHexRow.holds Tryd.pinned (OpenSpec.ofChange shaHexWrong)

/-- 'syngraphlaw02.ShaLong': WHATEVER THE INPUT: true; the input reads as it did. -/
def shaLongSpec : ChangeSpec := { name := "shaLong", fn := fun _ => fun
  | [d1, d2] => { results := [.lit (.bool true)], args := [d1, d2] }
  | _ => none }
def shaLongRow : OpenClaim := { program := "ytkdajlhmodmkoaadoor", sum := "c126833016d9eb8c64eaa5602a7d5588cee96f7bd8167731f72d7fb5441f9171", func := "syngraph/syngraphlaw02.ShaLong", spec := "shaLong", named := ["syngraph/sha.begin", "syngraph/sha.key"], apart := false, laid := [("syngraph/sha.begin", laid_syngraph_sha_begin), ("syngraph/sha.key", laid_syngraph_sha_key)] }
def ShaLongSaid : Prop := shaLongRow.holds Tryd.pinned (OpenSpec.ofChange shaLongSpec)

/-- ITS FALSE NEIGHBOUR: 'it returns false'. Refute it at one input. -/
def shaLongWrong : ChangeSpec := { name := "shaLong", fn := fun _ => fun
  | [d1, d2] => { results := [.lit (.bool false)], args := [d1, d2] }
  | _ => none }
def ShaLongWrongFalsely : Prop := shaLongRow.holds Tryd.pinned (OpenSpec.ofChange shaLongWrong)

/-- 'syngraphlaw02.ShaRuns': WHATEVER THE INPUT: true; the input reads as it did. -/
def shaRunsSpec : ChangeSpec := { name := "shaRuns", fn := fun _ => fun
  | [d1, d2] => { results := [.lit (.bool true)], args := [d1, d2] }
  | _ => none }
def shaRunsRow : OpenClaim := { program := "ytkdajlhmodmkoaadoor", sum := "c126833016d9eb8c64eaa5602a7d5588cee96f7bd8167731f72d7fb5441f9171", func := "syngraph/syngraphlaw02.ShaRuns", spec := "shaRuns", named := ["syngraph/sha.begin", "syngraph/sha.key"], apart := false, laid := [("syngraph/sha.begin", laid_syngraph_sha_begin), ("syngraph/sha.key", laid_syngraph_sha_key)] }
def ShaRunsSaid : Prop := shaRunsRow.holds Tryd.pinned (OpenSpec.ofChange shaRunsSpec)

/-- ITS FALSE NEIGHBOUR: 'it returns false'. Refute it at one input. -/
def shaRunsWrong : ChangeSpec := { name := "shaRuns", fn := fun _ => fun
  | [d1, d2] => { results := [.lit (.bool false)], args := [d1, d2] }
  | _ => none }
def ShaRunsWrongFalsely : Prop := shaRunsRow.holds Tryd.pinned (OpenSpec.ofChange shaRunsWrong)

/-- 'syngraphlaw08.TreeRoots': WHATEVER THE INPUT: true; the input reads as it did. -/
def treeRootsSpec : ChangeSpec := { name := "treeRoots", fn := fun _ => fun
  | [d1, d2] => { results := [.lit (.bool true)], args := [d1, d2] }
  | _ => none }
def treeRootsRow : OpenClaim := { program := "ytkdajlhmodmkoaadoor", sum := "c126833016d9eb8c64eaa5602a7d5588cee96f7bd8167731f72d7fb5441f9171", func := "syngraph/syngraphlaw08.TreeRoots", spec := "treeRoots", unfollowed := true, recurses := true, named := ["syngraph/sha.begin", "syngraph/sha.key", "math/bits.deBruijn64tab"], apart := false, laid := [("math/bits.deBruijn64tab", laid_math_bits_deBruijn64tab), ("syngraph/sha.begin", laid_syngraph_sha_begin), ("syngraph/sha.key", laid_syngraph_sha_key)] }
def TreeRootsSaid : Prop := treeRootsRow.holds Tryd.pinned (OpenSpec.ofChange treeRootsSpec)

/-- ITS FALSE NEIGHBOUR: 'it returns false'. Refute it at one input. -/
def treeRootsWrong : ChangeSpec := { name := "treeRoots", fn := fun _ => fun
  | [d1, d2] => { results := [.lit (.bool false)], args := [d1, d2] }
  | _ => none }
def TreeRootsWrongFalsely : Prop := treeRootsRow.holds Tryd.pinned (OpenSpec.ofChange treeRootsWrong)

/-- 'syngraphlaw08.TreeRanges': WHATEVER THE INPUT: true; the input reads as it did. -/
def treeRangesSpec : ChangeSpec := { name := "treeRanges", fn := fun _ => fun
  | [d1, d2] => { results := [.lit (.bool true)], args := [d1, d2] }
  | _ => none }
def treeRangesRow : OpenClaim := { program := "ytkdajlhmodmkoaadoor", sum := "c126833016d9eb8c64eaa5602a7d5588cee96f7bd8167731f72d7fb5441f9171", func := "syngraph/syngraphlaw08.TreeRanges", spec := "treeRanges", unfollowed := true, recurses := true, named := ["syngraph/sha.begin", "syngraph/sha.key", "math/bits.deBruijn64tab"], apart := false, laid := [("math/bits.deBruijn64tab", laid_math_bits_deBruijn64tab), ("syngraph/sha.begin", laid_syngraph_sha_begin), ("syngraph/sha.key", laid_syngraph_sha_key)] }
def TreeRangesSaid : Prop := treeRangesRow.holds Tryd.pinned (OpenSpec.ofChange treeRangesSpec)

/-- ITS FALSE NEIGHBOUR: 'it returns false'. Refute it at one input. -/
def treeRangesWrong : ChangeSpec := { name := "treeRanges", fn := fun _ => fun
  | [d1, d2] => { results := [.lit (.bool false)], args := [d1, d2] }
  | _ => none }
def TreeRangesWrongFalsely : Prop := treeRangesRow.holds Tryd.pinned (OpenSpec.ofChange treeRangesWrong)

/-- 'syngraphlaw08.TreeTops': WHATEVER THE INPUT: true; the input reads as it did. -/
def treeTopsSpec : ChangeSpec := { name := "treeTops", fn := fun _ => fun
  | [d] => { results := [.lit (.bool true)], args := [d] }
  | _ => none }
def treeTopsRow : OpenClaim := { program := "ytkdajlhmodmkoaadoor", sum := "c126833016d9eb8c64eaa5602a7d5588cee96f7bd8167731f72d7fb5441f9171", func := "syngraph/syngraphlaw08.TreeTops", spec := "treeTops", unfollowed := true, recurses := true, named := ["syngraph/sha.begin", "syngraph/sha.key", "math/bits.deBruijn64tab"], apart := false, laid := [("math/bits.deBruijn64tab", laid_math_bits_deBruijn64tab), ("syngraph/sha.begin", laid_syngraph_sha_begin), ("syngraph/sha.key", laid_syngraph_sha_key)] }
def TreeTopsSaid : Prop := treeTopsRow.holds Tryd.pinned (OpenSpec.ofChange treeTopsSpec)

/-- ITS FALSE NEIGHBOUR: 'it returns false'. Refute it at one input. -/
def treeTopsWrong : ChangeSpec := { name := "treeTops", fn := fun _ => fun
  | [d] => { results := [.lit (.bool false)], args := [d] }
  | _ => none }
def TreeTopsWrongFalsely : Prop := treeTopsRow.holds Tryd.pinned (OpenSpec.ofChange treeTopsWrong)

/-- 'syngraphlaw08.TreeParts': WHATEVER THE INPUT: true; the input reads as it did. -/
def treePartsSpec : ChangeSpec := { name := "treeParts", fn := fun _ => fun
  | [d1, d2] => { results := [.lit (.bool true)], args := [d1, d2] }
  | _ => none }
def treePartsRow : OpenClaim := { program := "ytkdajlhmodmkoaadoor", sum := "c126833016d9eb8c64eaa5602a7d5588cee96f7bd8167731f72d7fb5441f9171", func := "syngraph/syngraphlaw08.TreeParts", spec := "treeParts", unfollowed := true, recurses := true, named := ["syngraph/sha.begin", "syngraph/sha.key", "math/bits.deBruijn64tab"], apart := false, laid := [("math/bits.deBruijn64tab", laid_math_bits_deBruijn64tab), ("syngraph/sha.begin", laid_syngraph_sha_begin), ("syngraph/sha.key", laid_syngraph_sha_key)] }
def TreePartsSaid : Prop := treePartsRow.holds Tryd.pinned (OpenSpec.ofChange treePartsSpec)

/-- ITS FALSE NEIGHBOUR: 'it returns false'. Refute it at one input. -/
def treePartsWrong : ChangeSpec := { name := "treeParts", fn := fun _ => fun
  | [d1, d2] => { results := [.lit (.bool false)], args := [d1, d2] }
  | _ => none }
def TreePartsWrongFalsely : Prop := treePartsRow.holds Tryd.pinned (OpenSpec.ofChange treePartsWrong)

/-- 'syngraphlaw08.TreeKeeps': WHATEVER THE INPUT: true; the input reads as it did. -/
def treeKeepsSpec : ChangeSpec := { name := "treeKeeps", fn := fun _ => fun
  | [d1, d2] => { results := [.lit (.bool true)], args := [d1, d2] }
  | _ => none }
def treeKeepsRow : OpenClaim := { program := "ytkdajlhmodmkoaadoor", sum := "c126833016d9eb8c64eaa5602a7d5588cee96f7bd8167731f72d7fb5441f9171", func := "syngraph/syngraphlaw08.TreeKeeps", spec := "treeKeeps", unfollowed := true, recurses := true, named := ["syngraph/sha.begin", "syngraph/sha.key", "math/bits.deBruijn64tab"], apart := false, laid := [("math/bits.deBruijn64tab", laid_math_bits_deBruijn64tab), ("syngraph/sha.begin", laid_syngraph_sha_begin), ("syngraph/sha.key", laid_syngraph_sha_key)] }
def TreeKeepsSaid : Prop := treeKeepsRow.holds Tryd.pinned (OpenSpec.ofChange treeKeepsSpec)

/-- ITS FALSE NEIGHBOUR: 'it returns false'. Refute it at one input. -/
def treeKeepsWrong : ChangeSpec := { name := "treeKeeps", fn := fun _ => fun
  | [d1, d2] => { results := [.lit (.bool false)], args := [d1, d2] }
  | _ => none }
def TreeKeepsWrongFalsely : Prop := treeKeepsRow.holds Tryd.pinned (OpenSpec.ofChange treeKeepsWrong)

/-- 'syngraphlaw08.TreePeaks': WHATEVER THE INPUT: true; the input reads as it did. -/
def treePeaksSpec : ChangeSpec := { name := "treePeaks", fn := fun _ => fun
  | [d] => { results := [.lit (.bool true)], args := [d] }
  | _ => none }
def treePeaksRow : OpenClaim := { program := "ytkdajlhmodmkoaadoor", sum := "c126833016d9eb8c64eaa5602a7d5588cee96f7bd8167731f72d7fb5441f9171", func := "syngraph/syngraphlaw08.TreePeaks", spec := "treePeaks", unfollowed := true, recurses := true, named := ["syngraph/sha.begin", "syngraph/sha.key", "math/bits.deBruijn64tab"], apart := false, laid := [("math/bits.deBruijn64tab", laid_math_bits_deBruijn64tab), ("syngraph/sha.begin", laid_syngraph_sha_begin), ("syngraph/sha.key", laid_syngraph_sha_key)] }
def TreePeaksSaid : Prop := treePeaksRow.holds Tryd.pinned (OpenSpec.ofChange treePeaksSpec)

/-- ITS FALSE NEIGHBOUR: 'it returns false'. Refute it at one input. -/
def treePeaksWrong : ChangeSpec := { name := "treePeaks", fn := fun _ => fun
  | [d] => { results := [.lit (.bool false)], args := [d] }
  | _ => none }
def TreePeaksWrongFalsely : Prop := treePeaksRow.holds Tryd.pinned (OpenSpec.ofChange treePeaksWrong)

/-- 'syngraphlaw09.ProofTells': WHATEVER THE INPUT: true; the input reads as it did. -/
def proofTellsSpec : ChangeSpec := { name := "proofTells", fn := fun _ => fun
  | [d1, d2, d3] => { results := [.lit (.bool true)], args := [d1, d2, d3] }
  | _ => none }
def proofTellsRow : OpenClaim := { program := "ytkdajlhmodmkoaadoor", sum := "c126833016d9eb8c64eaa5602a7d5588cee96f7bd8167731f72d7fb5441f9171", func := "syngraph/syngraphlaw09.ProofTells", spec := "proofTells", unfollowed := true, recurses := true, named := ["syngraph/sha.begin", "syngraph/sha.key"], apart := false, laid := [("syngraph/sha.begin", laid_syngraph_sha_begin), ("syngraph/sha.key", laid_syngraph_sha_key)] }
def ProofTellsSaid : Prop := proofTellsRow.holds Tryd.pinned (OpenSpec.ofChange proofTellsSpec)

/-- ITS FALSE NEIGHBOUR: 'it returns false'. Refute it at one input. -/
def proofTellsWrong : ChangeSpec := { name := "proofTells", fn := fun _ => fun
  | [d1, d2, d3] => { results := [.lit (.bool false)], args := [d1, d2, d3] }
  | _ => none }
def ProofTellsWrongFalsely : Prop := proofTellsRow.holds Tryd.pinned (OpenSpec.ofChange proofTellsWrong)

/-- 'syngraphlaw09.ProofAudits': WHATEVER THE INPUT: true; the input reads as it did. -/
def proofAuditsSpec : ChangeSpec := { name := "proofAudits", fn := fun _ => fun
  | [d1, d2, d3] => { results := [.lit (.bool true)], args := [d1, d2, d3] }
  | _ => none }
def proofAuditsRow : OpenClaim := { program := "ytkdajlhmodmkoaadoor", sum := "c126833016d9eb8c64eaa5602a7d5588cee96f7bd8167731f72d7fb5441f9171", func := "syngraph/syngraphlaw09.ProofAudits", spec := "proofAudits", unfollowed := true, recurses := true, named := ["syngraph/sha.begin", "syngraph/sha.key"], apart := false, laid := [("syngraph/sha.begin", laid_syngraph_sha_begin), ("syngraph/sha.key", laid_syngraph_sha_key)] }
def ProofAuditsSaid : Prop := proofAuditsRow.holds Tryd.pinned (OpenSpec.ofChange proofAuditsSpec)

/-- ITS FALSE NEIGHBOUR: 'it returns false'. Refute it at one input. -/
def proofAuditsWrong : ChangeSpec := { name := "proofAudits", fn := fun _ => fun
  | [d1, d2, d3] => { results := [.lit (.bool false)], args := [d1, d2, d3] }
  | _ => none }
def ProofAuditsWrongFalsely : Prop := proofAuditsRow.holds Tryd.pinned (OpenSpec.ofChange proofAuditsWrong)

/-- 'syngraphlaw09.ProofBridges': WHATEVER THE INPUT: true; the input reads as it did. -/
def proofBridgesSpec : ChangeSpec := { name := "proofBridges", fn := fun _ => fun
  | [d1, d2] => { results := [.lit (.bool true)], args := [d1, d2] }
  | _ => none }
def proofBridgesRow : OpenClaim := { program := "ytkdajlhmodmkoaadoor", sum := "c126833016d9eb8c64eaa5602a7d5588cee96f7bd8167731f72d7fb5441f9171", func := "syngraph/syngraphlaw09.ProofBridges", spec := "proofBridges", unfollowed := true, recurses := true, named := ["syngraph/sha.begin", "syngraph/sha.key"], apart := false, laid := [("syngraph/sha.begin", laid_syngraph_sha_begin), ("syngraph/sha.key", laid_syngraph_sha_key)] }
def ProofBridgesSaid : Prop := proofBridgesRow.holds Tryd.pinned (OpenSpec.ofChange proofBridgesSpec)

/-- ITS FALSE NEIGHBOUR: 'it returns false'. Refute it at one input. -/
def proofBridgesWrong : ChangeSpec := { name := "proofBridges", fn := fun _ => fun
  | [d1, d2] => { results := [.lit (.bool false)], args := [d1, d2] }
  | _ => none }
def ProofBridgesWrongFalsely : Prop := proofBridgesRow.holds Tryd.pinned (OpenSpec.ofChange proofBridgesWrong)

/-- 'syngraphlaw09.ProofPaths': WHATEVER THE INPUT: true; the input reads as it did. -/
def proofPathsSpec : ChangeSpec := { name := "proofPaths", fn := fun _ => fun
  | [d1, d2] => { results := [.lit (.bool true)], args := [d1, d2] }
  | _ => none }
def proofPathsRow : OpenClaim := { program := "ytkdajlhmodmkoaadoor", sum := "c126833016d9eb8c64eaa5602a7d5588cee96f7bd8167731f72d7fb5441f9171", func := "syngraph/syngraphlaw09.ProofPaths", spec := "proofPaths", unfollowed := true, recurses := true, named := ["syngraph/sha.begin", "syngraph/sha.key"], apart := false, laid := [("syngraph/sha.begin", laid_syngraph_sha_begin), ("syngraph/sha.key", laid_syngraph_sha_key)] }
def ProofPathsSaid : Prop := proofPathsRow.holds Tryd.pinned (OpenSpec.ofChange proofPathsSpec)

/-- ITS FALSE NEIGHBOUR: 'it returns false'. Refute it at one input. -/
def proofPathsWrong : ChangeSpec := { name := "proofPaths", fn := fun _ => fun
  | [d1, d2] => { results := [.lit (.bool false)], args := [d1, d2] }
  | _ => none }
def ProofPathsWrongFalsely : Prop := proofPathsRow.holds Tryd.pinned (OpenSpec.ofChange proofPathsWrong)

/-- 'syngraphlaw09.ProofClash': WHATEVER THE INPUT: true; the input reads as it did. -/
def proofClashSpec : ChangeSpec := { name := "proofClash", fn := fun _ => fun
  | [d1, d2, d3] => { results := [.lit (.bool true)], args := [d1, d2, d3] }
  | _ => none }
def proofClashRow : OpenClaim := { program := "ytkdajlhmodmkoaadoor", sum := "c126833016d9eb8c64eaa5602a7d5588cee96f7bd8167731f72d7fb5441f9171", func := "syngraph/syngraphlaw09.ProofClash", spec := "proofClash", unfollowed := true, recurses := true, named := ["syngraph/sha.begin", "syngraph/sha.key"], apart := false, laid := [("syngraph/sha.begin", laid_syngraph_sha_begin), ("syngraph/sha.key", laid_syngraph_sha_key)] }
def ProofClashSaid : Prop := proofClashRow.holds Tryd.pinned (OpenSpec.ofChange proofClashSpec)

/-- ITS FALSE NEIGHBOUR: 'it returns false'. Refute it at one input. -/
def proofClashWrong : ChangeSpec := { name := "proofClash", fn := fun _ => fun
  | [d1, d2, d3] => { results := [.lit (.bool false)], args := [d1, d2, d3] }
  | _ => none }
def ProofClashWrongFalsely : Prop := proofClashRow.holds Tryd.pinned (OpenSpec.ofChange proofClashWrong)

/-- 'syngraphlaw09.ProofSound': WHATEVER THE INPUT: true; the input reads as it did. -/
def proofSoundSpec : ChangeSpec := { name := "proofSound", fn := fun _ => fun
  | [d1, d2, d3] => { results := [.lit (.bool true)], args := [d1, d2, d3] }
  | _ => none }
def proofSoundRow : OpenClaim := { program := "ytkdajlhmodmkoaadoor", sum := "c126833016d9eb8c64eaa5602a7d5588cee96f7bd8167731f72d7fb5441f9171", func := "syngraph/syngraphlaw09.ProofSound", spec := "proofSound", unfollowed := true, recurses := true, named := ["syngraph/sha.begin", "syngraph/sha.key"], apart := false, laid := [("syngraph/sha.begin", laid_syngraph_sha_begin), ("syngraph/sha.key", laid_syngraph_sha_key)] }
def ProofSoundSaid : Prop := proofSoundRow.holds Tryd.pinned (OpenSpec.ofChange proofSoundSpec)

/-- ITS FALSE NEIGHBOUR: 'it returns false'. Refute it at one input. -/
def proofSoundWrong : ChangeSpec := { name := "proofSound", fn := fun _ => fun
  | [d1, d2, d3] => { results := [.lit (.bool false)], args := [d1, d2, d3] }
  | _ => none }
def ProofSoundWrongFalsely : Prop := proofSoundRow.holds Tryd.pinned (OpenSpec.ofChange proofSoundWrong)

/-- 'syngraphlaw09.ProofLong': WHATEVER THE INPUT: true; the input reads as it did. -/
def proofLongSpec : ChangeSpec := { name := "proofLong", fn := fun _ => fun
  | [d1, d2] => { results := [.lit (.bool true)], args := [d1, d2] }
  | _ => none }
def proofLongRow : OpenClaim := { program := "ytkdajlhmodmkoaadoor", sum := "c126833016d9eb8c64eaa5602a7d5588cee96f7bd8167731f72d7fb5441f9171", func := "syngraph/syngraphlaw09.ProofLong", spec := "proofLong", unfollowed := true, recurses := true, named := ["syngraph/sha.begin", "syngraph/sha.key"], apart := false, laid := [("syngraph/sha.begin", laid_syngraph_sha_begin), ("syngraph/sha.key", laid_syngraph_sha_key)] }
def ProofLongSaid : Prop := proofLongRow.holds Tryd.pinned (OpenSpec.ofChange proofLongSpec)

/-- ITS FALSE NEIGHBOUR: 'it returns false'. Refute it at one input. -/
def proofLongWrong : ChangeSpec := { name := "proofLong", fn := fun _ => fun
  | [d1, d2] => { results := [.lit (.bool false)], args := [d1, d2] }
  | _ => none }
def ProofLongWrongFalsely : Prop := proofLongRow.holds Tryd.pinned (OpenSpec.ofChange proofLongWrong)

/- THE SECOND FORM. 'bulk': how many values and letters a reading holds, each counted each time it is reached (what is shared counts as often as it is met; a slice's spare places count too). A statement '..UptoSaid' is the law's where the arguments, and the package variables that the reading takes, are together of bulk at most 1048576: NARROWER than '..Said'. Prove '..Said' where nothing that the law and all that it calls make is longer than what came in: it says more and counts as full. Else prove '..UptoSaid'. A law counts once. -/
mutual
def uptoBulk {H : Type} : DataW H → Nat
  | .lit (.string bytes) => bytes.length + 1
  | .lit _ => 1
  | .nil => 1
  | .ptr d => uptoBulk d + 1
  | .slice elems spare => uptoBulkAll elems + uptoBulkAll spare + 1
  | .agg parts => uptoBulkAll parts + 1
  | .iface _ d => uptoBulk d + 1
  | .map entries => uptoBulkEntries entries + 1
  | .held _ => 1
def uptoBulkAll {H : Type} : List (DataW H) → Nat
  | [] => 0
  | d :: r => uptoBulk d + uptoBulkAll r
def uptoBulkEntries {H : Type} : List (Lit × DataW H) → Nat
  | [] => 0
  | x :: r => uptoBulkEntry x + uptoBulkEntries r
def uptoBulkEntry {H : Type} : Lit × DataW H → Nat
  | (.string bytes, d) => bytes.length + uptoBulk d + 1
  | (_, d) => uptoBulk d + 1
 end
def uptoSmall : (H : Type) → List (DataW H) → Bool := fun _ ds => decide (uptoBulkAll ds ≤ 1048576)
def OpenSpec.upto (s : _root_.Go.ChangeSpec) : _root_.Go.OpenSpec := { _root_.Go.OpenSpec.ofChange s with cond := some uptoSmall }

/-- 'syngraphlaw02.ShaSums', WHERE WHAT IT READS IS OF BULK AT MOST 1048576: true; the input reads as it did. -/
def shaSumsUptoRow : OpenClaim := { program := "ytkdajlhmodmkoaadoor", sum := "c126833016d9eb8c64eaa5602a7d5588cee96f7bd8167731f72d7fb5441f9171", func := "syngraph/syngraphlaw02.ShaSums", spec := "shaSums", named := ["syngraph/sha.begin", "syngraph/sha.key"], apart := false, laid := [("syngraph/sha.begin", laid_syngraph_sha_begin), ("syngraph/sha.key", laid_syngraph_sha_key)], narrowed := true }
def ShaSumsUptoSaid : Prop := shaSumsUptoRow.holds Tryd.pinned (OpenSpec.upto shaSumsSpec)

/-- 'syngraphlaw02.ShaNodes', WHERE WHAT IT READS IS OF BULK AT MOST 1048576: true; the input reads as it did. -/
def shaNodesUptoRow : OpenClaim := { program := "ytkdajlhmodmkoaadoor", sum := "c126833016d9eb8c64eaa5602a7d5588cee96f7bd8167731f72d7fb5441f9171", func := "syngraph/syngraphlaw02.ShaNodes", spec := "shaNodes", named := ["syngraph/sha.begin", "syngraph/sha.key"], apart := false, laid := [("syngraph/sha.begin", laid_syngraph_sha_begin), ("syngraph/sha.key", laid_syngraph_sha_key)], narrowed := true }
def ShaNodesUptoSaid : Prop := shaNodesUptoRow.holds Tryd.pinned (OpenSpec.upto shaNodesSpec)

/-- 'syngraphlaw02.ShaParts', WHERE WHAT IT READS IS OF BULK AT MOST 1048576: true; the input reads as it did. -/
def shaPartsUptoRow : OpenClaim := { program := "ytkdajlhmodmkoaadoor", sum := "c126833016d9eb8c64eaa5602a7d5588cee96f7bd8167731f72d7fb5441f9171", func := "syngraph/syngraphlaw02.ShaParts", spec := "shaParts", named := ["syngraph/sha.begin", "syngraph/sha.key"], apart := false, laid := [("syngraph/sha.begin", laid_syngraph_sha_begin), ("syngraph/sha.key", laid_syngraph_sha_key)], narrowed := true }
def ShaPartsUptoSaid : Prop := shaPartsUptoRow.holds Tryd.pinned (OpenSpec.upto shaPartsSpec)

/-- 'syngraphlaw02.ShaHex', WHERE WHAT IT READS IS OF BULK AT MOST 1048576: true; the input reads as it did. -/
def shaHexUptoRow : OpenClaim := { program := "ytkdajlhmodmkoaadoor", sum := "c126833016d9eb8c64eaa5602a7d5588cee96f7bd8167731f72d7fb5441f9171", func := "syngraph/syngraphlaw02.ShaHex", spec := "shaHex", named := ["syngraph/sha.begin", "syngraph/sha.key"], apart := false, laid := [("syngraph/sha.begin", laid_syngraph_sha_begin), ("syngraph/sha.key", laid_syngraph_sha_key)], narrowed := true }
def ShaHexUptoSaid : Prop := shaHexUptoRow.holds Tryd.pinned (OpenSpec.upto shaHexSpec)

/-- 'syngraphlaw02.ShaLong', WHERE WHAT IT READS IS OF BULK AT MOST 1048576: true; the input reads as it did. -/
def shaLongUptoRow : OpenClaim := { program := "ytkdajlhmodmkoaadoor", sum := "c126833016d9eb8c64eaa5602a7d5588cee96f7bd8167731f72d7fb5441f9171", func := "syngraph/syngraphlaw02.ShaLong", spec := "shaLong", named := ["syngraph/sha.begin", "syngraph/sha.key"], apart := false, laid := [("syngraph/sha.begin", laid_syngraph_sha_begin), ("syngraph/sha.key", laid_syngraph_sha_key)], narrowed := true }
def ShaLongUptoSaid : Prop := shaLongUptoRow.holds Tryd.pinned (OpenSpec.upto shaLongSpec)

/-- 'syngraphlaw02.ShaRuns', WHERE WHAT IT READS IS OF BULK AT MOST 1048576: true; the input reads as it did. -/
def shaRunsUptoRow : OpenClaim := { program := "ytkdajlhmodmkoaadoor", sum := "c126833016d9eb8c64eaa5602a7d5588cee96f7bd8167731f72d7fb5441f9171", func := "syngraph/syngraphlaw02.ShaRuns", spec := "shaRuns", named := ["syngraph/sha.begin", "syngraph/sha.key"], apart := false, laid := [("syngraph/sha.begin", laid_syngraph_sha_begin), ("syngraph/sha.key", laid_syngraph_sha_key)], narrowed := true }
def ShaRunsUptoSaid : Prop := shaRunsUptoRow.holds Tryd.pinned (OpenSpec.upto shaRunsSpec)

/-- 'syngraphlaw08.TreeRoots', WHERE WHAT IT READS IS OF BULK AT MOST 1048576: true; the input reads as it did. -/
def treeRootsUptoRow : OpenClaim := { program := "ytkdajlhmodmkoaadoor", sum := "c126833016d9eb8c64eaa5602a7d5588cee96f7bd8167731f72d7fb5441f9171", func := "syngraph/syngraphlaw08.TreeRoots", spec := "treeRoots", unfollowed := true, recurses := true, named := ["syngraph/sha.begin", "syngraph/sha.key", "math/bits.deBruijn64tab"], apart := false, laid := [("math/bits.deBruijn64tab", laid_math_bits_deBruijn64tab), ("syngraph/sha.begin", laid_syngraph_sha_begin), ("syngraph/sha.key", laid_syngraph_sha_key)], narrowed := true }
def TreeRootsUptoSaid : Prop := treeRootsUptoRow.holds Tryd.pinned (OpenSpec.upto treeRootsSpec)

/-- 'syngraphlaw08.TreeRanges', WHERE WHAT IT READS IS OF BULK AT MOST 1048576: true; the input reads as it did. -/
def treeRangesUptoRow : OpenClaim := { program := "ytkdajlhmodmkoaadoor", sum := "c126833016d9eb8c64eaa5602a7d5588cee96f7bd8167731f72d7fb5441f9171", func := "syngraph/syngraphlaw08.TreeRanges", spec := "treeRanges", unfollowed := true, recurses := true, named := ["syngraph/sha.begin", "syngraph/sha.key", "math/bits.deBruijn64tab"], apart := false, laid := [("math/bits.deBruijn64tab", laid_math_bits_deBruijn64tab), ("syngraph/sha.begin", laid_syngraph_sha_begin), ("syngraph/sha.key", laid_syngraph_sha_key)], narrowed := true }
def TreeRangesUptoSaid : Prop := treeRangesUptoRow.holds Tryd.pinned (OpenSpec.upto treeRangesSpec)

/-- 'syngraphlaw08.TreeTops', WHERE WHAT IT READS IS OF BULK AT MOST 1048576: true; the input reads as it did. -/
def treeTopsUptoRow : OpenClaim := { program := "ytkdajlhmodmkoaadoor", sum := "c126833016d9eb8c64eaa5602a7d5588cee96f7bd8167731f72d7fb5441f9171", func := "syngraph/syngraphlaw08.TreeTops", spec := "treeTops", unfollowed := true, recurses := true, named := ["syngraph/sha.begin", "syngraph/sha.key", "math/bits.deBruijn64tab"], apart := false, laid := [("math/bits.deBruijn64tab", laid_math_bits_deBruijn64tab), ("syngraph/sha.begin", laid_syngraph_sha_begin), ("syngraph/sha.key", laid_syngraph_sha_key)], narrowed := true }
def TreeTopsUptoSaid : Prop := treeTopsUptoRow.holds Tryd.pinned (OpenSpec.upto treeTopsSpec)

/-- 'syngraphlaw08.TreeParts', WHERE WHAT IT READS IS OF BULK AT MOST 1048576: true; the input reads as it did. -/
def treePartsUptoRow : OpenClaim := { program := "ytkdajlhmodmkoaadoor", sum := "c126833016d9eb8c64eaa5602a7d5588cee96f7bd8167731f72d7fb5441f9171", func := "syngraph/syngraphlaw08.TreeParts", spec := "treeParts", unfollowed := true, recurses := true, named := ["syngraph/sha.begin", "syngraph/sha.key", "math/bits.deBruijn64tab"], apart := false, laid := [("math/bits.deBruijn64tab", laid_math_bits_deBruijn64tab), ("syngraph/sha.begin", laid_syngraph_sha_begin), ("syngraph/sha.key", laid_syngraph_sha_key)], narrowed := true }
def TreePartsUptoSaid : Prop := treePartsUptoRow.holds Tryd.pinned (OpenSpec.upto treePartsSpec)

/-- 'syngraphlaw08.TreeKeeps', WHERE WHAT IT READS IS OF BULK AT MOST 1048576: true; the input reads as it did. -/
def treeKeepsUptoRow : OpenClaim := { program := "ytkdajlhmodmkoaadoor", sum := "c126833016d9eb8c64eaa5602a7d5588cee96f7bd8167731f72d7fb5441f9171", func := "syngraph/syngraphlaw08.TreeKeeps", spec := "treeKeeps", unfollowed := true, recurses := true, named := ["syngraph/sha.begin", "syngraph/sha.key", "math/bits.deBruijn64tab"], apart := false, laid := [("math/bits.deBruijn64tab", laid_math_bits_deBruijn64tab), ("syngraph/sha.begin", laid_syngraph_sha_begin), ("syngraph/sha.key", laid_syngraph_sha_key)], narrowed := true }
def TreeKeepsUptoSaid : Prop := treeKeepsUptoRow.holds Tryd.pinned (OpenSpec.upto treeKeepsSpec)

/-- 'syngraphlaw08.TreePeaks', WHERE WHAT IT READS IS OF BULK AT MOST 1048576: true; the input reads as it did. -/
def treePeaksUptoRow : OpenClaim := { program := "ytkdajlhmodmkoaadoor", sum := "c126833016d9eb8c64eaa5602a7d5588cee96f7bd8167731f72d7fb5441f9171", func := "syngraph/syngraphlaw08.TreePeaks", spec := "treePeaks", unfollowed := true, recurses := true, named := ["syngraph/sha.begin", "syngraph/sha.key", "math/bits.deBruijn64tab"], apart := false, laid := [("math/bits.deBruijn64tab", laid_math_bits_deBruijn64tab), ("syngraph/sha.begin", laid_syngraph_sha_begin), ("syngraph/sha.key", laid_syngraph_sha_key)], narrowed := true }
def TreePeaksUptoSaid : Prop := treePeaksUptoRow.holds Tryd.pinned (OpenSpec.upto treePeaksSpec)

/-- 'syngraphlaw09.ProofTells', WHERE WHAT IT READS IS OF BULK AT MOST 1048576: true; the input reads as it did. -/
def proofTellsUptoRow : OpenClaim := { program := "ytkdajlhmodmkoaadoor", sum := "c126833016d9eb8c64eaa5602a7d5588cee96f7bd8167731f72d7fb5441f9171", func := "syngraph/syngraphlaw09.ProofTells", spec := "proofTells", unfollowed := true, recurses := true, named := ["syngraph/sha.begin", "syngraph/sha.key"], apart := false, laid := [("syngraph/sha.begin", laid_syngraph_sha_begin), ("syngraph/sha.key", laid_syngraph_sha_key)], narrowed := true }
def ProofTellsUptoSaid : Prop := proofTellsUptoRow.holds Tryd.pinned (OpenSpec.upto proofTellsSpec)

/-- 'syngraphlaw09.ProofAudits', WHERE WHAT IT READS IS OF BULK AT MOST 1048576: true; the input reads as it did. -/
def proofAuditsUptoRow : OpenClaim := { program := "ytkdajlhmodmkoaadoor", sum := "c126833016d9eb8c64eaa5602a7d5588cee96f7bd8167731f72d7fb5441f9171", func := "syngraph/syngraphlaw09.ProofAudits", spec := "proofAudits", unfollowed := true, recurses := true, named := ["syngraph/sha.begin", "syngraph/sha.key"], apart := false, laid := [("syngraph/sha.begin", laid_syngraph_sha_begin), ("syngraph/sha.key", laid_syngraph_sha_key)], narrowed := true }
def ProofAuditsUptoSaid : Prop := proofAuditsUptoRow.holds Tryd.pinned (OpenSpec.upto proofAuditsSpec)

/-- 'syngraphlaw09.ProofBridges', WHERE WHAT IT READS IS OF BULK AT MOST 1048576: true; the input reads as it did. -/
def proofBridgesUptoRow : OpenClaim := { program := "ytkdajlhmodmkoaadoor", sum := "c126833016d9eb8c64eaa5602a7d5588cee96f7bd8167731f72d7fb5441f9171", func := "syngraph/syngraphlaw09.ProofBridges", spec := "proofBridges", unfollowed := true, recurses := true, named := ["syngraph/sha.begin", "syngraph/sha.key"], apart := false, laid := [("syngraph/sha.begin", laid_syngraph_sha_begin), ("syngraph/sha.key", laid_syngraph_sha_key)], narrowed := true }
def ProofBridgesUptoSaid : Prop := proofBridgesUptoRow.holds Tryd.pinned (OpenSpec.upto proofBridgesSpec)

/-- 'syngraphlaw09.ProofPaths', WHERE WHAT IT READS IS OF BULK AT MOST 1048576: true; the input reads as it did. -/
def proofPathsUptoRow : OpenClaim := { program := "ytkdajlhmodmkoaadoor", sum := "c126833016d9eb8c64eaa5602a7d5588cee96f7bd8167731f72d7fb5441f9171", func := "syngraph/syngraphlaw09.ProofPaths", spec := "proofPaths", unfollowed := true, recurses := true, named := ["syngraph/sha.begin", "syngraph/sha.key"], apart := false, laid := [("syngraph/sha.begin", laid_syngraph_sha_begin), ("syngraph/sha.key", laid_syngraph_sha_key)], narrowed := true }
def ProofPathsUptoSaid : Prop := proofPathsUptoRow.holds Tryd.pinned (OpenSpec.upto proofPathsSpec)

/-- 'syngraphlaw09.ProofClash', WHERE WHAT IT READS IS OF BULK AT MOST 1048576: true; the input reads as it did. -/
def proofClashUptoRow : OpenClaim := { program := "ytkdajlhmodmkoaadoor", sum := "c126833016d9eb8c64eaa5602a7d5588cee96f7bd8167731f72d7fb5441f9171", func := "syngraph/syngraphlaw09.ProofClash", spec := "proofClash", unfollowed := true, recurses := true, named := ["syngraph/sha.begin", "syngraph/sha.key"], apart := false, laid := [("syngraph/sha.begin", laid_syngraph_sha_begin), ("syngraph/sha.key", laid_syngraph_sha_key)], narrowed := true }
def ProofClashUptoSaid : Prop := proofClashUptoRow.holds Tryd.pinned (OpenSpec.upto proofClashSpec)

/-- 'syngraphlaw09.ProofSound', WHERE WHAT IT READS IS OF BULK AT MOST 1048576: true; the input reads as it did. -/
def proofSoundUptoRow : OpenClaim := { program := "ytkdajlhmodmkoaadoor", sum := "c126833016d9eb8c64eaa5602a7d5588cee96f7bd8167731f72d7fb5441f9171", func := "syngraph/syngraphlaw09.ProofSound", spec := "proofSound", unfollowed := true, recurses := true, named := ["syngraph/sha.begin", "syngraph/sha.key"], apart := false, laid := [("syngraph/sha.begin", laid_syngraph_sha_begin), ("syngraph/sha.key", laid_syngraph_sha_key)], narrowed := true }
def ProofSoundUptoSaid : Prop := proofSoundUptoRow.holds Tryd.pinned (OpenSpec.upto proofSoundSpec)

/-- 'syngraphlaw09.ProofLong', WHERE WHAT IT READS IS OF BULK AT MOST 1048576: true; the input reads as it did. -/
def proofLongUptoRow : OpenClaim := { program := "ytkdajlhmodmkoaadoor", sum := "c126833016d9eb8c64eaa5602a7d5588cee96f7bd8167731f72d7fb5441f9171", func := "syngraph/syngraphlaw09.ProofLong", spec := "proofLong", unfollowed := true, recurses := true, named := ["syngraph/sha.begin", "syngraph/sha.key"], apart := false, laid := [("syngraph/sha.begin", laid_syngraph_sha_begin), ("syngraph/sha.key", laid_syngraph_sha_key)], narrowed := true }
def ProofLongUptoSaid : Prop := proofLongUptoRow.holds Tryd.pinned (OpenSpec.upto proofLongSpec)

end Rows
end Go.Proofs.YtkdajlhmodmkoaaDoor
