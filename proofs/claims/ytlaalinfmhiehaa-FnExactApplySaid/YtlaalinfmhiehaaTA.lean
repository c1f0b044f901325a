/- What the functions of the laws are given and give back, and their names on values; no condition. -/
import Derived.Test.YtlaalinfmhiehaaVmd
import Derived.Test.YtlaalinfmhiehaaVC
import Derived.Tactics
namespace Go.Proofs.Ytlaalinfmhiehaa
open Go.VK AVal

/-- laws.FnExactEdited -/
def sg4 : Sig := { i := { vs := [.str, .agg [.int .i64, .int .i64, .str]] }, o := { vs := [.bool] } }
/-- laws.szTextEdit -/
def sg15 : Sig := { i := { vs := [.agg [.int .i64, .int .i64, .str], .int .i64] }, o := { vs := [.int .i64] } }
/-- laws.toTextEdit -/
def sg17 : Sig := { i := { vs := [.agg [.int .i64, .int .i64, .str]] }, o := { vs := [.agg [.int .i64, .int .i64, .str]] } }
/-- spec.Edited -/
def sg16 : Sig := { i := { vs := [.str, .agg [.int .i64, .int .i64, .str]] }, o := { vs := [.str, .int .i64] } }
/-- impl.Edited -/
def sg18 : Sig := { i := { vs := [.str, .agg [.int .i64, .int .i64, .str]] }, o := { vs := [.str, .int .i64] } }
/-- spec.l01Between -/
def sg61 : Sig := { i := { vs := [.int .i64, .int .i64, .int .i64] }, o := { vs := [.bool] } }
/-- laws.FnExactApply -/
def sg5 : Sig := { i := { vs := [.ro false 1, .ro false 2] }, o := { vs := [.bool] } }
/-- laws.szEditS -/
def sg19 : Sig := { i := { vs := [.ro false 2, .int .i64] }, o := { vs := [.int .i64] } }
/-- laws.toIntS -/
def sg21 : Sig := { i := { vs := [.ro false 1] }, o := { vs := [.own 1] } }
/-- laws.toEditS -/
def sg22 : Sig := { i := { vs := [.ro false 2] }, o := { vs := [.own 2] } }
/-- spec.Apply -/
def sg20 : Sig := { i := { vs := [.ro false 1, .ro false 2] }, o := { vs := [.ro false 1, .int .i64] } }
/-- impl.Apply -/
def sg23 : Sig := { i := { vs := [.ro false 1, .ro false 2] }, o := { vs := [.own 1, .int .i64] } }
/-- laws.eqIntS -/
def sg24 : Sig := { i := { vs := [.ro false 1, .ro false 1] }, o := { vs := [.bool] } }
/-- laws.eqEditS -/
def sg25 : Sig := { i := { vs := [.ro false 2, .ro false 2] }, o := { vs := [.bool] } }
/-- laws.markIntS -/
def sg26 : Sig := { i := { vs := [.ref 0 [], .int .i64], os := [(false, .own 1)] }, o := { vs := [.int .i64], os := [(false, .own 1)] } }
/-- laws.markEditS -/
def sg27 : Sig := { i := { vs := [.ref 0 [], .int .i64], os := [(false, .own 2)] }, o := { vs := [.int .i64], os := [(false, .own 2)] } }
/-- laws.heldIntS -/
def sg28 : Sig := { i := { vs := [.ro false 1, .int .i64] }, o := { vs := [.int .i64] } }
/-- laws.toEdit -/
def sg62 : Sig := { i := { vs := [.agg [.int .i64, .int .i64]] }, o := { vs := [.agg [.int .i64, .int .i64]] } }
/-- laws.eqEdit -/
def sg63 : Sig := { i := { vs := [.agg [.int .i64, .int .i64], .agg [.int .i64, .int .i64]] }, o := { vs := [.bool] } }
/-- laws.FnExactTreeOK -/
def sg6 : Sig := { i := { vs := [.agg [.str, .str, .bool, .ro false 4]] }, o := { vs := [.bool] } }
/-- laws.szTree -/
def sg29 : Sig := { i := { vs := [.agg [.str, .str, .bool, .ro false 4], .int .i64] }, o := { vs := [.int .i64] } }
/-- laws.toTree -/
def sg31 : Sig := { i := { vs := [.agg [.str, .str, .bool, .ro false 4]] }, o := { vs := [.agg [.str, .str, .bool, .own 4]] } }
/-- spec.TreeOK -/
def sg30 : Sig := { i := { vs := [.agg [.str, .str, .bool, .ro false 4]] }, o := { vs := [.bool] } }
/-- impl.TreeOK -/
def sg32 : Sig := { i := { vs := [.agg [.str, .str, .bool, .ro false 4]] }, o := { vs := [.bool] } }
/-- laws.eqTree -/
def sg33 : Sig := { i := { vs := [.agg [.str, .str, .bool, .ro false 4], .agg [.str, .str, .bool, .ro false 4]] }, o := { vs := [.bool] } }
/-- laws.szTreeS -/
def sg64 : Sig := { i := { vs := [.ro false 4, .int .i64] }, o := { vs := [.int .i64] } }
/-- laws.toTreeS -/
def sg67 : Sig := { i := { vs := [.ro false 4] }, o := { vs := [.own 4] } }
/-- spec.l01Room -/
def sg65 : Sig := { i := { vs := [.agg [.str, .str, .bool, .ro false 4], .int .i64, .int .i64] }, o := { vs := [.int .i64] } }
/-- spec.l01Right -/
def sg66 : Sig := { i := { vs := [.agg [.str, .str, .bool, .ro false 4]] }, o := { vs := [.bool] } }
/-- impl.measure -/
def sg68 : Sig := { i := { vs := [.agg [.str, .str, .bool, .ro false 4], .int .i64, .ptr 0 [] none, .ptr 1 [] none], os := [(true, .int .i64), (true, .int .i64)] }, o := { vs := [.bool], os := [(true, .int .i64), (true, .int .i64)] } }
/-- laws.eqTreeS -/
def sg69 : Sig := { i := { vs := [.ro false 4, .ro false 4] }, o := { vs := [.bool] } }
/-- spec.l01Name -/
def sg108 : Sig := { i := { vs := [.str] }, o := { vs := [.bool] } }
/-- impl.nameOK -/
def sg87 : Sig := { i := { vs := [.str] }, o := { vs := [.bool] } }
/-- spec.l01Letter -/
def sg124 : Sig := { i := { vs := [.int .u8] }, o := { vs := [.bool] } }
/-- spec.l01NameByte -/
def sg125 : Sig := { i := { vs := [.int .u8] }, o := { vs := [.bool] } }
/-- impl.isLetter -/
def sg114 : Sig := { i := { vs := [.int .u8] }, o := { vs := [.bool] } }
/-- impl.inName -/
def sg115 : Sig := { i := { vs := [.int .u8] }, o := { vs := [.bool] } }
/-- spec.l01Digit -/
def sg131 : Sig := { i := { vs := [.int .u8] }, o := { vs := [.bool] } }
/-- impl.isDigit -/
def sg127 : Sig := { i := { vs := [.int .u8] }, o := { vs := [.bool] } }
/-- laws.FnExactTreeSize -/
def sg7 : Sig := { i := { vs := [.agg [.str, .str, .bool, .ro false 4]] }, o := { vs := [.bool] } }
/-- spec.TreeSize -/
def sg34 : Sig := { i := { vs := [.agg [.str, .str, .bool, .ro false 4]] }, o := { vs := [.int .i64, .int .i64, .int .i64] } }
/-- impl.TreeSize -/
def sg35 : Sig := { i := { vs := [.agg [.str, .str, .bool, .ro false 4]] }, o := { vs := [.int .i64, .int .i64, .int .i64] } }
/-- spec.l01Count -/
def sg70 : Sig := { i := { vs := [.agg [.str, .str, .bool, .ro false 4]] }, o := { vs := [.int .i64] } }
/-- spec.l01Deep -/
def sg71 : Sig := { i := { vs := [.agg [.str, .str, .bool, .ro false 4]] }, o := { vs := [.int .i64] } }
/-- laws.FnExactDfaRun -/
def sg8 : Sig := { i := { vs := [.agg [.ro false 1, .ro false 1, .ro false 1], .str, .int .i64] }, o := { vs := [.bool] } }
/-- laws.szDfa -/
def sg36 : Sig := { i := { vs := [.agg [.ro false 1, .ro false 1, .ro false 1], .int .i64] }, o := { vs := [.int .i64] } }
/-- laws.toDfa -/
def sg38 : Sig := { i := { vs := [.agg [.ro false 1, .ro false 1, .ro false 1]] }, o := { vs := [.agg [.ro false 1, .ro false 1, .ro false 1]] } }
/-- spec.DfaRun -/
def sg37 : Sig := { i := { vs := [.agg [.ro false 1, .ro false 1, .ro false 1], .str, .int .i64] }, o := { vs := [.int .i64, .int .i64, .int .i64, .int .i64] } }
/-- impl.DfaRun -/
def sg39 : Sig := { i := { vs := [.agg [.ro false 1, .ro false 1, .ro false 1], .str, .int .i64] }, o := { vs := [.int .i64, .int .i64, .int .i64, .int .i64] } }
/-- laws.eqDfa -/
def sg40 : Sig := { i := { vs := [.agg [.ro false 1, .ro false 1, .ro false 1], .agg [.ro false 1, .ro false 1, .ro false 1]] }, o := { vs := [.bool] } }
/-- laws.szIntS -/
def sg72 : Sig := { i := { vs := [.ro false 1, .int .i64] }, o := { vs := [.int .i64] } }
/-- laws.szIntSS -/
def sg73 : Sig := { i := { vs := [.ro false 1, .int .i64] }, o := { vs := [.int .i64] } }
/-- laws.toIntSS -/
def sg75 : Sig := { i := { vs := [.ro false 1] }, o := { vs := [.ro false 1] } }
/-- spec.l02DfaOK -/
def sg74 : Sig := { i := { vs := [.agg [.ro false 1, .ro false 1, .ro false 1]] }, o := { vs := [.bool] } }
/-- impl.dfaOK -/
def sg76 : Sig := { i := { vs := [.agg [.ro false 1, .ro false 1, .ro false 1]] }, o := { vs := [.bool] } }
/-- impl.run -/
def sg77 : Sig := { i := { vs := [.agg [.ro false 1, .ro false 1, .ro false 1], .str, .int .i64] }, o := { vs := [.int .i64, .int .i64, .int .i64] } }
/-- laws.eqIntSS -/
def sg78 : Sig := { i := { vs := [.ro false 1, .ro false 1] }, o := { vs := [.bool] } }
/-- laws.FnExactTreeYield -/
def sg9 : Sig := { i := { vs := [.agg [.str, .str, .bool, .ro false 4]] }, o := { vs := [.bool] } }
/-- spec.TreeYield -/
def sg41 : Sig := { i := { vs := [.agg [.str, .str, .bool, .ro false 4]] }, o := { vs := [.str, .int .i64] } }
/-- impl.TreeYield -/
def sg42 : Sig := { i := { vs := [.agg [.str, .str, .bool, .ro false 4]] }, o := { vs := [.str, .int .i64] } }
/-- spec.l01Yield -/
def sg79 : Sig := { i := { vs := [.agg [.str, .str, .bool, .ro false 4]] }, o := { vs := [.str] } }
/-- impl.yield -/
def sg80 : Sig := { i := { vs := [.agg [.str, .str, .bool, .ro false 4]] }, o := { vs := [.str] } }
/-- laws.FnExactSgOK -/
def sg10 : Sig := { i := { vs := [.agg [.int .i64, .ro false 3, .ro false 2, .ro false 2]] }, o := { vs := [.bool] } }
/-- laws.szSg -/
def sg43 : Sig := { i := { vs := [.agg [.int .i64, .ro false 3, .ro false 2, .ro false 2], .int .i64] }, o := { vs := [.int .i64] } }
/-- laws.toSg -/
def sg45 : Sig := { i := { vs := [.agg [.int .i64, .ro false 3, .ro false 2, .ro false 2]] }, o := { vs := [.agg [.int .i64, .ro false 3, .ro false 2, .ro false 2]] } }
/-- spec.SgOK -/
def sg44 : Sig := { i := { vs := [.agg [.int .i64, .ro false 3, .ro false 2, .ro false 2]] }, o := { vs := [.bool] } }
/-- impl.SgOK -/
def sg46 : Sig := { i := { vs := [.agg [.int .i64, .ro false 3, .ro false 2, .ro false 2]] }, o := { vs := [.bool] } }
/-- laws.eqSg -/
def sg47 : Sig := { i := { vs := [.agg [.int .i64, .ro false 3, .ro false 2, .ro false 2], .agg [.int .i64, .ro false 3, .ro false 2, .ro false 2]] }, o := { vs := [.bool] } }
/-- laws.szSEdgeS -/
def sg81 : Sig := { i := { vs := [.ro false 3, .int .i64] }, o := { vs := [.int .i64] } }
/-- laws.szSpotS -/
def sg82 : Sig := { i := { vs := [.ro false 2, .int .i64] }, o := { vs := [.int .i64] } }
/-- laws.toSEdgeS -/
def sg84 : Sig := { i := { vs := [.ro false 3] }, o := { vs := [.ro false 3] } }
/-- laws.toSpotS -/
def sg85 : Sig := { i := { vs := [.ro false 2] }, o := { vs := [.ro false 2] } }
/-- spec.l12Spots -/
def sg83 : Sig := { i := { vs := [.ro false 2, .int .i64] }, o := { vs := [.bool] } }
/-- impl.SgOK$1 -/
def sg86 : Sig := { i := { vs := [.int .i64, .ptr 0 [] none], os := [(true, .agg [.int .i64, .ro false 3, .ro false 2, .ro false 2])] }, o := { vs := [.bool], os := [(true, .agg [.int .i64, .ro false 3, .ro false 2, .ro false 2])] } }
/-- laws.eqSEdgeS -/
def sg88 : Sig := { i := { vs := [.ro false 3, .ro false 3] }, o := { vs := [.bool] } }
/-- laws.eqSpotS -/
def sg89 : Sig := { i := { vs := [.ro false 2, .ro false 2] }, o := { vs := [.bool] } }
/-- laws.szSpot -/
def sg111 : Sig := { i := { vs := [.agg [.int .i64, .str], .int .i64] }, o := { vs := [.int .i64] } }
/-- laws.toSEdge -/
def sg112 : Sig := { i := { vs := [.agg [.int .i64, .int .i64, .int .i64]] }, o := { vs := [.agg [.int .i64, .int .i64, .int .i64]] } }
/-- laws.toSpot -/
def sg113 : Sig := { i := { vs := [.agg [.int .i64, .str]] }, o := { vs := [.agg [.int .i64, .str]] } }
/-- laws.eqSEdge -/
def sg116 : Sig := { i := { vs := [.agg [.int .i64, .int .i64, .int .i64], .agg [.int .i64, .int .i64, .int .i64]] }, o := { vs := [.bool] } }
/-- laws.eqSpot -/
def sg117 : Sig := { i := { vs := [.agg [.int .i64, .str], .agg [.int .i64, .str]] }, o := { vs := [.bool] } }
/-- laws.FnExactTermOK -/
def sg11 : Sig := { i := { vs := [.agg [.str, .str, .bool, .ro false 4]] }, o := { vs := [.bool] } }
/-- spec.TermOK -/
def sg48 : Sig := { i := { vs := [.agg [.str, .str, .bool, .ro false 4]] }, o := { vs := [.bool] } }
/-- impl.TermOK -/
def sg49 : Sig := { i := { vs := [.agg [.str, .str, .bool, .ro false 4]] }, o := { vs := [.bool] } }
/-- spec.l12Term -/
def sg90 : Sig := { i := { vs := [.agg [.str, .str, .bool, .ro false 4]] }, o := { vs := [.bool] } }
/-- impl.termForm -/
def sg91 : Sig := { i := { vs := [.agg [.str, .str, .bool, .ro false 4]] }, o := { vs := [.bool] } }
/-- spec.l12Num -/
def sg118 : Sig := { i := { vs := [.str] }, o := { vs := [.bool] } }
/-- impl.numOK -/
def sg119 : Sig := { i := { vs := [.str] }, o := { vs := [.bool] } }
/-- spec.l03Bytes -/
def sg128 : Sig := { i := { vs := [.str, .int .u8, .int .u8] }, o := { vs := [.bool] } }
/-- laws.FnExactTreeAt -/
def sg12 : Sig := { i := { vs := [.agg [.str, .str, .bool, .ro false 4], .ro false 1] }, o := { vs := [.bool] } }
/-- spec.TreeAt -/
def sg50 : Sig := { i := { vs := [.agg [.str, .str, .bool, .ro false 4], .ro false 1] }, o := { vs := [.agg [.str, .str, .bool, .ro false 4], .int .i64] } }
/-- impl.TreeAt -/
def sg51 : Sig := { i := { vs := [.agg [.str, .str, .bool, .ro false 4], .ro false 1] }, o := { vs := [.agg [.str, .str, .bool, .own 4], .int .i64] } }
/-- laws.markTree -/
def sg52 : Sig := { i := { vs := [.agg [.str, .str, .bool, .ref 0 []], .int .i64], os := [(false, .own 4)] }, o := { vs := [.int .i64], os := [(false, .own 4)] } }
/-- laws.heldTree -/
def sg53 : Sig := { i := { vs := [.agg [.str, .str, .bool, .ro false 4], .int .i64] }, o := { vs := [.int .i64] } }
/-- spec.l01Leads -/
def sg92 : Sig := { i := { vs := [.agg [.str, .str, .bool, .ro false 4], .ro false 1] }, o := { vs := [.bool] } }
/-- spec.l01At -/
def sg94 : Sig := { i := { vs := [.agg [.str, .str, .bool, .ro false 4], .ro false 1] }, o := { vs := [.agg [.str, .str, .bool, .ro false 4]] } }
/-- spec.l01Copy -/
def sg93 : Sig := { i := { vs := [.agg [.str, .str, .bool, .ro false 4]] }, o := { vs := [.agg [.str, .str, .bool, .ro false 4]] } }
/-- impl.at -/
def sg95 : Sig := { i := { vs := [.agg [.str, .str, .bool, .ro false 4], .ro false 1] }, o := { vs := [.agg [.str, .str, .bool, .ro false 4], .bool] } }
/-- impl.copyTree -/
def sg96 : Sig := { i := { vs := [.agg [.str, .str, .bool, .ro false 4]] }, o := { vs := [.agg [.str, .str, .bool, .own 4]] } }
/-- laws.markTreeS -/
def sg97 : Sig := { i := { vs := [.ref 0 [], .int .i64], os := [(false, .own 4)] }, o := { vs := [.int .i64], os := [(false, .own 4)] } }
/-- laws.heldTreeS -/
def sg98 : Sig := { i := { vs := [.ro false 4, .int .i64] }, o := { vs := [.int .i64] } }
/-- laws.markText -/
def sg122 : Sig := { i := { vs := [.int .i64] }, o := { vs := [.str] } }
/-- laws.FnExactLayoutOK -/
def sg13 : Sig := { i := { vs := [.ro false 4] }, o := { vs := [.bool] } }
/-- laws.szLNodeS -/
def sg54 : Sig := { i := { vs := [.ro false 4, .int .i64] }, o := { vs := [.int .i64] } }
/-- laws.toLNodeS -/
def sg56 : Sig := { i := { vs := [.ro false 4] }, o := { vs := [.ro false 4] } }
/-- spec.LayoutOK -/
def sg55 : Sig := { i := { vs := [.ro false 4] }, o := { vs := [.bool] } }
/-- impl.LayoutOK -/
def sg57 : Sig := { i := { vs := [.ro false 4] }, o := { vs := [.bool] } }
/-- laws.eqLNodeS -/
def sg58 : Sig := { i := { vs := [.ro false 4, .ro false 4] }, o := { vs := [.bool] } }
/-- laws.szLNode -/
def sg99 : Sig := { i := { vs := [.agg [.int .i64, .str, .int .i64, .ro false 1], .int .i64] }, o := { vs := [.int .i64] } }
/-- laws.toLNode -/
def sg102 : Sig := { i := { vs := [.agg [.int .i64, .str, .int .i64, .ro false 1]] }, o := { vs := [.agg [.int .i64, .str, .int .i64, .ro false 1]] } }
/-- spec.l14Groups -/
def sg100 : Sig := { i := { vs := [.ro false 4] }, o := { vs := [.int .i64] } }
/-- spec.l02In -/
def sg101 : Sig := { i := { vs := [.str, .int .u8] }, o := { vs := [.bool] } }
/-- impl.groups -/
def sg103 : Sig := { i := { vs := [.ro false 4] }, o := { vs := [.int .i64] } }
/-- laws.eqLNode -/
def sg105 : Sig := { i := { vs := [.agg [.int .i64, .str, .int .i64, .ro false 1], .agg [.int .i64, .str, .int .i64, .ro false 1]] }, o := { vs := [.bool] } }
/-- laws.FnExactTreePut -/
def sg14 : Sig := { i := { vs := [.agg [.str, .str, .bool, .ro false 4], .ro false 1, .agg [.str, .str, .bool, .ro false 4]] }, o := { vs := [.bool] } }
/-- spec.TreePut -/
def sg59 : Sig := { i := { vs := [.agg [.str, .str, .bool, .ro false 4], .ro false 1, .agg [.str, .str, .bool, .ro false 4]] }, o := { vs := [.agg [.str, .str, .bool, .ro false 4], .int .i64] } }
/-- impl.TreePut -/
def sg60 : Sig := { i := { vs := [.agg [.str, .str, .bool, .ro false 4], .ro false 1, .agg [.str, .str, .bool, .ro false 4]] }, o := { vs := [.agg [.str, .str, .bool, .own 4], .int .i64] } }
/-- spec.l01Put -/
def sg106 : Sig := { i := { vs := [.agg [.str, .str, .bool, .ro false 4], .ro false 1, .agg [.str, .str, .bool, .ro false 4]] }, o := { vs := [.agg [.str, .str, .bool, .ro false 4]] } }
/-- impl.put -/
def sg107 : Sig := { i := { vs := [.agg [.str, .str, .bool, .ro false 4], .ro false 1, .agg [.str, .str, .bool, .ro false 4]] }, o := { vs := [.agg [.str, .str, .bool, .own 4]] } }
def sigs : List (Nat × Sig) := [(4, sg4), (15, sg15), (17, sg17), (16, sg16), (18, sg18), (61, sg61), (5, sg5), (19, sg19), (21, sg21), (22, sg22), (20, sg20), (23, sg23), (24, sg24), (25, sg25), (26, sg26), (27, sg27), (28, sg28), (62, sg62), (63, sg63), (6, sg6), (29, sg29), (31, sg31), (30, sg30), (32, sg32), (33, sg33), (64, sg64), (67, sg67), (65, sg65), (66, sg66), (68, sg68), (69, sg69), (108, sg108), (87, sg87), (124, sg124), (125, sg125), (114, sg114), (115, sg115), (131, sg131), (127, sg127), (7, sg7), (34, sg34), (35, sg35), (70, sg70), (71, sg71), (8, sg8), (36, sg36), (38, sg38), (37, sg37), (39, sg39), (40, sg40), (72, sg72), (73, sg73), (75, sg75), (74, sg74), (76, sg76), (77, sg77), (78, sg78), (9, sg9), (41, sg41), (42, sg42), (79, sg79), (80, sg80), (10, sg10), (43, sg43), (45, sg45), (44, sg44), (46, sg46), (47, sg47), (81, sg81), (82, sg82), (84, sg84), (85, sg85), (83, sg83), (86, sg86), (88, sg88), (89, sg89), (111, sg111), (112, sg112), (113, sg113), (116, sg116), (117, sg117), (11, sg11), (48, sg48), (49, sg49), (90, sg90), (91, sg91), (118, sg118), (119, sg119), (128, sg128), (12, sg12), (50, sg50), (51, sg51), (52, sg52), (53, sg53), (92, sg92), (94, sg94), (93, sg93), (95, sg95), (96, sg96), (97, sg97), (98, sg98), (122, sg122), (13, sg13), (54, sg54), (56, sg56), (55, sg55), (57, sg57), (58, sg58), (99, sg99), (102, sg102), (100, sg100), (101, sg101), (103, sg103), (105, sg105), (14, sg14), (59, sg59), (60, sg60), (106, sg106), (107, sg107)]
noncomputable def F4 (x0 : ByteArray) (x1 : Int) (x2 : Int) (x3 : ByteArray) : Option (Bool) := FnV ctx 4 sg4 (x0, x1, x2, x3)
def ls4 : List LSig := []
noncomputable def F15 (x0 : Int) (x1 : Int) (x2 : ByteArray) (x3 : Int) : Option (Int) := FnV ctx 15 sg15 (x0, x1, x2, x3)
def ls15 : List LSig := []
noncomputable def F17 (x0 : Int) (x1 : Int) (x2 : ByteArray) : Option (Int × Int × ByteArray) := FnV ctx 17 sg17 (x0, x1, x2)
def ls17 : List LSig := []
noncomputable def F16 (x0 : ByteArray) (x1 : Int) (x2 : Int) (x3 : ByteArray) : Option (ByteArray × Int) := FnV ctx 16 sg16 (x0, x1, x2, x3)
def ls16 : List LSig := []
noncomputable def F18 (x0 : ByteArray) (x1 : Int) (x2 : Int) (x3 : ByteArray) : Option (ByteArray × Int) := FnV ctx 18 sg18 (x0, x1, x2, x3)
def ls18 : List LSig := []
noncomputable def F61 (x0 : Int) (x1 : Int) (x2 : Int) : Option (Bool) := FnV ctx 61 sg61 (x0, x1, x2)
def ls61 : List LSig := []
noncomputable def F5 (x0 : List AVal) (x1 : List AVal) : Option (Bool) := FnV ctx 5 sg5 (x0, x1)
def ls5 : List LSig := []
noncomputable def F19 (x0 : List AVal) (x1 : Int) : Option (Int) := FnV ctx 19 sg19 (x0, x1)
def ls19 : List LSig := []
noncomputable def F21 (x0 : List AVal) : Option (List AVal) := FnV ctx 21 sg21 x0
def X21_0 : List Ex := [{ out := .exit 0, st := { env := [(3, .ref 3 [])], objs := [(3, false, .own 1)] } }]
def S21_0 : SP := { env := [(0, .ro false 1), (3, .ref 3 []), (4, .int .i64)], objs := [(3, false, .own 1)] }
noncomputable def L21_0 (x0 : List AVal) (x1 : Int) (x2 : List AVal) : Option (List AVal) := LpV ctx fn21 0 0 X21_0 S21_0 (x0, x1, x2)
def ls21 : List LSig := [{ h := 0, X := X21_0, Ss := [S21_0] }]
noncomputable def F22 (x0 : List AVal) : Option (List AVal) := FnV ctx 22 sg22 x0
def X22_0 : List Ex := [{ out := .exit 0, st := { env := [(3, .ref 3 [])], objs := [(3, false, .own 2)] } }]
def S22_0 : SP := { env := [(0, .ro false 2), (3, .ref 3 []), (4, .int .i64)], objs := [(3, false, .own 2)] }
noncomputable def L22_0 (x0 : List AVal) (x1 : Int) (x2 : List AVal) : Option (List AVal) := LpV ctx fn22 0 0 X22_0 S22_0 (x0, x1, x2)
def ls22 : List LSig := [{ h := 0, X := X22_0, Ss := [S22_0] }]
noncomputable def F20 (x0 : List AVal) (x1 : List AVal) : Option (List AVal × Int) := FnV ctx 20 sg20 (x0, x1)
def X20_0 : List Ex := [{ out := .ret, st := { env := [(4, .ref 4 []), (5, .int .i64)], objs := [(4, false, .own 1)] } }, { out := .exit 0, st := { env := [(0, .ro false 1), (6, .ref 6 []), (7, .int .i64)], objs := [(6, false, .own 1)] } }]
def S20_0 : SP := { env := [(0, .ro false 1), (1, .ro false 2), (6, .ref 6 []), (7, .int .i64), (8, .int .i64)], objs := [(6, false, .own 1)] }
noncomputable def L20_0 (x0 : List AVal) (x1 : List AVal) (x2 : Int) (x3 : Int) (x4 : List AVal) : Option ((Int × List AVal) ⊕ (List AVal × Int × List AVal)) := LpV ctx fn20 0 0 X20_0 S20_0 (x0, x1, x2, x3, x4)
def ls20 : List LSig := [{ h := 0, X := X20_0, Ss := [S20_0] }]
noncomputable def F23 (x0 : List AVal) (x1 : List AVal) : Option (List AVal × Int) := FnV ctx 23 sg23 (x0, x1)
def X23_0 : List Ex := [{ out := .ret, st := { env := [(4, .nils 1), (5, .int .i64)] } }, { out := .exit 0, st := { env := [(0, .ro false 1), (6, .ref 6 []), (7, .int .i64)], objs := [(6, false, .own 1)] } }]
def S23_0 : SP := { env := [(0, .ro false 1), (6, .ref 6 []), (7, .int .i64), (10, .ro false 2), (11, .int .i64), (12, .int .i64)], objs := [(6, false, .own 1)] }
noncomputable def L23_0 (x0 : List AVal) (x1 : Int) (x2 : List AVal) (x3 : Int) (x4 : Int) (x5 : List AVal) : Option ((Int) ⊕ (List AVal × Int × List AVal)) := LpV ctx fn23 0 0 X23_0 S23_0 (x0, x1, x2, x3, x4, x5)
def ls23 : List LSig := [{ h := 0, X := X23_0, Ss := [S23_0] }]
noncomputable def F24 (x0 : List AVal) (x1 : List AVal) : Option (Bool) := FnV ctx 24 sg24 (x0, x1)
def X24_0 : List Ex := [{ out := .ret, st := { env := [(4, .bool)] } }, { out := .exit 0, st := { env := [] } }]
def S24_0 : SP := { env := [(0, .ro false 1), (1, .ro false 1), (5, .int .i64)] }
noncomputable def L24_0 (x0 : List AVal) (x1 : List AVal) (x2 : Int) : Option ((Bool) ⊕ (Unit)) := LpV ctx fn24 0 0 X24_0 S24_0 (x0, x1, x2)
def ls24 : List LSig := [{ h := 0, X := X24_0, Ss := [S24_0] }]
noncomputable def F25 (x0 : List AVal) (x1 : List AVal) : Option (Bool) := FnV ctx 25 sg25 (x0, x1)
def X25_0 : List Ex := [{ out := .ret, st := { env := [(4, .bool)] } }, { out := .exit 0, st := { env := [] } }]
def S25_0 : SP := { env := [(0, .ro false 2), (1, .ro false 2), (5, .int .i64)] }
noncomputable def L25_0 (x0 : List AVal) (x1 : List AVal) (x2 : Int) : Option ((Bool) ⊕ (Unit)) := LpV ctx fn25 0 0 X25_0 S25_0 (x0, x1, x2)
def ls25 : List LSig := [{ h := 0, X := X25_0, Ss := [S25_0] }]
noncomputable def F26 (x0 : Int) (x1 : List AVal) : Option (Int × List AVal) := FnV ctx 26 sg26 (x0, x1)
def X26_0 : List Ex := [{ out := .exit 0, st := { env := [(1, .int .i64)], objs := [(2000000, false, .own 1)] } }]
def S26_0 : SP := { env := [(0, .ref 2000000 []), (1, .int .i64), (5, .int .i64)], objs := [(2000000, false, .own 1)] }
noncomputable def L26_0 (x0 : Int) (x1 : Int) (x2 : List AVal) : Option (Int × List AVal) := LpV ctx fn26 1 0 X26_0 S26_0 (x0, x1, x2)
def ls26 : List LSig := [{ h := 0, X := X26_0, Ss := [S26_0] }]
noncomputable def F27 (x0 : Int) (x1 : List AVal) : Option (Int × List AVal) := FnV ctx 27 sg27 (x0, x1)
def X27_0 : List Ex := [{ out := .exit 0, st := { env := [(1, .int .i64)], objs := [(2000000, false, .own 2)] } }]
def S27_0 : SP := { env := [(0, .ref 2000000 []), (1, .int .i64), (5, .int .i64)], objs := [(2000000, false, .own 2)] }
noncomputable def L27_0 (x0 : Int) (x1 : Int) (x2 : List AVal) : Option (Int × List AVal) := LpV ctx fn27 1 0 X27_0 S27_0 (x0, x1, x2)
def ls27 : List LSig := [{ h := 0, X := X27_0, Ss := [S27_0] }]
noncomputable def F28 (x0 : List AVal) (x1 : Int) : Option (Int) := FnV ctx 28 sg28 (x0, x1)
def X28_0 : List Ex := [{ out := .ret, st := { env := [(4, .int .i64)] } }, { out := .exit 0, st := { env := [(1, .int .i64)] } }]
def S28_0 : SP := { env := [(0, .ro false 1), (1, .int .i64), (5, .int .i64)] }
noncomputable def L28_0 (x0 : List AVal) (x1 : Int) (x2 : Int) : Option ((Int) ⊕ (Int)) := LpV ctx fn28 0 0 X28_0 S28_0 (x0, x1, x2)
def ls28 : List LSig := [{ h := 0, X := X28_0, Ss := [S28_0] }]
noncomputable def F62 (x0 : Int) (x1 : Int) : Option (Int × Int) := FnV ctx 62 sg62 (x0, x1)
def ls62 : List LSig := []
noncomputable def F63 (x0 : Int) (x1 : Int) (x2 : Int) (x3 : Int) : Option (Bool) := FnV ctx 63 sg63 (x0, x1, x2, x3)
def ls63 : List LSig := []
noncomputable def F6 (x0 : ByteArray) (x1 : ByteArray) (x2 : Bool) (x3 : List AVal) : Option (Bool) := FnV ctx 6 sg6 (x0, x1, x2, x3)
def ls6 : List LSig := []
noncomputable def F29 (x0 : ByteArray) (x1 : ByteArray) (x2 : Bool) (x3 : List AVal) (x4 : Int) : Option (Int) := FnV ctx 29 sg29 (x0, x1, x2, x3, x4)
def ls29 : List LSig := []
noncomputable def F31 (x0 : ByteArray) (x1 : ByteArray) (x2 : Bool) (x3 : List AVal) : Option (ByteArray × ByteArray × Bool × List AVal) := FnV ctx 31 sg31 (x0, x1, x2, x3)
def ls31 : List LSig := []
noncomputable def F30 (x0 : ByteArray) (x1 : ByteArray) (x2 : Bool) (x3 : List AVal) : Option (Bool) := FnV ctx 30 sg30 (x0, x1, x2, x3)
def ls30 : List LSig := []
noncomputable def F32 (x0 : ByteArray) (x1 : ByteArray) (x2 : Bool) (x3 : List AVal) : Option (Bool) := FnV ctx 32 sg32 (x0, x1, x2, x3)
def ls32 : List LSig := []
noncomputable def F33 (x0 : ByteArray) (x1 : ByteArray) (x2 : Bool) (x3 : List AVal) (x4 : ByteArray) (x5 : ByteArray) (x6 : Bool) (x7 : List AVal) : Option (Bool) := FnV ctx 33 sg33 (x0, x1, x2, x3, x4, x5, x6, x7)
def ls33 : List LSig := []
noncomputable def F64 (x0 : List AVal) (x1 : Int) : Option (Int) := FnV ctx 64 sg64 (x0, x1)
def X64_0 : List Ex := [{ out := .ret, st := { env := [(4, .int .i64)] } }, { out := .exit 0, st := { env := [(1, .int .i64)] } }]
def S64_0 : SP := { env := [(0, .ro false 4), (1, .int .i64), (5, .int .i64)] }
noncomputable def L64_0 (x0 : List AVal) (x1 : Int) (x2 : Int) : Option ((Int) ⊕ (Int)) := LpV ctx fn64 0 0 X64_0 S64_0 (x0, x1, x2)
def ls64 : List LSig := [{ h := 0, X := X64_0, Ss := [S64_0] }]
noncomputable def F67 (x0 : List AVal) : Option (List AVal) := FnV ctx 67 sg67 x0
def X67_0 : List Ex := [{ out := .exit 0, st := { env := [(3, .ref 3 [])], objs := [(3, false, .own 4)] } }]
def S67_0 : SP := { env := [(0, .ro false 4), (3, .ref 3 []), (4, .int .i64)], objs := [(3, false, .own 4)] }
noncomputable def L67_0 (x0 : List AVal) (x1 : Int) (x2 : List AVal) : Option (List AVal) := LpV ctx fn67 0 0 X67_0 S67_0 (x0, x1, x2)
def ls67 : List LSig := [{ h := 0, X := X67_0, Ss := [S67_0] }]
noncomputable def F65 (x0 : ByteArray) (x1 : ByteArray) (x2 : Bool) (x3 : List AVal) (x4 : Int) (x5 : Int) : Option (Int) := FnV ctx 65 sg65 (x0, x1, x2, x3, x4, x5)
def X65_0 : List Ex := [{ out := .exit 0, st := { env := [(1, .int .i64)] } }]
def S65_0 : SP := { env := [(1, .int .i64), (2, .int .i64), (3, .ptr 3 [] none), (7, .int .i64)], objs := [(3, true, .agg [.str, .str, .bool, .ro false 4])] }
noncomputable def L65_0 (x0 : Int) (x1 : Int) (x2 : Int) (x3 : ByteArray) (x4 : ByteArray) (x5 : Bool) (x6 : List AVal) : Option (Int) := LpV ctx fn65 0 0 X65_0 S65_0 (x0, x1, x2, x3, x4, x5, x6)
def ls65 : List LSig := [{ h := 0, X := X65_0, Ss := [S65_0] }]
noncomputable def F66 (x0 : ByteArray) (x1 : ByteArray) (x2 : Bool) (x3 : List AVal) : Option (Bool) := FnV ctx 66 sg66 (x0, x1, x2, x3)
def X66_0 : List Ex := [{ out := .ret, st := { env := [(2, .bool)] } }, { out := .exit 0, st := { env := [] } }]
def S66_0 : SP := { env := [(1, .ptr 1 [] none), (3, .int .i64)], objs := [(1, true, .agg [.str, .str, .bool, .ro false 4])] }
noncomputable def L66_0 (x0 : Int) (x1 : ByteArray) (x2 : ByteArray) (x3 : Bool) (x4 : List AVal) : Option ((Bool) ⊕ (Unit)) := LpV ctx fn66 0 0 X66_0 S66_0 (x0, x1, x2, x3, x4)
def ls66 : List LSig := [{ h := 0, X := X66_0, Ss := [S66_0] }]
noncomputable def F68 (x0 : ByteArray) (x1 : ByteArray) (x2 : Bool) (x3 : List AVal) (x4 : Int) (x5 : Int) (x6 : Int) : Option (Bool × Int × Int) := FnV ctx 68 sg68 (x0, x1, x2, x3, x4, x5, x6)
def X68_0 : List Ex := [{ out := .ret, st := { env := [(8, .bool)], objs := [(2000000, true, .int .i64), (2000001, true, .int .i64)] } }, { out := .exit 0, st := { env := [], objs := [(2000000, true, .int .i64), (2000001, true, .int .i64)] } }]
def S68_0 : SP := { env := [(1, .int .i64), (2, .ptr 2000000 [] none), (3, .ptr 2000001 [] none), (53, .ro false 4), (54, .int .i64), (55, .int .i64)], objs := [(2000000, true, .int .i64), (2000001, true, .int .i64)] }
noncomputable def L68_0 (x0 : Int) (x1 : List AVal) (x2 : Int) (x3 : Int) (x4 : Int) (x5 : Int) : Option ((Bool × Int × Int) ⊕ (Int × Int)) := LpV ctx fn68 2 0 X68_0 S68_0 (x0, x1, x2, x3, x4, x5)
def ls68 : List LSig := [{ h := 0, X := X68_0, Ss := [S68_0] }]
noncomputable def F69 (x0 : List AVal) (x1 : List AVal) : Option (Bool) := FnV ctx 69 sg69 (x0, x1)
def X69_0 : List Ex := [{ out := .ret, st := { env := [(4, .bool)] } }, { out := .exit 0, st := { env := [] } }]
def S69_0 : SP := { env := [(0, .ro false 4), (1, .ro false 4), (5, .int .i64)] }
noncomputable def L69_0 (x0 : List AVal) (x1 : List AVal) (x2 : Int) : Option ((Bool) ⊕ (Unit)) := LpV ctx fn69 0 0 X69_0 S69_0 (x0, x1, x2)
def ls69 : List LSig := [{ h := 0, X := X69_0, Ss := [S69_0] }]
noncomputable def F108 (x0 : ByteArray) : Option (Bool) := FnV ctx 108 sg108 x0
def X108_0 : List Ex := [{ out := .ret, st := { env := [(2, .bool)] } }, { out := .exit 0, st := { env := [] } }]
def S108_0 : SP := { env := [(0, .str), (3, .int .i64)] }
noncomputable def L108_0 (x0 : ByteArray) (x1 : Int) : Option ((Bool) ⊕ (Unit)) := LpV ctx fn108 0 0 X108_0 S108_0 (x0, x1)
def ls108 : List LSig := [{ h := 0, X := X108_0, Ss := [S108_0] }]
noncomputable def F87 (x0 : ByteArray) : Option (Bool) := FnV ctx 87 sg87 x0
def X87_0 : List Ex := [{ out := .ret, st := { env := [(2, .bool)] } }, { out := .exit 0, st := { env := [] } }]
def S87_0 : SP := { env := [(0, .str), (3, .int .i64)] }
noncomputable def L87_0 (x0 : ByteArray) (x1 : Int) : Option ((Bool) ⊕ (Unit)) := LpV ctx fn87 0 0 X87_0 S87_0 (x0, x1)
def ls87 : List LSig := [{ h := 0, X := X87_0, Ss := [S87_0] }]
noncomputable def F124 (x0 : Int) : Option (Bool) := FnV ctx 124 sg124 x0
def ls124 : List LSig := []
noncomputable def F125 (x0 : Int) : Option (Bool) := FnV ctx 125 sg125 x0
def ls125 : List LSig := []
noncomputable def F114 (x0 : Int) : Option (Bool) := FnV ctx 114 sg114 x0
def ls114 : List LSig := []
noncomputable def F115 (x0 : Int) : Option (Bool) := FnV ctx 115 sg115 x0
def ls115 : List LSig := []
noncomputable def F131 (x0 : Int) : Option (Bool) := FnV ctx 131 sg131 x0
def ls131 : List LSig := []
noncomputable def F127 (x0 : Int) : Option (Bool) := FnV ctx 127 sg127 x0
def ls127 : List LSig := []
noncomputable def F7 (x0 : ByteArray) (x1 : ByteArray) (x2 : Bool) (x3 : List AVal) : Option (Bool) := FnV ctx 7 sg7 (x0, x1, x2, x3)
def ls7 : List LSig := []
noncomputable def F34 (x0 : ByteArray) (x1 : ByteArray) (x2 : Bool) (x3 : List AVal) : Option (Int × Int × Int) := FnV ctx 34 sg34 (x0, x1, x2, x3)
def ls34 : List LSig := []
noncomputable def F35 (x0 : ByteArray) (x1 : ByteArray) (x2 : Bool) (x3 : List AVal) : Option (Int × Int × Int) := FnV ctx 35 sg35 (x0, x1, x2, x3)
def ls35 : List LSig := []
noncomputable def F70 (x0 : ByteArray) (x1 : ByteArray) (x2 : Bool) (x3 : List AVal) : Option (Int) := FnV ctx 70 sg70 (x0, x1, x2, x3)
def X70_0 : List Ex := [{ out := .exit 0, st := { env := [(3, .int .i64)] } }]
def S70_0 : SP := { env := [(1, .ptr 1 [] none), (3, .int .i64), (4, .int .i64)], objs := [(1, true, .agg [.str, .str, .bool, .ro false 4])] }
noncomputable def L70_0 (x0 : Int) (x1 : Int) (x2 : ByteArray) (x3 : ByteArray) (x4 : Bool) (x5 : List AVal) : Option (Int) := LpV ctx fn70 0 0 X70_0 S70_0 (x0, x1, x2, x3, x4, x5)
def ls70 : List LSig := [{ h := 0, X := X70_0, Ss := [S70_0] }]
noncomputable def F71 (x0 : ByteArray) (x1 : ByteArray) (x2 : Bool) (x3 : List AVal) : Option (Int) := FnV ctx 71 sg71 (x0, x1, x2, x3)
def X71_0 : List Ex := [{ out := .exit 0, st := { env := [(3, .int .i64)] } }]
def S71_0 : SP := { env := [(1, .ptr 1 [] none), (3, .int .i64), (4, .int .i64)], objs := [(1, true, .agg [.str, .str, .bool, .ro false 4])] }
noncomputable def L71_0 (x0 : Int) (x1 : Int) (x2 : ByteArray) (x3 : ByteArray) (x4 : Bool) (x5 : List AVal) : Option (Int) := LpV ctx fn71 0 0 X71_0 S71_0 (x0, x1, x2, x3, x4, x5)
def ls71 : List LSig := [{ h := 0, X := X71_0, Ss := [S71_0] }]
noncomputable def F8 (x0 : List AVal) (x1 : List AVal) (x2 : List AVal) (x3 : ByteArray) (x4 : Int) : Option (Bool) := FnV ctx 8 sg8 (x0, x1, x2, x3, x4)
def ls8 : List LSig := []
noncomputable def F36 (x0 : List AVal) (x1 : List AVal) (x2 : List AVal) (x3 : Int) : Option (Int) := FnV ctx 36 sg36 (x0, x1, x2, x3)
def ls36 : List LSig := []
noncomputable def F38 (x0 : List AVal) (x1 : List AVal) (x2 : List AVal) : Option (List AVal × List AVal × List AVal) := FnV ctx 38 sg38 (x0, x1, x2)
def ls38 : List LSig := []
noncomputable def F37 (x0 : List AVal) (x1 : List AVal) (x2 : List AVal) (x3 : ByteArray) (x4 : Int) : Option (Int × Int × Int × Int) := FnV ctx 37 sg37 (x0, x1, x2, x3, x4)
def X37_0 : List Ex := [{ out := .ret, st := { env := [(6, .int .i64), (7, .int .i64), (8, .int .i64), (9, .int .i64)] } }, { out := .exit 0, st := { env := [(1, .str), (10, .int .i64), (11, .int .i64)] } }]
def S37_0 : SP := { env := [(1, .str), (2, .int .i64), (3, .ptr 3 [] none), (10, .int .i64), (11, .int .i64), (12, .int .i64), (13, .int .i64)], objs := [(3, true, .agg [.ro false 1, .ro false 1, .ro false 1])] }
noncomputable def L37_0 (x0 : ByteArray) (x1 : Int) (x2 : Int) (x3 : Int) (x4 : Int) (x5 : Int) (x6 : List AVal) (x7 : List AVal) (x8 : List AVal) : Option ((Int × Int × Int × Int) ⊕ (ByteArray × Int × Int)) := LpV ctx fn37 0 0 X37_0 S37_0 (x0, x1, x2, x3, x4, x5, x6, x7, x8)
def ls37 : List LSig := [{ h := 0, X := X37_0, Ss := [S37_0] }]
noncomputable def F39 (x0 : List AVal) (x1 : List AVal) (x2 : List AVal) (x3 : ByteArray) (x4 : Int) : Option (Int × Int × Int × Int) := FnV ctx 39 sg39 (x0, x1, x2, x3, x4)
def ls39 : List LSig := []
noncomputable def F40 (x0 : List AVal) (x1 : List AVal) (x2 : List AVal) (x3 : List AVal) (x4 : List AVal) (x5 : List AVal) : Option (Bool) := FnV ctx 40 sg40 (x0, x1, x2, x3, x4, x5)
def ls40 : List LSig := []
noncomputable def F72 (x0 : List AVal) (x1 : Int) : Option (Int) := FnV ctx 72 sg72 (x0, x1)
def ls72 : List LSig := []
noncomputable def F73 (x0 : List AVal) (x1 : Int) : Option (Int) := FnV ctx 73 sg73 (x0, x1)
def X73_0 : List Ex := [{ out := .ret, st := { env := [(4, .int .i64)] } }, { out := .exit 0, st := { env := [(1, .int .i64)] } }]
def S73_0 : SP := { env := [(0, .ro false 1), (1, .int .i64), (5, .int .i64)] }
noncomputable def L73_0 (x0 : List AVal) (x1 : Int) (x2 : Int) : Option ((Int) ⊕ (Int)) := LpV ctx fn73 0 0 X73_0 S73_0 (x0, x1, x2)
def ls73 : List LSig := [{ h := 0, X := X73_0, Ss := [S73_0] }]
noncomputable def F75 (x0 : List AVal) : Option (List AVal) := FnV ctx 75 sg75 x0
def X75_0 : List Ex := [{ out := .exit 0, st := { env := [(3, .ref 3 [])], objs := [(3, false, .own 1)] } }]
def S75_0 : SP := { env := [(0, .ro false 1), (3, .ref 3 []), (4, .int .i64)], objs := [(3, false, .own 1)] }
noncomputable def L75_0 (x0 : List AVal) (x1 : Int) (x2 : List AVal) : Option (List AVal) := LpV ctx fn75 0 0 X75_0 S75_0 (x0, x1, x2)
def ls75 : List LSig := [{ h := 0, X := X75_0, Ss := [S75_0] }]
noncomputable def F74 (x0 : List AVal) (x1 : List AVal) (x2 : List AVal) : Option (Bool) := FnV ctx 74 sg74 (x0, x1, x2)
def X74_0 : List Ex := [{ out := .ret, st := { env := [(2, .bool)] } }, { out := .exit 0, st := { env := [(1, .ptr 1 [] none), (3, .int .i64)], objs := [(1, true, .agg [.ro false 1, .ro false 1, .ro false 1])] } }]
def S74_0 : SP := { env := [(1, .ptr 1 [] none), (3, .int .i64), (4, .int .i64)], objs := [(1, true, .agg [.ro false 1, .ro false 1, .ro false 1])] }
noncomputable def L74_0 (x0 : Int) (x1 : Int) (x2 : List AVal) (x3 : List AVal) (x4 : List AVal) : Option ((Bool) ⊕ (Int × List AVal × List AVal × List AVal)) := LpV ctx fn74 0 0 X74_0 S74_0 (x0, x1, x2, x3, x4)
def X74_1 : List Ex := [{ out := .ret, st := { env := [(2, .bool)] } }, { out := .exit 2, st := { env := [] } }]
def S74_1 : SP := { env := [(1, .ptr 1 [] none), (3, .int .i64), (5, .int .i64)], objs := [(1, true, .agg [.ro false 1, .ro false 1, .ro false 1])] }
noncomputable def L74_1 (x0 : Int) (x1 : Int) (x2 : List AVal) (x3 : List AVal) (x4 : List AVal) : Option ((Bool) ⊕ (Unit)) := LpV ctx fn74 0 1 X74_1 S74_1 (x0, x1, x2, x3, x4)
def X74_2 : List Ex := [{ out := .ret, st := { env := [(2, .bool)] } }, { out := .exit 4, st := { env := [(1, .ptr 1 [] none), (3, .int .i64), (5, .int .i64)], objs := [(1, true, .agg [.ro false 1, .ro false 1, .ro false 1])] } }]
def S74_2 : SP := { env := [(1, .ptr 1 [] none), (3, .int .i64), (5, .int .i64), (6, .int .i64)], objs := [(1, true, .agg [.ro false 1, .ro false 1, .ro false 1])] }
noncomputable def L74_2 (x0 : Int) (x1 : Int) (x2 : Int) (x3 : List AVal) (x4 : List AVal) (x5 : List AVal) : Option ((Bool) ⊕ (Int × Int × List AVal × List AVal × List AVal)) := LpV ctx fn74 0 2 X74_2 S74_2 (x0, x1, x2, x3, x4, x5)
def ls74 : List LSig := [{ h := 0, X := X74_0, Ss := [S74_0] }, { h := 1, X := X74_1, Ss := [S74_1] }, { h := 2, X := X74_2, Ss := [S74_2] }]
noncomputable def F76 (x0 : List AVal) (x1 : List AVal) (x2 : List AVal) : Option (Bool) := FnV ctx 76 sg76 (x0, x1, x2)
def X76_0 : List Ex := [{ out := .ret, st := { env := [(2, .bool)] } }, { out := .exit 0, st := { env := [(1, .ptr 1 [] none), (3, .int .i64)], objs := [(1, true, .agg [.ro false 1, .ro false 1, .ro false 1])] } }]
def S76_0 : SP := { env := [(1, .ptr 1 [] none), (3, .int .i64), (47, .ro false 1), (48, .int .i64), (49, .int .i64)], objs := [(1, true, .agg [.ro false 1, .ro false 1, .ro false 1])] }
noncomputable def L76_0 (x0 : Int) (x1 : List AVal) (x2 : Int) (x3 : Int) (x4 : List AVal) (x5 : List AVal) (x6 : List AVal) : Option ((Bool) ⊕ (Int × List AVal × List AVal × List AVal)) := LpV ctx fn76 0 0 X76_0 S76_0 (x0, x1, x2, x3, x4, x5, x6)
def X76_1 : List Ex := [{ out := .ret, st := { env := [(2, .bool)] } }, { out := .exit 2, st := { env := [] } }]
def S76_1 : SP := { env := [(1, .ptr 1 [] none), (3, .int .i64), (62, .ro false 1), (63, .int .i64), (64, .int .i64)], objs := [(1, true, .agg [.ro false 1, .ro false 1, .ro false 1])] }
noncomputable def L76_1 (x0 : Int) (x1 : List AVal) (x2 : Int) (x3 : Int) (x4 : List AVal) (x5 : List AVal) (x6 : List AVal) : Option ((Bool) ⊕ (Unit)) := LpV ctx fn76 0 1 X76_1 S76_1 (x0, x1, x2, x3, x4, x5, x6)
def X76_2 : List Ex := [{ out := .ret, st := { env := [(2, .bool)] } }, { out := .exit 4, st := { env := [(1, .ptr 1 [] none), (3, .int .i64), (62, .ro false 1), (63, .int .i64), (64, .int .i64)], objs := [(1, true, .agg [.ro false 1, .ro false 1, .ro false 1])] } }]
def S76_2 : SP := { env := [(1, .ptr 1 [] none), (3, .int .i64), (62, .ro false 1), (63, .int .i64), (64, .int .i64), (81, .ro false 1), (82, .int .i64), (83, .int .i64)], objs := [(1, true, .agg [.ro false 1, .ro false 1, .ro false 1])] }
noncomputable def L76_2 (x0 : Int) (x1 : List AVal) (x2 : Int) (x3 : Int) (x4 : List AVal) (x5 : Int) (x6 : Int) (x7 : List AVal) (x8 : List AVal) (x9 : List AVal) : Option ((Bool) ⊕ (Int × List AVal × Int × Int × List AVal × List AVal × List AVal)) := LpV ctx fn76 0 2 X76_2 S76_2 (x0, x1, x2, x3, x4, x5, x6, x7, x8, x9)
def ls76 : List LSig := [{ h := 0, X := X76_0, Ss := [S76_0] }, { h := 1, X := X76_1, Ss := [S76_1] }, { h := 2, X := X76_2, Ss := [S76_2] }]
noncomputable def F77 (x0 : List AVal) (x1 : List AVal) (x2 : List AVal) (x3 : ByteArray) (x4 : Int) : Option (Int × Int × Int) := FnV ctx 77 sg77 (x0, x1, x2, x3, x4)
def X77_0 : List Ex := [{ out := .ret, st := { env := [(6, .int .i64), (7, .int .i64), (8, .int .i64)] } }, { out := .exit 0, st := { env := [(1, .str), (9, .int .i64), (10, .int .i64)] } }]
def S77_0 : SP := { env := [(1, .str), (2, .int .i64), (3, .ptr 3 [] none), (9, .int .i64), (10, .int .i64), (11, .int .i64), (12, .int .i64)], objs := [(3, true, .agg [.ro false 1, .ro false 1, .ro false 1])] }
noncomputable def L77_0 (x0 : ByteArray) (x1 : Int) (x2 : Int) (x3 : Int) (x4 : Int) (x5 : Int) (x6 : List AVal) (x7 : List AVal) (x8 : List AVal) : Option ((Int × Int × Int) ⊕ (ByteArray × Int × Int)) := LpV ctx fn77 0 0 X77_0 S77_0 (x0, x1, x2, x3, x4, x5, x6, x7, x8)
def ls77 : List LSig := [{ h := 0, X := X77_0, Ss := [S77_0] }]
noncomputable def F78 (x0 : List AVal) (x1 : List AVal) : Option (Bool) := FnV ctx 78 sg78 (x0, x1)
def X78_0 : List Ex := [{ out := .ret, st := { env := [(4, .bool)] } }, { out := .exit 0, st := { env := [] } }]
def S78_0 : SP := { env := [(0, .ro false 1), (1, .ro false 1), (5, .int .i64)] }
noncomputable def L78_0 (x0 : List AVal) (x1 : List AVal) (x2 : Int) : Option ((Bool) ⊕ (Unit)) := LpV ctx fn78 0 0 X78_0 S78_0 (x0, x1, x2)
def ls78 : List LSig := [{ h := 0, X := X78_0, Ss := [S78_0] }]
noncomputable def F9 (x0 : ByteArray) (x1 : ByteArray) (x2 : Bool) (x3 : List AVal) : Option (Bool) := FnV ctx 9 sg9 (x0, x1, x2, x3)
def ls9 : List LSig := []
noncomputable def F41 (x0 : ByteArray) (x1 : ByteArray) (x2 : Bool) (x3 : List AVal) : Option (ByteArray × Int) := FnV ctx 41 sg41 (x0, x1, x2, x3)
def ls41 : List LSig := []
noncomputable def F42 (x0 : ByteArray) (x1 : ByteArray) (x2 : Bool) (x3 : List AVal) : Option (ByteArray × Int) := FnV ctx 42 sg42 (x0, x1, x2, x3)
def ls42 : List LSig := []
noncomputable def F79 (x0 : ByteArray) (x1 : ByteArray) (x2 : Bool) (x3 : List AVal) : Option (ByteArray) := FnV ctx 79 sg79 (x0, x1, x2, x3)
def X79_0 : List Ex := [{ out := .exit 0, st := { env := [(3, .str)] } }]
def S79_0 : SP := { env := [(1, .ptr 1 [] none), (3, .str), (4, .int .i64)], objs := [(1, true, .agg [.str, .str, .bool, .ro false 4])] }
noncomputable def L79_0 (x0 : ByteArray) (x1 : Int) (x2 : ByteArray) (x3 : ByteArray) (x4 : Bool) (x5 : List AVal) : Option (ByteArray) := LpV ctx fn79 0 0 X79_0 S79_0 (x0, x1, x2, x3, x4, x5)
def ls79 : List LSig := [{ h := 0, X := X79_0, Ss := [S79_0] }]
noncomputable def F80 (x0 : ByteArray) (x1 : ByteArray) (x2 : Bool) (x3 : List AVal) : Option (ByteArray) := FnV ctx 80 sg80 (x0, x1, x2, x3)
def X80_0 : List Ex := []
def S80_0 : SP := { env := [(3, .ptr 3 [] none), (11, .ro false 4), (12, .int .i64), (13, .int .i64)], objs := [(3, true, .agg [.nilp, .own 1])] }
noncomputable def L80_0 (x0 : List AVal) (x1 : Int) (x2 : Int) (x3 : List AVal) : Option (Empty) := LpV ctx fn80 0 0 X80_0 S80_0 (x0, x1, x2, x3)
def ls80 : List LSig := [{ h := 0, X := X80_0, Ss := [S80_0] }]
noncomputable def F10 (x0 : Int) (x1 : List AVal) (x2 : List AVal) (x3 : List AVal) : Option (Bool) := FnV ctx 10 sg10 (x0, x1, x2, x3)
def ls10 : List LSig := []
noncomputable def F43 (x0 : Int) (x1 : List AVal) (x2 : List AVal) (x3 : List AVal) (x4 : Int) : Option (Int) := FnV ctx 43 sg43 (x0, x1, x2, x3, x4)
def ls43 : List LSig := []
noncomputable def F45 (x0 : Int) (x1 : List AVal) (x2 : List AVal) (x3 : List AVal) : Option (Int × List AVal × List AVal × List AVal) := FnV ctx 45 sg45 (x0, x1, x2, x3)
def ls45 : List LSig := []
noncomputable def F44 (x0 : Int) (x1 : List AVal) (x2 : List AVal) (x3 : List AVal) : Option (Bool) := FnV ctx 44 sg44 (x0, x1, x2, x3)
def X44_0 : List Ex := [{ out := .ret, st := { env := [(2, .bool)] } }, { out := .exit 0, st := { env := [] } }]
def S44_0 : SP := { env := [(1, .ptr 1 [] none), (3, .int .i64)], objs := [(1, true, .agg [.int .i64, .ro false 3, .ro false 2, .ro false 2])] }
noncomputable def L44_0 (x0 : Int) (x1 : Int) (x2 : List AVal) (x3 : List AVal) (x4 : List AVal) : Option ((Bool) ⊕ (Unit)) := LpV ctx fn44 0 0 X44_0 S44_0 (x0, x1, x2, x3, x4)
def ls44 : List LSig := [{ h := 0, X := X44_0, Ss := [S44_0] }]
noncomputable def F46 (x0 : Int) (x1 : List AVal) (x2 : List AVal) (x3 : List AVal) : Option (Bool) := FnV ctx 46 sg46 (x0, x1, x2, x3)
def X46_0 : List Ex := [{ out := .ret, st := { env := [(2, .bool)] } }, { out := .exit 0, st := { env := [(1, .ptr 1 [] none), (3, .clo 86 [.ptr 1 [] none])], objs := [(1, true, .agg [.int .i64, .ro false 3, .ro false 2, .ro false 2])] } }]
def S46_0 : SP := { env := [(1, .ptr 1 [] none), (3, .clo 86 [.ptr 1 [] none]), (38, .ro false 3), (39, .int .i64), (40, .int .i64)], objs := [(1, true, .agg [.int .i64, .ro false 3, .ro false 2, .ro false 2])] }
noncomputable def L46_0 (x0 : List AVal) (x1 : Int) (x2 : Int) (x3 : Int) (x4 : List AVal) (x5 : List AVal) (x6 : List AVal) : Option ((Bool) ⊕ (Int × List AVal × List AVal × List AVal)) := LpV ctx fn46 0 0 X46_0 S46_0 (x0, x1, x2, x3, x4, x5, x6)
def X46_1 : List Ex := [{ out := .ret, st := { env := [(2, .bool)] } }, { out := .exit 2, st := { env := [] } }]
def S46_1 : SP := { env := [(3, .clo 86 [.ptr 1 [] none]), (71, .ref 71 []), (72, .int .i64), (73, .int .i64)], objs := [(1, true, .agg [.int .i64, .ro false 3, .ro false 2, .ro false 2]), (71, false, .own 1)] }
noncomputable def L46_1 (x0 : Int) (x1 : Int) (x2 : Int) (x3 : List AVal) (x4 : List AVal) (x5 : List AVal) (x6 : List AVal) : Option ((Bool) ⊕ (Unit)) := LpV ctx fn46 0 1 X46_1 S46_1 (x0, x1, x2, x3, x4, x5, x6)
def X46_2 : List Ex := [{ out := .ret, st := { env := [(2, .bool)] } }, { out := .exit 4, st := { env := [(3, .clo 86 [.ptr 1 [] none]), (71, .ref 71 []), (72, .int .i64), (73, .int .i64)], objs := [(1, true, .agg [.int .i64, .ro false 3, .ro false 2, .ro false 2]), (71, false, .own 1)] } }]
def S46_2 : SP := { env := [(3, .clo 86 [.ptr 1 [] none]), (71, .ref 71 []), (72, .int .i64), (73, .int .i64), (77, .ref 71 [none]), (78, .int .i64), (79, .int .i64)], objs := [(1, true, .agg [.int .i64, .ro false 3, .ro false 2, .ro false 2]), (71, false, .own 1)] }
noncomputable def L46_2 (x0 : Int) (x1 : Int) (x2 : Int) (x3 : Int) (x4 : Int) (x5 : Int) (x6 : List AVal) (x7 : List AVal) (x8 : List AVal) (x9 : List AVal) : Option ((Bool) ⊕ (Int × Int × Int × List AVal × List AVal × List AVal × List AVal)) := LpV ctx fn46 0 2 X46_2 S46_2 (x0, x1, x2, x3, x4, x5, x6, x7, x8, x9)
def ls46 : List LSig := [{ h := 0, X := X46_0, Ss := [S46_0] }, { h := 1, X := X46_1, Ss := [S46_1] }, { h := 2, X := X46_2, Ss := [S46_2] }]
noncomputable def F47 (x0 : Int) (x1 : List AVal) (x2 : List AVal) (x3 : List AVal) (x4 : Int) (x5 : List AVal) (x6 : List AVal) (x7 : List AVal) : Option (Bool) := FnV ctx 47 sg47 (x0, x1, x2, x3, x4, x5, x6, x7)
def ls47 : List LSig := []
noncomputable def F81 (x0 : List AVal) (x1 : Int) : Option (Int) := FnV ctx 81 sg81 (x0, x1)
def ls81 : List LSig := []
noncomputable def F82 (x0 : List AVal) (x1 : Int) : Option (Int) := FnV ctx 82 sg82 (x0, x1)
def X82_0 : List Ex := [{ out := .ret, st := { env := [(4, .int .i64)] } }, { out := .exit 0, st := { env := [(1, .int .i64)] } }]
def S82_0 : SP := { env := [(0, .ro false 2), (1, .int .i64), (5, .int .i64)] }
noncomputable def L82_0 (x0 : List AVal) (x1 : Int) (x2 : Int) : Option ((Int) ⊕ (Int)) := LpV ctx fn82 0 0 X82_0 S82_0 (x0, x1, x2)
def ls82 : List LSig := [{ h := 0, X := X82_0, Ss := [S82_0] }]
noncomputable def F84 (x0 : List AVal) : Option (List AVal) := FnV ctx 84 sg84 x0
def X84_0 : List Ex := [{ out := .exit 0, st := { env := [(3, .ref 3 [])], objs := [(3, false, .own 3)] } }]
def S84_0 : SP := { env := [(0, .ro false 3), (3, .ref 3 []), (4, .int .i64)], objs := [(3, false, .own 3)] }
noncomputable def L84_0 (x0 : List AVal) (x1 : Int) (x2 : List AVal) : Option (List AVal) := LpV ctx fn84 0 0 X84_0 S84_0 (x0, x1, x2)
def ls84 : List LSig := [{ h := 0, X := X84_0, Ss := [S84_0] }]
noncomputable def F85 (x0 : List AVal) : Option (List AVal) := FnV ctx 85 sg85 x0
def X85_0 : List Ex := [{ out := .exit 0, st := { env := [(3, .ref 3 [])], objs := [(3, false, .own 2)] } }]
def S85_0 : SP := { env := [(0, .ro false 2), (3, .ref 3 []), (4, .int .i64)], objs := [(3, false, .own 2)] }
noncomputable def L85_0 (x0 : List AVal) (x1 : Int) (x2 : List AVal) : Option (List AVal) := LpV ctx fn85 0 0 X85_0 S85_0 (x0, x1, x2)
def ls85 : List LSig := [{ h := 0, X := X85_0, Ss := [S85_0] }]
noncomputable def F83 (x0 : List AVal) (x1 : Int) : Option (Bool) := FnV ctx 83 sg83 (x0, x1)
def X83_0 : List Ex := [{ out := .ret, st := { env := [(4, .bool)] } }, { out := .exit 0, st := { env := [] } }]
def S83_0 : SP := { env := [(0, .ro false 2), (1, .int .i64), (5, .int .i64)] }
noncomputable def L83_0 (x0 : List AVal) (x1 : Int) (x2 : Int) : Option ((Bool) ⊕ (Unit)) := LpV ctx fn83 0 0 X83_0 S83_0 (x0, x1, x2)
def ls83 : List LSig := [{ h := 0, X := X83_0, Ss := [S83_0] }]
noncomputable def F86 (x0 : Int) (x1 : Int) (x2 : List AVal) (x3 : List AVal) (x4 : List AVal) : Option (Bool × Int × List AVal × List AVal × List AVal) := FnV ctx 86 sg86 (x0, x1, x2, x3, x4)
def ls86 : List LSig := []
noncomputable def F88 (x0 : List AVal) (x1 : List AVal) : Option (Bool) := FnV ctx 88 sg88 (x0, x1)
def X88_0 : List Ex := [{ out := .ret, st := { env := [(4, .bool)] } }, { out := .exit 0, st := { env := [] } }]
def S88_0 : SP := { env := [(0, .ro false 3), (1, .ro false 3), (5, .int .i64)] }
noncomputable def L88_0 (x0 : List AVal) (x1 : List AVal) (x2 : Int) : Option ((Bool) ⊕ (Unit)) := LpV ctx fn88 0 0 X88_0 S88_0 (x0, x1, x2)
def ls88 : List LSig := [{ h := 0, X := X88_0, Ss := [S88_0] }]
noncomputable def F89 (x0 : List AVal) (x1 : List AVal) : Option (Bool) := FnV ctx 89 sg89 (x0, x1)
def X89_0 : List Ex := [{ out := .ret, st := { env := [(4, .bool)] } }, { out := .exit 0, st := { env := [] } }]
def S89_0 : SP := { env := [(0, .ro false 2), (1, .ro false 2), (5, .int .i64)] }
noncomputable def L89_0 (x0 : List AVal) (x1 : List AVal) (x2 : Int) : Option ((Bool) ⊕ (Unit)) := LpV ctx fn89 0 0 X89_0 S89_0 (x0, x1, x2)
def ls89 : List LSig := [{ h := 0, X := X89_0, Ss := [S89_0] }]
noncomputable def F111 (x0 : Int) (x1 : ByteArray) (x2 : Int) : Option (Int) := FnV ctx 111 sg111 (x0, x1, x2)
def ls111 : List LSig := []
noncomputable def F112 (x0 : Int) (x1 : Int) (x2 : Int) : Option (Int × Int × Int) := FnV ctx 112 sg112 (x0, x1, x2)
def ls112 : List LSig := []
noncomputable def F113 (x0 : Int) (x1 : ByteArray) : Option (Int × ByteArray) := FnV ctx 113 sg113 (x0, x1)
def ls113 : List LSig := []
noncomputable def F116 (x0 : Int) (x1 : Int) (x2 : Int) (x3 : Int) (x4 : Int) (x5 : Int) : Option (Bool) := FnV ctx 116 sg116 (x0, x1, x2, x3, x4, x5)
def ls116 : List LSig := []
noncomputable def F117 (x0 : Int) (x1 : ByteArray) (x2 : Int) (x3 : ByteArray) : Option (Bool) := FnV ctx 117 sg117 (x0, x1, x2, x3)
def ls117 : List LSig := []
noncomputable def F11 (x0 : ByteArray) (x1 : ByteArray) (x2 : Bool) (x3 : List AVal) : Option (Bool) := FnV ctx 11 sg11 (x0, x1, x2, x3)
def ls11 : List LSig := []
noncomputable def F48 (x0 : ByteArray) (x1 : ByteArray) (x2 : Bool) (x3 : List AVal) : Option (Bool) := FnV ctx 48 sg48 (x0, x1, x2, x3)
def ls48 : List LSig := []
noncomputable def F49 (x0 : ByteArray) (x1 : ByteArray) (x2 : Bool) (x3 : List AVal) : Option (Bool) := FnV ctx 49 sg49 (x0, x1, x2, x3)
def ls49 : List LSig := []
noncomputable def F90 (x0 : ByteArray) (x1 : ByteArray) (x2 : Bool) (x3 : List AVal) : Option (Bool) := FnV ctx 90 sg90 (x0, x1, x2, x3)
def X90_0 : List Ex := [{ out := .ret, st := { env := [(2, .bool)] } }, { out := .exit 2, st := { env := [] } }]
def S90_0 : SP := { env := [(1, .ptr 1 [] none), (4, .int .i64), (5, .int .i64)], objs := [(1, true, .agg [.str, .str, .bool, .ro false 4])] }
noncomputable def L90_0 (x0 : Int) (x1 : Int) (x2 : ByteArray) (x3 : ByteArray) (x4 : Bool) (x5 : List AVal) : Option ((Bool) ⊕ (Unit)) := LpV ctx fn90 0 0 X90_0 S90_0 (x0, x1, x2, x3, x4, x5)
def ls90 : List LSig := [{ h := 0, X := X90_0, Ss := [S90_0] }]
noncomputable def F91 (x0 : ByteArray) (x1 : ByteArray) (x2 : Bool) (x3 : List AVal) : Option (Bool) := FnV ctx 91 sg91 (x0, x1, x2, x3)
def ls91 : List LSig := []
noncomputable def F118 (x0 : ByteArray) : Option (Bool) := FnV ctx 118 sg118 x0
def ls118 : List LSig := []
noncomputable def F119 (x0 : ByteArray) : Option (Bool) := FnV ctx 119 sg119 x0
def X119_0 : List Ex := [{ out := .ret, st := { env := [(2, .bool)] } }, { out := .exit 0, st := { env := [] } }]
def S119_0 : SP := { env := [(0, .str), (23, .int .i64), (24, .int .i64)] }
noncomputable def L119_0 (x0 : ByteArray) (x1 : Int) (x2 : Int) : Option ((Bool) ⊕ (Unit)) := LpV ctx fn119 0 0 X119_0 S119_0 (x0, x1, x2)
def ls119 : List LSig := [{ h := 0, X := X119_0, Ss := [S119_0] }]
noncomputable def F128 (x0 : ByteArray) (x1 : Int) (x2 : Int) : Option (Bool) := FnV ctx 128 sg128 (x0, x1, x2)
def X128_0 : List Ex := [{ out := .ret, st := { env := [(6, .bool)] } }, { out := .exit 0, st := { env := [] } }]
def S128_0 : SP := { env := [(0, .str), (1, .int .u8), (2, .int .u8), (7, .int .i64)] }
noncomputable def L128_0 (x0 : ByteArray) (x1 : Int) (x2 : Int) (x3 : Int) : Option ((Bool) ⊕ (Unit)) := LpV ctx fn128 0 0 X128_0 S128_0 (x0, x1, x2, x3)
def ls128 : List LSig := [{ h := 0, X := X128_0, Ss := [S128_0] }]
noncomputable def F12 (x0 : ByteArray) (x1 : ByteArray) (x2 : Bool) (x3 : List AVal) (x4 : List AVal) : Option (Bool) := FnV ctx 12 sg12 (x0, x1, x2, x3, x4)
def ls12 : List LSig := []
noncomputable def F50 (x0 : ByteArray) (x1 : ByteArray) (x2 : Bool) (x3 : List AVal) (x4 : List AVal) : Option (ByteArray × ByteArray × Bool × List AVal × Int) := FnV ctx 50 sg50 (x0, x1, x2, x3, x4)
def ls50 : List LSig := []
noncomputable def F51 (x0 : ByteArray) (x1 : ByteArray) (x2 : Bool) (x3 : List AVal) (x4 : List AVal) : Option (ByteArray × ByteArray × Bool × List AVal × Int) := FnV ctx 51 sg51 (x0, x1, x2, x3, x4)
def ls51 : List LSig := []
noncomputable def F52 (x0 : ByteArray) (x1 : ByteArray) (x2 : Bool) (x3 : Int) (x4 : List AVal) : Option (Int × List AVal) := FnV ctx 52 sg52 (x0, x1, x2, x3, x4)
def ls52 : List LSig := []
noncomputable def F53 (x0 : ByteArray) (x1 : ByteArray) (x2 : Bool) (x3 : List AVal) (x4 : Int) : Option (Int) := FnV ctx 53 sg53 (x0, x1, x2, x3, x4)
def ls53 : List LSig := []
noncomputable def F92 (x0 : ByteArray) (x1 : ByteArray) (x2 : Bool) (x3 : List AVal) (x4 : List AVal) : Option (Bool) := FnV ctx 92 sg92 (x0, x1, x2, x3, x4)
def X92_0 : List Ex := [{ out := .ret, st := { env := [(4, .bool)] } }, { out := .exit 0, st := { env := [] } }]
def S92_0 : SP := { env := [(1, .ro false 1), (2, .ptr 2 [] none), (5, .int .i64)], objs := [(2, true, .agg [.str, .str, .bool, .ro false 4])] }
noncomputable def L92_0 (x0 : List AVal) (x1 : Int) (x2 : ByteArray) (x3 : ByteArray) (x4 : Bool) (x5 : List AVal) : Option ((Bool) ⊕ (Unit)) := LpV ctx fn92 0 0 X92_0 S92_0 (x0, x1, x2, x3, x4, x5)
def ls92 : List LSig := [{ h := 0, X := X92_0, Ss := [S92_0] }]
noncomputable def F94 (x0 : ByteArray) (x1 : ByteArray) (x2 : Bool) (x3 : List AVal) (x4 : List AVal) : Option (ByteArray × ByteArray × Bool × List AVal) := FnV ctx 94 sg94 (x0, x1, x2, x3, x4)
def X94_0 : List Ex := [{ out := .exit 0, st := { env := [(2, .ptr 2 [] none), (4, .ptr 4 [] none)], objs := [(2, true, .agg [.str, .str, .bool, .ro false 4]), (4, true, .agg [.str, .str, .bool, .own 4])] } }]
def S94_0 : SP := { env := [(1, .ro false 1), (2, .ptr 2 [] none), (4, .ptr 4 [] none), (5, .int .i64)], objs := [(2, true, .agg [.str, .str, .bool, .ro false 4]), (4, true, .agg [.str, .str, .bool, .own 4])] }
noncomputable def L94_0 (x0 : List AVal) (x1 : Int) (x2 : ByteArray) (x3 : ByteArray) (x4 : Bool) (x5 : List AVal) (x6 : ByteArray) (x7 : ByteArray) (x8 : Bool) (x9 : List AVal) : Option (ByteArray × ByteArray × Bool × List AVal × ByteArray × ByteArray × Bool × List AVal) := LpV ctx fn94 0 0 X94_0 S94_0 (x0, x1, x2, x3, x4, x5, x6, x7, x8, x9)
def ls94 : List LSig := [{ h := 0, X := X94_0, Ss := [S94_0] }]
noncomputable def F93 (x0 : ByteArray) (x1 : ByteArray) (x2 : Bool) (x3 : List AVal) : Option (ByteArray × ByteArray × Bool × List AVal) := FnV ctx 93 sg93 (x0, x1, x2, x3)
def X93_0 : List Ex := [{ out := .exit 0, st := { env := [(1, .ptr 1 [] none), (2, .ptr 2 [] none), (3, .ref 3 [])], objs := [(1, true, .agg [.str, .str, .bool, .ro false 4]), (2, true, .agg [.str, .str, .bool, .own 4]), (3, false, .own 4)] } }]
def S93_0 : SP := { env := [(1, .ptr 1 [] none), (2, .ptr 2 [] none), (3, .ref 3 []), (4, .int .i64)], objs := [(1, true, .agg [.str, .str, .bool, .ro false 4]), (2, true, .agg [.str, .str, .bool, .own 4]), (3, false, .own 4)] }
noncomputable def L93_0 (x0 : Int) (x1 : ByteArray) (x2 : ByteArray) (x3 : Bool) (x4 : List AVal) (x5 : ByteArray) (x6 : ByteArray) (x7 : Bool) (x8 : List AVal) (x9 : List AVal) : Option (ByteArray × ByteArray × Bool × List AVal × ByteArray × ByteArray × Bool × List AVal × List AVal) := LpV ctx fn93 0 0 X93_0 S93_0 (x0, x1, x2, x3, x4, x5, x6, x7, x8, x9)
def ls93 : List LSig := [{ h := 0, X := X93_0, Ss := [S93_0] }]
noncomputable def F95 (x0 : ByteArray) (x1 : ByteArray) (x2 : Bool) (x3 : List AVal) (x4 : List AVal) : Option (ByteArray × ByteArray × Bool × List AVal × Bool) := FnV ctx 95 sg95 (x0, x1, x2, x3, x4)
def X95_0 : List Ex := [{ out := .ret, st := { env := [(4, .ptr 4 [] none), (5, .bool)], objs := [(4, true, .agg [.str, .str, .bool, .own 4])] } }, { out := .exit 0, st := { env := [(2, .ptr 2 [] none), (4, .ptr 4 [] none)], objs := [(2, true, .agg [.str, .str, .bool, .ro false 4]), (4, true, .agg [.str, .str, .bool, .own 4])] } }]
def S95_0 : SP := { env := [(2, .ptr 2 [] none), (4, .ptr 4 [] none), (8, .ro false 1), (9, .int .i64), (10, .int .i64)], objs := [(2, true, .agg [.str, .str, .bool, .ro false 4]), (4, true, .agg [.str, .str, .bool, .own 4])] }
noncomputable def L95_0 (x0 : List AVal) (x1 : Int) (x2 : Int) (x3 : ByteArray) (x4 : ByteArray) (x5 : Bool) (x6 : List AVal) (x7 : ByteArray) (x8 : ByteArray) (x9 : Bool) (x10 : List AVal) : Option ((Bool × ByteArray × ByteArray × Bool × List AVal) ⊕ (ByteArray × ByteArray × Bool × List AVal × ByteArray × ByteArray × Bool × List AVal)) := LpV ctx fn95 0 0 X95_0 S95_0 (x0, x1, x2, x3, x4, x5, x6, x7, x8, x9, x10)
def ls95 : List LSig := [{ h := 0, X := X95_0, Ss := [S95_0] }]
noncomputable def F96 (x0 : ByteArray) (x1 : ByteArray) (x2 : Bool) (x3 : List AVal) : Option (ByteArray × ByteArray × Bool × List AVal) := FnV ctx 96 sg96 (x0, x1, x2, x3)
def X96_0 : List Ex := [{ out := .exit 0, st := { env := [(2, .ptr 2 [] none), (3, .ptr 3 [] none)], objs := [(2, true, .agg [.str, .str, .bool, .own 4]), (3, true, .agg [.str, .str, .bool, .own 4])] } }]
def S96_0 : SP := { env := [(2, .ptr 2 [] none), (3, .ptr 3 [] none), (14, .ro false 4), (15, .int .i64), (16, .int .i64)], objs := [(2, true, .agg [.str, .str, .bool, .own 4]), (3, true, .agg [.str, .str, .bool, .own 4])] }
noncomputable def L96_0 (x0 : List AVal) (x1 : Int) (x2 : Int) (x3 : ByteArray) (x4 : ByteArray) (x5 : Bool) (x6 : List AVal) (x7 : ByteArray) (x8 : ByteArray) (x9 : Bool) (x10 : List AVal) : Option (ByteArray × ByteArray × Bool × List AVal × ByteArray × ByteArray × Bool × List AVal) := LpV ctx fn96 0 0 X96_0 S96_0 (x0, x1, x2, x3, x4, x5, x6, x7, x8, x9, x10)
def ls96 : List LSig := [{ h := 0, X := X96_0, Ss := [S96_0] }]
noncomputable def F97 (x0 : Int) (x1 : List AVal) : Option (Int × List AVal) := FnV ctx 97 sg97 (x0, x1)
def X97_0 : List Ex := [{ out := .exit 0, st := { env := [(1, .int .i64)], objs := [(2000000, false, .own 4)] } }]
def S97_0 : SP := { env := [(0, .ref 2000000 []), (1, .int .i64), (5, .int .i64)], objs := [(2000000, false, .own 4)] }
noncomputable def L97_0 (x0 : Int) (x1 : Int) (x2 : List AVal) : Option (Int × List AVal) := LpV ctx fn97 1 0 X97_0 S97_0 (x0, x1, x2)
def ls97 : List LSig := [{ h := 0, X := X97_0, Ss := [S97_0] }]
noncomputable def F98 (x0 : List AVal) (x1 : Int) : Option (Int) := FnV ctx 98 sg98 (x0, x1)
def X98_0 : List Ex := [{ out := .ret, st := { env := [(4, .int .i64)] } }, { out := .exit 0, st := { env := [(1, .int .i64)] } }]
def S98_0 : SP := { env := [(0, .ro false 4), (1, .int .i64), (5, .int .i64)] }
noncomputable def L98_0 (x0 : List AVal) (x1 : Int) (x2 : Int) : Option ((Int) ⊕ (Int)) := LpV ctx fn98 0 0 X98_0 S98_0 (x0, x1, x2)
def ls98 : List LSig := [{ h := 0, X := X98_0, Ss := [S98_0] }]
noncomputable def F122 (x0 : Int) : Option (ByteArray) := FnV ctx 122 sg122 x0
def X122_0 : List Ex := [{ out := .exit 0, st := { env := [(3, .str)] } }]
def S122_0 : SP := { env := [(0, .int .i64), (3, .str)] }
noncomputable def L122_0 (x0 : Int) (x1 : ByteArray) : Option (ByteArray) := LpV ctx fn122 0 0 X122_0 S122_0 (x0, x1)
def ls122 : List LSig := [{ h := 0, X := X122_0, Ss := [S122_0] }]
noncomputable def F13 (x0 : List AVal) : Option (Bool) := FnV ctx 13 sg13 x0
def ls13 : List LSig := []
noncomputable def F54 (x0 : List AVal) (x1 : Int) : Option (Int) := FnV ctx 54 sg54 (x0, x1)
def X54_0 : List Ex := [{ out := .ret, st := { env := [(4, .int .i64)] } }, { out := .exit 0, st := { env := [(1, .int .i64)] } }]
def S54_0 : SP := { env := [(0, .ro false 4), (1, .int .i64), (5, .int .i64)] }
noncomputable def L54_0 (x0 : List AVal) (x1 : Int) (x2 : Int) : Option ((Int) ⊕ (Int)) := LpV ctx fn54 0 0 X54_0 S54_0 (x0, x1, x2)
def ls54 : List LSig := [{ h := 0, X := X54_0, Ss := [S54_0] }]
noncomputable def F56 (x0 : List AVal) : Option (List AVal) := FnV ctx 56 sg56 x0
def X56_0 : List Ex := [{ out := .exit 0, st := { env := [(3, .ref 3 [])], objs := [(3, false, .own 4)] } }]
def S56_0 : SP := { env := [(0, .ro false 4), (3, .ref 3 []), (4, .int .i64)], objs := [(3, false, .own 4)] }
noncomputable def L56_0 (x0 : List AVal) (x1 : Int) (x2 : List AVal) : Option (List AVal) := LpV ctx fn56 0 0 X56_0 S56_0 (x0, x1, x2)
def ls56 : List LSig := [{ h := 0, X := X56_0, Ss := [S56_0] }]
noncomputable def F55 (x0 : List AVal) : Option (Bool) := FnV ctx 55 sg55 x0
def X55_0 : List Ex := [{ out := .ret, st := { env := [(2, .bool)] } }, { out := .exit 0, st := { env := [(0, .ro false 4), (3, .ref 3 [])], objs := [(3, false, .own 1)] } }]
def S55_0 : SP := { env := [(0, .ro false 4), (3, .ref 3 []), (4, .int .i64)], objs := [(3, false, .own 1)] }
noncomputable def L55_0 (x0 : List AVal) (x1 : Int) (x2 : List AVal) : Option ((Bool) ⊕ (List AVal × List AVal)) := LpV ctx fn55 0 0 X55_0 S55_0 (x0, x1, x2)
def X55_1 : List Ex := [{ out := .ret, st := { env := [(2, .bool)] } }, { out := .exit 3, st := { env := [(0, .ro false 4), (3, .ref 3 []), (4, .int .i64)], objs := [(3, false, .own 1)] } }]
def S55_1 : SP := { env := [(0, .ro false 4), (3, .ref 3 []), (4, .int .i64), (5, .ptr 5 [] none), (6, .int .i64), (7, .int .i64)], objs := [(3, false, .own 1), (5, true, .agg [.int .i64, .str, .int .i64, .ro false 1])] }
noncomputable def L55_1 (x0 : List AVal) (x1 : Int) (x2 : Int) (x3 : Int) (x4 : List AVal) (x5 : Int) (x6 : ByteArray) (x7 : Int) (x8 : List AVal) : Option ((Bool) ⊕ (List AVal × Int × List AVal)) := LpV ctx fn55 0 1 X55_1 S55_1 (x0, x1, x2, x3, x4, x5, x6, x7, x8)
def X55_2 : List Ex := [{ out := .ret, st := { env := [(2, .bool)] } }, { out := .exit 5, st := { env := [] } }]
def S55_2 : SP := { env := [(0, .ro false 4), (3, .ref 3 []), (8, .int .i64)], objs := [(3, false, .own 1)] }
noncomputable def L55_2 (x0 : List AVal) (x1 : Int) (x2 : List AVal) : Option ((Bool) ⊕ (Unit)) := LpV ctx fn55 0 2 X55_2 S55_2 (x0, x1, x2)
def ls55 : List LSig := [{ h := 0, X := X55_0, Ss := [S55_0] }, { h := 1, X := X55_1, Ss := [S55_1] }, { h := 2, X := X55_2, Ss := [S55_2] }]
noncomputable def F57 (x0 : List AVal) : Option (Bool) := FnV ctx 57 sg57 x0
def ls57 : List LSig := []
noncomputable def F58 (x0 : List AVal) (x1 : List AVal) : Option (Bool) := FnV ctx 58 sg58 (x0, x1)
def X58_0 : List Ex := [{ out := .ret, st := { env := [(4, .bool)] } }, { out := .exit 0, st := { env := [] } }]
def S58_0 : SP := { env := [(0, .ro false 4), (1, .ro false 4), (5, .int .i64)] }
noncomputable def L58_0 (x0 : List AVal) (x1 : List AVal) (x2 : Int) : Option ((Bool) ⊕ (Unit)) := LpV ctx fn58 0 0 X58_0 S58_0 (x0, x1, x2)
def ls58 : List LSig := [{ h := 0, X := X58_0, Ss := [S58_0] }]
noncomputable def F99 (x0 : Int) (x1 : ByteArray) (x2 : Int) (x3 : List AVal) (x4 : Int) : Option (Int) := FnV ctx 99 sg99 (x0, x1, x2, x3, x4)
def ls99 : List LSig := []
noncomputable def F102 (x0 : Int) (x1 : ByteArray) (x2 : Int) (x3 : List AVal) : Option (Int × ByteArray × Int × List AVal) := FnV ctx 102 sg102 (x0, x1, x2, x3)
def ls102 : List LSig := []
noncomputable def F100 (x0 : List AVal) : Option (Int) := FnV ctx 100 sg100 x0
def X100_0 : List Ex := [{ out := .exit 0, st := { env := [(3, .int .i64)] } }]
def S100_0 : SP := { env := [(0, .ro false 4), (3, .int .i64), (4, .int .i64)] }
noncomputable def L100_0 (x0 : List AVal) (x1 : Int) (x2 : Int) : Option (Int) := LpV ctx fn100 0 0 X100_0 S100_0 (x0, x1, x2)
def ls100 : List LSig := [{ h := 0, X := X100_0, Ss := [S100_0] }]
noncomputable def F101 (x0 : ByteArray) (x1 : Int) : Option (Bool) := FnV ctx 101 sg101 (x0, x1)
def X101_0 : List Ex := [{ out := .ret, st := { env := [(4, .bool)] } }, { out := .exit 0, st := { env := [] } }]
def S101_0 : SP := { env := [(0, .str), (1, .int .u8), (5, .int .i64)] }
noncomputable def L101_0 (x0 : ByteArray) (x1 : Int) (x2 : Int) : Option ((Bool) ⊕ (Unit)) := LpV ctx fn101 0 0 X101_0 S101_0 (x0, x1, x2)
def ls101 : List LSig := [{ h := 0, X := X101_0, Ss := [S101_0] }]
noncomputable def F103 (x0 : List AVal) : Option (Int) := FnV ctx 103 sg103 x0
def X103_0 : List Ex := [{ out := .exit 0, st := { env := [(3, .int .i64)] } }]
def S103_0 : SP := { env := [(3, .int .i64), (6, .ro false 4), (7, .int .i64), (8, .int .i64)] }
noncomputable def L103_0 (x0 : Int) (x1 : List AVal) (x2 : Int) (x3 : Int) : Option (Int) := LpV ctx fn103 0 0 X103_0 S103_0 (x0, x1, x2, x3)
def ls103 : List LSig := [{ h := 0, X := X103_0, Ss := [S103_0] }]
noncomputable def F105 (x0 : Int) (x1 : ByteArray) (x2 : Int) (x3 : List AVal) (x4 : Int) (x5 : ByteArray) (x6 : Int) (x7 : List AVal) : Option (Bool) := FnV ctx 105 sg105 (x0, x1, x2, x3, x4, x5, x6, x7)
def ls105 : List LSig := []
noncomputable def F14 (x0 : ByteArray) (x1 : ByteArray) (x2 : Bool) (x3 : List AVal) (x4 : List AVal) (x5 : ByteArray) (x6 : ByteArray) (x7 : Bool) (x8 : List AVal) : Option (Bool) := FnV ctx 14 sg14 (x0, x1, x2, x3, x4, x5, x6, x7, x8)
def ls14 : List LSig := []
noncomputable def F59 (x0 : ByteArray) (x1 : ByteArray) (x2 : Bool) (x3 : List AVal) (x4 : List AVal) (x5 : ByteArray) (x6 : ByteArray) (x7 : Bool) (x8 : List AVal) : Option (ByteArray × ByteArray × Bool × List AVal × Int) := FnV ctx 59 sg59 (x0, x1, x2, x3, x4, x5, x6, x7, x8)
def ls59 : List LSig := []
noncomputable def F60 (x0 : ByteArray) (x1 : ByteArray) (x2 : Bool) (x3 : List AVal) (x4 : List AVal) (x5 : ByteArray) (x6 : ByteArray) (x7 : Bool) (x8 : List AVal) : Option (ByteArray × ByteArray × Bool × List AVal × Int) := FnV ctx 60 sg60 (x0, x1, x2, x3, x4, x5, x6, x7, x8)
def ls60 : List LSig := []
noncomputable def F106 (x0 : ByteArray) (x1 : ByteArray) (x2 : Bool) (x3 : List AVal) (x4 : List AVal) (x5 : ByteArray) (x6 : ByteArray) (x7 : Bool) (x8 : List AVal) : Option (ByteArray × ByteArray × Bool × List AVal) := FnV ctx 106 sg106 (x0, x1, x2, x3, x4, x5, x6, x7, x8)
def ls106 : List LSig := []
noncomputable def F107 (x0 : ByteArray) (x1 : ByteArray) (x2 : Bool) (x3 : List AVal) (x4 : List AVal) (x5 : ByteArray) (x6 : ByteArray) (x7 : Bool) (x8 : List AVal) : Option (ByteArray × ByteArray × Bool × List AVal) := FnV ctx 107 sg107 (x0, x1, x2, x3, x4, x5, x6, x7, x8)
def ls107 : List LSig := []
end Go.Proofs.Ytlaalinfmhiehaa
