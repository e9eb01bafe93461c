/- A part of a proof over the abstract machine. No conditions. -/
import Derived.Test.YtkpmdlcmbemgdaaGreatFQD
namespace Go.Proofs.YtkpmdlcmbemgdaaGreat
open Go Go.Ab Go.Fa
set_option maxRecDepth 1000000
set_option maxHeartbeats 0
theorem rR111:callW S 2000 200 7 [.agg [i 1,i 1,i 1]] ⟨0,[]⟩ [] 104 [(99,t111)] [] = some (.one (u 99 4 0 5 5),[]):=by kernel_rfl
theorem rO111:callW S 2000 200 5 [.agg [i 1,i 1,i 1]] ⟨0,[]⟩ [] 98 wO111 [] = some (.one (p 4),[]):=by kernel_rfl
theorem rU111_0:callW S 2000 200 6 [.one (p 4),.one (u 98 4 0 5 5)] j111_0 [3,4,5,26,47,54,56,71,86,93,95,97,98] 131 wU111_0 [] = some (.one (u 105 4 0 5 3),[]):=by kernel_rfl
theorem rU111_1:callW S 2000 200 6 [.one (p 4),.one (u 131 4 0 5 5)] j111_1 [3,4,5,26,47,54,56,71,86,93,95,97,131] 164 wU111_1 [] = some (.one (u 138 4 0 5 3),[]):=by kernel_rfl
theorem rU111_2:callW S 2000 200 6 [.one (p 4),.one (u 164 4 0 5 5)] j111_2 [3,4,5,26,48,54,56,71,87,93,95,97,164] 233 wU111_2 [] = some (.one (u 189 4 0 5 3),[]):=by kernel_rfl
theorem rU111 (x:Nat→Int):callW S 2000 200 6 [.one (p 4),.one (u 233 4 0 5 5)] (j111 x) [3,4,5,26,47,48,54,56,71,86,87,93,95,97,233] 268 [] [49,88] = some (.one (u 241 4 0 5 3),x111 (fun q=>stepI (x q))):=by kernel_rfl
theorem rS111 (x:Nat→Int):callW S 2000 200 8 [.one (p 4)] (v111 x) [3,4,5,26,47,54,56,71,86,93,95,97] 243 [] [49,88] = some (.one (.bool true),pickB (v111 x).l [49,88]):=by kernel_rfl
theorem rE111 (x:Nat→Int):callW S 2000 200 14 [.one (p 4)] (v111 x) [4] 233 [] [] = some (.one o,pickB (v111 x).l []):=by kernel_rfl
theorem rL111_0 (x:Nat→Int):callW S 2000 200 9 [.one (p 4),.one (i 0)] (v111 x) [4,26,47,54,56] 234 [] [49] = some (.tup [(false,[i 0]),(false,[.bool true])],pickB (v111 x).l [49]):=by kernel_rfl
theorem rG111_0 (x:Nat→Int):callW S 2000 200 10 [.one (p 4),.one (i 0),.one (i 0)] (v111 x) [4,26,54,56] 233 [] [] = some (.one (p 49),pickB (v111 x).l []):=by kernel_rfl
theorem rD111_0 (x:Nat→Int):callW S 2000 200 11 [.one (p 49)] (v111 x) [] 233 [] [49] = some (.one (i 0),pickB (v111 x).l [49]):=by kernel_rfl
theorem rbB111_0 (x:Nat→Int):callW S 2000 200 12 [.one (p 49)] (v111 x) [47] 233 [] [49] = some (.one (i 0),pickB (v111 x).l [49]):=by kernel_rfl
theorem rL111_1 (x:Nat→Int):callW S 2000 200 9 [.one (p 4),.one (i 1)] (v111 x) [4,56,71,86,93] 234 [] [88] = some (.tup [(false,[i 0]),(false,[.bool true])],pickB (v111 x).l [88]):=by kernel_rfl
theorem rG111_1 (x:Nat→Int):callW S 2000 200 10 [.one (p 4),.one (i 1),.one (i 0)] (v111 x) [4,56,71,93] 233 [] [] = some (.one (p 88),pickB (v111 x).l []):=by kernel_rfl
theorem rD111_1 (x:Nat→Int):callW S 2000 200 11 [.one (p 88)] (v111 x) [] 233 [] [88] = some (.one (i 0),pickB (v111 x).l [88]):=by kernel_rfl
theorem rbB111_1 (x:Nat→Int):callW S 2000 200 12 [.one (p 88)] (v111 x) [86] 233 [] [88] = some (.one (i 0),pickB (v111 x).l [88]):=by kernel_rfl
theorem rR112:callW S 2000 200 7 [.agg [i 1,i 1,i 2]] ⟨0,[]⟩ [] 107 [(101,t112)] [] = some (.one (u 101 5 0 6 5),[]):=by kernel_rfl
theorem rO112:callW S 2000 200 5 [.agg [i 1,i 1,i 2]] ⟨0,[]⟩ [] 100 wO112 [] = some (.one (p 4),[]):=by kernel_rfl
theorem rU112_0:callW S 2000 200 6 [.one (p 4),.one (u 100 5 0 6 5)] j112_0 [3,4,5,26,47,54,56,71,86,93,95,97,98,100] 139 wU112_0 [] = some (.one (u 107 5 0 6 3),[]):=by kernel_rfl
theorem rU112_1:callW S 2000 200 6 [.one (p 4),.one (u 139 5 0 6 5)] j112_1 [3,4,5,26,47,54,56,71,86,93,95,97,98,139] 178 wU112_1 [] = some (.one (u 146 5 0 6 3),[]):=by kernel_rfl
theorem rU112_2:callW S 2000 200 6 [.one (p 4),.one (u 178 5 0 6 5)] j112_2 [3,4,5,26,48,54,56,71,87,93,95,97,98,178] 253 wU112_2 [] = some (.one (u 203 5 0 6 3),[]):=by kernel_rfl
theorem rU112 (x:Nat→Int):callW S 2000 200 6 [.one (p 4),.one (u 253 5 0 6 5)] (j112 x) [3,4,5,26,47,48,54,56,71,86,87,93,95,97,98,253] 294 [] [49,88] = some (.one (u 261 5 0 6 3),x112 (fun q=>stepI (x q))):=by kernel_rfl
theorem rS112 (x:Nat→Int):callW S 2000 200 8 [.one (p 4)] (v112 x) [3,4,5,26,47,54,56,71,86,93,95,97,98] 264 [] [49,88] = some (.one (.bool true),pickB (v112 x).l [49,88]):=by kernel_rfl
theorem rE112 (x:Nat→Int):callW S 2000 200 14 [.one (p 4)] (v112 x) [4] 253 [] [] = some (.one o,pickB (v112 x).l []):=by kernel_rfl
theorem rL112_0 (x:Nat→Int):callW S 2000 200 9 [.one (p 4),.one (i 0)] (v112 x) [4,26,47,54,56] 254 [] [49] = some (.tup [(false,[i 0]),(false,[.bool true])],pickB (v112 x).l [49]):=by kernel_rfl
theorem rG112_0 (x:Nat→Int):callW S 2000 200 10 [.one (p 4),.one (i 0),.one (i 0)] (v112 x) [4,26,54,56] 253 [] [] = some (.one (p 49),pickB (v112 x).l []):=by kernel_rfl
theorem rD112_0 (x:Nat→Int):callW S 2000 200 11 [.one (p 49)] (v112 x) [] 253 [] [49] = some (.one (i 0),pickB (v112 x).l [49]):=by kernel_rfl
theorem rbB112_0 (x:Nat→Int):callW S 2000 200 12 [.one (p 49)] (v112 x) [47] 253 [] [49] = some (.one (i 0),pickB (v112 x).l [49]):=by kernel_rfl
theorem rL112_1 (x:Nat→Int):callW S 2000 200 9 [.one (p 4),.one (i 1)] (v112 x) [4,56,71,86,93] 254 [] [88] = some (.tup [(false,[i 0]),(false,[.bool true])],pickB (v112 x).l [88]):=by kernel_rfl
theorem rG112_1 (x:Nat→Int):callW S 2000 200 10 [.one (p 4),.one (i 1),.one (i 0)] (v112 x) [4,56,71,93] 253 [] [] = some (.one (p 88),pickB (v112 x).l []):=by kernel_rfl
theorem rD112_1 (x:Nat→Int):callW S 2000 200 11 [.one (p 88)] (v112 x) [] 253 [] [88] = some (.one (i 0),pickB (v112 x).l [88]):=by kernel_rfl
theorem rbB112_1 (x:Nat→Int):callW S 2000 200 12 [.one (p 88)] (v112 x) [86] 253 [] [88] = some (.one (i 0),pickB (v112 x).l [88]):=by kernel_rfl
theorem rR113:callW S 2000 200 7 [.agg [i 1,i 1,i 3]] ⟨0,[]⟩ [] 110 [(103,t113)] [] = some (.one (u 103 6 0 7 5),[]):=by kernel_rfl
theorem rO113:callW S 2000 200 5 [.agg [i 1,i 1,i 3]] ⟨0,[]⟩ [] 102 wO113 [] = some (.one (p 4),[]):=by kernel_rfl
theorem rU113_0:callW S 2000 200 6 [.one (p 4),.one (u 102 6 0 7 5)] j113_0 [3,4,5,26,47,54,56,71,86,93,95,97,98,100,102] 147 wU113_0 [] = some (.one (u 109 6 0 7 3),[]):=by kernel_rfl
theorem rU113_1:callW S 2000 200 6 [.one (p 4),.one (u 147 6 0 7 5)] j113_1 [3,4,5,26,47,54,56,71,86,93,95,97,98,100,147] 192 wU113_1 [] = some (.one (u 154 6 0 7 3),[]):=by kernel_rfl
theorem rU113_2:callW S 2000 200 6 [.one (p 4),.one (u 192 6 0 7 5)] j113_2 [3,4,5,26,48,54,56,71,87,93,95,97,98,100,192] 273 wU113_2 [] = some (.one (u 217 6 0 7 3),[]):=by kernel_rfl
theorem rU113 (x:Nat→Int):callW S 2000 200 6 [.one (p 4),.one (u 273 6 0 7 5)] (j113 x) [3,4,5,26,47,48,54,56,71,86,87,93,95,97,98,100,273] 320 [] [49,88] = some (.one (u 281 6 0 7 3),x113 (fun q=>stepI (x q))):=by kernel_rfl
theorem rS113 (x:Nat→Int):callW S 2000 200 8 [.one (p 4)] (v113 x) [3,4,5,26,47,54,56,71,86,93,95,97,98,100] 285 [] [49,88] = some (.one (.bool true),pickB (v113 x).l [49,88]):=by kernel_rfl
theorem rE113 (x:Nat→Int):callW S 2000 200 14 [.one (p 4)] (v113 x) [4] 273 [] [] = some (.one o,pickB (v113 x).l []):=by kernel_rfl
theorem rL113_0 (x:Nat→Int):callW S 2000 200 9 [.one (p 4),.one (i 0)] (v113 x) [4,26,47,54,56] 274 [] [49] = some (.tup [(false,[i 0]),(false,[.bool true])],pickB (v113 x).l [49]):=by kernel_rfl
theorem rG113_0 (x:Nat→Int):callW S 2000 200 10 [.one (p 4),.one (i 0),.one (i 0)] (v113 x) [4,26,54,56] 273 [] [] = some (.one (p 49),pickB (v113 x).l []):=by kernel_rfl
theorem rD113_0 (x:Nat→Int):callW S 2000 200 11 [.one (p 49)] (v113 x) [] 273 [] [49] = some (.one (i 0),pickB (v113 x).l [49]):=by kernel_rfl
theorem rbB113_0 (x:Nat→Int):callW S 2000 200 12 [.one (p 49)] (v113 x) [47] 273 [] [49] = some (.one (i 0),pickB (v113 x).l [49]):=by kernel_rfl
theorem rL113_1 (x:Nat→Int):callW S 2000 200 9 [.one (p 4),.one (i 1)] (v113 x) [4,56,71,86,93] 274 [] [88] = some (.tup [(false,[i 0]),(false,[.bool true])],pickB (v113 x).l [88]):=by kernel_rfl
theorem rG113_1 (x:Nat→Int):callW S 2000 200 10 [.one (p 4),.one (i 1),.one (i 0)] (v113 x) [4,56,71,93] 273 [] [] = some (.one (p 88),pickB (v113 x).l []):=by kernel_rfl
theorem rD113_1 (x:Nat→Int):callW S 2000 200 11 [.one (p 88)] (v113 x) [] 273 [] [88] = some (.one (i 0),pickB (v113 x).l [88]):=by kernel_rfl
theorem rbB113_1 (x:Nat→Int):callW S 2000 200 12 [.one (p 88)] (v113 x) [86] 273 [] [88] = some (.one (i 0),pickB (v113 x).l [88]):=by kernel_rfl
theorem rR114:callW S 2000 200 7 [.agg [i 1,i 1,i 4]] ⟨0,[]⟩ [] 113 [(105,t114)] [] = some (.one (u 105 7 0 8 5),[]):=by kernel_rfl
theorem rO114:callW S 2000 200 5 [.agg [i 1,i 1,i 4]] ⟨0,[]⟩ [] 104 wO114 [] = some (.one (p 4),[]):=by kernel_rfl
theorem rU114_0:callW S 2000 200 6 [.one (p 4),.one (u 104 7 0 8 5)] j114_0 [3,4,5,26,47,54,56,71,86,93,95,97,98,100,102,104] 155 wU114_0 [] = some (.one (u 111 7 0 8 3),[]):=by kernel_rfl
theorem rU114_1:callW S 2000 200 6 [.one (p 4),.one (u 155 7 0 8 5)] j114_1 [3,4,5,26,47,54,56,71,86,93,95,97,98,100,102,155] 206 wU114_1 [] = some (.one (u 162 7 0 8 3),[]):=by kernel_rfl
theorem rU114_2:callW S 2000 200 6 [.one (p 4),.one (u 206 7 0 8 5)] j114_2 [3,4,5,26,48,54,56,71,87,93,95,97,98,100,102,206] 293 wU114_2 [] = some (.one (u 231 7 0 8 3),[]):=by kernel_rfl
theorem rU114 (x:Nat→Int):callW S 2000 200 6 [.one (p 4),.one (u 293 7 0 8 5)] (j114 x) [3,4,5,26,47,48,54,56,71,86,87,93,95,97,98,100,102,293] 346 [] [49,88] = some (.one (u 301 7 0 8 3),x114 (fun q=>stepI (x q))):=by kernel_rfl
theorem rS114 (x:Nat→Int):callW S 2000 200 8 [.one (p 4)] (v114 x) [3,4,5,26,47,54,56,71,86,93,95,97,98,100,102] 306 [] [49,88] = some (.one (.bool true),pickB (v114 x).l [49,88]):=by kernel_rfl
theorem rE114 (x:Nat→Int):callW S 2000 200 14 [.one (p 4)] (v114 x) [4] 293 [] [] = some (.one o,pickB (v114 x).l []):=by kernel_rfl
theorem rL114_0 (x:Nat→Int):callW S 2000 200 9 [.one (p 4),.one (i 0)] (v114 x) [4,26,47,54,56] 294 [] [49] = some (.tup [(false,[i 0]),(false,[.bool true])],pickB (v114 x).l [49]):=by kernel_rfl
theorem rG114_0 (x:Nat→Int):callW S 2000 200 10 [.one (p 4),.one (i 0),.one (i 0)] (v114 x) [4,26,54,56] 293 [] [] = some (.one (p 49),pickB (v114 x).l []):=by kernel_rfl
theorem rD114_0 (x:Nat→Int):callW S 2000 200 11 [.one (p 49)] (v114 x) [] 293 [] [49] = some (.one (i 0),pickB (v114 x).l [49]):=by kernel_rfl
theorem rbB114_0 (x:Nat→Int):callW S 2000 200 12 [.one (p 49)] (v114 x) [47] 293 [] [49] = some (.one (i 0),pickB (v114 x).l [49]):=by kernel_rfl
theorem rL114_1 (x:Nat→Int):callW S 2000 200 9 [.one (p 4),.one (i 1)] (v114 x) [4,56,71,86,93] 294 [] [88] = some (.tup [(false,[i 0]),(false,[.bool true])],pickB (v114 x).l [88]):=by kernel_rfl
theorem rG114_1 (x:Nat→Int):callW S 2000 200 10 [.one (p 4),.one (i 1),.one (i 0)] (v114 x) [4,56,71,93] 293 [] [] = some (.one (p 88),pickB (v114 x).l []):=by kernel_rfl
theorem rD114_1 (x:Nat→Int):callW S 2000 200 11 [.one (p 88)] (v114 x) [] 293 [] [88] = some (.one (i 0),pickB (v114 x).l [88]):=by kernel_rfl
theorem rbB114_1 (x:Nat→Int):callW S 2000 200 12 [.one (p 88)] (v114 x) [86] 293 [] [88] = some (.one (i 0),pickB (v114 x).l [88]):=by kernel_rfl
theorem rR131:callW S 2000 200 7 [.agg [i 1,i 3,i 1]] ⟨0,[]⟩ [] 200 [(191,t131)] [] = some (.one (u 191 8 0 9 5),[]):=by kernel_rfl
theorem rO131:callW S 2000 200 5 [.agg [i 1,i 3,i 1]] ⟨0,[]⟩ [] 190 wO131 [] = some (.one (p 4),[]):=by kernel_rfl
theorem rU131_0:callW S 2000 200 6 [.one (p 4),.one (u 190 8 0 9 5)] j131_0 [3,4,5,26,47,54,75,101,108,123,138,145,160,180,187,189,190] 247 wU131_0 [] = some (.one (u 197 8 0 9 3),[]):=by kernel_rfl
theorem rU131_1:callW S 2000 200 6 [.one (p 4),.one (u 247 8 0 9 5)] j131_1 [3,4,5,26,47,54,75,101,108,123,138,145,160,180,187,189,247] 304 wU131_1 [] = some (.one (u 254 8 0 9 3),[]):=by kernel_rfl
theorem rU131_2:callW S 2000 200 6 [.one (p 4),.one (u 304 8 0 9 5)] j131_2 [3,4,26,54,102,108,123,145,181,187,189,304] 824 wU131_2 [] = some (.one (u 346 8 0 9 3),[]):=by kernel_rfl
theorem rU131 (x:Nat→Int):callW S 2000 200 6 [.one (p 4),.one (u 824 8 0 9 5)] (j131 x) [3,4,5,26,47,49,54,75,77,101,102,108,123,138,140,145,160,162,180,181,187,189,339,824] 953 [] [103,182] = some (.one (u 831 8 0 9 3),x131 (fun q=>stepI (x q))):=by kernel_rfl
theorem rS131 (x:Nat→Int):callW S 2000 200 8 [.one (p 4)] (v131 x) [3,4,5,26,47,49,54,75,77,101,108,123,138,140,145,160,162,180,187,189] 834 [] [103,182] = some (.one (.bool true),pickB (v131 x).l [103,182]):=by kernel_rfl
theorem rE131 (x:Nat→Int):callW S 2000 200 14 [.one (p 4)] (v131 x) [4] 824 [] [] = some (.one o,pickB (v131 x).l []):=by kernel_rfl
theorem rL131_0 (x:Nat→Int):callW S 2000 200 9 [.one (p 4),.one (i 0)] (v131 x) [4,26,49,54,77,101,108] 825 [] [103] = some (.tup [(false,[i 2]),(false,[.bool true])],pickB (v131 x).l [103]):=by kernel_rfl
theorem rG131_0 (x:Nat→Int):callW S 2000 200 10 [.one (p 4),.one (i 0),.one (i 2)] (v131 x) [4,26,54,108] 824 [] [] = some (.one (p 103),pickB (v131 x).l []):=by kernel_rfl
theorem rD131_0 (x:Nat→Int):callW S 2000 200 11 [.one (p 103)] (v131 x) [] 824 [] [103] = some (.one (i 0),pickB (v131 x).l [103]):=by kernel_rfl
theorem rbB131_0 (x:Nat→Int):callW S 2000 200 12 [.one (p 103)] (v131 x) [101] 824 [] [103] = some (.one (i 2),pickB (v131 x).l [103]):=by kernel_rfl
theorem rL131_1 (x:Nat→Int):callW S 2000 200 9 [.one (p 4),.one (i 1)] (v131 x) [4,108,123,140,145,162,180] 825 [] [182] = some (.tup [(false,[i 2]),(false,[.bool true])],pickB (v131 x).l [182]):=by kernel_rfl
theorem rG131_1 (x:Nat→Int):callW S 2000 200 10 [.one (p 4),.one (i 1),.one (i 2)] (v131 x) [4,108,123,145] 824 [] [] = some (.one (p 182),pickB (v131 x).l []):=by kernel_rfl
theorem rD131_1 (x:Nat→Int):callW S 2000 200 11 [.one (p 182)] (v131 x) [] 824 [] [182] = some (.one (i 0),pickB (v131 x).l [182]):=by kernel_rfl
theorem rbB131_1 (x:Nat→Int):callW S 2000 200 12 [.one (p 182)] (v131 x) [180] 824 [] [182] = some (.one (i 2),pickB (v131 x).l [182]):=by kernel_rfl
theorem rR132:callW S 2000 200 7 [.agg [i 1,i 3,i 2]] ⟨0,[]⟩ [] 203 [(193,t132)] [] = some (.one (u 193 9 0 10 5),[]):=by kernel_rfl
theorem rO132:callW S 2000 200 5 [.agg [i 1,i 3,i 2]] ⟨0,[]⟩ [] 192 wO132 [] = some (.one (p 4),[]):=by kernel_rfl
theorem rU132_0:callW S 2000 200 6 [.one (p 4),.one (u 192 9 0 10 5)] j132_0 [3,4,5,26,47,54,75,101,108,123,138,145,160,180,187,189,190,192] 255 wU132_0 [] = some (.one (u 199 9 0 10 3),[]):=by kernel_rfl
theorem rU132_1:callW S 2000 200 6 [.one (p 4),.one (u 255 9 0 10 5)] j132_1 [3,4,5,26,47,54,75,101,108,123,138,145,160,180,187,189,190,255] 318 wU132_1 [] = some (.one (u 262 9 0 10 3),[]):=by kernel_rfl
theorem rU132_2:callW S 2000 200 6 [.one (p 4),.one (u 318 9 0 10 5)] j132_2 [3,4,26,54,102,108,123,145,181,187,189,190,318] 844 wU132_2 [] = some (.one (u 360 9 0 10 3),[]):=by kernel_rfl
theorem rU132 (x:Nat→Int):callW S 2000 200 6 [.one (p 4),.one (u 844 9 0 10 5)] (j132 x) [3,4,5,26,47,49,54,75,77,101,102,108,123,138,140,145,160,162,180,181,187,189,190,353,844] 979 [] [103,182] = some (.one (u 851 9 0 10 3),x132 (fun q=>stepI (x q))):=by kernel_rfl
theorem rS132 (x:Nat→Int):callW S 2000 200 8 [.one (p 4)] (v132 x) [3,4,5,26,47,49,54,75,77,101,108,123,138,140,145,160,162,180,187,189,190] 855 [] [103,182] = some (.one (.bool true),pickB (v132 x).l [103,182]):=by kernel_rfl
theorem rE132 (x:Nat→Int):callW S 2000 200 14 [.one (p 4)] (v132 x) [4] 844 [] [] = some (.one o,pickB (v132 x).l []):=by kernel_rfl
theorem rL132_0 (x:Nat→Int):callW S 2000 200 9 [.one (p 4),.one (i 0)] (v132 x) [4,26,49,54,77,101,108] 845 [] [103] = some (.tup [(false,[i 2]),(false,[.bool true])],pickB (v132 x).l [103]):=by kernel_rfl
theorem rG132_0 (x:Nat→Int):callW S 2000 200 10 [.one (p 4),.one (i 0),.one (i 2)] (v132 x) [4,26,54,108] 844 [] [] = some (.one (p 103),pickB (v132 x).l []):=by kernel_rfl
theorem rD132_0 (x:Nat→Int):callW S 2000 200 11 [.one (p 103)] (v132 x) [] 844 [] [103] = some (.one (i 0),pickB (v132 x).l [103]):=by kernel_rfl
theorem rbB132_0 (x:Nat→Int):callW S 2000 200 12 [.one (p 103)] (v132 x) [101] 844 [] [103] = some (.one (i 2),pickB (v132 x).l [103]):=by kernel_rfl
theorem rL132_1 (x:Nat→Int):callW S 2000 200 9 [.one (p 4),.one (i 1)] (v132 x) [4,108,123,140,145,162,180] 845 [] [182] = some (.tup [(false,[i 2]),(false,[.bool true])],pickB (v132 x).l [182]):=by kernel_rfl
theorem rG132_1 (x:Nat→Int):callW S 2000 200 10 [.one (p 4),.one (i 1),.one (i 2)] (v132 x) [4,108,123,145] 844 [] [] = some (.one (p 182),pickB (v132 x).l []):=by kernel_rfl
theorem rD132_1 (x:Nat→Int):callW S 2000 200 11 [.one (p 182)] (v132 x) [] 844 [] [182] = some (.one (i 0),pickB (v132 x).l [182]):=by kernel_rfl
theorem rbB132_1 (x:Nat→Int):callW S 2000 200 12 [.one (p 182)] (v132 x) [180] 844 [] [182] = some (.one (i 2),pickB (v132 x).l [182]):=by kernel_rfl
theorem rR133:callW S 2000 200 7 [.agg [i 1,i 3,i 3]] ⟨0,[]⟩ [] 206 [(195,t133)] [] = some (.one (u 195 10 0 11 5),[]):=by kernel_rfl
theorem rO133:callW S 2000 200 5 [.agg [i 1,i 3,i 3]] ⟨0,[]⟩ [] 194 wO133 [] = some (.one (p 4),[]):=by kernel_rfl
theorem rU133_0:callW S 2000 200 6 [.one (p 4),.one (u 194 10 0 11 5)] j133_0 [3,4,5,26,47,54,75,101,108,123,138,145,160,180,187,189,190,192,194] 263 wU133_0 [] = some (.one (u 201 10 0 11 3),[]):=by kernel_rfl
theorem rU133_1:callW S 2000 200 6 [.one (p 4),.one (u 263 10 0 11 5)] j133_1 [3,4,5,26,47,54,75,101,108,123,138,145,160,180,187,189,190,192,263] 332 wU133_1 [] = some (.one (u 270 10 0 11 3),[]):=by kernel_rfl
theorem rU133_2:callW S 2000 200 6 [.one (p 4),.one (u 332 10 0 11 5)] j133_2 [3,4,26,54,102,108,123,145,181,187,189,190,192,332] 864 wU133_2 [] = some (.one (u 374 10 0 11 3),[]):=by kernel_rfl
theorem rU133 (x:Nat→Int):callW S 2000 200 6 [.one (p 4),.one (u 864 10 0 11 5)] (j133 x) [3,4,5,26,47,49,54,75,77,101,102,108,123,138,140,145,160,162,180,181,187,189,190,192,367,864] 1005 [] [103,182] = some (.one (u 871 10 0 11 3),x133 (fun q=>stepI (x q))):=by kernel_rfl
theorem rS133 (x:Nat→Int):callW S 2000 200 8 [.one (p 4)] (v133 x) [3,4,5,26,47,49,54,75,77,101,108,123,138,140,145,160,162,180,187,189,190,192] 876 [] [103,182] = some (.one (.bool true),pickB (v133 x).l [103,182]):=by kernel_rfl
theorem rE133 (x:Nat→Int):callW S 2000 200 14 [.one (p 4)] (v133 x) [4] 864 [] [] = some (.one o,pickB (v133 x).l []):=by kernel_rfl
theorem rL133_0 (x:Nat→Int):callW S 2000 200 9 [.one (p 4),.one (i 0)] (v133 x) [4,26,49,54,77,101,108] 865 [] [103] = some (.tup [(false,[i 2]),(false,[.bool true])],pickB (v133 x).l [103]):=by kernel_rfl
theorem rG133_0 (x:Nat→Int):callW S 2000 200 10 [.one (p 4),.one (i 0),.one (i 2)] (v133 x) [4,26,54,108] 864 [] [] = some (.one (p 103),pickB (v133 x).l []):=by kernel_rfl
theorem rD133_0 (x:Nat→Int):callW S 2000 200 11 [.one (p 103)] (v133 x) [] 864 [] [103] = some (.one (i 0),pickB (v133 x).l [103]):=by kernel_rfl
theorem rbB133_0 (x:Nat→Int):callW S 2000 200 12 [.one (p 103)] (v133 x) [101] 864 [] [103] = some (.one (i 2),pickB (v133 x).l [103]):=by kernel_rfl
theorem rL133_1 (x:Nat→Int):callW S 2000 200 9 [.one (p 4),.one (i 1)] (v133 x) [4,108,123,140,145,162,180] 865 [] [182] = some (.tup [(false,[i 2]),(false,[.bool true])],pickB (v133 x).l [182]):=by kernel_rfl
theorem rG133_1 (x:Nat→Int):callW S 2000 200 10 [.one (p 4),.one (i 1),.one (i 2)] (v133 x) [4,108,123,145] 864 [] [] = some (.one (p 182),pickB (v133 x).l []):=by kernel_rfl
theorem rD133_1 (x:Nat→Int):callW S 2000 200 11 [.one (p 182)] (v133 x) [] 864 [] [182] = some (.one (i 0),pickB (v133 x).l [182]):=by kernel_rfl
theorem rbB133_1 (x:Nat→Int):callW S 2000 200 12 [.one (p 182)] (v133 x) [180] 864 [] [182] = some (.one (i 2),pickB (v133 x).l [182]):=by kernel_rfl
theorem rR134:callW S 2000 200 7 [.agg [i 1,i 3,i 4]] ⟨0,[]⟩ [] 209 [(197,t134)] [] = some (.one (u 197 11 0 12 5),[]):=by kernel_rfl
theorem rO134:callW S 2000 200 5 [.agg [i 1,i 3,i 4]] ⟨0,[]⟩ [] 196 wO134 [] = some (.one (p 4),[]):=by kernel_rfl
theorem rU134_0:callW S 2000 200 6 [.one (p 4),.one (u 196 11 0 12 5)] j134_0 [3,4,5,26,47,54,75,101,108,123,138,145,160,180,187,189,190,192,194,196] 271 wU134_0 [] = some (.one (u 203 11 0 12 3),[]):=by kernel_rfl
theorem rU134_1:callW S 2000 200 6 [.one (p 4),.one (u 271 11 0 12 5)] j134_1 [3,4,5,26,47,54,75,101,108,123,138,145,160,180,187,189,190,192,194,271] 346 wU134_1 [] = some (.one (u 278 11 0 12 3),[]):=by kernel_rfl
theorem rU134_2:callW S 2000 200 6 [.one (p 4),.one (u 346 11 0 12 5)] j134_2 [3,4,26,54,102,108,123,145,181,187,189,190,192,194,346] 884 wU134_2 [] = some (.one (u 388 11 0 12 3),[]):=by kernel_rfl
theorem rU134 (x:Nat→Int):callW S 2000 200 6 [.one (p 4),.one (u 884 11 0 12 5)] (j134 x) [3,4,5,26,47,49,54,75,77,101,102,108,123,138,140,145,160,162,180,181,187,189,190,192,194,381,884] 1031 [] [103,182] = some (.one (u 891 11 0 12 3),x134 (fun q=>stepI (x q))):=by kernel_rfl
theorem rS134 (x:Nat→Int):callW S 2000 200 8 [.one (p 4)] (v134 x) [3,4,5,26,47,49,54,75,77,101,108,123,138,140,145,160,162,180,187,189,190,192,194] 897 [] [103,182] = some (.one (.bool true),pickB (v134 x).l [103,182]):=by kernel_rfl
theorem rE134 (x:Nat→Int):callW S 2000 200 14 [.one (p 4)] (v134 x) [4] 884 [] [] = some (.one o,pickB (v134 x).l []):=by kernel_rfl
theorem rL134_0 (x:Nat→Int):callW S 2000 200 9 [.one (p 4),.one (i 0)] (v134 x) [4,26,49,54,77,101,108] 885 [] [103] = some (.tup [(false,[i 2]),(false,[.bool true])],pickB (v134 x).l [103]):=by kernel_rfl
theorem rG134_0 (x:Nat→Int):callW S 2000 200 10 [.one (p 4),.one (i 0),.one (i 2)] (v134 x) [4,26,54,108] 884 [] [] = some (.one (p 103),pickB (v134 x).l []):=by kernel_rfl
theorem rD134_0 (x:Nat→Int):callW S 2000 200 11 [.one (p 103)] (v134 x) [] 884 [] [103] = some (.one (i 0),pickB (v134 x).l [103]):=by kernel_rfl
theorem rbB134_0 (x:Nat→Int):callW S 2000 200 12 [.one (p 103)] (v134 x) [101] 884 [] [103] = some (.one (i 2),pickB (v134 x).l [103]):=by kernel_rfl
theorem rL134_1 (x:Nat→Int):callW S 2000 200 9 [.one (p 4),.one (i 1)] (v134 x) [4,108,123,140,145,162,180] 885 [] [182] = some (.tup [(false,[i 2]),(false,[.bool true])],pickB (v134 x).l [182]):=by kernel_rfl
theorem rG134_1 (x:Nat→Int):callW S 2000 200 10 [.one (p 4),.one (i 1),.one (i 2)] (v134 x) [4,108,123,145] 884 [] [] = some (.one (p 182),pickB (v134 x).l []):=by kernel_rfl
theorem rD134_1 (x:Nat→Int):callW S 2000 200 11 [.one (p 182)] (v134 x) [] 884 [] [182] = some (.one (i 0),pickB (v134 x).l [182]):=by kernel_rfl
theorem rbB134_1 (x:Nat→Int):callW S 2000 200 12 [.one (p 182)] (v134 x) [180] 884 [] [182] = some (.one (i 2),pickB (v134 x).l [182]):=by kernel_rfl
theorem rR211:callW S 2000 200 7 [.agg [i 2,i 1,i 1]] ⟨0,[]⟩ [] 121 [(115,t211)] [] = some (.one (u 115 5 0 6 5),[]):=by kernel_rfl
theorem rO211:callW S 2000 200 5 [.agg [i 2,i 1,i 1]] ⟨0,[]⟩ [] 114 wO211 [] = some (.one (p 4),[]):=by kernel_rfl
theorem rU211_0:callW S 2000 200 6 [.one (p 4),.one (u 114 5 0 6 5)] j211_0 [3,4,5,26,47,54,56,71,86,93,98,102,109,111,113,114] 153 wU211_0 [] = some (.one (u 121 5 0 6 3),[]):=by kernel_rfl
theorem rU211_1:callW S 2000 200 6 [.one (p 4),.one (u 153 5 0 6 5)] j211_1 [3,4,5,26,47,54,56,71,86,93,98,102,109,111,113,153] 192 wU211_1 [] = some (.one (u 160 5 0 6 3),[]):=by kernel_rfl
theorem rU211_2:callW S 2000 200 6 [.one (p 4),.one (u 192 5 0 6 5)] j211_2 [3,4,5,26,48,54,56,71,87,93,98,103,109,111,113,192] 285 wU211_2 [] = some (.one (u 217 5 0 6 3),[]):=by kernel_rfl
theorem rU211 (x:Nat→Int):callW S 2000 200 6 [.one (p 4),.one (u 285 5 0 6 5)] (j211 x) [3,4,5,26,47,48,54,56,71,86,87,93,98,102,103,109,111,113,285] 327 [] [49,88,104] = some (.one (u 293 5 0 6 3),x211 (fun q=>stepI (x q))):=by kernel_rfl
theorem rS211 (x:Nat→Int):callW S 2000 200 8 [.one (p 4)] (v211 x) [3,4,5,26,47,54,56,71,86,93,98,102,109,111,113] 298 [] [49,88,104] = some (.one (.bool true),pickB (v211 x).l [49,88,104]):=by kernel_rfl
theorem rE211 (x:Nat→Int):callW S 2000 200 14 [.one (p 4)] (v211 x) [4] 285 [] [] = some (.one o,pickB (v211 x).l []):=by kernel_rfl
theorem rL211_0 (x:Nat→Int):callW S 2000 200 9 [.one (p 4),.one (i 0)] (v211 x) [4,26,47,54,56] 286 [] [49] = some (.tup [(false,[i 0]),(false,[.bool true])],pickB (v211 x).l [49]):=by kernel_rfl
theorem rG211_0 (x:Nat→Int):callW S 2000 200 10 [.one (p 4),.one (i 0),.one (i 0)] (v211 x) [4,26,54,56] 285 [] [] = some (.one (p 49),pickB (v211 x).l []):=by kernel_rfl
theorem rD211_0 (x:Nat→Int):callW S 2000 200 11 [.one (p 49)] (v211 x) [] 285 [] [49] = some (.one (i 0),pickB (v211 x).l [49]):=by kernel_rfl
theorem rbB211_0 (x:Nat→Int):callW S 2000 200 12 [.one (p 49)] (v211 x) [47] 285 [] [49] = some (.one (i 0),pickB (v211 x).l [49]):=by kernel_rfl
theorem rL211_1 (x:Nat→Int):callW S 2000 200 9 [.one (p 4),.one (i 1)] (v211 x) [4,56,71,86,93] 286 [] [88] = some (.tup [(false,[i 0]),(false,[.bool true])],pickB (v211 x).l [88]):=by kernel_rfl
theorem rG211_1 (x:Nat→Int):callW S 2000 200 10 [.one (p 4),.one (i 1),.one (i 0)] (v211 x) [4,56,71,93] 285 [] [] = some (.one (p 88),pickB (v211 x).l []):=by kernel_rfl
theorem rD211_1 (x:Nat→Int):callW S 2000 200 11 [.one (p 88)] (v211 x) [] 285 [] [88] = some (.one (i 0),pickB (v211 x).l [88]):=by kernel_rfl
theorem rbB211_1 (x:Nat→Int):callW S 2000 200 12 [.one (p 88)] (v211 x) [86] 285 [] [88] = some (.one (i 0),pickB (v211 x).l [88]):=by kernel_rfl
theorem rL211_2 (x:Nat→Int):callW S 2000 200 9 [.one (p 4),.one (i 2)] (v211 x) [4,56,98,102,109] 286 [] [104] = some (.tup [(false,[i 0]),(false,[.bool true])],pickB (v211 x).l [104]):=by kernel_rfl
theorem rG211_2 (x:Nat→Int):callW S 2000 200 10 [.one (p 4),.one (i 2),.one (i 0)] (v211 x) [4,56,98,109] 285 [] [] = some (.one (p 104),pickB (v211 x).l []):=by kernel_rfl
theorem rD211_2 (x:Nat→Int):callW S 2000 200 11 [.one (p 104)] (v211 x) [] 285 [] [104] = some (.one (i 0),pickB (v211 x).l [104]):=by kernel_rfl
theorem rbB211_2 (x:Nat→Int):callW S 2000 200 12 [.one (p 104)] (v211 x) [102] 285 [] [104] = some (.one (i 0),pickB (v211 x).l [104]):=by kernel_rfl
theorem rK:callW S 2000 200 15 [] ⟨0,[]⟩ [] 849 [] [] = some (.one (.bool true),[]):=by kernel_rfl
end Go.Proofs.YtkpmdlcmbemgdaaGreat
