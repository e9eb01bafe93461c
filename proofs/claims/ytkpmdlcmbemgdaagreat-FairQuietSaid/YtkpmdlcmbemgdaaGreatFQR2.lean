/- A part of a proof over the abstract machine. No conditions. -/
import Derived.Test.YtkpmdlcmbemgdaaGreatFQD
namespace Go.Proofs.YtkpmdlcmbemgdaaGreat
open Go Go.Ab Go.Fa
set_option maxRecDepth 1000000
set_option maxHeartbeats 0
theorem rR212:callW S 2000 200 7 [.agg [i 2,i 1,i 2]] ⟨0,[]⟩ [] 124 [(117,t212)] [] = some (.one (u 117 6 0 7 5),[]):=by kernel_rfl
theorem rO212:callW S 2000 200 5 [.agg [i 2,i 1,i 2]] ⟨0,[]⟩ [] 116 wO212 [] = some (.one (p 4),[]):=by kernel_rfl
theorem rU212_0:callW S 2000 200 6 [.one (p 4),.one (u 116 6 0 7 5)] j212_0 [3,4,5,26,47,54,56,71,86,93,98,102,109,111,113,114,116] 161 wU212_0 [] = some (.one (u 123 6 0 7 3),[]):=by kernel_rfl
theorem rU212_1:callW S 2000 200 6 [.one (p 4),.one (u 161 6 0 7 5)] j212_1 [3,4,5,26,47,54,56,71,86,93,98,102,109,111,113,114,161] 206 wU212_1 [] = some (.one (u 168 6 0 7 3),[]):=by kernel_rfl
theorem rU212_2:callW S 2000 200 6 [.one (p 4),.one (u 206 6 0 7 5)] j212_2 [3,4,5,26,48,54,56,71,87,93,98,103,109,111,113,114,206] 305 wU212_2 [] = some (.one (u 231 6 0 7 3),[]):=by kernel_rfl
theorem rU212 (x:Nat→Int):callW S 2000 200 6 [.one (p 4),.one (u 305 6 0 7 5)] (j212 x) [3,4,5,26,47,48,54,56,71,86,87,93,98,102,103,109,111,113,114,305] 353 [] [49,88,104] = some (.one (u 313 6 0 7 3),x212 (fun q=>stepI (x q))):=by kernel_rfl
theorem rS212 (x:Nat→Int):callW S 2000 200 8 [.one (p 4)] (v212 x) [3,4,5,26,47,54,56,71,86,93,98,102,109,111,113,114] 319 [] [49,88,104] = some (.one (.bool true),pickB (v212 x).l [49,88,104]):=by kernel_rfl
theorem rE212 (x:Nat→Int):callW S 2000 200 14 [.one (p 4)] (v212 x) [4] 305 [] [] = some (.one o,pickB (v212 x).l []):=by kernel_rfl
theorem rL212_0 (x:Nat→Int):callW S 2000 200 9 [.one (p 4),.one (i 0)] (v212 x) [4,26,47,54,56] 306 [] [49] = some (.tup [(false,[i 0]),(false,[.bool true])],pickB (v212 x).l [49]):=by kernel_rfl
theorem rG212_0 (x:Nat→Int):callW S 2000 200 10 [.one (p 4),.one (i 0),.one (i 0)] (v212 x) [4,26,54,56] 305 [] [] = some (.one (p 49),pickB (v212 x).l []):=by kernel_rfl
theorem rD212_0 (x:Nat→Int):callW S 2000 200 11 [.one (p 49)] (v212 x) [] 305 [] [49] = some (.one (i 0),pickB (v212 x).l [49]):=by kernel_rfl
theorem rbB212_0 (x:Nat→Int):callW S 2000 200 12 [.one (p 49)] (v212 x) [47] 305 [] [49] = some (.one (i 0),pickB (v212 x).l [49]):=by kernel_rfl
theorem rL212_1 (x:Nat→Int):callW S 2000 200 9 [.one (p 4),.one (i 1)] (v212 x) [4,56,71,86,93] 306 [] [88] = some (.tup [(false,[i 0]),(false,[.bool true])],pickB (v212 x).l [88]):=by kernel_rfl
theorem rG212_1 (x:Nat→Int):callW S 2000 200 10 [.one (p 4),.one (i 1),.one (i 0)] (v212 x) [4,56,71,93] 305 [] [] = some (.one (p 88),pickB (v212 x).l []):=by kernel_rfl
theorem rD212_1 (x:Nat→Int):callW S 2000 200 11 [.one (p 88)] (v212 x) [] 305 [] [88] = some (.one (i 0),pickB (v212 x).l [88]):=by kernel_rfl
theorem rbB212_1 (x:Nat→Int):callW S 2000 200 12 [.one (p 88)] (v212 x) [86] 305 [] [88] = some (.one (i 0),pickB (v212 x).l [88]):=by kernel_rfl
theorem rL212_2 (x:Nat→Int):callW S 2000 200 9 [.one (p 4),.one (i 2)] (v212 x) [4,56,98,102,109] 306 [] [104] = some (.tup [(false,[i 0]),(false,[.bool true])],pickB (v212 x).l [104]):=by kernel_rfl
theorem rG212_2 (x:Nat→Int):callW S 2000 200 10 [.one (p 4),.one (i 2),.one (i 0)] (v212 x) [4,56,98,109] 305 [] [] = some (.one (p 104),pickB (v212 x).l []):=by kernel_rfl
theorem rD212_2 (x:Nat→Int):callW S 2000 200 11 [.one (p 104)] (v212 x) [] 305 [] [104] = some (.one (i 0),pickB (v212 x).l [104]):=by kernel_rfl
theorem rbB212_2 (x:Nat→Int):callW S 2000 200 12 [.one (p 104)] (v212 x) [102] 305 [] [104] = some (.one (i 0),pickB (v212 x).l [104]):=by kernel_rfl
theorem rR213:callW S 2000 200 7 [.agg [i 2,i 1,i 3]] ⟨0,[]⟩ [] 127 [(119,t213)] [] = some (.one (u 119 7 0 8 5),[]):=by kernel_rfl
theorem rO213:callW S 2000 200 5 [.agg [i 2,i 1,i 3]] ⟨0,[]⟩ [] 118 wO213 [] = some (.one (p 4),[]):=by kernel_rfl
theorem rU213_0:callW S 2000 200 6 [.one (p 4),.one (u 118 7 0 8 5)] j213_0 [3,4,5,26,47,54,56,71,86,93,98,102,109,111,113,114,116,118] 169 wU213_0 [] = some (.one (u 125 7 0 8 3),[]):=by kernel_rfl
theorem rU213_1:callW S 2000 200 6 [.one (p 4),.one (u 169 7 0 8 5)] j213_1 [3,4,5,26,47,54,56,71,86,93,98,102,109,111,113,114,116,169] 220 wU213_1 [] = some (.one (u 176 7 0 8 3),[]):=by kernel_rfl
theorem rU213_2:callW S 2000 200 6 [.one (p 4),.one (u 220 7 0 8 5)] j213_2 [3,4,5,26,48,54,56,71,87,93,98,103,109,111,113,114,116,220] 325 wU213_2 [] = some (.one (u 245 7 0 8 3),[]):=by kernel_rfl
theorem rU213 (x:Nat→Int):callW S 2000 200 6 [.one (p 4),.one (u 325 7 0 8 5)] (j213 x) [3,4,5,26,47,48,54,56,71,86,87,93,98,102,103,109,111,113,114,116,325] 379 [] [49,88,104] = some (.one (u 333 7 0 8 3),x213 (fun q=>stepI (x q))):=by kernel_rfl
theorem rS213 (x:Nat→Int):callW S 2000 200 8 [.one (p 4)] (v213 x) [3,4,5,26,47,54,56,71,86,93,98,102,109,111,113,114,116] 340 [] [49,88,104] = some (.one (.bool true),pickB (v213 x).l [49,88,104]):=by kernel_rfl
theorem rE213 (x:Nat→Int):callW S 2000 200 14 [.one (p 4)] (v213 x) [4] 325 [] [] = some (.one o,pickB (v213 x).l []):=by kernel_rfl
theorem rL213_0 (x:Nat→Int):callW S 2000 200 9 [.one (p 4),.one (i 0)] (v213 x) [4,26,47,54,56] 326 [] [49] = some (.tup [(false,[i 0]),(false,[.bool true])],pickB (v213 x).l [49]):=by kernel_rfl
theorem rG213_0 (x:Nat→Int):callW S 2000 200 10 [.one (p 4),.one (i 0),.one (i 0)] (v213 x) [4,26,54,56] 325 [] [] = some (.one (p 49),pickB (v213 x).l []):=by kernel_rfl
theorem rD213_0 (x:Nat→Int):callW S 2000 200 11 [.one (p 49)] (v213 x) [] 325 [] [49] = some (.one (i 0),pickB (v213 x).l [49]):=by kernel_rfl
theorem rbB213_0 (x:Nat→Int):callW S 2000 200 12 [.one (p 49)] (v213 x) [47] 325 [] [49] = some (.one (i 0),pickB (v213 x).l [49]):=by kernel_rfl
theorem rL213_1 (x:Nat→Int):callW S 2000 200 9 [.one (p 4),.one (i 1)] (v213 x) [4,56,71,86,93] 326 [] [88] = some (.tup [(false,[i 0]),(false,[.bool true])],pickB (v213 x).l [88]):=by kernel_rfl
theorem rG213_1 (x:Nat→Int):callW S 2000 200 10 [.one (p 4),.one (i 1),.one (i 0)] (v213 x) [4,56,71,93] 325 [] [] = some (.one (p 88),pickB (v213 x).l []):=by kernel_rfl
theorem rD213_1 (x:Nat→Int):callW S 2000 200 11 [.one (p 88)] (v213 x) [] 325 [] [88] = some (.one (i 0),pickB (v213 x).l [88]):=by kernel_rfl
theorem rbB213_1 (x:Nat→Int):callW S 2000 200 12 [.one (p 88)] (v213 x) [86] 325 [] [88] = some (.one (i 0),pickB (v213 x).l [88]):=by kernel_rfl
theorem rL213_2 (x:Nat→Int):callW S 2000 200 9 [.one (p 4),.one (i 2)] (v213 x) [4,56,98,102,109] 326 [] [104] = some (.tup [(false,[i 0]),(false,[.bool true])],pickB (v213 x).l [104]):=by kernel_rfl
theorem rG213_2 (x:Nat→Int):callW S 2000 200 10 [.one (p 4),.one (i 2),.one (i 0)] (v213 x) [4,56,98,109] 325 [] [] = some (.one (p 104),pickB (v213 x).l []):=by kernel_rfl
theorem rD213_2 (x:Nat→Int):callW S 2000 200 11 [.one (p 104)] (v213 x) [] 325 [] [104] = some (.one (i 0),pickB (v213 x).l [104]):=by kernel_rfl
theorem rbB213_2 (x:Nat→Int):callW S 2000 200 12 [.one (p 104)] (v213 x) [102] 325 [] [104] = some (.one (i 0),pickB (v213 x).l [104]):=by kernel_rfl
theorem rR214:callW S 2000 200 7 [.agg [i 2,i 1,i 4]] ⟨0,[]⟩ [] 130 [(121,t214)] [] = some (.one (u 121 8 0 9 5),[]):=by kernel_rfl
theorem rO214:callW S 2000 200 5 [.agg [i 2,i 1,i 4]] ⟨0,[]⟩ [] 120 wO214 [] = some (.one (p 4),[]):=by kernel_rfl
theorem rU214_0:callW S 2000 200 6 [.one (p 4),.one (u 120 8 0 9 5)] j214_0 [3,4,5,26,47,54,56,71,86,93,98,102,109,111,113,114,116,118,120] 177 wU214_0 [] = some (.one (u 127 8 0 9 3),[]):=by kernel_rfl
theorem rU214_1:callW S 2000 200 6 [.one (p 4),.one (u 177 8 0 9 5)] j214_1 [3,4,5,26,47,54,56,71,86,93,98,102,109,111,113,114,116,118,177] 234 wU214_1 [] = some (.one (u 184 8 0 9 3),[]):=by kernel_rfl
theorem rU214_2:callW S 2000 200 6 [.one (p 4),.one (u 234 8 0 9 5)] j214_2 [3,4,5,26,48,54,56,71,87,93,98,103,109,111,113,114,116,118,234] 345 wU214_2 [] = some (.one (u 259 8 0 9 3),[]):=by kernel_rfl
theorem rU214 (x:Nat→Int):callW S 2000 200 6 [.one (p 4),.one (u 345 8 0 9 5)] (j214 x) [3,4,5,26,47,48,54,56,71,86,87,93,98,102,103,109,111,113,114,116,118,345] 405 [] [49,88,104] = some (.one (u 353 8 0 9 3),x214 (fun q=>stepI (x q))):=by kernel_rfl
theorem rS214 (x:Nat→Int):callW S 2000 200 8 [.one (p 4)] (v214 x) [3,4,5,26,47,54,56,71,86,93,98,102,109,111,113,114,116,118] 361 [] [49,88,104] = some (.one (.bool true),pickB (v214 x).l [49,88,104]):=by kernel_rfl
theorem rE214 (x:Nat→Int):callW S 2000 200 14 [.one (p 4)] (v214 x) [4] 345 [] [] = some (.one o,pickB (v214 x).l []):=by kernel_rfl
theorem rL214_0 (x:Nat→Int):callW S 2000 200 9 [.one (p 4),.one (i 0)] (v214 x) [4,26,47,54,56] 346 [] [49] = some (.tup [(false,[i 0]),(false,[.bool true])],pickB (v214 x).l [49]):=by kernel_rfl
theorem rG214_0 (x:Nat→Int):callW S 2000 200 10 [.one (p 4),.one (i 0),.one (i 0)] (v214 x) [4,26,54,56] 345 [] [] = some (.one (p 49),pickB (v214 x).l []):=by kernel_rfl
theorem rD214_0 (x:Nat→Int):callW S 2000 200 11 [.one (p 49)] (v214 x) [] 345 [] [49] = some (.one (i 0),pickB (v214 x).l [49]):=by kernel_rfl
theorem rbB214_0 (x:Nat→Int):callW S 2000 200 12 [.one (p 49)] (v214 x) [47] 345 [] [49] = some (.one (i 0),pickB (v214 x).l [49]):=by kernel_rfl
theorem rL214_1 (x:Nat→Int):callW S 2000 200 9 [.one (p 4),.one (i 1)] (v214 x) [4,56,71,86,93] 346 [] [88] = some (.tup [(false,[i 0]),(false,[.bool true])],pickB (v214 x).l [88]):=by kernel_rfl
theorem rG214_1 (x:Nat→Int):callW S 2000 200 10 [.one (p 4),.one (i 1),.one (i 0)] (v214 x) [4,56,71,93] 345 [] [] = some (.one (p 88),pickB (v214 x).l []):=by kernel_rfl
theorem rD214_1 (x:Nat→Int):callW S 2000 200 11 [.one (p 88)] (v214 x) [] 345 [] [88] = some (.one (i 0),pickB (v214 x).l [88]):=by kernel_rfl
theorem rbB214_1 (x:Nat→Int):callW S 2000 200 12 [.one (p 88)] (v214 x) [86] 345 [] [88] = some (.one (i 0),pickB (v214 x).l [88]):=by kernel_rfl
theorem rL214_2 (x:Nat→Int):callW S 2000 200 9 [.one (p 4),.one (i 2)] (v214 x) [4,56,98,102,109] 346 [] [104] = some (.tup [(false,[i 0]),(false,[.bool true])],pickB (v214 x).l [104]):=by kernel_rfl
theorem rG214_2 (x:Nat→Int):callW S 2000 200 10 [.one (p 4),.one (i 2),.one (i 0)] (v214 x) [4,56,98,109] 345 [] [] = some (.one (p 104),pickB (v214 x).l []):=by kernel_rfl
theorem rD214_2 (x:Nat→Int):callW S 2000 200 11 [.one (p 104)] (v214 x) [] 345 [] [104] = some (.one (i 0),pickB (v214 x).l [104]):=by kernel_rfl
theorem rbB214_2 (x:Nat→Int):callW S 2000 200 12 [.one (p 104)] (v214 x) [102] 345 [] [104] = some (.one (i 0),pickB (v214 x).l [104]):=by kernel_rfl
theorem rR231:callW S 2000 200 7 [.agg [i 2,i 3,i 1]] ⟨0,[]⟩ [] 237 [(225,t231)] [] = some (.one (u 225 11 0 12 5),[]):=by kernel_rfl
theorem rO231:callW S 2000 200 5 [.agg [i 2,i 3,i 1]] ⟨0,[]⟩ [] 224 wO231 [] = some (.one (p 4),[]):=by kernel_rfl
theorem rU231_0:callW S 2000 200 6 [.one (p 4),.one (u 224 11 0 12 5)] j231_0 [3,4,5,26,47,54,75,101,108,123,138,145,160,180,190,194,201,205,214,221,223,224] 299 wU231_0 [] = some (.one (u 231 11 0 12 3),[]):=by kernel_rfl
theorem rU231_1:callW S 2000 200 6 [.one (p 4),.one (u 299 11 0 12 5)] j231_1 [3,4,5,26,47,54,75,101,108,123,138,145,160,180,190,194,201,205,214,221,223,299] 374 wU231_1 [] = some (.one (u 306 11 0 12 3),[]):=by kernel_rfl
theorem rU231_2:callW S 2000 200 6 [.one (p 4),.one (u 374 11 0 12 5)] j231_2 [3,4,26,54,102,108,123,145,181,190,201,215,221,223,374] 1143 wU231_2 [] = some (.one (u 416 11 0 12 3),[]):=by kernel_rfl
theorem rU231 (x:Nat→Int):callW S 2000 200 6 [.one (p 4),.one (u 1143 11 0 12 5)] (j231 x) [3,4,5,26,47,49,54,75,77,101,102,108,123,138,140,145,160,162,180,181,190,194,196,201,205,207,214,215,221,223,409,1143] 1326 [] [103,182,216] = some (.one (u 1150 11 0 12 3),x231 (fun q=>stepI (x q))):=by kernel_rfl
theorem rS231 (x:Nat→Int):callW S 2000 200 8 [.one (p 4)] (v231 x) [3,4,5,26,47,49,54,75,77,101,108,123,138,140,145,160,162,180,190,194,196,201,205,207,214,221,223] 1156 [] [103,182,216] = some (.one (.bool true),pickB (v231 x).l [103,182,216]):=by kernel_rfl
theorem rE231 (x:Nat→Int):callW S 2000 200 14 [.one (p 4)] (v231 x) [4] 1143 [] [] = some (.one o,pickB (v231 x).l []):=by kernel_rfl
theorem rL231_0 (x:Nat→Int):callW S 2000 200 9 [.one (p 4),.one (i 0)] (v231 x) [4,26,49,54,77,101,108] 1144 [] [103] = some (.tup [(false,[i 2]),(false,[.bool true])],pickB (v231 x).l [103]):=by kernel_rfl
theorem rG231_0 (x:Nat→Int):callW S 2000 200 10 [.one (p 4),.one (i 0),.one (i 2)] (v231 x) [4,26,54,108] 1143 [] [] = some (.one (p 103),pickB (v231 x).l []):=by kernel_rfl
theorem rD231_0 (x:Nat→Int):callW S 2000 200 11 [.one (p 103)] (v231 x) [] 1143 [] [103] = some (.one (i 0),pickB (v231 x).l [103]):=by kernel_rfl
theorem rbB231_0 (x:Nat→Int):callW S 2000 200 12 [.one (p 103)] (v231 x) [101] 1143 [] [103] = some (.one (i 2),pickB (v231 x).l [103]):=by kernel_rfl
theorem rL231_1 (x:Nat→Int):callW S 2000 200 9 [.one (p 4),.one (i 1)] (v231 x) [4,108,123,140,145,162,180] 1144 [] [182] = some (.tup [(false,[i 2]),(false,[.bool true])],pickB (v231 x).l [182]):=by kernel_rfl
theorem rG231_1 (x:Nat→Int):callW S 2000 200 10 [.one (p 4),.one (i 1),.one (i 2)] (v231 x) [4,108,123,145] 1143 [] [] = some (.one (p 182),pickB (v231 x).l []):=by kernel_rfl
theorem rD231_1 (x:Nat→Int):callW S 2000 200 11 [.one (p 182)] (v231 x) [] 1143 [] [182] = some (.one (i 0),pickB (v231 x).l [182]):=by kernel_rfl
theorem rbB231_1 (x:Nat→Int):callW S 2000 200 12 [.one (p 182)] (v231 x) [180] 1143 [] [182] = some (.one (i 2),pickB (v231 x).l [182]):=by kernel_rfl
theorem rL231_2 (x:Nat→Int):callW S 2000 200 9 [.one (p 4),.one (i 2)] (v231 x) [4,108,190,196,201,207,214] 1144 [] [216] = some (.tup [(false,[i 2]),(false,[.bool true])],pickB (v231 x).l [216]):=by kernel_rfl
theorem rG231_2 (x:Nat→Int):callW S 2000 200 10 [.one (p 4),.one (i 2),.one (i 2)] (v231 x) [4,108,190,201] 1143 [] [] = some (.one (p 216),pickB (v231 x).l []):=by kernel_rfl
theorem rD231_2 (x:Nat→Int):callW S 2000 200 11 [.one (p 216)] (v231 x) [] 1143 [] [216] = some (.one (i 0),pickB (v231 x).l [216]):=by kernel_rfl
theorem rbB231_2 (x:Nat→Int):callW S 2000 200 12 [.one (p 216)] (v231 x) [214] 1143 [] [216] = some (.one (i 2),pickB (v231 x).l [216]):=by kernel_rfl
theorem rR232:callW S 2000 200 7 [.agg [i 2,i 3,i 2]] ⟨0,[]⟩ [] 240 [(227,t232)] [] = some (.one (u 227 12 0 13 5),[]):=by kernel_rfl
theorem rO232:callW S 2000 200 5 [.agg [i 2,i 3,i 2]] ⟨0,[]⟩ [] 226 wO232 [] = some (.one (p 4),[]):=by kernel_rfl
theorem rU232_0:callW S 2000 200 6 [.one (p 4),.one (u 226 12 0 13 5)] j232_0 [3,4,5,26,47,54,75,101,108,123,138,145,160,180,190,194,201,205,214,221,223,224,226] 307 wU232_0 [] = some (.one (u 233 12 0 13 3),[]):=by kernel_rfl
theorem rU232_1:callW S 2000 200 6 [.one (p 4),.one (u 307 12 0 13 5)] j232_1 [3,4,5,26,47,54,75,101,108,123,138,145,160,180,190,194,201,205,214,221,223,224,307] 388 wU232_1 [] = some (.one (u 314 12 0 13 3),[]):=by kernel_rfl
theorem rU232_2:callW S 2000 200 6 [.one (p 4),.one (u 388 12 0 13 5)] j232_2 [3,4,26,54,102,108,123,145,181,190,201,215,221,223,224,388] 1163 wU232_2 [] = some (.one (u 430 12 0 13 3),[]):=by kernel_rfl
theorem rU232 (x:Nat→Int):callW S 2000 200 6 [.one (p 4),.one (u 1163 12 0 13 5)] (j232 x) [3,4,5,26,47,49,54,75,77,101,102,108,123,138,140,145,160,162,180,181,190,194,196,201,205,207,214,215,221,223,224,423,1163] 1352 [] [103,182,216] = some (.one (u 1170 12 0 13 3),x232 (fun q=>stepI (x q))):=by kernel_rfl
theorem rS232 (x:Nat→Int):callW S 2000 200 8 [.one (p 4)] (v232 x) [3,4,5,26,47,49,54,75,77,101,108,123,138,140,145,160,162,180,190,194,196,201,205,207,214,221,223,224] 1177 [] [103,182,216] = some (.one (.bool true),pickB (v232 x).l [103,182,216]):=by kernel_rfl
theorem rE232 (x:Nat→Int):callW S 2000 200 14 [.one (p 4)] (v232 x) [4] 1163 [] [] = some (.one o,pickB (v232 x).l []):=by kernel_rfl
theorem rL232_0 (x:Nat→Int):callW S 2000 200 9 [.one (p 4),.one (i 0)] (v232 x) [4,26,49,54,77,101,108] 1164 [] [103] = some (.tup [(false,[i 2]),(false,[.bool true])],pickB (v232 x).l [103]):=by kernel_rfl
theorem rG232_0 (x:Nat→Int):callW S 2000 200 10 [.one (p 4),.one (i 0),.one (i 2)] (v232 x) [4,26,54,108] 1163 [] [] = some (.one (p 103),pickB (v232 x).l []):=by kernel_rfl
theorem rD232_0 (x:Nat→Int):callW S 2000 200 11 [.one (p 103)] (v232 x) [] 1163 [] [103] = some (.one (i 0),pickB (v232 x).l [103]):=by kernel_rfl
theorem rbB232_0 (x:Nat→Int):callW S 2000 200 12 [.one (p 103)] (v232 x) [101] 1163 [] [103] = some (.one (i 2),pickB (v232 x).l [103]):=by kernel_rfl
theorem rL232_1 (x:Nat→Int):callW S 2000 200 9 [.one (p 4),.one (i 1)] (v232 x) [4,108,123,140,145,162,180] 1164 [] [182] = some (.tup [(false,[i 2]),(false,[.bool true])],pickB (v232 x).l [182]):=by kernel_rfl
theorem rG232_1 (x:Nat→Int):callW S 2000 200 10 [.one (p 4),.one (i 1),.one (i 2)] (v232 x) [4,108,123,145] 1163 [] [] = some (.one (p 182),pickB (v232 x).l []):=by kernel_rfl
theorem rD232_1 (x:Nat→Int):callW S 2000 200 11 [.one (p 182)] (v232 x) [] 1163 [] [182] = some (.one (i 0),pickB (v232 x).l [182]):=by kernel_rfl
theorem rbB232_1 (x:Nat→Int):callW S 2000 200 12 [.one (p 182)] (v232 x) [180] 1163 [] [182] = some (.one (i 2),pickB (v232 x).l [182]):=by kernel_rfl
theorem rL232_2 (x:Nat→Int):callW S 2000 200 9 [.one (p 4),.one (i 2)] (v232 x) [4,108,190,196,201,207,214] 1164 [] [216] = some (.tup [(false,[i 2]),(false,[.bool true])],pickB (v232 x).l [216]):=by kernel_rfl
theorem rG232_2 (x:Nat→Int):callW S 2000 200 10 [.one (p 4),.one (i 2),.one (i 2)] (v232 x) [4,108,190,201] 1163 [] [] = some (.one (p 216),pickB (v232 x).l []):=by kernel_rfl
theorem rD232_2 (x:Nat→Int):callW S 2000 200 11 [.one (p 216)] (v232 x) [] 1163 [] [216] = some (.one (i 0),pickB (v232 x).l [216]):=by kernel_rfl
theorem rbB232_2 (x:Nat→Int):callW S 2000 200 12 [.one (p 216)] (v232 x) [214] 1163 [] [216] = some (.one (i 2),pickB (v232 x).l [216]):=by kernel_rfl
theorem rR233:callW S 2000 200 7 [.agg [i 2,i 3,i 3]] ⟨0,[]⟩ [] 243 [(229,t233)] [] = some (.one (u 229 13 0 14 5),[]):=by kernel_rfl
theorem rO233:callW S 2000 200 5 [.agg [i 2,i 3,i 3]] ⟨0,[]⟩ [] 228 wO233 [] = some (.one (p 4),[]):=by kernel_rfl
theorem rU233_0:callW S 2000 200 6 [.one (p 4),.one (u 228 13 0 14 5)] j233_0 [3,4,5,26,47,54,75,101,108,123,138,145,160,180,190,194,201,205,214,221,223,224,226,228] 315 wU233_0 [] = some (.one (u 235 13 0 14 3),[]):=by kernel_rfl
theorem rU233_1:callW S 2000 200 6 [.one (p 4),.one (u 315 13 0 14 5)] j233_1 [3,4,5,26,47,54,75,101,108,123,138,145,160,180,190,194,201,205,214,221,223,224,226,315] 402 wU233_1 [] = some (.one (u 322 13 0 14 3),[]):=by kernel_rfl
theorem rU233_2:callW S 2000 200 6 [.one (p 4),.one (u 402 13 0 14 5)] j233_2 [3,4,26,54,102,108,123,145,181,190,201,215,221,223,224,226,402] 1183 wU233_2 [] = some (.one (u 444 13 0 14 3),[]):=by kernel_rfl
theorem rU233 (x:Nat→Int):callW S 2000 200 6 [.one (p 4),.one (u 1183 13 0 14 5)] (j233 x) [3,4,5,26,47,49,54,75,77,101,102,108,123,138,140,145,160,162,180,181,190,194,196,201,205,207,214,215,221,223,224,226,437,1183] 1378 [] [103,182,216] = some (.one (u 1190 13 0 14 3),x233 (fun q=>stepI (x q))):=by kernel_rfl
theorem rS233 (x:Nat→Int):callW S 2000 200 8 [.one (p 4)] (v233 x) [3,4,5,26,47,49,54,75,77,101,108,123,138,140,145,160,162,180,190,194,196,201,205,207,214,221,223,224,226] 1198 [] [103,182,216] = some (.one (.bool true),pickB (v233 x).l [103,182,216]):=by kernel_rfl
theorem rE233 (x:Nat→Int):callW S 2000 200 14 [.one (p 4)] (v233 x) [4] 1183 [] [] = some (.one o,pickB (v233 x).l []):=by kernel_rfl
theorem rL233_0 (x:Nat→Int):callW S 2000 200 9 [.one (p 4),.one (i 0)] (v233 x) [4,26,49,54,77,101,108] 1184 [] [103] = some (.tup [(false,[i 2]),(false,[.bool true])],pickB (v233 x).l [103]):=by kernel_rfl
theorem rG233_0 (x:Nat→Int):callW S 2000 200 10 [.one (p 4),.one (i 0),.one (i 2)] (v233 x) [4,26,54,108] 1183 [] [] = some (.one (p 103),pickB (v233 x).l []):=by kernel_rfl
theorem rD233_0 (x:Nat→Int):callW S 2000 200 11 [.one (p 103)] (v233 x) [] 1183 [] [103] = some (.one (i 0),pickB (v233 x).l [103]):=by kernel_rfl
theorem rbB233_0 (x:Nat→Int):callW S 2000 200 12 [.one (p 103)] (v233 x) [101] 1183 [] [103] = some (.one (i 2),pickB (v233 x).l [103]):=by kernel_rfl
theorem rL233_1 (x:Nat→Int):callW S 2000 200 9 [.one (p 4),.one (i 1)] (v233 x) [4,108,123,140,145,162,180] 1184 [] [182] = some (.tup [(false,[i 2]),(false,[.bool true])],pickB (v233 x).l [182]):=by kernel_rfl
theorem rG233_1 (x:Nat→Int):callW S 2000 200 10 [.one (p 4),.one (i 1),.one (i 2)] (v233 x) [4,108,123,145] 1183 [] [] = some (.one (p 182),pickB (v233 x).l []):=by kernel_rfl
theorem rD233_1 (x:Nat→Int):callW S 2000 200 11 [.one (p 182)] (v233 x) [] 1183 [] [182] = some (.one (i 0),pickB (v233 x).l [182]):=by kernel_rfl
theorem rbB233_1 (x:Nat→Int):callW S 2000 200 12 [.one (p 182)] (v233 x) [180] 1183 [] [182] = some (.one (i 2),pickB (v233 x).l [182]):=by kernel_rfl
theorem rL233_2 (x:Nat→Int):callW S 2000 200 9 [.one (p 4),.one (i 2)] (v233 x) [4,108,190,196,201,207,214] 1184 [] [216] = some (.tup [(false,[i 2]),(false,[.bool true])],pickB (v233 x).l [216]):=by kernel_rfl
theorem rG233_2 (x:Nat→Int):callW S 2000 200 10 [.one (p 4),.one (i 2),.one (i 2)] (v233 x) [4,108,190,201] 1183 [] [] = some (.one (p 216),pickB (v233 x).l []):=by kernel_rfl
theorem rD233_2 (x:Nat→Int):callW S 2000 200 11 [.one (p 216)] (v233 x) [] 1183 [] [216] = some (.one (i 0),pickB (v233 x).l [216]):=by kernel_rfl
theorem rbB233_2 (x:Nat→Int):callW S 2000 200 12 [.one (p 216)] (v233 x) [214] 1183 [] [216] = some (.one (i 2),pickB (v233 x).l [216]):=by kernel_rfl
end Go.Proofs.YtkpmdlcmbemgdaaGreat
