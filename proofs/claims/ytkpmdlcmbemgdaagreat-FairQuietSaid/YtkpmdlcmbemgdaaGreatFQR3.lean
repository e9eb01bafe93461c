/- A part of a proof over the abstract machine. No conditions. -/
import Derived.Test.YtkpmdlcmbemgdaaGreatFQD
namespace Go.Proofs.YtkpmdlcmbemgdaaGreat
open Go Go.Ab Go.Fa
set_option maxRecDepth 1000000
set_option maxHeartbeats 0
theorem rR234:callW S 2000 200 7 [.agg [i 2,i 3,i 4]] ⟨0,[]⟩ [] 246 [(231,t234)] [] = some (.one (u 231 14 0 15 5),[]):=by kernel_rfl
theorem rO234:callW S 2000 200 5 [.agg [i 2,i 3,i 4]] ⟨0,[]⟩ [] 230 wO234 [] = some (.one (p 4),[]):=by kernel_rfl
theorem rU234_0:callW S 2000 200 6 [.one (p 4),.one (u 230 14 0 15 5)] j234_0 [3,4,5,26,47,54,75,101,108,123,138,145,160,180,190,194,201,205,214,221,223,224,226,228,230] 323 wU234_0 [] = some (.one (u 237 14 0 15 3),[]):=by kernel_rfl
theorem rU234_1:callW S 2000 200 6 [.one (p 4),.one (u 323 14 0 15 5)] j234_1 [3,4,5,26,47,54,75,101,108,123,138,145,160,180,190,194,201,205,214,221,223,224,226,228,323] 416 wU234_1 [] = some (.one (u 330 14 0 15 3),[]):=by kernel_rfl
theorem rU234_2:callW S 2000 200 6 [.one (p 4),.one (u 416 14 0 15 5)] j234_2 [3,4,26,54,102,108,123,145,181,190,201,215,221,223,224,226,228,416] 1203 wU234_2 [] = some (.one (u 458 14 0 15 3),[]):=by kernel_rfl
theorem rU234 (x:Nat→Int):callW S 2000 200 6 [.one (p 4),.one (u 1203 14 0 15 5)] (j234 x) [3,4,5,26,47,49,54,75,77,101,102,108,123,138,140,145,160,162,180,181,190,194,196,201,205,207,214,215,221,223,224,226,228,451,1203] 1404 [] [103,182,216] = some (.one (u 1210 14 0 15 3),x234 (fun q=>stepI (x q))):=by kernel_rfl
theorem rS234 (x:Nat→Int):callW S 2000 200 8 [.one (p 4)] (v234 x) [3,4,5,26,47,49,54,75,77,101,108,123,138,140,145,160,162,180,190,194,196,201,205,207,214,221,223,224,226,228] 1219 [] [103,182,216] = some (.one (.bool true),pickB (v234 x).l [103,182,216]):=by kernel_rfl
theorem rE234 (x:Nat→Int):callW S 2000 200 14 [.one (p 4)] (v234 x) [4] 1203 [] [] = some (.one o,pickB (v234 x).l []):=by kernel_rfl
theorem rL234_0 (x:Nat→Int):callW S 2000 200 9 [.one (p 4),.one (i 0)] (v234 x) [4,26,49,54,77,101,108] 1204 [] [103] = some (.tup [(false,[i 2]),(false,[.bool true])],pickB (v234 x).l [103]):=by kernel_rfl
theorem rG234_0 (x:Nat→Int):callW S 2000 200 10 [.one (p 4),.one (i 0),.one (i 2)] (v234 x) [4,26,54,108] 1203 [] [] = some (.one (p 103),pickB (v234 x).l []):=by kernel_rfl
theorem rD234_0 (x:Nat→Int):callW S 2000 200 11 [.one (p 103)] (v234 x) [] 1203 [] [103] = some (.one (i 0),pickB (v234 x).l [103]):=by kernel_rfl
theorem rbB234_0 (x:Nat→Int):callW S 2000 200 12 [.one (p 103)] (v234 x) [101] 1203 [] [103] = some (.one (i 2),pickB (v234 x).l [103]):=by kernel_rfl
theorem rL234_1 (x:Nat→Int):callW S 2000 200 9 [.one (p 4),.one (i 1)] (v234 x) [4,108,123,140,145,162,180] 1204 [] [182] = some (.tup [(false,[i 2]),(false,[.bool true])],pickB (v234 x).l [182]):=by kernel_rfl
theorem rG234_1 (x:Nat→Int):callW S 2000 200 10 [.one (p 4),.one (i 1),.one (i 2)] (v234 x) [4,108,123,145] 1203 [] [] = some (.one (p 182),pickB (v234 x).l []):=by kernel_rfl
theorem rD234_1 (x:Nat→Int):callW S 2000 200 11 [.one (p 182)] (v234 x) [] 1203 [] [182] = some (.one (i 0),pickB (v234 x).l [182]):=by kernel_rfl
theorem rbB234_1 (x:Nat→Int):callW S 2000 200 12 [.one (p 182)] (v234 x) [180] 1203 [] [182] = some (.one (i 2),pickB (v234 x).l [182]):=by kernel_rfl
theorem rL234_2 (x:Nat→Int):callW S 2000 200 9 [.one (p 4),.one (i 2)] (v234 x) [4,108,190,196,201,207,214] 1204 [] [216] = some (.tup [(false,[i 2]),(false,[.bool true])],pickB (v234 x).l [216]):=by kernel_rfl
theorem rG234_2 (x:Nat→Int):callW S 2000 200 10 [.one (p 4),.one (i 2),.one (i 2)] (v234 x) [4,108,190,201] 1203 [] [] = some (.one (p 216),pickB (v234 x).l []):=by kernel_rfl
theorem rD234_2 (x:Nat→Int):callW S 2000 200 11 [.one (p 216)] (v234 x) [] 1203 [] [216] = some (.one (i 0),pickB (v234 x).l [216]):=by kernel_rfl
theorem rbB234_2 (x:Nat→Int):callW S 2000 200 12 [.one (p 216)] (v234 x) [214] 1203 [] [216] = some (.one (i 2),pickB (v234 x).l [216]):=by kernel_rfl
theorem rR311:callW S 2000 200 7 [.agg [i 3,i 1,i 1]] ⟨0,[]⟩ [] 138 [(131,t311)] [] = some (.one (u 131 6 0 7 5),[]):=by kernel_rfl
theorem rO311:callW S 2000 200 5 [.agg [i 3,i 1,i 1]] ⟨0,[]⟩ [] 130 wO311 [] = some (.one (p 4),[]):=by kernel_rfl
theorem rU311_0:callW S 2000 200 6 [.one (p 4),.one (u 130 6 0 7 5)] j311_0 [3,4,5,26,47,54,56,71,86,93,98,102,109,114,118,125,127,129,130] 175 wU311_0 [] = some (.one (u 137 6 0 7 3),[]):=by kernel_rfl
theorem rU311_1:callW S 2000 200 6 [.one (p 4),.one (u 175 6 0 7 5)] j311_1 [3,4,5,26,47,54,56,71,86,93,98,102,109,114,118,125,127,129,175] 220 wU311_1 [] = some (.one (u 182 6 0 7 3),[]):=by kernel_rfl
theorem rU311_2:callW S 2000 200 6 [.one (p 4),.one (u 220 6 0 7 5)] j311_2 [3,4,5,26,48,54,56,71,87,93,98,103,109,114,119,125,127,129,220] 337 wU311_2 [] = some (.one (u 245 6 0 7 3),[]):=by kernel_rfl
theorem rU311 (x:Nat→Int):callW S 2000 200 6 [.one (p 4),.one (u 337 6 0 7 5)] (j311 x) [3,4,5,26,47,48,54,56,71,86,87,93,98,102,103,109,114,118,119,125,127,129,337] 386 [] [49,88,104,120] = some (.one (u 345 6 0 7 3),x311 (fun q=>stepI (x q))):=by kernel_rfl
theorem rS311 (x:Nat→Int):callW S 2000 200 8 [.one (p 4)] (v311 x) [3,4,5,26,47,54,56,71,86,93,98,102,109,114,118,125,127,129] 353 [] [49,88,104,120] = some (.one (.bool true),pickB (v311 x).l [49,88,104,120]):=by kernel_rfl
theorem rE311 (x:Nat→Int):callW S 2000 200 14 [.one (p 4)] (v311 x) [4] 337 [] [] = some (.one o,pickB (v311 x).l []):=by kernel_rfl
theorem rL311_0 (x:Nat→Int):callW S 2000 200 9 [.one (p 4),.one (i 0)] (v311 x) [4,26,47,54,56] 338 [] [49] = some (.tup [(false,[i 0]),(false,[.bool true])],pickB (v311 x).l [49]):=by kernel_rfl
theorem rG311_0 (x:Nat→Int):callW S 2000 200 10 [.one (p 4),.one (i 0),.one (i 0)] (v311 x) [4,26,54,56] 337 [] [] = some (.one (p 49),pickB (v311 x).l []):=by kernel_rfl
theorem rD311_0 (x:Nat→Int):callW S 2000 200 11 [.one (p 49)] (v311 x) [] 337 [] [49] = some (.one (i 0),pickB (v311 x).l [49]):=by kernel_rfl
theorem rbB311_0 (x:Nat→Int):callW S 2000 200 12 [.one (p 49)] (v311 x) [47] 337 [] [49] = some (.one (i 0),pickB (v311 x).l [49]):=by kernel_rfl
theorem rL311_1 (x:Nat→Int):callW S 2000 200 9 [.one (p 4),.one (i 1)] (v311 x) [4,56,71,86,93] 338 [] [88] = some (.tup [(false,[i 0]),(false,[.bool true])],pickB (v311 x).l [88]):=by kernel_rfl
theorem rG311_1 (x:Nat→Int):callW S 2000 200 10 [.one (p 4),.one (i 1),.one (i 0)] (v311 x) [4,56,71,93] 337 [] [] = some (.one (p 88),pickB (v311 x).l []):=by kernel_rfl
theorem rD311_1 (x:Nat→Int):callW S 2000 200 11 [.one (p 88)] (v311 x) [] 337 [] [88] = some (.one (i 0),pickB (v311 x).l [88]):=by kernel_rfl
theorem rbB311_1 (x:Nat→Int):callW S 2000 200 12 [.one (p 88)] (v311 x) [86] 337 [] [88] = some (.one (i 0),pickB (v311 x).l [88]):=by kernel_rfl
theorem rL311_2 (x:Nat→Int):callW S 2000 200 9 [.one (p 4),.one (i 2)] (v311 x) [4,56,98,102,109] 338 [] [104] = some (.tup [(false,[i 0]),(false,[.bool true])],pickB (v311 x).l [104]):=by kernel_rfl
theorem rG311_2 (x:Nat→Int):callW S 2000 200 10 [.one (p 4),.one (i 2),.one (i 0)] (v311 x) [4,56,98,109] 337 [] [] = some (.one (p 104),pickB (v311 x).l []):=by kernel_rfl
theorem rD311_2 (x:Nat→Int):callW S 2000 200 11 [.one (p 104)] (v311 x) [] 337 [] [104] = some (.one (i 0),pickB (v311 x).l [104]):=by kernel_rfl
theorem rbB311_2 (x:Nat→Int):callW S 2000 200 12 [.one (p 104)] (v311 x) [102] 337 [] [104] = some (.one (i 0),pickB (v311 x).l [104]):=by kernel_rfl
theorem rL311_3 (x:Nat→Int):callW S 2000 200 9 [.one (p 4),.one (i 3)] (v311 x) [4,56,114,118,125] 338 [] [120] = some (.tup [(false,[i 0]),(false,[.bool true])],pickB (v311 x).l [120]):=by kernel_rfl
theorem rG311_3 (x:Nat→Int):callW S 2000 200 10 [.one (p 4),.one (i 3),.one (i 0)] (v311 x) [4,56,114,125] 337 [] [] = some (.one (p 120),pickB (v311 x).l []):=by kernel_rfl
theorem rD311_3 (x:Nat→Int):callW S 2000 200 11 [.one (p 120)] (v311 x) [] 337 [] [120] = some (.one (i 0),pickB (v311 x).l [120]):=by kernel_rfl
theorem rbB311_3 (x:Nat→Int):callW S 2000 200 12 [.one (p 120)] (v311 x) [118] 337 [] [120] = some (.one (i 0),pickB (v311 x).l [120]):=by kernel_rfl
theorem rR312:callW S 2000 200 7 [.agg [i 3,i 1,i 2]] ⟨0,[]⟩ [] 141 [(133,t312)] [] = some (.one (u 133 7 0 8 5),[]):=by kernel_rfl
theorem rO312:callW S 2000 200 5 [.agg [i 3,i 1,i 2]] ⟨0,[]⟩ [] 132 wO312 [] = some (.one (p 4),[]):=by kernel_rfl
theorem rU312_0:callW S 2000 200 6 [.one (p 4),.one (u 132 7 0 8 5)] j312_0 [3,4,5,26,47,54,56,71,86,93,98,102,109,114,118,125,127,129,130,132] 183 wU312_0 [] = some (.one (u 139 7 0 8 3),[]):=by kernel_rfl
theorem rU312_1:callW S 2000 200 6 [.one (p 4),.one (u 183 7 0 8 5)] j312_1 [3,4,5,26,47,54,56,71,86,93,98,102,109,114,118,125,127,129,130,183] 234 wU312_1 [] = some (.one (u 190 7 0 8 3),[]):=by kernel_rfl
theorem rU312_2:callW S 2000 200 6 [.one (p 4),.one (u 234 7 0 8 5)] j312_2 [3,4,5,26,48,54,56,71,87,93,98,103,109,114,119,125,127,129,130,234] 357 wU312_2 [] = some (.one (u 259 7 0 8 3),[]):=by kernel_rfl
theorem rU312 (x:Nat→Int):callW S 2000 200 6 [.one (p 4),.one (u 357 7 0 8 5)] (j312 x) [3,4,5,26,47,48,54,56,71,86,87,93,98,102,103,109,114,118,119,125,127,129,130,357] 412 [] [49,88,104,120] = some (.one (u 365 7 0 8 3),x312 (fun q=>stepI (x q))):=by kernel_rfl
theorem rS312 (x:Nat→Int):callW S 2000 200 8 [.one (p 4)] (v312 x) [3,4,5,26,47,54,56,71,86,93,98,102,109,114,118,125,127,129,130] 374 [] [49,88,104,120] = some (.one (.bool true),pickB (v312 x).l [49,88,104,120]):=by kernel_rfl
theorem rE312 (x:Nat→Int):callW S 2000 200 14 [.one (p 4)] (v312 x) [4] 357 [] [] = some (.one o,pickB (v312 x).l []):=by kernel_rfl
theorem rL312_0 (x:Nat→Int):callW S 2000 200 9 [.one (p 4),.one (i 0)] (v312 x) [4,26,47,54,56] 358 [] [49] = some (.tup [(false,[i 0]),(false,[.bool true])],pickB (v312 x).l [49]):=by kernel_rfl
theorem rG312_0 (x:Nat→Int):callW S 2000 200 10 [.one (p 4),.one (i 0),.one (i 0)] (v312 x) [4,26,54,56] 357 [] [] = some (.one (p 49),pickB (v312 x).l []):=by kernel_rfl
theorem rD312_0 (x:Nat→Int):callW S 2000 200 11 [.one (p 49)] (v312 x) [] 357 [] [49] = some (.one (i 0),pickB (v312 x).l [49]):=by kernel_rfl
theorem rbB312_0 (x:Nat→Int):callW S 2000 200 12 [.one (p 49)] (v312 x) [47] 357 [] [49] = some (.one (i 0),pickB (v312 x).l [49]):=by kernel_rfl
theorem rL312_1 (x:Nat→Int):callW S 2000 200 9 [.one (p 4),.one (i 1)] (v312 x) [4,56,71,86,93] 358 [] [88] = some (.tup [(false,[i 0]),(false,[.bool true])],pickB (v312 x).l [88]):=by kernel_rfl
theorem rG312_1 (x:Nat→Int):callW S 2000 200 10 [.one (p 4),.one (i 1),.one (i 0)] (v312 x) [4,56,71,93] 357 [] [] = some (.one (p 88),pickB (v312 x).l []):=by kernel_rfl
theorem rD312_1 (x:Nat→Int):callW S 2000 200 11 [.one (p 88)] (v312 x) [] 357 [] [88] = some (.one (i 0),pickB (v312 x).l [88]):=by kernel_rfl
theorem rbB312_1 (x:Nat→Int):callW S 2000 200 12 [.one (p 88)] (v312 x) [86] 357 [] [88] = some (.one (i 0),pickB (v312 x).l [88]):=by kernel_rfl
theorem rL312_2 (x:Nat→Int):callW S 2000 200 9 [.one (p 4),.one (i 2)] (v312 x) [4,56,98,102,109] 358 [] [104] = some (.tup [(false,[i 0]),(false,[.bool true])],pickB (v312 x).l [104]):=by kernel_rfl
theorem rG312_2 (x:Nat→Int):callW S 2000 200 10 [.one (p 4),.one (i 2),.one (i 0)] (v312 x) [4,56,98,109] 357 [] [] = some (.one (p 104),pickB (v312 x).l []):=by kernel_rfl
theorem rD312_2 (x:Nat→Int):callW S 2000 200 11 [.one (p 104)] (v312 x) [] 357 [] [104] = some (.one (i 0),pickB (v312 x).l [104]):=by kernel_rfl
theorem rbB312_2 (x:Nat→Int):callW S 2000 200 12 [.one (p 104)] (v312 x) [102] 357 [] [104] = some (.one (i 0),pickB (v312 x).l [104]):=by kernel_rfl
theorem rL312_3 (x:Nat→Int):callW S 2000 200 9 [.one (p 4),.one (i 3)] (v312 x) [4,56,114,118,125] 358 [] [120] = some (.tup [(false,[i 0]),(false,[.bool true])],pickB (v312 x).l [120]):=by kernel_rfl
theorem rG312_3 (x:Nat→Int):callW S 2000 200 10 [.one (p 4),.one (i 3),.one (i 0)] (v312 x) [4,56,114,125] 357 [] [] = some (.one (p 120),pickB (v312 x).l []):=by kernel_rfl
theorem rD312_3 (x:Nat→Int):callW S 2000 200 11 [.one (p 120)] (v312 x) [] 357 [] [120] = some (.one (i 0),pickB (v312 x).l [120]):=by kernel_rfl
theorem rbB312_3 (x:Nat→Int):callW S 2000 200 12 [.one (p 120)] (v312 x) [118] 357 [] [120] = some (.one (i 0),pickB (v312 x).l [120]):=by kernel_rfl
theorem rR313:callW S 2000 200 7 [.agg [i 3,i 1,i 3]] ⟨0,[]⟩ [] 144 [(135,t313)] [] = some (.one (u 135 8 0 9 5),[]):=by kernel_rfl
theorem rO313:callW S 2000 200 5 [.agg [i 3,i 1,i 3]] ⟨0,[]⟩ [] 134 wO313 [] = some (.one (p 4),[]):=by kernel_rfl
theorem rU313_0:callW S 2000 200 6 [.one (p 4),.one (u 134 8 0 9 5)] j313_0 [3,4,5,26,47,54,56,71,86,93,98,102,109,114,118,125,127,129,130,132,134] 191 wU313_0 [] = some (.one (u 141 8 0 9 3),[]):=by kernel_rfl
theorem rU313_1:callW S 2000 200 6 [.one (p 4),.one (u 191 8 0 9 5)] j313_1 [3,4,5,26,47,54,56,71,86,93,98,102,109,114,118,125,127,129,130,132,191] 248 wU313_1 [] = some (.one (u 198 8 0 9 3),[]):=by kernel_rfl
theorem rU313_2:callW S 2000 200 6 [.one (p 4),.one (u 248 8 0 9 5)] j313_2 [3,4,5,26,48,54,56,71,87,93,98,103,109,114,119,125,127,129,130,132,248] 377 wU313_2 [] = some (.one (u 273 8 0 9 3),[]):=by kernel_rfl
theorem rU313 (x:Nat→Int):callW S 2000 200 6 [.one (p 4),.one (u 377 8 0 9 5)] (j313 x) [3,4,5,26,47,48,54,56,71,86,87,93,98,102,103,109,114,118,119,125,127,129,130,132,377] 438 [] [49,88,104,120] = some (.one (u 385 8 0 9 3),x313 (fun q=>stepI (x q))):=by kernel_rfl
theorem rS313 (x:Nat→Int):callW S 2000 200 8 [.one (p 4)] (v313 x) [3,4,5,26,47,54,56,71,86,93,98,102,109,114,118,125,127,129,130,132] 395 [] [49,88,104,120] = some (.one (.bool true),pickB (v313 x).l [49,88,104,120]):=by kernel_rfl
theorem rE313 (x:Nat→Int):callW S 2000 200 14 [.one (p 4)] (v313 x) [4] 377 [] [] = some (.one o,pickB (v313 x).l []):=by kernel_rfl
theorem rL313_0 (x:Nat→Int):callW S 2000 200 9 [.one (p 4),.one (i 0)] (v313 x) [4,26,47,54,56] 378 [] [49] = some (.tup [(false,[i 0]),(false,[.bool true])],pickB (v313 x).l [49]):=by kernel_rfl
theorem rG313_0 (x:Nat→Int):callW S 2000 200 10 [.one (p 4),.one (i 0),.one (i 0)] (v313 x) [4,26,54,56] 377 [] [] = some (.one (p 49),pickB (v313 x).l []):=by kernel_rfl
theorem rD313_0 (x:Nat→Int):callW S 2000 200 11 [.one (p 49)] (v313 x) [] 377 [] [49] = some (.one (i 0),pickB (v313 x).l [49]):=by kernel_rfl
theorem rbB313_0 (x:Nat→Int):callW S 2000 200 12 [.one (p 49)] (v313 x) [47] 377 [] [49] = some (.one (i 0),pickB (v313 x).l [49]):=by kernel_rfl
theorem rL313_1 (x:Nat→Int):callW S 2000 200 9 [.one (p 4),.one (i 1)] (v313 x) [4,56,71,86,93] 378 [] [88] = some (.tup [(false,[i 0]),(false,[.bool true])],pickB (v313 x).l [88]):=by kernel_rfl
theorem rG313_1 (x:Nat→Int):callW S 2000 200 10 [.one (p 4),.one (i 1),.one (i 0)] (v313 x) [4,56,71,93] 377 [] [] = some (.one (p 88),pickB (v313 x).l []):=by kernel_rfl
theorem rD313_1 (x:Nat→Int):callW S 2000 200 11 [.one (p 88)] (v313 x) [] 377 [] [88] = some (.one (i 0),pickB (v313 x).l [88]):=by kernel_rfl
theorem rbB313_1 (x:Nat→Int):callW S 2000 200 12 [.one (p 88)] (v313 x) [86] 377 [] [88] = some (.one (i 0),pickB (v313 x).l [88]):=by kernel_rfl
theorem rL313_2 (x:Nat→Int):callW S 2000 200 9 [.one (p 4),.one (i 2)] (v313 x) [4,56,98,102,109] 378 [] [104] = some (.tup [(false,[i 0]),(false,[.bool true])],pickB (v313 x).l [104]):=by kernel_rfl
theorem rG313_2 (x:Nat→Int):callW S 2000 200 10 [.one (p 4),.one (i 2),.one (i 0)] (v313 x) [4,56,98,109] 377 [] [] = some (.one (p 104),pickB (v313 x).l []):=by kernel_rfl
theorem rD313_2 (x:Nat→Int):callW S 2000 200 11 [.one (p 104)] (v313 x) [] 377 [] [104] = some (.one (i 0),pickB (v313 x).l [104]):=by kernel_rfl
theorem rbB313_2 (x:Nat→Int):callW S 2000 200 12 [.one (p 104)] (v313 x) [102] 377 [] [104] = some (.one (i 0),pickB (v313 x).l [104]):=by kernel_rfl
theorem rL313_3 (x:Nat→Int):callW S 2000 200 9 [.one (p 4),.one (i 3)] (v313 x) [4,56,114,118,125] 378 [] [120] = some (.tup [(false,[i 0]),(false,[.bool true])],pickB (v313 x).l [120]):=by kernel_rfl
theorem rG313_3 (x:Nat→Int):callW S 2000 200 10 [.one (p 4),.one (i 3),.one (i 0)] (v313 x) [4,56,114,125] 377 [] [] = some (.one (p 120),pickB (v313 x).l []):=by kernel_rfl
theorem rD313_3 (x:Nat→Int):callW S 2000 200 11 [.one (p 120)] (v313 x) [] 377 [] [120] = some (.one (i 0),pickB (v313 x).l [120]):=by kernel_rfl
theorem rbB313_3 (x:Nat→Int):callW S 2000 200 12 [.one (p 120)] (v313 x) [118] 377 [] [120] = some (.one (i 0),pickB (v313 x).l [120]):=by kernel_rfl
theorem rR314:callW S 2000 200 7 [.agg [i 3,i 1,i 4]] ⟨0,[]⟩ [] 147 [(137,t314)] [] = some (.one (u 137 9 0 10 5),[]):=by kernel_rfl
theorem rO314:callW S 2000 200 5 [.agg [i 3,i 1,i 4]] ⟨0,[]⟩ [] 136 wO314 [] = some (.one (p 4),[]):=by kernel_rfl
theorem rU314_0:callW S 2000 200 6 [.one (p 4),.one (u 136 9 0 10 5)] j314_0 [3,4,5,26,47,54,56,71,86,93,98,102,109,114,118,125,127,129,130,132,134,136] 199 wU314_0 [] = some (.one (u 143 9 0 10 3),[]):=by kernel_rfl
theorem rU314_1:callW S 2000 200 6 [.one (p 4),.one (u 199 9 0 10 5)] j314_1 [3,4,5,26,47,54,56,71,86,93,98,102,109,114,118,125,127,129,130,132,134,199] 262 wU314_1 [] = some (.one (u 206 9 0 10 3),[]):=by kernel_rfl
theorem rU314_2:callW S 2000 200 6 [.one (p 4),.one (u 262 9 0 10 5)] j314_2 [3,4,5,26,48,54,56,71,87,93,98,103,109,114,119,125,127,129,130,132,134,262] 397 wU314_2 [] = some (.one (u 287 9 0 10 3),[]):=by kernel_rfl
theorem rU314 (x:Nat→Int):callW S 2000 200 6 [.one (p 4),.one (u 397 9 0 10 5)] (j314 x) [3,4,5,26,47,48,54,56,71,86,87,93,98,102,103,109,114,118,119,125,127,129,130,132,134,397] 464 [] [49,88,104,120] = some (.one (u 405 9 0 10 3),x314 (fun q=>stepI (x q))):=by kernel_rfl
theorem rS314 (x:Nat→Int):callW S 2000 200 8 [.one (p 4)] (v314 x) [3,4,5,26,47,54,56,71,86,93,98,102,109,114,118,125,127,129,130,132,134] 416 [] [49,88,104,120] = some (.one (.bool true),pickB (v314 x).l [49,88,104,120]):=by kernel_rfl
theorem rE314 (x:Nat→Int):callW S 2000 200 14 [.one (p 4)] (v314 x) [4] 397 [] [] = some (.one o,pickB (v314 x).l []):=by kernel_rfl
theorem rL314_0 (x:Nat→Int):callW S 2000 200 9 [.one (p 4),.one (i 0)] (v314 x) [4,26,47,54,56] 398 [] [49] = some (.tup [(false,[i 0]),(false,[.bool true])],pickB (v314 x).l [49]):=by kernel_rfl
theorem rG314_0 (x:Nat→Int):callW S 2000 200 10 [.one (p 4),.one (i 0),.one (i 0)] (v314 x) [4,26,54,56] 397 [] [] = some (.one (p 49),pickB (v314 x).l []):=by kernel_rfl
theorem rD314_0 (x:Nat→Int):callW S 2000 200 11 [.one (p 49)] (v314 x) [] 397 [] [49] = some (.one (i 0),pickB (v314 x).l [49]):=by kernel_rfl
theorem rbB314_0 (x:Nat→Int):callW S 2000 200 12 [.one (p 49)] (v314 x) [47] 397 [] [49] = some (.one (i 0),pickB (v314 x).l [49]):=by kernel_rfl
theorem rL314_1 (x:Nat→Int):callW S 2000 200 9 [.one (p 4),.one (i 1)] (v314 x) [4,56,71,86,93] 398 [] [88] = some (.tup [(false,[i 0]),(false,[.bool true])],pickB (v314 x).l [88]):=by kernel_rfl
theorem rG314_1 (x:Nat→Int):callW S 2000 200 10 [.one (p 4),.one (i 1),.one (i 0)] (v314 x) [4,56,71,93] 397 [] [] = some (.one (p 88),pickB (v314 x).l []):=by kernel_rfl
theorem rD314_1 (x:Nat→Int):callW S 2000 200 11 [.one (p 88)] (v314 x) [] 397 [] [88] = some (.one (i 0),pickB (v314 x).l [88]):=by kernel_rfl
theorem rbB314_1 (x:Nat→Int):callW S 2000 200 12 [.one (p 88)] (v314 x) [86] 397 [] [88] = some (.one (i 0),pickB (v314 x).l [88]):=by kernel_rfl
theorem rL314_2 (x:Nat→Int):callW S 2000 200 9 [.one (p 4),.one (i 2)] (v314 x) [4,56,98,102,109] 398 [] [104] = some (.tup [(false,[i 0]),(false,[.bool true])],pickB (v314 x).l [104]):=by kernel_rfl
theorem rG314_2 (x:Nat→Int):callW S 2000 200 10 [.one (p 4),.one (i 2),.one (i 0)] (v314 x) [4,56,98,109] 397 [] [] = some (.one (p 104),pickB (v314 x).l []):=by kernel_rfl
theorem rD314_2 (x:Nat→Int):callW S 2000 200 11 [.one (p 104)] (v314 x) [] 397 [] [104] = some (.one (i 0),pickB (v314 x).l [104]):=by kernel_rfl
theorem rbB314_2 (x:Nat→Int):callW S 2000 200 12 [.one (p 104)] (v314 x) [102] 397 [] [104] = some (.one (i 0),pickB (v314 x).l [104]):=by kernel_rfl
theorem rL314_3 (x:Nat→Int):callW S 2000 200 9 [.one (p 4),.one (i 3)] (v314 x) [4,56,114,118,125] 398 [] [120] = some (.tup [(false,[i 0]),(false,[.bool true])],pickB (v314 x).l [120]):=by kernel_rfl
theorem rG314_3 (x:Nat→Int):callW S 2000 200 10 [.one (p 4),.one (i 3),.one (i 0)] (v314 x) [4,56,114,125] 397 [] [] = some (.one (p 120),pickB (v314 x).l []):=by kernel_rfl
theorem rD314_3 (x:Nat→Int):callW S 2000 200 11 [.one (p 120)] (v314 x) [] 397 [] [120] = some (.one (i 0),pickB (v314 x).l [120]):=by kernel_rfl
theorem rbB314_3 (x:Nat→Int):callW S 2000 200 12 [.one (p 120)] (v314 x) [118] 397 [] [120] = some (.one (i 0),pickB (v314 x).l [120]):=by kernel_rfl
theorem rR331:callW S 2000 200 7 [.agg [i 3,i 3,i 1]] ⟨0,[]⟩ [] 274 [(259,t331)] [] = some (.one (u 259 14 0 15 5),[]):=by kernel_rfl
theorem rO331:callW S 2000 200 5 [.agg [i 3,i 3,i 1]] ⟨0,[]⟩ [] 258 wO331 [] = some (.one (p 4),[]):=by kernel_rfl
theorem rU331_0:callW S 2000 200 6 [.one (p 4),.one (u 258 14 0 15 5)] j331_0 [3,4,5,26,47,54,75,101,108,123,138,145,160,180,190,194,201,205,214,224,228,235,239,248,255,257,258] 351 wU331_0 [] = some (.one (u 265 14 0 15 3),[]):=by kernel_rfl
theorem rU331_1:callW S 2000 200 6 [.one (p 4),.one (u 351 14 0 15 5)] j331_1 [3,4,5,26,47,54,75,101,108,123,138,145,160,180,190,194,201,205,214,224,228,235,239,248,255,257,351] 444 wU331_1 [] = some (.one (u 358 14 0 15 3),[]):=by kernel_rfl
theorem rU331_2:callW S 2000 200 6 [.one (p 4),.one (u 444 14 0 15 5)] j331_2 [3,4,26,54,102,108,123,145,181,190,201,215,224,235,249,255,257,444] 1462 wU331_2 [] = some (.one (u 486 14 0 15 3),[]):=by kernel_rfl
theorem rU331 (x:Nat→Int):callW S 2000 200 6 [.one (p 4),.one (u 1462 14 0 15 5)] (j331 x) [3,4,5,26,47,49,54,75,77,101,102,108,123,138,140,145,160,162,180,181,190,194,196,201,205,207,214,215,224,228,230,235,239,241,248,249,255,257,479,1462] 1699 [] [103,182,216,250] = some (.one (u 1469 14 0 15 3),x331 (fun q=>stepI (x q))):=by kernel_rfl
theorem rS331 (x:Nat→Int):callW S 2000 200 8 [.one (p 4)] (v331 x) [3,4,5,26,47,49,54,75,77,101,108,123,138,140,145,160,162,180,190,194,196,201,205,207,214,224,228,230,235,239,241,248,255,257] 1478 [] [103,182,216,250] = some (.one (.bool true),pickB (v331 x).l [103,182,216,250]):=by kernel_rfl
theorem rE331 (x:Nat→Int):callW S 2000 200 14 [.one (p 4)] (v331 x) [4] 1462 [] [] = some (.one o,pickB (v331 x).l []):=by kernel_rfl
theorem rL331_0 (x:Nat→Int):callW S 2000 200 9 [.one (p 4),.one (i 0)] (v331 x) [4,26,49,54,77,101,108] 1463 [] [103] = some (.tup [(false,[i 2]),(false,[.bool true])],pickB (v331 x).l [103]):=by kernel_rfl
theorem rG331_0 (x:Nat→Int):callW S 2000 200 10 [.one (p 4),.one (i 0),.one (i 2)] (v331 x) [4,26,54,108] 1462 [] [] = some (.one (p 103),pickB (v331 x).l []):=by kernel_rfl
theorem rD331_0 (x:Nat→Int):callW S 2000 200 11 [.one (p 103)] (v331 x) [] 1462 [] [103] = some (.one (i 0),pickB (v331 x).l [103]):=by kernel_rfl
theorem rbB331_0 (x:Nat→Int):callW S 2000 200 12 [.one (p 103)] (v331 x) [101] 1462 [] [103] = some (.one (i 2),pickB (v331 x).l [103]):=by kernel_rfl
theorem rL331_1 (x:Nat→Int):callW S 2000 200 9 [.one (p 4),.one (i 1)] (v331 x) [4,108,123,140,145,162,180] 1463 [] [182] = some (.tup [(false,[i 2]),(false,[.bool true])],pickB (v331 x).l [182]):=by kernel_rfl
theorem rG331_1 (x:Nat→Int):callW S 2000 200 10 [.one (p 4),.one (i 1),.one (i 2)] (v331 x) [4,108,123,145] 1462 [] [] = some (.one (p 182),pickB (v331 x).l []):=by kernel_rfl
theorem rD331_1 (x:Nat→Int):callW S 2000 200 11 [.one (p 182)] (v331 x) [] 1462 [] [182] = some (.one (i 0),pickB (v331 x).l [182]):=by kernel_rfl
theorem rbB331_1 (x:Nat→Int):callW S 2000 200 12 [.one (p 182)] (v331 x) [180] 1462 [] [182] = some (.one (i 2),pickB (v331 x).l [182]):=by kernel_rfl
theorem rL331_2 (x:Nat→Int):callW S 2000 200 9 [.one (p 4),.one (i 2)] (v331 x) [4,108,190,196,201,207,214] 1463 [] [216] = some (.tup [(false,[i 2]),(false,[.bool true])],pickB (v331 x).l [216]):=by kernel_rfl
theorem rG331_2 (x:Nat→Int):callW S 2000 200 10 [.one (p 4),.one (i 2),.one (i 2)] (v331 x) [4,108,190,201] 1462 [] [] = some (.one (p 216),pickB (v331 x).l []):=by kernel_rfl
theorem rD331_2 (x:Nat→Int):callW S 2000 200 11 [.one (p 216)] (v331 x) [] 1462 [] [216] = some (.one (i 0),pickB (v331 x).l [216]):=by kernel_rfl
theorem rbB331_2 (x:Nat→Int):callW S 2000 200 12 [.one (p 216)] (v331 x) [214] 1462 [] [216] = some (.one (i 2),pickB (v331 x).l [216]):=by kernel_rfl
theorem rL331_3 (x:Nat→Int):callW S 2000 200 9 [.one (p 4),.one (i 3)] (v331 x) [4,108,224,230,235,241,248] 1463 [] [250] = some (.tup [(false,[i 2]),(false,[.bool true])],pickB (v331 x).l [250]):=by kernel_rfl
theorem rG331_3 (x:Nat→Int):callW S 2000 200 10 [.one (p 4),.one (i 3),.one (i 2)] (v331 x) [4,108,224,235] 1462 [] [] = some (.one (p 250),pickB (v331 x).l []):=by kernel_rfl
theorem rD331_3 (x:Nat→Int):callW S 2000 200 11 [.one (p 250)] (v331 x) [] 1462 [] [250] = some (.one (i 0),pickB (v331 x).l [250]):=by kernel_rfl
theorem rbB331_3 (x:Nat→Int):callW S 2000 200 12 [.one (p 250)] (v331 x) [248] 1462 [] [250] = some (.one (i 2),pickB (v331 x).l [250]):=by kernel_rfl
end Go.Proofs.YtkpmdlcmbemgdaaGreat
