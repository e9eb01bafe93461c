/- A part of a proof over the abstract machine. No conditions. -/
import Derived.Test.YtkpmdlcmbemgdaaGreatFQD
namespace Go.Proofs.YtkpmdlcmbemgdaaGreat
open Go Go.Ab Go.Fa
set_option maxRecDepth 1000000
set_option maxHeartbeats 0
theorem rR332:callW S 2000 200 7 [.agg [i 3,i 3,i 2]] ⟨0,[]⟩ [] 277 [(261,t332)] [] = some (.one (u 261 15 0 16 5),[]):=by kernel_rfl
theorem rO332:callW S 2000 200 5 [.agg [i 3,i 3,i 2]] ⟨0,[]⟩ [] 260 wO332 [] = some (.one (p 4),[]):=by kernel_rfl
theorem rU332_0:callW S 2000 200 6 [.one (p 4),.one (u 260 15 0 16 5)] j332_0 [3,4,5,26,47,54,75,101,108,123,138,145,160,180,190,194,201,205,214,224,228,235,239,248,255,257,258,260] 359 wU332_0 [] = some (.one (u 267 15 0 16 3),[]):=by kernel_rfl
theorem rU332_1:callW S 2000 200 6 [.one (p 4),.one (u 359 15 0 16 5)] j332_1 [3,4,5,26,47,54,75,101,108,123,138,145,160,180,190,194,201,205,214,224,228,235,239,248,255,257,258,359] 458 wU332_1 [] = some (.one (u 366 15 0 16 3),[]):=by kernel_rfl
theorem rU332_2:callW S 2000 200 6 [.one (p 4),.one (u 458 15 0 16 5)] j332_2 [3,4,26,54,102,108,123,145,181,190,201,215,224,235,249,255,257,258,458] 1482 wU332_2 [] = some (.one (u 500 15 0 16 3),[]):=by kernel_rfl
theorem rU332 (x:Nat→Int):callW S 2000 200 6 [.one (p 4),.one (u 1482 15 0 16 5)] (j332 x) [3,4,5,26,47,49,54,75,77,101,102,108,123,138,140,145,160,162,180,181,190,194,196,201,205,207,214,215,224,228,230,235,239,241,248,249,255,257,258,493,1482] 1725 [] [103,182,216,250] = some (.one (u 1489 15 0 16 3),x332 (fun q=>stepI (x q))):=by kernel_rfl
theorem rS332 (x:Nat→Int):callW S 2000 200 8 [.one (p 4)] (v332 x) [3,4,5,26,47,49,54,75,77,101,108,123,138,140,145,160,162,180,190,194,196,201,205,207,214,224,228,230,235,239,241,248,255,257,258] 1499 [] [103,182,216,250] = some (.one (.bool true),pickB (v332 x).l [103,182,216,250]):=by kernel_rfl
theorem rE332 (x:Nat→Int):callW S 2000 200 14 [.one (p 4)] (v332 x) [4] 1482 [] [] = some (.one o,pickB (v332 x).l []):=by kernel_rfl
theorem rL332_0 (x:Nat→Int):callW S 2000 200 9 [.one (p 4),.one (i 0)] (v332 x) [4,26,49,54,77,101,108] 1483 [] [103] = some (.tup [(false,[i 2]),(false,[.bool true])],pickB (v332 x).l [103]):=by kernel_rfl
theorem rG332_0 (x:Nat→Int):callW S 2000 200 10 [.one (p 4),.one (i 0),.one (i 2)] (v332 x) [4,26,54,108] 1482 [] [] = some (.one (p 103),pickB (v332 x).l []):=by kernel_rfl
theorem rD332_0 (x:Nat→Int):callW S 2000 200 11 [.one (p 103)] (v332 x) [] 1482 [] [103] = some (.one (i 0),pickB (v332 x).l [103]):=by kernel_rfl
theorem rbB332_0 (x:Nat→Int):callW S 2000 200 12 [.one (p 103)] (v332 x) [101] 1482 [] [103] = some (.one (i 2),pickB (v332 x).l [103]):=by kernel_rfl
theorem rL332_1 (x:Nat→Int):callW S 2000 200 9 [.one (p 4),.one (i 1)] (v332 x) [4,108,123,140,145,162,180] 1483 [] [182] = some (.tup [(false,[i 2]),(false,[.bool true])],pickB (v332 x).l [182]):=by kernel_rfl
theorem rG332_1 (x:Nat→Int):callW S 2000 200 10 [.one (p 4),.one (i 1),.one (i 2)] (v332 x) [4,108,123,145] 1482 [] [] = some (.one (p 182),pickB (v332 x).l []):=by kernel_rfl
theorem rD332_1 (x:Nat→Int):callW S 2000 200 11 [.one (p 182)] (v332 x) [] 1482 [] [182] = some (.one (i 0),pickB (v332 x).l [182]):=by kernel_rfl
theorem rbB332_1 (x:Nat→Int):callW S 2000 200 12 [.one (p 182)] (v332 x) [180] 1482 [] [182] = some (.one (i 2),pickB (v332 x).l [182]):=by kernel_rfl
theorem rL332_2 (x:Nat→Int):callW S 2000 200 9 [.one (p 4),.one (i 2)] (v332 x) [4,108,190,196,201,207,214] 1483 [] [216] = some (.tup [(false,[i 2]),(false,[.bool true])],pickB (v332 x).l [216]):=by kernel_rfl
theorem rG332_2 (x:Nat→Int):callW S 2000 200 10 [.one (p 4),.one (i 2),.one (i 2)] (v332 x) [4,108,190,201] 1482 [] [] = some (.one (p 216),pickB (v332 x).l []):=by kernel_rfl
theorem rD332_2 (x:Nat→Int):callW S 2000 200 11 [.one (p 216)] (v332 x) [] 1482 [] [216] = some (.one (i 0),pickB (v332 x).l [216]):=by kernel_rfl
theorem rbB332_2 (x:Nat→Int):callW S 2000 200 12 [.one (p 216)] (v332 x) [214] 1482 [] [216] = some (.one (i 2),pickB (v332 x).l [216]):=by kernel_rfl
theorem rL332_3 (x:Nat→Int):callW S 2000 200 9 [.one (p 4),.one (i 3)] (v332 x) [4,108,224,230,235,241,248] 1483 [] [250] = some (.tup [(false,[i 2]),(false,[.bool true])],pickB (v332 x).l [250]):=by kernel_rfl
theorem rG332_3 (x:Nat→Int):callW S 2000 200 10 [.one (p 4),.one (i 3),.one (i 2)] (v332 x) [4,108,224,235] 1482 [] [] = some (.one (p 250),pickB (v332 x).l []):=by kernel_rfl
theorem rD332_3 (x:Nat→Int):callW S 2000 200 11 [.one (p 250)] (v332 x) [] 1482 [] [250] = some (.one (i 0),pickB (v332 x).l [250]):=by kernel_rfl
theorem rbB332_3 (x:Nat→Int):callW S 2000 200 12 [.one (p 250)] (v332 x) [248] 1482 [] [250] = some (.one (i 2),pickB (v332 x).l [250]):=by kernel_rfl
theorem rR333:callW S 2000 200 7 [.agg [i 3,i 3,i 3]] ⟨0,[]⟩ [] 280 [(263,t333)] [] = some (.one (u 263 16 0 17 5),[]):=by kernel_rfl
theorem rO333:callW S 2000 200 5 [.agg [i 3,i 3,i 3]] ⟨0,[]⟩ [] 262 wO333 [] = some (.one (p 4),[]):=by kernel_rfl
theorem rU333_0:callW S 2000 200 6 [.one (p 4),.one (u 262 16 0 17 5)] j333_0 [3,4,5,26,47,54,75,101,108,123,138,145,160,180,190,194,201,205,214,224,228,235,239,248,255,257,258,260,262] 367 wU333_0 [] = some (.one (u 269 16 0 17 3),[]):=by kernel_rfl
theorem rU333_1:callW S 2000 200 6 [.one (p 4),.one (u 367 16 0 17 5)] j333_1 [3,4,5,26,47,54,75,101,108,123,138,145,160,180,190,194,201,205,214,224,228,235,239,248,255,257,258,260,367] 472 wU333_1 [] = some (.one (u 374 16 0 17 3),[]):=by kernel_rfl
theorem rU333_2:callW S 2000 200 6 [.one (p 4),.one (u 472 16 0 17 5)] j333_2 [3,4,26,54,102,108,123,145,181,190,201,215,224,235,249,255,257,258,260,472] 1502 wU333_2 [] = some (.one (u 514 16 0 17 3),[]):=by kernel_rfl
theorem rU333 (x:Nat→Int):callW S 2000 200 6 [.one (p 4),.one (u 1502 16 0 17 5)] (j333 x) [3,4,5,26,47,49,54,75,77,101,102,108,123,138,140,145,160,162,180,181,190,194,196,201,205,207,214,215,224,228,230,235,239,241,248,249,255,257,258,260,507,1502] 1751 [] [103,182,216,250] = some (.one (u 1509 16 0 17 3),x333 (fun q=>stepI (x q))):=by kernel_rfl
theorem rS333 (x:Nat→Int):callW S 2000 200 8 [.one (p 4)] (v333 x) [3,4,5,26,47,49,54,75,77,101,108,123,138,140,145,160,162,180,190,194,196,201,205,207,214,224,228,230,235,239,241,248,255,257,258,260] 1520 [] [103,182,216,250] = some (.one (.bool true),pickB (v333 x).l [103,182,216,250]):=by kernel_rfl
theorem rE333 (x:Nat→Int):callW S 2000 200 14 [.one (p 4)] (v333 x) [4] 1502 [] [] = some (.one o,pickB (v333 x).l []):=by kernel_rfl
theorem rL333_0 (x:Nat→Int):callW S 2000 200 9 [.one (p 4),.one (i 0)] (v333 x) [4,26,49,54,77,101,108] 1503 [] [103] = some (.tup [(false,[i 2]),(false,[.bool true])],pickB (v333 x).l [103]):=by kernel_rfl
theorem rG333_0 (x:Nat→Int):callW S 2000 200 10 [.one (p 4),.one (i 0),.one (i 2)] (v333 x) [4,26,54,108] 1502 [] [] = some (.one (p 103),pickB (v333 x).l []):=by kernel_rfl
theorem rD333_0 (x:Nat→Int):callW S 2000 200 11 [.one (p 103)] (v333 x) [] 1502 [] [103] = some (.one (i 0),pickB (v333 x).l [103]):=by kernel_rfl
theorem rbB333_0 (x:Nat→Int):callW S 2000 200 12 [.one (p 103)] (v333 x) [101] 1502 [] [103] = some (.one (i 2),pickB (v333 x).l [103]):=by kernel_rfl
theorem rL333_1 (x:Nat→Int):callW S 2000 200 9 [.one (p 4),.one (i 1)] (v333 x) [4,108,123,140,145,162,180] 1503 [] [182] = some (.tup [(false,[i 2]),(false,[.bool true])],pickB (v333 x).l [182]):=by kernel_rfl
theorem rG333_1 (x:Nat→Int):callW S 2000 200 10 [.one (p 4),.one (i 1),.one (i 2)] (v333 x) [4,108,123,145] 1502 [] [] = some (.one (p 182),pickB (v333 x).l []):=by kernel_rfl
theorem rD333_1 (x:Nat→Int):callW S 2000 200 11 [.one (p 182)] (v333 x) [] 1502 [] [182] = some (.one (i 0),pickB (v333 x).l [182]):=by kernel_rfl
theorem rbB333_1 (x:Nat→Int):callW S 2000 200 12 [.one (p 182)] (v333 x) [180] 1502 [] [182] = some (.one (i 2),pickB (v333 x).l [182]):=by kernel_rfl
theorem rL333_2 (x:Nat→Int):callW S 2000 200 9 [.one (p 4),.one (i 2)] (v333 x) [4,108,190,196,201,207,214] 1503 [] [216] = some (.tup [(false,[i 2]),(false,[.bool true])],pickB (v333 x).l [216]):=by kernel_rfl
theorem rG333_2 (x:Nat→Int):callW S 2000 200 10 [.one (p 4),.one (i 2),.one (i 2)] (v333 x) [4,108,190,201] 1502 [] [] = some (.one (p 216),pickB (v333 x).l []):=by kernel_rfl
theorem rD333_2 (x:Nat→Int):callW S 2000 200 11 [.one (p 216)] (v333 x) [] 1502 [] [216] = some (.one (i 0),pickB (v333 x).l [216]):=by kernel_rfl
theorem rbB333_2 (x:Nat→Int):callW S 2000 200 12 [.one (p 216)] (v333 x) [214] 1502 [] [216] = some (.one (i 2),pickB (v333 x).l [216]):=by kernel_rfl
theorem rL333_3 (x:Nat→Int):callW S 2000 200 9 [.one (p 4),.one (i 3)] (v333 x) [4,108,224,230,235,241,248] 1503 [] [250] = some (.tup [(false,[i 2]),(false,[.bool true])],pickB (v333 x).l [250]):=by kernel_rfl
theorem rG333_3 (x:Nat→Int):callW S 2000 200 10 [.one (p 4),.one (i 3),.one (i 2)] (v333 x) [4,108,224,235] 1502 [] [] = some (.one (p 250),pickB (v333 x).l []):=by kernel_rfl
theorem rD333_3 (x:Nat→Int):callW S 2000 200 11 [.one (p 250)] (v333 x) [] 1502 [] [250] = some (.one (i 0),pickB (v333 x).l [250]):=by kernel_rfl
theorem rbB333_3 (x:Nat→Int):callW S 2000 200 12 [.one (p 250)] (v333 x) [248] 1502 [] [250] = some (.one (i 2),pickB (v333 x).l [250]):=by kernel_rfl
theorem rR334:callW S 2000 200 7 [.agg [i 3,i 3,i 4]] ⟨0,[]⟩ [] 283 [(265,t334)] [] = some (.one (u 265 17 0 18 5),[]):=by kernel_rfl
theorem rO334:callW S 2000 200 5 [.agg [i 3,i 3,i 4]] ⟨0,[]⟩ [] 264 wO334 [] = some (.one (p 4),[]):=by kernel_rfl
theorem rU334_0:callW S 2000 200 6 [.one (p 4),.one (u 264 17 0 18 5)] j334_0 [3,4,5,26,47,54,75,101,108,123,138,145,160,180,190,194,201,205,214,224,228,235,239,248,255,257,258,260,262,264] 375 wU334_0 [] = some (.one (u 271 17 0 18 3),[]):=by kernel_rfl
theorem rU334_1:callW S 2000 200 6 [.one (p 4),.one (u 375 17 0 18 5)] j334_1 [3,4,5,26,47,54,75,101,108,123,138,145,160,180,190,194,201,205,214,224,228,235,239,248,255,257,258,260,262,375] 486 wU334_1 [] = some (.one (u 382 17 0 18 3),[]):=by kernel_rfl
theorem rU334_2:callW S 2000 200 6 [.one (p 4),.one (u 486 17 0 18 5)] j334_2 [3,4,26,54,102,108,123,145,181,190,201,215,224,235,249,255,257,258,260,262,486] 1522 wU334_2 [] = some (.one (u 528 17 0 18 3),[]):=by kernel_rfl
theorem rU334 (x:Nat→Int):callW S 2000 200 6 [.one (p 4),.one (u 1522 17 0 18 5)] (j334 x) [3,4,5,26,47,49,54,75,77,101,102,108,123,138,140,145,160,162,180,181,190,194,196,201,205,207,214,215,224,228,230,235,239,241,248,249,255,257,258,260,262,521,1522] 1777 [] [103,182,216,250] = some (.one (u 1529 17 0 18 3),x334 (fun q=>stepI (x q))):=by kernel_rfl
theorem rS334 (x:Nat→Int):callW S 2000 200 8 [.one (p 4)] (v334 x) [3,4,5,26,47,49,54,75,77,101,108,123,138,140,145,160,162,180,190,194,196,201,205,207,214,224,228,230,235,239,241,248,255,257,258,260,262] 1541 [] [103,182,216,250] = some (.one (.bool true),pickB (v334 x).l [103,182,216,250]):=by kernel_rfl
theorem rE334 (x:Nat→Int):callW S 2000 200 14 [.one (p 4)] (v334 x) [4] 1522 [] [] = some (.one o,pickB (v334 x).l []):=by kernel_rfl
theorem rL334_0 (x:Nat→Int):callW S 2000 200 9 [.one (p 4),.one (i 0)] (v334 x) [4,26,49,54,77,101,108] 1523 [] [103] = some (.tup [(false,[i 2]),(false,[.bool true])],pickB (v334 x).l [103]):=by kernel_rfl
theorem rG334_0 (x:Nat→Int):callW S 2000 200 10 [.one (p 4),.one (i 0),.one (i 2)] (v334 x) [4,26,54,108] 1522 [] [] = some (.one (p 103),pickB (v334 x).l []):=by kernel_rfl
theorem rD334_0 (x:Nat→Int):callW S 2000 200 11 [.one (p 103)] (v334 x) [] 1522 [] [103] = some (.one (i 0),pickB (v334 x).l [103]):=by kernel_rfl
theorem rbB334_0 (x:Nat→Int):callW S 2000 200 12 [.one (p 103)] (v334 x) [101] 1522 [] [103] = some (.one (i 2),pickB (v334 x).l [103]):=by kernel_rfl
theorem rL334_1 (x:Nat→Int):callW S 2000 200 9 [.one (p 4),.one (i 1)] (v334 x) [4,108,123,140,145,162,180] 1523 [] [182] = some (.tup [(false,[i 2]),(false,[.bool true])],pickB (v334 x).l [182]):=by kernel_rfl
theorem rG334_1 (x:Nat→Int):callW S 2000 200 10 [.one (p 4),.one (i 1),.one (i 2)] (v334 x) [4,108,123,145] 1522 [] [] = some (.one (p 182),pickB (v334 x).l []):=by kernel_rfl
theorem rD334_1 (x:Nat→Int):callW S 2000 200 11 [.one (p 182)] (v334 x) [] 1522 [] [182] = some (.one (i 0),pickB (v334 x).l [182]):=by kernel_rfl
theorem rbB334_1 (x:Nat→Int):callW S 2000 200 12 [.one (p 182)] (v334 x) [180] 1522 [] [182] = some (.one (i 2),pickB (v334 x).l [182]):=by kernel_rfl
theorem rL334_2 (x:Nat→Int):callW S 2000 200 9 [.one (p 4),.one (i 2)] (v334 x) [4,108,190,196,201,207,214] 1523 [] [216] = some (.tup [(false,[i 2]),(false,[.bool true])],pickB (v334 x).l [216]):=by kernel_rfl
theorem rG334_2 (x:Nat→Int):callW S 2000 200 10 [.one (p 4),.one (i 2),.one (i 2)] (v334 x) [4,108,190,201] 1522 [] [] = some (.one (p 216),pickB (v334 x).l []):=by kernel_rfl
theorem rD334_2 (x:Nat→Int):callW S 2000 200 11 [.one (p 216)] (v334 x) [] 1522 [] [216] = some (.one (i 0),pickB (v334 x).l [216]):=by kernel_rfl
theorem rbB334_2 (x:Nat→Int):callW S 2000 200 12 [.one (p 216)] (v334 x) [214] 1522 [] [216] = some (.one (i 2),pickB (v334 x).l [216]):=by kernel_rfl
theorem rL334_3 (x:Nat→Int):callW S 2000 200 9 [.one (p 4),.one (i 3)] (v334 x) [4,108,224,230,235,241,248] 1523 [] [250] = some (.tup [(false,[i 2]),(false,[.bool true])],pickB (v334 x).l [250]):=by kernel_rfl
theorem rG334_3 (x:Nat→Int):callW S 2000 200 10 [.one (p 4),.one (i 3),.one (i 2)] (v334 x) [4,108,224,235] 1522 [] [] = some (.one (p 250),pickB (v334 x).l []):=by kernel_rfl
theorem rD334_3 (x:Nat→Int):callW S 2000 200 11 [.one (p 250)] (v334 x) [] 1522 [] [250] = some (.one (i 0),pickB (v334 x).l [250]):=by kernel_rfl
theorem rbB334_3 (x:Nat→Int):callW S 2000 200 12 [.one (p 250)] (v334 x) [248] 1522 [] [250] = some (.one (i 2),pickB (v334 x).l [250]):=by kernel_rfl
end Go.Proofs.YtkpmdlcmbemgdaaGreat
